import Derived.Test.YthfinhmkgdmelaaT2
import Derived.Test.YthfinhmkgdmelaaE2
set_option linter.unusedVariables false
set_option linter.unusedSimpArgs false
namespace Go.Proofs.Ythfinhmkgdmelaa.AE
open Go Go.AE Go.Proofs
set_option linter.unusedVariables false
set_option maxHeartbeats 4000000
set_option maxRecDepth 100000
def bB.Q (H0:Hp) (Ri R0:List Rs)  (r:Int) (v:AV) (H':Hp):Prop:=v = (.int .i64 r)∧Out H0 Ri H' (R0) fun R=>True
def bB.p (F:Nat) (ad:List (Int×Int×Int×Int×Int)) (ai:Int):Option (Int):=(bif (decide ((IntKind.i64.wrap (ai - (ad.length:Int))) < 0)) then (some (-1)) else (some (IntKind.i64.wrap (ai - (ad.length:Int)))))
theorem bB.P {F:Nat} {ax:ON} {aq:Nat} {ay:Cap} {ad:List (Int×Int×Int×Int×Int)} {ai:Int} {H:Hp} {R0:List Rs} (bb:aq = ad.length) (h0:Inn H R0 fun R=>ROs (ePair (eInt .i64) (ePair (eInt .i64) (ePair (eInt .i64) (ePair (eInt .i64) (eInt .i64))))) H R ⟨ax,aq,ay⟩ ad) {r:Int} (hp:bB.p F ad ai = some r):∃ v H',bB.tw F ⟨ax,aq,ay⟩ ai H = some (v,H')∧bB.Q H R0 R0  r v H':=by
 obtain ⟨w0,aP⟩:=h0
 subst bb
 unfold bB.p at hp
 unfold bB.tw bB.twX
 have s0:=w0.rf
 refine bif_ex (fun hb=>?_) (fun hb=>?_)
 ·replace hp:=bif_t hb hp
  obtain rfl:=Option.some.inj hp
  exact ⟨_,_,rfl,rfl,w0,s0,trivial⟩
 ·replace hp:=bif_f hb hp
  obtain rfl:=Option.some.inj hp
  exact ⟨_,_,rfl,rfl,w0,s0,trivial⟩
def bt.Q (H0:Hp) (Ri R0:List Rs)  (r:Int) (v:AV) (H':Hp):Prop:=v = (.int .i64 r)∧Out H0 Ri H' (R0) fun R=>True
def bt.p (F:Nat) (ad:List (Int×Int×Int×Int×Int)) (ae:Int):Option (Int):=(bB.p F ad ae).bind fun r2=>(bif (decide (r2 < 0)) then (some (-1)) else (some r2))
theorem bt.P {F:Nat} {ax:ON} {aq:Nat} {ay:Cap} {ad:List (Int×Int×Int×Int×Int)} {ab ae:Int} {H:Hp} {R0:List Rs} (bb:aq = ad.length) (h0:Inn H R0 fun R=>ROs (ePair (eInt .i64) (ePair (eInt .i64) (ePair (eInt .i64) (ePair (eInt .i64) (eInt .i64))))) H R ⟨ax,aq,ay⟩ ad) {r:Int} (hp:bt.p F ad ae = some r):∃ v H',bt.tw F ⟨ax,aq,ay⟩ ab ae H = some (v,H')∧bt.Q H R0 R0  r v H':=by
 obtain ⟨w0,aP⟩:=h0
 subst bb
 unfold bt.p at hp
 unfold bt.tw bt.twX
 have s0:=w0.rf
 refine new_k w0 fun H1 w1 s1=>?_
 refine bind_ex (ldSl_of (w1.ld (i:=0) rfl rfl)) ?_
 obtain ⟨r2,e2,hp⟩:=bind_some' hp
 refine call_ex (bB.P rfl ⟨w1,(aP.step s1)⟩ e2) ?_
 rintro _ H3 ⟨rfl,w3,s3,_⟩
 refine bind_ex rfl ?_
 refine bif_ex (fun hb=>?_) (fun hb=>?_)
 ·replace hp:=bif_t hb hp
  obtain ⟨w4,s4⟩:=w3.pick' [] 1 rfl rfl rfl
  dsimp only [pk,pks,nth,List.drop] at w4 s4
  obtain rfl:=Option.some.inj hp
  exact ⟨_,_,rfl,rfl,w4,(s0.trans (s1.trans (s3.trans s4))),trivial⟩
 ·replace hp:=bif_f hb hp
  obtain ⟨w5,s5⟩:=w3.pick' [] 1 rfl rfl rfl
  dsimp only [pk,pks,nth,List.drop] at w5 s5
  obtain rfl:=Option.some.inj hp
  exact ⟨_,_,rfl,rfl,w5,(s0.trans (s1.trans (s3.trans s5))),trivial⟩
def bC.Q (H0:Hp) (Ri R0:List Rs)  (r:Int×Int×Int×Int×Int) (v:AV) (H':Hp):Prop:=v = (.agg [(.int .i64 r.1),(.int .i64 r.2.1),(.int .i64 r.2.2.1),(.int .i64 r.2.2.2.1),(.int .i64 r.2.2.2.2)])∧Out H0 Ri H' (R0) fun R=>True
def bC.p (F:Nat) (aa:Int) (ab:Int) (aA:Int) (aB:Int) (az:Int):Option (Int×Int×Int×Int×Int):=some (aa,ab,aA,aB,az)
theorem bC.P {F:Nat} {aa ab aA aB az:Int} {H:Hp} {R0:List Rs}  (h0:Inn H R0 fun R=>True) {r:Int×Int×Int×Int×Int} (hp:bC.p F aa ab aA aB az = some r):∃ v H',bC.tw F aa ab aA aB az H = some (v,H')∧bC.Q H R0 R0  r v H':=by
 obtain ⟨w0,_⟩:=h0
 unfold bC.p at hp
 unfold bC.tw bC.twX
 have s0:=w0.rf
 refine new_k w0 fun H1 w1 s1=>?_
 refine new_k w1 fun H2 w2 s2=>?_
 refine new_k w2 fun H3 w3 s3=>?_
 refine bind_ex (ldI_of (w3.ld (i:=2) rfl rfl)) ?_
 refine st_k w3 (i:=0) rfl rfl rfl fun H4 w4 s4=>?_
 dsimp only [List.set] at w4 s4
 refine bind_ex (ldI_of (w4.ld (i:=2) rfl rfl)) ?_
 refine st_k w4 (i:=0) rfl rfl rfl fun H5 w5 s5=>?_
 dsimp only [List.set] at w5 s5
 refine bind_ex (ldI_of (w5.ld (i:=2) rfl rfl)) ?_
 refine st_k w5 (i:=0) rfl rfl rfl fun H6 w6 s6=>?_
 dsimp only [List.set] at w6 s6
 refine bind_ex (ldI_of (w6.ld (i:=2) rfl rfl)) ?_
 refine st_k w6 (i:=0) rfl rfl rfl fun H7 w7 s7=>?_
 dsimp only [List.set] at w7 s7
 refine bind_ex (ldI_of (w7.ld (i:=2) rfl rfl)) ?_
 refine st_k w7 (i:=0) rfl rfl rfl fun H8 w8 s8=>?_
 dsimp only [List.set] at w8 s8
 refine bind_ex (ldI_of (w8.ld (i:=0) rfl rfl)) ?_
 refine bind_ex (ldI_of (w8.ld (i:=0) rfl rfl)) ?_
 refine bind_ex (ldI_of (w8.ld (i:=0) rfl rfl)) ?_
 refine bind_ex (ldI_of (w8.ld (i:=0) rfl rfl)) ?_
 refine bind_ex (ldI_of (w8.ld (i:=0) rfl rfl)) ?_
 refine st_k w8 (i:=1) rfl rfl rfl fun H9 w9 s9=>?_
 dsimp only [List.set] at w9 s9
 refine st_k w9 (i:=1) rfl rfl rfl fun H10 w10 s10=>?_
 dsimp only [List.set] at w10 s10
 refine st_k w10 (i:=1) rfl rfl rfl fun H11 w11 s11=>?_
 dsimp only [List.set] at w11 s11
 refine st_k w11 (i:=1) rfl rfl rfl fun H12 w12 s12=>?_
 dsimp only [List.set] at w12 s12
 refine st_k w12 (i:=1) rfl rfl rfl fun H13 w13 s13=>?_
 dsimp only [List.set] at w13 s13
 refine bind_ex (ldI_of (w13.ld (i:=1) rfl rfl)) ?_
 refine bind_ex (ldI_of (w13.ld (i:=1) rfl rfl)) ?_
 refine bind_ex (ldI_of (w13.ld (i:=1) rfl rfl)) ?_
 refine bind_ex (ldI_of (w13.ld (i:=1) rfl rfl)) ?_
 refine bind_ex (ldI_of (w13.ld (i:=1) rfl rfl)) ?_
 obtain ⟨w14,s14⟩:=w13.pick' [] 3 rfl rfl rfl
 dsimp only [pk,pks,nth,List.drop] at w14 s14
 obtain rfl:=Option.some.inj hp
 exact ⟨_,_,rfl,rfl,w14,(s0.trans (s1.trans (s2.trans (s3.trans (s4.trans (s5.trans (s6.trans (s7.trans (s8.trans (s9.trans (s10.trans (s11.trans (s12.trans (s13.trans s14)))))))))))))),trivial⟩
def aT.Q (H0:Hp) (Ri R0:List Rs)  (r:(List (Int×Int×Int×Int×Int))) (v:AV) (H':Hp):Prop:=∃ o0a:ON,∃ o0n:Nat,∃ o0c:Cap,∃ o0k:List AV,v = (.sl ⟨o0a,o0n,o0c⟩)∧o0n = (r).length∧Out H0 Ri H' (Rs.own ⟨o0a,o0n,o0c⟩ (ePair (eInt .i64) (ePair (eInt .i64) (ePair (eInt .i64) (ePair (eInt .i64) (eInt .i64))))).z o0k :: R0) fun R=>CR (ePair (eInt .i64) (ePair (eInt .i64) (ePair (eInt .i64) (ePair (eInt .i64) (eInt .i64))))) H' R o0k (r)
def aT.S29 (H0:Hp) (Ri R0:List Rs)  (C:Sl→Sl→Int→Hp→OA) (pC:List (Int×Int×Int×Int×Int)→List (Int×Int×Int×Int×Int)→Int→Option ((List (Int×Int×Int×Int×Int)))):Prop:=∀ {iO pS:ON} {im lT:Nat} {iQ pT:Cap} {cw gC:List (Int×Int×Int×Int×Int)} {pU:List AV} {dH:Int},∀ {H:Hp},im = cw.length→lT = gC.length→(Out H0 Ri H (Rs.own ⟨pS,lT,pT⟩ (ePair (eInt .i64) (ePair (eInt .i64) (ePair (eInt .i64) (ePair (eInt .i64) (eInt .i64))))).z pU :: R0) fun R=>ROs (ePair (eInt .i64) (ePair (eInt .i64) (ePair (eInt .i64) (ePair (eInt .i64) (eInt .i64))))) H R ⟨iO,im,iQ⟩ cw∧CR (ePair (eInt .i64) (ePair (eInt .i64) (ePair (eInt .i64) (ePair (eInt .i64) (eInt .i64))))) H R pU gC)→∀ {r:(List (Int×Int×Int×Int×Int))},pC cw gC dH = some r→∃ v H',C ⟨iO,im,iQ⟩ ⟨pS,lT,pT⟩ dH H = some (v,H')∧aT.Q H0 Ri R0  r v H'
def aT.pl29 (F:Nat) :Nat→List (Int×Int×Int×Int×Int)→List (Int×Int×Int×Int×Int)→Int→Option ((List (Int×Int×Int×Int×Int)))
 | 0,_,_,_=>none
 | k + 1,cw,gC,dH=>(bif (decide (dH < (cw.length:Int))) then ((ix cw dH).bind fun n1=>(bC.p F ((gt cw n1).1) ((gt cw n1).2.1) ((gt cw n1).2.2.1) ((gt cw n1).2.2.2.1) ((gt cw n1).2.2.2.2)).bind fun r2=>(ix gC dH).bind fun n4=>(some (gC.set n4 (r2.1,(gt gC n4).2.1,(gt gC n4).2.2.1,(gt gC n4).2.2.2.1,(gt gC n4).2.2.2.2))).bind fun l5=>(some (l5.set n4 ((gt l5 n4).1,r2.2.1,(gt l5 n4).2.2.1,(gt l5 n4).2.2.2.1,(gt l5 n4).2.2.2.2))).bind fun l7=>(some (l7.set n4 ((gt l7 n4).1,(gt l7 n4).2.1,r2.2.2.1,(gt l7 n4).2.2.2.1,(gt l7 n4).2.2.2.2))).bind fun l9=>(some (l9.set n4 ((gt l9 n4).1,(gt l9 n4).2.1,(gt l9 n4).2.2.1,r2.2.2.2.1,(gt l9 n4).2.2.2.2))).bind fun l11=>(some (l11.set n4 ((gt l11 n4).1,(gt l11 n4).2.1,(gt l11 n4).2.2.1,(gt l11 n4).2.2.2.1,r2.2.2.2.2))).bind fun l13=>aT.pl29 F k cw l13 (IntKind.i64.wrap (dH + 1))) else (some gC))
termination_by structural n=>n
theorem aT.l29_P {F:Nat} {H0:Hp} {Ri R0:List Rs}  :∀ k,aT.S29 H0 Ri R0  (aT.l29 F (bC.tw F)  k) (aT.pl29 F  k):=by
 intro k
 induction k with
 | zero=>
  intro iO pS im lT iQ pT cw gC pU dH H lU xN h0 r hp
  exact nomatch (show (none:Option ((List (Int×Int×Int×Int×Int)))) = some r from hp)
 | succ k ih=>
  intro iO pS im lT iQ pT cw gC pU dH H lU xN h0 r hp
  obtain ⟨w0,s0,lV,uS⟩:=h0
  subst lU
  subst xN
  unfold aT.pl29 at hp
  unfold aT.l29
  refine bif_ex (fun hb=>?_) (fun hb=>?_)
  ·replace hp:=bif_t hb hp
   obtain ⟨n1,g1,hp⟩:=bind_some' hp
   obtain ⟨p1,q1,i1,h1,j1⟩:=ROs.ixr lV rfl g1
   refine bind_ex i1 ?_
   obtain ⟨_,_,rfl,rfl,_,_,rfl,rfl,_,_,rfl,rfl,_,_,rfl,rfl,rfl⟩:=h1
   refine bind_ex (ldI_of (j1 0 _ rfl)) ?_
   refine bind_ex (ldI_of (j1 1 _ rfl)) ?_
   refine bind_ex (ldI_of (j1 2 _ rfl)) ?_
   refine bind_ex (ldI_of (j1 3 _ rfl)) ?_
   refine bind_ex (ldI_of (j1 4 _ rfl)) ?_
   obtain ⟨r2,e2,hp⟩:=bind_some' hp
   refine call_ex (bC.P ⟨w0,trivial⟩ e2) ?_
   rintro _ H3 ⟨rfl,w3,s3,_⟩
   refine bind_ex rfl ?_
   refine bind_ex rfl ?_
   refine bind_ex rfl ?_
   refine bind_ex rfl ?_
   refine bind_ex rfl ?_
   refine bind_ex rfl ?_
   refine bind_ex rfl ?_
   refine bind_ex rfl ?_
   refine bind_ex rfl ?_
   refine bind_ex rfl ?_
   refine bind_ex rfl ?_
   obtain ⟨n4,g4,hp⟩:=bind_some' hp
   obtain ⟨p4,q4,i4,h4,j4⟩:=W.ixo (E:=(ePair (eInt .i64) (ePair (eInt .i64) (ePair (eInt .i64) (ePair (eInt .i64) (eInt .i64)))))) w3 (i:=0) rfl rfl (uS.step s3) g4
   refine bind_ex i4 ?_
   obtain ⟨l5,e5,hp⟩:=bind_some' hp
   refine sto_k (ePair (eInt .i64) (ePair (eInt .i64) (ePair (eInt .i64) (ePair (eInt .i64) (eInt .i64))))) w3 (i:=0) (j:=0) (p:=p4) rfl rfl (uS.step s3) g4 i4 e5 rfl rfl (fun _ h=>by obtain ⟨_,_,rfl,rfl,_,_,rfl,rfl,_,_,rfl,rfl,_,_,rfl,rfl,rfl⟩:=h; exact ⟨[_],_,rfl,rfl,[_],_,rfl,rfl,[_],_,rfl,rfl,[_],_,rfl,rfl,rfl⟩) fun H6 k6 w6 s6 c6=>?_
   dsimp only [List.set] at w6 s6 c6
   obtain ⟨l7,e7,hp⟩:=bind_some' hp
   refine sto_k (ePair (eInt .i64) (ePair (eInt .i64) (ePair (eInt .i64) (ePair (eInt .i64) (eInt .i64))))) w6 (i:=0) (j:=1) (p:=p4) rfl rfl c6 (ix_len g4 (st_len e5)) i4 e7 rfl rfl (fun _ h=>by obtain ⟨_,_,rfl,rfl,_,_,rfl,rfl,_,_,rfl,rfl,_,_,rfl,rfl,rfl⟩:=h; exact ⟨[_],_,rfl,rfl,[_],_,rfl,rfl,[_],_,rfl,rfl,[_],_,rfl,rfl,rfl⟩) fun H8 k8 w8 s8 c8=>?_
   dsimp only [List.set] at w8 s8 c8
   obtain ⟨l9,e9,hp⟩:=bind_some' hp
   refine sto_k (ePair (eInt .i64) (ePair (eInt .i64) (ePair (eInt .i64) (ePair (eInt .i64) (eInt .i64))))) w8 (i:=0) (j:=2) (p:=p4) rfl rfl c8 (ix_len g4 ((st_len e7).trans (st_len e5))) i4 e9 rfl rfl (fun _ h=>by obtain ⟨_,_,rfl,rfl,_,_,rfl,rfl,_,_,rfl,rfl,_,_,rfl,rfl,rfl⟩:=h; exact ⟨[_],_,rfl,rfl,[_],_,rfl,rfl,[_],_,rfl,rfl,[_],_,rfl,rfl,rfl⟩) fun H10 k10 w10 s10 c10=>?_
   dsimp only [List.set] at w10 s10 c10
   obtain ⟨l11,e11,hp⟩:=bind_some' hp
   refine sto_k (ePair (eInt .i64) (ePair (eInt .i64) (ePair (eInt .i64) (ePair (eInt .i64) (eInt .i64))))) w10 (i:=0) (j:=3) (p:=p4) rfl rfl c10 (ix_len g4 (((st_len e9).trans (st_len e7)).trans (st_len e5))) i4 e11 rfl rfl (fun _ h=>by obtain ⟨_,_,rfl,rfl,_,_,rfl,rfl,_,_,rfl,rfl,_,_,rfl,rfl,rfl⟩:=h; exact ⟨[_],_,rfl,rfl,[_],_,rfl,rfl,[_],_,rfl,rfl,[_],_,rfl,rfl,rfl⟩) fun H12 k12 w12 s12 c12=>?_
   dsimp only [List.set] at w12 s12 c12
   obtain ⟨l13,e13,hp⟩:=bind_some' hp
   refine sto_k (ePair (eInt .i64) (ePair (eInt .i64) (ePair (eInt .i64) (ePair (eInt .i64) (eInt .i64))))) w12 (i:=0) (j:=4) (p:=p4) rfl rfl c12 (ix_len g4 ((((st_len e11).trans (st_len e9)).trans (st_len e7)).trans (st_len e5))) i4 e13 rfl rfl (fun _ h=>by obtain ⟨_,_,rfl,rfl,_,_,rfl,rfl,_,_,rfl,rfl,_,_,rfl,rfl,rfl⟩:=h; exact ⟨[_],_,rfl,rfl,[_],_,rfl,rfl,[_],_,rfl,rfl,[_],_,rfl,rfl,rfl⟩) fun H14 k14 w14 s14 c14=>?_
   dsimp only [List.set] at w14 s14 c14
   exact ih rfl (((((st_len e5).symm.trans (st_len e7).symm).trans (st_len e9).symm).trans (st_len e11).symm).trans (st_len e13).symm) ⟨w14,(s0.trans (s3.trans (s6.trans (s8.trans (s10.trans (s12.trans s14)))))),(lV.step (s3.trans (s6.trans (s8.trans (s10.trans (s12.trans s14)))))),c14⟩ hp
  ·replace hp:=bif_f hb hp
   obtain rfl:=Option.some.inj hp
   exact ⟨_,_,rfl,_,_,_,_,rfl,rfl,w0,s0,uS⟩
def aT.p (F:Nat) (ad:List (Int×Int×Int×Int×Int)):Option ((List (Int×Int×Int×Int×Int))):=(mkn (ad.length:Int) ((0:Int),(0:Int),(0:Int),(0:Int),(0:Int))).bind fun l1=>aT.pl29 F F ad l1 0
theorem aT.P {F:Nat} {ax:ON} {aq:Nat} {ay:Cap} {ad:List (Int×Int×Int×Int×Int)} {H:Hp} {R0:List Rs} (bb:aq = ad.length) (h0:Inn H R0 fun R=>ROs (ePair (eInt .i64) (ePair (eInt .i64) (ePair (eInt .i64) (ePair (eInt .i64) (eInt .i64))))) H R ⟨ax,aq,ay⟩ ad) {r:(List (Int×Int×Int×Int×Int))} (hp:aT.p F ad = some r):∃ v H',aT.tw F ⟨ax,aq,ay⟩ H = some (v,H')∧aT.Q H R0 R0  r v H':=by
 obtain ⟨w0,aP⟩:=h0
 subst bb
 unfold aT.p at hp
 unfold aT.tw aT.twX
 have s0:=w0.rf
 obtain ⟨l1,e1,hp⟩:=bind_some' hp
 refine mk_k (ePair (eInt .i64) (ePair (eInt .i64) (ePair (eInt .i64) (ePair (eInt .i64) (eInt .i64))))) ((0:Int),(0:Int),(0:Int),(0:Int),(0:Int)) w0 ⟨[_],_,rfl,rfl,⟨[_],_,rfl,rfl,⟨[_],_,rfl,rfl,⟨[_],_,rfl,rfl,rfl⟩⟩⟩⟩ rfl rfl e1 fun H2 k2 w2 s2 c2=>?_
 exact aT.l29_P F rfl rfl ⟨w2,(s0.trans s2),(aP.step s2),c2⟩ hp
def br.Q (H0:Hp) (Ri R0:List Rs)  (r:(List (Int×Int×Int×Int×Int))×Int) (v:AV) (H':Hp):Prop:=∃ o0a:ON,∃ o0n:Nat,∃ o0c:Cap,∃ o0k:List AV,v = (.agg [(.sl ⟨o0a,o0n,o0c⟩),(.int .i64 r.2)])∧o0n = (r.1).length∧Out H0 Ri H' (Rs.own ⟨o0a,o0n,o0c⟩ (ePair (eInt .i64) (ePair (eInt .i64) (ePair (eInt .i64) (ePair (eInt .i64) (eInt .i64))))).z o0k :: R0) fun R=>CR (ePair (eInt .i64) (ePair (eInt .i64) (ePair (eInt .i64) (ePair (eInt .i64) (eInt .i64))))) H' R o0k (r.1)
def br.p (F:Nat) (ad:List (Int×Int×Int×Int×Int)) (ab:Int):Option ((List (Int×Int×Int×Int×Int))×Int):=(aT.p F ad).bind fun r4=>some (r4,ab)
theorem br.P {F:Nat} {ax:ON} {aq:Nat} {ay:Cap} {ad:List (Int×Int×Int×Int×Int)} {ab:Int} {H:Hp} {R0:List Rs} (bb:aq = ad.length) (h0:Inn H R0 fun R=>ROs (ePair (eInt .i64) (ePair (eInt .i64) (ePair (eInt .i64) (ePair (eInt .i64) (eInt .i64))))) H R ⟨ax,aq,ay⟩ ad) {r:(List (Int×Int×Int×Int×Int))×Int} (hp:br.p F ad ab = some r):∃ v H',br.tw F ⟨ax,aq,ay⟩ ab H = some (v,H')∧br.Q H R0 R0  r v H':=by
 obtain ⟨w0,aP⟩:=h0
 subst bb
 unfold br.p at hp
 unfold br.tw br.twX
 have s0:=w0.rf
 refine new_k w0 fun H1 w1 s1=>?_
 refine new_k w1 fun H2 w2 s2=>?_
 refine new_k w2 fun H3 w3 s3=>?_
 refine bind_ex (ldSl_of (w3.ld (i:=2) rfl rfl)) ?_
 obtain ⟨r4,e4,hp⟩:=bind_some' hp
 refine call_ex (aT.P rfl ⟨w3,(aP.step (s1.trans (s2.trans s3)))⟩ e4) ?_
 rintro _ H5 ⟨o0a_5,o0n_5,o0c_5,o0k_5,rfl,rfl,w5,s5,f5_0⟩
 refine bind_ex rfl ?_
 refine st_k w5 (i:=1) rfl rfl rfl fun H6 w6 s6=>?_
 dsimp only [List.set] at w6 s6
 refine bind_ex (ldI_of (w6.ld (i:=3) rfl rfl)) ?_
 refine st_k w6 (i:=1) rfl rfl rfl fun H7 w7 s7=>?_
 dsimp only [List.set] at w7 s7
 refine bind_ex (ldSl_of (w7.ld (i:=1) rfl rfl)) ?_
 refine bind_ex (ldI_of (w7.ld (i:=1) rfl rfl)) ?_
 refine st_k w7 (i:=2) rfl rfl rfl fun H8 w8 s8=>?_
 dsimp only [List.set] at w8 s8
 refine st_k w8 (i:=2) rfl rfl rfl fun H9 w9 s9=>?_
 dsimp only [List.set] at w9 s9
 refine bind_ex (ldSl_of (w9.ld (i:=2) rfl rfl)) ?_
 refine bind_ex (ldI_of (w9.ld (i:=2) rfl rfl)) ?_
 obtain ⟨w10,s10⟩:=w9.pick' [0] 4 rfl rfl rfl
 dsimp only [pk,pks,nth,List.drop] at w10 s10
 obtain rfl:=Option.some.inj hp
 exact ⟨_,_,rfl,_,_,_,_,rfl,rfl,w10,(s0.trans (s1.trans (s2.trans (s3.trans (s5.trans (s6.trans (s7.trans (s8.trans (s9.trans s10))))))))),(f5_0.step (s6.trans (s7.trans (s8.trans (s9.trans s10)))))⟩
def aZ.Q (H0:Hp) (Ri R0:List Rs)  (r:Bool) (v:AV) (H':Hp):Prop:=v = (.bool r)∧Out H0 Ri H' (R0) fun R=>True
def aZ.p (F:Nat) (aa:Int) (ai:Int) (bk:Int):Option (Bool):=(bif (decide (aa ≥ ai)) then (some (decide (aa ≤ bk))) else (some false))
theorem aZ.P {F:Nat} {aa ai bk:Int} {H:Hp} {R0:List Rs}  (h0:Inn H R0 fun R=>True) {r:Bool} (hp:aZ.p F aa ai bk = some r):∃ v H',aZ.tw F aa ai bk H = some (v,H')∧aZ.Q H R0 R0  r v H':=by
 obtain ⟨w0,_⟩:=h0
 unfold aZ.p at hp
 unfold aZ.tw aZ.twX
 have s0:=w0.rf
 refine bif_ex (fun hb=>?_) (fun hb=>?_)
 ·replace hp:=bif_t hb hp
  obtain rfl:=Option.some.inj hp
  exact ⟨_,_,rfl,rfl,w0,s0,trivial⟩
 ·replace hp:=bif_f hb hp
  obtain rfl:=Option.some.inj hp
  exact ⟨_,_,rfl,rfl,w0,s0,trivial⟩
def aX.Q (H0:Hp) (Ri R0:List Rs)  (r:Int) (v:AV) (H':Hp):Prop:=v = (.int .i64 r)∧Out H0 Ri H' (R0) fun R=>True
def aX.p (F:Nat) (aa:Int) (ab:Int) (aA:Int) (aB:Int) (bc:Int):Option (Int):=(ix ([aa,ab,aA,aB]:List Int) bc).bind fun n3=>some (gt ([aa,ab,aA,aB]:List Int) n3)
theorem aX.P {F:Nat} {aa ab aA aB az bc:Int} {H:Hp} {R0:List Rs}  (h0:Inn H R0 fun R=>True) {r:Int} (hp:aX.p F aa ab aA aB bc = some r):∃ v H',aX.tw F aa ab aA aB az bc H = some (v,H')∧aX.Q H R0 R0  r v H':=by
 obtain ⟨w0,_⟩:=h0
 unfold aX.p at hp
 unfold aX.tw aX.twX
 have s0:=w0.rf
 refine new_k w0 fun H1 w1 s1=>?_
 refine bind_ex (ldI_of (w1.ld (i:=0) rfl rfl)) ?_
 refine bind_ex (ldI_of (w1.ld (i:=0) rfl rfl)) ?_
 refine bind_ex (ldI_of (w1.ld (i:=0) rfl rfl)) ?_
 refine bind_ex (ldI_of (w1.ld (i:=0) rfl rfl)) ?_
 refine newS_k (eInt .i64) w1 (n:=4) (l:=([aa,ab,aA,aB]:List Int)) rfl (CR.cons1 rfl (CR.cons1 rfl (CR.cons1 rfl (CR.cons1 rfl CR.empty)))) rfl fun H2 w2 s2 c2=>?_
 obtain ⟨n3,g3,hp⟩:=bind_some' hp
 obtain ⟨p3,q3,i3,h3,j3⟩:=W.ixo (E:=(eInt .i64)) w2 (i:=0) rfl rfl c2 g3
 refine bind_ex i3 ?_
 have h3:_ = [_]:=h3
 subst h3
 refine bind_ex (ldI_of (j3 0 _ rfl)) ?_
 obtain ⟨w4,s4⟩:=w2.pick' [] 2 rfl rfl rfl
 dsimp only [pk,pks,nth,List.drop] at w4 s4
 obtain rfl:=Option.some.inj hp
 exact ⟨_,_,rfl,rfl,w4,(s0.trans (s1.trans (s2.trans s4))),trivial⟩
def aY.Q (H0:Hp) (Ri R0:List Rs)  (r:Bool) (v:AV) (H':Hp):Prop:=v = (.bool r)∧Out H0 Ri H' (R0) fun R=>True
def aY.p (F:Nat) (az:Int) (bc:Int):Option (Bool):=(bif (bc == 0) then (some true) else ((bif (bc == 3) then ((bif (az == 1) then (some true) else ((bif (bc == 1) then (some (az == (-1))) else (some false))))) else ((bif (bc == 1) then (some (az == (-1))) else (some false))))))
theorem aY.P {F:Nat} {aa ab aA aB az bc:Int} {H:Hp} {R0:List Rs}  (h0:Inn H R0 fun R=>True) {r:Bool} (hp:aY.p F az bc = some r):∃ v H',aY.tw F aa ab aA aB az bc H = some (v,H')∧aY.Q H R0 R0  r v H':=by
 obtain ⟨w0,_⟩:=h0
 unfold aY.p at hp
 unfold aY.tw aY.twX
 have s0:=w0.rf
 refine new_k w0 fun H1 w1 s1=>?_
 refine bif_ex (fun hb=>?_) (fun hb=>?_)
 ·replace hp:=bif_t hb hp
  obtain ⟨w2,s2⟩:=w1.pick' [] 1 rfl rfl rfl
  dsimp only [pk,pks,nth,List.drop] at w2 s2
  obtain rfl:=Option.some.inj hp
  exact ⟨_,_,rfl,rfl,w2,(s0.trans (s1.trans s2)),trivial⟩
 ·replace hp:=bif_f hb hp
  refine bif_ex (fun hb=>?_) (fun hb=>?_)
  ·replace hp:=bif_t hb hp
   refine bind_ex (ldI_of (w1.ld (i:=0) rfl rfl)) ?_
   refine bif_ex (fun hb=>?_) (fun hb=>?_)
   ·replace hp:=bif_t hb hp
    obtain ⟨w3,s3⟩:=w1.pick' [] 1 rfl rfl rfl
    dsimp only [pk,pks,nth,List.drop] at w3 s3
    obtain rfl:=Option.some.inj hp
    exact ⟨_,_,rfl,rfl,w3,(s0.trans (s1.trans s3)),trivial⟩
   ·replace hp:=bif_f hb hp
    refine bif_ex (fun hb=>?_) (fun hb=>?_)
    ·replace hp:=bif_t hb hp
     refine bind_ex (ldI_of (w1.ld (i:=0) rfl rfl)) ?_
     obtain ⟨w4,s4⟩:=w1.pick' [] 1 rfl rfl rfl
     dsimp only [pk,pks,nth,List.drop] at w4 s4
     obtain rfl:=Option.some.inj hp
     exact ⟨_,_,rfl,rfl,w4,(s0.trans (s1.trans s4)),trivial⟩
    ·replace hp:=bif_f hb hp
     obtain ⟨w5,s5⟩:=w1.pick' [] 1 rfl rfl rfl
     dsimp only [pk,pks,nth,List.drop] at w5 s5
     obtain rfl:=Option.some.inj hp
     exact ⟨_,_,rfl,rfl,w5,(s0.trans (s1.trans s5)),trivial⟩
  ·replace hp:=bif_f hb hp
   refine bif_ex (fun hb=>?_) (fun hb=>?_)
   ·replace hp:=bif_t hb hp
    refine bind_ex (ldI_of (w1.ld (i:=0) rfl rfl)) ?_
    obtain ⟨w6,s6⟩:=w1.pick' [] 1 rfl rfl rfl
    dsimp only [pk,pks,nth,List.drop] at w6 s6
    obtain rfl:=Option.some.inj hp
    exact ⟨_,_,rfl,rfl,w6,(s0.trans (s1.trans s6)),trivial⟩
   ·replace hp:=bif_f hb hp
    obtain ⟨w7,s7⟩:=w1.pick' [] 1 rfl rfl rfl
    dsimp only [pk,pks,nth,List.drop] at w7 s7
    obtain rfl:=Option.some.inj hp
    exact ⟨_,_,rfl,rfl,w7,(s0.trans (s1.trans s7)),trivial⟩
def au.Q (H0:Hp) (Ri R0:List Rs)  (r:Bool) (v:AV) (H':Hp):Prop:=v = (.bool r)∧Out H0 Ri H' (R0) fun R=>True
def au.S61 (H0:Hp) (Ri R0:List Rs)  (C:Nat→Nat→Int→Sl→Sl→Int→Hp→OA) (pC:List (Int×Int×Int×Int×Int)→Int→List Bool→List Bool→Int→Option (Bool)):Prop:=∀ {iS iT pV:ON} {io bV ip lW:Nat} {iU iV pW:Cap} {cp:List (Int×Int×Int×Int×Int)} {ke cf dJ:Int} {eG jx:List Bool} {iW pX:List AV},∀ {H:Hp},io = cp.length→ip = eG.length→lW = jx.length→(Out H0 Ri H (Rs.blk bV [.sl ⟨iS,io,iU⟩,.int .i64 ke] :: Rs.own ⟨iT,ip,iV⟩ eBool.z iW :: Rs.own ⟨pV,lW,pW⟩ eBool.z pX :: R0) fun R=>ROs (ePair (eInt .i64) (ePair (eInt .i64) (ePair (eInt .i64) (ePair (eInt .i64) (eInt .i64))))) H R ⟨iS,io,iU⟩ cp∧CR eBool H R iW eG∧CR eBool H R pX jx)→∀ {r:Bool},pC cp cf eG jx dJ = some r→∃ v H',C bV 0 cf ⟨iT,ip,iV⟩ ⟨pV,lW,pW⟩ dJ H = some (v,H')∧au.Q H0 Ri R0  r v H'
def au.S3927 (H0:Hp) (Ri R0:List Rs)  (C:Nat→Nat→Int→Sl→Sl→Int→Nat→Nat→Int→Hp→OA) (pC:List (Int×Int×Int×Int×Int)→Int→List Bool→List Bool→Int→Int→Int→Int→Int→Int→Int→Option (Bool)):Prop:=∀ {pY pZ p_:ON} {lX dI lY lZ cP:Nat} {qd qe qf:Cap} {iX:List (Int×Int×Int×Int×Int)} {uT cL cj jy jz jA jB jC dc:Int} {gW gX:List Bool} {qg qh:List AV},∀ {H:Hp},lX = iX.length→lY = gW.length→lZ = gX.length→(Out H0 Ri H (Rs.blk dI [.sl ⟨pY,lX,qd⟩,.int .i64 uT] :: Rs.own ⟨pZ,lY,qe⟩ eBool.z qg :: Rs.own ⟨p_,lZ,qf⟩ eBool.z qh :: Rs.blk cP [.int .i64 jy,.int .i64 jz,.int .i64 jA,.int .i64 jB,.int .i64 jC] :: R0) fun R=>ROs (ePair (eInt .i64) (ePair (eInt .i64) (ePair (eInt .i64) (ePair (eInt .i64) (eInt .i64))))) H R ⟨pY,lX,qd⟩ iX∧CR eBool H R qg gW∧CR eBool H R qh gX)→∀ {r:Bool},pC iX cL gW gX cj jy jz jA jB jC dc = some r→∃ v H',C dI 0 cL ⟨pZ,lY,qe⟩ ⟨p_,lZ,qf⟩ cj cP 0 dc H = some (v,H')∧au.Q H0 Ri R0  r v H'
def au.pl3927 (F:Nat) (aO:List (Int×Int×Int×Int×Int)→Int→List Bool→List Bool→Int→Option (Bool)):Nat→List (Int×Int×Int×Int×Int)→Int→List Bool→List Bool→Int→Int→Int→Int→Int→Int→Int→Option (Bool)
 | 0,_,_,_,_,_,_,_,_,_,_,_=>none
 | k + 1,iX,cL,gW,gX,cj,jy,jz,jA,jB,jC,dc=>(bif (decide (dc < 4)) then ((aX.p F jy jz jA jB dc).bind fun r1=>(aZ.p F r1 0 (IntKind.i64.wrap (cL - 1))).bind fun r3=>(bif (!r3) then (some false) else ((aY.p F jC dc).bind fun r6=>(bif r6 then ((ix gW r1).bind fun n8=>(bif (gt gW n8) then (some false) else ((ix gW r1).bind fun n10=>(some (gW.set n10 true)).bind fun l11=>au.pl3927 F aO k iX cL l11 gX cj jy jz jA jB jC (IntKind.i64.wrap (dc + 1))))) else ((ix gX r1).bind fun n13=>(bif (gt gX n13) then (some false) else ((ix gX r1).bind fun n15=>(some (gX.set n15 true)).bind fun l16=>au.pl3927 F aO k iX cL gW l16 cj jy jz jA jB jC (IntKind.i64.wrap (dc + 1))))))))) else (aO iX cL gW gX (IntKind.i64.wrap (cj + 1))))
termination_by structural n=>n
theorem au.l3927_P {F:Nat} {H0:Hp} {Ri R0:List Rs}  {C61_:Nat→Nat→Int→Sl→Sl→Int→Hp→OA} {aO:List (Int×Int×Int×Int×Int)→Int→List Bool→List Bool→Int→Option (Bool)} (hC61:au.S61 H0 Ri R0  C61_ aO):∀ k,au.S3927 H0 Ri R0  (au.l3927 F (aX.tw F) (aZ.tw F) (aY.tw F) C61_ k) (au.pl3927 F aO k):=by
 intro k
 induction k with
 | zero=>
  intro pY pZ p_ lX dI lY lZ cP qd qe qf iX uT cL cj jy jz jA jB jC dc gW gX qg qh H xO xP xQ h0 r hp
  exact nomatch (show (none:Option (Bool)) = some r from hp)
 | succ k ih=>
  intro pY pZ p_ lX dI lY lZ cP qd qe qf iX uT cL cj jy jz jA jB jC dc gW gX qg qh H xO xP xQ h0 r hp
  obtain ⟨w0,s0,uU,l_,ma⟩:=h0
  subst xO
  subst xP
  subst xQ
  unfold au.pl3927 at hp
  unfold au.l3927
  refine bif_ex (fun hb=>?_) (fun hb=>?_)
  ·replace hp:=bif_t hb hp
   refine bind_ex (ldI_of (w0.ld (i:=3) rfl rfl)) ?_
   refine bind_ex (ldI_of (w0.ld (i:=3) rfl rfl)) ?_
   refine bind_ex (ldI_of (w0.ld (i:=3) rfl rfl)) ?_
   refine bind_ex (ldI_of (w0.ld (i:=3) rfl rfl)) ?_
   refine bind_ex (ldI_of (w0.ld (i:=3) rfl rfl)) ?_
   obtain ⟨r1,e1,hp⟩:=bind_some' hp
   refine call_ex (aX.P ⟨w0,trivial⟩ e1) ?_
   rintro _ H2 ⟨rfl,w2,s2,_⟩
   refine bind_ex rfl ?_
   obtain ⟨r3,e3,hp⟩:=bind_some' hp
   refine call_ex (aZ.P ⟨w2,trivial⟩ e3) ?_
   rintro _ H4 ⟨rfl,w4,s4,_⟩
   refine bind_ex rfl ?_
   refine bif_ex (fun hb=>?_) (fun hb=>?_)
   ·replace hp:=bif_t hb hp
    obtain ⟨w5,s5⟩:=w4.pick' [] 4 rfl rfl rfl
    dsimp only [pk,pks,nth,List.drop] at w5 s5
    obtain rfl:=Option.some.inj hp
    exact ⟨_,_,rfl,rfl,w5,(s0.trans (s2.trans (s4.trans s5))),trivial⟩
   ·replace hp:=bif_f hb hp
    refine bind_ex (ldI_of (w4.ld (i:=3) rfl rfl)) ?_
    refine bind_ex (ldI_of (w4.ld (i:=3) rfl rfl)) ?_
    refine bind_ex (ldI_of (w4.ld (i:=3) rfl rfl)) ?_
    refine bind_ex (ldI_of (w4.ld (i:=3) rfl rfl)) ?_
    refine bind_ex (ldI_of (w4.ld (i:=3) rfl rfl)) ?_
    obtain ⟨r6,e6,hp⟩:=bind_some' hp
    refine call_ex (aY.P ⟨w4,trivial⟩ e6) ?_
    rintro _ H7 ⟨rfl,w7,s7,_⟩
    refine bind_ex rfl ?_
    refine bif_ex (fun hb=>?_) (fun hb=>?_)
    ·replace hp:=bif_t hb hp
     obtain ⟨n8,g8,hp⟩:=bind_some' hp
     obtain ⟨p8,q8,i8,h8,j8⟩:=W.ixo (E:=eBool) w7 (i:=1) rfl rfl (l_.step (s2.trans (s4.trans s7))) g8
     refine bind_ex i8 ?_
     have h8:_ = [_]:=h8
     subst h8
     refine bind_ex (ldB_of (j8 0 _ rfl)) ?_
     refine bif_ex (fun hb=>?_) (fun hb=>?_)
     ·replace hp:=bif_t hb hp
      obtain ⟨w9,s9⟩:=w7.pick' [] 4 rfl rfl rfl
      dsimp only [pk,pks,nth,List.drop] at w9 s9
      obtain rfl:=Option.some.inj hp
      exact ⟨_,_,rfl,rfl,w9,(s0.trans (s2.trans (s4.trans (s7.trans s9)))),trivial⟩
     ·replace hp:=bif_f hb hp
      obtain ⟨n10,g10,hp⟩:=bind_some' hp
      obtain ⟨p10,q10,i10,h10,j10⟩:=W.ixo (E:=eBool) w7 (i:=1) rfl rfl (l_.step (s2.trans (s4.trans s7))) g10
      refine bind_ex i10 ?_
      obtain ⟨l11,e11,hp⟩:=bind_some' hp
      refine sto_k eBool w7 (i:=1) (j:=0) (p:=p10) rfl rfl (l_.step (s2.trans (s4.trans s7))) g10 i10 e11 rfl rfl (fun _ h=>by have h:_ = [_]:=h; subst h; exact rfl) fun H12 k12 w12 s12 c12=>?_
      dsimp only [List.set] at w12 s12 c12
      exact ih rfl ((st_len e11).symm) rfl ⟨w12,(s0.trans (s2.trans (s4.trans (s7.trans s12)))),(uU.step (s2.trans (s4.trans (s7.trans s12)))),c12,(ma.step (s2.trans (s4.trans (s7.trans s12))))⟩ hp
    ·replace hp:=bif_f hb hp
     obtain ⟨n13,g13,hp⟩:=bind_some' hp
     obtain ⟨p13,q13,i13,h13,j13⟩:=W.ixo (E:=eBool) w7 (i:=2) rfl rfl (ma.step (s2.trans (s4.trans s7))) g13
     refine bind_ex i13 ?_
     have h13:_ = [_]:=h13
     subst h13
     refine bind_ex (ldB_of (j13 0 _ rfl)) ?_
     refine bif_ex (fun hb=>?_) (fun hb=>?_)
     ·replace hp:=bif_t hb hp
      obtain ⟨w14,s14⟩:=w7.pick' [] 4 rfl rfl rfl
      dsimp only [pk,pks,nth,List.drop] at w14 s14
      obtain rfl:=Option.some.inj hp
      exact ⟨_,_,rfl,rfl,w14,(s0.trans (s2.trans (s4.trans (s7.trans s14)))),trivial⟩
     ·replace hp:=bif_f hb hp
      obtain ⟨n15,g15,hp⟩:=bind_some' hp
      obtain ⟨p15,q15,i15,h15,j15⟩:=W.ixo (E:=eBool) w7 (i:=2) rfl rfl (ma.step (s2.trans (s4.trans s7))) g15
      refine bind_ex i15 ?_
      obtain ⟨l16,e16,hp⟩:=bind_some' hp
      refine sto_k eBool w7 (i:=2) (j:=0) (p:=p15) rfl rfl (ma.step (s2.trans (s4.trans s7))) g15 i15 e16 rfl rfl (fun _ h=>by have h:_ = [_]:=h; subst h; exact rfl) fun H17 k17 w17 s17 c17=>?_
      dsimp only [List.set] at w17 s17 c17
      exact ih rfl rfl ((st_len e16).symm) ⟨w17,(s0.trans (s2.trans (s4.trans (s7.trans s17)))),(uU.step (s2.trans (s4.trans (s7.trans s17)))),(l_.step (s2.trans (s4.trans (s7.trans s17)))),c17⟩ hp
  ·replace hp:=bif_f hb hp
   obtain ⟨w18,s18⟩:=w0.pick' [0,1,2] 4 rfl rfl rfl
   dsimp only [pk,pks,nth,List.drop] at w18 s18
   exact hC61 rfl rfl rfl ⟨w18,(s0.trans s18),(uU.step s18),(l_.step s18),(ma.step s18)⟩ hp
def au.pl61 (F:Nat) :Nat→List (Int×Int×Int×Int×Int)→Int→List Bool→List Bool→Int→Option (Bool)
 | 0,_,_,_,_,_=>none
 | k + 1,cp,cf,eG,jx,dJ=>(bif (decide (dJ < (cp.length:Int))) then ((ix cp dJ).bind fun n1=>(bif (((gt cp n1).2.2.2.2) != 1) then ((bif (((gt cp n1).2.2.2.2) != (-1)) then (some false) else (au.pl3927 F (au.pl61 F k) F cp cf eG jx dJ ((gt cp n1).1) ((gt cp n1).2.1) ((gt cp n1).2.2.1) ((gt cp n1).2.2.2.1) ((gt cp n1).2.2.2.2) 0))) else (au.pl3927 F (au.pl61 F k) F cp cf eG jx dJ ((gt cp n1).1) ((gt cp n1).2.1) ((gt cp n1).2.2.1) ((gt cp n1).2.2.2.1) ((gt cp n1).2.2.2.2) 0))) else (some true))
termination_by structural n=>n
theorem au.l61_P {F:Nat} {H0:Hp} {Ri R0:List Rs}  :∀ k,au.S61 H0 Ri R0  (au.l61 F (aX.tw F) (aZ.tw F) (aY.tw F)  k) (au.pl61 F  k):=by
 intro k
 induction k with
 | zero=>
  intro iS iT pV io bV ip lW iU iV pW cp ke cf dJ eG jx iW pX H mb mc xR h0 r hp
  exact nomatch (show (none:Option (Bool)) = some r from hp)
 | succ k ih=>
  intro iS iT pV io bV ip lW iU iV pW cp ke cf dJ eG jx iW pX H mb mc xR h0 r hp
  obtain ⟨w0,s0,lD,lE,xS⟩:=h0
  subst mb
  subst mc
  subst xR
  unfold au.pl61 at hp
  unfold au.l61
  refine bind_ex (ldSl_of (w0.ld (i:=0) rfl rfl)) ?_
  refine bif_ex (fun hb=>?_) (fun hb=>?_)
  ·replace hp:=bif_t hb hp
   refine bind_ex (ldSl_of (w0.ld (i:=0) rfl rfl)) ?_
   obtain ⟨n1,g1,hp⟩:=bind_some' hp
   obtain ⟨p1,q1,i1,h1,j1⟩:=ROs.ixr lD rfl g1
   refine bind_ex i1 ?_
   obtain ⟨_,_,rfl,rfl,_,_,rfl,rfl,_,_,rfl,rfl,_,_,rfl,rfl,rfl⟩:=h1
   refine bind_ex (ldI_of (j1 0 _ rfl)) ?_
   refine bind_ex (ldI_of (j1 1 _ rfl)) ?_
   refine bind_ex (ldI_of (j1 2 _ rfl)) ?_
   refine bind_ex (ldI_of (j1 3 _ rfl)) ?_
   refine bind_ex (ldI_of (j1 4 _ rfl)) ?_
   refine new_k w0 fun H2 w2 s2=>?_
   refine st_k w2 (i:=0) rfl rfl rfl fun H3 w3 s3=>?_
   dsimp only [List.set] at w3 s3
   refine st_k w3 (i:=0) rfl rfl rfl fun H4 w4 s4=>?_
   dsimp only [List.set] at w4 s4
   refine st_k w4 (i:=0) rfl rfl rfl fun H5 w5 s5=>?_
   dsimp only [List.set] at w5 s5
   refine st_k w5 (i:=0) rfl rfl rfl fun H6 w6 s6=>?_
   dsimp only [List.set] at w6 s6
   refine st_k w6 (i:=0) rfl rfl rfl fun H7 w7 s7=>?_
   dsimp only [List.set] at w7 s7
   refine bind_ex (ldI_of (w7.ld (i:=0) rfl rfl)) ?_
   refine bif_ex (fun hb=>?_) (fun hb=>?_)
   ·replace hp:=bif_t hb hp
    refine bind_ex (ldI_of (w7.ld (i:=0) rfl rfl)) ?_
    refine bif_ex (fun hb=>?_) (fun hb=>?_)
    ·replace hp:=bif_t hb hp
     obtain ⟨w8,s8⟩:=w7.pick' [] 4 rfl rfl rfl
     dsimp only [pk,pks,nth,List.drop] at w8 s8
     obtain rfl:=Option.some.inj hp
     exact ⟨_,_,rfl,rfl,w8,(s0.trans (s2.trans (s3.trans (s4.trans (s5.trans (s6.trans (s7.trans s8))))))),trivial⟩
    ·replace hp:=bif_f hb hp
     obtain ⟨w9,s9⟩:=w7.pick' [1,2,3,0] 4 rfl rfl rfl
     dsimp only [pk,pks,nth,List.drop] at w9 s9
     exact au.l3927_P (@ih) F rfl rfl rfl ⟨w9,(s0.trans (s2.trans (s3.trans (s4.trans (s5.trans (s6.trans (s7.trans s9))))))),(lD.step (s2.trans (s3.trans (s4.trans (s5.trans (s6.trans (s7.trans s9))))))),(lE.step (s2.trans (s3.trans (s4.trans (s5.trans (s6.trans (s7.trans s9))))))),(xS.step (s2.trans (s3.trans (s4.trans (s5.trans (s6.trans (s7.trans s9)))))))⟩ hp
   ·replace hp:=bif_f hb hp
    obtain ⟨w10,s10⟩:=w7.pick' [1,2,3,0] 4 rfl rfl rfl
    dsimp only [pk,pks,nth,List.drop] at w10 s10
    exact au.l3927_P (@ih) F rfl rfl rfl ⟨w10,(s0.trans (s2.trans (s3.trans (s4.trans (s5.trans (s6.trans (s7.trans s10))))))),(lD.step (s2.trans (s3.trans (s4.trans (s5.trans (s6.trans (s7.trans s10))))))),(lE.step (s2.trans (s3.trans (s4.trans (s5.trans (s6.trans (s7.trans s10))))))),(xS.step (s2.trans (s3.trans (s4.trans (s5.trans (s6.trans (s7.trans s10)))))))⟩ hp
  ·replace hp:=bif_f hb hp
   obtain ⟨w11,s11⟩:=w0.pick' [] 3 rfl rfl rfl
   dsimp only [pk,pks,nth,List.drop] at w11 s11
   obtain rfl:=Option.some.inj hp
   exact ⟨_,_,rfl,rfl,w11,(s0.trans s11),trivial⟩
def au.p (F:Nat) (ad:List (Int×Int×Int×Int×Int)):Option (Bool):=(mkn (IntKind.i64.wrap (2 * (ad.length:Int))) false).bind fun l2=>(mkn (IntKind.i64.wrap (2 * (ad.length:Int))) false).bind fun l4=>au.pl61 F F ad (IntKind.i64.wrap (2 * (ad.length:Int))) l2 l4 0
theorem au.P {F:Nat} {ax:ON} {aq:Nat} {ay:Cap} {ad:List (Int×Int×Int×Int×Int)} {ab:Int} {H:Hp} {R0:List Rs} (bb:aq = ad.length) (h0:Inn H R0 fun R=>ROs (ePair (eInt .i64) (ePair (eInt .i64) (ePair (eInt .i64) (ePair (eInt .i64) (eInt .i64))))) H R ⟨ax,aq,ay⟩ ad) {r:Bool} (hp:au.p F ad = some r):∃ v H',au.tw F ⟨ax,aq,ay⟩ ab H = some (v,H')∧au.Q H R0 R0  r v H':=by
 obtain ⟨w0,aP⟩:=h0
 subst bb
 unfold au.p at hp
 unfold au.tw au.twX
 have s0:=w0.rf
 refine new_k w0 fun H1 w1 s1=>?_
 refine bind_ex (ldSl_of (w1.ld (i:=0) rfl rfl)) ?_
 obtain ⟨l2,e2,hp⟩:=bind_some' hp
 refine mk_k eBool false w1 rfl rfl rfl e2 fun H3 k3 w3 s3 c3=>?_
 obtain ⟨l4,e4,hp⟩:=bind_some' hp
 refine mk_k eBool false w3 rfl rfl rfl e4 fun H5 k5 w5 s5 c5=>?_
 obtain ⟨w6,s6⟩:=w5.pick' [2,1,0] 3 rfl rfl rfl
 dsimp only [pk,pks,nth,List.drop] at w6 s6
 exact au.l61_P F rfl rfl rfl ⟨w6,(s0.trans (s1.trans (s3.trans (s5.trans s6)))),(aP.step (s1.trans (s3.trans (s5.trans s6)))),(c3.step (s5.trans s6)),(c5.step s6)⟩ hp
def ao.Q (H0:Hp) (Ri R0:List Rs)  (r:Int×Int) (v:AV) (H':Hp):Prop:=v = (.tup [(.int .i64 r.1),(.int .i64 r.2)])∧Out H0 Ri H' (R0) fun R=>True
def ao.S13 (H0:Hp) (Ri R0:List Rs)  (C:Int→Bool→Nat→Nat→Int→Hp→OA) (pC:Int→Bool→List (Int×Int×Int×Int×Int)→Int→Option (Int×Int)):Prop:=∀ {cl uV e_:Int} {eZ:Bool} {qi:ON} {md cz:Nat} {qj:Cap} {jD:List (Int×Int×Int×Int×Int)},∀ {H:Hp},md = jD.length→(Out H0 Ri H (Rs.blk cz [.sl ⟨qi,md,qj⟩,.int .i64 uV] :: R0) fun R=>ROs (ePair (eInt .i64) (ePair (eInt .i64) (ePair (eInt .i64) (ePair (eInt .i64) (eInt .i64))))) H R ⟨qi,md,qj⟩ jD)→∀ {r:Int×Int},pC cl eZ jD e_ = some r→∃ v H',C cl eZ cz 0 e_ H = some (v,H')∧ao.Q H0 Ri R0  r v H'
def ao.S213 (H0:Hp) (Ri R0:List Rs)  (C:Int→Bool→Nat→Nat→Int→Int→Hp→OA) (pC:Int→Bool→List (Int×Int×Int×Int×Int)→Int→Int→Option (Int×Int)):Prop:=∀ {cR uW cM cS:Int} {cZ:Bool} {qk:ON} {mf ew:Nat} {ql:Cap} {fI:List (Int×Int×Int×Int×Int)},∀ {H:Hp},mf = fI.length→(Out H0 Ri H (Rs.blk ew [.sl ⟨qk,mf,ql⟩,.int .i64 uW] :: R0) fun R=>ROs (ePair (eInt .i64) (ePair (eInt .i64) (ePair (eInt .i64) (ePair (eInt .i64) (eInt .i64))))) H R ⟨qk,mf,ql⟩ fI)→∀ {r:Int×Int},pC cR cZ fI cM cS = some r→∃ v H',C cR cZ ew 0 cM cS H = some (v,H')∧ao.Q H0 Ri R0  r v H'
def ao.pj3 (F:Nat) (fJ:Int→Bool→List (Int×Int×Int×Int×Int)→Int→Option (Int×Int)) (jr:Int) (kq:Bool) (mg:List (Int×Int×Int×Int×Int)) (kt:Int):Option (Int×Int):=fJ jr kq mg (IntKind.i64.wrap (kt + 1))
theorem ao.j3_P {F:Nat} {H0:Hp} {Ri R0:List Rs}  {C13_:Int→Bool→Nat→Nat→Int→Hp→OA} {fJ:Int→Bool→List (Int×Int×Int×Int×Int)→Int→Option (Int×Int)} (hC13:ao.S13 H0 Ri R0  C13_ fJ) {jr Gi kt:Int} {kq:Bool} {xT:ON} {uX kr:Nat} {xU:Cap} {mg:List (Int×Int×Int×Int×Int)} {H:Hp} (Gj:uX = mg.length) (h0:Out H0 Ri H (Rs.blk kr [.sl ⟨xT,uX,xU⟩,.int .i64 Gi] :: R0) fun R=>ROs (ePair (eInt .i64) (ePair (eInt .i64) (ePair (eInt .i64) (ePair (eInt .i64) (eInt .i64))))) H R ⟨xT,uX,xU⟩ mg) {r:Int×Int} (hp:ao.pj3 F fJ jr kq mg kt = some r):∃ v H',ao.j3 F (aX.tw F) (aY.tw F) C13_ jr kq kr 0 kt H = some (v,H')∧ao.Q H0 Ri R0  r v H':=by
 obtain ⟨w0,s0,Gk⟩:=h0
 subst Gj
 unfold ao.pj3 at hp
 unfold ao.j3
 exact hC13 rfl ⟨w0,s0,Gk⟩ hp
def ao.pj4 (F:Nat) (fJ:Int→Bool→List (Int×Int×Int×Int×Int)→Int→Option (Int×Int)) (ku:Int) (kv:Bool) (mh:List (Int×Int×Int×Int×Int)) (kw:Int):Option (Int×Int):=ao.pj3 F fJ ku kv mh kw
theorem ao.j4_P {F:Nat} {H0:Hp} {Ri R0:List Rs}  {C13_:Int→Bool→Nat→Nat→Int→Hp→OA} {fJ:Int→Bool→List (Int×Int×Int×Int×Int)→Int→Option (Int×Int)} (hC13:ao.S13 H0 Ri R0  C13_ fJ) {ku Gl kw:Int} {kv:Bool} {xV:ON} {uY pF:Nat} {xW:Cap} {mh:List (Int×Int×Int×Int×Int)} {H:Hp} (Gm:uY = mh.length) (h0:Out H0 Ri H (Rs.blk pF [.sl ⟨xV,uY,xW⟩,.int .i64 Gl] :: R0) fun R=>ROs (ePair (eInt .i64) (ePair (eInt .i64) (ePair (eInt .i64) (ePair (eInt .i64) (eInt .i64))))) H R ⟨xV,uY,xW⟩ mh) {r:Int×Int} (hp:ao.pj4 F fJ ku kv mh kw = some r):∃ v H',ao.j4 F (aX.tw F) (aY.tw F) C13_ ku kv pF 0 kw H = some (v,H')∧ao.Q H0 Ri R0  r v H':=by
 obtain ⟨w0,s0,Gn⟩:=h0
 subst Gm
 unfold ao.pj4 at hp
 unfold ao.j4
 exact ao.j3_P (@hC13) rfl ⟨w0,s0,Gn⟩ hp
def ao.pl213 (F:Nat) (fJ:Int→Bool→List (Int×Int×Int×Int×Int)→Int→Option (Int×Int)):Nat→Int→Bool→List (Int×Int×Int×Int×Int)→Int→Int→Option (Int×Int)
 | 0,_,_,_,_,_=>none
 | k + 1,cR,cZ,fI,cM,cS=>(bif (decide (cS < 4)) then ((ix fI cM).bind fun n1=>(aX.p F ((gt fI n1).1) ((gt fI n1).2.1) ((gt fI n1).2.2.1) ((gt fI n1).2.2.2.1) cS).bind fun r2=>(bif (r2 == cR) then ((ix fI cM).bind fun n4=>(aY.p F ((gt fI n4).2.2.2.2) cS).bind fun r5=>(bif (r5 == cZ) then (some (cM,cS)) else (ao.pl213 F fJ k cR cZ fI cM (IntKind.i64.wrap (cS + 1))))) else (ao.pl213 F fJ k cR cZ fI cM (IntKind.i64.wrap (cS + 1))))) else (ao.pj4 F fJ cR cZ fI cM))
termination_by structural n=>n
theorem ao.l213_P {F:Nat} {H0:Hp} {Ri R0:List Rs}  {C13_:Int→Bool→Nat→Nat→Int→Hp→OA} {fJ:Int→Bool→List (Int×Int×Int×Int×Int)→Int→Option (Int×Int)} (hC13:ao.S13 H0 Ri R0  C13_ fJ):∀ k,ao.S213 H0 Ri R0  (ao.l213 F (aX.tw F) (aY.tw F) C13_ k) (ao.pl213 F fJ k):=by
 intro k
 induction k with
 | zero=>
  intro cR uW cM cS cZ qk mf ew ql fI H xX h0 r hp
  exact nomatch (show (none:Option (Int×Int)) = some r from hp)
 | succ k ih=>
  intro cR uW cM cS cZ qk mf ew ql fI H xX h0 r hp
  obtain ⟨w0,s0,mi⟩:=h0
  subst xX
  unfold ao.pl213 at hp
  unfold ao.l213
  refine bif_ex (fun hb=>?_) (fun hb=>?_)
  ·replace hp:=bif_t hb hp
   refine bind_ex (ldSl_of (w0.ld (i:=0) rfl rfl)) ?_
   obtain ⟨n1,g1,hp⟩:=bind_some' hp
   obtain ⟨p1,q1,i1,h1,j1⟩:=ROs.ixr mi rfl g1
   refine bind_ex i1 ?_
   obtain ⟨_,_,rfl,rfl,_,_,rfl,rfl,_,_,rfl,rfl,_,_,rfl,rfl,rfl⟩:=h1
   refine bind_ex (ldI_of (j1 0 _ rfl)) ?_
   refine bind_ex (ldI_of (j1 1 _ rfl)) ?_
   refine bind_ex (ldI_of (j1 2 _ rfl)) ?_
   refine bind_ex (ldI_of (j1 3 _ rfl)) ?_
   refine bind_ex (ldI_of (j1 4 _ rfl)) ?_
   obtain ⟨r2,e2,hp⟩:=bind_some' hp
   refine call_ex (aX.P ⟨w0,trivial⟩ e2) ?_
   rintro _ H3 ⟨rfl,w3,s3,_⟩
   refine bind_ex rfl ?_
   refine bif_ex (fun hb=>?_) (fun hb=>?_)
   ·replace hp:=bif_t hb hp
    refine bind_ex (ldSl_of (w3.ld (i:=0) rfl rfl)) ?_
    obtain ⟨n4,g4,hp⟩:=bind_some' hp
    obtain ⟨p4,q4,i4,h4,j4⟩:=ROs.ixr (mi.step s3) rfl g4
    refine bind_ex i4 ?_
    obtain ⟨_,_,rfl,rfl,_,_,rfl,rfl,_,_,rfl,rfl,_,_,rfl,rfl,rfl⟩:=h4
    refine bind_ex (ldI_of (j4 0 _ rfl)) ?_
    refine bind_ex (ldI_of (j4 1 _ rfl)) ?_
    refine bind_ex (ldI_of (j4 2 _ rfl)) ?_
    refine bind_ex (ldI_of (j4 3 _ rfl)) ?_
    refine bind_ex (ldI_of (j4 4 _ rfl)) ?_
    obtain ⟨r5,e5,hp⟩:=bind_some' hp
    refine call_ex (aY.P ⟨w3,trivial⟩ e5) ?_
    rintro _ H6 ⟨rfl,w6,s6,_⟩
    refine bind_ex rfl ?_
    refine bif_ex (fun hb=>?_) (fun hb=>?_)
    ·replace hp:=bif_t hb hp
     obtain ⟨w7,s7⟩:=w6.pick' [] 1 rfl rfl rfl
     dsimp only [pk,pks,nth,List.drop] at w7 s7
     obtain rfl:=Option.some.inj hp
     exact ⟨_,_,rfl,rfl,w7,(s0.trans (s3.trans (s6.trans s7))),trivial⟩
    ·replace hp:=bif_f hb hp
     exact ih rfl ⟨w6,(s0.trans (s3.trans s6)),(mi.step (s3.trans s6))⟩ hp
   ·replace hp:=bif_f hb hp
    exact ih rfl ⟨w3,(s0.trans s3),(mi.step s3)⟩ hp
  ·replace hp:=bif_f hb hp
   exact ao.j4_P (@hC13) rfl ⟨w0,s0,mi⟩ hp
def ao.pl13 (F:Nat) :Nat→Int→Bool→List (Int×Int×Int×Int×Int)→Int→Option (Int×Int)
 | 0,_,_,_,_=>none
 | k + 1,cl,eZ,jD,e_=>(bif (decide (e_ < (jD.length:Int))) then (ao.pl213 F (ao.pl13 F k) F cl eZ jD e_ 0) else (some ((-1),(-1))))
termination_by structural n=>n
theorem ao.l13_P {F:Nat} {H0:Hp} {Ri R0:List Rs}  :∀ k,ao.S13 H0 Ri R0  (ao.l13 F (aX.tw F) (aY.tw F)  k) (ao.pl13 F  k):=by
 intro k
 induction k with
 | zero=>
  intro cl uV e_ eZ qi md cz qj jD H xY h0 r hp
  exact nomatch (show (none:Option (Int×Int)) = some r from hp)
 | succ k ih=>
  intro cl uV e_ eZ qi md cz qj jD H xY h0 r hp
  obtain ⟨w0,s0,Gp⟩:=h0
  subst xY
  unfold ao.pl13 at hp
  unfold ao.l13
  refine bind_ex (ldSl_of (w0.ld (i:=0) rfl rfl)) ?_
  refine bif_ex (fun hb=>?_) (fun hb=>?_)
  ·replace hp:=bif_t hb hp
   exact ao.l213_P (@ih) F rfl ⟨w0,s0,Gp⟩ hp
  ·replace hp:=bif_f hb hp
   obtain ⟨w1,s1⟩:=w0.pick' [] 1 rfl rfl rfl
   dsimp only [pk,pks,nth,List.drop] at w1 s1
   obtain rfl:=Option.some.inj hp
   exact ⟨_,_,rfl,rfl,w1,(s0.trans s1),trivial⟩
def ao.p (F:Nat) (ad:List (Int×Int×Int×Int×Int)) (ae:Int) (fp:Bool):Option (Int×Int):=ao.pl13 F F ae fp ad 0
theorem ao.P {F:Nat} {ax:ON} {aq:Nat} {ay:Cap} {ad:List (Int×Int×Int×Int×Int)} {ab ae:Int} {fp:Bool} {H:Hp} {R0:List Rs} (bb:aq = ad.length) (h0:Inn H R0 fun R=>ROs (ePair (eInt .i64) (ePair (eInt .i64) (ePair (eInt .i64) (ePair (eInt .i64) (eInt .i64))))) H R ⟨ax,aq,ay⟩ ad) {r:Int×Int} (hp:ao.p F ad ae fp = some r):∃ v H',ao.tw F ⟨ax,aq,ay⟩ ab ae fp H = some (v,H')∧ao.Q H R0 R0  r v H':=by
 obtain ⟨w0,aP⟩:=h0
 subst bb
 unfold ao.p at hp
 unfold ao.tw ao.twX
 have s0:=w0.rf
 refine new_k w0 fun H1 w1 s1=>?_
 exact ao.l13_P F rfl ⟨w1,(s0.trans s1),(aP.step s1)⟩ hp
def bq.Q (H0:Hp) (Ri R0:List Rs)  (r:Int) (v:AV) (H':Hp):Prop:=v = (.int .i64 r)∧Out H0 Ri H' (R0) fun R=>True
def bq.p (F:Nat) (ad:List (Int×Int×Int×Int×Int)) (ae:Int):Option (Int):=(ix ad (IntKind.i64.wrap (Int.tdiv ae 4))).bind fun n2=>(aX.p F ((gt ad n2).1) ((gt ad n2).2.1) ((gt ad n2).2.2.1) ((gt ad n2).2.2.2.1) (Int.tmod (IntKind.i64.wrap ((Int.tmod ae 4) + 1)) 4)).bind fun r9=>(aY.p F ((gt ad n2).2.2.2.2) (Int.tmod (IntKind.i64.wrap ((Int.tmod ae 4) + 1)) 4)).bind fun r12=>(ao.p F ad r9 (!r12)).bind fun r15=>some (IntKind.i64.wrap ((IntKind.i64.wrap (4 * r15.1)) + r15.2))
theorem bq.P {F:Nat} {ax:ON} {aq:Nat} {ay:Cap} {ad:List (Int×Int×Int×Int×Int)} {ab ae:Int} {H:Hp} {R0:List Rs} (bb:aq = ad.length) (h0:Inn H R0 fun R=>ROs (ePair (eInt .i64) (ePair (eInt .i64) (ePair (eInt .i64) (ePair (eInt .i64) (eInt .i64))))) H R ⟨ax,aq,ay⟩ ad) {r:Int} (hp:bq.p F ad ae = some r):∃ v H',bq.tw F ⟨ax,aq,ay⟩ ab ae H = some (v,H')∧bq.Q H R0 R0  r v H':=by
 obtain ⟨w0,aP⟩:=h0
 subst bb
 unfold bq.p at hp
 unfold bq.tw bq.twX
 have s0:=w0.rf
 refine new_k w0 fun H1 w1 s1=>?_
 refine bind_ex (ldSl_of (w1.ld (i:=0) rfl rfl)) ?_
 obtain ⟨n2,g2,hp⟩:=bind_some' hp
 obtain ⟨p2,q2,i2,h2,j2⟩:=ROs.ixr (aP.step s1) rfl g2
 refine bind_ex i2 ?_
 obtain ⟨_,_,rfl,rfl,_,_,rfl,rfl,_,_,rfl,rfl,_,_,rfl,rfl,rfl⟩:=h2
 refine bind_ex (ldI_of (j2 0 _ rfl)) ?_
 refine bind_ex (ldI_of (j2 1 _ rfl)) ?_
 refine bind_ex (ldI_of (j2 2 _ rfl)) ?_
 refine bind_ex (ldI_of (j2 3 _ rfl)) ?_
 refine bind_ex (ldI_of (j2 4 _ rfl)) ?_
 refine new_k w1 fun H3 w3 s3=>?_
 refine st_k w3 (i:=0) rfl rfl rfl fun H4 w4 s4=>?_
 dsimp only [List.set] at w4 s4
 refine st_k w4 (i:=0) rfl rfl rfl fun H5 w5 s5=>?_
 dsimp only [List.set] at w5 s5
 refine st_k w5 (i:=0) rfl rfl rfl fun H6 w6 s6=>?_
 dsimp only [List.set] at w6 s6
 refine st_k w6 (i:=0) rfl rfl rfl fun H7 w7 s7=>?_
 dsimp only [List.set] at w7 s7
 refine st_k w7 (i:=0) rfl rfl rfl fun H8 w8 s8=>?_
 dsimp only [List.set] at w8 s8
 refine bind_ex (ldSl_of (w8.ld (i:=1) rfl rfl)) ?_
 refine bind_ex (ldI_of (w8.ld (i:=1) rfl rfl)) ?_
 refine bind_ex (ldI_of (w8.ld (i:=0) rfl rfl)) ?_
 refine bind_ex (ldI_of (w8.ld (i:=0) rfl rfl)) ?_
 refine bind_ex (ldI_of (w8.ld (i:=0) rfl rfl)) ?_
 refine bind_ex (ldI_of (w8.ld (i:=0) rfl rfl)) ?_
 refine bind_ex (ldI_of (w8.ld (i:=0) rfl rfl)) ?_
 obtain ⟨r9,e9,hp⟩:=bind_some' hp
 refine call_ex (aX.P ⟨w8,trivial⟩ e9) ?_
 rintro _ H10 ⟨rfl,w10,s10,_⟩
 refine bind_ex rfl ?_
 refine ifs_ex (W.cons_of (Rn:=[]) w8 w10 s10) ?_
 refine bind_ex (ldI_of (w10.ld (i:=0) rfl rfl)) ?_
 refine bind_ex (ldI_of (w10.ld (i:=0) rfl rfl)) ?_
 refine bind_ex (ldI_of (w10.ld (i:=0) rfl rfl)) ?_
 refine bind_ex (ldI_of (w10.ld (i:=0) rfl rfl)) ?_
 refine bind_ex (ldI_of (w10.ld (i:=0) rfl rfl)) ?_
 obtain ⟨r12,e12,hp⟩:=bind_some' hp
 refine call_ex (aY.P ⟨w10,trivial⟩ e12) ?_
 rintro _ H13 ⟨rfl,w13,s13,_⟩
 refine bind_ex rfl ?_
 refine ifs_ex (W.cons_of (Rn:=[]) w10 w13 s13) ?_
 obtain ⟨r15,e15,hp⟩:=bind_some' hp
 refine call_ex (ao.P rfl ⟨w13,(aP.step (s1.trans (s3.trans (s4.trans (s5.trans (s6.trans (s7.trans (s8.trans (s10.trans s13)))))))))⟩ e15) ?_
 rintro _ H16 ⟨rfl,w16,s16,_⟩
 refine bind_ex rfl ?_
 refine bind_ex rfl ?_
 refine bind_ex rfl ?_
 refine bind_ex rfl ?_
 refine bind_ex rfl ?_
 obtain ⟨w17,s17⟩:=w16.pick' [] 2 rfl rfl rfl
 dsimp only [pk,pks,nth,List.drop] at w17 s17
 obtain rfl:=Option.some.inj hp
 exact ⟨_,_,rfl,rfl,w17,(s0.trans (s1.trans (s3.trans (s4.trans (s5.trans (s6.trans (s7.trans (s8.trans (s10.trans (s13.trans (s16.trans s17))))))))))),trivial⟩
def ah.Q (H0:Hp) (Ri R0:List Rs)  (r:List (List Int)) (v:AV) (H':Hp):Prop:=∃ o0a:ON,∃ o0n:Nat,∃ o0c:Cap,∃ o0k:List AV,v = (.sl ⟨o0a,o0n,o0c⟩)∧o0n = (r).length∧Out H0 Ri H' (Rs.own ⟨o0a,o0n,o0c⟩ (eSl (eInt .i64)).z o0k :: R0) fun R=>CR (eSl (eInt .i64)) H' R o0k (r)
def ah.S61 (H0:Hp) (Ri R0:List Rs)  (C:Nat→Nat→Sl→Sl→Int→Hp→OA) (pC:List (Int×Int×Int×Int×Int)→List (List Int)→List Bool→Int→Option (List (List Int))):Prop:=∀ {iS qn iT:ON} {io bV mj ip:Nat} {iU qo iV:Cap} {cp:List (Int×Int×Int×Int×Int)} {ke cc:Int} {iY:List (List Int)} {qp iW:List AV} {eG:List Bool},∀ {H:Hp},io = cp.length→mj = iY.length→ip = eG.length→(Out H0 Ri H (Rs.blk bV [.sl ⟨iS,io,iU⟩,.int .i64 ke] :: Rs.own ⟨qn,mj,qo⟩ (eSl (eInt .i64)).z qp :: Rs.own ⟨iT,ip,iV⟩ eBool.z iW :: R0) fun R=>ROs (ePair (eInt .i64) (ePair (eInt .i64) (ePair (eInt .i64) (ePair (eInt .i64) (eInt .i64))))) H R ⟨iS,io,iU⟩ cp∧CR (eSl (eInt .i64)) H R qp iY∧CR eBool H R iW eG)→∀ {r:List (List Int)},pC cp iY eG cc = some r→∃ v H',C bV 0 ⟨qn,mj,qo⟩ ⟨iT,ip,iV⟩ cc H = some (v,H')∧ah.Q H0 Ri R0  r v H'
def ah.pj4 (F:Nat) (aO:List (Int×Int×Int×Int×Int)→List (List Int)→List Bool→Int→Option (List (List Int))) (ml:List (Int×Int×Int×Int×Int)) (mm:List (List Int)) (mn:List Bool) (kx:Int):Option (List (List Int)):=aO ml mm mn (IntKind.i64.wrap (kx + 1))
theorem ah.j4_P {F:Nat} {H0:Hp} {Ri R0:List Rs}  {C61_:Nat→Nat→Sl→Sl→Int→Hp→OA} {aO:List (Int×Int×Int×Int×Int)→List (List Int)→List Bool→Int→Option (List (List Int))} (hC61:ah.S61 H0 Ri R0  C61_ aO) {xZ x_ ya:ON} {uZ pG u_ va:Nat} {yb yc yd:Cap} {ml:List (Int×Int×Int×Int×Int)} {Gq kx:Int} {mm:List (List Int)} {ye yf:List AV} {mn:List Bool} {H:Hp} (Gr:uZ = ml.length) (Gs:u_ = mm.length) (Gt:va = mn.length) (h0:Out H0 Ri H (Rs.blk pG [.sl ⟨xZ,uZ,yb⟩,.int .i64 Gq] :: Rs.own ⟨x_,u_,yc⟩ (eSl (eInt .i64)).z ye :: Rs.own ⟨ya,va,yd⟩ eBool.z yf :: R0) fun R=>ROs (ePair (eInt .i64) (ePair (eInt .i64) (ePair (eInt .i64) (ePair (eInt .i64) (eInt .i64))))) H R ⟨xZ,uZ,yb⟩ ml∧CR (eSl (eInt .i64)) H R ye mm∧CR eBool H R yf mn) {r:List (List Int)} (hp:ah.pj4 F aO ml mm mn kx = some r):∃ v H',ah.j4 F (bq.tw F) C61_ pG 0 ⟨x_,u_,yc⟩ ⟨ya,va,yd⟩ kx H = some (v,H')∧ah.Q H0 Ri R0  r v H':=by
 obtain ⟨w0,s0,Gu,Gv,Gw⟩:=h0
 subst Gr
 subst Gs
 subst Gt
 unfold ah.pj4 at hp
 unfold ah.j4
 exact hC61 rfl rfl rfl ⟨w0,s0,Gu,Gv,Gw⟩ hp
def ah.S7853 (H0:Hp) (Ri R0:List Rs)  (C:Nat→Nat→Sl→Sl→Int→Sl→Int→Hp→OA) (pC:List (Int×Int×Int×Int×Int)→List (List Int)→List Bool→Int→List Int→Int→Option (List (List Int))):Prop:=∀ {qq qr qs qt:ON} {mo dK mp mq mr:Nat} {qu qv qw qx:Cap} {iZ:List (Int×Int×Int×Int×Int)} {vb ey dd:Int} {jE:List (List Int)} {qy qz qA:List AV} {iq:List Bool} {jF:List Int},∀ {H:Hp},mo = iZ.length→mp = jE.length→mq = iq.length→mr = jF.length→(Out H0 Ri H (Rs.blk dK [.sl ⟨qq,mo,qu⟩,.int .i64 vb] :: Rs.own ⟨qr,mp,qv⟩ (eSl (eInt .i64)).z qy :: Rs.own ⟨qs,mq,qw⟩ eBool.z qz :: Rs.own ⟨qt,mr,qx⟩ (eInt .i64).z qA :: R0) fun R=>ROs (ePair (eInt .i64) (ePair (eInt .i64) (ePair (eInt .i64) (ePair (eInt .i64) (eInt .i64))))) H R ⟨qq,mo,qu⟩ iZ∧CR (eSl (eInt .i64)) H R qy jE∧CR eBool H R qz iq∧CR (eInt .i64) H R qA jF)→∀ {r:List (List Int)},pC iZ jE iq ey jF dd = some r→∃ v H',C dK 0 ⟨qr,mp,qv⟩ ⟨qs,mq,qw⟩ ey ⟨qt,mr,qx⟩ dd H = some (v,H')∧ah.Q H0 Ri R0  r v H'
def ah.pj5 (F:Nat) (aO:List (Int×Int×Int×Int×Int)→List (List Int)→List Bool→Int→Option (List (List Int))) (ms:List (Int×Int×Int×Int×Int)) (mu:List (List Int)) (mv:List Bool) (ky:Int):Option (List (List Int)):=aO ms mu mv (IntKind.i64.wrap (ky + 1))
theorem ah.j5_P {F:Nat} {H0:Hp} {Ri R0:List Rs}  {C61_:Nat→Nat→Sl→Sl→Int→Hp→OA} {aO:List (Int×Int×Int×Int×Int)→List (List Int)→List Bool→Int→Option (List (List Int))} (hC61:ah.S61 H0 Ri R0  C61_ aO) {yg yh yi:ON} {vc pH vd ve:Nat} {yj yl ym:Cap} {ms:List (Int×Int×Int×Int×Int)} {Gx ky:Int} {mu:List (List Int)} {yn yo:List AV} {mv:List Bool} {H:Hp} (Gy:vc = ms.length) (Gz:vd = mu.length) (GA:ve = mv.length) (h0:Out H0 Ri H (Rs.blk pH [.sl ⟨yg,vc,yj⟩,.int .i64 Gx] :: Rs.own ⟨yh,vd,yl⟩ (eSl (eInt .i64)).z yn :: Rs.own ⟨yi,ve,ym⟩ eBool.z yo :: R0) fun R=>ROs (ePair (eInt .i64) (ePair (eInt .i64) (ePair (eInt .i64) (ePair (eInt .i64) (eInt .i64))))) H R ⟨yg,vc,yj⟩ ms∧CR (eSl (eInt .i64)) H R yn mu∧CR eBool H R yo mv) {r:List (List Int)} (hp:ah.pj5 F aO ms mu mv ky = some r):∃ v H',ah.j5 F (bq.tw F) C61_ pH 0 ⟨yh,vd,yl⟩ ⟨yi,ve,ym⟩ ky H = some (v,H')∧ah.Q H0 Ri R0  r v H':=by
 obtain ⟨w0,s0,GB,GC,GD⟩:=h0
 subst Gy
 subst Gz
 subst GA
 unfold ah.pj5 at hp
 unfold ah.j5
 exact hC61 rfl rfl rfl ⟨w0,s0,GB,GC,GD⟩ hp
def ah.pj6 (F:Nat) (aO:List (Int×Int×Int×Int×Int)→List (List Int)→List Bool→Int→Option (List (List Int))) (mw:List (Int×Int×Int×Int×Int)) (mx:List (List Int)) (mz:List Bool) (kz:Int) (kf:List Int):Option (List (List Int)):=(apn mx ([kf]:List (List Int))).bind fun l3=>ah.pj5 F aO mw l3 mz kz
theorem ah.j6_P {F:Nat} {H0:Hp} {Ri R0:List Rs}  {C61_:Nat→Nat→Sl→Sl→Int→Hp→OA} {aO:List (Int×Int×Int×Int×Int)→List (List Int)→List Bool→Int→Option (List (List Int))} (hC61:ah.S61 H0 Ri R0  C61_ aO) {yp yq yt yu:ON} {vf pI vg vh vi:Nat} {yv yw yx yy:Cap} {mw:List (Int×Int×Int×Int×Int)} {GE kz:Int} {mx:List (List Int)} {yz yA yB:List AV} {mz:List Bool} {kf:List Int} {H:Hp} (GF:vf = mw.length) (GG:vg = mx.length) (GH:vh = mz.length) (GI:vi = kf.length) (h0:Out H0 Ri H (Rs.blk pI [.sl ⟨yp,vf,yv⟩,.int .i64 GE] :: Rs.own ⟨yq,vg,yw⟩ (eSl (eInt .i64)).z yz :: Rs.own ⟨yt,vh,yx⟩ eBool.z yA :: Rs.own ⟨yu,vi,yy⟩ (eInt .i64).z yB :: R0) fun R=>ROs (ePair (eInt .i64) (ePair (eInt .i64) (ePair (eInt .i64) (ePair (eInt .i64) (eInt .i64))))) H R ⟨yp,vf,yv⟩ mw∧CR (eSl (eInt .i64)) H R yz mx∧CR eBool H R yA mz∧CR (eInt .i64) H R yB kf) {r:List (List Int)} (hp:ah.pj6 F aO mw mx mz kz kf = some r):∃ v H',ah.j6 F (bq.tw F) C61_ pI 0 ⟨yq,vg,yw⟩ ⟨yt,vh,yx⟩ kz ⟨yu,vi,yy⟩ H = some (v,H')∧ah.Q H0 Ri R0  r v H':=by
 obtain ⟨w0,s0,GJ,GK,GL,GM⟩:=h0
 subst GF
 subst GG
 subst GH
 subst GI
 unfold ah.pj6 at hp
 unfold ah.j6
 obtain ⟨w1,s1,f1⟩:=w0.frz (i:=3) (eInt .i64) rfl GM
 dsimp only [List.eraseIdx] at w1 s1 f1
 refine newS_k (eSl (eInt .i64)) w1 (n:=1) (l:=([kf]:List (List Int))) rfl (CR.cons1 ⟨_,rfl,f1⟩ CR.empty) rfl fun H2 w2 s2 c2=>?_
 refine bind_ex (w2.rowo (i:=0) rfl) ?_
 obtain ⟨l3,e3,hp⟩:=bind_some' hp
 refine app_k (eSl (eInt .i64)) w2 (i:=2) rfl rfl (GK.step (s1.trans s2)) c2 (show 1 = List.length ([kf]:List (List Int)) from rfl) rfl e3 fun a4 d4 H4 w4 s4 c4 x4=>?_
 dsimp only [List.set] at w4 s4 c4
 obtain ⟨w5,s5⟩:=w4.pick' [1,2,3] 4 rfl rfl rfl
 dsimp only [pk,pks,nth,List.drop] at w5 s5
 exact ah.j5_P (@hC61) rfl rfl rfl ⟨w5,(s0.trans (s1.trans (s2.trans (s4.trans s5)))),(GJ.step (s1.trans (s2.trans (s4.trans s5)))),(c4.step s5),(GL.step (s1.trans (s2.trans (s4.trans s5))))⟩ hp
def ah.pl7853 (F:Nat) (aO:List (Int×Int×Int×Int×Int)→List (List Int)→List Bool→Int→Option (List (List Int))):Nat→List (Int×Int×Int×Int×Int)→List (List Int)→List Bool→Int→List Int→Int→Option (List (List Int))
 | 0,_,_,_,_,_,_=>none
 | k + 1,iZ,jE,iq,ey,jF,dd=>(ix iq dd).bind fun n1=>(bif (!(gt iq n1)) then ((ix iq dd).bind fun n2=>(some (iq.set n2 true)).bind fun l3=>(apn jF ([dd]:List Int)).bind fun l6=>(bq.p F iZ dd).bind fun r8=>ah.pl7853 F aO k iZ jE l3 ey l6 r8) else (ah.pj6 F aO iZ jE iq ey jF))
termination_by structural n=>n
theorem ah.l7853_P {F:Nat} {H0:Hp} {Ri R0:List Rs}  {C61_:Nat→Nat→Sl→Sl→Int→Hp→OA} {aO:List (Int×Int×Int×Int×Int)→List (List Int)→List Bool→Int→Option (List (List Int))} (hC61:ah.S61 H0 Ri R0  C61_ aO):∀ k,ah.S7853 H0 Ri R0  (ah.l7853 F (bq.tw F) C61_ k) (ah.pl7853 F aO k):=by
 intro k
 induction k with
 | zero=>
  intro qq qr qs qt mo dK mp mq mr qu qv qw qx iZ vb ey dd jE qy qz qA iq jF H yC yD yE yF h0 r hp
  exact nomatch (show (none:Option (List (List Int))) = some r from hp)
 | succ k ih=>
  intro qq qr qs qt mo dK mp mq mr qu qv qw qx iZ vb ey dd jE qy qz qA iq jF H yC yD yE yF h0 r hp
  obtain ⟨w0,s0,vj,yG,qB,yH⟩:=h0
  subst yC
  subst yD
  subst yE
  subst yF
  unfold ah.pl7853 at hp
  unfold ah.l7853
  obtain ⟨n1,g1,hp⟩:=bind_some' hp
  obtain ⟨p1,q1,i1,h1,j1⟩:=W.ixo (E:=eBool) w0 (i:=2) rfl rfl qB g1
  refine bind_ex i1 ?_
  have h1:_ = [_]:=h1
  subst h1
  refine bind_ex (ldB_of (j1 0 _ rfl)) ?_
  refine bif_ex (fun hb=>?_) (fun hb=>?_)
  ·replace hp:=bif_t hb hp
   obtain ⟨n2,g2,hp⟩:=bind_some' hp
   obtain ⟨p2,q2,i2,h2,j2⟩:=W.ixo (E:=eBool) w0 (i:=2) rfl rfl qB g2
   refine bind_ex i2 ?_
   obtain ⟨l3,e3,hp⟩:=bind_some' hp
   refine sto_k eBool w0 (i:=2) (j:=0) (p:=p2) rfl rfl qB g2 i2 e3 rfl rfl (fun _ h=>by have h:_ = [_]:=h; subst h; exact rfl) fun H4 k4 w4 s4 c4=>?_
   dsimp only [List.set] at w4 s4 c4
   refine newS_k (eInt .i64) w4 (n:=1) (l:=([dd]:List Int)) rfl (CR.cons1 rfl CR.empty) rfl fun H5 w5 s5 c5=>?_
   refine bind_ex (w5.rowo (i:=0) rfl) ?_
   obtain ⟨l6,e6,hp⟩:=bind_some' hp
   refine app_k (eInt .i64) w5 (i:=4) rfl rfl (yH.step (s4.trans s5)) c5 (show 1 = List.length ([dd]:List Int) from rfl) rfl e6 fun a7 d7 H7 w7 s7 c7 x7=>?_
   dsimp only [List.set] at w7 s7 c7
   refine bind_ex (ldSl_of (w7.ld (i:=1) rfl rfl)) ?_
   refine bind_ex (ldI_of (w7.ld (i:=1) rfl rfl)) ?_
   obtain ⟨r8,e8,hp⟩:=bind_some' hp
   refine call_ex (bq.P rfl ⟨w7,(vj.step (s4.trans (s5.trans s7)))⟩ e8) ?_
   rintro _ H9 ⟨rfl,w9,s9,_⟩
   refine bind_ex rfl ?_
   obtain ⟨w10,s10⟩:=w9.pick' [1,2,3,4] 5 rfl rfl rfl
   dsimp only [pk,pks,nth,List.drop] at w10 s10
   exact ih rfl rfl ((st_len e3).symm) rfl ⟨w10,(s0.trans (s4.trans (s5.trans (s7.trans (s9.trans s10))))),(vj.step (s4.trans (s5.trans (s7.trans (s9.trans s10))))),(yG.step (s4.trans (s5.trans (s7.trans (s9.trans s10))))),(c4.step (s5.trans (s7.trans (s9.trans s10)))),(c7.step (s9.trans s10))⟩ hp
  ·replace hp:=bif_f hb hp
   exact ah.j6_P (@hC61) rfl rfl rfl rfl ⟨w0,s0,vj,yG,qB,yH⟩ hp
def ah.pl61 (F:Nat) :Nat→List (Int×Int×Int×Int×Int)→List (List Int)→List Bool→Int→Option (List (List Int))
 | 0,_,_,_,_=>none
 | k + 1,cp,iY,eG,cc=>(bif (decide (cc < (eG.length:Int))) then ((ix eG cc).bind fun n1=>(bif (gt eG n1) then (ah.pj4 F (ah.pl61 F k) cp iY eG cc) else (ah.pl7853 F (ah.pl61 F k) F cp iY eG cc ([]:List Int) cc))) else (some iY))
termination_by structural n=>n
theorem ah.l61_P {F:Nat} {H0:Hp} {Ri R0:List Rs}  :∀ k,ah.S61 H0 Ri R0  (ah.l61 F (bq.tw F)  k) (ah.pl61 F  k):=by
 intro k
 induction k with
 | zero=>
  intro iS qn iT io bV mj ip iU qo iV cp ke cc iY qp iW eG H mb yI mc h0 r hp
  exact nomatch (show (none:Option (List (List Int))) = some r from hp)
 | succ k ih=>
  intro iS qn iT io bV mj ip iU qo iV cp ke cc iY qp iW eG H mb yI mc h0 r hp
  obtain ⟨w0,s0,lD,vk,lE⟩:=h0
  subst mb
  subst yI
  subst mc
  unfold ah.pl61 at hp
  unfold ah.l61
  refine bif_ex (fun hb=>?_) (fun hb=>?_)
  ·replace hp:=bif_t hb hp
   obtain ⟨n1,g1,hp⟩:=bind_some' hp
   obtain ⟨p1,q1,i1,h1,j1⟩:=W.ixo (E:=eBool) w0 (i:=2) rfl rfl lE g1
   refine bind_ex i1 ?_
   have h1:_ = [_]:=h1
   subst h1
   refine bind_ex (ldB_of (j1 0 _ rfl)) ?_
   refine bif_ex (fun hb=>?_) (fun hb=>?_)
   ·replace hp:=bif_t hb hp
    exact ah.j4_P (@ih) rfl rfl rfl ⟨w0,s0,lD,vk,lE⟩ hp
   ·replace hp:=bif_f hb hp
    refine newS_k (eInt .i64) w0 (n:=0) (l:=([]:List Int)) rfl CR.empty rfl fun H2 w2 s2 c2=>?_
    obtain ⟨w3,s3⟩:=w2.pick' [1,2,3,0] 4 rfl rfl rfl
    dsimp only [pk,pks,nth,List.drop] at w3 s3
    exact ah.l7853_P (@ih) F rfl rfl rfl (show 0 = List.length ([]:List Int) from rfl) ⟨w3,(s0.trans (s2.trans s3)),(lD.step (s2.trans s3)),(vk.step (s2.trans s3)),(lE.step (s2.trans s3)),(c2.step s3)⟩ hp
  ·replace hp:=bif_f hb hp
   obtain ⟨w4,s4⟩:=w0.pick' [1] 3 rfl rfl rfl
   dsimp only [pk,pks,nth,List.drop] at w4 s4
   obtain rfl:=Option.some.inj hp
   exact ⟨_,_,rfl,_,_,_,_,rfl,rfl,w4,(s0.trans s4),(vk.step s4)⟩
def ah.p (F:Nat) (ad:List (Int×Int×Int×Int×Int)):Option (List (List Int)):=(mkn (IntKind.i64.wrap (4 * (ad.length:Int))) false).bind fun l3=>ah.pl61 F F ad ([]:List (List Int)) l3 0
theorem ah.P {F:Nat} {ax:ON} {aq:Nat} {ay:Cap} {ad:List (Int×Int×Int×Int×Int)} {ab:Int} {H:Hp} {R0:List Rs} (bb:aq = ad.length) (h0:Inn H R0 fun R=>ROs (ePair (eInt .i64) (ePair (eInt .i64) (ePair (eInt .i64) (ePair (eInt .i64) (eInt .i64))))) H R ⟨ax,aq,ay⟩ ad) {r:List (List Int)} (hp:ah.p F ad = some r):∃ v H',ah.tw F ⟨ax,aq,ay⟩ ab H = some (v,H')∧ah.Q H R0 R0  r v H':=by
 obtain ⟨w0,aP⟩:=h0
 subst bb
 unfold ah.p at hp
 unfold ah.tw ah.twX
 have s0:=w0.rf
 refine new_k w0 fun H1 w1 s1=>?_
 refine newS_k (eSl (eInt .i64)) w1 (n:=0) (l:=([]:List (List Int))) rfl CR.empty rfl fun H2 w2 s2 c2=>?_
 refine bind_ex (ldSl_of (w2.ld (i:=1) rfl rfl)) ?_
 obtain ⟨l3,e3,hp⟩:=bind_some' hp
 refine mk_k eBool false w2 rfl rfl rfl e3 fun H4 k4 w4 s4 c4=>?_
 obtain ⟨w5,s5⟩:=w4.pick' [2,1,0] 3 rfl rfl rfl
 dsimp only [pk,pks,nth,List.drop] at w5 s5
 exact ah.l61_P F rfl (show 0 = List.length ([]:List (List Int)) from rfl) rfl ⟨w5,(s0.trans (s1.trans (s2.trans (s4.trans s5)))),(aP.step (s1.trans (s2.trans (s4.trans s5)))),(c2.step (s4.trans s5)),(c4.step s5)⟩ hp
def af.Q (H0:Hp) (Ri R0:List Rs)  (r:List Int) (v:AV) (H':Hp):Prop:=∃ o0a:ON,∃ o0n:Nat,∃ o0c:Cap,∃ o0k:List AV,v = (.sl ⟨o0a,o0n,o0c⟩)∧o0n = (r).length∧Out H0 Ri H' (Rs.own ⟨o0a,o0n,o0c⟩ (eInt .i64).z o0k :: R0) fun R=>CR (eInt .i64) H' R o0k (r)
def af.S29 (H0:Hp) (Ri R0:List Rs)  (C:Nat→Nat→Sl→Int→Hp→OA) (pC:List (Int×Int×Int×Int×Int)→List Int→Int→Option (List Int)):Prop:=∀ {qC qD:ON} {mA fb mB:Nat} {qE qF:Cap} {i_:List (Int×Int×Int×Int×Int)} {vl dM:Int} {jG:List Int} {qG:List AV},∀ {H:Hp},mA = i_.length→mB = jG.length→(Out H0 Ri H (Rs.blk fb [.sl ⟨qC,mA,qE⟩,.int .i64 vl] :: Rs.own ⟨qD,mB,qF⟩ (eInt .i64).z qG :: R0) fun R=>ROs (ePair (eInt .i64) (ePair (eInt .i64) (ePair (eInt .i64) (ePair (eInt .i64) (eInt .i64))))) H R ⟨qC,mA,qE⟩ i_∧CR (eInt .i64) H R qG jG)→∀ {r:List Int},pC i_ jG dM = some r→∃ v H',C fb 0 ⟨qD,mB,qF⟩ dM H = some (v,H')∧af.Q H0 Ri R0  r v H'
def af.S61 (H0:Hp) (Ri R0:List Rs)  (C:Nat→Nat→Sl→Int→Hp→OA) (pC:List (Int×Int×Int×Int×Int)→List Int→Int→Option (List Int)):Prop:=∀ {qH qI:ON} {mC ei mD:Nat} {qJ qK:Cap} {iG:List (Int×Int×Int×Int×Int)} {vm dL:Int} {gY:List Int} {qL:List AV},∀ {H:Hp},mC = iG.length→mD = gY.length→(Out H0 Ri H (Rs.blk ei [.sl ⟨qH,mC,qJ⟩,.int .i64 vm] :: Rs.own ⟨qI,mD,qK⟩ (eInt .i64).z qL :: R0) fun R=>ROs (ePair (eInt .i64) (ePair (eInt .i64) (ePair (eInt .i64) (ePair (eInt .i64) (eInt .i64))))) H R ⟨qH,mC,qJ⟩ iG∧CR (eInt .i64) H R qL gY)→∀ {r:List Int},pC iG gY dL = some r→∃ v H',C ei 0 ⟨qI,mD,qK⟩ dL H = some (v,H')∧af.Q H0 Ri R0  r v H'
def af.S7855 (H0:Hp) (Ri R0:List Rs)  (C:Nat→Nat→Sl→Int→Int→Int→Int→Hp→OA) (pC:List (Int×Int×Int×Int×Int)→List Int→Int→Int→Int→Int→Option (List Int)):Prop:=∀ {qM qN:ON} {mE eh mF:Nat} {qO qP:Cap} {ja:List (Int×Int×Int×Int×Int)} {vn dr cA cN de:Int} {gD:List Int} {qQ:List AV},∀ {H:Hp},mE = ja.length→mF = gD.length→(Out H0 Ri H (Rs.blk eh [.sl ⟨qM,mE,qO⟩,.int .i64 vn] :: Rs.own ⟨qN,mF,qP⟩ (eInt .i64).z qQ :: R0) fun R=>ROs (ePair (eInt .i64) (ePair (eInt .i64) (ePair (eInt .i64) (ePair (eInt .i64) (eInt .i64))))) H R ⟨qM,mE,qO⟩ ja∧CR (eInt .i64) H R qQ gD)→∀ {r:List Int},pC ja gD dr cA cN de = some r→∃ v H',C eh 0 ⟨qN,mF,qP⟩ dr cA cN de H = some (v,H')∧af.Q H0 Ri R0  r v H'
def af.pj8 (F:Nat) (qR:List (Int×Int×Int×Int×Int)→List Int→Int→Int→Int→Int→Option (List Int)) (mG:List (Int×Int×Int×Int×Int)) (mH:List Int) (kC:Int) (kD:Int) (kE:Int) (kF:Int):Option (List Int):=qR mG mH kC kD kE (IntKind.i64.wrap (kF + 1))
theorem af.j8_P {F:Nat} {H0:Hp} {Ri R0:List Rs}  {C7855_:Nat→Nat→Sl→Int→Int→Int→Int→Hp→OA} {qR:List (Int×Int×Int×Int×Int)→List Int→Int→Int→Int→Int→Option (List Int)} (hC7855:af.S7855 H0 Ri R0  C7855_ qR) {yJ yK:ON} {vo pL vp:Nat} {yL yM:Cap} {mG:List (Int×Int×Int×Int×Int)} {GN kC kD kE kF:Int} {mH:List Int} {yN:List AV} {H:Hp} (GO:vo = mG.length) (GP:vp = mH.length) (h0:Out H0 Ri H (Rs.blk pL [.sl ⟨yJ,vo,yL⟩,.int .i64 GN] :: Rs.own ⟨yK,vp,yM⟩ (eInt .i64).z yN :: R0) fun R=>ROs (ePair (eInt .i64) (ePair (eInt .i64) (ePair (eInt .i64) (ePair (eInt .i64) (eInt .i64))))) H R ⟨yJ,vo,yL⟩ mG∧CR (eInt .i64) H R yN mH) {r:List Int} (hp:af.pj8 F qR mG mH kC kD kE kF = some r):∃ v H',af.j8 F (ao.tw F) C7855_ pL 0 ⟨yK,vp,yM⟩ kC kD kE kF H = some (v,H')∧af.Q H0 Ri R0  r v H':=by
 obtain ⟨w0,s0,GQ,GR⟩:=h0
 subst GO
 subst GP
 unfold af.pj8 at hp
 unfold af.j8
 exact hC7855 rfl rfl ⟨w0,s0,GQ,GR⟩ hp
def af.pj6 (F:Nat) (aO:List (Int×Int×Int×Int×Int)→List Int→Int→Option (List Int)) (mI:List (Int×Int×Int×Int×Int)) (mJ:List Int) (kA:Int):Option (List Int):=aO mI mJ (IntKind.i64.wrap (kA + 1))
theorem af.j6_P {F:Nat} {H0:Hp} {Ri R0:List Rs}  {C61_:Nat→Nat→Sl→Int→Hp→OA} {aO:List (Int×Int×Int×Int×Int)→List Int→Int→Option (List Int)} (hC61:af.S61 H0 Ri R0  C61_ aO) {yO yP:ON} {vq pJ vr:Nat} {yQ yR:Cap} {mI:List (Int×Int×Int×Int×Int)} {GS kA:Int} {mJ:List Int} {yS:List AV} {H:Hp} (GT:vq = mI.length) (GU:vr = mJ.length) (h0:Out H0 Ri H (Rs.blk pJ [.sl ⟨yO,vq,yQ⟩,.int .i64 GS] :: Rs.own ⟨yP,vr,yR⟩ (eInt .i64).z yS :: R0) fun R=>ROs (ePair (eInt .i64) (ePair (eInt .i64) (ePair (eInt .i64) (ePair (eInt .i64) (eInt .i64))))) H R ⟨yO,vq,yQ⟩ mI∧CR (eInt .i64) H R yS mJ) {r:List Int} (hp:af.pj6 F aO mI mJ kA = some r):∃ v H',af.j6 F (ao.tw F) C61_ pJ 0 ⟨yP,vr,yR⟩ kA H = some (v,H')∧af.Q H0 Ri R0  r v H':=by
 obtain ⟨w0,s0,GV,GW⟩:=h0
 subst GT
 subst GU
 unfold af.pj6 at hp
 unfold af.j6
 exact hC61 rfl rfl ⟨w0,s0,GV,GW⟩ hp
def af.pj7 (F:Nat) (aO:List (Int×Int×Int×Int×Int)→List Int→Int→Option (List Int)) (mK:List (Int×Int×Int×Int×Int)) (mL:List Int) (js:Int):Option (List Int):=af.pj6 F aO mK mL js
theorem af.j7_P {F:Nat} {H0:Hp} {Ri R0:List Rs}  {C61_:Nat→Nat→Sl→Int→Hp→OA} {aO:List (Int×Int×Int×Int×Int)→List Int→Int→Option (List Int)} (hC61:af.S61 H0 Ri R0  C61_ aO) {yT yU:ON} {vs pK vt:Nat} {yV yW:Cap} {mK:List (Int×Int×Int×Int×Int)} {GX js:Int} {mL:List Int} {yX:List AV} {H:Hp} (GY:vs = mK.length) (GZ:vt = mL.length) (h0:Out H0 Ri H (Rs.blk pK [.sl ⟨yT,vs,yV⟩,.int .i64 GX] :: Rs.own ⟨yU,vt,yW⟩ (eInt .i64).z yX :: R0) fun R=>ROs (ePair (eInt .i64) (ePair (eInt .i64) (ePair (eInt .i64) (ePair (eInt .i64) (eInt .i64))))) H R ⟨yT,vs,yV⟩ mK∧CR (eInt .i64) H R yX mL) {r:List Int} (hp:af.pj7 F aO mK mL js = some r):∃ v H',af.j7 F (ao.tw F) C61_ pK 0 ⟨yU,vt,yW⟩ js H = some (v,H')∧af.Q H0 Ri R0  r v H':=by
 obtain ⟨w0,s0,G_,Ha⟩:=h0
 subst GY
 subst GZ
 unfold af.pj7 at hp
 unfold af.j7
 exact af.j6_P (@hC61) rfl rfl ⟨w0,s0,G_,Ha⟩ hp
def af.pl7855 (F:Nat) (aO:List (Int×Int×Int×Int×Int)→List Int→Int→Option (List Int)):Nat→List (Int×Int×Int×Int×Int)→List Int→Int→Int→Int→Int→Option (List Int)
 | 0,_,_,_,_,_,_=>none
 | k + 1,ja,gD,dr,cA,cN,de=>(bif (decide (de < (gD.length:Int))) then ((ix gD de).bind fun n1=>(bif ((gt gD n1) == (if cN > cA then cN else cA)) then ((ix gD de).bind fun n2=>(some (gD.set n2 (if cN < cA then cN else cA))).bind fun l3=>af.pj8 F (af.pl7855 F aO k) ja l3 dr cA cN de) else (af.pj8 F (af.pl7855 F aO k) ja gD dr cA cN de))) else (af.pj7 F aO ja gD dr))
termination_by structural n=>n
theorem af.l7855_P {F:Nat} {H0:Hp} {Ri R0:List Rs}  {C61_:Nat→Nat→Sl→Int→Hp→OA} {aO:List (Int×Int×Int×Int×Int)→List Int→Int→Option (List Int)} (hC61:af.S61 H0 Ri R0  C61_ aO):∀ k,af.S7855 H0 Ri R0  (af.l7855 F (ao.tw F) C61_ k) (af.pl7855 F aO k):=by
 intro k
 induction k with
 | zero=>
  intro qM qN mE eh mF qO qP ja vn dr cA cN de gD qQ H yY yZ h0 r hp
  exact nomatch (show (none:Option (List Int)) = some r from hp)
 | succ k ih=>
  intro qM qN mE eh mF qO qP ja vn dr cA cN de gD qQ H yY yZ h0 r hp
  obtain ⟨w0,s0,vu,mM⟩:=h0
  subst yY
  subst yZ
  unfold af.pl7855 at hp
  unfold af.l7855
  refine bif_ex (fun hb=>?_) (fun hb=>?_)
  ·replace hp:=bif_t hb hp
   obtain ⟨n1,g1,hp⟩:=bind_some' hp
   obtain ⟨p1,q1,i1,h1,j1⟩:=W.ixo (E:=(eInt .i64)) w0 (i:=1) rfl rfl mM g1
   refine bind_ex i1 ?_
   have h1:_ = [_]:=h1
   subst h1
   refine bind_ex (ldI_of (j1 0 _ rfl)) ?_
   refine bif_ex (fun hb=>?_) (fun hb=>?_)
   ·replace hp:=bif_t hb hp
    obtain ⟨n2,g2,hp⟩:=bind_some' hp
    obtain ⟨p2,q2,i2,h2,j2⟩:=W.ixo (E:=(eInt .i64)) w0 (i:=1) rfl rfl mM g2
    refine bind_ex i2 ?_
    obtain ⟨l3,e3,hp⟩:=bind_some' hp
    refine sto_k (eInt .i64) w0 (i:=1) (j:=0) (p:=p2) rfl rfl mM g2 i2 e3 rfl rfl (fun _ h=>by have h:_ = [_]:=h; subst h; exact rfl) fun H4 k4 w4 s4 c4=>?_
    dsimp only [List.set] at w4 s4 c4
    exact af.j8_P (@ih) rfl ((st_len e3).symm) ⟨w4,(s0.trans s4),(vu.step s4),c4⟩ hp
   ·replace hp:=bif_f hb hp
    exact af.j8_P (@ih) rfl rfl ⟨w0,s0,vu,mM⟩ hp
  ·replace hp:=bif_f hb hp
   exact af.j7_P (@hC61) rfl rfl ⟨w0,s0,vu,mM⟩ hp
def af.pl61 (F:Nat) :Nat→List (Int×Int×Int×Int×Int)→List Int→Int→Option (List Int)
 | 0,_,_,_=>none
 | k + 1,iG,gY,dL=>(bif (decide (dL < (IntKind.i64.wrap (2 * (iG.length:Int))))) then ((ao.p F iG dL true).bind fun r1=>(ao.p F iG dL false).bind fun r3=>(ix gY r1.1).bind fun n5=>(ix gY r3.1).bind fun n6=>af.pl7855 F (af.pl61 F k) F iG gY dL (gt gY n5) (gt gY n6) 0) else (some gY))
termination_by structural n=>n
theorem af.l61_P {F:Nat} {H0:Hp} {Ri R0:List Rs}  :∀ k,af.S61 H0 Ri R0  (af.l61 F (ao.tw F)  k) (af.pl61 F  k):=by
 intro k
 induction k with
 | zero=>
  intro qH qI mC ei mD qJ qK iG vm dL gY qL H y_ za h0 r hp
  exact nomatch (show (none:Option (List Int)) = some r from hp)
 | succ k ih=>
  intro qH qI mC ei mD qJ qK iG vm dL gY qL H y_ za h0 r hp
  obtain ⟨w0,s0,vv,qS⟩:=h0
  subst y_
  subst za
  unfold af.pl61 at hp
  unfold af.l61
  refine bind_ex (ldSl_of (w0.ld (i:=0) rfl rfl)) ?_
  refine bif_ex (fun hb=>?_) (fun hb=>?_)
  ·replace hp:=bif_t hb hp
   refine bind_ex (ldSl_of (w0.ld (i:=0) rfl rfl)) ?_
   refine bind_ex (ldI_of (w0.ld (i:=0) rfl rfl)) ?_
   obtain ⟨r1,e1,hp⟩:=bind_some' hp
   refine call_ex (ao.P rfl ⟨w0,vv⟩ e1) ?_
   rintro _ H2 ⟨rfl,w2,s2,_⟩
   refine bind_ex rfl ?_
   refine bind_ex rfl ?_
   refine bind_ex rfl ?_
   refine bind_ex rfl ?_
   refine bind_ex rfl ?_
   refine bind_ex (ldSl_of (w2.ld (i:=0) rfl rfl)) ?_
   refine bind_ex (ldI_of (w2.ld (i:=0) rfl rfl)) ?_
   obtain ⟨r3,e3,hp⟩:=bind_some' hp
   refine call_ex (ao.P rfl ⟨w2,(vv.step s2)⟩ e3) ?_
   rintro _ H4 ⟨rfl,w4,s4,_⟩
   refine bind_ex rfl ?_
   refine bind_ex rfl ?_
   refine bind_ex rfl ?_
   refine bind_ex rfl ?_
   refine bind_ex rfl ?_
   obtain ⟨n5,g5,hp⟩:=bind_some' hp
   obtain ⟨p5,q5,i5,h5,j5⟩:=W.ixo (E:=(eInt .i64)) w4 (i:=1) rfl rfl (qS.step (s2.trans s4)) g5
   refine bind_ex i5 ?_
   have h5:_ = [_]:=h5
   subst h5
   refine bind_ex (ldI_of (j5 0 _ rfl)) ?_
   obtain ⟨n6,g6,hp⟩:=bind_some' hp
   obtain ⟨p6,q6,i6,h6,j6⟩:=W.ixo (E:=(eInt .i64)) w4 (i:=1) rfl rfl (qS.step (s2.trans s4)) g6
   refine bind_ex i6 ?_
   have h6:_ = [_]:=h6
   subst h6
   refine bind_ex (ldI_of (j6 0 _ rfl)) ?_
   exact af.l7855_P (@ih) F rfl rfl ⟨w4,(s0.trans (s2.trans s4)),(vv.step (s2.trans s4)),(qS.step (s2.trans s4))⟩ hp
  ·replace hp:=bif_f hb hp
   obtain ⟨w7,s7⟩:=w0.pick' [1] 2 rfl rfl rfl
   dsimp only [pk,pks,nth,List.drop] at w7 s7
   obtain rfl:=Option.some.inj hp
   exact ⟨_,_,rfl,_,_,_,_,rfl,rfl,w7,(s0.trans s7),(qS.step s7)⟩
def af.pj9 (F:Nat)  (mN:List (Int×Int×Int×Int×Int)) (mO:List Int):Option (List Int):=af.pl61 F F mN mO 0
theorem af.j9_P {F:Nat} {H0:Hp} {Ri R0:List Rs}   {zb zc:ON} {vw pM vx:Nat} {zd ze:Cap} {mN:List (Int×Int×Int×Int×Int)} {Hb:Int} {mO:List Int} {zf:List AV} {H:Hp} (Hc:vw = mN.length) (Hd:vx = mO.length) (h0:Out H0 Ri H (Rs.blk pM [.sl ⟨zb,vw,zd⟩,.int .i64 Hb] :: Rs.own ⟨zc,vx,ze⟩ (eInt .i64).z zf :: R0) fun R=>ROs (ePair (eInt .i64) (ePair (eInt .i64) (ePair (eInt .i64) (ePair (eInt .i64) (eInt .i64))))) H R ⟨zb,vw,zd⟩ mN∧CR (eInt .i64) H R zf mO) {r:List Int} (hp:af.pj9 F  mN mO = some r):∃ v H',af.j9 F (ao.tw F)  pM 0 ⟨zc,vx,ze⟩ H = some (v,H')∧af.Q H0 Ri R0  r v H':=by
 obtain ⟨w0,s0,He,Hf⟩:=h0
 subst Hc
 subst Hd
 unfold af.pj9 at hp
 unfold af.j9
 exact af.l61_P F rfl rfl ⟨w0,s0,He,Hf⟩ hp
def af.pl29 (F:Nat) :Nat→List (Int×Int×Int×Int×Int)→List Int→Int→Option (List Int)
 | 0,_,_,_=>none
 | k + 1,i_,jG,dM=>(bif (decide (dM < (i_.length:Int))) then ((apn jG ([dM]:List Int)).bind fun l2=>af.pl29 F k i_ l2 (IntKind.i64.wrap (dM + 1))) else (af.pj9 F i_ jG))
termination_by structural n=>n
theorem af.l29_P {F:Nat} {H0:Hp} {Ri R0:List Rs}  :∀ k,af.S29 H0 Ri R0  (af.l29 F (ao.tw F)  k) (af.pl29 F  k):=by
 intro k
 induction k with
 | zero=>
  intro qC qD mA fb mB qE qF i_ vl dM jG qG H zg zh h0 r hp
  exact nomatch (show (none:Option (List Int)) = some r from hp)
 | succ k ih=>
  intro qC qD mA fb mB qE qF i_ vl dM jG qG H zg zh h0 r hp
  obtain ⟨w0,s0,zi,zj⟩:=h0
  subst zg
  subst zh
  unfold af.pl29 at hp
  unfold af.l29
  refine bind_ex (ldSl_of (w0.ld (i:=0) rfl rfl)) ?_
  refine bif_ex (fun hb=>?_) (fun hb=>?_)
  ·replace hp:=bif_t hb hp
   refine newS_k (eInt .i64) w0 (n:=1) (l:=([dM]:List Int)) rfl (CR.cons1 rfl CR.empty) rfl fun H1 w1 s1 c1=>?_
   refine bind_ex (w1.rowo (i:=0) rfl) ?_
   obtain ⟨l2,e2,hp⟩:=bind_some' hp
   refine app_k (eInt .i64) w1 (i:=2) rfl rfl (zj.step s1) c1 (show 1 = List.length ([dM]:List Int) from rfl) rfl e2 fun a3 d3 H3 w3 s3 c3 x3=>?_
   dsimp only [List.set] at w3 s3 c3
   obtain ⟨w4,s4⟩:=w3.pick' [1,2] 3 rfl rfl rfl
   dsimp only [pk,pks,nth,List.drop] at w4 s4
   exact ih rfl rfl ⟨w4,(s0.trans (s1.trans (s3.trans s4))),(zi.step (s1.trans (s3.trans s4))),(c3.step s4)⟩ hp
  ·replace hp:=bif_f hb hp
   exact af.j9_P rfl rfl ⟨w0,s0,zi,zj⟩ hp
def af.p (F:Nat) (ad:List (Int×Int×Int×Int×Int)):Option (List Int):=af.pl29 F F ad ([]:List Int) 0
theorem af.P {F:Nat} {ax:ON} {aq:Nat} {ay:Cap} {ad:List (Int×Int×Int×Int×Int)} {ab:Int} {H:Hp} {R0:List Rs} (bb:aq = ad.length) (h0:Inn H R0 fun R=>ROs (ePair (eInt .i64) (ePair (eInt .i64) (ePair (eInt .i64) (ePair (eInt .i64) (eInt .i64))))) H R ⟨ax,aq,ay⟩ ad) {r:List Int} (hp:af.p F ad = some r):∃ v H',af.tw F ⟨ax,aq,ay⟩ ab H = some (v,H')∧af.Q H R0 R0  r v H':=by
 obtain ⟨w0,aP⟩:=h0
 subst bb
 unfold af.p at hp
 unfold af.tw af.twX
 have s0:=w0.rf
 refine new_k w0 fun H1 w1 s1=>?_
 refine newS_k (eInt .i64) w1 (n:=0) (l:=([]:List Int)) rfl CR.empty rfl fun H2 w2 s2 c2=>?_
 obtain ⟨w3,s3⟩:=w2.pick' [1,0] 2 rfl rfl rfl
 dsimp only [pk,pks,nth,List.drop] at w3 s3
 exact af.l29_P F rfl (show 0 = List.length ([]:List Int) from rfl) ⟨w3,(s0.trans (s1.trans (s2.trans s3))),(aP.step (s1.trans (s2.trans s3))),(c2.step s3)⟩ hp
def aG.Q (H0:Hp) (Ri R0:List Rs)  (r:Int) (v:AV) (H':Hp):Prop:=v = (.int .i64 r)∧Out H0 Ri H' (R0) fun R=>True
def aG.S61 (H0:Hp) (Ri R0:List Rs)  (C:Int→Sl→Int→Hp→OA) (pC:Int→List Int→Int→Option (Int)):Prop:=∀ {dN df:Int} {qT:ON} {mP:Nat} {qU:Cap} {ir:List Int} {qV:List AV},∀ {H:Hp},mP = ir.length→(Out H0 Ri H (Rs.own ⟨qT,mP,qU⟩ (eInt .i64).z qV :: R0) fun R=>CR (eInt .i64) H R qV ir)→∀ {r:Int},pC dN ir df = some r→∃ v H',C dN ⟨qT,mP,qU⟩ df H = some (v,H')∧aG.Q H0 Ri R0  r v H'
def aG.pj2 (F:Nat) (aO:Int→List Int→Int→Option (Int)) (kG:Int) (mQ:List Int) (kH:Int):Option (Int):=aO kG mQ (IntKind.i64.wrap (kH + 1))
theorem aG.j2_P {F:Nat} {H0:Hp} {Ri R0:List Rs}  {C61_:Int→Sl→Int→Hp→OA} {aO:Int→List Int→Int→Option (Int)} (hC61:aG.S61 H0 Ri R0  C61_ aO) {kG kH:Int} {zk:ON} {vy:Nat} {zl:Cap} {mQ:List Int} {zm:List AV} {H:Hp} (Hg:vy = mQ.length) (h0:Out H0 Ri H (Rs.own ⟨zk,vy,zl⟩ (eInt .i64).z zm :: R0) fun R=>CR (eInt .i64) H R zm mQ) {r:Int} (hp:aG.pj2 F aO kG mQ kH = some r):∃ v H',aG.j2 F (af.tw F) C61_ kG ⟨zk,vy,zl⟩ kH H = some (v,H')∧aG.Q H0 Ri R0  r v H':=by
 obtain ⟨w0,s0,Hh⟩:=h0
 subst Hg
 unfold aG.pj2 at hp
 unfold aG.j2
 exact hC61 rfl ⟨w0,s0,Hh⟩ hp
def aG.pl61 (F:Nat) :Nat→Int→List Int→Int→Option (Int)
 | 0,_,_,_=>none
 | k + 1,dN,ir,df=>(bif (decide (df < (ir.length:Int))) then ((ix ir df).bind fun n1=>(bif ((gt ir n1) == df) then (aG.pj2 F (aG.pl61 F k) (IntKind.i64.wrap (dN + 1)) ir df) else (aG.pj2 F (aG.pl61 F k) dN ir df))) else (some dN))
termination_by structural n=>n
theorem aG.l61_P {F:Nat} {H0:Hp} {Ri R0:List Rs}  :∀ k,aG.S61 H0 Ri R0  (aG.l61 F (af.tw F)  k) (aG.pl61 F  k):=by
 intro k
 induction k with
 | zero=>
  intro dN df qT mP qU ir qV H zn h0 r hp
  exact nomatch (show (none:Option (Int)) = some r from hp)
 | succ k ih=>
  intro dN df qT mP qU ir qV H zn h0 r hp
  obtain ⟨w0,s0,vz⟩:=h0
  subst zn
  unfold aG.pl61 at hp
  unfold aG.l61
  refine bif_ex (fun hb=>?_) (fun hb=>?_)
  ·replace hp:=bif_t hb hp
   obtain ⟨n1,g1,hp⟩:=bind_some' hp
   obtain ⟨p1,q1,i1,h1,j1⟩:=W.ixo (E:=(eInt .i64)) w0 (i:=0) rfl rfl vz g1
   refine bind_ex i1 ?_
   have h1:_ = [_]:=h1
   subst h1
   refine bind_ex (ldI_of (j1 0 _ rfl)) ?_
   refine bif_ex (fun hb=>?_) (fun hb=>?_)
   ·replace hp:=bif_t hb hp
    exact aG.j2_P (@ih) rfl ⟨w0,s0,vz⟩ hp
   ·replace hp:=bif_f hb hp
    exact aG.j2_P (@ih) rfl ⟨w0,s0,vz⟩ hp
  ·replace hp:=bif_f hb hp
   obtain ⟨w2,s2⟩:=w0.pick' [] 1 rfl rfl rfl
   dsimp only [pk,pks,nth,List.drop] at w2 s2
   obtain rfl:=Option.some.inj hp
   exact ⟨_,_,rfl,rfl,w2,(s0.trans s2),trivial⟩
def aG.p (F:Nat) (ad:List (Int×Int×Int×Int×Int)):Option (Int):=(af.p F ad).bind fun r2=>aG.pl61 F F 0 r2 0
theorem aG.P {F:Nat} {ax:ON} {aq:Nat} {ay:Cap} {ad:List (Int×Int×Int×Int×Int)} {ab:Int} {H:Hp} {R0:List Rs} (bb:aq = ad.length) (h0:Inn H R0 fun R=>ROs (ePair (eInt .i64) (ePair (eInt .i64) (ePair (eInt .i64) (ePair (eInt .i64) (eInt .i64))))) H R ⟨ax,aq,ay⟩ ad) {r:Int} (hp:aG.p F ad = some r):∃ v H',aG.tw F ⟨ax,aq,ay⟩ ab H = some (v,H')∧aG.Q H R0 R0  r v H':=by
 obtain ⟨w0,aP⟩:=h0
 subst bb
 unfold aG.p at hp
 unfold aG.tw aG.twX
 have s0:=w0.rf
 refine new_k w0 fun H1 w1 s1=>?_
 refine bind_ex (ldSl_of (w1.ld (i:=0) rfl rfl)) ?_
 refine bind_ex (ldI_of (w1.ld (i:=0) rfl rfl)) ?_
 obtain ⟨r2,e2,hp⟩:=bind_some' hp
 refine call_ex (af.P rfl ⟨w1,(aP.step s1)⟩ e2) ?_
 rintro _ H3 ⟨o0a_3,o0n_3,o0c_3,o0k_3,rfl,rfl,w3,s3,f3_0⟩
 refine bind_ex rfl ?_
 obtain ⟨w4,s4⟩:=w3.pick' [0] 2 rfl rfl rfl
 dsimp only [pk,pks,nth,List.drop] at w4 s4
 exact aG.l61_P F rfl ⟨w4,(s0.trans (s1.trans (s3.trans s4))),(f3_0.step s4)⟩ hp
def bv.Q (H0:Hp) (Ri R0:List Rs)  (r:Bool) (v:AV) (H':Hp):Prop:=v = (.bool r)∧Out H0 Ri H' (R0) fun R=>True
def bv.p (F:Nat) (ad:List (Int×Int×Int×Int×Int)) (ab:Int):Option (Bool):=(bif (decide ((ad.length:Int) > 10)) then (some false) else ((aZ.p F ab 0 8).bind fun r3=>(bif (!r3) then (some false) else ((au.p F ad).bind fun r6=>(bif (!r6) then (some false) else ((ah.p F ad).bind fun r9=>(aG.p F ad).bind fun r12=>some ((r9.length:Int) == (IntKind.i64.wrap ((ad.length:Int) + (IntKind.i64.wrap (2 * r12)))))))))))
theorem bv.P {F:Nat} {ax:ON} {aq:Nat} {ay:Cap} {ad:List (Int×Int×Int×Int×Int)} {ab:Int} {H:Hp} {R0:List Rs} (bb:aq = ad.length) (h0:Inn H R0 fun R=>ROs (ePair (eInt .i64) (ePair (eInt .i64) (ePair (eInt .i64) (ePair (eInt .i64) (eInt .i64))))) H R ⟨ax,aq,ay⟩ ad) {r:Bool} (hp:bv.p F ad ab = some r):∃ v H',bv.tw F ⟨ax,aq,ay⟩ ab H = some (v,H')∧bv.Q H R0 R0  r v H':=by
 obtain ⟨w0,aP⟩:=h0
 subst bb
 unfold bv.p at hp
 unfold bv.tw bv.twX
 have s0:=w0.rf
 refine new_k w0 fun H1 w1 s1=>?_
 refine bind_ex (ldSl_of (w1.ld (i:=0) rfl rfl)) ?_
 refine bif_ex (fun hb=>?_) (fun hb=>?_)
 ·replace hp:=bif_t hb hp
  obtain ⟨w2,s2⟩:=w1.pick' [] 1 rfl rfl rfl
  dsimp only [pk,pks,nth,List.drop] at w2 s2
  obtain rfl:=Option.some.inj hp
  exact ⟨_,_,rfl,rfl,w2,(s0.trans (s1.trans s2)),trivial⟩
 ·replace hp:=bif_f hb hp
  refine bind_ex (ldI_of (w1.ld (i:=0) rfl rfl)) ?_
  obtain ⟨r3,e3,hp⟩:=bind_some' hp
  refine call_ex (aZ.P ⟨w1,trivial⟩ e3) ?_
  rintro _ H4 ⟨rfl,w4,s4,_⟩
  refine bind_ex rfl ?_
  refine bif_ex (fun hb=>?_) (fun hb=>?_)
  ·replace hp:=bif_t hb hp
   obtain ⟨w5,s5⟩:=w4.pick' [] 1 rfl rfl rfl
   dsimp only [pk,pks,nth,List.drop] at w5 s5
   obtain rfl:=Option.some.inj hp
   exact ⟨_,_,rfl,rfl,w5,(s0.trans (s1.trans (s4.trans s5))),trivial⟩
  ·replace hp:=bif_f hb hp
   refine bind_ex (ldSl_of (w4.ld (i:=0) rfl rfl)) ?_
   refine bind_ex (ldI_of (w4.ld (i:=0) rfl rfl)) ?_
   obtain ⟨r6,e6,hp⟩:=bind_some' hp
   refine call_ex (au.P rfl ⟨w4,(aP.step (s1.trans s4))⟩ e6) ?_
   rintro _ H7 ⟨rfl,w7,s7,_⟩
   refine bind_ex rfl ?_
   refine bif_ex (fun hb=>?_) (fun hb=>?_)
   ·replace hp:=bif_t hb hp
    obtain ⟨w8,s8⟩:=w7.pick' [] 1 rfl rfl rfl
    dsimp only [pk,pks,nth,List.drop] at w8 s8
    obtain rfl:=Option.some.inj hp
    exact ⟨_,_,rfl,rfl,w8,(s0.trans (s1.trans (s4.trans (s7.trans s8)))),trivial⟩
   ·replace hp:=bif_f hb hp
    refine bind_ex (ldSl_of (w7.ld (i:=0) rfl rfl)) ?_
    refine bind_ex (ldI_of (w7.ld (i:=0) rfl rfl)) ?_
    obtain ⟨r9,e9,hp⟩:=bind_some' hp
    refine call_ex (ah.P rfl ⟨w7,(aP.step (s1.trans (s4.trans s7)))⟩ e9) ?_
    rintro _ H10 ⟨o0a_10,o0n_10,o0c_10,o0k_10,rfl,rfl,w10,s10,f10_0⟩
    refine bind_ex rfl ?_
    refine ifs_ex (W.cons_of (Rn:=[_]) w7 w10 s10) ?_
    refine bind_ex (ldSl_of (w10.ld (i:=1) rfl rfl)) ?_
    refine bind_ex (ldSl_of (w10.ld (i:=1) rfl rfl)) ?_
    refine bind_ex (ldI_of (w10.ld (i:=1) rfl rfl)) ?_
    obtain ⟨r12,e12,hp⟩:=bind_some' hp
    refine call_ex (aG.P rfl ⟨w10,(aP.step (s1.trans (s4.trans (s7.trans s10))))⟩ e12) ?_
    rintro _ H13 ⟨rfl,w13,s13,_⟩
    refine bind_ex rfl ?_
    refine ifs_ex (W.cons_of (Rn:=[]) w10 w13 s13) ?_
    obtain ⟨w15,s15⟩:=w13.pick' [] 2 rfl rfl rfl
    dsimp only [pk,pks,nth,List.drop] at w15 s15
    obtain rfl:=Option.some.inj hp
    exact ⟨_,_,rfl,rfl,w15,(s0.trans (s1.trans (s4.trans (s7.trans (s10.trans (s13.trans s15)))))),trivial⟩
def ak.Q (H0:Hp) (Ri R0:List Rs)  (r:List Int) (v:AV) (H':Hp):Prop:=∃ o0a:ON,∃ o0n:Nat,∃ o0c:Cap,∃ o0k:List AV,v = (.sl ⟨o0a,o0n,o0c⟩)∧o0n = (r).length∧Out H0 Ri H' (Rs.own ⟨o0a,o0n,o0c⟩ (eInt .i64).z o0k :: R0) fun R=>CR (eInt .i64) H' R o0k (r)
def ak.S61 (H0:Hp) (Ri R0:List Rs)  (C:Sl→Sl→Int→Hp→OA) (pC:List Int→List (List Int)→Int→Option (List Int)):Prop:=∀ {qW qX:ON} {mR mS:Nat} {qY qZ:Cap} {jH:List Int} {q_ ra:List AV} {jI:List (List Int)} {fd:Int},∀ {H:Hp},mR = jH.length→mS = jI.length→(Out H0 Ri H (Rs.own ⟨qW,mR,qY⟩ (eInt .i64).z q_ :: Rs.own ⟨qX,mS,qZ⟩ (eSl (eInt .i64)).z ra :: R0) fun R=>CR (eInt .i64) H R q_ jH∧CR (eSl (eInt .i64)) H R ra jI)→∀ {r:List Int},pC jH jI fd = some r→∃ v H',C ⟨qW,mR,qY⟩ ⟨qX,mS,qZ⟩ fd H = some (v,H')∧ak.Q H0 Ri R0  r v H'
def ak.S981 (H0:Hp) (Ri R0:List Rs)  (C:Sl→Sl→Int→Int→Hp→OA) (pC:List Int→List (List Int)→Int→Int→Option (List Int)):Prop:=∀ {rb rc:ON} {mT mU:Nat} {rd rh:Cap} {jb:List Int} {ri rj:List AV} {gE:List (List Int)} {c_ ez:Int},∀ {H:Hp},mT = jb.length→mU = gE.length→(Out H0 Ri H (Rs.own ⟨rb,mT,rd⟩ (eInt .i64).z ri :: Rs.own ⟨rc,mU,rh⟩ (eSl (eInt .i64)).z rj :: R0) fun R=>CR (eInt .i64) H R ri jb∧CR (eSl (eInt .i64)) H R rj gE)→∀ {r:List Int},pC jb gE c_ ez = some r→∃ v H',C ⟨rb,mT,rd⟩ ⟨rc,mU,rh⟩ c_ ez H = some (v,H')∧ak.Q H0 Ri R0  r v H'
def ak.pj3 (F:Nat) (aO:List Int→List (List Int)→Int→Option (List Int)) (mV:List Int) (mW:List (List Int)) (kI:Int):Option (List Int):=aO mV mW (IntKind.i64.wrap (kI + 1))
theorem ak.j3_P {F:Nat} {H0:Hp} {Ri R0:List Rs}  {C61_:Sl→Sl→Int→Hp→OA} {aO:List Int→List (List Int)→Int→Option (List Int)} (hC61:ak.S61 H0 Ri R0  C61_ aO) {zo zp:ON} {vA vB:Nat} {zq zr:Cap} {mV:List Int} {zt zu:List AV} {mW:List (List Int)} {kI:Int} {H:Hp} (Hi:vA = mV.length) (Hj:vB = mW.length) (h0:Out H0 Ri H (Rs.own ⟨zo,vA,zq⟩ (eInt .i64).z zt :: Rs.own ⟨zp,vB,zr⟩ (eSl (eInt .i64)).z zu :: R0) fun R=>CR (eInt .i64) H R zt mV∧CR (eSl (eInt .i64)) H R zu mW) {r:List Int} (hp:ak.pj3 F aO mV mW kI = some r):∃ v H',ak.j3 F (ah.tw F) C61_ ⟨zo,vA,zq⟩ ⟨zp,vB,zr⟩ kI H = some (v,H')∧ak.Q H0 Ri R0  r v H':=by
 obtain ⟨w0,s0,Hk,Hl⟩:=h0
 subst Hi
 subst Hj
 unfold ak.pj3 at hp
 unfold ak.j3
 exact hC61 rfl rfl ⟨w0,s0,Hk,Hl⟩ hp
def ak.pj4 (F:Nat) (aO:List Int→List (List Int)→Int→Option (List Int)) (mX:List Int) (mY:List (List Int)) (kJ:Int):Option (List Int):=ak.pj3 F aO mX mY kJ
theorem ak.j4_P {F:Nat} {H0:Hp} {Ri R0:List Rs}  {C61_:Sl→Sl→Int→Hp→OA} {aO:List Int→List (List Int)→Int→Option (List Int)} (hC61:ak.S61 H0 Ri R0  C61_ aO) {zv zw:ON} {vC vD:Nat} {zx zy:Cap} {mX:List Int} {zz zA:List AV} {mY:List (List Int)} {kJ:Int} {H:Hp} (Hm:vC = mX.length) (Hn:vD = mY.length) (h0:Out H0 Ri H (Rs.own ⟨zv,vC,zx⟩ (eInt .i64).z zz :: Rs.own ⟨zw,vD,zy⟩ (eSl (eInt .i64)).z zA :: R0) fun R=>CR (eInt .i64) H R zz mX∧CR (eSl (eInt .i64)) H R zA mY) {r:List Int} (hp:ak.pj4 F aO mX mY kJ = some r):∃ v H',ak.j4 F (ah.tw F) C61_ ⟨zv,vC,zx⟩ ⟨zw,vD,zy⟩ kJ H = some (v,H')∧ak.Q H0 Ri R0  r v H':=by
 obtain ⟨w0,s0,Ho,Hq⟩:=h0
 subst Hm
 subst Hn
 unfold ak.pj4 at hp
 unfold ak.j4
 exact ak.j3_P (@hC61) rfl rfl ⟨w0,s0,Ho,Hq⟩ hp
def ak.pl981 (F:Nat) (aO:List Int→List (List Int)→Int→Option (List Int)):Nat→List Int→List (List Int)→Int→Int→Option (List Int)
 | 0,_,_,_,_=>none
 | k + 1,jb,gE,c_,ez=>(ix gE c_).bind fun n1=>(bif (decide (ez < (((gt gE n1).length):Int))) then ((ix gE c_).bind fun n2=>(ix (gt gE n2) ez).bind fun n3=>(ix jb (gt (gt gE n2) n3)).bind fun n4=>(some (jb.set n4 c_)).bind fun l5=>ak.pl981 F aO k l5 gE c_ (IntKind.i64.wrap (ez + 1))) else (ak.pj4 F aO jb gE c_))
termination_by structural n=>n
theorem ak.l981_P {F:Nat} {H0:Hp} {Ri R0:List Rs}  {C61_:Sl→Sl→Int→Hp→OA} {aO:List Int→List (List Int)→Int→Option (List Int)} (hC61:ak.S61 H0 Ri R0  C61_ aO):∀ k,ak.S981 H0 Ri R0  (ak.l981 F (ah.tw F) C61_ k) (ak.pl981 F aO k):=by
 intro k
 induction k with
 | zero=>
  intro rb rc mT mU rd rh jb ri rj gE c_ ez H zB zC h0 r hp
  exact nomatch (show (none:Option (List Int)) = some r from hp)
 | succ k ih=>
  intro rb rc mT mU rd rh jb ri rj gE c_ ez H zB zC h0 r hp
  obtain ⟨w0,s0,vE,rl⟩:=h0
  subst zB
  subst zC
  unfold ak.pl981 at hp
  unfold ak.l981
  obtain ⟨n1,g1,hp⟩:=bind_some' hp
  obtain ⟨p1,q1,i1,h1,j1⟩:=W.ixo (E:=(eSl (eInt .i64))) w0 (i:=1) rfl rfl rl g1
  refine bind_ex i1 ?_
  obtain ⟨⟨Hr,m1_0,c1_0⟩,rfl,f1_0⟩:=h1
  obtain rfl:m1_0 = _:=f1_0.n
  refine bind_ex (ldSl_of (j1 0 _ rfl)) ?_
  refine bif_ex (fun hb=>?_) (fun hb=>?_)
  ·replace hp:=bif_t hb hp
   obtain ⟨n2,g2,hp⟩:=bind_some' hp
   obtain ⟨p2,q2,i2,h2,j2⟩:=W.ixo (E:=(eSl (eInt .i64))) w0 (i:=1) rfl rfl rl g2
   refine bind_ex i2 ?_
   obtain ⟨⟨JY,m2_0,c2_0⟩,rfl,f2_0⟩:=h2
   obtain rfl:m2_0 = _:=f2_0.n
   refine bind_ex (ldSl_of (j2 0 _ rfl)) ?_
   obtain ⟨n3,g3,hp⟩:=bind_some' hp
   obtain ⟨p3,q3,i3,h3,j3⟩:=ROs.ixr f2_0 rfl g3
   refine bind_ex i3 ?_
   have h3:_ = [_]:=h3
   subst h3
   refine bind_ex (ldI_of (j3 0 _ rfl)) ?_
   obtain ⟨n4,g4,hp⟩:=bind_some' hp
   obtain ⟨p4,q4,i4,h4,j4⟩:=W.ixo (E:=(eInt .i64)) w0 (i:=0) rfl rfl vE g4
   refine bind_ex i4 ?_
   obtain ⟨l5,e5,hp⟩:=bind_some' hp
   refine sto_k (eInt .i64) w0 (i:=0) (j:=0) (p:=p4) rfl rfl vE g4 i4 e5 rfl rfl (fun _ h=>by have h:_ = [_]:=h; subst h; exact rfl) fun H6 k6 w6 s6 c6=>?_
   dsimp only [List.set] at w6 s6 c6
   exact ih ((st_len e5).symm) rfl ⟨w6,(s0.trans s6),c6,(rl.step s6)⟩ hp
  ·replace hp:=bif_f hb hp
   exact ak.j4_P (@hC61) rfl rfl ⟨w0,s0,vE,rl⟩ hp
def ak.pl61 (F:Nat) :Nat→List Int→List (List Int)→Int→Option (List Int)
 | 0,_,_,_=>none
 | k + 1,jH,jI,fd=>(bif (decide (fd < (jI.length:Int))) then (ak.pl981 F (ak.pl61 F k) F jH jI fd 0) else (some jH))
termination_by structural n=>n
theorem ak.l61_P {F:Nat} {H0:Hp} {Ri R0:List Rs}  :∀ k,ak.S61 H0 Ri R0  (ak.l61 F (ah.tw F)  k) (ak.pl61 F  k):=by
 intro k
 induction k with
 | zero=>
  intro qW qX mR mS qY qZ jH q_ ra jI fd H zD zE h0 r hp
  exact nomatch (show (none:Option (List Int)) = some r from hp)
 | succ k ih=>
  intro qW qX mR mS qY qZ jH q_ ra jI fd H zD zE h0 r hp
  obtain ⟨w0,s0,zF,Hs⟩:=h0
  subst zD
  subst zE
  unfold ak.pl61 at hp
  unfold ak.l61
  refine bif_ex (fun hb=>?_) (fun hb=>?_)
  ·replace hp:=bif_t hb hp
   exact ak.l981_P (@ih) F rfl rfl ⟨w0,s0,zF,Hs⟩ hp
  ·replace hp:=bif_f hb hp
   obtain ⟨w1,s1⟩:=w0.pick' [0] 2 rfl rfl rfl
   dsimp only [pk,pks,nth,List.drop] at w1 s1
   obtain rfl:=Option.some.inj hp
   exact ⟨_,_,rfl,_,_,_,_,rfl,rfl,w1,(s0.trans s1),(zF.step s1)⟩
def ak.p (F:Nat) (ad:List (Int×Int×Int×Int×Int)):Option (List Int):=(mkn (IntKind.i64.wrap (4 * (ad.length:Int))) (0:Int)).bind fun l2=>(ah.p F ad).bind fun r4=>ak.pl61 F F l2 r4 0
theorem ak.P {F:Nat} {ax:ON} {aq:Nat} {ay:Cap} {ad:List (Int×Int×Int×Int×Int)} {ab:Int} {H:Hp} {R0:List Rs} (bb:aq = ad.length) (h0:Inn H R0 fun R=>ROs (ePair (eInt .i64) (ePair (eInt .i64) (ePair (eInt .i64) (ePair (eInt .i64) (eInt .i64))))) H R ⟨ax,aq,ay⟩ ad) {r:List Int} (hp:ak.p F ad = some r):∃ v H',ak.tw F ⟨ax,aq,ay⟩ ab H = some (v,H')∧ak.Q H R0 R0  r v H':=by
 obtain ⟨w0,aP⟩:=h0
 subst bb
 unfold ak.p at hp
 unfold ak.tw ak.twX
 have s0:=w0.rf
 refine new_k w0 fun H1 w1 s1=>?_
 refine bind_ex (ldSl_of (w1.ld (i:=0) rfl rfl)) ?_
 obtain ⟨l2,e2,hp⟩:=bind_some' hp
 refine mk_k (eInt .i64) (0:Int) w1 rfl rfl rfl e2 fun H3 k3 w3 s3 c3=>?_
 refine bind_ex (ldSl_of (w3.ld (i:=1) rfl rfl)) ?_
 refine bind_ex (ldI_of (w3.ld (i:=1) rfl rfl)) ?_
 obtain ⟨r4,e4,hp⟩:=bind_some' hp
 refine call_ex (ah.P rfl ⟨w3,(aP.step (s1.trans s3))⟩ e4) ?_
 rintro _ H5 ⟨o0a_5,o0n_5,o0c_5,o0k_5,rfl,rfl,w5,s5,f5_0⟩
 refine bind_ex rfl ?_
 obtain ⟨w6,s6⟩:=w5.pick' [1,0] 3 rfl rfl rfl
 dsimp only [pk,pks,nth,List.drop] at w6 s6
 exact ak.l61_P F rfl rfl ⟨w6,(s0.trans (s1.trans (s3.trans (s5.trans s6)))),(c3.step (s5.trans s6)),(f5_0.step s6)⟩ hp
def ac.Q (H0:Hp) (Ri R0:List Rs)  (r:List Int) (v:AV) (H':Hp):Prop:=∃ o0a:ON,∃ o0n:Nat,∃ o0c:Cap,∃ o0k:List AV,v = (.sl ⟨o0a,o0n,o0c⟩)∧o0n = (r).length∧Out H0 Ri H' (Rs.own ⟨o0a,o0n,o0c⟩ (eInt .i64).z o0k :: R0) fun R=>CR (eInt .i64) H' R o0k (r)
def ac.S125 (H0:Hp) (Ri R0:List Rs)  (C:Sl→Sl→Sl→Int→Hp→OA) (pC:List Int→List Int→List Int→Int→Option (List Int)):Prop:=∀ {rm rn jc:ON} {mZ m_ iu:Nat} {ro rp jd:Cap} {jJ jK eY:List Int} {rq rr je:List AV} {eA:Int},∀ {H:Hp},mZ = jJ.length→m_ = jK.length→iu = eY.length→(Out H0 Ri H (Rs.own ⟨rm,mZ,ro⟩ (eInt .i64).z rq :: Rs.own ⟨rn,m_,rp⟩ (eInt .i64).z rr :: Rs.own ⟨jc,iu,jd⟩ (eInt .i64).z je :: R0) fun R=>CR (eInt .i64) H R rq jJ∧CR (eInt .i64) H R rr jK∧CR (eInt .i64) H R je eY)→∀ {r:List Int},pC jJ jK eY eA = some r→∃ v H',C ⟨rm,mZ,ro⟩ ⟨rn,m_,rp⟩ ⟨jc,iu,jd⟩ eA H = some (v,H')∧ac.Q H0 Ri R0  r v H'
def ac.S253 (H0:Hp) (Ri R0:List Rs)  (C:Sl→Sl→Sl→Int→Hp→OA) (pC:List Int→List Int→List Int→Int→Option (List Int)):Prop:=∀ {rs rt ru:ON} {na nb nc:Nat} {rv rx ry:Cap} {iv iw iH:List Int} {rz rA rB:List AV} {cT:Int},∀ {H:Hp},na = iv.length→nb = iw.length→nc = iH.length→(Out H0 Ri H (Rs.own ⟨rs,na,rv⟩ (eInt .i64).z rz :: Rs.own ⟨rt,nb,rx⟩ (eInt .i64).z rA :: Rs.own ⟨ru,nc,ry⟩ (eInt .i64).z rB :: R0) fun R=>CR (eInt .i64) H R rz iv∧CR (eInt .i64) H R rA iw∧CR (eInt .i64) H R rB iH)→∀ {r:List Int},pC iv iw iH cT = some r→∃ v H',C ⟨rs,na,rv⟩ ⟨rt,nb,rx⟩ ⟨ru,nc,ry⟩ cT H = some (v,H')∧ac.Q H0 Ri R0  r v H'
def ac.pj28 (F:Nat) (gc:List Int→List Int→List Int→Int→Option (List Int)) (nd:List Int) (ng:List Int) (nh:List Int) (kU:Int):Option (List Int):=gc nd ng nh (IntKind.i64.wrap (kU + 1))
theorem ac.j28_P {F:Nat} {H0:Hp} {Ri R0:List Rs}  {C253_:Sl→Sl→Sl→Int→Hp→OA} {gc:List Int→List Int→List Int→Int→Option (List Int)} (hC253:ac.S253 H0 Ri R0  C253_ gc) {zG zH zI:ON} {vF vG vH:Nat} {zJ zK zL:Cap} {nd ng nh:List Int} {zM zN zO:List AV} {kU:Int} {H:Hp} (Ht:vF = nd.length) (Hu:vG = ng.length) (Hv:vH = nh.length) (h0:Out H0 Ri H (Rs.own ⟨zG,vF,zJ⟩ (eInt .i64).z zM :: Rs.own ⟨zH,vG,zK⟩ (eInt .i64).z zN :: Rs.own ⟨zI,vH,zL⟩ (eInt .i64).z zO :: R0) fun R=>CR (eInt .i64) H R zM nd∧CR (eInt .i64) H R zN ng∧CR (eInt .i64) H R zO nh) {r:List Int} (hp:ac.pj28 F gc nd ng nh kU = some r):∃ v H',ac.j28 F (ak.tw F) (af.tw F) (ah.tw F) C253_ ⟨zG,vF,zJ⟩ ⟨zH,vG,zK⟩ ⟨zI,vH,zL⟩ kU H = some (v,H')∧ac.Q H0 Ri R0  r v H':=by
 obtain ⟨w0,s0,Hw,Hx,Hy⟩:=h0
 subst Ht
 subst Hu
 subst Hv
 unfold ac.pj28 at hp
 unfold ac.j28
 exact hC253 rfl rfl rfl ⟨w0,s0,Hw,Hx,Hy⟩ hp
def ac.pj29 (F:Nat) (gc:List Int→List Int→List Int→Int→Option (List Int)) (ni:List Int) (nj:List Int) (nk:List Int) (kV:Int):Option (List Int):=gc ni nj nk (IntKind.i64.wrap (kV + 1))
theorem ac.j29_P {F:Nat} {H0:Hp} {Ri R0:List Rs}  {C253_:Sl→Sl→Sl→Int→Hp→OA} {gc:List Int→List Int→List Int→Int→Option (List Int)} (hC253:ac.S253 H0 Ri R0  C253_ gc) {zP zQ zR:ON} {vI vJ vK:Nat} {zS zT zU:Cap} {ni nj nk:List Int} {zV zW zX:List AV} {kV:Int} {H:Hp} (Hz:vI = ni.length) (HA:vJ = nj.length) (HB:vK = nk.length) (h0:Out H0 Ri H (Rs.own ⟨zP,vI,zS⟩ (eInt .i64).z zV :: Rs.own ⟨zQ,vJ,zT⟩ (eInt .i64).z zW :: Rs.own ⟨zR,vK,zU⟩ (eInt .i64).z zX :: R0) fun R=>CR (eInt .i64) H R zV ni∧CR (eInt .i64) H R zW nj∧CR (eInt .i64) H R zX nk) {r:List Int} (hp:ac.pj29 F gc ni nj nk kV = some r):∃ v H',ac.j29 F (ak.tw F) (af.tw F) (ah.tw F) C253_ ⟨zP,vI,zS⟩ ⟨zQ,vJ,zT⟩ ⟨zR,vK,zU⟩ kV H = some (v,H')∧ac.Q H0 Ri R0  r v H':=by
 obtain ⟨w0,s0,HC,HD,HE⟩:=h0
 subst Hz
 subst HA
 subst HB
 unfold ac.pj29 at hp
 unfold ac.j29
 exact hC253 rfl rfl rfl ⟨w0,s0,HC,HD,HE⟩ hp
def ac.S509 (H0:Hp) (Ri R0:List Rs)  (C:Sl→Sl→Bool→Hp→OA) (pC:List Int→List Int→Bool→Option (List Int)):Prop:=∀ {rC rD:ON} {nl nm:Nat} {rE rF:Cap} {kg jL:List Int} {rG rH:List AV} {fE:Bool},∀ {H:Hp},nl = kg.length→nm = jL.length→(Out H0 Ri H (Rs.own ⟨rC,nl,rE⟩ (eInt .i64).z rG :: Rs.own ⟨rD,nm,rF⟩ (eInt .i64).z rH :: R0) fun R=>CR (eInt .i64) H R rG kg∧CR (eInt .i64) H R rH jL)→∀ {r:List Int},pC kg jL fE = some r→∃ v H',C ⟨rC,nl,rE⟩ ⟨rD,nm,rF⟩ fE H = some (v,H')∧ac.Q H0 Ri R0  r v H'
def ac.S8151 (H0:Hp) (Ri R0:List Rs)  (C:Sl→Sl→Bool→Int→Hp→OA) (pC:List Int→List Int→Bool→Int→Option (List Int)):Prop:=∀ {rI rJ:ON} {nn np:Nat} {rK rL:Cap} {cJ cX:List Int} {rM rN:List AV} {du:Bool} {bZ:Int},∀ {H:Hp},nn = cJ.length→np = cX.length→(Out H0 Ri H (Rs.own ⟨rI,nn,rK⟩ (eInt .i64).z rM :: Rs.own ⟨rJ,np,rL⟩ (eInt .i64).z rN :: R0) fun R=>CR (eInt .i64) H R rM cJ∧CR (eInt .i64) H R rN cX)→∀ {r:List Int},pC cJ cX du bZ = some r→∃ v H',C ⟨rI,nn,rK⟩ ⟨rJ,np,rL⟩ du bZ H = some (v,H')∧ac.Q H0 Ri R0  r v H'
def ac.pj22 (F:Nat) (cY:List Int→List Int→Bool→Int→Option (List Int)) (nq:List Int) (nr:List Int) (kM:Bool) (kN:Int):Option (List Int):=cY nq nr kM (IntKind.i64.wrap (kN + 1))
theorem ac.j22_P {F:Nat} {H0:Hp} {Ri R0:List Rs}  {C8151_:Sl→Sl→Bool→Int→Hp→OA} {cY:List Int→List Int→Bool→Int→Option (List Int)} (hC8151:ac.S8151 H0 Ri R0  C8151_ cY) {zY zZ:ON} {vL vM:Nat} {z_ Aa:Cap} {nq nr:List Int} {Ab Ac:List AV} {kM:Bool} {kN:Int} {H:Hp} (HF:vL = nq.length) (HG:vM = nr.length) (h0:Out H0 Ri H (Rs.own ⟨zY,vL,z_⟩ (eInt .i64).z Ab :: Rs.own ⟨zZ,vM,Aa⟩ (eInt .i64).z Ac :: R0) fun R=>CR (eInt .i64) H R Ab nq∧CR (eInt .i64) H R Ac nr) {r:List Int} (hp:ac.pj22 F cY nq nr kM kN = some r):∃ v H',ac.j22 F (ak.tw F) (af.tw F) (ah.tw F) C8151_ ⟨zY,vL,z_⟩ ⟨zZ,vM,Aa⟩ kM kN H = some (v,H')∧ac.Q H0 Ri R0  r v H':=by
 obtain ⟨w0,s0,HH,HI⟩:=h0
 subst HF
 subst HG
 unfold ac.pj22 at hp
 unfold ac.j22
 exact hC8151 rfl rfl ⟨w0,s0,HH,HI⟩ hp
def ac.pj23 (F:Nat) (cY:List Int→List Int→Bool→Int→Option (List Int)) (ns:List Int) (nu:List Int) (kO:Bool) (kP:Int):Option (List Int):=cY ns nu kO (IntKind.i64.wrap (kP + 1))
theorem ac.j23_P {F:Nat} {H0:Hp} {Ri R0:List Rs}  {C8151_:Sl→Sl→Bool→Int→Hp→OA} {cY:List Int→List Int→Bool→Int→Option (List Int)} (hC8151:ac.S8151 H0 Ri R0  C8151_ cY) {Ad Ae:ON} {vN vO:Nat} {Af Ag:Cap} {ns nu:List Int} {Ah Ai:List AV} {kO:Bool} {kP:Int} {H:Hp} (HJ:vN = ns.length) (HK:vO = nu.length) (h0:Out H0 Ri H (Rs.own ⟨Ad,vN,Af⟩ (eInt .i64).z Ah :: Rs.own ⟨Ae,vO,Ag⟩ (eInt .i64).z Ai :: R0) fun R=>CR (eInt .i64) H R Ah ns∧CR (eInt .i64) H R Ai nu) {r:List Int} (hp:ac.pj23 F cY ns nu kO kP = some r):∃ v H',ac.j23 F (ak.tw F) (af.tw F) (ah.tw F) C8151_ ⟨Ad,vN,Af⟩ ⟨Ae,vO,Ag⟩ kO kP H = some (v,H')∧ac.Q H0 Ri R0  r v H':=by
 obtain ⟨w0,s0,HL,HM⟩:=h0
 subst HJ
 subst HK
 unfold ac.pj23 at hp
 unfold ac.j23
 exact hC8151 rfl rfl ⟨w0,s0,HL,HM⟩ hp
def ac.pj24 (F:Nat) (cY:List Int→List Int→Bool→Int→Option (List Int)) (iy:List Int) (gd:List Int) (jt:Bool) (fX:Int) (ju:Int):Option (List Int):=(ix gd ju).bind fun n1=>(bif (decide ((gt gd n1) ≥ 0)) then ((ix iy fX).bind fun n2=>(ix gd (gt iy n2)).bind fun n3=>(bif (decide ((gt gd n3) < 0)) then ((ix iy fX).bind fun n4=>(ix gd ju).bind fun n5=>(ix gd (gt iy n4)).bind fun n6=>(some (gd.set n6 (IntKind.i64.wrap (1 - (gt gd n5))))).bind fun l7=>ac.pj22 F cY iy l7 true fX) else (ac.pj23 F cY iy gd jt fX))) else (cY iy gd jt (IntKind.i64.wrap (fX + 1))))
theorem ac.j24_P {F:Nat} {H0:Hp} {Ri R0:List Rs}  {C8151_:Sl→Sl→Bool→Int→Hp→OA} {cY:List Int→List Int→Bool→Int→Option (List Int)} (hC8151:ac.S8151 H0 Ri R0  C8151_ cY) {Aj Ak:ON} {vP vQ:Nat} {Al Am:Cap} {iy gd:List Int} {An Ao:List AV} {jt:Bool} {fX ju:Int} {H:Hp} (HN:vP = iy.length) (HO:vQ = gd.length) (h0:Out H0 Ri H (Rs.own ⟨Aj,vP,Al⟩ (eInt .i64).z An :: Rs.own ⟨Ak,vQ,Am⟩ (eInt .i64).z Ao :: R0) fun R=>CR (eInt .i64) H R An iy∧CR (eInt .i64) H R Ao gd) {r:List Int} (hp:ac.pj24 F cY iy gd jt fX ju = some r):∃ v H',ac.j24 F (ak.tw F) (af.tw F) (ah.tw F) C8151_ ⟨Aj,vP,Al⟩ ⟨Ak,vQ,Am⟩ jt fX ju H = some (v,H')∧ac.Q H0 Ri R0  r v H':=by
 obtain ⟨w0,s0,nv,kh⟩:=h0
 subst HN
 subst HO
 unfold ac.pj24 at hp
 unfold ac.j24
 obtain ⟨n1,g1,hp⟩:=bind_some' hp
 obtain ⟨p1,q1,i1,h1,j1⟩:=W.ixo (E:=(eInt .i64)) w0 (i:=1) rfl rfl kh g1
 refine bind_ex i1 ?_
 have h1:_ = [_]:=h1
 subst h1
 refine bind_ex (ldI_of (j1 0 _ rfl)) ?_
 refine bif_ex (fun hb=>?_) (fun hb=>?_)
 ·replace hp:=bif_t hb hp
  obtain ⟨n2,g2,hp⟩:=bind_some' hp
  obtain ⟨p2,q2,i2,h2,j2⟩:=W.ixo (E:=(eInt .i64)) w0 (i:=0) rfl rfl nv g2
  refine bind_ex i2 ?_
  have h2:_ = [_]:=h2
  subst h2
  refine bind_ex (ldI_of (j2 0 _ rfl)) ?_
  obtain ⟨n3,g3,hp⟩:=bind_some' hp
  obtain ⟨p3,q3,i3,h3,j3⟩:=W.ixo (E:=(eInt .i64)) w0 (i:=1) rfl rfl kh g3
  refine bind_ex i3 ?_
  have h3:_ = [_]:=h3
  subst h3
  refine bind_ex (ldI_of (j3 0 _ rfl)) ?_
  refine bif_ex (fun hb=>?_) (fun hb=>?_)
  ·replace hp:=bif_t hb hp
   obtain ⟨n4,g4,hp⟩:=bind_some' hp
   obtain ⟨p4,q4,i4,h4,j4⟩:=W.ixo (E:=(eInt .i64)) w0 (i:=0) rfl rfl nv g4
   refine bind_ex i4 ?_
   have h4:_ = [_]:=h4
   subst h4
   refine bind_ex (ldI_of (j4 0 _ rfl)) ?_
   obtain ⟨n5,g5,hp⟩:=bind_some' hp
   obtain ⟨p5,q5,i5,h5,j5⟩:=W.ixo (E:=(eInt .i64)) w0 (i:=1) rfl rfl kh g5
   refine bind_ex i5 ?_
   have h5:_ = [_]:=h5
   subst h5
   refine bind_ex (ldI_of (j5 0 _ rfl)) ?_
   obtain ⟨n6,g6,hp⟩:=bind_some' hp
   obtain ⟨p6,q6,i6,h6,j6⟩:=W.ixo (E:=(eInt .i64)) w0 (i:=1) rfl rfl kh g6
   refine bind_ex i6 ?_
   obtain ⟨l7,e7,hp⟩:=bind_some' hp
   refine sto_k (eInt .i64) w0 (i:=1) (j:=0) (p:=p6) rfl rfl kh g6 i6 e7 rfl rfl (fun _ h=>by have h:_ = [_]:=h; subst h; exact rfl) fun H8 k8 w8 s8 c8=>?_
   dsimp only [List.set] at w8 s8 c8
   exact ac.j22_P (@hC8151) rfl ((st_len e7).symm) ⟨w8,(s0.trans s8),(nv.step s8),c8⟩ hp
  ·replace hp:=bif_f hb hp
   exact ac.j23_P (@hC8151) rfl rfl ⟨w0,s0,nv,kh⟩ hp
 ·replace hp:=bif_f hb hp
  exact hC8151 rfl rfl ⟨w0,s0,nv,kh⟩ hp
def ac.pj25 (F:Nat) (cY:List Int→List Int→Bool→Int→Option (List Int)) (nw:List Int) (nx:List Int) (kQ:Bool) (kR:Int):Option (List Int):=cY nw nx kQ (IntKind.i64.wrap (kR + 1))
theorem ac.j25_P {F:Nat} {H0:Hp} {Ri R0:List Rs}  {C8151_:Sl→Sl→Bool→Int→Hp→OA} {cY:List Int→List Int→Bool→Int→Option (List Int)} (hC8151:ac.S8151 H0 Ri R0  C8151_ cY) {Ap Aq:ON} {vR vS:Nat} {Ar As:Cap} {nw nx:List Int} {At Au:List AV} {kQ:Bool} {kR:Int} {H:Hp} (HP:vR = nw.length) (HQ:vS = nx.length) (h0:Out H0 Ri H (Rs.own ⟨Ap,vR,Ar⟩ (eInt .i64).z At :: Rs.own ⟨Aq,vS,As⟩ (eInt .i64).z Au :: R0) fun R=>CR (eInt .i64) H R At nw∧CR (eInt .i64) H R Au nx) {r:List Int} (hp:ac.pj25 F cY nw nx kQ kR = some r):∃ v H',ac.j25 F (ak.tw F) (af.tw F) (ah.tw F) C8151_ ⟨Ap,vR,Ar⟩ ⟨Aq,vS,As⟩ kQ kR H = some (v,H')∧ac.Q H0 Ri R0  r v H':=by
 obtain ⟨w0,s0,HR,HS⟩:=h0
 subst HP
 subst HQ
 unfold ac.pj25 at hp
 unfold ac.j25
 exact hC8151 rfl rfl ⟨w0,s0,HR,HS⟩ hp
def ac.pj26 (F:Nat) (cY:List Int→List Int→Bool→Int→Option (List Int)) (ny:List Int) (nz:List Int) (kS:Bool) (kT:Int):Option (List Int):=cY ny nz kS (IntKind.i64.wrap (kT + 1))
theorem ac.j26_P {F:Nat} {H0:Hp} {Ri R0:List Rs}  {C8151_:Sl→Sl→Bool→Int→Hp→OA} {cY:List Int→List Int→Bool→Int→Option (List Int)} (hC8151:ac.S8151 H0 Ri R0  C8151_ cY) {Av Aw:ON} {vT vU:Nat} {Ax Ay:Cap} {ny nz:List Int} {Az AA:List AV} {kS:Bool} {kT:Int} {H:Hp} (HT:vT = ny.length) (HU:vU = nz.length) (h0:Out H0 Ri H (Rs.own ⟨Av,vT,Ax⟩ (eInt .i64).z Az :: Rs.own ⟨Aw,vU,Ay⟩ (eInt .i64).z AA :: R0) fun R=>CR (eInt .i64) H R Az ny∧CR (eInt .i64) H R AA nz) {r:List Int} (hp:ac.pj26 F cY ny nz kS kT = some r):∃ v H',ac.j26 F (ak.tw F) (af.tw F) (ah.tw F) C8151_ ⟨Av,vT,Ax⟩ ⟨Aw,vU,Ay⟩ kS kT H = some (v,H')∧ac.Q H0 Ri R0  r v H':=by
 obtain ⟨w0,s0,HV,HW⟩:=h0
 subst HT
 subst HU
 unfold ac.pj26 at hp
 unfold ac.j26
 exact hC8151 rfl rfl ⟨w0,s0,HV,HW⟩ hp
def ac.pj20 (F:Nat) (cd:List Int→List Int→Bool→Option (List Int)) (nA:List Int) (nB:List Int) (kK:Bool):Option (List Int):=cd nA nB kK
theorem ac.j20_P {F:Nat} {H0:Hp} {Ri R0:List Rs}  {C509_:Sl→Sl→Bool→Hp→OA} {cd:List Int→List Int→Bool→Option (List Int)} (hC509:ac.S509 H0 Ri R0  C509_ cd) {AB AC:ON} {vV vW:Nat} {AD AF:Cap} {nA nB:List Int} {AG AH:List AV} {kK:Bool} {H:Hp} (HX:vV = nA.length) (HY:vW = nB.length) (h0:Out H0 Ri H (Rs.own ⟨AB,vV,AD⟩ (eInt .i64).z AG :: Rs.own ⟨AC,vW,AF⟩ (eInt .i64).z AH :: R0) fun R=>CR (eInt .i64) H R AG nA∧CR (eInt .i64) H R AH nB) {r:List Int} (hp:ac.pj20 F cd nA nB kK = some r):∃ v H',ac.j20 F (ak.tw F) (af.tw F) (ah.tw F) C509_ ⟨AB,vV,AD⟩ ⟨AC,vW,AF⟩ kK H = some (v,H')∧ac.Q H0 Ri R0  r v H':=by
 obtain ⟨w0,s0,HZ,H_⟩:=h0
 subst HX
 subst HY
 unfold ac.pj20 at hp
 unfold ac.j20
 exact hC509 rfl rfl ⟨w0,s0,HZ,H_⟩ hp
def ac.pj21 (F:Nat) (cd:List Int→List Int→Bool→Option (List Int)) (nC:List Int) (nD:List Int) (kL:Bool):Option (List Int):=ac.pj20 F cd nC nD kL
theorem ac.j21_P {F:Nat} {H0:Hp} {Ri R0:List Rs}  {C509_:Sl→Sl→Bool→Hp→OA} {cd:List Int→List Int→Bool→Option (List Int)} (hC509:ac.S509 H0 Ri R0  C509_ cd) {AI AJ:ON} {vX vY:Nat} {AK AL:Cap} {nC nD:List Int} {AM AN:List AV} {kL:Bool} {H:Hp} (Ia:vX = nC.length) (Ib:vY = nD.length) (h0:Out H0 Ri H (Rs.own ⟨AI,vX,AK⟩ (eInt .i64).z AM :: Rs.own ⟨AJ,vY,AL⟩ (eInt .i64).z AN :: R0) fun R=>CR (eInt .i64) H R AM nC∧CR (eInt .i64) H R AN nD) {r:List Int} (hp:ac.pj21 F cd nC nD kL = some r):∃ v H',ac.j21 F (ak.tw F) (af.tw F) (ah.tw F) C509_ ⟨AI,vX,AK⟩ ⟨AJ,vY,AL⟩ kL H = some (v,H')∧ac.Q H0 Ri R0  r v H':=by
 obtain ⟨w0,s0,Ic,Id⟩:=h0
 subst Ia
 subst Ib
 unfold ac.pj21 at hp
 unfold ac.j21
 exact ac.j20_P (@hC509) rfl rfl ⟨w0,s0,Ic,Id⟩ hp
def ac.pl8151 (F:Nat) (cd:List Int→List Int→Bool→Option (List Int)):Nat→List Int→List Int→Bool→Int→Option (List Int)
 | 0,_,_,_,_=>none
 | k + 1,cJ,cX,du,bZ=>(bif (decide (bZ < (cJ.length:Int))) then ((ix cJ (IntKind.i64.wrap ((IntKind.i64.wrap ((IntKind.i64.wrap (Int.tdiv bZ 4)) * 4)) + (Int.tmod (IntKind.i64.wrap (bZ + 1)) 4)))).bind fun n1=>(ix cJ bZ).bind fun n2=>(ix cX (gt cJ n2)).bind fun n3=>(bif (decide ((gt cX n3) ≥ 0)) then ((ix cX (gt cJ n1)).bind fun n4=>(bif (decide ((gt cX n4) < 0)) then ((ix cJ bZ).bind fun n5=>(ix cX (gt cJ n5)).bind fun n6=>(ix cX (gt cJ n1)).bind fun n7=>(some (cX.set n7 (IntKind.i64.wrap (1 - (gt cX n6))))).bind fun l8=>ac.pj24 F (ac.pl8151 F cd k) cJ l8 true bZ (gt cJ n1)) else (ac.pj24 F (ac.pl8151 F cd k) cJ cX du bZ (gt cJ n1)))) else ((ix cX (gt cJ n1)).bind fun n10=>(bif (decide ((gt cX n10) ≥ 0)) then ((ix cJ bZ).bind fun n11=>(ix cX (gt cJ n11)).bind fun n12=>(bif (decide ((gt cX n12) < 0)) then ((ix cJ bZ).bind fun n13=>(ix cX (gt cJ n1)).bind fun n14=>(ix cX (gt cJ n13)).bind fun n15=>(some (cX.set n15 (IntKind.i64.wrap (1 - (gt cX n14))))).bind fun l16=>ac.pj25 F (ac.pl8151 F cd k) cJ l16 true bZ) else (ac.pj26 F (ac.pl8151 F cd k) cJ cX du bZ))) else (ac.pl8151 F cd k cJ cX du (IntKind.i64.wrap (bZ + 1))))))) else (ac.pj21 F cd cJ cX du))
termination_by structural n=>n
theorem ac.l8151_P {F:Nat} {H0:Hp} {Ri R0:List Rs}  {C509_:Sl→Sl→Bool→Hp→OA} {cd:List Int→List Int→Bool→Option (List Int)} (hC509:ac.S509 H0 Ri R0  C509_ cd):∀ k,ac.S8151 H0 Ri R0  (ac.l8151 F (ak.tw F) (af.tw F) (ah.tw F) C509_ k) (ac.pl8151 F cd k):=by
 intro k
 induction k with
 | zero=>
  intro rI rJ nn np rK rL cJ cX rM rN du bZ H AO AP h0 r hp
  exact nomatch (show (none:Option (List Int)) = some r from hp)
 | succ k ih=>
  intro rI rJ nn np rK rL cJ cX rM rN du bZ H AO AP h0 r hp
  obtain ⟨w0,s0,iz,gf⟩:=h0
  subst AO
  subst AP
  unfold ac.pl8151 at hp
  unfold ac.l8151
  refine bif_ex (fun hb=>?_) (fun hb=>?_)
  ·replace hp:=bif_t hb hp
   obtain ⟨n1,g1,hp⟩:=bind_some' hp
   obtain ⟨p1,q1,i1,h1,j1⟩:=W.ixo (E:=(eInt .i64)) w0 (i:=0) rfl rfl iz g1
   refine bind_ex i1 ?_
   have h1:_ = [_]:=h1
   subst h1
   refine bind_ex (ldI_of (j1 0 _ rfl)) ?_
   obtain ⟨n2,g2,hp⟩:=bind_some' hp
   obtain ⟨p2,q2,i2,h2,j2⟩:=W.ixo (E:=(eInt .i64)) w0 (i:=0) rfl rfl iz g2
   refine bind_ex i2 ?_
   have h2:_ = [_]:=h2
   subst h2
   refine bind_ex (ldI_of (j2 0 _ rfl)) ?_
   obtain ⟨n3,g3,hp⟩:=bind_some' hp
   obtain ⟨p3,q3,i3,h3,j3⟩:=W.ixo (E:=(eInt .i64)) w0 (i:=1) rfl rfl gf g3
   refine bind_ex i3 ?_
   have h3:_ = [_]:=h3
   subst h3
   refine bind_ex (ldI_of (j3 0 _ rfl)) ?_
   refine bif_ex (fun hb=>?_) (fun hb=>?_)
   ·replace hp:=bif_t hb hp
    obtain ⟨n4,g4,hp⟩:=bind_some' hp
    obtain ⟨p4,q4,i4,h4,j4⟩:=W.ixo (E:=(eInt .i64)) w0 (i:=1) rfl rfl gf g4
    refine bind_ex i4 ?_
    have h4:_ = [_]:=h4
    subst h4
    refine bind_ex (ldI_of (j4 0 _ rfl)) ?_
    refine bif_ex (fun hb=>?_) (fun hb=>?_)
    ·replace hp:=bif_t hb hp
     obtain ⟨n5,g5,hp⟩:=bind_some' hp
     obtain ⟨p5,q5,i5,h5,j5⟩:=W.ixo (E:=(eInt .i64)) w0 (i:=0) rfl rfl iz g5
     refine bind_ex i5 ?_
     have h5:_ = [_]:=h5
     subst h5
     refine bind_ex (ldI_of (j5 0 _ rfl)) ?_
     obtain ⟨n6,g6,hp⟩:=bind_some' hp
     obtain ⟨p6,q6,i6,h6,j6⟩:=W.ixo (E:=(eInt .i64)) w0 (i:=1) rfl rfl gf g6
     refine bind_ex i6 ?_
     have h6:_ = [_]:=h6
     subst h6
     refine bind_ex (ldI_of (j6 0 _ rfl)) ?_
     obtain ⟨n7,g7,hp⟩:=bind_some' hp
     obtain ⟨p7,q7,i7,h7,j7⟩:=W.ixo (E:=(eInt .i64)) w0 (i:=1) rfl rfl gf g7
     refine bind_ex i7 ?_
     obtain ⟨l8,e8,hp⟩:=bind_some' hp
     refine sto_k (eInt .i64) w0 (i:=1) (j:=0) (p:=p7) rfl rfl gf g7 i7 e8 rfl rfl (fun _ h=>by have h:_ = [_]:=h; subst h; exact rfl) fun H9 k9 w9 s9 c9=>?_
     dsimp only [List.set] at w9 s9 c9
     exact ac.j24_P (@ih) rfl ((st_len e8).symm) ⟨w9,(s0.trans s9),(iz.step s9),c9⟩ hp
    ·replace hp:=bif_f hb hp
     exact ac.j24_P (@ih) rfl rfl ⟨w0,s0,iz,gf⟩ hp
   ·replace hp:=bif_f hb hp
    obtain ⟨n10,g10,hp⟩:=bind_some' hp
    obtain ⟨p10,q10,i10,h10,j10⟩:=W.ixo (E:=(eInt .i64)) w0 (i:=1) rfl rfl gf g10
    refine bind_ex i10 ?_
    have h10:_ = [_]:=h10
    subst h10
    refine bind_ex (ldI_of (j10 0 _ rfl)) ?_
    refine bif_ex (fun hb=>?_) (fun hb=>?_)
    ·replace hp:=bif_t hb hp
     obtain ⟨n11,g11,hp⟩:=bind_some' hp
     obtain ⟨p11,q11,i11,h11,j11⟩:=W.ixo (E:=(eInt .i64)) w0 (i:=0) rfl rfl iz g11
     refine bind_ex i11 ?_
     have h11:_ = [_]:=h11
     subst h11
     refine bind_ex (ldI_of (j11 0 _ rfl)) ?_
     obtain ⟨n12,g12,hp⟩:=bind_some' hp
     obtain ⟨p12,q12,i12,h12,j12⟩:=W.ixo (E:=(eInt .i64)) w0 (i:=1) rfl rfl gf g12
     refine bind_ex i12 ?_
     have h12:_ = [_]:=h12
     subst h12
     refine bind_ex (ldI_of (j12 0 _ rfl)) ?_
     refine bif_ex (fun hb=>?_) (fun hb=>?_)
     ·replace hp:=bif_t hb hp
      obtain ⟨n13,g13,hp⟩:=bind_some' hp
      obtain ⟨p13,q13,i13,h13,j13⟩:=W.ixo (E:=(eInt .i64)) w0 (i:=0) rfl rfl iz g13
      refine bind_ex i13 ?_
      have h13:_ = [_]:=h13
      subst h13
      refine bind_ex (ldI_of (j13 0 _ rfl)) ?_
      obtain ⟨n14,g14,hp⟩:=bind_some' hp
      obtain ⟨p14,q14,i14,h14,j14⟩:=W.ixo (E:=(eInt .i64)) w0 (i:=1) rfl rfl gf g14
      refine bind_ex i14 ?_
      have h14:_ = [_]:=h14
      subst h14
      refine bind_ex (ldI_of (j14 0 _ rfl)) ?_
      obtain ⟨n15,g15,hp⟩:=bind_some' hp
      obtain ⟨p15,q15,i15,h15,j15⟩:=W.ixo (E:=(eInt .i64)) w0 (i:=1) rfl rfl gf g15
      refine bind_ex i15 ?_
      obtain ⟨l16,e16,hp⟩:=bind_some' hp
      refine sto_k (eInt .i64) w0 (i:=1) (j:=0) (p:=p15) rfl rfl gf g15 i15 e16 rfl rfl (fun _ h=>by have h:_ = [_]:=h; subst h; exact rfl) fun H17 k17 w17 s17 c17=>?_
      dsimp only [List.set] at w17 s17 c17
      exact ac.j25_P (@ih) rfl ((st_len e16).symm) ⟨w17,(s0.trans s17),(iz.step s17),c17⟩ hp
     ·replace hp:=bif_f hb hp
      exact ac.j26_P (@ih) rfl rfl ⟨w0,s0,iz,gf⟩ hp
    ·replace hp:=bif_f hb hp
     exact ih rfl rfl ⟨w0,s0,iz,gf⟩ hp
  ·replace hp:=bif_f hb hp
   exact ac.j21_P (@hC509) rfl rfl ⟨w0,s0,iz,gf⟩ hp
def ac.pl509 (F:Nat) :Nat→List Int→List Int→Bool→Option (List Int)
 | 0,_,_,_=>none
 | k + 1,kg,jL,fE=>(bif fE then (ac.pl8151 F (ac.pl509 F k) F kg jL false 0) else (some jL))
termination_by structural n=>n
theorem ac.l509_P {F:Nat} {H0:Hp} {Ri R0:List Rs}  :∀ k,ac.S509 H0 Ri R0  (ac.l509 F (ak.tw F) (af.tw F) (ah.tw F)  k) (ac.pl509 F  k):=by
 intro k
 induction k with
 | zero=>
  intro rC rD nl nm rE rF kg jL rG rH fE H AQ AR h0 r hp
  exact nomatch (show (none:Option (List Int)) = some r from hp)
 | succ k ih=>
  intro rC rD nl nm rE rF kg jL rG rH fE H AQ AR h0 r hp
  obtain ⟨w0,s0,Ie,AS⟩:=h0
  subst AQ
  subst AR
  unfold ac.pl509 at hp
  unfold ac.l509
  refine bif_ex (fun hb=>?_) (fun hb=>?_)
  ·replace hp:=bif_t hb hp
   exact ac.l8151_P (@ih) F rfl rfl ⟨w0,s0,Ie,AS⟩ hp
  ·replace hp:=bif_f hb hp
   obtain ⟨w1,s1⟩:=w0.pick' [1] 2 rfl rfl rfl
   dsimp only [pk,pks,nth,List.drop] at w1 s1
   obtain rfl:=Option.some.inj hp
   exact ⟨_,_,rfl,_,_,_,_,rfl,rfl,w1,(s0.trans s1),(AS.step s1)⟩
def ac.pj27 (F:Nat)  (nE:List Int) (nF:List Int):Option (List Int):=ac.pl509 F F nE nF true
theorem ac.j27_P {F:Nat} {H0:Hp} {Ri R0:List Rs}   {AT AU:ON} {vZ v_:Nat} {AW AX:Cap} {nE nF:List Int} {AY AZ:List AV} {H:Hp} (If:vZ = nE.length) (Ig:v_ = nF.length) (h0:Out H0 Ri H (Rs.own ⟨AT,vZ,AW⟩ (eInt .i64).z AY :: Rs.own ⟨AU,v_,AX⟩ (eInt .i64).z AZ :: R0) fun R=>CR (eInt .i64) H R AY nE∧CR (eInt .i64) H R AZ nF) {r:List Int} (hp:ac.pj27 F  nE nF = some r):∃ v H',ac.j27 F (ak.tw F) (af.tw F) (ah.tw F)  ⟨AT,vZ,AW⟩ ⟨AU,v_,AX⟩ H = some (v,H')∧ac.Q H0 Ri R0  r v H':=by
 obtain ⟨w0,s0,Ih,Ii⟩:=h0
 subst If
 subst Ig
 unfold ac.pj27 at hp
 unfold ac.j27
 exact ac.l509_P F rfl rfl ⟨w0,s0,Ih,Ii⟩ hp
def ac.pl253 (F:Nat) :Nat→List Int→List Int→List Int→Int→Option (List Int)
 | 0,_,_,_,_=>none
 | k + 1,iv,iw,iH,cT=>(bif (decide (cT < (iw.length:Int))) then ((ix iw cT).bind fun n1=>(bif ((gt iw n1) == cT) then ((ix iv (IntKind.i64.wrap (4 * cT))).bind fun n2=>(ix iH (gt iv n2)).bind fun n3=>(some (iH.set n3 0)).bind fun l4=>ac.pj28 F (ac.pl253 F k) iv iw l4 cT) else (ac.pj29 F (ac.pl253 F k) iv iw iH cT))) else (ac.pj27 F iv iH))
termination_by structural n=>n
theorem ac.l253_P {F:Nat} {H0:Hp} {Ri R0:List Rs}  :∀ k,ac.S253 H0 Ri R0  (ac.l253 F (ak.tw F) (af.tw F) (ah.tw F)  k) (ac.pl253 F  k):=by
 intro k
 induction k with
 | zero=>
  intro rs rt ru na nb nc rv rx ry iv iw iH rz rA rB cT H A_ Ba Bb h0 r hp
  exact nomatch (show (none:Option (List Int)) = some r from hp)
 | succ k ih=>
  intro rs rt ru na nb nc rv rx ry iv iw iH rz rA rB cT H A_ Ba Bb h0 r hp
  obtain ⟨w0,s0,rO,wa,rP⟩:=h0
  subst A_
  subst Ba
  subst Bb
  unfold ac.pl253 at hp
  unfold ac.l253
  refine bif_ex (fun hb=>?_) (fun hb=>?_)
  ·replace hp:=bif_t hb hp
   obtain ⟨n1,g1,hp⟩:=bind_some' hp
   obtain ⟨p1,q1,i1,h1,j1⟩:=W.ixo (E:=(eInt .i64)) w0 (i:=1) rfl rfl wa g1
   refine bind_ex i1 ?_
   have h1:_ = [_]:=h1
   subst h1
   refine bind_ex (ldI_of (j1 0 _ rfl)) ?_
   refine bif_ex (fun hb=>?_) (fun hb=>?_)
   ·replace hp:=bif_t hb hp
    obtain ⟨n2,g2,hp⟩:=bind_some' hp
    obtain ⟨p2,q2,i2,h2,j2⟩:=W.ixo (E:=(eInt .i64)) w0 (i:=0) rfl rfl rO g2
    refine bind_ex i2 ?_
    have h2:_ = [_]:=h2
    subst h2
    refine bind_ex (ldI_of (j2 0 _ rfl)) ?_
    obtain ⟨n3,g3,hp⟩:=bind_some' hp
    obtain ⟨p3,q3,i3,h3,j3⟩:=W.ixo (E:=(eInt .i64)) w0 (i:=2) rfl rfl rP g3
    refine bind_ex i3 ?_
    obtain ⟨l4,e4,hp⟩:=bind_some' hp
    refine sto_k (eInt .i64) w0 (i:=2) (j:=0) (p:=p3) rfl rfl rP g3 i3 e4 rfl rfl (fun _ h=>by have h:_ = [_]:=h; subst h; exact rfl) fun H5 k5 w5 s5 c5=>?_
    dsimp only [List.set] at w5 s5 c5
    exact ac.j28_P (@ih) rfl rfl ((st_len e4).symm) ⟨w5,(s0.trans s5),(rO.step s5),(wa.step s5),c5⟩ hp
   ·replace hp:=bif_f hb hp
    exact ac.j29_P (@ih) rfl rfl rfl ⟨w0,s0,rO,wa,rP⟩ hp
  ·replace hp:=bif_f hb hp
   obtain ⟨w6,s6⟩:=w0.pick' [0,2] 3 rfl rfl rfl
   dsimp only [pk,pks,nth,List.drop] at w6 s6
   exact ac.j27_P rfl rfl ⟨w6,(s0.trans s6),(rO.step s6),(rP.step s6)⟩ hp
def ac.pj30 (F:Nat)  (nG:List Int) (nH:List Int) (nI:List Int):Option (List Int):=ac.pl253 F F nG nH nI 0
theorem ac.j30_P {F:Nat} {H0:Hp} {Ri R0:List Rs}   {Bc Bd Be:ON} {wb wc wd:Nat} {Bf Bg Bh:Cap} {nG nH nI:List Int} {Bi Bj Bk:List AV} {H:Hp} (Ij:wb = nG.length) (Ik:wc = nH.length) (Il:wd = nI.length) (h0:Out H0 Ri H (Rs.own ⟨Bc,wb,Bf⟩ (eInt .i64).z Bi :: Rs.own ⟨Bd,wc,Bg⟩ (eInt .i64).z Bj :: Rs.own ⟨Be,wd,Bh⟩ (eInt .i64).z Bk :: R0) fun R=>CR (eInt .i64) H R Bi nG∧CR (eInt .i64) H R Bj nH∧CR (eInt .i64) H R Bk nI) {r:List Int} (hp:ac.pj30 F  nG nH nI = some r):∃ v H',ac.j30 F (ak.tw F) (af.tw F) (ah.tw F)  ⟨Bc,wb,Bf⟩ ⟨Bd,wc,Bg⟩ ⟨Be,wd,Bh⟩ H = some (v,H')∧ac.Q H0 Ri R0  r v H':=by
 obtain ⟨w0,s0,Im,In,Io⟩:=h0
 subst Ij
 subst Ik
 subst Il
 unfold ac.pj30 at hp
 unfold ac.j30
 exact ac.l253_P F rfl rfl rfl ⟨w0,s0,Im,In,Io⟩ hp
def ac.pl125 (F:Nat) :Nat→List Int→List Int→List Int→Int→Option (List Int)
 | 0,_,_,_,_=>none
 | k + 1,jJ,jK,eY,eA=>(bif (decide (eA < (eY.length:Int))) then ((ix eY eA).bind fun n1=>(some (eY.set n1 (-1))).bind fun l2=>ac.pl125 F k jJ jK l2 (IntKind.i64.wrap (eA + 1))) else (ac.pj30 F jJ jK eY))
termination_by structural n=>n
theorem ac.l125_P {F:Nat} {H0:Hp} {Ri R0:List Rs}  :∀ k,ac.S125 H0 Ri R0  (ac.l125 F (ak.tw F) (af.tw F) (ah.tw F)  k) (ac.pl125 F  k):=by
 intro k
 induction k with
 | zero=>
  intro rm rn jc mZ m_ iu ro rp jd jJ jK eY rq rr je eA H Bl Bm nJ h0 r hp
  exact nomatch (show (none:Option (List Int)) = some r from hp)
 | succ k ih=>
  intro rm rn jc mZ m_ iu ro rp jd jJ jK eY rq rr je eA H Bl Bm nJ h0 r hp
  obtain ⟨w0,s0,Bn,Bo,lF⟩:=h0
  subst Bl
  subst Bm
  subst nJ
  unfold ac.pl125 at hp
  unfold ac.l125
  refine bif_ex (fun hb=>?_) (fun hb=>?_)
  ·replace hp:=bif_t hb hp
   obtain ⟨n1,g1,hp⟩:=bind_some' hp
   obtain ⟨p1,q1,i1,h1,j1⟩:=W.ixo (E:=(eInt .i64)) w0 (i:=2) rfl rfl lF g1
   refine bind_ex i1 ?_
   obtain ⟨l2,e2,hp⟩:=bind_some' hp
   refine sto_k (eInt .i64) w0 (i:=2) (j:=0) (p:=p1) rfl rfl lF g1 i1 e2 rfl rfl (fun _ h=>by have h:_ = [_]:=h; subst h; exact rfl) fun H3 k3 w3 s3 c3=>?_
   dsimp only [List.set] at w3 s3 c3
   exact ih rfl rfl ((st_len e2).symm) ⟨w3,(s0.trans s3),(Bn.step s3),(Bo.step s3),c3⟩ hp
  ·replace hp:=bif_f hb hp
   exact ac.j30_P rfl rfl rfl ⟨w0,s0,Bn,Bo,lF⟩ hp
def ac.p (F:Nat) (ad:List (Int×Int×Int×Int×Int)):Option (List Int):=(ak.p F ad).bind fun r2=>(af.p F ad).bind fun r4=>(ah.p F ad).bind fun r6=>(mkn (r6.length:Int) (0:Int)).bind fun l8=>ac.pl125 F F r2 r4 l8 0
theorem ac.P {F:Nat} {ax:ON} {aq:Nat} {ay:Cap} {ad:List (Int×Int×Int×Int×Int)} {ab:Int} {H:Hp} {R0:List Rs} (bb:aq = ad.length) (h0:Inn H R0 fun R=>ROs (ePair (eInt .i64) (ePair (eInt .i64) (ePair (eInt .i64) (ePair (eInt .i64) (eInt .i64))))) H R ⟨ax,aq,ay⟩ ad) {r:List Int} (hp:ac.p F ad = some r):∃ v H',ac.tw F ⟨ax,aq,ay⟩ ab H = some (v,H')∧ac.Q H R0 R0  r v H':=by
 obtain ⟨w0,aP⟩:=h0
 subst bb
 unfold ac.p at hp
 unfold ac.tw ac.twX
 have s0:=w0.rf
 refine new_k w0 fun H1 w1 s1=>?_
 refine bind_ex (ldSl_of (w1.ld (i:=0) rfl rfl)) ?_
 refine bind_ex (ldI_of (w1.ld (i:=0) rfl rfl)) ?_
 obtain ⟨r2,e2,hp⟩:=bind_some' hp
 refine call_ex (ak.P rfl ⟨w1,(aP.step s1)⟩ e2) ?_
 rintro _ H3 ⟨o0a_3,o0n_3,o0c_3,o0k_3,rfl,rfl,w3,s3,f3_0⟩
 refine bind_ex rfl ?_
 refine bind_ex (ldSl_of (w3.ld (i:=1) rfl rfl)) ?_
 refine bind_ex (ldI_of (w3.ld (i:=1) rfl rfl)) ?_
 obtain ⟨r4,e4,hp⟩:=bind_some' hp
 refine call_ex (af.P rfl ⟨w3,(aP.step (s1.trans s3))⟩ e4) ?_
 rintro _ H5 ⟨o0a_5,o0n_5,o0c_5,o0k_5,rfl,rfl,w5,s5,f5_0⟩
 refine bind_ex rfl ?_
 refine bind_ex (ldSl_of (w5.ld (i:=2) rfl rfl)) ?_
 refine bind_ex (ldI_of (w5.ld (i:=2) rfl rfl)) ?_
 obtain ⟨r6,e6,hp⟩:=bind_some' hp
 refine call_ex (ah.P rfl ⟨w5,(aP.step (s1.trans (s3.trans s5)))⟩ e6) ?_
 rintro _ H7 ⟨o0a_7,o0n_7,o0c_7,o0k_7,rfl,rfl,w7,s7,f7_0⟩
 refine bind_ex rfl ?_
 obtain ⟨l8,e8,hp⟩:=bind_some' hp
 refine mk_k (eInt .i64) (0:Int) w7 rfl rfl rfl e8 fun H9 k9 w9 s9 c9=>?_
 obtain ⟨w10,s10⟩:=w9.pick' [3,2,0] 5 rfl rfl rfl
 dsimp only [pk,pks,nth,List.drop] at w10 s10
 exact ac.l125_P F rfl rfl rfl ⟨w10,(s0.trans (s1.trans (s3.trans (s5.trans (s7.trans (s9.trans s10)))))),(f3_0.step (s5.trans (s7.trans (s9.trans s10)))),(f5_0.step (s7.trans (s9.trans s10))),(c9.step s10)⟩ hp
def bu.Q (H0:Hp) (Ri R0:List Rs)  (r:Int) (v:AV) (H':Hp):Prop:=v = (.int .i64 r)∧Out H0 Ri H' (R0) fun R=>True
def bu.p (F:Nat) (ad:List Int) (gF:List Int) (bk:Int) (ft:Int):Option (Int):=(ix ad (IntKind.i64.wrap ((IntKind.i64.wrap (4 * bk)) + 1))).bind fun n1=>(ix gF (gt ad n1)).bind fun n2=>(bif ((gt gF n2) == ft) then (some 1) else (some (-1)))
theorem bu.P {F:Nat} {ax nK:ON} {aq ki:Nat} {ay nL:Cap} {ad gF:List Int} {bk ft:Int} {H:Hp} {R0:List Rs} (bb:aq = ad.length) (wg:ki = gF.length) (h0:Inn H R0 fun R=>ROs (eInt .i64) H R ⟨ax,aq,ay⟩ ad∧ROs (eInt .i64) H R ⟨nK,ki,nL⟩ gF) {r:Int} (hp:bu.p F ad gF bk ft = some r):∃ v H',bu.tw F ⟨ax,aq,ay⟩ ⟨nK,ki,nL⟩ bk ft H = some (v,H')∧bu.Q H R0 R0  r v H':=by
 obtain ⟨w0,aP,wh⟩:=h0
 subst bb
 subst wg
 unfold bu.p at hp
 unfold bu.tw bu.twX
 have s0:=w0.rf
 obtain ⟨n1,g1,hp⟩:=bind_some' hp
 obtain ⟨p1,q1,i1,h1,j1⟩:=ROs.ixr aP rfl g1
 refine bind_ex i1 ?_
 have h1:_ = [_]:=h1
 subst h1
 refine bind_ex (ldI_of (j1 0 _ rfl)) ?_
 obtain ⟨n2,g2,hp⟩:=bind_some' hp
 obtain ⟨p2,q2,i2,h2,j2⟩:=ROs.ixr wh rfl g2
 refine bind_ex i2 ?_
 have h2:_ = [_]:=h2
 subst h2
 refine bind_ex (ldI_of (j2 0 _ rfl)) ?_
 refine bif_ex (fun hb=>?_) (fun hb=>?_)
 ·replace hp:=bif_t hb hp
  obtain rfl:=Option.some.inj hp
  exact ⟨_,_,rfl,rfl,w0,s0,trivial⟩
 ·replace hp:=bif_f hb hp
  obtain rfl:=Option.some.inj hp
  exact ⟨_,_,rfl,rfl,w0,s0,trivial⟩
def aH.Q (H0:Hp) (Ri R0:List Rs)  (r:Int) (v:AV) (H':Hp):Prop:=v = (.int .i64 r)∧Out H0 Ri H' (R0) fun R=>True
def aH.S61 (H0:Hp) (Ri R0:List Rs)  (C:Int→Nat→Nat→Sl→Sl→Int→Int→Hp→OA) (pC:Int→List (Int×Int×Int×Int×Int)→List Int→List Int→Int→Int→Option (Int)):Prop:=∀ {da wi ek dh:Int} {rQ rR rS:ON} {nM ej nN nO:Nat} {rT rU rV:Cap} {iA:List (Int×Int×Int×Int×Int)} {jf jg:List Int} {rW rX:List AV},∀ {H:Hp},nM = iA.length→nN = jf.length→nO = jg.length→(Out H0 Ri H (Rs.blk ej [.sl ⟨rQ,nM,rT⟩,.int .i64 wi] :: Rs.own ⟨rR,nN,rU⟩ (eInt .i64).z rW :: Rs.own ⟨rS,nO,rV⟩ (eInt .i64).z rX :: R0) fun R=>ROs (ePair (eInt .i64) (ePair (eInt .i64) (ePair (eInt .i64) (ePair (eInt .i64) (eInt .i64))))) H R ⟨rQ,nM,rT⟩ iA∧CR (eInt .i64) H R rW jf∧CR (eInt .i64) H R rX jg)→∀ {r:Int},pC da iA jf jg ek dh = some r→∃ v H',C da ej 0 ⟨rR,nN,rU⟩ ⟨rS,nO,rV⟩ ek dh H = some (v,H')∧aH.Q H0 Ri R0  r v H'
def aH.pj2 (F:Nat) (aO:Int→List (Int×Int×Int×Int×Int)→List Int→List Int→Int→Int→Option (Int)) (kW:Int) (nP:List (Int×Int×Int×Int×Int)) (nQ:List Int) (nR:List Int) (kX:Int) (kY:Int):Option (Int):=aO kW nP nQ nR kX (IntKind.i64.wrap (kY + 1))
theorem aH.j2_P {F:Nat} {H0:Hp} {Ri R0:List Rs}  {C61_:Int→Nat→Nat→Sl→Sl→Int→Int→Hp→OA} {aO:Int→List (Int×Int×Int×Int×Int)→List Int→List Int→Int→Int→Option (Int)} (hC61:aH.S61 H0 Ri R0  C61_ aO) {kW Ip kX kY:Int} {Bp Bq Br:ON} {wj pN wl wm:Nat} {Bs Bt Bu:Cap} {nP:List (Int×Int×Int×Int×Int)} {nQ nR:List Int} {Bv Bw:List AV} {H:Hp} (Iq:wj = nP.length) (Ir:wl = nQ.length) (Is:wm = nR.length) (h0:Out H0 Ri H (Rs.blk pN [.sl ⟨Bp,wj,Bs⟩,.int .i64 Ip] :: Rs.own ⟨Bq,wl,Bt⟩ (eInt .i64).z Bv :: Rs.own ⟨Br,wm,Bu⟩ (eInt .i64).z Bw :: R0) fun R=>ROs (ePair (eInt .i64) (ePair (eInt .i64) (ePair (eInt .i64) (ePair (eInt .i64) (eInt .i64))))) H R ⟨Bp,wj,Bs⟩ nP∧CR (eInt .i64) H R Bv nQ∧CR (eInt .i64) H R Bw nR) {r:Int} (hp:aH.pj2 F aO kW nP nQ nR kX kY = some r):∃ v H',aH.j2 F (ak.tw F) (ac.tw F) (bu.tw F) C61_ kW pN 0 ⟨Bq,wl,Bt⟩ ⟨Br,wm,Bu⟩ kX kY H = some (v,H')∧aH.Q H0 Ri R0  r v H':=by
 obtain ⟨w0,s0,It,Iu,Iv⟩:=h0
 subst Iq
 subst Ir
 subst Is
 unfold aH.pj2 at hp
 unfold aH.j2
 exact hC61 rfl rfl rfl ⟨w0,s0,It,Iu,Iv⟩ hp
def aH.pl61 (F:Nat) :Nat→Int→List (Int×Int×Int×Int×Int)→List Int→List Int→Int→Int→Option (Int)
 | 0,_,_,_,_,_,_=>none
 | k + 1,da,iA,jf,jg,ek,dh=>(bif (decide (dh < (iA.length:Int))) then ((bu.p F jf jg dh da).bind fun r4=>(ix iA dh).bind fun n8=>(bif (r4 == ((gt iA n8).2.2.2.2)) then (aH.pj2 F (aH.pl61 F k) da iA jf jg (IntKind.i64.wrap (ek + r4)) dh) else (aH.pj2 F (aH.pl61 F k) da iA jf jg ek dh))) else (some ek))
termination_by structural n=>n
theorem aH.l61_P {F:Nat} {H0:Hp} {Ri R0:List Rs}  :∀ k,aH.S61 H0 Ri R0  (aH.l61 F (ak.tw F) (ac.tw F) (bu.tw F)  k) (aH.pl61 F  k):=by
 intro k
 induction k with
 | zero=>
  intro da wi ek dh rQ rR rS nM ej nN nO rT rU rV iA jf jg rW rX H Bx By Bz h0 r hp
  exact nomatch (show (none:Option (Int)) = some r from hp)
 | succ k ih=>
  intro da wi ek dh rQ rR rS nM ej nN nO rT rU rV iA jf jg rW rX H Bx By Bz h0 r hp
  obtain ⟨w0,s0,wo,wp,wq⟩:=h0
  subst Bx
  subst By
  subst Bz
  unfold aH.pl61 at hp
  unfold aH.l61
  refine bind_ex (ldSl_of (w0.ld (i:=0) rfl rfl)) ?_
  refine bif_ex (fun hb=>?_) (fun hb=>?_)
  ·replace hp:=bif_t hb hp
   obtain ⟨w1,s1⟩:=w0.pick' [1,2,0] 3 rfl rfl rfl
   dsimp only [pk,pks,nth,List.drop] at w1 s1
   have f2:=W.borrow1 (eInt .i64) w1 (wp.step s1)
   obtain ⟨w2,s2⟩:=w1.right1
   have f3:=W.borrow1 (eInt .i64) w2 ((wq.step s1).step s2)
   obtain ⟨w3,s3⟩:=w2.right1
   obtain ⟨r4,e4,hp⟩:=bind_some' hp
   refine call_ex (bu.P rfl rfl ⟨w3,(f2.step s3),f3⟩ e4) ?_
   rintro _ H5 ⟨rfl,w5,s5,_⟩
   obtain ⟨w6,s6⟩:=W.frame1 w2 w5 s5
   obtain ⟨w7,s7⟩:=W.frame1 w1 w6 s6
   refine bind_ex rfl ?_
   refine bind_ex (ldSl_of (w7.ld (i:=2) rfl rfl)) ?_
   obtain ⟨n8,g8,hp⟩:=bind_some' hp
   obtain ⟨p8,q8,i8,h8,j8⟩:=ROs.ixr (wo.step (s1.trans s7)) rfl g8
   refine bind_ex i8 ?_
   obtain ⟨_,_,rfl,rfl,_,_,rfl,rfl,_,_,rfl,rfl,_,_,rfl,rfl,rfl⟩:=h8
   refine bind_ex (ldI_of (j8 4 _ rfl)) ?_
   refine bif_ex (fun hb=>?_) (fun hb=>?_)
   ·replace hp:=bif_t hb hp
    obtain ⟨w9,s9⟩:=w7.pick' [2,0,1] 3 rfl rfl rfl
    dsimp only [pk,pks,nth,List.drop] at w9 s9
    exact aH.j2_P (@ih) rfl rfl rfl ⟨w9,(s0.trans (s1.trans (s7.trans s9))),(wo.step (s1.trans (s7.trans s9))),(wp.step (s1.trans (s7.trans s9))),(wq.step (s1.trans (s7.trans s9)))⟩ hp
   ·replace hp:=bif_f hb hp
    obtain ⟨w10,s10⟩:=w7.pick' [2,0,1] 3 rfl rfl rfl
    dsimp only [pk,pks,nth,List.drop] at w10 s10
    exact aH.j2_P (@ih) rfl rfl rfl ⟨w10,(s0.trans (s1.trans (s7.trans s10))),(wo.step (s1.trans (s7.trans s10))),(wp.step (s1.trans (s7.trans s10))),(wq.step (s1.trans (s7.trans s10)))⟩ hp
  ·replace hp:=bif_f hb hp
   obtain ⟨w11,s11⟩:=w0.pick' [] 3 rfl rfl rfl
   dsimp only [pk,pks,nth,List.drop] at w11 s11
   obtain rfl:=Option.some.inj hp
   exact ⟨_,_,rfl,rfl,w11,(s0.trans s11),trivial⟩
def aH.p (F:Nat) (ad:List (Int×Int×Int×Int×Int)) (ae:Int):Option (Int):=(ak.p F ad).bind fun r2=>(ac.p F ad).bind fun r5=>aH.pl61 F F ae ad r2 r5 0 0
theorem aH.P {F:Nat} {ax:ON} {aq:Nat} {ay:Cap} {ad:List (Int×Int×Int×Int×Int)} {ab ae:Int} {H:Hp} {R0:List Rs} (bb:aq = ad.length) (h0:Inn H R0 fun R=>ROs (ePair (eInt .i64) (ePair (eInt .i64) (ePair (eInt .i64) (ePair (eInt .i64) (eInt .i64))))) H R ⟨ax,aq,ay⟩ ad) {r:Int} (hp:aH.p F ad ae = some r):∃ v H',aH.tw F ⟨ax,aq,ay⟩ ab ae H = some (v,H')∧aH.Q H R0 R0  r v H':=by
 obtain ⟨w0,aP⟩:=h0
 subst bb
 unfold aH.p at hp
 unfold aH.tw aH.twX
 have s0:=w0.rf
 refine new_k w0 fun H1 w1 s1=>?_
 refine bind_ex (ldSl_of (w1.ld (i:=0) rfl rfl)) ?_
 refine bind_ex (ldI_of (w1.ld (i:=0) rfl rfl)) ?_
 obtain ⟨r2,e2,hp⟩:=bind_some' hp
 refine call_ex (ak.P rfl ⟨w1,(aP.step s1)⟩ e2) ?_
 rintro _ H3 ⟨o0a_3,o0n_3,o0c_3,o0k_3,rfl,rfl,w3,s3,f3_0⟩
 refine bind_ex rfl ?_
 refine ifs_ex (W.cons_of (Rn:=[_]) w1 w3 s3) ?_
 refine bind_ex (ldSl_of (w3.ld (i:=1) rfl rfl)) ?_
 refine bind_ex (ldI_of (w3.ld (i:=1) rfl rfl)) ?_
 obtain ⟨r5,e5,hp⟩:=bind_some' hp
 refine call_ex (ac.P rfl ⟨w3,(aP.step (s1.trans s3))⟩ e5) ?_
 rintro _ H6 ⟨o0a_6,o0n_6,o0c_6,o0k_6,rfl,rfl,w6,s6,f6_0⟩
 refine bind_ex rfl ?_
 obtain ⟨w7,s7⟩:=w6.pick' [2,1,0] 3 rfl rfl rfl
 dsimp only [pk,pks,nth,List.drop] at w7 s7
 exact aH.l61_P F rfl rfl rfl ⟨w7,(s0.trans (s1.trans (s3.trans (s6.trans s7)))),(aP.step (s1.trans (s3.trans (s6.trans s7)))),(f3_0.step (s6.trans s7)),(f6_0.step s7)⟩ hp
def bw.Q (H0:Hp) (Ri R0:List Rs)  (r:Int×Int) (v:AV) (H':Hp):Prop:=v = (.tup [(.int .i64 r.1),(.int .i64 r.2)])∧Out H0 Ri H' (R0) fun R=>True
def bw.p (F:Nat) (ad:List (Int×Int×Int×Int×Int)) (ab:Int) (ae:Int):Option (Int×Int):=(bv.p F ad ab).bind fun r2=>(bif (!r2) then (some (0,1)) else ((aZ.p F ae 0 1).bind fun r5=>(bif (!r5) then (some (0,2)) else ((aH.p F ad ae).bind fun r8=>some (r8,0)))))
theorem bw.P {F:Nat} {ax:ON} {aq:Nat} {ay:Cap} {ad:List (Int×Int×Int×Int×Int)} {ab ae:Int} {H:Hp} {R0:List Rs} (bb:aq = ad.length) (h0:Inn H R0 fun R=>ROs (ePair (eInt .i64) (ePair (eInt .i64) (ePair (eInt .i64) (ePair (eInt .i64) (eInt .i64))))) H R ⟨ax,aq,ay⟩ ad) {r:Int×Int} (hp:bw.p F ad ab ae = some r):∃ v H',bw.tw F ⟨ax,aq,ay⟩ ab ae H = some (v,H')∧bw.Q H R0 R0  r v H':=by
 obtain ⟨w0,aP⟩:=h0
 subst bb
 unfold bw.p at hp
 unfold bw.tw bw.twX
 have s0:=w0.rf
 refine new_k w0 fun H1 w1 s1=>?_
 refine bind_ex (ldSl_of (w1.ld (i:=0) rfl rfl)) ?_
 refine bind_ex (ldI_of (w1.ld (i:=0) rfl rfl)) ?_
 obtain ⟨r2,e2,hp⟩:=bind_some' hp
 refine call_ex (bv.P rfl ⟨w1,(aP.step s1)⟩ e2) ?_
 rintro _ H3 ⟨rfl,w3,s3,_⟩
 refine bind_ex rfl ?_
 refine bif_ex (fun hb=>?_) (fun hb=>?_)
 ·replace hp:=bif_t hb hp
  obtain ⟨w4,s4⟩:=w3.pick' [] 1 rfl rfl rfl
  dsimp only [pk,pks,nth,List.drop] at w4 s4
  obtain rfl:=Option.some.inj hp
  exact ⟨_,_,rfl,rfl,w4,(s0.trans (s1.trans (s3.trans s4))),trivial⟩
 ·replace hp:=bif_f hb hp
  obtain ⟨r5,e5,hp⟩:=bind_some' hp
  refine call_ex (aZ.P ⟨w3,trivial⟩ e5) ?_
  rintro _ H6 ⟨rfl,w6,s6,_⟩
  refine bind_ex rfl ?_
  refine bif_ex (fun hb=>?_) (fun hb=>?_)
  ·replace hp:=bif_t hb hp
   obtain ⟨w7,s7⟩:=w6.pick' [] 1 rfl rfl rfl
   dsimp only [pk,pks,nth,List.drop] at w7 s7
   obtain rfl:=Option.some.inj hp
   exact ⟨_,_,rfl,rfl,w7,(s0.trans (s1.trans (s3.trans (s6.trans s7)))),trivial⟩
  ·replace hp:=bif_f hb hp
   refine bind_ex (ldSl_of (w6.ld (i:=0) rfl rfl)) ?_
   refine bind_ex (ldI_of (w6.ld (i:=0) rfl rfl)) ?_
   obtain ⟨r8,e8,hp⟩:=bind_some' hp
   refine call_ex (aH.P rfl ⟨w6,(aP.step (s1.trans (s3.trans s6)))⟩ e8) ?_
   rintro _ H9 ⟨rfl,w9,s9,_⟩
   refine bind_ex rfl ?_
   obtain ⟨w10,s10⟩:=w9.pick' [] 1 rfl rfl rfl
   dsimp only [pk,pks,nth,List.drop] at w10 s10
   obtain rfl:=Option.some.inj hp
   exact ⟨_,_,rfl,rfl,w10,(s0.trans (s1.trans (s3.trans (s6.trans (s9.trans s10))))),trivial⟩
def bd.Q (H0:Hp) (Ri R0:List Rs)  (r:Int) (v:AV) (H':Hp):Prop:=v = (.int .i64 r)∧Out H0 Ri H' (R0) fun R=>True
def bd.p (F:Nat) (ad:List (Int×Int×Int×Int×Int)):Option (Int):=some (ad.length:Int)
theorem bd.P {F:Nat} {ax:ON} {aq:Nat} {ay:Cap} {ad:List (Int×Int×Int×Int×Int)} {H:Hp} {R0:List Rs} (bb:aq = ad.length) (h0:Inn H R0 fun R=>ROs (ePair (eInt .i64) (ePair (eInt .i64) (ePair (eInt .i64) (ePair (eInt .i64) (eInt .i64))))) H R ⟨ax,aq,ay⟩ ad) {r:Int} (hp:bd.p F ad = some r):∃ v H',bd.tw F ⟨ax,aq,ay⟩ H = some (v,H')∧bd.Q H R0 R0  r v H':=by
 obtain ⟨w0,aP⟩:=h0
 subst bb
 unfold bd.p at hp
 unfold bd.tw bd.twX
 have s0:=w0.rf
 obtain rfl:=Option.some.inj hp
 exact ⟨_,_,rfl,rfl,w0,s0,trivial⟩
def bh.Q (H0:Hp) (Ri R0:List Rs)  (r:Bool) (v:AV) (H':Hp):Prop:=v = (.bool r)∧Out H0 Ri H' (R0) fun R=>True
def bh.p (F:Nat) (aa:Int) (ai:Int) (bk:Int):Option (Bool):=(bif (decide (ai ≤ aa)) then (some (decide (aa ≤ bk))) else (some false))
theorem bh.P {F:Nat} {aa ai bk:Int} {H:Hp} {R0:List Rs}  (h0:Inn H R0 fun R=>True) {r:Bool} (hp:bh.p F aa ai bk = some r):∃ v H',bh.tw F aa ai bk H = some (v,H')∧bh.Q H R0 R0  r v H':=by
 obtain ⟨w0,_⟩:=h0
 unfold bh.p at hp
 unfold bh.tw bh.twX
 have s0:=w0.rf
 refine bif_ex (fun hb=>?_) (fun hb=>?_)
 ·replace hp:=bif_t hb hp
  obtain rfl:=Option.some.inj hp
  exact ⟨_,_,rfl,rfl,w0,s0,trivial⟩
 ·replace hp:=bif_f hb hp
  obtain rfl:=Option.some.inj hp
  exact ⟨_,_,rfl,rfl,w0,s0,trivial⟩
def bE.Q (H0:Hp) (Ri R0:List Rs)  (r:Bool) (v:AV) (H':Hp):Prop:=v = (.bool r)∧Out H0 Ri H' (R0) fun R=>True
def bE.p (F:Nat) (az:Int):Option (Bool):=(bif (az != 1) then (some (az != (-1))) else (some false))
theorem bE.P {F:Nat} {aa ab aA aB az:Int} {H:Hp} {R0:List Rs}  (h0:Inn H R0 fun R=>True) {r:Bool} (hp:bE.p F az = some r):∃ v H',bE.tw F aa ab aA aB az H = some (v,H')∧bE.Q H R0 R0  r v H':=by
 obtain ⟨w0,_⟩:=h0
 unfold bE.p at hp
 unfold bE.tw bE.twX
 have s0:=w0.rf
 refine new_k w0 fun H1 w1 s1=>?_
 refine bind_ex (ldI_of (w1.ld (i:=0) rfl rfl)) ?_
 refine bif_ex (fun hb=>?_) (fun hb=>?_)
 ·replace hp:=bif_t hb hp
  refine bind_ex (ldI_of (w1.ld (i:=0) rfl rfl)) ?_
  obtain ⟨w2,s2⟩:=w1.pick' [] 1 rfl rfl rfl
  dsimp only [pk,pks,nth,List.drop] at w2 s2
  obtain rfl:=Option.some.inj hp
  exact ⟨_,_,rfl,rfl,w2,(s0.trans (s1.trans s2)),trivial⟩
 ·replace hp:=bif_f hb hp
  obtain ⟨w3,s3⟩:=w1.pick' [] 1 rfl rfl rfl
  dsimp only [pk,pks,nth,List.drop] at w3 s3
  obtain rfl:=Option.some.inj hp
  exact ⟨_,_,rfl,rfl,w3,(s0.trans (s1.trans s3)),trivial⟩
def aR.Q (H0:Hp) (Ri R0:List Rs)  (r:Int) (v:AV) (H':Hp):Prop:=v = (.int .i64 r)∧Out H0 Ri H' (R0) fun R=>True
def aR.S13 (H0:Hp) (Ri R0:List Rs)  (C:Sl→Int→Int→Hp→OA) (pC:List (Int×Int×Int×Int×Int)→Int→Int→Option (Int)):Prop:=∀ {rY:ON} {nS:Nat} {rZ:Cap} {jh:List (Int×Int×Int×Int×Int)} {eM dP:Int},∀ {H:Hp},nS = jh.length→(Out H0 Ri H R0 fun R=>ROs (ePair (eInt .i64) (ePair (eInt .i64) (ePair (eInt .i64) (ePair (eInt .i64) (eInt .i64))))) H R ⟨rY,nS,rZ⟩ jh)→∀ {r:Int},pC jh eM dP = some r→∃ v H',C ⟨rY,nS,rZ⟩ eM dP H = some (v,H')∧aR.Q H0 Ri R0  r v H'
def aR.pl13 (F:Nat) :Nat→List (Int×Int×Int×Int×Int)→Int→Int→Option (Int)
 | 0,_,_,_=>none
 | k + 1,jh,eM,dP=>(bif (decide (dP < eM)) then ((ix jh dP).bind fun n1=>(bE.p F ((gt jh n1).2.2.2.2)).bind fun r2=>(bif r2 then (some dP) else (aR.pl13 F k jh eM (IntKind.i64.wrap (dP + 1))))) else (some (-1)))
termination_by structural n=>n
theorem aR.l13_P {F:Nat} {H0:Hp} {Ri R0:List Rs}  :∀ k,aR.S13 H0 Ri R0  (aR.l13 F (bE.tw F)  k) (aR.pl13 F  k):=by
 intro k
 induction k with
 | zero=>
  intro rY nS rZ jh eM dP H BA h0 r hp
  exact nomatch (show (none:Option (Int)) = some r from hp)
 | succ k ih=>
  intro rY nS rZ jh eM dP H BA h0 r hp
  obtain ⟨w0,s0,BB⟩:=h0
  subst BA
  unfold aR.pl13 at hp
  unfold aR.l13
  refine bif_ex (fun hb=>?_) (fun hb=>?_)
  ·replace hp:=bif_t hb hp
   obtain ⟨n1,g1,hp⟩:=bind_some' hp
   obtain ⟨p1,q1,i1,h1,j1⟩:=ROs.ixr BB rfl g1
   refine bind_ex i1 ?_
   obtain ⟨_,_,rfl,rfl,_,_,rfl,rfl,_,_,rfl,rfl,_,_,rfl,rfl,rfl⟩:=h1
   refine bind_ex (ldI_of (j1 0 _ rfl)) ?_
   refine bind_ex (ldI_of (j1 1 _ rfl)) ?_
   refine bind_ex (ldI_of (j1 2 _ rfl)) ?_
   refine bind_ex (ldI_of (j1 3 _ rfl)) ?_
   refine bind_ex (ldI_of (j1 4 _ rfl)) ?_
   obtain ⟨r2,e2,hp⟩:=bind_some' hp
   refine call_ex (bE.P ⟨w0,trivial⟩ e2) ?_
   rintro _ H3 ⟨rfl,w3,s3,_⟩
   refine bind_ex rfl ?_
   refine bif_ex (fun hb=>?_) (fun hb=>?_)
   ·replace hp:=bif_t hb hp
    obtain rfl:=Option.some.inj hp
    exact ⟨_,_,rfl,rfl,w3,(s0.trans s3),trivial⟩
   ·replace hp:=bif_f hb hp
    exact ih rfl ⟨w3,(s0.trans s3),(BB.step s3)⟩ hp
  ·replace hp:=bif_f hb hp
   obtain rfl:=Option.some.inj hp
   exact ⟨_,_,rfl,rfl,w0,s0,trivial⟩
def aR.p (F:Nat) (ad:List (Int×Int×Int×Int×Int)):Option (Int):=aR.pl13 F F ad (ad.length:Int) 0
theorem aR.P {F:Nat} {ax:ON} {aq:Nat} {ay:Cap} {ad:List (Int×Int×Int×Int×Int)} {H:Hp} {R0:List Rs} (bb:aq = ad.length) (h0:Inn H R0 fun R=>ROs (ePair (eInt .i64) (ePair (eInt .i64) (ePair (eInt .i64) (ePair (eInt .i64) (eInt .i64))))) H R ⟨ax,aq,ay⟩ ad) {r:Int} (hp:aR.p F ad = some r):∃ v H',aR.tw F ⟨ax,aq,ay⟩ H = some (v,H')∧aR.Q H R0 R0  r v H':=by
 obtain ⟨w0,aP⟩:=h0
 subst bb
 unfold aR.p at hp
 unfold aR.tw aR.twX
 have s0:=w0.rf
 exact aR.l13_P F rfl ⟨w0,s0,aP⟩ hp
def bx.Q (H0:Hp) (Ri R0:List Rs)  (r:Bool) (v:AV) (H':Hp):Prop:=v = (.bool r)∧Out H0 Ri H' (R0) fun R=>True
def bx.p (F:Nat) (ad:List (Int×Int×Int×Int×Int)):Option (Bool):=(aR.p F ad).bind fun r1=>some (decide (r1 ≥ 0))
theorem bx.P {F:Nat} {ax:ON} {aq:Nat} {ay:Cap} {ad:List (Int×Int×Int×Int×Int)} {H:Hp} {R0:List Rs} (bb:aq = ad.length) (h0:Inn H R0 fun R=>ROs (ePair (eInt .i64) (ePair (eInt .i64) (ePair (eInt .i64) (ePair (eInt .i64) (eInt .i64))))) H R ⟨ax,aq,ay⟩ ad) {r:Bool} (hp:bx.p F ad = some r):∃ v H',bx.tw F ⟨ax,aq,ay⟩ H = some (v,H')∧bx.Q H R0 R0  r v H':=by
 obtain ⟨w0,aP⟩:=h0
 subst bb
 unfold bx.p at hp
 unfold bx.tw bx.twX
 have s0:=w0.rf
 obtain ⟨r1,e1,hp⟩:=bind_some' hp
 refine call_ex (aR.P rfl ⟨w0,aP⟩ e1) ?_
 rintro _ H2 ⟨rfl,w2,s2,_⟩
 refine bind_ex rfl ?_
 obtain rfl:=Option.some.inj hp
 exact ⟨_,_,rfl,rfl,w2,(s0.trans s2),trivial⟩
def bits_Mul64.Q (H0:Hp) (Ri R0:List Rs)  (r:Int×Int) (v:AV) (H':Hp):Prop:=v = (.tup [(.int .u64 r.1),(.int .u64 r.2)])∧Out H0 Ri H' (R0) fun R=>True
def bits_Mul64.p (F:Nat) (aa:Int) (ai:Int):Option (Int×Int):=some ((IntKind.u64.wrap ((IntKind.u64.wrap ((IntKind.u64.wrap ((Int.fdiv aa (2 ^ (min (32:Int).toNat (IntKind.u64).bits))) * (Int.fdiv ai (2 ^ (min (32:Int).toNat (IntKind.u64).bits))))) + (Int.fdiv (IntKind.u64.wrap ((IntKind.u64.wrap ((Int.fdiv aa (2 ^ (min (32:Int).toNat (IntKind.u64).bits))) * (Go.bits .and .u64 ai 4294967295))) + (Int.fdiv (IntKind.u64.wrap ((Go.bits .and .u64 aa 4294967295) * (Go.bits .and .u64 ai 4294967295))) (2 ^ (min (32:Int).toNat (IntKind.u64).bits))))) (2 ^ (min (32:Int).toNat (IntKind.u64).bits))))) + (Int.fdiv (IntKind.u64.wrap ((Go.bits .and .u64 (IntKind.u64.wrap ((IntKind.u64.wrap ((Int.fdiv aa (2 ^ (min (32:Int).toNat (IntKind.u64).bits))) * (Go.bits .and .u64 ai 4294967295))) + (Int.fdiv (IntKind.u64.wrap ((Go.bits .and .u64 aa 4294967295) * (Go.bits .and .u64 ai 4294967295))) (2 ^ (min (32:Int).toNat (IntKind.u64).bits))))) 4294967295) + (IntKind.u64.wrap ((Go.bits .and .u64 aa 4294967295) * (Int.fdiv ai (2 ^ (min (32:Int).toNat (IntKind.u64).bits))))))) (2 ^ (min (32:Int).toNat (IntKind.u64).bits))))),(IntKind.u64.wrap (aa * ai)))
theorem bits_Mul64.P {F:Nat} {aa ai:Int} {H:Hp} {R0:List Rs}  (h0:Inn H R0 fun R=>True) {r:Int×Int} (hp:bits_Mul64.p F aa ai = some r):∃ v H',bits_Mul64.tw F aa ai H = some (v,H')∧bits_Mul64.Q H R0 R0  r v H':=by
 obtain ⟨w0,_⟩:=h0
 unfold bits_Mul64.p at hp
 unfold bits_Mul64.tw bits_Mul64.twX
 have s0:=w0.rf
 obtain rfl:=Option.some.inj hp
 exact ⟨_,_,rfl,rfl,w0,s0,trivial⟩
def bits_Mul.Q (H0:Hp) (Ri R0:List Rs)  (r:Int×Int) (v:AV) (H':Hp):Prop:=v = (.tup [(.int .u64 r.1),(.int .u64 r.2)])∧Out H0 Ri H' (R0) fun R=>True
def bits_Mul.p (F:Nat) (aa:Int) (ai:Int):Option (Int×Int):=(bits_Mul64.p F aa ai).bind fun r1=>some (r1.1,r1.2)
theorem bits_Mul.P {F:Nat} {aa ai:Int} {H:Hp} {R0:List Rs}  (h0:Inn H R0 fun R=>True) {r:Int×Int} (hp:bits_Mul.p F aa ai = some r):∃ v H',bits_Mul.tw F aa ai H = some (v,H')∧bits_Mul.Q H R0 R0  r v H':=by
 obtain ⟨w0,_⟩:=h0
 unfold bits_Mul.p at hp
 unfold bits_Mul.tw bits_Mul.twX
 have s0:=w0.rf
 obtain ⟨r1,e1,hp⟩:=bind_some' hp
 refine call_ex (bits_Mul64.P ⟨w0,trivial⟩ e1) ?_
 rintro _ H2 ⟨rfl,w2,s2,_⟩
 refine bind_ex rfl ?_
 refine bind_ex rfl ?_
 refine bind_ex rfl ?_
 refine bind_ex rfl ?_
 refine bind_ex rfl ?_
 obtain rfl:=Option.some.inj hp
 exact ⟨_,_,rfl,rfl,w2,(s0.trans s2),trivial⟩
def aM.Q (H0:Hp) (Ri R0:List Rs)  (r:(List (Int×Int))) (v:AV) (H':Hp):Prop:=∃ o0a:ON,∃ o0n:Nat,∃ o0k:List AV,v = (.sl ⟨o0a,o0n,.ex o0n⟩)∧o0n = (r).length∧Out H0 Ri H' (Rs.own ⟨o0a,o0n,.ex o0n⟩ (ePair (eInt .i64) (eInt .i64)).z o0k :: R0) fun R=>CR (ePair (eInt .i64) (eInt .i64)) H' R o0k (r)
def aM.pj1 (F:Nat)  (gG:List (Int×Int)) (fO:Int):Option ((List (Int×Int))):=(mkn (IntKind.i64.wrap fO) ((0:Int),(0:Int))).bind fun l1=>(some (cpl l1 gG)).bind fun l3=>(rept F l3 ((min gG.length l1.length:Nat):Int)).bind fun l5=>some l5
theorem aM.j1_P {F:Nat} {H0:Hp} {Ri R0:List Rs}   {nT:ON} {kj:Nat} {nU:Cap} {gG:List (Int×Int)} {fO:Int} {H:Hp} (wt:kj = gG.length) (h0:Out H0 Ri H R0 fun R=>ROs (ePair (eInt .i64) (eInt .i64)) H R ⟨nT,kj,nU⟩ gG) {r:(List (Int×Int))} (hp:aM.pj1 F  gG fO = some r):∃ v H',aM.j1 F (bits_Mul.tw F)  ⟨nT,kj,nU⟩ fO H = some (v,H')∧aM.Q H0 Ri R0  r v H':=by
 obtain ⟨w0,s0,wu⟩:=h0
 subst wt
 unfold aM.pj1 at hp
 unfold aM.j1
 obtain ⟨l1,e1,hp⟩:=bind_some' hp
 refine mk_k (ePair (eInt .i64) (eInt .i64)) ((0:Int),(0:Int)) w0 ⟨[_],_,rfl,rfl,rfl⟩ rfl rfl e1 fun H2 k2 w2 s2 c2=>?_
 obtain ⟨x3,h3,c3⟩:=(wu.step s2).row (z:=(ePair (eInt .i64) (eInt .i64)).z) rfl
 obtain ⟨l3,e3,hp⟩:=bind_some' hp
 refine cpy_k (ePair (eInt .i64) (eInt .i64)) w2 (i:=0) rfl rfl c2 h3 c3 rfl rfl e3 fun k4 H4 w4 s4 c4=>?_
 dsimp only [List.set] at w4 s4 c4
 obtain ⟨l5,e5,hp⟩:=bind_some' hp
 refine rept_K (ePair (eInt .i64) (eInt .i64)) rfl (L:=aM.l254 F (bits_Mul.tw F)) (fun _ _ _ _=>rfl) w4 (i:=0) rfl c4 e5 fun H6 k6 w6 s6 c6=>?_
 dsimp only [List.set] at w6 s6 c6
 obtain rfl:=Option.some.inj hp
 exact ⟨_,_,rfl,_,_,_,rfl,((cpl_len e3).symm.trans (rept_len e5).symm),w6,(s0.trans (s2.trans (s4.trans s6))),c6⟩
def aM.pj2 (F:Nat)  (gH:List (Int×Int)) (gq:Int):Option ((List (Int×Int))):=(bits_Mul.p F (IntKind.u64.wrap (gH.length:Int)) (IntKind.u64.wrap gq)).bind fun r1=>(bif (decide (r1.1 > 0)) then (none) else ((bif (decide (r1.2 > 9223372036854775807)) then (none) else (aM.pj1 F gH r1.2))))
theorem aM.j2_P {F:Nat} {H0:Hp} {Ri R0:List Rs}   {nV:ON} {kk:Nat} {nW:Cap} {gH:List (Int×Int)} {gq:Int} {H:Hp} (wv:kk = gH.length) (h0:Out H0 Ri H R0 fun R=>ROs (ePair (eInt .i64) (eInt .i64)) H R ⟨nV,kk,nW⟩ gH) {r:(List (Int×Int))} (hp:aM.pj2 F  gH gq = some r):∃ v H',aM.j2 F (bits_Mul.tw F)  ⟨nV,kk,nW⟩ gq H = some (v,H')∧aM.Q H0 Ri R0  r v H':=by
 obtain ⟨w0,s0,ww⟩:=h0
 subst wv
 unfold aM.pj2 at hp
 unfold aM.j2
 obtain ⟨r1,e1,hp⟩:=bind_some' hp
 refine call_ex (bits_Mul.P ⟨w0,trivial⟩ e1) ?_
 rintro _ H2 ⟨rfl,w2,s2,_⟩
 refine bind_ex rfl ?_
 refine bind_ex rfl ?_
 refine bind_ex rfl ?_
 refine bind_ex rfl ?_
 refine bind_ex rfl ?_
 refine bif_ex (fun hb=>?_) (fun hb=>?_)
 ·replace hp:=bif_t hb hp
  cases hp
 ·replace hp:=bif_f hb hp
  refine bif_ex (fun hb=>?_) (fun hb=>?_)
  ·replace hp:=bif_t hb hp
   cases hp
  ·replace hp:=bif_f hb hp
   exact aM.j1_P rfl ⟨w2,(s0.trans s2),(ww.step s2)⟩ hp
def aM.p (F:Nat) (ad:List (Int×Int)) (ai:Int):Option ((List (Int×Int))):=(bif (decide (ai < 0)) then (none) else (aM.pj2 F ad ai))
theorem aM.P {F:Nat} {ax:ON} {aq:Nat} {ay:Cap} {ad:List (Int×Int)} {ai:Int} {H:Hp} {R0:List Rs} (bb:aq = ad.length) (h0:Inn H R0 fun R=>ROs (ePair (eInt .i64) (eInt .i64)) H R ⟨ax,aq,ay⟩ ad) {r:(List (Int×Int))} (hp:aM.p F ad ai = some r):∃ v H',aM.tw F ⟨ax,aq,ay⟩ ai H = some (v,H')∧aM.Q H R0 R0  r v H':=by
 obtain ⟨w0,aP⟩:=h0
 subst bb
 unfold aM.p at hp
 unfold aM.tw aM.twX
 have s0:=w0.rf
 refine bif_ex (fun hb=>?_) (fun hb=>?_)
 ·replace hp:=bif_t hb hp
  cases hp
 ·replace hp:=bif_f hb hp
  exact aM.j2_P rfl ⟨w0,s0,aP⟩ hp
def bf.Q (H0:Hp) (Ri R0:List Rs)  (r:Int×Int×Int×Int) (v:AV) (H':Hp):Prop:=v = (.agg [(.int .i64 r.1),(.int .i64 r.2.1),(.int .i64 r.2.2.1),(.int .i64 r.2.2.2)])∧Out H0 Ri H' (R0) fun R=>True
def bf.p (F:Nat) (aa:Int) (ab:Int) (aA:Int) (aB:Int):Option (Int×Int×Int×Int):=some (aa,ab,aA,aB)
theorem bf.P {F:Nat} {aa ab aA aB az:Int} {H:Hp} {R0:List Rs}  (h0:Inn H R0 fun R=>True) {r:Int×Int×Int×Int} (hp:bf.p F aa ab aA aB = some r):∃ v H',bf.tw F aa ab aA aB az H = some (v,H')∧bf.Q H R0 R0  r v H':=by
 obtain ⟨w0,_⟩:=h0
 unfold bf.p at hp
 unfold bf.tw bf.twX
 have s0:=w0.rf
 refine new_k w0 fun H1 w1 s1=>?_
 refine new_k w1 fun H2 w2 s2=>?_
 refine bind_ex (ldI_of (w2.ld (i:=1) rfl rfl)) ?_
 refine bind_ex (ldI_of (w2.ld (i:=1) rfl rfl)) ?_
 refine bind_ex (ldI_of (w2.ld (i:=1) rfl rfl)) ?_
 refine bind_ex (ldI_of (w2.ld (i:=1) rfl rfl)) ?_
 refine st_k w2 (i:=0) rfl rfl rfl fun H3 w3 s3=>?_
 dsimp only [List.set] at w3 s3
 refine st_k w3 (i:=0) rfl rfl rfl fun H4 w4 s4=>?_
 dsimp only [List.set] at w4 s4
 refine st_k w4 (i:=0) rfl rfl rfl fun H5 w5 s5=>?_
 dsimp only [List.set] at w5 s5
 refine st_k w5 (i:=0) rfl rfl rfl fun H6 w6 s6=>?_
 dsimp only [List.set] at w6 s6
 refine bind_ex (ldI_of (w6.ld (i:=0) rfl rfl)) ?_
 refine bind_ex (ldI_of (w6.ld (i:=0) rfl rfl)) ?_
 refine bind_ex (ldI_of (w6.ld (i:=0) rfl rfl)) ?_
 refine bind_ex (ldI_of (w6.ld (i:=0) rfl rfl)) ?_
 obtain ⟨w7,s7⟩:=w6.pick' [] 2 rfl rfl rfl
 dsimp only [pk,pks,nth,List.drop] at w7 s7
 obtain rfl:=Option.some.inj hp
 exact ⟨_,_,rfl,rfl,w7,(s0.trans (s1.trans (s2.trans (s3.trans (s4.trans (s5.trans (s6.trans s7))))))),trivial⟩
def bg.Q (H0:Hp) (Ri R0:List Rs)  (r:Bool) (v:AV) (H':Hp):Prop:=v = (.bool r)∧Out H0 Ri H' (R0) fun R=>True
def bg.p (F:Nat) (az:Int) (bc:Int):Option (Bool):=(bif (bc == 0) then (some true) else (some (bc == (IntKind.i64.wrap (2 + az)))))
theorem bg.P {F:Nat} {aa ab aA aB az bc:Int} {H:Hp} {R0:List Rs}  (h0:Inn H R0 fun R=>True) {r:Bool} (hp:bg.p F az bc = some r):∃ v H',bg.tw F aa ab aA aB az bc H = some (v,H')∧bg.Q H R0 R0  r v H':=by
 obtain ⟨w0,_⟩:=h0
 unfold bg.p at hp
 unfold bg.tw bg.twX
 have s0:=w0.rf
 refine new_k w0 fun H1 w1 s1=>?_
 refine bif_ex (fun hb=>?_) (fun hb=>?_)
 ·replace hp:=bif_t hb hp
  obtain ⟨w2,s2⟩:=w1.pick' [] 1 rfl rfl rfl
  dsimp only [pk,pks,nth,List.drop] at w2 s2
  obtain rfl:=Option.some.inj hp
  exact ⟨_,_,rfl,rfl,w2,(s0.trans (s1.trans s2)),trivial⟩
 ·replace hp:=bif_f hb hp
  refine bind_ex (ldI_of (w1.ld (i:=0) rfl rfl)) ?_
  obtain ⟨w3,s3⟩:=w1.pick' [] 1 rfl rfl rfl
  dsimp only [pk,pks,nth,List.drop] at w3 s3
  obtain rfl:=Option.some.inj hp
  exact ⟨_,_,rfl,rfl,w3,(s0.trans (s1.trans s3)),trivial⟩
def bI.Q (H0:Hp) (Ri R0:List Rs)  (r:Int) (v:AV) (H':Hp):Prop:=v = (.int .i64 r)∧Out H0 Ri H' (R0) fun R=>True
def bI.p (F:Nat) (ad:List (Int×Int)):Option (Int):=some (ad.length:Int)
theorem bI.P {F:Nat} {ax:ON} {aq:Nat} {ay:Cap} {ad:List (Int×Int)} {H:Hp} {R0:List Rs} (bb:aq = ad.length) (h0:Inn H R0 fun R=>ROs (ePair (eInt .i64) (eInt .i64)) H R ⟨ax,aq,ay⟩ ad) {r:Int} (hp:bI.p F ad = some r):∃ v H',bI.tw F ⟨ax,aq,ay⟩ H = some (v,H')∧bI.Q H R0 R0  r v H':=by
 obtain ⟨w0,aP⟩:=h0
 subst bb
 unfold bI.p at hp
 unfold bI.tw bI.twX
 have s0:=w0.rf
 obtain rfl:=Option.some.inj hp
 exact ⟨_,_,rfl,rfl,w0,s0,trivial⟩
def bs.Q (H0:Hp) (Ri R0:List Rs)  (r:Bool) (v:AV) (H':Hp):Prop:=v = (.bool r)∧Out H0 Ri H' (R0) fun R=>True
def bs.p (F:Nat) (ad:List (Int×Int)) (ai:Int):Option (Bool):=(bI.p F ad).bind fun r1=>(bh.p F ai 0 (IntKind.i64.wrap (r1 - 1))).bind fun r3=>some r3
theorem bs.P {F:Nat} {ax:ON} {aq:Nat} {ay:Cap} {ad:List (Int×Int)} {ai:Int} {H:Hp} {R0:List Rs} (bb:aq = ad.length) (h0:Inn H R0 fun R=>ROs (ePair (eInt .i64) (eInt .i64)) H R ⟨ax,aq,ay⟩ ad) {r:Bool} (hp:bs.p F ad ai = some r):∃ v H',bs.tw F ⟨ax,aq,ay⟩ ai H = some (v,H')∧bs.Q H R0 R0  r v H':=by
 obtain ⟨w0,aP⟩:=h0
 subst bb
 unfold bs.p at hp
 unfold bs.tw bs.twX
 have s0:=w0.rf
 obtain ⟨r1,e1,hp⟩:=bind_some' hp
 refine call_ex (bI.P rfl ⟨w0,aP⟩ e1) ?_
 rintro _ H2 ⟨rfl,w2,s2,_⟩
 refine bind_ex rfl ?_
 obtain ⟨r3,e3,hp⟩:=bind_some' hp
 refine call_ex (bh.P ⟨w2,trivial⟩ e3) ?_
 rintro _ H4 ⟨rfl,w4,s4,_⟩
 refine bind_ex rfl ?_
 obtain rfl:=Option.some.inj hp
 exact ⟨_,_,rfl,rfl,w4,(s0.trans (s2.trans s4)),trivial⟩
def aw.Q (H0:Hp) (Ri R0:List Rs)  (r:(List (Int×Int))×(List (Int×Int))×Bool) (v:AV) (H':Hp):Prop:=∃ o0a:ON,∃ o0n:Nat,∃ o0c:Cap,∃ o0k:List AV,∃ o1a:ON,∃ o1n:Nat,∃ o1c:Cap,∃ o1k:List AV,v = (.tup [(.agg [(.sl ⟨o0a,o0n,o0c⟩),(.sl ⟨o1a,o1n,o1c⟩)]),(.bool r.2.2)])∧o0n = (r.1).length∧o1n = (r.2.1).length∧Out H0 Ri H' (Rs.own ⟨o0a,o0n,o0c⟩ (ePair (eInt .i64) (eInt .i64)).z o0k :: Rs.own ⟨o1a,o1n,o1c⟩ (ePair (eInt .i64) (eInt .i64)).z o1k :: R0) fun R=>CR (ePair (eInt .i64) (eInt .i64)) H' R o0k (r.1)∧CR (ePair (eInt .i64) (eInt .i64)) H' R o1k (r.2.1)
def aw.S61 (H0:Hp) (Ri R0:List Rs)  (C:Nat→Nat→Nat→Nat→Sl→Int→Int→Hp→OA) (pC:List (Int×Int)→List (Int×Int)→List (Int×Int×Int×Int×Int)→Int→Int→Option ((List (Int×Int))×(List (Int×Int))×Bool)):Prop:=∀ {r_ sa sb sd se:ON} {nX nY dR nZ n_ bQ oa:Nat} {sf sh si sj sk:Cap} {sm sn jM jN:List (Int×Int)} {sp sq ss su:List AV} {gI:List (Int×Int×Int×Int×Int)} {eN dS:Int},∀ {H:Hp},nX = sm.length→nY = sn.length→nZ = jM.length→n_ = jN.length→oa = gI.length→(Out H0 Ri H (Rs.own ⟨r_,nX,sf⟩ (ePair (eInt .i64) (eInt .i64)).z sp :: Rs.own ⟨sa,nY,sh⟩ (ePair (eInt .i64) (eInt .i64)).z sq :: Rs.blk dR [.sl ⟨r_,nX,sf⟩,.sl ⟨sa,nY,sh⟩] :: Rs.own ⟨sb,nZ,si⟩ (ePair (eInt .i64) (eInt .i64)).z ss :: Rs.own ⟨sd,n_,sj⟩ (ePair (eInt .i64) (eInt .i64)).z su :: Rs.blk bQ [.sl ⟨sb,nZ,si⟩,.sl ⟨sd,n_,sj⟩] :: R0) fun R=>CR (ePair (eInt .i64) (eInt .i64)) H R sp sm∧CR (ePair (eInt .i64) (eInt .i64)) H R sq sn∧CR (ePair (eInt .i64) (eInt .i64)) H R ss jM∧CR (ePair (eInt .i64) (eInt .i64)) H R su jN∧ROs (ePair (eInt .i64) (ePair (eInt .i64) (ePair (eInt .i64) (ePair (eInt .i64) (eInt .i64))))) H R ⟨se,oa,sk⟩ gI)→∀ {r:(List (Int×Int))×(List (Int×Int))×Bool},pC jM jN gI eN dS = some r→∃ v H',C dR 0 bQ 0 ⟨se,oa,sk⟩ eN dS H = some (v,H')∧aw.Q H0 Ri R0  r v H'
def aw.S3931 (H0:Hp) (Ri R0:List Rs)  (C:Nat→Nat→Nat→Nat→Sl→Int→Int→Nat→Nat→Int→Int→Int→Int→Int→Int→Hp→OA) (pC:List (Int×Int)→List (Int×Int)→List (Int×Int×Int×Int×Int)→Int→Int→Int→Int→Int→Int→Int→Int→Int→Option ((List (Int×Int))×(List (Int×Int))×Bool)):Prop:=∀ {sv sw sx sy sB:ON} {ob oc bW od oe cn og db:Nat} {sC sD sE sF sG:Cap} {sH sI fj fk:List (Int×Int)} {sJ sK sL sM:List AV} {ji:List (Int×Int×Int×Int×Int)} {dw dQ wx wy wz wA jO cC cD cE cF cG b_:Int},∀ {H:Hp},ob = sH.length→oc = sI.length→od = fj.length→oe = fk.length→og = ji.length→(Out H0 Ri H (Rs.own ⟨sv,ob,sC⟩ (ePair (eInt .i64) (eInt .i64)).z sJ :: Rs.own ⟨sw,oc,sD⟩ (ePair (eInt .i64) (eInt .i64)).z sK :: Rs.blk bW [.sl ⟨sv,ob,sC⟩,.sl ⟨sw,oc,sD⟩] :: Rs.own ⟨sx,od,sE⟩ (ePair (eInt .i64) (eInt .i64)).z sL :: Rs.own ⟨sy,oe,sF⟩ (ePair (eInt .i64) (eInt .i64)).z sM :: Rs.blk cn [.sl ⟨sx,od,sE⟩,.sl ⟨sy,oe,sF⟩] :: Rs.blk db [.int .i64 wx,.int .i64 wy,.int .i64 wz,.int .i64 wA,.int .i64 jO] :: R0) fun R=>CR (ePair (eInt .i64) (eInt .i64)) H R sJ sH∧CR (ePair (eInt .i64) (eInt .i64)) H R sK sI∧CR (ePair (eInt .i64) (eInt .i64)) H R sL fj∧CR (ePair (eInt .i64) (eInt .i64)) H R sM fk∧ROs (ePair (eInt .i64) (ePair (eInt .i64) (ePair (eInt .i64) (ePair (eInt .i64) (eInt .i64))))) H R ⟨sB,og,sG⟩ ji)→∀ {r:(List (Int×Int))×(List (Int×Int))×Bool},pC fj fk ji dw dQ jO cC cD cE cF cG b_ = some r→∃ v H',C bW 0 cn 0 ⟨sB,og,sG⟩ dw dQ db 0 cC cD cE cF cG b_ H = some (v,H')∧aw.Q H0 Ri R0  r v H'
def aw.pl3931 (F:Nat) (aO:List (Int×Int)→List (Int×Int)→List (Int×Int×Int×Int×Int)→Int→Int→Option ((List (Int×Int))×(List (Int×Int))×Bool)):Nat→List (Int×Int)→List (Int×Int)→List (Int×Int×Int×Int×Int)→Int→Int→Int→Int→Int→Int→Int→Int→Int→Option ((List (Int×Int))×(List (Int×Int))×Bool)
 | 0,_,_,_,_,_,_,_,_,_,_,_,_=>none
 | k + 1,fj,fk,ji,dw,dQ,jO,cC,cD,cE,cF,cG,b_=>(bif (decide (b_ < 4)) then ((if 0 ≤ b_∧b_ < (4:Int) then ((bg.p F jO b_).bind fun r2=>(bif r2 then ((bs.p F fk (gt ([cD,cE,cF,cG]:List Int) (b_:Int).toNat)).bind fun r6=>(bif (!r6) then (some (fj,fk,false)) else ((ix fk (gt ([cD,cE,cF,cG]:List Int) (b_:Int).toNat)).bind fun n12=>(bif (decide (((gt fk n12).1) ≥ 0)) then (some (fj,fk,false)) else ((ix fk (gt ([cD,cE,cF,cG]:List Int) (b_:Int).toNat)).bind fun n16=>(some (fk.set n16 (cC,(gt fk n16).2))).bind fun l17=>(some (l17.set n16 ((gt l17 n16).1,b_))).bind fun l19=>aw.pl3931 F aO k fj l19 ji dw dQ jO cC cD cE cF cG (IntKind.i64.wrap (b_ + 1))))))) else ((bs.p F fj (gt ([cD,cE,cF,cG]:List Int) (b_:Int).toNat)).bind fun r24=>(bif (!r24) then (some (fj,fk,false)) else ((ix fj (gt ([cD,cE,cF,cG]:List Int) (b_:Int).toNat)).bind fun n30=>(bif (decide (((gt fj n30).1) ≥ 0)) then (some (fj,fk,false)) else ((ix fj (gt ([cD,cE,cF,cG]:List Int) (b_:Int).toNat)).bind fun n34=>(some (fj.set n34 (cC,(gt fj n34).2))).bind fun l35=>(some (l35.set n34 ((gt l35 n34).1,b_))).bind fun l37=>aw.pl3931 F aO k l37 fk ji dw dQ jO cC cD cE cF cG (IntKind.i64.wrap (b_ + 1))))))))) else none)) else (aO fj fk ji dw (IntKind.i64.wrap (dQ + 1))))
termination_by structural n=>n
theorem aw.l3931_P {F:Nat} {H0:Hp} {Ri R0:List Rs}  {C61_:Nat→Nat→Nat→Nat→Sl→Int→Int→Hp→OA} {aO:List (Int×Int)→List (Int×Int)→List (Int×Int×Int×Int×Int)→Int→Int→Option ((List (Int×Int))×(List (Int×Int))×Bool)} (hC61:aw.S61 H0 Ri R0  C61_ aO):∀ k,aw.S3931 H0 Ri R0  (aw.l3931 F (aM.tw F) (bf.tw F) (bg.tw F) (bs.tw F) C61_ k) (aw.pl3931 F aO k):=by
 intro k
 induction k with
 | zero=>
  intro sv sw sx sy sB ob oc bW od oe cn og db sC sD sE sF sG sH sI fj fk sJ sK sL sM ji dw dQ wx wy wz wA jO cC cD cE cF cG b_ H BC BD BE BF BG h0 r hp
  exact nomatch (show (none:Option ((List (Int×Int))×(List (Int×Int))×Bool)) = some r from hp)
 | succ k ih=>
  intro sv sw sx sy sB ob oc bW od oe cn og db sC sD sE sF sG sH sI fj fk sJ sK sL sM ji dw dQ wx wy wz wA jO cC cD cE cF cG b_ H BC BD BE BF BG h0 r hp
  obtain ⟨w0,s0,wB,wC,iI,iJ,wD⟩:=h0
  subst BC
  subst BD
  subst BE
  subst BF
  subst BG
  unfold aw.pl3931 at hp
  unfold aw.l3931
  refine bif_ex (fun hb=>?_) (fun hb=>?_)
  ·replace hp:=bif_t hb hp
   obtain ⟨g1,hp⟩:=ifs_p hp
   refine ifs_ex g1 ?_
   refine bind_ex (a:=AV.int .i64 (gt ([cD,cE,cF,cG]:List Int) (b_:Int).toNat)) (by rw [Nat.mul_one]; exact arr_get (k:=.i64) (l:=[cD,cE,cF,cG]) rfl (by have:=g1; simp only [List.length_cons,List.length_nil]; omega)) ?_
   refine bind_ex rfl ?_
   refine bind_ex (ldSl_of (w0.ld (i:=5) rfl rfl)) ?_
   refine bind_ex (ldI_of (w0.ld (i:=6) rfl rfl)) ?_
   refine bind_ex (ldI_of (w0.ld (i:=6) rfl rfl)) ?_
   refine bind_ex (ldI_of (w0.ld (i:=6) rfl rfl)) ?_
   refine bind_ex (ldI_of (w0.ld (i:=6) rfl rfl)) ?_
   refine bind_ex (ldI_of (w0.ld (i:=6) rfl rfl)) ?_
   obtain ⟨r2,e2,hp⟩:=bind_some' hp
   refine call_ex (bg.P ⟨w0,trivial⟩ e2) ?_
   rintro _ H3 ⟨rfl,w3,s3,_⟩
   refine bind_ex rfl ?_
   refine bif_ex (fun hb=>?_) (fun hb=>?_)
   ·replace hp:=bif_t hb hp
    refine bind_ex (ldSl_of (w3.ld (i:=5) rfl rfl)) ?_
    obtain ⟨w4,s4⟩:=w3.pick' [4,0,1,2,3,5,6] 7 rfl rfl rfl
    dsimp only [pk,pks,nth,List.drop] at w4 s4
    have f5:=W.borrow1 (ePair (eInt .i64) (eInt .i64)) w4 (iJ.step (s3.trans s4))
    obtain ⟨w5,s5⟩:=w4.right1
    obtain ⟨r6,e6,hp⟩:=bind_some' hp
    refine call_ex (bs.P rfl ⟨w5,f5⟩ e6) ?_
    rintro _ H7 ⟨rfl,w7,s7,_⟩
    obtain ⟨w8,s8⟩:=W.frame1 w4 w7 s7
    refine bind_ex rfl ?_
    refine bif_ex (fun hb=>?_) (fun hb=>?_)
    ·replace hp:=bif_t hb hp
     refine bind_ex (ldSl_of (w8.ld (i:=5) rfl rfl)) ?_
     refine bind_ex (ldSl_of (w8.ld (i:=5) rfl rfl)) ?_
     refine st_k w8 (i:=3) rfl rfl rfl fun H9 w9 s9=>?_
     dsimp only [List.set] at w9 s9
     refine st_k w9 (i:=3) rfl rfl rfl fun H10 w10 s10=>?_
     dsimp only [List.set] at w10 s10
     refine bind_ex (ldSl_of (w10.ld (i:=3) rfl rfl)) ?_
     refine bind_ex (ldSl_of (w10.ld (i:=3) rfl rfl)) ?_
     obtain ⟨w11,s11⟩:=w10.pick' [4,0] 7 rfl rfl rfl
     dsimp only [pk,pks,nth,List.drop] at w11 s11
     obtain rfl:=Option.some.inj hp
     exact ⟨_,_,rfl,_,_,_,_,_,_,_,_,rfl,rfl,rfl,w11,(s0.trans (s3.trans (s4.trans (s8.trans (s9.trans (s10.trans s11)))))),(iI.step (s3.trans (s4.trans (s8.trans (s9.trans (s10.trans s11)))))),(iJ.step (s3.trans (s4.trans (s8.trans (s9.trans (s10.trans s11))))))⟩
    ·replace hp:=bif_f hb hp
     obtain ⟨n12,g12,hp⟩:=bind_some' hp
     obtain ⟨p12,q12,i12,h12,j12⟩:=W.ixo (E:=(ePair (eInt .i64) (eInt .i64))) w8 (i:=0) rfl rfl (iJ.step (s3.trans (s4.trans s8))) g12
     refine bind_ex i12 ?_
     obtain ⟨_,_,rfl,rfl,rfl⟩:=h12
     refine bind_ex (ldI_of (j12 0 _ rfl)) ?_
     refine bif_ex (fun hb=>?_) (fun hb=>?_)
     ·replace hp:=bif_t hb hp
      refine bind_ex (ldSl_of (w8.ld (i:=5) rfl rfl)) ?_
      refine bind_ex (ldSl_of (w8.ld (i:=5) rfl rfl)) ?_
      refine st_k w8 (i:=3) rfl rfl rfl fun H13 w13 s13=>?_
      dsimp only [List.set] at w13 s13
      refine st_k w13 (i:=3) rfl rfl rfl fun H14 w14 s14=>?_
      dsimp only [List.set] at w14 s14
      refine bind_ex (ldSl_of (w14.ld (i:=3) rfl rfl)) ?_
      refine bind_ex (ldSl_of (w14.ld (i:=3) rfl rfl)) ?_
      obtain ⟨w15,s15⟩:=w14.pick' [4,0] 7 rfl rfl rfl
      dsimp only [pk,pks,nth,List.drop] at w15 s15
      obtain rfl:=Option.some.inj hp
      exact ⟨_,_,rfl,_,_,_,_,_,_,_,_,rfl,rfl,rfl,w15,(s0.trans (s3.trans (s4.trans (s8.trans (s13.trans (s14.trans s15)))))),(iI.step (s3.trans (s4.trans (s8.trans (s13.trans (s14.trans s15)))))),(iJ.step (s3.trans (s4.trans (s8.trans (s13.trans (s14.trans s15))))))⟩
     ·replace hp:=bif_f hb hp
      obtain ⟨n16,g16,hp⟩:=bind_some' hp
      obtain ⟨p16,q16,i16,h16,j16⟩:=W.ixo (E:=(ePair (eInt .i64) (eInt .i64))) w8 (i:=0) rfl rfl (iJ.step (s3.trans (s4.trans s8))) g16
      refine bind_ex i16 ?_
      obtain ⟨l17,e17,hp⟩:=bind_some' hp
      refine sto_k (ePair (eInt .i64) (eInt .i64)) w8 (i:=0) (j:=0) (p:=p16) rfl rfl (iJ.step (s3.trans (s4.trans s8))) g16 i16 e17 rfl rfl (fun _ h=>by obtain ⟨_,_,rfl,rfl,rfl⟩:=h; exact ⟨[_],_,rfl,rfl,rfl⟩) fun H18 k18 w18 s18 c18=>?_
      dsimp only [List.set] at w18 s18 c18
      obtain ⟨l19,e19,hp⟩:=bind_some' hp
      refine sto_k (ePair (eInt .i64) (eInt .i64)) w18 (i:=0) (j:=1) (p:=p16) rfl rfl c18 (ix_len g16 (st_len e17)) i16 e19 rfl rfl (fun _ h=>by obtain ⟨_,_,rfl,rfl,rfl⟩:=h; exact ⟨[_],_,rfl,rfl,rfl⟩) fun H20 k20 w20 s20 c20=>?_
      dsimp only [List.set] at w20 s20 c20
      obtain ⟨w21,s21⟩:=w20.pick' [1,2,3,4,0,5,6] 7 rfl rfl rfl
      dsimp only [pk,pks,nth,List.drop] at w21 s21
      exact ih rfl rfl rfl ((st_len e17).symm.trans (st_len e19).symm) rfl ⟨w21,(s0.trans (s3.trans (s4.trans (s8.trans (s18.trans (s20.trans s21)))))),(wB.step (s3.trans (s4.trans (s8.trans (s18.trans (s20.trans s21)))))),(wC.step (s3.trans (s4.trans (s8.trans (s18.trans (s20.trans s21)))))),(iI.step (s3.trans (s4.trans (s8.trans (s18.trans (s20.trans s21)))))),(c20.step s21),(wD.step (s3.trans (s4.trans (s8.trans (s18.trans (s20.trans s21))))))⟩ hp
   ·replace hp:=bif_f hb hp
    obtain ⟨w22,s22⟩:=w3.pick' [3,0,1,2,4,5,6] 7 rfl rfl rfl
    dsimp only [pk,pks,nth,List.drop] at w22 s22
    have f23:=W.borrow1 (ePair (eInt .i64) (eInt .i64)) w22 (iI.step (s3.trans s22))
    obtain ⟨w23,s23⟩:=w22.right1
    obtain ⟨r24,e24,hp⟩:=bind_some' hp
    refine call_ex (bs.P rfl ⟨w23,f23⟩ e24) ?_
    rintro _ H25 ⟨rfl,w25,s25,_⟩
    obtain ⟨w26,s26⟩:=W.frame1 w22 w25 s25
    refine bind_ex rfl ?_
    refine bif_ex (fun hb=>?_) (fun hb=>?_)
    ·replace hp:=bif_t hb hp
     refine bind_ex (ldSl_of (w26.ld (i:=5) rfl rfl)) ?_
     refine bind_ex (ldSl_of (w26.ld (i:=5) rfl rfl)) ?_
     refine st_k w26 (i:=3) rfl rfl rfl fun H27 w27 s27=>?_
     dsimp only [List.set] at w27 s27
     refine st_k w27 (i:=3) rfl rfl rfl fun H28 w28 s28=>?_
     dsimp only [List.set] at w28 s28
     refine bind_ex (ldSl_of (w28.ld (i:=3) rfl rfl)) ?_
     refine bind_ex (ldSl_of (w28.ld (i:=3) rfl rfl)) ?_
     obtain ⟨w29,s29⟩:=w28.pick' [0,4] 7 rfl rfl rfl
     dsimp only [pk,pks,nth,List.drop] at w29 s29
     obtain rfl:=Option.some.inj hp
     exact ⟨_,_,rfl,_,_,_,_,_,_,_,_,rfl,rfl,rfl,w29,(s0.trans (s3.trans (s22.trans (s26.trans (s27.trans (s28.trans s29)))))),(iI.step (s3.trans (s22.trans (s26.trans (s27.trans (s28.trans s29)))))),(iJ.step (s3.trans (s22.trans (s26.trans (s27.trans (s28.trans s29))))))⟩
    ·replace hp:=bif_f hb hp
     obtain ⟨n30,g30,hp⟩:=bind_some' hp
     obtain ⟨p30,q30,i30,h30,j30⟩:=W.ixo (E:=(ePair (eInt .i64) (eInt .i64))) w26 (i:=0) rfl rfl (iI.step (s3.trans (s22.trans s26))) g30
     refine bind_ex i30 ?_
     obtain ⟨_,_,rfl,rfl,rfl⟩:=h30
     refine bind_ex (ldI_of (j30 0 _ rfl)) ?_
     refine bif_ex (fun hb=>?_) (fun hb=>?_)
     ·replace hp:=bif_t hb hp
      refine bind_ex (ldSl_of (w26.ld (i:=5) rfl rfl)) ?_
      refine bind_ex (ldSl_of (w26.ld (i:=5) rfl rfl)) ?_
      refine st_k w26 (i:=3) rfl rfl rfl fun H31 w31 s31=>?_
      dsimp only [List.set] at w31 s31
      refine st_k w31 (i:=3) rfl rfl rfl fun H32 w32 s32=>?_
      dsimp only [List.set] at w32 s32
      refine bind_ex (ldSl_of (w32.ld (i:=3) rfl rfl)) ?_
      refine bind_ex (ldSl_of (w32.ld (i:=3) rfl rfl)) ?_
      obtain ⟨w33,s33⟩:=w32.pick' [0,4] 7 rfl rfl rfl
      dsimp only [pk,pks,nth,List.drop] at w33 s33
      obtain rfl:=Option.some.inj hp
      exact ⟨_,_,rfl,_,_,_,_,_,_,_,_,rfl,rfl,rfl,w33,(s0.trans (s3.trans (s22.trans (s26.trans (s31.trans (s32.trans s33)))))),(iI.step (s3.trans (s22.trans (s26.trans (s31.trans (s32.trans s33)))))),(iJ.step (s3.trans (s22.trans (s26.trans (s31.trans (s32.trans s33))))))⟩
     ·replace hp:=bif_f hb hp
      obtain ⟨n34,g34,hp⟩:=bind_some' hp
      obtain ⟨p34,q34,i34,h34,j34⟩:=W.ixo (E:=(ePair (eInt .i64) (eInt .i64))) w26 (i:=0) rfl rfl (iI.step (s3.trans (s22.trans s26))) g34
      refine bind_ex i34 ?_
      obtain ⟨l35,e35,hp⟩:=bind_some' hp
      refine sto_k (ePair (eInt .i64) (eInt .i64)) w26 (i:=0) (j:=0) (p:=p34) rfl rfl (iI.step (s3.trans (s22.trans s26))) g34 i34 e35 rfl rfl (fun _ h=>by obtain ⟨_,_,rfl,rfl,rfl⟩:=h; exact ⟨[_],_,rfl,rfl,rfl⟩) fun H36 k36 w36 s36 c36=>?_
      dsimp only [List.set] at w36 s36 c36
      obtain ⟨l37,e37,hp⟩:=bind_some' hp
      refine sto_k (ePair (eInt .i64) (eInt .i64)) w36 (i:=0) (j:=1) (p:=p34) rfl rfl c36 (ix_len g34 (st_len e35)) i34 e37 rfl rfl (fun _ h=>by obtain ⟨_,_,rfl,rfl,rfl⟩:=h; exact ⟨[_],_,rfl,rfl,rfl⟩) fun H38 k38 w38 s38 c38=>?_
      dsimp only [List.set] at w38 s38 c38
      obtain ⟨w39,s39⟩:=w38.pick' [1,2,3,0,4,5,6] 7 rfl rfl rfl
      dsimp only [pk,pks,nth,List.drop] at w39 s39
      exact ih rfl rfl ((st_len e35).symm.trans (st_len e37).symm) rfl rfl ⟨w39,(s0.trans (s3.trans (s22.trans (s26.trans (s36.trans (s38.trans s39)))))),(wB.step (s3.trans (s22.trans (s26.trans (s36.trans (s38.trans s39)))))),(wC.step (s3.trans (s22.trans (s26.trans (s36.trans (s38.trans s39)))))),(c38.step s39),(iJ.step (s3.trans (s22.trans (s26.trans (s36.trans (s38.trans s39)))))),(wD.step (s3.trans (s22.trans (s26.trans (s36.trans (s38.trans s39))))))⟩ hp
  ·replace hp:=bif_f hb hp
   obtain ⟨w40,s40⟩:=w0.pick' [0,1,2,3,4,5] 7 rfl rfl rfl
   dsimp only [pk,pks,nth,List.drop] at w40 s40
   exact hC61 rfl rfl rfl rfl rfl ⟨w40,(s0.trans s40),(wB.step s40),(wC.step s40),(iI.step s40),(iJ.step s40),(wD.step s40)⟩ hp
def aw.pl61 (F:Nat) :Nat→List (Int×Int)→List (Int×Int)→List (Int×Int×Int×Int×Int)→Int→Int→Option ((List (Int×Int))×(List (Int×Int))×Bool)
 | 0,_,_,_,_,_=>none
 | k + 1,jM,jN,gI,eN,dS=>(bif (decide (dS < eN)) then ((ix gI dS).bind fun n1=>(bf.p F ((gt gI n1).1) ((gt gI n1).2.1) ((gt gI n1).2.2.1) ((gt gI n1).2.2.2.1)).bind fun r8=>aw.pl3931 F (aw.pl61 F k) F jM jN gI eN dS ((gt gI n1).2.2.2.2) dS r8.1 r8.2.1 r8.2.2.1 r8.2.2.2 0) else (some (jM,jN,true)))
termination_by structural n=>n
theorem aw.l61_P {F:Nat} {H0:Hp} {Ri R0:List Rs}  :∀ k,aw.S61 H0 Ri R0  (aw.l61 F (aM.tw F) (bf.tw F) (bg.tw F) (bs.tw F)  k) (aw.pl61 F  k):=by
 intro k
 induction k with
 | zero=>
  intro r_ sa sb sd se nX nY dR nZ n_ bQ oa sf sh si sj sk sm sn jM jN sp sq ss su gI eN dS H BH BI BJ BK BL h0 r hp
  exact nomatch (show (none:Option ((List (Int×Int))×(List (Int×Int))×Bool)) = some r from hp)
 | succ k ih=>
  intro r_ sa sb sd se nX nY dR nZ n_ bQ oa sf sh si sj sk sm sn jM jN sp sq ss su gI eN dS H BH BI BJ BK BL h0 r hp
  obtain ⟨w0,s0,Iw,Ix,BM,BN,BO⟩:=h0
  subst BH
  subst BI
  subst BJ
  subst BK
  subst BL
  unfold aw.pl61 at hp
  unfold aw.l61
  refine bif_ex (fun hb=>?_) (fun hb=>?_)
  ·replace hp:=bif_t hb hp
   obtain ⟨n1,g1,hp⟩:=bind_some' hp
   obtain ⟨p1,q1,i1,h1,j1⟩:=ROs.ixr BO rfl g1
   refine bind_ex i1 ?_
   obtain ⟨_,_,rfl,rfl,_,_,rfl,rfl,_,_,rfl,rfl,_,_,rfl,rfl,rfl⟩:=h1
   refine bind_ex (ldI_of (j1 0 _ rfl)) ?_
   refine bind_ex (ldI_of (j1 1 _ rfl)) ?_
   refine bind_ex (ldI_of (j1 2 _ rfl)) ?_
   refine bind_ex (ldI_of (j1 3 _ rfl)) ?_
   refine bind_ex (ldI_of (j1 4 _ rfl)) ?_
   refine new_k w0 fun H2 w2 s2=>?_
   refine st_k w2 (i:=0) rfl rfl rfl fun H3 w3 s3=>?_
   dsimp only [List.set] at w3 s3
   refine st_k w3 (i:=0) rfl rfl rfl fun H4 w4 s4=>?_
   dsimp only [List.set] at w4 s4
   refine st_k w4 (i:=0) rfl rfl rfl fun H5 w5 s5=>?_
   dsimp only [List.set] at w5 s5
   refine st_k w5 (i:=0) rfl rfl rfl fun H6 w6 s6=>?_
   dsimp only [List.set] at w6 s6
   refine st_k w6 (i:=0) rfl rfl rfl fun H7 w7 s7=>?_
   dsimp only [List.set] at w7 s7
   refine bind_ex (ldI_of (w7.ld (i:=0) rfl rfl)) ?_
   refine bind_ex (ldI_of (w7.ld (i:=0) rfl rfl)) ?_
   refine bind_ex (ldI_of (w7.ld (i:=0) rfl rfl)) ?_
   refine bind_ex (ldI_of (w7.ld (i:=0) rfl rfl)) ?_
   refine bind_ex (ldI_of (w7.ld (i:=0) rfl rfl)) ?_
   obtain ⟨r8,e8,hp⟩:=bind_some' hp
   refine call_ex (bf.P ⟨w7,trivial⟩ e8) ?_
   rintro _ H9 ⟨rfl,w9,s9,_⟩
   refine bind_ex rfl ?_
   refine bind_ex rfl ?_
   refine bind_ex rfl ?_
   refine bind_ex rfl ?_
   refine bind_ex rfl ?_
   refine bind_ex rfl ?_
   refine bind_ex rfl ?_
   refine bind_ex rfl ?_
   refine bind_ex rfl ?_
   obtain ⟨w10,s10⟩:=w9.pick' [1,2,3,4,5,6,0] 7 rfl rfl rfl
   dsimp only [pk,pks,nth,List.drop] at w10 s10
   exact aw.l3931_P (@ih) F rfl rfl rfl rfl rfl ⟨w10,(s0.trans (s2.trans (s3.trans (s4.trans (s5.trans (s6.trans (s7.trans (s9.trans s10)))))))),(Iw.step (s2.trans (s3.trans (s4.trans (s5.trans (s6.trans (s7.trans (s9.trans s10)))))))),(Ix.step (s2.trans (s3.trans (s4.trans (s5.trans (s6.trans (s7.trans (s9.trans s10)))))))),(BM.step (s2.trans (s3.trans (s4.trans (s5.trans (s6.trans (s7.trans (s9.trans s10)))))))),(BN.step (s2.trans (s3.trans (s4.trans (s5.trans (s6.trans (s7.trans (s9.trans s10)))))))),(BO.step (s2.trans (s3.trans (s4.trans (s5.trans (s6.trans (s7.trans (s9.trans s10))))))))⟩ hp
  ·replace hp:=bif_f hb hp
   refine bind_ex (ldSl_of (w0.ld (i:=5) rfl rfl)) ?_
   refine bind_ex (ldSl_of (w0.ld (i:=5) rfl rfl)) ?_
   refine st_k w0 (i:=2) rfl rfl rfl fun H11 w11 s11=>?_
   dsimp only [List.set] at w11 s11
   refine st_k w11 (i:=2) rfl rfl rfl fun H12 w12 s12=>?_
   dsimp only [List.set] at w12 s12
   refine bind_ex (ldSl_of (w12.ld (i:=2) rfl rfl)) ?_
   refine bind_ex (ldSl_of (w12.ld (i:=2) rfl rfl)) ?_
   obtain ⟨w13,s13⟩:=w12.pick' [3,4] 6 rfl rfl rfl
   dsimp only [pk,pks,nth,List.drop] at w13 s13
   obtain rfl:=Option.some.inj hp
   exact ⟨_,_,rfl,_,_,_,_,_,_,_,_,rfl,rfl,rfl,w13,(s0.trans (s11.trans (s12.trans s13))),(BM.step (s11.trans (s12.trans s13))),(BN.step (s11.trans (s12.trans s13)))⟩
def aw.p (F:Nat) (ad:List (Int×Int×Int×Int×Int)):Option ((List (Int×Int))×(List (Int×Int))×Bool):=(aM.p F ([((-1),0)]:List (Int×Int)) (IntKind.i64.wrap (2 * (ad.length:Int)))).bind fun r5=>(aM.p F ([((-1),0)]:List (Int×Int)) (IntKind.i64.wrap (2 * (ad.length:Int)))).bind fun r10=>aw.pl61 F F r5 r10 ad (ad.length:Int) 0
theorem aw.P {F:Nat} {ax:ON} {aq:Nat} {ay:Cap} {ad:List (Int×Int×Int×Int×Int)} {ab:Int} {H:Hp} {R0:List Rs} (bb:aq = ad.length) (h0:Inn H R0 fun R=>ROs (ePair (eInt .i64) (ePair (eInt .i64) (ePair (eInt .i64) (ePair (eInt .i64) (eInt .i64))))) H R ⟨ax,aq,ay⟩ ad) {r:(List (Int×Int))×(List (Int×Int))×Bool} (hp:aw.p F ad = some r):∃ v H',aw.tw F ⟨ax,aq,ay⟩ ab H = some (v,H')∧aw.Q H R0 R0  r v H':=by
 obtain ⟨w0,aP⟩:=h0
 subst bb
 unfold aw.p at hp
 unfold aw.tw aw.twX
 have s0:=w0.rf
 refine new_k w0 fun H1 w1 s1=>?_
 refine new_k w1 fun H2 w2 s2=>?_
 refine bind_ex (ldSl_of (w2.ld (i:=1) rfl rfl)) ?_
 refine newS_k (ePair (eInt .i64) (eInt .i64)) w2 (n:=1) (l:=([((-1),0)]:List (Int×Int))) rfl (CR.cons (c:=[_,_]) ⟨[_],_,rfl,rfl,rfl⟩ CR.empty) rfl fun H3 w3 s3 c3=>?_
 have f4:=W.borrow1 (ePair (eInt .i64) (eInt .i64)) w3 c3
 obtain ⟨w4,s4⟩:=w3.right1
 obtain ⟨r5,e5,hp⟩:=bind_some' hp
 refine call_ex (aM.P (show 1 = List.length ([((-1),0)]:List (Int×Int)) from rfl) ⟨w4,f4⟩ e5) ?_
 rintro _ H6 ⟨o0a_6,o0n_6,o0k_6,rfl,rfl,w6,s6,f6_0⟩
 obtain ⟨w7,s7⟩:=W.frame1 w3 w6 s6
 refine bind_ex rfl ?_
 refine newS_k (ePair (eInt .i64) (eInt .i64)) w7 (n:=1) (l:=([((-1),0)]:List (Int×Int))) rfl (CR.cons (c:=[_,_]) ⟨[_],_,rfl,rfl,rfl⟩ CR.empty) rfl fun H8 w8 s8 c8=>?_
 have f9:=W.borrow1 (ePair (eInt .i64) (eInt .i64)) w8 c8
 obtain ⟨w9,s9⟩:=w8.right1
 obtain ⟨r10,e10,hp⟩:=bind_some' hp
 refine call_ex (aM.P (show 1 = List.length ([((-1),0)]:List (Int×Int)) from rfl) ⟨w9,f9⟩ e10) ?_
 rintro _ H11 ⟨o0a_11,o0n_11,o0k_11,rfl,rfl,w11,s11,f11_0⟩
 obtain ⟨w12,s12⟩:=W.frame1 w8 w11 s11
 refine bind_ex rfl ?_
 refine new_k w12 fun H13 w13 s13=>?_
 refine st_k w13 (i:=0) rfl rfl rfl fun H14 w14 s14=>?_
 dsimp only [List.set] at w14 s14
 refine st_k w14 (i:=0) rfl rfl rfl fun H15 w15 s15=>?_
 dsimp only [List.set] at w15 s15
 refine bind_ex (ldSl_of (w15.ld (i:=6) rfl rfl)) ?_
 obtain ⟨w16,s16⟩:=w15.nilS (ePair (eInt .i64) (eInt .i64)).z (by decide)
 obtain ⟨w17,s17⟩:=w16.nilS (ePair (eInt .i64) (eInt .i64)).z (by decide)
 obtain ⟨w18,s18⟩:=w17.pick' [1,0,7,6,4,2] 9 rfl rfl rfl
 dsimp only [pk,pks,nth,List.drop] at w18 s18
 exact aw.l61_P F rfl rfl rfl rfl rfl ⟨w18,(s0.trans (s1.trans (s2.trans (s3.trans (s7.trans (s8.trans (s12.trans (s13.trans (s14.trans (s15.trans (s16.trans (s17.trans s18)))))))))))),((CR.empty:CR (ePair (eInt .i64) (eInt .i64)) _ _ [] []).step (s17.trans s18)),((CR.empty:CR (ePair (eInt .i64) (eInt .i64)) _ _ [] []).step s18),((CR.flat (ePair_flat (eInt_flat .i64) (eInt_flat .i64)) f6_0).step (s8.trans (s12.trans (s13.trans (s14.trans (s15.trans (s16.trans (s17.trans s18)))))))),((CR.flat (ePair_flat (eInt_flat .i64) (eInt_flat .i64)) f11_0).step (s13.trans (s14.trans (s15.trans (s16.trans (s17.trans s18)))))),(aP.step (s1.trans (s2.trans (s3.trans (s7.trans (s8.trans (s12.trans (s13.trans (s14.trans (s15.trans (s16.trans (s17.trans s18))))))))))))⟩ hp
def bo.Q (H0:Hp) (Ri R0:List Rs)  (r:Int×Int) (v:AV) (H':Hp):Prop:=v = (.agg [(.int .i64 r.1),(.int .i64 r.2)])∧Out H0 Ri H' (R0) fun R=>True
def bo.p (F:Nat) (ad:List (Int×Int×Int×Int×Int)) (bN:List (Int×Int)) (bS:List (Int×Int)) (bM:Int) (dU:Int):Option (Int×Int):=(ix ad bM).bind fun n5=>(bf.p F ((gt ad n5).1) ((gt ad n5).2.1) ((gt ad n5).2.2.1) ((gt ad n5).2.2.2.1)).bind fun r12=>(if 0 ≤ dU∧dU < (4:Int) then ((bg.p F ((gt ad n5).2.2.2.2) dU).bind fun r16=>(bif r16 then ((ix bN (gt ([r12.1,r12.2.1,r12.2.2.1,r12.2.2.2]:List Int) (dU:Int).toNat)).bind fun n18=>some (((gt bN n18).1),((gt bN n18).2))) else ((ix bS (gt ([r12.1,r12.2.1,r12.2.2.1,r12.2.2.2]:List Int) (dU:Int).toNat)).bind fun n22=>some (((gt bS n22).1),((gt bS n22).2))))) else none)
theorem bo.P {F:Nat} {ax dC eH:ON} {aq cq cO:Nat} {ay dD eI:Cap} {ad:List (Int×Int×Int×Int×Int)} {ab bM dU:Int} {bN bS:List (Int×Int)} {H:Hp} {R0:List Rs} (bb:aq = ad.length) (fT:cq = bN.length) (gJ:cO = bS.length) (h0:Inn H R0 fun R=>ROs (ePair (eInt .i64) (ePair (eInt .i64) (ePair (eInt .i64) (ePair (eInt .i64) (eInt .i64))))) H R ⟨ax,aq,ay⟩ ad∧ROs (ePair (eInt .i64) (eInt .i64)) H R ⟨dC,cq,dD⟩ bN∧ROs (ePair (eInt .i64) (eInt .i64)) H R ⟨eH,cO,eI⟩ bS) {r:Int×Int} (hp:bo.p F ad bN bS bM dU = some r):∃ v H',bo.tw F ⟨ax,aq,ay⟩ ab ⟨dC,cq,dD⟩ ⟨eH,cO,eI⟩ bM dU H = some (v,H')∧bo.Q H R0 R0  r v H':=by
 obtain ⟨w0,aP,fl,fK⟩:=h0
 subst bb
 subst fT
 subst gJ
 unfold bo.p at hp
 unfold bo.tw bo.twX
 have s0:=w0.rf
 refine new_k w0 fun H1 w1 s1=>?_
 refine new_k w1 fun H2 w2 s2=>?_
 refine new_k w2 fun H3 w3 s3=>?_
 refine new_k w3 fun H4 w4 s4=>?_
 refine bind_ex (ldSl_of (w4.ld (i:=3) rfl rfl)) ?_
 refine bind_ex (ldI_of (w4.ld (i:=1) rfl rfl)) ?_
 obtain ⟨n5,g5,hp⟩:=bind_some' hp
 obtain ⟨p5,q5,i5,h5,j5⟩:=ROs.ixr (aP.step (s1.trans (s2.trans (s3.trans s4)))) rfl g5
 refine bind_ex i5 ?_
 obtain ⟨_,_,rfl,rfl,_,_,rfl,rfl,_,_,rfl,rfl,_,_,rfl,rfl,rfl⟩:=h5
 refine bind_ex (ldI_of (j5 0 _ rfl)) ?_
 refine bind_ex (ldI_of (j5 1 _ rfl)) ?_
 refine bind_ex (ldI_of (j5 2 _ rfl)) ?_
 refine bind_ex (ldI_of (j5 3 _ rfl)) ?_
 refine bind_ex (ldI_of (j5 4 _ rfl)) ?_
 refine new_k w4 fun H6 w6 s6=>?_
 refine st_k w6 (i:=0) rfl rfl rfl fun H7 w7 s7=>?_
 dsimp only [List.set] at w7 s7
 refine st_k w7 (i:=0) rfl rfl rfl fun H8 w8 s8=>?_
 dsimp only [List.set] at w8 s8
 refine st_k w8 (i:=0) rfl rfl rfl fun H9 w9 s9=>?_
 dsimp only [List.set] at w9 s9
 refine st_k w9 (i:=0) rfl rfl rfl fun H10 w10 s10=>?_
 dsimp only [List.set] at w10 s10
 refine st_k w10 (i:=0) rfl rfl rfl fun H11 w11 s11=>?_
 dsimp only [List.set] at w11 s11
 refine bind_ex (ldI_of (w11.ld (i:=0) rfl rfl)) ?_
 refine bind_ex (ldI_of (w11.ld (i:=0) rfl rfl)) ?_
 refine bind_ex (ldI_of (w11.ld (i:=0) rfl rfl)) ?_
 refine bind_ex (ldI_of (w11.ld (i:=0) rfl rfl)) ?_
 refine bind_ex (ldI_of (w11.ld (i:=0) rfl rfl)) ?_
 obtain ⟨r12,e12,hp⟩:=bind_some' hp
 refine call_ex (bf.P ⟨w11,trivial⟩ e12) ?_
 rintro _ H13 ⟨rfl,w13,s13,_⟩
 refine bind_ex rfl ?_
 refine bind_ex rfl ?_
 refine bind_ex rfl ?_
 refine bind_ex rfl ?_
 refine bind_ex rfl ?_
 refine bind_ex rfl ?_
 refine bind_ex rfl ?_
 refine bind_ex rfl ?_
 refine bind_ex rfl ?_
 refine ifs_ex (W.cons_of (Rn:=[]) w11 w13 s13) ?_
 refine bind_ex (ldI_of (w13.ld (i:=2) rfl rfl)) ?_
 obtain ⟨g15,hp⟩:=ifs_p hp
 refine ifs_ex g15 ?_
 refine bind_ex (a:=AV.int .i64 (gt ([r12.1,r12.2.1,r12.2.2.1,r12.2.2.2]:List Int) (dU:Int).toNat)) (by rw [Nat.mul_one]; exact arr_get (k:=.i64) (l:=[r12.1,r12.2.1,r12.2.2.1,r12.2.2.2]) rfl (by have:=g15; simp only [List.length_cons,List.length_nil]; omega)) ?_
 refine bind_ex rfl ?_
 refine bind_ex (ldI_of (w13.ld (i:=0) rfl rfl)) ?_
 refine bind_ex (ldI_of (w13.ld (i:=0) rfl rfl)) ?_
 refine bind_ex (ldI_of (w13.ld (i:=0) rfl rfl)) ?_
 refine bind_ex (ldI_of (w13.ld (i:=0) rfl rfl)) ?_
 refine bind_ex (ldI_of (w13.ld (i:=0) rfl rfl)) ?_
 refine bind_ex (ldI_of (w13.ld (i:=2) rfl rfl)) ?_
 obtain ⟨r16,e16,hp⟩:=bind_some' hp
 refine call_ex (bg.P ⟨w13,trivial⟩ e16) ?_
 rintro _ H17 ⟨rfl,w17,s17,_⟩
 refine bind_ex rfl ?_
 refine bif_ex (fun hb=>?_) (fun hb=>?_)
 ·replace hp:=bif_t hb hp
  refine bind_ex (ldSl_of (w17.ld (i:=3) rfl rfl)) ?_
  obtain ⟨n18,g18,hp⟩:=bind_some' hp
  obtain ⟨p18,q18,i18,h18,j18⟩:=ROs.ixr (fl.step (s1.trans (s2.trans (s3.trans (s4.trans (s6.trans (s7.trans (s8.trans (s9.trans (s10.trans (s11.trans (s13.trans s17)))))))))))) rfl g18
  refine bind_ex i18 ?_
  obtain ⟨_,_,rfl,rfl,rfl⟩:=h18
  refine bind_ex (ldI_of (j18 0 _ rfl)) ?_
  refine bind_ex (ldI_of (j18 1 _ rfl)) ?_
  refine st_k w17 (i:=1) rfl rfl rfl fun H19 w19 s19=>?_
  dsimp only [List.set] at w19 s19
  refine st_k w19 (i:=1) rfl rfl rfl fun H20 w20 s20=>?_
  dsimp only [List.set] at w20 s20
  refine bind_ex (ldI_of (w20.ld (i:=1) rfl rfl)) ?_
  refine bind_ex (ldI_of (w20.ld (i:=1) rfl rfl)) ?_
  obtain ⟨w21,s21⟩:=w20.pick' [] 5 rfl rfl rfl
  dsimp only [pk,pks,nth,List.drop] at w21 s21
  obtain rfl:=Option.some.inj hp
  exact ⟨_,_,rfl,rfl,w21,(s0.trans (s1.trans (s2.trans (s3.trans (s4.trans (s6.trans (s7.trans (s8.trans (s9.trans (s10.trans (s11.trans (s13.trans (s17.trans (s19.trans (s20.trans s21))))))))))))))),trivial⟩
 ·replace hp:=bif_f hb hp
  refine bind_ex (ldSl_of (w17.ld (i:=3) rfl rfl)) ?_
  obtain ⟨n22,g22,hp⟩:=bind_some' hp
  obtain ⟨p22,q22,i22,h22,j22⟩:=ROs.ixr (fK.step (s1.trans (s2.trans (s3.trans (s4.trans (s6.trans (s7.trans (s8.trans (s9.trans (s10.trans (s11.trans (s13.trans s17)))))))))))) rfl g22
  refine bind_ex i22 ?_
  obtain ⟨_,_,rfl,rfl,rfl⟩:=h22
  refine bind_ex (ldI_of (j22 0 _ rfl)) ?_
  refine bind_ex (ldI_of (j22 1 _ rfl)) ?_
  refine st_k w17 (i:=1) rfl rfl rfl fun H23 w23 s23=>?_
  dsimp only [List.set] at w23 s23
  refine st_k w23 (i:=1) rfl rfl rfl fun H24 w24 s24=>?_
  dsimp only [List.set] at w24 s24
  refine bind_ex (ldI_of (w24.ld (i:=1) rfl rfl)) ?_
  refine bind_ex (ldI_of (w24.ld (i:=1) rfl rfl)) ?_
  obtain ⟨w25,s25⟩:=w24.pick' [] 5 rfl rfl rfl
  dsimp only [pk,pks,nth,List.drop] at w25 s25
  obtain rfl:=Option.some.inj hp
  exact ⟨_,_,rfl,rfl,w25,(s0.trans (s1.trans (s2.trans (s3.trans (s4.trans (s6.trans (s7.trans (s8.trans (s9.trans (s10.trans (s11.trans (s13.trans (s17.trans (s23.trans (s24.trans s25))))))))))))))),trivial⟩
def aj.Q (H0:Hp) (Ri R0:List Rs)  (r:List (List Int)) (v:AV) (H':Hp):Prop:=∃ o0a:ON,∃ o0n:Nat,∃ o0c:Cap,∃ o0k:List AV,v = (.sl ⟨o0a,o0n,o0c⟩)∧o0n = (r).length∧Out H0 Ri H' (Rs.own ⟨o0a,o0n,o0c⟩ (eSl (eInt .i64)).z o0k :: R0) fun R=>CR (eSl (eInt .i64)) H' R o0k (r)
def aj.S61 (H0:Hp) (Ri R0:List Rs)  (C:Nat→Nat→Nat→Nat→Sl→Sl→Int→Int→Hp→OA) (pC:List (Int×Int×Int×Int×Int)→List (Int×Int)→List (Int×Int)→List (List Int)→List Bool→Int→Int→Option (List (List Int))):Prop:=∀ {sO sQ sS sT sU:ON} {oh eQ oi oj co ol om:Nat} {sV sW sX sY sZ:Cap} {kl:List (Int×Int×Int×Int×Int)} {wE eR eC:Int} {km kn:List (Int×Int)} {jP:List (List Int)} {s_ tc:List AV} {ko:List Bool},∀ {H:Hp},oh = kl.length→oi = km.length→oj = kn.length→ol = jP.length→om = ko.length→(Out H0 Ri H (Rs.blk eQ [.sl ⟨sO,oh,sV⟩,.int .i64 wE] :: Rs.blk co [.sl ⟨sQ,oi,sW⟩,.sl ⟨sS,oj,sX⟩] :: Rs.own ⟨sT,ol,sY⟩ (eSl (eInt .i64)).z s_ :: Rs.own ⟨sU,om,sZ⟩ eBool.z tc :: R0) fun R=>ROs (ePair (eInt .i64) (ePair (eInt .i64) (ePair (eInt .i64) (ePair (eInt .i64) (eInt .i64))))) H R ⟨sO,oh,sV⟩ kl∧ROs (ePair (eInt .i64) (eInt .i64)) H R ⟨sQ,oi,sW⟩ km∧ROs (ePair (eInt .i64) (eInt .i64)) H R ⟨sS,oj,sX⟩ kn∧CR (eSl (eInt .i64)) H R s_ jP∧CR eBool H R tc ko)→∀ {r:List (List Int)},pC kl km kn jP ko eR eC = some r→∃ v H',C eQ 0 co 0 ⟨sT,ol,sY⟩ ⟨sU,om,sZ⟩ eR eC H = some (v,H')∧aj.Q H0 Ri R0  r v H'
def aj.S15725 (H0:Hp) (Ri R0:List Rs)  (C:Nat→Nat→Nat→Nat→Sl→Sl→Int→Int→Sl→Int→Hp→OA) (pC:List (Int×Int×Int×Int×Int)→List (Int×Int)→List (Int×Int)→List (List Int)→List Bool→Int→Int→List Int→Int→Option (List (List Int))):Prop:=∀ {td te tf tg th ti:ON} {oo di oq ot dx ou ov ox:Nat} {tj tk tn tp tq ts:Cap} {jj:List (Int×Int×Int×Int×Int)} {wF eP ff cH:Int} {jk jl:List (Int×Int)} {jQ:List (List Int)} {tt tu tv:List AV} {iB:List Bool} {jR:List Int},∀ {H:Hp},oo = jj.length→oq = jk.length→ot = jl.length→ou = jQ.length→ov = iB.length→ox = jR.length→(Out H0 Ri H (Rs.blk di [.sl ⟨td,oo,tj⟩,.int .i64 wF] :: Rs.blk dx [.sl ⟨te,oq,tk⟩,.sl ⟨tf,ot,tn⟩] :: Rs.own ⟨tg,ou,tp⟩ (eSl (eInt .i64)).z tt :: Rs.own ⟨th,ov,tq⟩ eBool.z tu :: Rs.own ⟨ti,ox,ts⟩ (eInt .i64).z tv :: R0) fun R=>ROs (ePair (eInt .i64) (ePair (eInt .i64) (ePair (eInt .i64) (ePair (eInt .i64) (eInt .i64))))) H R ⟨td,oo,tj⟩ jj∧ROs (ePair (eInt .i64) (eInt .i64)) H R ⟨te,oq,tk⟩ jk∧ROs (ePair (eInt .i64) (eInt .i64)) H R ⟨tf,ot,tn⟩ jl∧CR (eSl (eInt .i64)) H R tt jQ∧CR eBool H R tu iB∧CR (eInt .i64) H R tv jR)→∀ {r:List (List Int)},pC jj jk jl jQ iB eP ff jR cH = some r→∃ v H',C di 0 dx 0 ⟨tg,ou,tp⟩ ⟨th,ov,tq⟩ eP ff ⟨ti,ox,ts⟩ cH H = some (v,H')∧aj.Q H0 Ri R0  r v H'
def aj.pj4 (F:Nat) (aO:List (Int×Int×Int×Int×Int)→List (Int×Int)→List (Int×Int)→List (List Int)→List Bool→Int→Int→Option (List (List Int))) (oy:List (Int×Int×Int×Int×Int)) (oz:List (Int×Int)) (oA:List (Int×Int)) (oB:List (List Int)) (oC:List Bool) (kZ:Int) (k_:Int):Option (List (List Int)):=aO oy oz oA oB oC kZ (IntKind.i64.wrap (k_ + 1))
theorem aj.j4_P {F:Nat} {H0:Hp} {Ri R0:List Rs}  {C61_:Nat→Nat→Nat→Nat→Sl→Sl→Int→Int→Hp→OA} {aO:List (Int×Int×Int×Int×Int)→List (Int×Int)→List (Int×Int)→List (List Int)→List Bool→Int→Int→Option (List (List Int))} (hC61:aj.S61 H0 Ri R0  C61_ aO) {BP BQ BR BS BT:ON} {wG pO wH wI pP wJ wK:Nat} {BU BV BW BX BY:Cap} {oy:List (Int×Int×Int×Int×Int)} {Iy kZ k_:Int} {oz oA:List (Int×Int)} {oB:List (List Int)} {BZ B_:List AV} {oC:List Bool} {H:Hp} (Iz:wG = oy.length) (IA:wH = oz.length) (IB:wI = oA.length) (IC:wJ = oB.length) (ID:wK = oC.length) (h0:Out H0 Ri H (Rs.blk pO [.sl ⟨BP,wG,BU⟩,.int .i64 Iy] :: Rs.blk pP [.sl ⟨BQ,wH,BV⟩,.sl ⟨BR,wI,BW⟩] :: Rs.own ⟨BS,wJ,BX⟩ (eSl (eInt .i64)).z BZ :: Rs.own ⟨BT,wK,BY⟩ eBool.z B_ :: R0) fun R=>ROs (ePair (eInt .i64) (ePair (eInt .i64) (ePair (eInt .i64) (ePair (eInt .i64) (eInt .i64))))) H R ⟨BP,wG,BU⟩ oy∧ROs (ePair (eInt .i64) (eInt .i64)) H R ⟨BQ,wH,BV⟩ oz∧ROs (ePair (eInt .i64) (eInt .i64)) H R ⟨BR,wI,BW⟩ oA∧CR (eSl (eInt .i64)) H R BZ oB∧CR eBool H R B_ oC) {r:List (List Int)} (hp:aj.pj4 F aO oy oz oA oB oC kZ k_ = some r):∃ v H',aj.j4 F (bo.tw F) C61_ pO 0 pP 0 ⟨BS,wJ,BX⟩ ⟨BT,wK,BY⟩ kZ k_ H = some (v,H')∧aj.Q H0 Ri R0  r v H':=by
 obtain ⟨w0,s0,IE,IF,IG,IH,II⟩:=h0
 subst Iz
 subst IA
 subst IB
 subst IC
 subst ID
 unfold aj.pj4 at hp
 unfold aj.j4
 exact hC61 rfl rfl rfl rfl rfl ⟨w0,s0,IE,IF,IG,IH,II⟩ hp
def aj.pj5 (F:Nat) (aO:List (Int×Int×Int×Int×Int)→List (Int×Int)→List (Int×Int)→List (List Int)→List Bool→Int→Int→Option (List (List Int))) (oD:List (Int×Int×Int×Int×Int)) (oE:List (Int×Int)) (oF:List (Int×Int)) (oG:List (List Int)) (oH:List Bool) (la:Int) (lb:Int):Option (List (List Int)):=aj.pj4 F aO oD oE oF oG oH la lb
theorem aj.j5_P {F:Nat} {H0:Hp} {Ri R0:List Rs}  {C61_:Nat→Nat→Nat→Nat→Sl→Sl→Int→Int→Hp→OA} {aO:List (Int×Int×Int×Int×Int)→List (Int×Int)→List (Int×Int)→List (List Int)→List Bool→Int→Int→Option (List (List Int))} (hC61:aj.S61 H0 Ri R0  C61_ aO) {Ca Cb Cc Cd Ce:ON} {wL pQ wM wN kB wO wP:Nat} {Cf Cg Ch Ci Cj:Cap} {oD:List (Int×Int×Int×Int×Int)} {IJ la lb:Int} {oE oF:List (Int×Int)} {oG:List (List Int)} {Ck Cl:List AV} {oH:List Bool} {H:Hp} (IK:wL = oD.length) (IL:wM = oE.length) (IM:wN = oF.length) (IN:wO = oG.length) (IP:wP = oH.length) (h0:Out H0 Ri H (Rs.blk pQ [.sl ⟨Ca,wL,Cf⟩,.int .i64 IJ] :: Rs.blk kB [.sl ⟨Cb,wM,Cg⟩,.sl ⟨Cc,wN,Ch⟩] :: Rs.own ⟨Cd,wO,Ci⟩ (eSl (eInt .i64)).z Ck :: Rs.own ⟨Ce,wP,Cj⟩ eBool.z Cl :: R0) fun R=>ROs (ePair (eInt .i64) (ePair (eInt .i64) (ePair (eInt .i64) (ePair (eInt .i64) (eInt .i64))))) H R ⟨Ca,wL,Cf⟩ oD∧ROs (ePair (eInt .i64) (eInt .i64)) H R ⟨Cb,wM,Cg⟩ oE∧ROs (ePair (eInt .i64) (eInt .i64)) H R ⟨Cc,wN,Ch⟩ oF∧CR (eSl (eInt .i64)) H R Ck oG∧CR eBool H R Cl oH) {r:List (List Int)} (hp:aj.pj5 F aO oD oE oF oG oH la lb = some r):∃ v H',aj.j5 F (bo.tw F) C61_ pQ 0 kB 0 ⟨Cd,wO,Ci⟩ ⟨Ce,wP,Cj⟩ la lb H = some (v,H')∧aj.Q H0 Ri R0  r v H':=by
 obtain ⟨w0,s0,IQ,IR,IS,IT,IU⟩:=h0
 subst IK
 subst IL
 subst IM
 subst IN
 subst IP
 unfold aj.pj5 at hp
 unfold aj.j5
 exact aj.j4_P (@hC61) rfl rfl rfl rfl rfl ⟨w0,s0,IQ,IR,IS,IT,IU⟩ hp
def aj.pj6 (F:Nat) (aO:List (Int×Int×Int×Int×Int)→List (Int×Int)→List (Int×Int)→List (List Int)→List Bool→Int→Int→Option (List (List Int))) (lG:List (Int×Int×Int×Int×Int)) (lH:List (Int×Int)) (lI:List (Int×Int)) (lJ:List (List Int)) (lK:List Bool) (jS:List Int) (jv:Int) (jw:Int):Option (List (List Int)):=(bif (decide ((jS.length:Int) > 0)) then ((apn lJ ([jS]:List (List Int))).bind fun l3=>aj.pj5 F aO lG lH lI l3 lK jv jw) else (aj.pj5 F aO lG lH lI lJ lK jv jw))
theorem aj.j6_P {F:Nat} {H0:Hp} {Ri R0:List Rs}  {C61_:Nat→Nat→Nat→Nat→Sl→Sl→Int→Int→Hp→OA} {aO:List (Int×Int×Int×Int×Int)→List (Int×Int)→List (Int×Int)→List (List Int)→List Bool→Int→Int→Option (List (List Int))} (hC61:aj.S61 H0 Ri R0  C61_ aO) {Cm Cn Co Cp Cq Cs:ON} {wQ lR wR wS lS wT wU wV:Nat} {Ct Cu Cv Cw Cx Cy:Cap} {lG:List (Int×Int×Int×Int×Int)} {IV jv jw:Int} {lH lI:List (Int×Int)} {lJ:List (List Int)} {Cz CA CB:List AV} {lK:List Bool} {jS:List Int} {H:Hp} (IW:wQ = lG.length) (IX:wR = lH.length) (IY:wS = lI.length) (IZ:wT = lJ.length) (I_:wU = lK.length) (Ja:wV = jS.length) (h0:Out H0 Ri H (Rs.blk lR [.sl ⟨Cm,wQ,Ct⟩,.int .i64 IV] :: Rs.blk lS [.sl ⟨Cn,wR,Cu⟩,.sl ⟨Co,wS,Cv⟩] :: Rs.own ⟨Cp,wT,Cw⟩ (eSl (eInt .i64)).z Cz :: Rs.own ⟨Cq,wU,Cx⟩ eBool.z CA :: Rs.own ⟨Cs,wV,Cy⟩ (eInt .i64).z CB :: R0) fun R=>ROs (ePair (eInt .i64) (ePair (eInt .i64) (ePair (eInt .i64) (ePair (eInt .i64) (eInt .i64))))) H R ⟨Cm,wQ,Ct⟩ lG∧ROs (ePair (eInt .i64) (eInt .i64)) H R ⟨Cn,wR,Cu⟩ lH∧ROs (ePair (eInt .i64) (eInt .i64)) H R ⟨Co,wS,Cv⟩ lI∧CR (eSl (eInt .i64)) H R Cz lJ∧CR eBool H R CA lK∧CR (eInt .i64) H R CB jS) {r:List (List Int)} (hp:aj.pj6 F aO lG lH lI lJ lK jS jv jw = some r):∃ v H',aj.j6 F (bo.tw F) C61_ lR 0 lS 0 ⟨Cp,wT,Cw⟩ ⟨Cq,wU,Cx⟩ ⟨Cs,wV,Cy⟩ jv jw H = some (v,H')∧aj.Q H0 Ri R0  r v H':=by
 obtain ⟨w0,s0,CC,CD,CE,CF,CG,Jb⟩:=h0
 subst IW
 subst IX
 subst IY
 subst IZ
 subst I_
 subst Ja
 unfold aj.pj6 at hp
 unfold aj.j6
 refine bif_ex (fun hb=>?_) (fun hb=>?_)
 ·replace hp:=bif_t hb hp
  obtain ⟨w1,s1,f1⟩:=w0.frz (i:=4) (eInt .i64) rfl Jb
  dsimp only [List.eraseIdx] at w1 s1 f1
  refine newS_k (eSl (eInt .i64)) w1 (n:=1) (l:=([jS]:List (List Int))) rfl (CR.cons1 ⟨_,rfl,f1⟩ CR.empty) rfl fun H2 w2 s2 c2=>?_
  refine bind_ex (w2.rowo (i:=0) rfl) ?_
  obtain ⟨l3,e3,hp⟩:=bind_some' hp
  refine app_k (eSl (eInt .i64)) w2 (i:=3) rfl rfl (CF.step (s1.trans s2)) c2 (show 1 = List.length ([jS]:List (List Int)) from rfl) rfl e3 fun a4 d4 H4 w4 s4 c4 x4=>?_
  dsimp only [List.set] at w4 s4 c4
  obtain ⟨w5,s5⟩:=w4.pick' [1,2,3,4] 5 rfl rfl rfl
  dsimp only [pk,pks,nth,List.drop] at w5 s5
  exact aj.j5_P (@hC61) rfl rfl rfl rfl rfl ⟨w5,(s0.trans (s1.trans (s2.trans (s4.trans s5)))),(CC.step (s1.trans (s2.trans (s4.trans s5)))),(CD.step (s1.trans (s2.trans (s4.trans s5)))),(CE.step (s1.trans (s2.trans (s4.trans s5)))),(c4.step s5),(CG.step (s1.trans (s2.trans (s4.trans s5))))⟩ hp
 ·replace hp:=bif_f hb hp
  obtain ⟨w6,s6⟩:=w0.pick' [0,1,2,3] 5 rfl rfl rfl
  dsimp only [pk,pks,nth,List.drop] at w6 s6
  exact aj.j5_P (@hC61) rfl rfl rfl rfl rfl ⟨w6,(s0.trans s6),(CC.step s6),(CD.step s6),(CE.step s6),(CF.step s6),(CG.step s6)⟩ hp
def aj.pl15725 (F:Nat) (aO:List (Int×Int×Int×Int×Int)→List (Int×Int)→List (Int×Int)→List (List Int)→List Bool→Int→Int→Option (List (List Int))):Nat→List (Int×Int×Int×Int×Int)→List (Int×Int)→List (Int×Int)→List (List Int)→List Bool→Int→Int→List Int→Int→Option (List (List Int))
 | 0,_,_,_,_,_,_,_,_,_=>none
 | k + 1,jj,jk,jl,jQ,iB,eP,ff,jR,cH=>(ix iB cH).bind fun n1=>(bif (!(gt iB n1)) then ((ix iB cH).bind fun n2=>(some (iB.set n2 true)).bind fun l3=>(apn jR ([cH]:List Int)).bind fun l6=>(bo.p F jj jk jl (IntKind.i64.wrap (Int.tdiv cH 4)) (Int.tmod (IntKind.i64.wrap (cH + 1)) 4)).bind fun r8=>aj.pl15725 F aO k jj jk jl jQ l3 eP ff l6 (IntKind.i64.wrap ((IntKind.i64.wrap (4 * r8.1)) + r8.2))) else (aj.pj6 F aO jj jk jl jQ iB jR eP ff))
termination_by structural n=>n
theorem aj.l15725_P {F:Nat} {H0:Hp} {Ri R0:List Rs}  {C61_:Nat→Nat→Nat→Nat→Sl→Sl→Int→Int→Hp→OA} {aO:List (Int×Int×Int×Int×Int)→List (Int×Int)→List (Int×Int)→List (List Int)→List Bool→Int→Int→Option (List (List Int))} (hC61:aj.S61 H0 Ri R0  C61_ aO):∀ k,aj.S15725 H0 Ri R0  (aj.l15725 F (bo.tw F) C61_ k) (aj.pl15725 F aO k):=by
 intro k
 induction k with
 | zero=>
  intro td te tf tg th ti oo di oq ot dx ou ov ox tj tk tn tp tq ts jj wF eP ff cH jk jl jQ tt tu tv iB jR H CH CI CJ CK CL CM h0 r hp
  exact nomatch (show (none:Option (List (List Int))) = some r from hp)
 | succ k ih=>
  intro td te tf tg th ti oo di oq ot dx ou ov ox tj tk tn tp tq ts jj wF eP ff cH jk jl jQ tt tu tv iB jR H CH CI CJ CK CL CM h0 r hp
  obtain ⟨w0,s0,wW,wX,wY,CN,tx,CO⟩:=h0
  subst CH
  subst CI
  subst CJ
  subst CK
  subst CL
  subst CM
  unfold aj.pl15725 at hp
  unfold aj.l15725
  obtain ⟨n1,g1,hp⟩:=bind_some' hp
  obtain ⟨p1,q1,i1,h1,j1⟩:=W.ixo (E:=eBool) w0 (i:=3) rfl rfl tx g1
  refine bind_ex i1 ?_
  have h1:_ = [_]:=h1
  subst h1
  refine bind_ex (ldB_of (j1 0 _ rfl)) ?_
  refine bif_ex (fun hb=>?_) (fun hb=>?_)
  ·replace hp:=bif_t hb hp
   obtain ⟨n2,g2,hp⟩:=bind_some' hp
   obtain ⟨p2,q2,i2,h2,j2⟩:=W.ixo (E:=eBool) w0 (i:=3) rfl rfl tx g2
   refine bind_ex i2 ?_
   obtain ⟨l3,e3,hp⟩:=bind_some' hp
   refine sto_k eBool w0 (i:=3) (j:=0) (p:=p2) rfl rfl tx g2 i2 e3 rfl rfl (fun _ h=>by have h:_ = [_]:=h; subst h; exact rfl) fun H4 k4 w4 s4 c4=>?_
   dsimp only [List.set] at w4 s4 c4
   refine newS_k (eInt .i64) w4 (n:=1) (l:=([cH]:List Int)) rfl (CR.cons1 rfl CR.empty) rfl fun H5 w5 s5 c5=>?_
   refine bind_ex (w5.rowo (i:=0) rfl) ?_
   obtain ⟨l6,e6,hp⟩:=bind_some' hp
   refine app_k (eInt .i64) w5 (i:=5) rfl rfl (CO.step (s4.trans s5)) c5 (show 1 = List.length ([cH]:List Int) from rfl) rfl e6 fun a7 d7 H7 w7 s7 c7 x7=>?_
   dsimp only [List.set] at w7 s7 c7
   refine bind_ex (ldSl_of (w7.ld (i:=1) rfl rfl)) ?_
   refine bind_ex (ldI_of (w7.ld (i:=1) rfl rfl)) ?_
   refine bind_ex (ldSl_of (w7.ld (i:=2) rfl rfl)) ?_
   refine bind_ex (ldSl_of (w7.ld (i:=2) rfl rfl)) ?_
   obtain ⟨r8,e8,hp⟩:=bind_some' hp
   refine call_ex (bo.P rfl rfl rfl ⟨w7,(wW.step (s4.trans (s5.trans s7))),(wX.step (s4.trans (s5.trans s7))),(wY.step (s4.trans (s5.trans s7)))⟩ e8) ?_
   rintro _ H9 ⟨rfl,w9,s9,_⟩
   refine bind_ex rfl ?_
   refine bind_ex rfl ?_
   refine bind_ex rfl ?_
   refine bind_ex rfl ?_
   refine bind_ex rfl ?_
   refine new_k w9 fun H10 w10 s10=>?_
   refine st_k w10 (i:=0) rfl rfl rfl fun H11 w11 s11=>?_
   dsimp only [List.set] at w11 s11
   refine st_k w11 (i:=0) rfl rfl rfl fun H12 w12 s12=>?_
   dsimp only [List.set] at w12 s12
   refine bind_ex (ldI_of (w12.ld (i:=0) rfl rfl)) ?_
   refine bind_ex (ldI_of (w12.ld (i:=0) rfl rfl)) ?_
   obtain ⟨w13,s13⟩:=w12.pick' [2,3,4,5,6] 7 rfl rfl rfl
   dsimp only [pk,pks,nth,List.drop] at w13 s13
   exact ih rfl rfl rfl rfl ((st_len e3).symm) rfl ⟨w13,(s0.trans (s4.trans (s5.trans (s7.trans (s9.trans (s10.trans (s11.trans (s12.trans s13)))))))),(wW.step (s4.trans (s5.trans (s7.trans (s9.trans (s10.trans (s11.trans (s12.trans s13)))))))),(wX.step (s4.trans (s5.trans (s7.trans (s9.trans (s10.trans (s11.trans (s12.trans s13)))))))),(wY.step (s4.trans (s5.trans (s7.trans (s9.trans (s10.trans (s11.trans (s12.trans s13)))))))),(CN.step (s4.trans (s5.trans (s7.trans (s9.trans (s10.trans (s11.trans (s12.trans s13)))))))),(c4.step (s5.trans (s7.trans (s9.trans (s10.trans (s11.trans (s12.trans s13))))))),(c7.step (s9.trans (s10.trans (s11.trans (s12.trans s13)))))⟩ hp
  ·replace hp:=bif_f hb hp
   exact aj.j6_P (@hC61) rfl rfl rfl rfl rfl rfl ⟨w0,s0,wW,wX,wY,CN,tx,CO⟩ hp
def aj.pl61 (F:Nat) :Nat→List (Int×Int×Int×Int×Int)→List (Int×Int)→List (Int×Int)→List (List Int)→List Bool→Int→Int→Option (List (List Int))
 | 0,_,_,_,_,_,_,_=>none
 | k + 1,kl,km,kn,jP,ko,eR,eC=>(bif (decide (eC < eR)) then (aj.pl15725 F (aj.pl61 F k) F kl km kn jP ko eR eC ([]:List Int) eC) else (some jP))
termination_by structural n=>n
theorem aj.l61_P {F:Nat} {H0:Hp} {Ri R0:List Rs}  :∀ k,aj.S61 H0 Ri R0  (aj.l61 F (bo.tw F)  k) (aj.pl61 F  k):=by
 intro k
 induction k with
 | zero=>
  intro sO sQ sS sT sU oh eQ oi oj co ol om sV sW sX sY sZ kl wE eR eC km kn jP s_ tc ko H CP CQ CS CT CU h0 r hp
  exact nomatch (show (none:Option (List (List Int))) = some r from hp)
 | succ k ih=>
  intro sO sQ sS sT sU oh eQ oi oj co ol om sV sW sX sY sZ kl wE eR eC km kn jP s_ tc ko H CP CQ CS CT CU h0 r hp
  obtain ⟨w0,s0,Jc,Jd,Je,CV,Jf⟩:=h0
  subst CP
  subst CQ
  subst CS
  subst CT
  subst CU
  unfold aj.pl61 at hp
  unfold aj.l61
  refine bif_ex (fun hb=>?_) (fun hb=>?_)
  ·replace hp:=bif_t hb hp
   obtain ⟨w1,s1⟩:=w0.nilS (eInt .i64).z (by decide)
   obtain ⟨w2,s2⟩:=w1.pick' [1,2,3,4,0] 5 rfl rfl rfl
   dsimp only [pk,pks,nth,List.drop] at w2 s2
   exact aj.l15725_P (@ih) F rfl rfl rfl rfl rfl rfl ⟨w2,(s0.trans (s1.trans s2)),(Jc.step (s1.trans s2)),(Jd.step (s1.trans s2)),(Je.step (s1.trans s2)),(CV.step (s1.trans s2)),(Jf.step (s1.trans s2)),((CR.empty:CR (eInt .i64) _ _ [] []).step s2)⟩ hp
  ·replace hp:=bif_f hb hp
   obtain ⟨w3,s3⟩:=w0.pick' [2] 4 rfl rfl rfl
   dsimp only [pk,pks,nth,List.drop] at w3 s3
   obtain rfl:=Option.some.inj hp
   exact ⟨_,_,rfl,_,_,_,_,rfl,rfl,w3,(s0.trans s3),(CV.step s3)⟩
def aj.p (F:Nat) (ad:List (Int×Int×Int×Int×Int)) (bN:List (Int×Int)) (bS:List (Int×Int)):Option (List (List Int)):=(mkn (IntKind.i64.wrap (4 * (ad.length:Int))) false).bind fun l3=>aj.pl61 F F ad bN bS ([]:List (List Int)) l3 (l3.length:Int) 0
theorem aj.P {F:Nat} {ax dC eH:ON} {aq cq cO:Nat} {ay dD eI:Cap} {ad:List (Int×Int×Int×Int×Int)} {ab:Int} {bN bS:List (Int×Int)} {H:Hp} {R0:List Rs} (bb:aq = ad.length) (fT:cq = bN.length) (gJ:cO = bS.length) (h0:Inn H R0 fun R=>ROs (ePair (eInt .i64) (ePair (eInt .i64) (ePair (eInt .i64) (ePair (eInt .i64) (eInt .i64))))) H R ⟨ax,aq,ay⟩ ad∧ROs (ePair (eInt .i64) (eInt .i64)) H R ⟨dC,cq,dD⟩ bN∧ROs (ePair (eInt .i64) (eInt .i64)) H R ⟨eH,cO,eI⟩ bS) {r:List (List Int)} (hp:aj.p F ad bN bS = some r):∃ v H',aj.tw F ⟨ax,aq,ay⟩ ab ⟨dC,cq,dD⟩ ⟨eH,cO,eI⟩ H = some (v,H')∧aj.Q H R0 R0  r v H':=by
 obtain ⟨w0,aP,fl,fK⟩:=h0
 subst bb
 subst fT
 subst gJ
 unfold aj.p at hp
 unfold aj.tw aj.twX
 have s0:=w0.rf
 refine new_k w0 fun H1 w1 s1=>?_
 refine new_k w1 fun H2 w2 s2=>?_
 refine bind_ex (ldSl_of (w2.ld (i:=1) rfl rfl)) ?_
 obtain ⟨l3,e3,hp⟩:=bind_some' hp
 refine mk_k eBool false w2 rfl rfl rfl e3 fun H4 k4 w4 s4 c4=>?_
 obtain ⟨w5,s5⟩:=w4.nilS (eSl (eInt .i64)).z (by decide)
 obtain ⟨w6,s6⟩:=w5.pick' [3,2,0,1] 4 rfl rfl rfl
 dsimp only [pk,pks,nth,List.drop] at w6 s6
 exact aj.l61_P F rfl rfl rfl rfl rfl ⟨w6,(s0.trans (s1.trans (s2.trans (s4.trans (s5.trans s6))))),(aP.step (s1.trans (s2.trans (s4.trans (s5.trans s6))))),(fl.step (s1.trans (s2.trans (s4.trans (s5.trans s6))))),(fK.step (s1.trans (s2.trans (s4.trans (s5.trans s6))))),((CR.empty:CR (eSl (eInt .i64)) _ _ [] []).step s6),(c4.step (s5.trans s6))⟩ hp
def bJ.Q (H0:Hp) (Ri R0:List Rs)  (r:Int) (v:AV) (H':Hp):Prop:=v = (.int .i64 r)∧Out H0 Ri H' (R0) fun R=>True
def bJ.p (F:Nat) (ad:List (List Int)):Option (Int):=some (ad.length:Int)
theorem bJ.P {F:Nat} {ax:ON} {aq:Nat} {ay:Cap} {ad:List (List Int)} {H:Hp} {R0:List Rs} (bb:aq = ad.length) (h0:Inn H R0 fun R=>ROs (eSl (eInt .i64)) H R ⟨ax,aq,ay⟩ ad) {r:Int} (hp:bJ.p F ad = some r):∃ v H',bJ.tw F ⟨ax,aq,ay⟩ H = some (v,H')∧bJ.Q H R0 R0  r v H':=by
 obtain ⟨w0,aP⟩:=h0
 subst bb
 unfold bJ.p at hp
 unfold bJ.tw bJ.twX
 have s0:=w0.rf
 obtain rfl:=Option.some.inj hp
 exact ⟨_,_,rfl,rfl,w0,s0,trivial⟩
def aS.Q (H0:Hp) (Ri R0:List Rs)  (r:List Int) (v:AV) (H':Hp):Prop:=∃ o0a:ON,∃ o0n:Nat,∃ o0c:Cap,∃ o0k:List AV,v = (.sl ⟨o0a,o0n,o0c⟩)∧o0n = (r).length∧Out H0 Ri H' (Rs.own ⟨o0a,o0n,o0c⟩ (eInt .i64).z o0k :: R0) fun R=>CR (eInt .i64) H' R o0k (r)
def aS.S29 (H0:Hp) (Ri R0:List Rs)  (C:Sl→Int→Int→Hp→OA) (pC:List Int→Int→Int→Option (List Int)):Prop:=∀ {tz:ON} {oI:Nat} {tB:Cap} {jT:List Int} {tC:List AV} {eS dV:Int},∀ {H:Hp},oI = jT.length→(Out H0 Ri H (Rs.own ⟨tz,oI,tB⟩ (eInt .i64).z tC :: R0) fun R=>CR (eInt .i64) H R tC jT)→∀ {r:List Int},pC jT eS dV = some r→∃ v H',C ⟨tz,oI,tB⟩ eS dV H = some (v,H')∧aS.Q H0 Ri R0  r v H'
def aS.pl29 (F:Nat) :Nat→List Int→Int→Int→Option (List Int)
 | 0,_,_,_=>none
 | k + 1,jT,eS,dV=>(bif (decide (dV < eS)) then ((apn jT ([dV]:List Int)).bind fun l2=>aS.pl29 F k l2 eS (IntKind.i64.wrap (dV + 1))) else (some jT))
termination_by structural n=>n
theorem aS.l29_P {F:Nat} {H0:Hp} {Ri R0:List Rs}  :∀ k,aS.S29 H0 Ri R0  (aS.l29 F   k) (aS.pl29 F  k):=by
 intro k
 induction k with
 | zero=>
  intro tz oI tB jT tC eS dV H CW h0 r hp
  exact nomatch (show (none:Option (List Int)) = some r from hp)
 | succ k ih=>
  intro tz oI tB jT tC eS dV H CW h0 r hp
  obtain ⟨w0,s0,CX⟩:=h0
  subst CW
  unfold aS.pl29 at hp
  unfold aS.l29
  refine bif_ex (fun hb=>?_) (fun hb=>?_)
  ·replace hp:=bif_t hb hp
   refine newS_k (eInt .i64) w0 (n:=1) (l:=([dV]:List Int)) rfl (CR.cons1 rfl CR.empty) rfl fun H1 w1 s1 c1=>?_
   refine bind_ex (w1.rowo (i:=0) rfl) ?_
   obtain ⟨l2,e2,hp⟩:=bind_some' hp
   refine app_k (eInt .i64) w1 (i:=1) rfl rfl (CX.step s1) c1 (show 1 = List.length ([dV]:List Int) from rfl) rfl e2 fun a3 d3 H3 w3 s3 c3 x3=>?_
   dsimp only [List.set] at w3 s3 c3
   obtain ⟨w4,s4⟩:=w3.pick' [1] 2 rfl rfl rfl
   dsimp only [pk,pks,nth,List.drop] at w4 s4
   exact ih rfl ⟨w4,(s0.trans (s1.trans (s3.trans s4))),(c3.step s4)⟩ hp
  ·replace hp:=bif_f hb hp
   obtain rfl:=Option.some.inj hp
   exact ⟨_,_,rfl,_,_,_,_,rfl,rfl,w0,s0,CX⟩
def aS.p (F:Nat) (aa:Int):Option (List Int):=aS.pl29 F F ([]:List Int) aa 0
theorem aS.P {F:Nat} {aa:Int} {H:Hp} {R0:List Rs}  (h0:Inn H R0 fun R=>True) {r:List Int} (hp:aS.p F aa = some r):∃ v H',aS.tw F aa H = some (v,H')∧aS.Q H R0 R0  r v H':=by
 obtain ⟨w0,_⟩:=h0
 unfold aS.p at hp
 unfold aS.tw aS.twX
 have s0:=w0.rf
 obtain ⟨w1,s1⟩:=w0.nilS (eInt .i64).z (by decide)
 exact aS.l29_P F rfl ⟨w1,(s0.trans s1),(CR.empty:CR (eInt .i64) _ _ [] [])⟩ hp
def aI.Q (H0:Hp) (Ri R0:List Rs) (ax:ON) (aq:Nat) (ay:Cap) (oJ:Bool) (oK oL:List AV) (r:List Int) (v:AV) (H':Hp):Prop:=∃ CY:List AV,v = (.tup [])∧aq = (r).length∧Out H0 Ri H' (Rs.ow oJ ⟨ax,aq,ay⟩ (eInt .i64).z oK CY oL :: R0) fun R=>CR (eInt .i64) H' R CY (r)
def aI.S7 (H0:Hp) (Ri R0:List Rs) (gZ:ON) (gh:Nat) (g_:Cap) (jU:Bool) (jV jW:List AV) (C:Sl→Int→Int→Sl→Int→Int→Hp→OA) (pC:List Int→Int→Int→Int→Int→Option (List Int)):Prop:=∀ {dq:List Int} {tD:List AV} {dj dy eo dk:Int},∀ {H:Hp},gh = dq.length→(Out H0 Ri H (Rs.ow jU ⟨gZ,gh,g_⟩ (eInt .i64).z jV tD jW :: R0) fun R=>CR (eInt .i64) H R tD dq)→∀ {r:List Int},pC dq dj dy eo dk = some r→∃ v H',C ⟨gZ,gh,g_⟩ dj dy ⟨gZ,gh,g_⟩ eo dk H = some (v,H')∧aI.Q H0 Ri R0 gZ gh g_ jU jV jW r v H'
def aI.pj2 (F:Nat) (tE:List Int→Int→Int→Int→Int→Option (List Int)) (oM:List Int) (lc:Int) (lf:Int) (lg:Int) (li:Int):Option (List Int):=tE oM lc lf lg (IntKind.i64.wrap (li + 1))
theorem aI.j2_P {F:Nat} {H0:Hp} {Ri R0:List Rs} {gZ:ON} {gh:Nat} {g_:Cap} {jU:Bool} {jV jW:List AV} {C7_:Sl→Int→Int→Sl→Int→Int→Hp→OA} {tE:List Int→Int→Int→Int→Int→Option (List Int)} (hC7:aI.S7 H0 Ri R0 gZ gh g_ jU jV jW C7_ tE) {oM:List Int} {CZ:List AV} {lc lf lg li:Int} {H:Hp} (Jg:gh = oM.length) (h0:Out H0 Ri H (Rs.ow jU ⟨gZ,gh,g_⟩ (eInt .i64).z jV CZ jW :: R0) fun R=>CR (eInt .i64) H R CZ oM) {r:List Int} (hp:aI.pj2 F tE oM lc lf lg li = some r):∃ v H',aI.j2 F  C7_ ⟨gZ,gh,g_⟩ lc lf ⟨gZ,gh,g_⟩ lg li H = some (v,H')∧aI.Q H0 Ri R0 gZ gh g_ jU jV jW r v H':=by
 obtain ⟨w0,s0,Jh⟩:=h0
 subst Jg
 unfold aI.pj2 at hp
 unfold aI.j2
 exact hC7 rfl ⟨w0,s0,Jh⟩ hp
def aI.pl7 (F:Nat) :Nat→List Int→Int→Int→Int→Int→Option (List Int)
 | 0,_,_,_,_,_=>none
 | k + 1,dq,dj,dy,eo,dk=>(bif (decide (dk < eo)) then ((ix dq dk).bind fun n1=>(bif ((gt dq n1) == dj) then ((ix dq dk).bind fun n2=>(some (dq.set n2 dy)).bind fun l3=>aI.pj2 F (aI.pl7 F k) l3 dj dy eo dk) else (aI.pj2 F (aI.pl7 F k) dq dj dy eo dk))) else (some dq))
termination_by structural n=>n
theorem aI.l7_P {F:Nat} {H0:Hp} {Ri R0:List Rs} {gZ:ON} {gh:Nat} {g_:Cap} {jU:Bool} {jV jW:List AV} :∀ k,aI.S7 H0 Ri R0 gZ gh g_ jU jV jW (aI.l7 F   k) (aI.pl7 F  k):=by
 intro k
 induction k with
 | zero=>
  intro dq tD dj dy eo dk H oN h0 r hp
  exact nomatch (show (none:Option (List Int)) = some r from hp)
 | succ k ih=>
  intro dq tD dj dy eo dk H oN h0 r hp
  obtain ⟨w0,s0,jX⟩:=h0
  subst oN
  unfold aI.pl7 at hp
  unfold aI.l7
  refine bif_ex (fun hb=>?_) (fun hb=>?_)
  ·replace hp:=bif_t hb hp
   obtain ⟨n1,g1,hp⟩:=bind_some' hp
   obtain ⟨p1,q1,i1,h1,j1⟩:=W.ixo (E:=(eInt .i64)) w0 (i:=0) rfl rfl jX g1
   refine bind_ex i1 ?_
   have h1:_ = [_]:=h1
   subst h1
   refine bind_ex (ldI_of (j1 0 _ rfl)) ?_
   refine bif_ex (fun hb=>?_) (fun hb=>?_)
   ·replace hp:=bif_t hb hp
    obtain ⟨n2,g2,hp⟩:=bind_some' hp
    obtain ⟨p2,q2,i2,h2,j2⟩:=W.ixo (E:=(eInt .i64)) w0 (i:=0) rfl rfl jX g2
    refine bind_ex i2 ?_
    obtain ⟨l3,e3,hp⟩:=bind_some' hp
    refine sto_k (eInt .i64) w0 (i:=0) (j:=0) (p:=p2) rfl rfl jX g2 i2 e3 rfl rfl (fun _ h=>by have h:_ = [_]:=h; subst h; exact rfl) fun H4 k4 w4 s4 c4=>?_
    dsimp only [List.set] at w4 s4 c4
    exact aI.j2_P (@ih) ((st_len e3).symm) ⟨w4,(s0.trans s4),c4⟩ hp
   ·replace hp:=bif_f hb hp
    exact aI.j2_P (@ih) rfl ⟨w0,s0,jX⟩ hp
  ·replace hp:=bif_f hb hp
   obtain rfl:=Option.some.inj hp
   exact ⟨_,_,rfl,_,rfl,rfl,w0,s0,jX⟩
def aI.p (F:Nat) (ad:List Int) (ai:Int) (bk:Int):Option (List Int):=(ix ad bk).bind fun n1=>(ix ad ai).bind fun n2=>aI.pl7 F F ad (gt ad n1) (gt ad n2) (ad.length:Int) 0
theorem aI.P {F:Nat} {ax:ON} {aq:Nat} {ay:Cap} {ad:List Int} {oJ:Bool} {oK oL wZ:List AV} {ai bk:Int} {H:Hp} {R0:List Rs} (bb:aq = ad.length) (h0:Inn H (Rs.ow oJ ⟨ax,aq,ay⟩ (eInt .i64).z oK wZ oL :: R0) fun R=>CR (eInt .i64) H R wZ ad) {r:List Int} (hp:aI.p F ad ai bk = some r):∃ v H',aI.tw F ⟨ax,aq,ay⟩ ai bk H = some (v,H')∧aI.Q H (Rs.ow oJ ⟨ax,aq,ay⟩ (eInt .i64).z oK wZ oL :: R0) R0 ax aq ay oJ oK oL r v H':=by
 obtain ⟨w0,aP⟩:=h0
 subst bb
 unfold aI.p at hp
 unfold aI.tw aI.twX
 have s0:=w0.rf
 obtain ⟨n1,g1,hp⟩:=bind_some' hp
 obtain ⟨p1,q1,i1,h1,j1⟩:=W.ixo (E:=(eInt .i64)) w0 (i:=0) rfl rfl aP g1
 refine bind_ex i1 ?_
 have h1:_ = [_]:=h1
 subst h1
 refine bind_ex (ldI_of (j1 0 _ rfl)) ?_
 obtain ⟨n2,g2,hp⟩:=bind_some' hp
 obtain ⟨p2,q2,i2,h2,j2⟩:=W.ixo (E:=(eInt .i64)) w0 (i:=0) rfl rfl aP g2
 refine bind_ex i2 ?_
 have h2:_ = [_]:=h2
 subst h2
 refine bind_ex (ldI_of (j2 0 _ rfl)) ?_
 exact aI.l7_P F rfl ⟨w0,s0,aP⟩ hp
def cv.Q (H0:Hp) (Ri R0:List Rs)  (r:List Int) (v:AV) (H':Hp):Prop:=∃ o0a:ON,∃ o0n:Nat,∃ o0c:Cap,∃ o0k:List AV,v = (.sl ⟨o0a,o0n,o0c⟩)∧o0n = (r).length∧Out H0 Ri H' (Rs.own ⟨o0a,o0n,o0c⟩ (eInt .i64).z o0k :: R0) fun R=>CR (eInt .i64) H' R o0k (r)
def cv.p (F:Nat) (ad:List Int):Option (List Int):=(if ad.length ≤ 4294967296∧wfs ad = true then some (nums ad) else none)
theorem cv.P {F:Nat} {ax:ON} {aq:Nat} {ay:Cap} {ad:List Int} {H:Hp} {R0:List Rs} (bb:aq = ad.length) (h0:Inn H R0 fun R=>ROs (eInt .i64) H R ⟨ax,aq,ay⟩ ad) {r:List Int} (hp:cv.p F ad = some r):∃ v H',cv.tw F ⟨ax,aq,ay⟩ H = some (v,H')∧cv.Q H R0 R0  r v H':=by
 obtain ⟨w0,f0⟩:=h0
 subst bb
 unfold cv.p at hp
 unfold cv.tw numTw
 have s0:=w0.rf
 obtain ⟨hc,hp⟩:=ifs_p hp
 have hp:=Option.some.inj hp
 obtain ⟨xs,hx,cx⟩:=f0.row rfl
 refine bind_ex hx ?_
 obtain rfl:=cx.ints_eq
 refine bind_ex (asInts_map _) ?_
 refine ifs_ex hc ?_
 by_cases hz:ad.length = 0
 ·rw [if_pos hz]
  obtain ⟨w1,s1⟩:=w0.nilS (eInt .i64).z (by decide)
  obtain rfl:r = []:=List.length_eq_zero_iff.1 (by rw [← hp,nums_len,hz])
  exact ⟨_,_,rfl,none,0,.ex 0,[],rfl,rfl,w1,s0.trans s1,CR.empty⟩
 ·rw [if_neg hz]
  obtain ⟨H2,e2,w2,s2⟩:=w0.newF ((nums ad).map (AV.int .i64)) ad.length (eInt .i64).z (by rw [List.length_map,nums_len]; exact (Nat.mul_one _).symm) (by decide)
  subst e2
  subst hp
  exact ⟨_,_,rfl,some (_,0),_,.full 1,_,rfl,(nums_len _).symm,w2,s0.trans s2,CR.ints _ _ _ _⟩
def aF.Q (H0:Hp) (Ri R0:List Rs)  (r:List Int) (v:AV) (H':Hp):Prop:=∃ o0a:ON,∃ o0n:Nat,∃ o0c:Cap,∃ o0k:List AV,v = (.sl ⟨o0a,o0n,o0c⟩)∧o0n = (r).length∧Out H0 Ri H' (Rs.own ⟨o0a,o0n,o0c⟩ (eInt .i64).z o0k :: R0) fun R=>CR (eInt .i64) H' R o0k (r)
def aF.S29 (H0:Hp) (Ri R0:List Rs)  (C:Nat→Nat→Sl→Sl→Int→Int→Hp→OA) (pC:List (Int×Int)→List (Int×Int)→List Int→Int→Int→Option (List Int)):Prop:=∀ {iK tF tG:ON} {hB oO bX oP:Nat} {iL tH tI:Cap} {eJ jm:List (Int×Int)} {jY:List Int} {tJ:List AV} {eT dZ:Int},∀ {H:Hp},hB = eJ.length→oO = jm.length→oP = jY.length→(Out H0 Ri H (Rs.blk bX [.sl ⟨iK,hB,iL⟩,.sl ⟨tF,oO,tH⟩] :: Rs.own ⟨tG,oP,tI⟩ (eInt .i64).z tJ :: R0) fun R=>ROs (ePair (eInt .i64) (eInt .i64)) H R ⟨iK,hB,iL⟩ eJ∧ROs (ePair (eInt .i64) (eInt .i64)) H R ⟨tF,oO,tH⟩ jm∧CR (eInt .i64) H R tJ jY)→∀ {r:List Int},pC eJ jm jY eT dZ = some r→∃ v H',C bX 0 ⟨tG,oP,tI⟩ ⟨iK,hB,iL⟩ eT dZ H = some (v,H')∧aF.Q H0 Ri R0  r v H'
def aF.pl29 (F:Nat) :Nat→List (Int×Int)→List (Int×Int)→List Int→Int→Int→Option (List Int)
 | 0,_,_,_,_,_=>none
 | k + 1,eJ,jm,jY,eT,dZ=>(bif (decide (dZ < eT)) then ((ix eJ dZ).bind fun n1=>(ix jm dZ).bind fun n5=>(aI.p F jY ((gt eJ n1).1) ((gt jm n5).1)).bind fun r7=>aF.pl29 F k eJ jm r7 eT (IntKind.i64.wrap (dZ + 1))) else ((cv.p F jY).bind fun r12=>some r12))
termination_by structural n=>n
theorem aF.l29_P {F:Nat} {H0:Hp} {Ri R0:List Rs}  :∀ k,aF.S29 H0 Ri R0  (aF.l29 F (bd.tw F) (aS.tw F) (aI.tw F) (cv.tw F)  k) (aF.pl29 F  k):=by
 intro k
 induction k with
 | zero=>
  intro iK tF tG hB oO bX oP iL tH tI eJ jm jY tJ eT dZ H oQ C_ Da h0 r hp
  exact nomatch (show (none:Option (List Int)) = some r from hp)
 | succ k ih=>
  intro iK tF tG hB oO bX oP iL tH tI eJ jm jY tJ eT dZ H oQ C_ Da h0 r hp
  obtain ⟨w0,s0,lL,Db,Dc⟩:=h0
  subst oQ
  subst C_
  subst Da
  unfold aF.pl29 at hp
  unfold aF.l29
  refine bif_ex (fun hb=>?_) (fun hb=>?_)
  ·replace hp:=bif_t hb hp
   obtain ⟨n1,g1,hp⟩:=bind_some' hp
   obtain ⟨p1,q1,i1,h1,j1⟩:=ROs.ixr lL rfl g1
   refine bind_ex i1 ?_
   obtain ⟨_,_,rfl,rfl,rfl⟩:=h1
   refine bind_ex (ldI_of (j1 0 _ rfl)) ?_
   refine bind_ex (ldI_of (j1 1 _ rfl)) ?_
   refine new_k w0 fun H2 w2 s2=>?_
   refine st_k w2 (i:=0) rfl rfl rfl fun H3 w3 s3=>?_
   dsimp only [List.set] at w3 s3
   refine st_k w3 (i:=0) rfl rfl rfl fun H4 w4 s4=>?_
   dsimp only [List.set] at w4 s4
   refine bind_ex (ldI_of (w4.ld (i:=0) rfl rfl)) ?_
   refine bind_ex (ldSl_of (w4.ld (i:=1) rfl rfl)) ?_
   obtain ⟨n5,g5,hp⟩:=bind_some' hp
   obtain ⟨p5,q5,i5,h5,j5⟩:=ROs.ixr (Db.step (s2.trans (s3.trans s4))) rfl g5
   refine bind_ex i5 ?_
   obtain ⟨_,_,rfl,rfl,rfl⟩:=h5
   refine bind_ex (ldI_of (j5 0 _ rfl)) ?_
   obtain ⟨w6,s6⟩:=w4.pick' [2,0,1] 3 rfl rfl rfl
   dsimp only [pk,pks,nth,List.drop] at w6 s6
   obtain ⟨r7,e7,hp⟩:=bind_some' hp
   refine call_ex (aI.P rfl ⟨w6,(Dc.step (s2.trans (s3.trans (s4.trans s6))))⟩ e7) ?_
   rintro _ H8 ⟨JZ,rfl,hl8_0,w8,s8,f8_0⟩
   obtain ⟨w9,s9⟩:=w8.pick' [2,0] 3 rfl rfl rfl
   dsimp only [pk,pks,nth,List.drop] at w9 s9
   exact ih rfl rfl hl8_0 ⟨w9,(s0.trans (s2.trans (s3.trans (s4.trans (s6.trans (s8.trans s9)))))),(lL.step (s2.trans (s3.trans (s4.trans (s6.trans (s8.trans s9)))))),(Db.step (s2.trans (s3.trans (s4.trans (s6.trans (s8.trans s9)))))),(f8_0.step s9)⟩ hp
  ·replace hp:=bif_f hb hp
   obtain ⟨w10,s10⟩:=w0.pick' [1,0] 2 rfl rfl rfl
   dsimp only [pk,pks,nth,List.drop] at w10 s10
   have f11:=W.borrow1 (eInt .i64) w10 (Dc.step s10)
   obtain ⟨w11,s11⟩:=w10.right1
   obtain ⟨r12,e12,hp⟩:=bind_some' hp
   refine call_ex (cv.P rfl ⟨w11,f11⟩ e12) ?_
   rintro _ H13 ⟨o0a_13,o0n_13,o0c_13,o0k_13,rfl,rfl,w13,s13,f13_0⟩
   obtain ⟨w14,s14⟩:=W.frame1 w10 w13 s13
   refine bind_ex rfl ?_
   obtain ⟨w15,s15⟩:=w14.pick' [1] 3 rfl rfl rfl
   dsimp only [pk,pks,nth,List.drop] at w15 s15
   obtain rfl:=Option.some.inj hp
   exact ⟨_,_,rfl,_,_,_,_,rfl,rfl,w15,(s0.trans (s10.trans (s14.trans s15))),((CR.flat (eInt_flat .i64) f13_0).step s15)⟩
def aF.p (F:Nat) (ad:List (Int×Int×Int×Int×Int)) (bN:List (Int×Int)) (bS:List (Int×Int)):Option (List Int):=(bd.p F ad).bind fun r3=>(aS.p F r3).bind fun r5=>aF.pl29 F F bN bS r5 (bN.length:Int) 0
theorem aF.P {F:Nat} {ax dC eH:ON} {aq cq cO:Nat} {ay dD eI:Cap} {ad:List (Int×Int×Int×Int×Int)} {ab:Int} {bN bS:List (Int×Int)} {H:Hp} {R0:List Rs} (bb:aq = ad.length) (fT:cq = bN.length) (gJ:cO = bS.length) (h0:Inn H R0 fun R=>ROs (ePair (eInt .i64) (ePair (eInt .i64) (ePair (eInt .i64) (ePair (eInt .i64) (eInt .i64))))) H R ⟨ax,aq,ay⟩ ad∧ROs (ePair (eInt .i64) (eInt .i64)) H R ⟨dC,cq,dD⟩ bN∧ROs (ePair (eInt .i64) (eInt .i64)) H R ⟨eH,cO,eI⟩ bS) {r:List Int} (hp:aF.p F ad bN bS = some r):∃ v H',aF.tw F ⟨ax,aq,ay⟩ ab ⟨dC,cq,dD⟩ ⟨eH,cO,eI⟩ H = some (v,H')∧aF.Q H R0 R0  r v H':=by
 obtain ⟨w0,aP,fl,fK⟩:=h0
 subst bb
 subst fT
 subst gJ
 unfold aF.p at hp
 unfold aF.tw aF.twX
 have s0:=w0.rf
 refine new_k w0 fun H1 w1 s1=>?_
 refine new_k w1 fun H2 w2 s2=>?_
 refine bind_ex (ldSl_of (w2.ld (i:=1) rfl rfl)) ?_
 obtain ⟨r3,e3,hp⟩:=bind_some' hp
 refine call_ex (bd.P rfl ⟨w2,(aP.step (s1.trans s2))⟩ e3) ?_
 rintro _ H4 ⟨rfl,w4,s4,_⟩
 refine bind_ex rfl ?_
 obtain ⟨r5,e5,hp⟩:=bind_some' hp
 refine call_ex (aS.P ⟨w4,trivial⟩ e5) ?_
 rintro _ H6 ⟨o0a_6,o0n_6,o0c_6,o0k_6,rfl,rfl,w6,s6,f6_0⟩
 refine bind_ex rfl ?_
 refine bind_ex (ldSl_of (w6.ld (i:=1) rfl rfl)) ?_
 obtain ⟨w7,s7⟩:=w6.pick' [1,0] 3 rfl rfl rfl
 dsimp only [pk,pks,nth,List.drop] at w7 s7
 exact aF.l29_P F rfl rfl rfl ⟨w7,(s0.trans (s1.trans (s2.trans (s4.trans (s6.trans s7))))),(fl.step (s1.trans (s2.trans (s4.trans (s6.trans s7))))),(fK.step (s1.trans (s2.trans (s4.trans (s6.trans s7))))),(f6_0.step s7)⟩ hp
def aN.Q (H0:Hp) (Ri R0:List Rs)  (r:Int) (v:AV) (H':Hp):Prop:=v = (.int .i64 r)∧Out H0 Ri H' (R0) fun R=>True
def aN.S61 (H0:Hp) (Ri R0:List Rs)  (C:Sl→Int→Int→Hp→OA) (pC:List Int→Int→Int→Option (Int)):Prop:=∀ {tK:ON} {oR:Nat} {tL:Cap} {dq:List Int} {cm eD:Int},∀ {H:Hp},oR = dq.length→(Out H0 Ri H R0 fun R=>ROs (eInt .i64) H R ⟨tK,oR,tL⟩ dq)→∀ {r:Int},pC dq cm eD = some r→∃ v H',C ⟨tK,oR,tL⟩ cm eD H = some (v,H')∧aN.Q H0 Ri R0  r v H'
def aN.pl61 (F:Nat) :Nat→List Int→Int→Int→Option (Int)
 | 0,_,_,_=>none
 | k + 1,dq,cm,eD=>(bif (decide (eD < (dq.length:Int))) then ((ix dq eD).bind fun n1=>aN.pl61 F k dq (if (gt dq n1) > cm then (gt dq n1) else cm) (IntKind.i64.wrap (eD + 1))) else (some cm))
termination_by structural n=>n
theorem aN.l61_P {F:Nat} {H0:Hp} {Ri R0:List Rs}  :∀ k,aN.S61 H0 Ri R0  (aN.l61 F   k) (aN.pl61 F  k):=by
 intro k
 induction k with
 | zero=>
  intro tK oR tL dq cm eD H oN h0 r hp
  exact nomatch (show (none:Option (Int)) = some r from hp)
 | succ k ih=>
  intro tK oR tL dq cm eD H oN h0 r hp
  obtain ⟨w0,s0,jX⟩:=h0
  subst oN
  unfold aN.pl61 at hp
  unfold aN.l61
  refine bif_ex (fun hb=>?_) (fun hb=>?_)
  ·replace hp:=bif_t hb hp
   obtain ⟨n1,g1,hp⟩:=bind_some' hp
   obtain ⟨p1,q1,i1,h1,j1⟩:=ROs.ixr jX rfl g1
   refine bind_ex i1 ?_
   have h1:_ = [_]:=h1
   subst h1
   refine bind_ex (ldI_of (j1 0 _ rfl)) ?_
   exact ih rfl ⟨w0,s0,jX⟩ hp
  ·replace hp:=bif_f hb hp
   obtain rfl:=Option.some.inj hp
   exact ⟨_,_,rfl,rfl,w0,s0,trivial⟩
def aN.pj1 (F:Nat)  (kp:List Int):Option (Int):=(ix kp 0).bind fun n1=>aN.pl61 F F kp (gt kp n1) 1
theorem aN.j1_P {F:Nat} {H0:Hp} {Ri R0:List Rs}   {Dd:ON} {w_:Nat} {De:Cap} {kp:List Int} {H:Hp} (Ji:w_ = kp.length) (h0:Out H0 Ri H R0 fun R=>ROs (eInt .i64) H R ⟨Dd,w_,De⟩ kp) {r:Int} (hp:aN.pj1 F  kp = some r):∃ v H',aN.j1 F   ⟨Dd,w_,De⟩ H = some (v,H')∧aN.Q H0 Ri R0  r v H':=by
 obtain ⟨w0,s0,Df⟩:=h0
 subst Ji
 unfold aN.pj1 at hp
 unfold aN.j1
 obtain ⟨n1,g1,hp⟩:=bind_some' hp
 obtain ⟨p1,q1,i1,h1,j1⟩:=ROs.ixr Df rfl g1
 refine bind_ex i1 ?_
 have h1:_ = [_]:=h1
 subst h1
 refine bind_ex (ldI_of (j1 0 _ rfl)) ?_
 exact aN.l61_P F rfl ⟨w0,s0,Df⟩ hp
def aN.p (F:Nat) (ad:List Int):Option (Int):=(bif (decide ((ad.length:Int) < 1)) then (none) else (aN.pj1 F ad))
theorem aN.P {F:Nat} {ax:ON} {aq:Nat} {ay:Cap} {ad:List Int} {H:Hp} {R0:List Rs} (bb:aq = ad.length) (h0:Inn H R0 fun R=>ROs (eInt .i64) H R ⟨ax,aq,ay⟩ ad) {r:Int} (hp:aN.p F ad = some r):∃ v H',aN.tw F ⟨ax,aq,ay⟩ H = some (v,H')∧aN.Q H R0 R0  r v H':=by
 obtain ⟨w0,aP⟩:=h0
 subst bb
 unfold aN.p at hp
 unfold aN.tw aN.twX
 have s0:=w0.rf
 refine bif_ex (fun hb=>?_) (fun hb=>?_)
 ·replace hp:=bif_t hb hp
  cases hp
 ·replace hp:=bif_f hb hp
  exact aN.j1_P rfl ⟨w0,s0,aP⟩ hp
def ba.Q (H0:Hp) (Ri R0:List Rs)  (r:Int) (v:AV) (H':Hp):Prop:=v = (.int .i64 r)∧Out H0 Ri H' (R0) fun R=>True
def ba.p (F:Nat) (ad:List Int):Option (Int):=(bif ((ad.length:Int) == 0) then (some 0) else ((aN.p F ad).bind fun r1=>some (IntKind.i64.wrap (r1 + 1))))
theorem ba.P {F:Nat} {ax:ON} {aq:Nat} {ay:Cap} {ad:List Int} {H:Hp} {R0:List Rs} (bb:aq = ad.length) (h0:Inn H R0 fun R=>ROs (eInt .i64) H R ⟨ax,aq,ay⟩ ad) {r:Int} (hp:ba.p F ad = some r):∃ v H',ba.tw F ⟨ax,aq,ay⟩ H = some (v,H')∧ba.Q H R0 R0  r v H':=by
 obtain ⟨w0,aP⟩:=h0
 subst bb
 unfold ba.p at hp
 unfold ba.tw ba.twX
 have s0:=w0.rf
 refine bif_ex (fun hb=>?_) (fun hb=>?_)
 ·replace hp:=bif_t hb hp
  obtain rfl:=Option.some.inj hp
  exact ⟨_,_,rfl,rfl,w0,s0,trivial⟩
 ·replace hp:=bif_f hb hp
  obtain ⟨r1,e1,hp⟩:=bind_some' hp
  refine call_ex (aN.P rfl ⟨w0,aP⟩ e1) ?_
  rintro _ H2 ⟨rfl,w2,s2,_⟩
  refine bind_ex rfl ?_
  obtain rfl:=Option.some.inj hp
  exact ⟨_,_,rfl,rfl,w2,(s0.trans s2),trivial⟩
def bp.Q (H0:Hp) (Ri R0:List Rs)  (r:(List (Int×Int))×(List (Int×Int))×Bool) (v:AV) (H':Hp):Prop:=∃ o0a:ON,∃ o0n:Nat,∃ o0c:Cap,∃ o1a:ON,∃ o1n:Nat,∃ o1c:Cap,v = (.tup [(.agg [(.sl ⟨o0a,o0n,o0c⟩),(.sl ⟨o1a,o1n,o1c⟩)]),(.bool r.2.2)])∧o0n = (r.1).length∧o1n = (r.2.1).length∧Out H0 Ri H' (R0) fun R=>ROs (ePair (eInt .i64) (eInt .i64)) H' R ⟨o0a,o0n,o0c⟩ (r.1)∧ROs (ePair (eInt .i64) (eInt .i64)) H' R ⟨o1a,o1n,o1c⟩ (r.2.1)
def bp.p (F:Nat) (ad:List (Int×Int×Int×Int×Int)) (ab:Int):Option ((List (Int×Int))×(List (Int×Int))×Bool):=(bd.p F ad).bind fun r3=>(bif (decide (r3 > 10)) then (some (([]:List (Int×Int)),([]:List (Int×Int)),false)) else ((bh.p F ab 0 8).bind fun r12=>(bif (!r12) then (some (([]:List (Int×Int)),([]:List (Int×Int)),false)) else ((bx.p F ad).bind fun r21=>(bif r21 then (some (([]:List (Int×Int)),([]:List (Int×Int)),false)) else ((aw.p F ad).bind fun r30=>(bif (!r30.2.2) then (some (([]:List (Int×Int)),([]:List (Int×Int)),false)) else ((aj.p F ad r30.1 r30.2.1).bind fun r44=>(bJ.p F r44).bind fun r48=>(aF.p F ad r30.1 r30.2.1).bind fun r52=>(ba.p F r52).bind fun r55=>(bif (r48 != (IntKind.i64.wrap (r3 + (IntKind.i64.wrap (2 * r55))))) then (some (([]:List (Int×Int)),([]:List (Int×Int)),false)) else (some (r30.1,r30.2.1,true)))))))))))
theorem bp.P {F:Nat} {ax:ON} {aq:Nat} {ay:Cap} {ad:List (Int×Int×Int×Int×Int)} {ab:Int} {H:Hp} {R0:List Rs} (bb:aq = ad.length) (h0:Inn H R0 fun R=>ROs (ePair (eInt .i64) (ePair (eInt .i64) (ePair (eInt .i64) (ePair (eInt .i64) (eInt .i64))))) H R ⟨ax,aq,ay⟩ ad) {r:(List (Int×Int))×(List (Int×Int))×Bool} (hp:bp.p F ad ab = some r):∃ v H',bp.tw F ⟨ax,aq,ay⟩ ab H = some (v,H')∧bp.Q H R0 R0  r v H':=by
 obtain ⟨w0,aP⟩:=h0
 subst bb
 unfold bp.p at hp
 unfold bp.tw bp.twX
 have s0:=w0.rf
 refine new_k w0 fun H1 w1 s1=>?_
 refine new_k w1 fun H2 w2 s2=>?_
 refine bind_ex (ldSl_of (w2.ld (i:=1) rfl rfl)) ?_
 obtain ⟨r3,e3,hp⟩:=bind_some' hp
 refine call_ex (bd.P rfl ⟨w2,(aP.step (s1.trans s2))⟩ e3) ?_
 rintro _ H4 ⟨rfl,w4,s4,_⟩
 refine bind_ex rfl ?_
 refine bif_ex (fun hb=>?_) (fun hb=>?_)
 ·replace hp:=bif_t hb hp
  refine st_k w4 (i:=0) rfl rfl rfl fun H5 w5 s5=>?_
  dsimp only [List.set] at w5 s5
  refine st_k w5 (i:=0) rfl rfl rfl fun H6 w6 s6=>?_
  dsimp only [List.set] at w6 s6
  refine bind_ex (ldSl_of (w6.ld (i:=0) rfl rfl)) ?_
  refine bind_ex (ldSl_of (w6.ld (i:=0) rfl rfl)) ?_
  obtain ⟨w7,s7⟩:=w6.nilS (ePair (eInt .i64) (eInt .i64)).z (by decide)
  obtain ⟨w8,s8⟩:=w7.nilS (ePair (eInt .i64) (eInt .i64)).z (by decide)
  obtain ⟨w9,s9,f9⟩:=w8.frz (i:=1) (ePair (eInt .i64) (eInt .i64)) rfl ((CR.empty:CR (ePair (eInt .i64) (eInt .i64)) _ _ [] []).step s8)
  dsimp only [List.eraseIdx] at w9 s9 f9
  obtain ⟨w10,s10,f10⟩:=w9.frz (i:=0) (ePair (eInt .i64) (eInt .i64)) rfl ((CR.empty:CR (ePair (eInt .i64) (eInt .i64)) _ _ [] []).step s9)
  dsimp only [List.eraseIdx] at w10 s10 f10
  obtain ⟨w11,s11⟩:=w10.pick' [] 2 rfl rfl rfl
  dsimp only [pk,pks,nth,List.drop] at w11 s11
  obtain rfl:=Option.some.inj hp
  exact ⟨_,_,rfl,_,_,_,_,_,_,rfl,rfl,rfl,w11,(s0.trans (s1.trans (s2.trans (s4.trans (s5.trans (s6.trans (s7.trans (s8.trans (s9.trans (s10.trans s11)))))))))),(f9.step (s10.trans s11)),(f10.step s11)⟩
 ·replace hp:=bif_f hb hp
  refine bind_ex (ldI_of (w4.ld (i:=1) rfl rfl)) ?_
  obtain ⟨r12,e12,hp⟩:=bind_some' hp
  refine call_ex (bh.P ⟨w4,trivial⟩ e12) ?_
  rintro _ H13 ⟨rfl,w13,s13,_⟩
  refine bind_ex rfl ?_
  refine bif_ex (fun hb=>?_) (fun hb=>?_)
  ·replace hp:=bif_t hb hp
   refine st_k w13 (i:=0) rfl rfl rfl fun H14 w14 s14=>?_
   dsimp only [List.set] at w14 s14
   refine st_k w14 (i:=0) rfl rfl rfl fun H15 w15 s15=>?_
   dsimp only [List.set] at w15 s15
   refine bind_ex (ldSl_of (w15.ld (i:=0) rfl rfl)) ?_
   refine bind_ex (ldSl_of (w15.ld (i:=0) rfl rfl)) ?_
   obtain ⟨w16,s16⟩:=w15.nilS (ePair (eInt .i64) (eInt .i64)).z (by decide)
   obtain ⟨w17,s17⟩:=w16.nilS (ePair (eInt .i64) (eInt .i64)).z (by decide)
   obtain ⟨w18,s18,f18⟩:=w17.frz (i:=1) (ePair (eInt .i64) (eInt .i64)) rfl ((CR.empty:CR (ePair (eInt .i64) (eInt .i64)) _ _ [] []).step s17)
   dsimp only [List.eraseIdx] at w18 s18 f18
   obtain ⟨w19,s19,f19⟩:=w18.frz (i:=0) (ePair (eInt .i64) (eInt .i64)) rfl ((CR.empty:CR (ePair (eInt .i64) (eInt .i64)) _ _ [] []).step s18)
   dsimp only [List.eraseIdx] at w19 s19 f19
   obtain ⟨w20,s20⟩:=w19.pick' [] 2 rfl rfl rfl
   dsimp only [pk,pks,nth,List.drop] at w20 s20
   obtain rfl:=Option.some.inj hp
   exact ⟨_,_,rfl,_,_,_,_,_,_,rfl,rfl,rfl,w20,(s0.trans (s1.trans (s2.trans (s4.trans (s13.trans (s14.trans (s15.trans (s16.trans (s17.trans (s18.trans (s19.trans s20))))))))))),(f18.step (s19.trans s20)),(f19.step s20)⟩
  ·replace hp:=bif_f hb hp
   refine bind_ex (ldSl_of (w13.ld (i:=1) rfl rfl)) ?_
   obtain ⟨r21,e21,hp⟩:=bind_some' hp
   refine call_ex (bx.P rfl ⟨w13,(aP.step (s1.trans (s2.trans (s4.trans s13))))⟩ e21) ?_
   rintro _ H22 ⟨rfl,w22,s22,_⟩
   refine bind_ex rfl ?_
   refine bif_ex (fun hb=>?_) (fun hb=>?_)
   ·replace hp:=bif_t hb hp
    refine st_k w22 (i:=0) rfl rfl rfl fun H23 w23 s23=>?_
    dsimp only [List.set] at w23 s23
    refine st_k w23 (i:=0) rfl rfl rfl fun H24 w24 s24=>?_
    dsimp only [List.set] at w24 s24
    refine bind_ex (ldSl_of (w24.ld (i:=0) rfl rfl)) ?_
    refine bind_ex (ldSl_of (w24.ld (i:=0) rfl rfl)) ?_
    obtain ⟨w25,s25⟩:=w24.nilS (ePair (eInt .i64) (eInt .i64)).z (by decide)
    obtain ⟨w26,s26⟩:=w25.nilS (ePair (eInt .i64) (eInt .i64)).z (by decide)
    obtain ⟨w27,s27,f27⟩:=w26.frz (i:=1) (ePair (eInt .i64) (eInt .i64)) rfl ((CR.empty:CR (ePair (eInt .i64) (eInt .i64)) _ _ [] []).step s26)
    dsimp only [List.eraseIdx] at w27 s27 f27
    obtain ⟨w28,s28,f28⟩:=w27.frz (i:=0) (ePair (eInt .i64) (eInt .i64)) rfl ((CR.empty:CR (ePair (eInt .i64) (eInt .i64)) _ _ [] []).step s27)
    dsimp only [List.eraseIdx] at w28 s28 f28
    obtain ⟨w29,s29⟩:=w28.pick' [] 2 rfl rfl rfl
    dsimp only [pk,pks,nth,List.drop] at w29 s29
    obtain rfl:=Option.some.inj hp
    exact ⟨_,_,rfl,_,_,_,_,_,_,rfl,rfl,rfl,w29,(s0.trans (s1.trans (s2.trans (s4.trans (s13.trans (s22.trans (s23.trans (s24.trans (s25.trans (s26.trans (s27.trans (s28.trans s29)))))))))))),(f27.step (s28.trans s29)),(f28.step s29)⟩
   ·replace hp:=bif_f hb hp
    refine bind_ex (ldSl_of (w22.ld (i:=1) rfl rfl)) ?_
    refine bind_ex (ldI_of (w22.ld (i:=1) rfl rfl)) ?_
    obtain ⟨r30,e30,hp⟩:=bind_some' hp
    refine call_ex (aw.P rfl ⟨w22,(aP.step (s1.trans (s2.trans (s4.trans (s13.trans s22)))))⟩ e30) ?_
    rintro _ H31 ⟨o0a_31,o0n_31,o0c_31,o0k_31,o1a_31,o1n_31,o1c_31,o1k_31,rfl,rfl,rfl,w31,s31,f31_0,f31_1⟩
    refine bind_ex rfl ?_
    refine bind_ex rfl ?_
    refine bind_ex rfl ?_
    refine bind_ex rfl ?_
    refine bind_ex rfl ?_
    refine bind_ex rfl ?_
    refine bind_ex rfl ?_
    refine bind_ex rfl ?_
    refine bind_ex rfl ?_
    refine new_k w31 fun H32 w32 s32=>?_
    refine st_k w32 (i:=0) rfl rfl rfl fun H33 w33 s33=>?_
    dsimp only [List.set] at w33 s33
    refine st_k w33 (i:=0) rfl rfl rfl fun H34 w34 s34=>?_
    dsimp only [List.set] at w34 s34
    refine bif_ex (fun hb=>?_) (fun hb=>?_)
    ·replace hp:=bif_t hb hp
     refine st_k w34 (i:=3) rfl rfl rfl fun H35 w35 s35=>?_
     dsimp only [List.set] at w35 s35
     refine st_k w35 (i:=3) rfl rfl rfl fun H36 w36 s36=>?_
     dsimp only [List.set] at w36 s36
     refine bind_ex (ldSl_of (w36.ld (i:=3) rfl rfl)) ?_
     refine bind_ex (ldSl_of (w36.ld (i:=3) rfl rfl)) ?_
     obtain ⟨w37,s37⟩:=w36.nilS (ePair (eInt .i64) (eInt .i64)).z (by decide)
     obtain ⟨w38,s38⟩:=w37.nilS (ePair (eInt .i64) (eInt .i64)).z (by decide)
     obtain ⟨w39,s39,f39⟩:=w38.frz (i:=1) (ePair (eInt .i64) (eInt .i64)) rfl ((CR.empty:CR (ePair (eInt .i64) (eInt .i64)) _ _ [] []).step s38)
     dsimp only [List.eraseIdx] at w39 s39 f39
     obtain ⟨w40,s40,f40⟩:=w39.frz (i:=0) (ePair (eInt .i64) (eInt .i64)) rfl ((CR.empty:CR (ePair (eInt .i64) (eInt .i64)) _ _ [] []).step s39)
     dsimp only [List.eraseIdx] at w40 s40 f40
     obtain ⟨w41,s41⟩:=w40.pick' [] 5 rfl rfl rfl
     dsimp only [pk,pks,nth,List.drop] at w41 s41
     obtain rfl:=Option.some.inj hp
     exact ⟨_,_,rfl,_,_,_,_,_,_,rfl,rfl,rfl,w41,(s0.trans (s1.trans (s2.trans (s4.trans (s13.trans (s22.trans (s31.trans (s32.trans (s33.trans (s34.trans (s35.trans (s36.trans (s37.trans (s38.trans (s39.trans (s40.trans s41)))))))))))))))),(f39.step (s40.trans s41)),(f40.step s41)⟩
    ·replace hp:=bif_f hb hp
     refine bind_ex (ldSl_of (w34.ld (i:=4) rfl rfl)) ?_
     refine bind_ex (ldI_of (w34.ld (i:=4) rfl rfl)) ?_
     refine bind_ex (ldSl_of (w34.ld (i:=0) rfl rfl)) ?_
     refine bind_ex (ldSl_of (w34.ld (i:=0) rfl rfl)) ?_
     obtain ⟨w42,s42,f42⟩:=w34.frz (i:=1) (ePair (eInt .i64) (eInt .i64)) rfl (f31_0.step (s32.trans (s33.trans s34)))
     dsimp only [List.eraseIdx] at w42 s42 f42
     obtain ⟨w43,s43,f43⟩:=w42.frz (i:=1) (ePair (eInt .i64) (eInt .i64)) rfl (f31_1.step (s32.trans (s33.trans (s34.trans s42))))
     dsimp only [List.eraseIdx] at w43 s43 f43
     obtain ⟨r44,e44,hp⟩:=bind_some' hp
     refine call_ex (aj.P rfl rfl rfl ⟨w43,(aP.step (s1.trans (s2.trans (s4.trans (s13.trans (s22.trans (s31.trans (s32.trans (s33.trans (s34.trans (s42.trans s43))))))))))),(f42.step s43),f43⟩ e44) ?_
     rintro _ H45 ⟨o0a_45,o0n_45,o0c_45,o0k_45,rfl,rfl,w45,s45,f45_0⟩
     refine bind_ex rfl ?_
     refine ifs_ex (Cons.tr (Cons.refl _) s42 (Cons.tr (Cons.refl _) s43 (W.cons_of (Rn:=[_]) w43 w45 s45))) ?_
     have f47:=W.borrow1 (eSl (eInt .i64)) w45 f45_0
     obtain ⟨w47,s47⟩:=w45.right1
     obtain ⟨r48,e48,hp⟩:=bind_some' hp
     refine call_ex (bJ.P rfl ⟨w47,f47⟩ e48) ?_
     rintro _ H49 ⟨rfl,w49,s49,_⟩
     obtain ⟨w50,s50⟩:=W.frame1 w45 w49 s49
     refine bind_ex rfl ?_
     refine ifs_ex (W.cons_of (Rn:=[]) w47 w49 s49) ?_
     refine bind_ex (ldSl_of (w50.ld (i:=3) rfl rfl)) ?_
     refine bind_ex (ldI_of (w50.ld (i:=3) rfl rfl)) ?_
     refine bind_ex (ldSl_of (w50.ld (i:=1) rfl rfl)) ?_
     refine bind_ex (ldSl_of (w50.ld (i:=1) rfl rfl)) ?_
     obtain ⟨r52,e52,hp⟩:=bind_some' hp
     refine call_ex (aF.P rfl rfl rfl ⟨w50,(aP.step (s1.trans (s2.trans (s4.trans (s13.trans (s22.trans (s31.trans (s32.trans (s33.trans (s34.trans (s42.trans (s43.trans (s45.trans s50))))))))))))),(f42.step (s43.trans (s45.trans s50))),(f43.step (s45.trans s50))⟩ e52) ?_
     rintro _ H53 ⟨o0a_53,o0n_53,o0c_53,o0k_53,rfl,rfl,w53,s53,f53_0⟩
     refine bind_ex rfl ?_
     have f54:=W.borrow1 (eInt .i64) w53 f53_0
     obtain ⟨w54,s54⟩:=w53.right1
     obtain ⟨r55,e55,hp⟩:=bind_some' hp
     refine call_ex (ba.P rfl ⟨w54,f54⟩ e55) ?_
     rintro _ H56 ⟨rfl,w56,s56,_⟩
     obtain ⟨w57,s57⟩:=W.frame1 w53 w56 s56
     refine bind_ex rfl ?_
     refine bif_ex (fun hb=>?_) (fun hb=>?_)
     ·replace hp:=bif_t hb hp
      refine st_k w57 (i:=3) rfl rfl rfl fun H58 w58 s58=>?_
      dsimp only [List.set] at w58 s58
      refine st_k w58 (i:=3) rfl rfl rfl fun H59 w59 s59=>?_
      dsimp only [List.set] at w59 s59
      refine bind_ex (ldSl_of (w59.ld (i:=3) rfl rfl)) ?_
      refine bind_ex (ldSl_of (w59.ld (i:=3) rfl rfl)) ?_
      obtain ⟨w60,s60⟩:=w59.nilS (ePair (eInt .i64) (eInt .i64)).z (by decide)
      obtain ⟨w61,s61⟩:=w60.nilS (ePair (eInt .i64) (eInt .i64)).z (by decide)
      obtain ⟨w62,s62,f62⟩:=w61.frz (i:=1) (ePair (eInt .i64) (eInt .i64)) rfl ((CR.empty:CR (ePair (eInt .i64) (eInt .i64)) _ _ [] []).step s61)
      dsimp only [List.eraseIdx] at w62 s62 f62
      obtain ⟨w63,s63,f63⟩:=w62.frz (i:=0) (ePair (eInt .i64) (eInt .i64)) rfl ((CR.empty:CR (ePair (eInt .i64) (eInt .i64)) _ _ [] []).step s62)
      dsimp only [List.eraseIdx] at w63 s63 f63
      obtain ⟨w64,s64⟩:=w63.pick' [] 5 rfl rfl rfl
      dsimp only [pk,pks,nth,List.drop] at w64 s64
      obtain rfl:=Option.some.inj hp
      exact ⟨_,_,rfl,_,_,_,_,_,_,rfl,rfl,rfl,w64,(s0.trans (s1.trans (s2.trans (s4.trans (s13.trans (s22.trans (s31.trans (s32.trans (s33.trans (s34.trans (s42.trans (s43.trans (s45.trans (s50.trans (s53.trans (s57.trans (s58.trans (s59.trans (s60.trans (s61.trans (s62.trans (s63.trans s64)))))))))))))))))))))),(f62.step (s63.trans s64)),(f63.step s64)⟩
     ·replace hp:=bif_f hb hp
      refine bind_ex (ldSl_of (w57.ld (i:=2) rfl rfl)) ?_
      refine bind_ex (ldSl_of (w57.ld (i:=2) rfl rfl)) ?_
      refine st_k w57 (i:=3) rfl rfl rfl fun H65 w65 s65=>?_
      dsimp only [List.set] at w65 s65
      refine st_k w65 (i:=3) rfl rfl rfl fun H66 w66 s66=>?_
      dsimp only [List.set] at w66 s66
      refine bind_ex (ldSl_of (w66.ld (i:=3) rfl rfl)) ?_
      refine bind_ex (ldSl_of (w66.ld (i:=3) rfl rfl)) ?_
      obtain ⟨w67,s67⟩:=w66.pick' [] 5 rfl rfl rfl
      dsimp only [pk,pks,nth,List.drop] at w67 s67
      obtain rfl:=Option.some.inj hp
      exact ⟨_,_,rfl,_,_,_,_,_,_,rfl,rfl,rfl,w67,(s0.trans (s1.trans (s2.trans (s4.trans (s13.trans (s22.trans (s31.trans (s32.trans (s33.trans (s34.trans (s42.trans (s43.trans (s45.trans (s50.trans (s53.trans (s57.trans (s65.trans (s66.trans s67)))))))))))))))))),(f42.step (s43.trans (s45.trans (s50.trans (s53.trans (s57.trans (s65.trans (s66.trans s67)))))))),(f43.step (s45.trans (s50.trans (s53.trans (s57.trans (s65.trans (s66.trans s67)))))))⟩
def bF.Q (H0:Hp) (Ri R0:List Rs)  (r:Bool) (v:AV) (H':Hp):Prop:=v = (.bool r)∧Out H0 Ri H' (R0) fun R=>True
def bF.p (F:Nat) (aa:Int):Option (Bool):=(bif (aa == 0) then (some true) else (some (aa == 1)))
theorem bF.P {F:Nat} {aa:Int} {H:Hp} {R0:List Rs}  (h0:Inn H R0 fun R=>True) {r:Bool} (hp:bF.p F aa = some r):∃ v H',bF.tw F aa H = some (v,H')∧bF.Q H R0 R0  r v H':=by
 obtain ⟨w0,_⟩:=h0
 unfold bF.p at hp
 unfold bF.tw bF.twX
 have s0:=w0.rf
 refine bif_ex (fun hb=>?_) (fun hb=>?_)
 ·replace hp:=bif_t hb hp
  obtain rfl:=Option.some.inj hp
  exact ⟨_,_,rfl,rfl,w0,s0,trivial⟩
 ·replace hp:=bif_f hb hp
  obtain rfl:=Option.some.inj hp
  exact ⟨_,_,rfl,rfl,w0,s0,trivial⟩
def ap.Q (H0:Hp) (Ri R0:List Rs)  (r:List Int) (v:AV) (H':Hp):Prop:=∃ o0a:ON,∃ o0n:Nat,∃ o0c:Cap,∃ o0k:List AV,v = (.sl ⟨o0a,o0n,o0c⟩)∧o0n = (r).length∧Out H0 Ri H' (Rs.own ⟨o0a,o0n,o0c⟩ (eInt .i64).z o0k :: R0) fun R=>CR (eInt .i64) H' R o0k (r)
def ap.S29 (H0:Hp) (Ri R0:List Rs)  (C:Sl→Sl→Int→Int→Hp→OA) (pC:List Int→List (List Int)→Int→Int→Option (List Int)):Prop:=∀ {jc tM:ON} {iu oS:Nat} {jd tO:Cap} {eY:List Int} {je tP:List AV} {iM:List (List Int)} {eV ea:Int},∀ {H:Hp},iu = eY.length→oS = iM.length→(Out H0 Ri H (Rs.own ⟨jc,iu,jd⟩ (eInt .i64).z je :: Rs.own ⟨tM,oS,tO⟩ (eSl (eInt .i64)).z tP :: R0) fun R=>CR (eInt .i64) H R je eY∧CR (eSl (eInt .i64)) H R tP iM)→∀ {r:List Int},pC eY iM eV ea = some r→∃ v H',C ⟨jc,iu,jd⟩ ⟨tM,oS,tO⟩ eV ea H = some (v,H')∧ap.Q H0 Ri R0  r v H'
def ap.S1883 (H0:Hp) (Ri R0:List Rs)  (C:Sl→Sl→Int→Int→Int→Sl→Int→Int→Hp→OA) (pC:List Int→List (List Int)→Int→Int→Int→List Int→Int→Int→Option (List Int)):Prop:=∀ {tQ tR tS:ON} {oT oU oV:Nat} {tT tU tV:Cap} {jn jo:List Int} {tW tX:List AV} {jZ:List (List Int)} {d_ ep dl eU eE:Int},∀ {H:Hp},oT = jn.length→oU = jZ.length→oV = jo.length→(Out H0 Ri H (Rs.own ⟨tQ,oT,tT⟩ (eInt .i64).z tW :: Rs.own ⟨tR,oU,tU⟩ (eSl (eInt .i64)).z tX :: R0) fun R=>CR (eInt .i64) H R tW jn∧CR (eSl (eInt .i64)) H R tX jZ∧ROs (eInt .i64) H R ⟨tS,oV,tV⟩ jo)→∀ {r:List Int},pC jn jZ d_ ep dl jo eU eE = some r→∃ v H',C ⟨tQ,oT,tT⟩ ⟨tR,oU,tU⟩ d_ ep dl ⟨tS,oV,tV⟩ eU eE H = some (v,H')∧ap.Q H0 Ri R0  r v H'
def ap.pj3 (F:Nat) (eK:List Int→List (List Int)→Int→Int→Option (List Int)) (oW:List Int) (oX:List (List Int)) (lj:Int) (lk:Int):Option (List Int):=eK oW oX lj (IntKind.i64.wrap (lk + 1))
theorem ap.j3_P {F:Nat} {H0:Hp} {Ri R0:List Rs}  {C29_:Sl→Sl→Int→Int→Hp→OA} {eK:List Int→List (List Int)→Int→Int→Option (List Int)} (hC29:ap.S29 H0 Ri R0  C29_ eK) {Dg Dh:ON} {xa xb:Nat} {Di Dj:Cap} {oW:List Int} {Dk Dl:List AV} {oX:List (List Int)} {lj lk:Int} {H:Hp} (Jj:xa = oW.length) (Jk:xb = oX.length) (h0:Out H0 Ri H (Rs.own ⟨Dg,xa,Di⟩ (eInt .i64).z Dk :: Rs.own ⟨Dh,xb,Dj⟩ (eSl (eInt .i64)).z Dl :: R0) fun R=>CR (eInt .i64) H R Dk oW∧CR (eSl (eInt .i64)) H R Dl oX) {r:List Int} (hp:ap.pj3 F eK oW oX lj lk = some r):∃ v H',ap.j3 F (aj.tw F) C29_ ⟨Dg,xa,Di⟩ ⟨Dh,xb,Dj⟩ lj lk H = some (v,H')∧ap.Q H0 Ri R0  r v H':=by
 obtain ⟨w0,s0,Jl,Jm⟩:=h0
 subst Jj
 subst Jk
 unfold ap.pj3 at hp
 unfold ap.j3
 exact hC29 rfl rfl ⟨w0,s0,Jl,Jm⟩ hp
def ap.pj4 (F:Nat) (eK:List Int→List (List Int)→Int→Int→Option (List Int)) (oY:List Int) (oZ:List (List Int)) (ll:Int) (lm:Int):Option (List Int):=ap.pj3 F eK oY oZ ll lm
theorem ap.j4_P {F:Nat} {H0:Hp} {Ri R0:List Rs}  {C29_:Sl→Sl→Int→Int→Hp→OA} {eK:List Int→List (List Int)→Int→Int→Option (List Int)} (hC29:ap.S29 H0 Ri R0  C29_ eK) {Dm Dn:ON} {xc xd:Nat} {Do Dp:Cap} {oY:List Int} {Dq Dr:List AV} {oZ:List (List Int)} {ll lm:Int} {H:Hp} (Jn:xc = oY.length) (Jo:xd = oZ.length) (h0:Out H0 Ri H (Rs.own ⟨Dm,xc,Do⟩ (eInt .i64).z Dq :: Rs.own ⟨Dn,xd,Dp⟩ (eSl (eInt .i64)).z Dr :: R0) fun R=>CR (eInt .i64) H R Dq oY∧CR (eSl (eInt .i64)) H R Dr oZ) {r:List Int} (hp:ap.pj4 F eK oY oZ ll lm = some r):∃ v H',ap.j4 F (aj.tw F) C29_ ⟨Dm,xc,Do⟩ ⟨Dn,xd,Dp⟩ ll lm H = some (v,H')∧ap.Q H0 Ri R0  r v H':=by
 obtain ⟨w0,s0,Jp,Jq⟩:=h0
 subst Jn
 subst Jo
 unfold ap.pj4 at hp
 unfold ap.j4
 exact ap.j3_P (@hC29) rfl rfl ⟨w0,s0,Jp,Jq⟩ hp
def ap.pl1883 (F:Nat) (eK:List Int→List (List Int)→Int→Int→Option (List Int)):Nat→List Int→List (List Int)→Int→Int→Int→List Int→Int→Int→Option (List Int)
 | 0,_,_,_,_,_,_,_,_=>none
 | k + 1,jn,jZ,d_,ep,dl,jo,eU,eE=>(bif (decide (eE < eU)) then ((ix jo eE).bind fun n1=>(ix jn (gt jo n1)).bind fun n2=>(some (jn.set n2 dl)).bind fun l3=>ap.pl1883 F eK k l3 jZ d_ ep dl jo eU (IntKind.i64.wrap (eE + 1))) else (ap.pj4 F eK jn jZ d_ ep))
termination_by structural n=>n
theorem ap.l1883_P {F:Nat} {H0:Hp} {Ri R0:List Rs}  {C29_:Sl→Sl→Int→Int→Hp→OA} {eK:List Int→List (List Int)→Int→Int→Option (List Int)} (hC29:ap.S29 H0 Ri R0  C29_ eK):∀ k,ap.S1883 H0 Ri R0  (ap.l1883 F (aj.tw F) C29_ k) (ap.pl1883 F eK k):=by
 intro k
 induction k with
 | zero=>
  intro tQ tR tS oT oU oV tT tU tV jn jo tW tX jZ d_ ep dl eU eE H Ds Dt Du h0 r hp
  exact nomatch (show (none:Option (List Int)) = some r from hp)
 | succ k ih=>
  intro tQ tR tS oT oU oV tT tU tV jn jo tW tX jZ d_ ep dl eU eE H Ds Dt Du h0 r hp
  obtain ⟨w0,s0,xe,Dv,Dw⟩:=h0
  subst Ds
  subst Dt
  subst Du
  unfold ap.pl1883 at hp
  unfold ap.l1883
  refine bif_ex (fun hb=>?_) (fun hb=>?_)
  ·replace hp:=bif_t hb hp
   obtain ⟨n1,g1,hp⟩:=bind_some' hp
   obtain ⟨p1,q1,i1,h1,j1⟩:=ROs.ixr Dw rfl g1
   refine bind_ex i1 ?_
   have h1:_ = [_]:=h1
   subst h1
   refine bind_ex (ldI_of (j1 0 _ rfl)) ?_
   obtain ⟨n2,g2,hp⟩:=bind_some' hp
   obtain ⟨p2,q2,i2,h2,j2⟩:=W.ixo (E:=(eInt .i64)) w0 (i:=0) rfl rfl xe g2
   refine bind_ex i2 ?_
   obtain ⟨l3,e3,hp⟩:=bind_some' hp
   refine sto_k (eInt .i64) w0 (i:=0) (j:=0) (p:=p2) rfl rfl xe g2 i2 e3 rfl rfl (fun _ h=>by have h:_ = [_]:=h; subst h; exact rfl) fun H4 k4 w4 s4 c4=>?_
   dsimp only [List.set] at w4 s4 c4
   exact ih ((st_len e3).symm) rfl rfl ⟨w4,(s0.trans s4),c4,(Dv.step s4),(Dw.step s4)⟩ hp
  ·replace hp:=bif_f hb hp
   exact ap.j4_P (@hC29) rfl rfl ⟨w0,s0,xe,Dv⟩ hp
def ap.pl29 (F:Nat) :Nat→List Int→List (List Int)→Int→Int→Option (List Int)
 | 0,_,_,_,_=>none
 | k + 1,eY,iM,eV,ea=>(bif (decide (ea < eV)) then ((ix iM ea).bind fun n1=>ap.pl1883 F (ap.pl29 F k) F eY iM eV ea ea (gt iM n1) (((gt iM n1).length):Int) 0) else (some eY))
termination_by structural n=>n
theorem ap.l29_P {F:Nat} {H0:Hp} {Ri R0:List Rs}  :∀ k,ap.S29 H0 Ri R0  (ap.l29 F (aj.tw F)  k) (ap.pl29 F  k):=by
 intro k
 induction k with
 | zero=>
  intro jc tM iu oS jd tO eY je tP iM eV ea H nJ Dx h0 r hp
  exact nomatch (show (none:Option (List Int)) = some r from hp)
 | succ k ih=>
  intro jc tM iu oS jd tO eY je tP iM eV ea H nJ Dx h0 r hp
  obtain ⟨w0,s0,lF,Dy⟩:=h0
  subst nJ
  subst Dx
  unfold ap.pl29 at hp
  unfold ap.l29
  refine bif_ex (fun hb=>?_) (fun hb=>?_)
  ·replace hp:=bif_t hb hp
   obtain ⟨n1,g1,hp⟩:=bind_some' hp
   obtain ⟨p1,q1,i1,h1,j1⟩:=W.ixo (E:=(eSl (eInt .i64))) w0 (i:=1) rfl rfl Dy g1
   refine bind_ex i1 ?_
   obtain ⟨⟨Hr,m1_0,c1_0⟩,rfl,f1_0⟩:=h1
   obtain rfl:m1_0 = _:=f1_0.n
   refine bind_ex (ldSl_of (j1 0 _ rfl)) ?_
   exact ap.l1883_P (@ih) F rfl rfl rfl ⟨w0,s0,lF,Dy,f1_0⟩ hp
  ·replace hp:=bif_f hb hp
   obtain ⟨w2,s2⟩:=w0.pick' [0] 2 rfl rfl rfl
   dsimp only [pk,pks,nth,List.drop] at w2 s2
   obtain rfl:=Option.some.inj hp
   exact ⟨_,_,rfl,_,_,_,_,rfl,rfl,w2,(s0.trans s2),(lF.step s2)⟩
def ap.p (F:Nat) (ad:List (Int×Int×Int×Int×Int)) (bN:List (Int×Int)) (bS:List (Int×Int)):Option (List Int):=(mkn (IntKind.i64.wrap (4 * (ad.length:Int))) (0:Int)).bind fun l3=>(aj.p F ad bN bS).bind fun r5=>ap.pl29 F F l3 r5 (r5.length:Int) 0
theorem ap.P {F:Nat} {ax dC eH:ON} {aq cq cO:Nat} {ay dD eI:Cap} {ad:List (Int×Int×Int×Int×Int)} {ab:Int} {bN bS:List (Int×Int)} {H:Hp} {R0:List Rs} (bb:aq = ad.length) (fT:cq = bN.length) (gJ:cO = bS.length) (h0:Inn H R0 fun R=>ROs (ePair (eInt .i64) (ePair (eInt .i64) (ePair (eInt .i64) (ePair (eInt .i64) (eInt .i64))))) H R ⟨ax,aq,ay⟩ ad∧ROs (ePair (eInt .i64) (eInt .i64)) H R ⟨dC,cq,dD⟩ bN∧ROs (ePair (eInt .i64) (eInt .i64)) H R ⟨eH,cO,eI⟩ bS) {r:List Int} (hp:ap.p F ad bN bS = some r):∃ v H',ap.tw F ⟨ax,aq,ay⟩ ab ⟨dC,cq,dD⟩ ⟨eH,cO,eI⟩ H = some (v,H')∧ap.Q H R0 R0  r v H':=by
 obtain ⟨w0,aP,fl,fK⟩:=h0
 subst bb
 subst fT
 subst gJ
 unfold ap.p at hp
 unfold ap.tw ap.twX
 have s0:=w0.rf
 refine new_k w0 fun H1 w1 s1=>?_
 refine new_k w1 fun H2 w2 s2=>?_
 refine bind_ex (ldSl_of (w2.ld (i:=1) rfl rfl)) ?_
 obtain ⟨l3,e3,hp⟩:=bind_some' hp
 refine mk_k (eInt .i64) (0:Int) w2 rfl rfl rfl e3 fun H4 k4 w4 s4 c4=>?_
 refine bind_ex (ldSl_of (w4.ld (i:=2) rfl rfl)) ?_
 refine bind_ex (ldI_of (w4.ld (i:=2) rfl rfl)) ?_
 refine bind_ex (ldSl_of (w4.ld (i:=1) rfl rfl)) ?_
 refine bind_ex (ldSl_of (w4.ld (i:=1) rfl rfl)) ?_
 obtain ⟨r5,e5,hp⟩:=bind_some' hp
 refine call_ex (aj.P rfl rfl rfl ⟨w4,(aP.step (s1.trans (s2.trans s4))),(fl.step (s1.trans (s2.trans s4))),(fK.step (s1.trans (s2.trans s4)))⟩ e5) ?_
 rintro _ H6 ⟨o0a_6,o0n_6,o0c_6,o0k_6,rfl,rfl,w6,s6,f6_0⟩
 refine bind_ex rfl ?_
 obtain ⟨w7,s7⟩:=w6.pick' [1,0] 4 rfl rfl rfl
 dsimp only [pk,pks,nth,List.drop] at w7 s7
 exact ap.l29_P F rfl rfl ⟨w7,(s0.trans (s1.trans (s2.trans (s4.trans (s6.trans s7))))),(c4.step (s6.trans s7)),(f6_0.step s7)⟩ hp
def aJ.Q (H0:Hp) (Ri R0:List Rs)  (r:List Int) (v:AV) (H':Hp):Prop:=∃ o0a:ON,∃ o0n:Nat,∃ o0k:List AV,v = (.sl ⟨o0a,o0n,.ex o0n⟩)∧o0n = (r).length∧Out H0 Ri H' (Rs.own ⟨o0a,o0n,.ex o0n⟩ (eInt .i64).z o0k :: R0) fun R=>CR (eInt .i64) H' R o0k (r)
def aJ.pj1 (F:Nat)  (gG:List Int) (fO:Int):Option (List Int):=(mkn (IntKind.i64.wrap fO) (0:Int)).bind fun l1=>(some (cpl l1 gG)).bind fun l3=>(rept F l3 ((min gG.length l1.length:Nat):Int)).bind fun l5=>some l5
theorem aJ.j1_P {F:Nat} {H0:Hp} {Ri R0:List Rs}   {nT:ON} {kj:Nat} {nU:Cap} {gG:List Int} {fO:Int} {H:Hp} (wt:kj = gG.length) (h0:Out H0 Ri H R0 fun R=>ROs (eInt .i64) H R ⟨nT,kj,nU⟩ gG) {r:List Int} (hp:aJ.pj1 F  gG fO = some r):∃ v H',aJ.j1 F (bits_Mul.tw F)  ⟨nT,kj,nU⟩ fO H = some (v,H')∧aJ.Q H0 Ri R0  r v H':=by
 obtain ⟨w0,s0,wu⟩:=h0
 subst wt
 unfold aJ.pj1 at hp
 unfold aJ.j1
 obtain ⟨l1,e1,hp⟩:=bind_some' hp
 refine mk_k (eInt .i64) (0:Int) w0 rfl rfl rfl e1 fun H2 k2 w2 s2 c2=>?_
 obtain ⟨x3,h3,c3⟩:=(wu.step s2).row (z:=(eInt .i64).z) rfl
 obtain ⟨l3,e3,hp⟩:=bind_some' hp
 refine cpy_k (eInt .i64) w2 (i:=0) rfl rfl c2 h3 c3 rfl rfl e3 fun k4 H4 w4 s4 c4=>?_
 dsimp only [List.set] at w4 s4 c4
 obtain ⟨l5,e5,hp⟩:=bind_some' hp
 refine rept_K (eInt .i64) rfl (L:=aJ.l254 F (bits_Mul.tw F)) (fun _ _ _ _=>rfl) w4 (i:=0) rfl c4 e5 fun H6 k6 w6 s6 c6=>?_
 dsimp only [List.set] at w6 s6 c6
 obtain rfl:=Option.some.inj hp
 exact ⟨_,_,rfl,_,_,_,rfl,((cpl_len e3).symm.trans (rept_len e5).symm),w6,(s0.trans (s2.trans (s4.trans s6))),c6⟩
def aJ.pj2 (F:Nat)  (gH:List Int) (gq:Int):Option (List Int):=(bits_Mul.p F (IntKind.u64.wrap (gH.length:Int)) (IntKind.u64.wrap gq)).bind fun r1=>(bif (decide (r1.1 > 0)) then (none) else ((bif (decide (r1.2 > 9223372036854775807)) then (none) else (aJ.pj1 F gH r1.2))))
theorem aJ.j2_P {F:Nat} {H0:Hp} {Ri R0:List Rs}   {nV:ON} {kk:Nat} {nW:Cap} {gH:List Int} {gq:Int} {H:Hp} (wv:kk = gH.length) (h0:Out H0 Ri H R0 fun R=>ROs (eInt .i64) H R ⟨nV,kk,nW⟩ gH) {r:List Int} (hp:aJ.pj2 F  gH gq = some r):∃ v H',aJ.j2 F (bits_Mul.tw F)  ⟨nV,kk,nW⟩ gq H = some (v,H')∧aJ.Q H0 Ri R0  r v H':=by
 obtain ⟨w0,s0,ww⟩:=h0
 subst wv
 unfold aJ.pj2 at hp
 unfold aJ.j2
 obtain ⟨r1,e1,hp⟩:=bind_some' hp
 refine call_ex (bits_Mul.P ⟨w0,trivial⟩ e1) ?_
 rintro _ H2 ⟨rfl,w2,s2,_⟩
 refine bind_ex rfl ?_
 refine bind_ex rfl ?_
 refine bind_ex rfl ?_
 refine bind_ex rfl ?_
 refine bind_ex rfl ?_
 refine bif_ex (fun hb=>?_) (fun hb=>?_)
 ·replace hp:=bif_t hb hp
  cases hp
 ·replace hp:=bif_f hb hp
  refine bif_ex (fun hb=>?_) (fun hb=>?_)
  ·replace hp:=bif_t hb hp
   cases hp
  ·replace hp:=bif_f hb hp
   exact aJ.j1_P rfl ⟨w2,(s0.trans s2),(ww.step s2)⟩ hp
def aJ.p (F:Nat) (ad:List Int) (ai:Int):Option (List Int):=(bif (decide (ai < 0)) then (none) else (aJ.pj2 F ad ai))
theorem aJ.P {F:Nat} {ax:ON} {aq:Nat} {ay:Cap} {ad:List Int} {ai:Int} {H:Hp} {R0:List Rs} (bb:aq = ad.length) (h0:Inn H R0 fun R=>ROs (eInt .i64) H R ⟨ax,aq,ay⟩ ad) {r:List Int} (hp:aJ.p F ad ai = some r):∃ v H',aJ.tw F ⟨ax,aq,ay⟩ ai H = some (v,H')∧aJ.Q H R0 R0  r v H':=by
 obtain ⟨w0,aP⟩:=h0
 subst bb
 unfold aJ.p at hp
 unfold aJ.tw aJ.twX
 have s0:=w0.rf
 refine bif_ex (fun hb=>?_) (fun hb=>?_)
 ·replace hp:=bif_t hb hp
  cases hp
 ·replace hp:=bif_f hb hp
  exact aJ.j2_P rfl ⟨w0,s0,aP⟩ hp
def ag.Q (H0:Hp) (Ri R0:List Rs)  (r:List Int) (v:AV) (H':Hp):Prop:=∃ o0a:ON,∃ o0n:Nat,∃ o0c:Cap,∃ o0k:List AV,v = (.sl ⟨o0a,o0n,o0c⟩)∧o0n = (r).length∧Out H0 Ri H' (Rs.own ⟨o0a,o0n,o0c⟩ (eInt .i64).z o0k :: R0) fun R=>CR (eInt .i64) H' R o0k (r)
def ag.S253 (H0:Hp) (Ri R0:List Rs)  (C:Sl→Sl→Sl→Sl→Int→Int→Hp→OA) (pC:List Int→List Int→List Bool→List Int→Int→Int→Option (List Int)):Prop:=∀ {tY tZ t_ ua:ON} {o_ pa pb pc:Nat} {ub uc ud ue:Cap} {iC iN iD:List Int} {ug uh ui uj:List AV} {iE:List Bool} {et dm:Int},∀ {H:Hp},o_ = iC.length→pa = iN.length→pb = iE.length→pc = iD.length→(Out H0 Ri H (Rs.own ⟨tY,o_,ub⟩ (eInt .i64).z ug :: Rs.own ⟨tZ,pa,uc⟩ (eInt .i64).z uh :: Rs.own ⟨t_,pb,ud⟩ eBool.z ui :: Rs.own ⟨ua,pc,ue⟩ (eInt .i64).z uj :: R0) fun R=>CR (eInt .i64) H R ug iC∧CR (eInt .i64) H R uh iN∧CR eBool H R ui iE∧CR (eInt .i64) H R uj iD)→∀ {r:List Int},pC iC iN iE iD et dm = some r→∃ v H',C ⟨tY,o_,ub⟩ ⟨tZ,pa,uc⟩ ⟨t_,pb,ud⟩ ⟨ua,pc,ue⟩ et dm H = some (v,H')∧ag.Q H0 Ri R0  r v H'
def ag.pj11 (F:Nat) (gc:List Int→List Int→List Bool→List Int→Int→Int→Option (List Int)) (pd:List Int) (pe:List Int) (pf:List Bool) (pg:List Int) (ly:Int) (lz:Int):Option (List Int):=gc pd pe pf pg ly (IntKind.i64.wrap (lz + 1))
theorem ag.j11_P {F:Nat} {H0:Hp} {Ri R0:List Rs}  {C253_:Sl→Sl→Sl→Sl→Int→Int→Hp→OA} {gc:List Int→List Int→List Bool→List Int→Int→Int→Option (List Int)} (hC253:ag.S253 H0 Ri R0  C253_ gc) {Dz DA DB DC:ON} {xf xg xh xi:Nat} {DD DE DF DH:Cap} {pd pe pg:List Int} {DI DJ DK DL:List AV} {pf:List Bool} {ly lz:Int} {H:Hp} (Jr:xf = pd.length) (Js:xg = pe.length) (Jt:xh = pf.length) (Ju:xi = pg.length) (h0:Out H0 Ri H (Rs.own ⟨Dz,xf,DD⟩ (eInt .i64).z DI :: Rs.own ⟨DA,xg,DE⟩ (eInt .i64).z DJ :: Rs.own ⟨DB,xh,DF⟩ eBool.z DK :: Rs.own ⟨DC,xi,DH⟩ (eInt .i64).z DL :: R0) fun R=>CR (eInt .i64) H R DI pd∧CR (eInt .i64) H R DJ pe∧CR eBool H R DK pf∧CR (eInt .i64) H R DL pg) {r:List Int} (hp:ag.pj11 F gc pd pe pf pg ly lz = some r):∃ v H',ag.j11 F (ap.tw F) (aF.tw F) (aj.tw F) (aJ.tw F) (ba.tw F) C253_ ⟨Dz,xf,DD⟩ ⟨DA,xg,DE⟩ ⟨DB,xh,DF⟩ ⟨DC,xi,DH⟩ ly lz H = some (v,H')∧ag.Q H0 Ri R0  r v H':=by
 obtain ⟨w0,s0,Jv,Jw,Jx,Jy⟩:=h0
 subst Jr
 subst Js
 subst Jt
 subst Ju
 unfold ag.pj11 at hp
 unfold ag.j11
 exact hC253 rfl rfl rfl rfl ⟨w0,s0,Jv,Jw,Jx,Jy⟩ hp
def ag.S509 (H0:Hp) (Ri R0:List Rs)  (C:Sl→Sl→Int→Int→Hp→OA) (pC:List Int→List Int→Int→Int→Option (List Int)):Prop:=∀ {uk ul:ON} {ph pi:Nat} {um un:Cap} {j_ ka:List Int} {uo uq:List AV} {eW fi:Int},∀ {H:Hp},ph = j_.length→pi = ka.length→(Out H0 Ri H (Rs.own ⟨uk,ph,um⟩ (eInt .i64).z uo :: Rs.own ⟨ul,pi,un⟩ (eInt .i64).z uq :: R0) fun R=>CR (eInt .i64) H R uo j_∧CR (eInt .i64) H R uq ka)→∀ {r:List Int},pC j_ ka eW fi = some r→∃ v H',C ⟨uk,ph,um⟩ ⟨ul,pi,un⟩ eW fi H = some (v,H')∧ag.Q H0 Ri R0  r v H'
def ag.S16301 (H0:Hp) (Ri R0:List Rs)  (C:Sl→Sl→Int→Int→Int→Int→Hp→OA) (pC:List Int→List Int→Int→Int→Int→Int→Option (List Int)):Prop:=∀ {ur ut:ON} {pj pl:Nat} {uu uv:Cap} {gK gL:List Int} {uw ux:List AV} {dz eb es cI:Int},∀ {H:Hp},pj = gK.length→pl = gL.length→(Out H0 Ri H (Rs.own ⟨ur,pj,uu⟩ (eInt .i64).z uw :: Rs.own ⟨ut,pl,uv⟩ (eInt .i64).z ux :: R0) fun R=>CR (eInt .i64) H R uw gK∧CR (eInt .i64) H R ux gL)→∀ {r:List Int},pC gK gL dz eb es cI = some r→∃ v H',C ⟨ur,pj,uu⟩ ⟨ut,pl,uv⟩ dz eb es cI H = some (v,H')∧ag.Q H0 Ri R0  r v H'
def ag.pj9 (F:Nat) (uy:List Int→List Int→Int→Int→Int→Int→Option (List Int)) (pm:List Int) (po:List Int) (lu:Int) (lv:Int) (lw:Int) (lx:Int):Option (List Int):=uy pm po lu lv lw (IntKind.i64.wrap (lx + 1))
theorem ag.j9_P {F:Nat} {H0:Hp} {Ri R0:List Rs}  {C16301_:Sl→Sl→Int→Int→Int→Int→Hp→OA} {uy:List Int→List Int→Int→Int→Int→Int→Option (List Int)} (hC16301:ag.S16301 H0 Ri R0  C16301_ uy) {DM DN:ON} {xj xl:Nat} {DO DP:Cap} {pm po:List Int} {DQ DR:List AV} {lu lv lw lx:Int} {H:Hp} (Jz:xj = pm.length) (JA:xl = po.length) (h0:Out H0 Ri H (Rs.own ⟨DM,xj,DO⟩ (eInt .i64).z DQ :: Rs.own ⟨DN,xl,DP⟩ (eInt .i64).z DR :: R0) fun R=>CR (eInt .i64) H R DQ pm∧CR (eInt .i64) H R DR po) {r:List Int} (hp:ag.pj9 F uy pm po lu lv lw lx = some r):∃ v H',ag.j9 F (ap.tw F) (aF.tw F) (aj.tw F) (aJ.tw F) (ba.tw F) C16301_ ⟨DM,xj,DO⟩ ⟨DN,xl,DP⟩ lu lv lw lx H = some (v,H')∧ag.Q H0 Ri R0  r v H':=by
 obtain ⟨w0,s0,JB,JC⟩:=h0
 subst Jz
 subst JA
 unfold ag.pj9 at hp
 unfold ag.j9
 exact hC16301 rfl rfl ⟨w0,s0,JB,JC⟩ hp
def ag.pj7 (F:Nat) (cd:List Int→List Int→Int→Int→Option (List Int)) (pp:List Int) (pq:List Int) (ln:Int) (lp:Int):Option (List Int):=cd pp pq ln (IntKind.i64.wrap (lp + 1))
theorem ag.j7_P {F:Nat} {H0:Hp} {Ri R0:List Rs}  {C509_:Sl→Sl→Int→Int→Hp→OA} {cd:List Int→List Int→Int→Int→Option (List Int)} (hC509:ag.S509 H0 Ri R0  C509_ cd) {DS DT:ON} {xm xn:Nat} {DU DV:Cap} {pp pq:List Int} {DW DX:List AV} {ln lp:Int} {H:Hp} (JD:xm = pp.length) (JE:xn = pq.length) (h0:Out H0 Ri H (Rs.own ⟨DS,xm,DU⟩ (eInt .i64).z DW :: Rs.own ⟨DT,xn,DV⟩ (eInt .i64).z DX :: R0) fun R=>CR (eInt .i64) H R DW pp∧CR (eInt .i64) H R DX pq) {r:List Int} (hp:ag.pj7 F cd pp pq ln lp = some r):∃ v H',ag.j7 F (ap.tw F) (aF.tw F) (aj.tw F) (aJ.tw F) (ba.tw F) C509_ ⟨DS,xm,DU⟩ ⟨DT,xn,DV⟩ ln lp H = some (v,H')∧ag.Q H0 Ri R0  r v H':=by
 obtain ⟨w0,s0,JF,JG⟩:=h0
 subst JD
 subst JE
 unfold ag.pj7 at hp
 unfold ag.j7
 exact hC509 rfl rfl ⟨w0,s0,JF,JG⟩ hp
def ag.pj8 (F:Nat) (cd:List Int→List Int→Int→Int→Option (List Int)) (pr:List Int) (ps:List Int) (lq:Int) (lr:Int):Option (List Int):=ag.pj7 F cd pr ps lq lr
theorem ag.j8_P {F:Nat} {H0:Hp} {Ri R0:List Rs}  {C509_:Sl→Sl→Int→Int→Hp→OA} {cd:List Int→List Int→Int→Int→Option (List Int)} (hC509:ag.S509 H0 Ri R0  C509_ cd) {DY DZ:ON} {xo xp:Nat} {D_ Ea:Cap} {pr ps:List Int} {Ec Ed:List AV} {lq lr:Int} {H:Hp} (JH:xo = pr.length) (JI:xp = ps.length) (h0:Out H0 Ri H (Rs.own ⟨DY,xo,D_⟩ (eInt .i64).z Ec :: Rs.own ⟨DZ,xp,Ea⟩ (eInt .i64).z Ed :: R0) fun R=>CR (eInt .i64) H R Ec pr∧CR (eInt .i64) H R Ed ps) {r:List Int} (hp:ag.pj8 F cd pr ps lq lr = some r):∃ v H',ag.j8 F (ap.tw F) (aF.tw F) (aj.tw F) (aJ.tw F) (ba.tw F) C509_ ⟨DY,xo,D_⟩ ⟨DZ,xp,Ea⟩ lq lr H = some (v,H')∧ag.Q H0 Ri R0  r v H':=by
 obtain ⟨w0,s0,JJ,JK⟩:=h0
 subst JH
 subst JI
 unfold ag.pj8 at hp
 unfold ag.j8
 exact ag.j7_P (@hC509) rfl rfl ⟨w0,s0,JJ,JK⟩ hp
def ag.pl16301 (F:Nat) (cd:List Int→List Int→Int→Int→Option (List Int)):Nat→List Int→List Int→Int→Int→Int→Int→Option (List Int)
 | 0,_,_,_,_,_,_=>none
 | k + 1,gK,gL,dz,eb,es,cI=>(bif (decide (cI < es)) then ((ix gK cI).bind fun n1=>(ix gL (gt gK n1)).bind fun n2=>(bif (decide ((gt gL n2) ≥ 0)) then ((ix gK (IntKind.i64.wrap ((IntKind.i64.wrap (cI - (Int.tmod cI 4))) + (Int.tmod (IntKind.i64.wrap (cI + 1)) 4)))).bind fun n3=>(ix gL (gt gK n3)).bind fun n4=>(some (gL.set n4 (IntKind.i64.wrap (1 - (gt gL n2))))).bind fun l5=>ag.pj9 F (ag.pl16301 F cd k) gK l5 dz eb es cI) else (ag.pj9 F (ag.pl16301 F cd k) gK gL dz eb es cI))) else (ag.pj8 F cd gK gL dz eb))
termination_by structural n=>n
theorem ag.l16301_P {F:Nat} {H0:Hp} {Ri R0:List Rs}  {C509_:Sl→Sl→Int→Int→Hp→OA} {cd:List Int→List Int→Int→Int→Option (List Int)} (hC509:ag.S509 H0 Ri R0  C509_ cd):∀ k,ag.S16301 H0 Ri R0  (ag.l16301 F (ap.tw F) (aF.tw F) (aj.tw F) (aJ.tw F) (ba.tw F) C509_ k) (ag.pl16301 F cd k):=by
 intro k
 induction k with
 | zero=>
  intro ur ut pj pl uu uv gK gL uw ux dz eb es cI H Ee Ef h0 r hp
  exact nomatch (show (none:Option (List Int)) = some r from hp)
 | succ k ih=>
  intro ur ut pj pl uu uv gK gL uw ux dz eb es cI H Ee Ef h0 r hp
  obtain ⟨w0,s0,pt,pu⟩:=h0
  subst Ee
  subst Ef
  unfold ag.pl16301 at hp
  unfold ag.l16301
  refine bif_ex (fun hb=>?_) (fun hb=>?_)
  ·replace hp:=bif_t hb hp
   obtain ⟨n1,g1,hp⟩:=bind_some' hp
   obtain ⟨p1,q1,i1,h1,j1⟩:=W.ixo (E:=(eInt .i64)) w0 (i:=0) rfl rfl pt g1
   refine bind_ex i1 ?_
   have h1:_ = [_]:=h1
   subst h1
   refine bind_ex (ldI_of (j1 0 _ rfl)) ?_
   obtain ⟨n2,g2,hp⟩:=bind_some' hp
   obtain ⟨p2,q2,i2,h2,j2⟩:=W.ixo (E:=(eInt .i64)) w0 (i:=1) rfl rfl pu g2
   refine bind_ex i2 ?_
   have h2:_ = [_]:=h2
   subst h2
   refine bind_ex (ldI_of (j2 0 _ rfl)) ?_
   refine bif_ex (fun hb=>?_) (fun hb=>?_)
   ·replace hp:=bif_t hb hp
    obtain ⟨n3,g3,hp⟩:=bind_some' hp
    obtain ⟨p3,q3,i3,h3,j3⟩:=W.ixo (E:=(eInt .i64)) w0 (i:=0) rfl rfl pt g3
    refine bind_ex i3 ?_
    have h3:_ = [_]:=h3
    subst h3
    refine bind_ex (ldI_of (j3 0 _ rfl)) ?_
    obtain ⟨n4,g4,hp⟩:=bind_some' hp
    obtain ⟨p4,q4,i4,h4,j4⟩:=W.ixo (E:=(eInt .i64)) w0 (i:=1) rfl rfl pu g4
    refine bind_ex i4 ?_
    obtain ⟨l5,e5,hp⟩:=bind_some' hp
    refine sto_k (eInt .i64) w0 (i:=1) (j:=0) (p:=p4) rfl rfl pu g4 i4 e5 rfl rfl (fun _ h=>by have h:_ = [_]:=h; subst h; exact rfl) fun H6 k6 w6 s6 c6=>?_
    dsimp only [List.set] at w6 s6 c6
    exact ag.j9_P (@ih) rfl ((st_len e5).symm) ⟨w6,(s0.trans s6),(pt.step s6),c6⟩ hp
   ·replace hp:=bif_f hb hp
    exact ag.j9_P (@ih) rfl rfl ⟨w0,s0,pt,pu⟩ hp
  ·replace hp:=bif_f hb hp
   exact ag.j8_P (@hC509) rfl rfl ⟨w0,s0,pt,pu⟩ hp
def ag.pl509 (F:Nat) :Nat→List Int→List Int→Int→Int→Option (List Int)
 | 0,_,_,_,_=>none
 | k + 1,j_,ka,eW,fi=>(bif (decide (fi < eW)) then (ag.pl16301 F (ag.pl509 F k) F j_ ka eW fi (j_.length:Int) 0) else (some ka))
termination_by structural n=>n
theorem ag.l509_P {F:Nat} {H0:Hp} {Ri R0:List Rs}  :∀ k,ag.S509 H0 Ri R0  (ag.l509 F (ap.tw F) (aF.tw F) (aj.tw F) (aJ.tw F) (ba.tw F)  k) (ag.pl509 F  k):=by
 intro k
 induction k with
 | zero=>
  intro uk ul ph pi um un j_ ka uo uq eW fi H Eg Eh h0 r hp
  exact nomatch (show (none:Option (List Int)) = some r from hp)
 | succ k ih=>
  intro uk ul ph pi um un j_ ka uo uq eW fi H Eg Eh h0 r hp
  obtain ⟨w0,s0,JL,Ei⟩:=h0
  subst Eg
  subst Eh
  unfold ag.pl509 at hp
  unfold ag.l509
  refine bif_ex (fun hb=>?_) (fun hb=>?_)
  ·replace hp:=bif_t hb hp
   exact ag.l16301_P (@ih) F rfl rfl ⟨w0,s0,JL,Ei⟩ hp
  ·replace hp:=bif_f hb hp
   obtain ⟨w1,s1⟩:=w0.pick' [1] 2 rfl rfl rfl
   dsimp only [pk,pks,nth,List.drop] at w1 s1
   obtain rfl:=Option.some.inj hp
   exact ⟨_,_,rfl,_,_,_,_,rfl,rfl,w1,(s0.trans s1),(Ei.step s1)⟩
def ag.pj10 (F:Nat)  (pv:List Int) (lM:List Int):Option (List Int):=ag.pl509 F F pv lM (lM.length:Int) 0
theorem ag.j10_P {F:Nat} {H0:Hp} {Ri R0:List Rs}   {Ej Ek:ON} {xq xt:Nat} {El Em:Cap} {pv lM:List Int} {En Eo:List AV} {H:Hp} (JM:xq = pv.length) (JN:xt = lM.length) (h0:Out H0 Ri H (Rs.own ⟨Ej,xq,El⟩ (eInt .i64).z En :: Rs.own ⟨Ek,xt,Em⟩ (eInt .i64).z Eo :: R0) fun R=>CR (eInt .i64) H R En pv∧CR (eInt .i64) H R Eo lM) {r:List Int} (hp:ag.pj10 F  pv lM = some r):∃ v H',ag.j10 F (ap.tw F) (aF.tw F) (aj.tw F) (aJ.tw F) (ba.tw F)  ⟨Ej,xq,El⟩ ⟨Ek,xt,Em⟩ H = some (v,H')∧ag.Q H0 Ri R0  r v H':=by
 obtain ⟨w0,s0,JO,JP⟩:=h0
 subst JM
 subst JN
 unfold ag.pj10 at hp
 unfold ag.j10
 exact ag.l509_P F rfl rfl ⟨w0,s0,JO,JP⟩ hp
def ag.pl253 (F:Nat) :Nat→List Int→List Int→List Bool→List Int→Int→Int→Option (List Int)
 | 0,_,_,_,_,_,_=>none
 | k + 1,iC,iN,iE,iD,et,dm=>(bif (decide (dm < et)) then ((ix iD dm).bind fun n1=>(ix iE (gt iD n1)).bind fun n2=>(bif (!(gt iE n2)) then ((ix iE (gt iD n1)).bind fun n3=>(some (iE.set n3 true)).bind fun l4=>(ix iC (IntKind.i64.wrap (4 * dm))).bind fun n6=>(ix iN (gt iC n6)).bind fun n7=>(some (iN.set n7 0)).bind fun l8=>ag.pj11 F (ag.pl253 F k) iC l8 l4 iD et dm) else (ag.pj11 F (ag.pl253 F k) iC iN iE iD et dm))) else (ag.pj10 F iC iN))
termination_by structural n=>n
theorem ag.l253_P {F:Nat} {H0:Hp} {Ri R0:List Rs}  :∀ k,ag.S253 H0 Ri R0  (ag.l253 F (ap.tw F) (aF.tw F) (aj.tw F) (aJ.tw F) (ba.tw F)  k) (ag.pl253 F  k):=by
 intro k
 induction k with
 | zero=>
  intro tY tZ t_ ua o_ pa pb pc ub uc ud ue iC iN iD ug uh ui uj iE et dm H Er Es Et Eu h0 r hp
  exact nomatch (show (none:Option (List Int)) = some r from hp)
 | succ k ih=>
  intro tY tZ t_ ua o_ pa pb pc ub uc ud ue iC iN iD ug uh ui uj iE et dm H Er Es Et Eu h0 r hp
  obtain ⟨w0,s0,uz,uA,uB,xu⟩:=h0
  subst Er
  subst Es
  subst Et
  subst Eu
  unfold ag.pl253 at hp
  unfold ag.l253
  refine bif_ex (fun hb=>?_) (fun hb=>?_)
  ·replace hp:=bif_t hb hp
   obtain ⟨n1,g1,hp⟩:=bind_some' hp
   obtain ⟨p1,q1,i1,h1,j1⟩:=W.ixo (E:=(eInt .i64)) w0 (i:=3) rfl rfl xu g1
   refine bind_ex i1 ?_
   have h1:_ = [_]:=h1
   subst h1
   refine bind_ex (ldI_of (j1 0 _ rfl)) ?_
   obtain ⟨n2,g2,hp⟩:=bind_some' hp
   obtain ⟨p2,q2,i2,h2,j2⟩:=W.ixo (E:=eBool) w0 (i:=2) rfl rfl uB g2
   refine bind_ex i2 ?_
   have h2:_ = [_]:=h2
   subst h2
   refine bind_ex (ldB_of (j2 0 _ rfl)) ?_
   refine bif_ex (fun hb=>?_) (fun hb=>?_)
   ·replace hp:=bif_t hb hp
    obtain ⟨n3,g3,hp⟩:=bind_some' hp
    obtain ⟨p3,q3,i3,h3,j3⟩:=W.ixo (E:=eBool) w0 (i:=2) rfl rfl uB g3
    refine bind_ex i3 ?_
    obtain ⟨l4,e4,hp⟩:=bind_some' hp
    refine sto_k eBool w0 (i:=2) (j:=0) (p:=p3) rfl rfl uB g3 i3 e4 rfl rfl (fun _ h=>by have h:_ = [_]:=h; subst h; exact rfl) fun H5 k5 w5 s5 c5=>?_
    dsimp only [List.set] at w5 s5 c5
    obtain ⟨n6,g6,hp⟩:=bind_some' hp
    obtain ⟨p6,q6,i6,h6,j6⟩:=W.ixo (E:=(eInt .i64)) w5 (i:=0) rfl rfl (uz.step s5) g6
    refine bind_ex i6 ?_
    have h6:_ = [_]:=h6
    subst h6
    refine bind_ex (ldI_of (j6 0 _ rfl)) ?_
    obtain ⟨n7,g7,hp⟩:=bind_some' hp
    obtain ⟨p7,q7,i7,h7,j7⟩:=W.ixo (E:=(eInt .i64)) w5 (i:=1) rfl rfl (uA.step s5) g7
    refine bind_ex i7 ?_
    obtain ⟨l8,e8,hp⟩:=bind_some' hp
    refine sto_k (eInt .i64) w5 (i:=1) (j:=0) (p:=p7) rfl rfl (uA.step s5) g7 i7 e8 rfl rfl (fun _ h=>by have h:_ = [_]:=h; subst h; exact rfl) fun H9 k9 w9 s9 c9=>?_
    dsimp only [List.set] at w9 s9 c9
    exact ag.j11_P (@ih) rfl ((st_len e8).symm) ((st_len e4).symm) rfl ⟨w9,(s0.trans (s5.trans s9)),(uz.step (s5.trans s9)),c9,(c5.step s9),(xu.step (s5.trans s9))⟩ hp
   ·replace hp:=bif_f hb hp
    exact ag.j11_P (@ih) rfl rfl rfl rfl ⟨w0,s0,uz,uA,uB,xu⟩ hp
  ·replace hp:=bif_f hb hp
   obtain ⟨w10,s10⟩:=w0.pick' [0,1] 4 rfl rfl rfl
   dsimp only [pk,pks,nth,List.drop] at w10 s10
   exact ag.j10_P rfl rfl ⟨w10,(s0.trans s10),(uz.step s10),(uA.step s10)⟩ hp
def ag.p (F:Nat) (ad:List (Int×Int×Int×Int×Int)) (bN:List (Int×Int)) (bS:List (Int×Int)):Option (List Int):=(ap.p F ad bN bS).bind fun r3=>(aF.p F ad bN bS).bind fun r5=>(aj.p F ad bN bS).bind fun r8=>(aJ.p F ([(-1)]:List Int) (r8.length:Int)).bind fun r12=>(ba.p F r5).bind fun r17=>(mkn r17 false).bind fun l20=>ag.pl253 F F r3 r12 l20 r5 (r5.length:Int) 0
theorem ag.P {F:Nat} {ax dC eH:ON} {aq cq cO:Nat} {ay dD eI:Cap} {ad:List (Int×Int×Int×Int×Int)} {ab:Int} {bN bS:List (Int×Int)} {H:Hp} {R0:List Rs} (bb:aq = ad.length) (fT:cq = bN.length) (gJ:cO = bS.length) (h0:Inn H R0 fun R=>ROs (ePair (eInt .i64) (ePair (eInt .i64) (ePair (eInt .i64) (ePair (eInt .i64) (eInt .i64))))) H R ⟨ax,aq,ay⟩ ad∧ROs (ePair (eInt .i64) (eInt .i64)) H R ⟨dC,cq,dD⟩ bN∧ROs (ePair (eInt .i64) (eInt .i64)) H R ⟨eH,cO,eI⟩ bS) {r:List Int} (hp:ag.p F ad bN bS = some r):∃ v H',ag.tw F ⟨ax,aq,ay⟩ ab ⟨dC,cq,dD⟩ ⟨eH,cO,eI⟩ H = some (v,H')∧ag.Q H R0 R0  r v H':=by
 obtain ⟨w0,aP,fl,fK⟩:=h0
 subst bb
 subst fT
 subst gJ
 unfold ag.p at hp
 unfold ag.tw ag.twX
 have s0:=w0.rf
 refine new_k w0 fun H1 w1 s1=>?_
 refine new_k w1 fun H2 w2 s2=>?_
 refine bind_ex (ldSl_of (w2.ld (i:=1) rfl rfl)) ?_
 refine bind_ex (ldI_of (w2.ld (i:=1) rfl rfl)) ?_
 refine bind_ex (ldSl_of (w2.ld (i:=0) rfl rfl)) ?_
 refine bind_ex (ldSl_of (w2.ld (i:=0) rfl rfl)) ?_
 obtain ⟨r3,e3,hp⟩:=bind_some' hp
 refine call_ex (ap.P rfl rfl rfl ⟨w2,(aP.step (s1.trans s2)),(fl.step (s1.trans s2)),(fK.step (s1.trans s2))⟩ e3) ?_
 rintro _ H4 ⟨o0a_4,o0n_4,o0c_4,o0k_4,rfl,rfl,w4,s4,f4_0⟩
 refine bind_ex rfl ?_
 refine bind_ex (ldSl_of (w4.ld (i:=2) rfl rfl)) ?_
 refine bind_ex (ldI_of (w4.ld (i:=2) rfl rfl)) ?_
 refine bind_ex (ldSl_of (w4.ld (i:=1) rfl rfl)) ?_
 refine bind_ex (ldSl_of (w4.ld (i:=1) rfl rfl)) ?_
 obtain ⟨r5,e5,hp⟩:=bind_some' hp
 refine call_ex (aF.P rfl rfl rfl ⟨w4,(aP.step (s1.trans (s2.trans s4))),(fl.step (s1.trans (s2.trans s4))),(fK.step (s1.trans (s2.trans s4)))⟩ e5) ?_
 rintro _ H6 ⟨o0a_6,o0n_6,o0c_6,o0k_6,rfl,rfl,w6,s6,f6_0⟩
 refine bind_ex rfl ?_
 refine newS_k (eInt .i64) w6 (n:=1) (l:=([(-1)]:List Int)) rfl (CR.cons1 rfl CR.empty) rfl fun H7 w7 s7 c7=>?_
 refine bind_ex (ldSl_of (w7.ld (i:=4) rfl rfl)) ?_
 refine bind_ex (ldI_of (w7.ld (i:=4) rfl rfl)) ?_
 refine bind_ex (ldSl_of (w7.ld (i:=3) rfl rfl)) ?_
 refine bind_ex (ldSl_of (w7.ld (i:=3) rfl rfl)) ?_
 obtain ⟨r8,e8,hp⟩:=bind_some' hp
 refine call_ex (aj.P rfl rfl rfl ⟨w7,(aP.step (s1.trans (s2.trans (s4.trans (s6.trans s7))))),(fl.step (s1.trans (s2.trans (s4.trans (s6.trans s7))))),(fK.step (s1.trans (s2.trans (s4.trans (s6.trans s7)))))⟩ e8) ?_
 rintro _ H9 ⟨o0a_9,o0n_9,o0c_9,o0k_9,rfl,rfl,w9,s9,f9_0⟩
 refine bind_ex rfl ?_
 obtain ⟨w10,s10⟩:=w9.pick' [1,0,2,3,4,5] 6 rfl rfl rfl
 dsimp only [pk,pks,nth,List.drop] at w10 s10
 have f11:=W.borrow1 (eInt .i64) w10 (c7.step (s9.trans s10))
 obtain ⟨w11,s11⟩:=w10.right1
 obtain ⟨r12,e12,hp⟩:=bind_some' hp
 refine call_ex (aJ.P (show 1 = List.length ([(-1)]:List Int) from rfl) ⟨w11,f11⟩ e12) ?_
 rintro _ H13 ⟨o0a_13,o0n_13,o0k_13,rfl,rfl,w13,s13,f13_0⟩
 obtain ⟨w14,s14⟩:=W.frame1 w10 w13 s13
 refine bind_ex rfl ?_
 obtain ⟨w15,s15⟩:=w14.pick' [3,0,1,2,4,5,6] 7 rfl rfl rfl
 dsimp only [pk,pks,nth,List.drop] at w15 s15
 have f16:=W.borrow1 (eInt .i64) w15 (f6_0.step (s7.trans (s9.trans (s10.trans (s14.trans s15)))))
 obtain ⟨w16,s16⟩:=w15.right1
 obtain ⟨r17,e17,hp⟩:=bind_some' hp
 refine call_ex (ba.P rfl ⟨w16,f16⟩ e17) ?_
 rintro _ H18 ⟨rfl,w18,s18,_⟩
 obtain ⟨w19,s19⟩:=W.frame1 w15 w18 s18
 refine bind_ex rfl ?_
 obtain ⟨l20,e20,hp⟩:=bind_some' hp
 refine mk_k eBool false w19 rfl rfl rfl e20 fun H21 k21 w21 s21 c21=>?_
 obtain ⟨w22,s22⟩:=w21.pick' [5,3,0,1] 8 rfl rfl rfl
 dsimp only [pk,pks,nth,List.drop] at w22 s22
 exact ag.l253_P F rfl rfl rfl rfl ⟨w22,(s0.trans (s1.trans (s2.trans (s4.trans (s6.trans (s7.trans (s9.trans (s10.trans (s14.trans (s15.trans (s19.trans (s21.trans s22)))))))))))),(f4_0.step (s6.trans (s7.trans (s9.trans (s10.trans (s14.trans (s15.trans (s19.trans (s21.trans s22))))))))),((CR.flat (eInt_flat .i64) f13_0).step (s15.trans (s19.trans (s21.trans s22)))),(c21.step s22),(f6_0.step (s7.trans (s9.trans (s10.trans (s14.trans (s15.trans (s19.trans (s21.trans s22))))))))⟩ hp
def bG.Q (H0:Hp) (Ri R0:List Rs)  (r:Int) (v:AV) (H':Hp):Prop:=v = (.int .i64 r)∧Out H0 Ri H' (R0) fun R=>True
def bG.p (F:Nat) (aa:Bool):Option (Int):=(bif aa then (some 1) else (some 0))
theorem bG.P {F:Nat} {aa:Bool} {H:Hp} {R0:List Rs}  (h0:Inn H R0 fun R=>True) {r:Int} (hp:bG.p F aa = some r):∃ v H',bG.tw F aa H = some (v,H')∧bG.Q H R0 R0  r v H':=by
 obtain ⟨w0,_⟩:=h0
 unfold bG.p at hp
 unfold bG.tw bG.twX
 have s0:=w0.rf
 refine bif_ex (fun hb=>?_) (fun hb=>?_)
 ·replace hp:=bif_t hb hp
  obtain rfl:=Option.some.inj hp
  exact ⟨_,_,rfl,rfl,w0,s0,trivial⟩
 ·replace hp:=bif_f hb hp
  obtain rfl:=Option.some.inj hp
  exact ⟨_,_,rfl,rfl,w0,s0,trivial⟩
def aQ.Q (H0:Hp) (Ri R0:List Rs)  (r:List Int) (v:AV) (H':Hp):Prop:=∃ o0a:ON,∃ o0n:Nat,∃ o0c:Cap,∃ o0k:List AV,v = (.sl ⟨o0a,o0n,o0c⟩)∧o0n = (r).length∧Out H0 Ri H' (Rs.own ⟨o0a,o0n,o0c⟩ (eInt .i64).z o0k :: R0) fun R=>CR (eInt .i64) H' R o0k (r)
def aQ.S61 (H0:Hp) (Ri R0:List Rs)  (C:Int→Sl→Sl→Sl→Int→Int→Hp→OA) (pC:Int→List Int→List Int→List Int→Int→Int→Option (List Int)):Prop:=∀ {dA eX eF:Int} {uC uD uE:ON} {pw px py:Nat} {uF uG uH:Cap} {jp jq kb:List Int} {uI uJ uK:List AV},∀ {H:Hp},pw = jp.length→px = jq.length→py = kb.length→(Out H0 Ri H (Rs.own ⟨uC,pw,uF⟩ (eInt .i64).z uI :: Rs.own ⟨uD,px,uG⟩ (eInt .i64).z uJ :: Rs.own ⟨uE,py,uH⟩ (eInt .i64).z uK :: R0) fun R=>CR (eInt .i64) H R uI jp∧CR (eInt .i64) H R uJ jq∧CR (eInt .i64) H R uK kb)→∀ {r:List Int},pC dA jp jq kb eX eF = some r→∃ v H',C dA ⟨uC,pw,uF⟩ ⟨uD,px,uG⟩ ⟨uE,py,uH⟩ eX eF H = some (v,H')∧aQ.Q H0 Ri R0  r v H'
def aQ.pl61 (F:Nat) :Nat→Int→List Int→List Int→List Int→Int→Int→Option (List Int)
 | 0,_,_,_,_,_,_=>none
 | k + 1,dA,jp,jq,kb,eX,eF=>(bif (decide (eF < eX)) then ((ix jp (IntKind.i64.wrap ((IntKind.i64.wrap (4 * eF)) + 1))).bind fun n1=>(ix jq (gt jp n1)).bind fun n2=>(bG.p F ((gt jq n2) == dA)).bind fun r3=>(apn kb ([(IntKind.i64.wrap ((IntKind.i64.wrap (2 * r3)) - 1))]:List Int)).bind fun l6=>aQ.pl61 F k dA jp jq l6 eX (IntKind.i64.wrap (eF + 1))) else (some kb))
termination_by structural n=>n
theorem aQ.l61_P {F:Nat} {H0:Hp} {Ri R0:List Rs}  :∀ k,aQ.S61 H0 Ri R0  (aQ.l61 F (ap.tw F) (ag.tw F) (bG.tw F)  k) (aQ.pl61 F  k):=by
 intro k
 induction k with
 | zero=>
  intro dA eX eF uC uD uE pw px py uF uG uH jp jq kb uI uJ uK H Ev Ew Ex h0 r hp
  exact nomatch (show (none:Option (List Int)) = some r from hp)
 | succ k ih=>
  intro dA eX eF uC uD uE pw px py uF uG uH jp jq kb uI uJ uK H Ev Ew Ex h0 r hp
  obtain ⟨w0,s0,Ey,Ez,EA⟩:=h0
  subst Ev
  subst Ew
  subst Ex
  unfold aQ.pl61 at hp
  unfold aQ.l61
  refine bif_ex (fun hb=>?_) (fun hb=>?_)
  ·replace hp:=bif_t hb hp
   obtain ⟨n1,g1,hp⟩:=bind_some' hp
   obtain ⟨p1,q1,i1,h1,j1⟩:=W.ixo (E:=(eInt .i64)) w0 (i:=0) rfl rfl Ey g1
   refine bind_ex i1 ?_
   have h1:_ = [_]:=h1
   subst h1
   refine bind_ex (ldI_of (j1 0 _ rfl)) ?_
   obtain ⟨n2,g2,hp⟩:=bind_some' hp
   obtain ⟨p2,q2,i2,h2,j2⟩:=W.ixo (E:=(eInt .i64)) w0 (i:=1) rfl rfl Ez g2
   refine bind_ex i2 ?_
   have h2:_ = [_]:=h2
   subst h2
   refine bind_ex (ldI_of (j2 0 _ rfl)) ?_
   obtain ⟨r3,e3,hp⟩:=bind_some' hp
   refine call_ex (bG.P ⟨w0,trivial⟩ e3) ?_
   rintro _ H4 ⟨rfl,w4,s4,_⟩
   refine bind_ex rfl ?_
   refine newS_k (eInt .i64) w4 (n:=1) (l:=([(IntKind.i64.wrap ((IntKind.i64.wrap (2 * r3)) - 1))]:List Int)) rfl (CR.cons1 rfl CR.empty) rfl fun H5 w5 s5 c5=>?_
   refine bind_ex (w5.rowo (i:=0) rfl) ?_
   obtain ⟨l6,e6,hp⟩:=bind_some' hp
   refine app_k (eInt .i64) w5 (i:=3) rfl rfl (EA.step (s4.trans s5)) c5 (show 1 = List.length ([(IntKind.i64.wrap ((IntKind.i64.wrap (2 * r3)) - 1))]:List Int) from rfl) rfl e6 fun a7 d7 H7 w7 s7 c7 x7=>?_
   dsimp only [List.set] at w7 s7 c7
   obtain ⟨w8,s8⟩:=w7.pick' [1,2,3] 4 rfl rfl rfl
   dsimp only [pk,pks,nth,List.drop] at w8 s8
   exact ih rfl rfl rfl ⟨w8,(s0.trans (s4.trans (s5.trans (s7.trans s8)))),(Ey.step (s4.trans (s5.trans (s7.trans s8)))),(Ez.step (s4.trans (s5.trans (s7.trans s8)))),(c7.step s8)⟩ hp
  ·replace hp:=bif_f hb hp
   obtain ⟨w9,s9⟩:=w0.pick' [2] 3 rfl rfl rfl
   dsimp only [pk,pks,nth,List.drop] at w9 s9
   obtain rfl:=Option.some.inj hp
   exact ⟨_,_,rfl,_,_,_,_,rfl,rfl,w9,(s0.trans s9),(EA.step s9)⟩
def aQ.p (F:Nat) (ad:List (Int×Int×Int×Int×Int)) (bN:List (Int×Int)) (bS:List (Int×Int)) (bM:Int):Option (List Int):=(ap.p F ad bN bS).bind fun r3=>(ag.p F ad bN bS).bind fun r6=>aQ.pl61 F F bM r3 r6 ([]:List Int) (ad.length:Int) 0
theorem aQ.P {F:Nat} {ax dC eH:ON} {aq cq cO:Nat} {ay dD eI:Cap} {ad:List (Int×Int×Int×Int×Int)} {ab bM:Int} {bN bS:List (Int×Int)} {H:Hp} {R0:List Rs} (bb:aq = ad.length) (fT:cq = bN.length) (gJ:cO = bS.length) (h0:Inn H R0 fun R=>ROs (ePair (eInt .i64) (ePair (eInt .i64) (ePair (eInt .i64) (ePair (eInt .i64) (eInt .i64))))) H R ⟨ax,aq,ay⟩ ad∧ROs (ePair (eInt .i64) (eInt .i64)) H R ⟨dC,cq,dD⟩ bN∧ROs (ePair (eInt .i64) (eInt .i64)) H R ⟨eH,cO,eI⟩ bS) {r:List Int} (hp:aQ.p F ad bN bS bM = some r):∃ v H',aQ.tw F ⟨ax,aq,ay⟩ ab ⟨dC,cq,dD⟩ ⟨eH,cO,eI⟩ bM H = some (v,H')∧aQ.Q H R0 R0  r v H':=by
 obtain ⟨w0,aP,fl,fK⟩:=h0
 subst bb
 subst fT
 subst gJ
 unfold aQ.p at hp
 unfold aQ.tw aQ.twX
 have s0:=w0.rf
 refine new_k w0 fun H1 w1 s1=>?_
 refine new_k w1 fun H2 w2 s2=>?_
 refine bind_ex (ldSl_of (w2.ld (i:=1) rfl rfl)) ?_
 refine bind_ex (ldI_of (w2.ld (i:=1) rfl rfl)) ?_
 refine bind_ex (ldSl_of (w2.ld (i:=0) rfl rfl)) ?_
 refine bind_ex (ldSl_of (w2.ld (i:=0) rfl rfl)) ?_
 obtain ⟨r3,e3,hp⟩:=bind_some' hp
 refine call_ex (ap.P rfl rfl rfl ⟨w2,(aP.step (s1.trans s2)),(fl.step (s1.trans s2)),(fK.step (s1.trans s2))⟩ e3) ?_
 rintro _ H4 ⟨o0a_4,o0n_4,o0c_4,o0k_4,rfl,rfl,w4,s4,f4_0⟩
 refine bind_ex rfl ?_
 refine ifs_ex (W.cons_of (Rn:=[_]) w2 w4 s4) ?_
 refine bind_ex (ldSl_of (w4.ld (i:=2) rfl rfl)) ?_
 refine bind_ex (ldI_of (w4.ld (i:=2) rfl rfl)) ?_
 refine bind_ex (ldSl_of (w4.ld (i:=1) rfl rfl)) ?_
 refine bind_ex (ldSl_of (w4.ld (i:=1) rfl rfl)) ?_
 obtain ⟨r6,e6,hp⟩:=bind_some' hp
 refine call_ex (ag.P rfl rfl rfl ⟨w4,(aP.step (s1.trans (s2.trans s4))),(fl.step (s1.trans (s2.trans s4))),(fK.step (s1.trans (s2.trans s4)))⟩ e6) ?_
 rintro _ H7 ⟨o0a_7,o0n_7,o0c_7,o0k_7,rfl,rfl,w7,s7,f7_0⟩
 refine bind_ex rfl ?_
 refine bind_ex (ldSl_of (w7.ld (i:=3) rfl rfl)) ?_
 obtain ⟨w8,s8⟩:=w7.nilS (eInt .i64).z (by decide)
 obtain ⟨w9,s9⟩:=w8.pick' [2,1,0] 5 rfl rfl rfl
 dsimp only [pk,pks,nth,List.drop] at w9 s9
 exact aQ.l61_P F rfl rfl rfl ⟨w9,(s0.trans (s1.trans (s2.trans (s4.trans (s7.trans (s8.trans s9)))))),(f4_0.step (s7.trans (s8.trans s9))),(f7_0.step (s8.trans s9)),((CR.empty:CR (eInt .i64) _ _ [] []).step s9)⟩ hp
def aK.Q (H0:Hp) (Ri R0:List Rs)  (r:Int) (v:AV) (H':Hp):Prop:=v = (.int .i64 r)∧Out H0 Ri H' (R0) fun R=>True
def aK.S29 (H0:Hp) (Ri R0:List Rs)  (C:Nat→Nat→Int→Sl→Int→Int→Hp→OA) (pC:List (Int×Int×Int×Int×Int)→Int→List Int→Int→Int→Option (Int)):Prop:=∀ {iK uL:ON} {hB bX pz:Nat} {iL uM:Cap} {eJ:List (Int×Int×Int×Int×Int)} {xv dB ev dp:Int} {iF:List Int} {uN:List AV},∀ {H:Hp},hB = eJ.length→pz = iF.length→(Out H0 Ri H (Rs.blk bX [.sl ⟨iK,hB,iL⟩,.int .i64 xv] :: Rs.own ⟨uL,pz,uM⟩ (eInt .i64).z uN :: R0) fun R=>ROs (ePair (eInt .i64) (ePair (eInt .i64) (ePair (eInt .i64) (ePair (eInt .i64) (eInt .i64))))) H R ⟨iK,hB,iL⟩ eJ∧CR (eInt .i64) H R uN iF)→∀ {r:Int},pC eJ dB iF ev dp = some r→∃ v H',C bX 0 dB ⟨uL,pz,uM⟩ ev dp H = some (v,H')∧aK.Q H0 Ri R0  r v H'
def aK.pj2 (F:Nat) (eK:List (Int×Int×Int×Int×Int)→Int→List Int→Int→Int→Option (Int)) (pA:List (Int×Int×Int×Int×Int)) (lA:Int) (pB:List Int) (lB:Int) (lC:Int):Option (Int):=eK pA lA pB lB (IntKind.i64.wrap (lC + 1))
theorem aK.j2_P {F:Nat} {H0:Hp} {Ri R0:List Rs}  {C29_:Nat→Nat→Int→Sl→Int→Int→Hp→OA} {eK:List (Int×Int×Int×Int×Int)→Int→List Int→Int→Int→Option (Int)} (hC29:aK.S29 H0 Ri R0  C29_ eK) {EB EC:ON} {xw pR xx:Nat} {ED EE:Cap} {pA:List (Int×Int×Int×Int×Int)} {JQ lA lB lC:Int} {pB:List Int} {EF:List AV} {H:Hp} (JR:xw = pA.length) (JS:xx = pB.length) (h0:Out H0 Ri H (Rs.blk pR [.sl ⟨EB,xw,ED⟩,.int .i64 JQ] :: Rs.own ⟨EC,xx,EE⟩ (eInt .i64).z EF :: R0) fun R=>ROs (ePair (eInt .i64) (ePair (eInt .i64) (ePair (eInt .i64) (ePair (eInt .i64) (eInt .i64))))) H R ⟨EB,xw,ED⟩ pA∧CR (eInt .i64) H R EF pB) {r:Int} (hp:aK.pj2 F eK pA lA pB lB lC = some r):∃ v H',aK.j2 F (aQ.tw F) C29_ pR 0 lA ⟨EC,xx,EE⟩ lB lC H = some (v,H')∧aK.Q H0 Ri R0  r v H':=by
 obtain ⟨w0,s0,JT,JU⟩:=h0
 subst JR
 subst JS
 unfold aK.pj2 at hp
 unfold aK.j2
 exact hC29 rfl rfl ⟨w0,s0,JT,JU⟩ hp
def aK.pl29 (F:Nat) :Nat→List (Int×Int×Int×Int×Int)→Int→List Int→Int→Int→Option (Int)
 | 0,_,_,_,_,_=>none
 | k + 1,eJ,dB,iF,ev,dp=>(bif (decide (dp < ev)) then ((ix iF dp).bind fun n1=>(ix eJ dp).bind fun n2=>(bif ((gt iF n1) == ((gt eJ n2).2.2.2.2)) then (aK.pj2 F (aK.pl29 F k) eJ (IntKind.i64.wrap (dB + (gt iF n1))) iF ev dp) else (aK.pj2 F (aK.pl29 F k) eJ dB iF ev dp))) else (some dB))
termination_by structural n=>n
theorem aK.l29_P {F:Nat} {H0:Hp} {Ri R0:List Rs}  :∀ k,aK.S29 H0 Ri R0  (aK.l29 F (aQ.tw F)  k) (aK.pl29 F  k):=by
 intro k
 induction k with
 | zero=>
  intro iK uL hB bX pz iL uM eJ xv dB ev dp iF uN H oQ EG h0 r hp
  exact nomatch (show (none:Option (Int)) = some r from hp)
 | succ k ih=>
  intro iK uL hB bX pz iL uM eJ xv dB ev dp iF uN H oQ EG h0 r hp
  obtain ⟨w0,s0,lL,xy⟩:=h0
  subst oQ
  subst EG
  unfold aK.pl29 at hp
  unfold aK.l29
  refine bif_ex (fun hb=>?_) (fun hb=>?_)
  ·replace hp:=bif_t hb hp
   obtain ⟨n1,g1,hp⟩:=bind_some' hp
   obtain ⟨p1,q1,i1,h1,j1⟩:=W.ixo (E:=(eInt .i64)) w0 (i:=1) rfl rfl xy g1
   refine bind_ex i1 ?_
   have h1:_ = [_]:=h1
   subst h1
   refine bind_ex (ldI_of (j1 0 _ rfl)) ?_
   refine bind_ex (ldSl_of (w0.ld (i:=0) rfl rfl)) ?_
   obtain ⟨n2,g2,hp⟩:=bind_some' hp
   obtain ⟨p2,q2,i2,h2,j2⟩:=ROs.ixr lL rfl g2
   refine bind_ex i2 ?_
   obtain ⟨_,_,rfl,rfl,_,_,rfl,rfl,_,_,rfl,rfl,_,_,rfl,rfl,rfl⟩:=h2
   refine bind_ex (ldI_of (j2 4 _ rfl)) ?_
   refine bif_ex (fun hb=>?_) (fun hb=>?_)
   ·replace hp:=bif_t hb hp
    exact aK.j2_P (@ih) rfl rfl ⟨w0,s0,lL,xy⟩ hp
   ·replace hp:=bif_f hb hp
    exact aK.j2_P (@ih) rfl rfl ⟨w0,s0,lL,xy⟩ hp
  ·replace hp:=bif_f hb hp
   obtain ⟨w3,s3⟩:=w0.pick' [] 2 rfl rfl rfl
   dsimp only [pk,pks,nth,List.drop] at w3 s3
   obtain rfl:=Option.some.inj hp
   exact ⟨_,_,rfl,rfl,w3,(s0.trans s3),trivial⟩
def aK.p (F:Nat) (ad:List (Int×Int×Int×Int×Int)) (bN:List (Int×Int)) (bS:List (Int×Int)) (bM:Int):Option (Int):=(aQ.p F ad bN bS bM).bind fun r3=>aK.pl29 F F ad 0 r3 (r3.length:Int) 0
theorem aK.P {F:Nat} {ax dC eH:ON} {aq cq cO:Nat} {ay dD eI:Cap} {ad:List (Int×Int×Int×Int×Int)} {ab bM:Int} {bN bS:List (Int×Int)} {H:Hp} {R0:List Rs} (bb:aq = ad.length) (fT:cq = bN.length) (gJ:cO = bS.length) (h0:Inn H R0 fun R=>ROs (ePair (eInt .i64) (ePair (eInt .i64) (ePair (eInt .i64) (ePair (eInt .i64) (eInt .i64))))) H R ⟨ax,aq,ay⟩ ad∧ROs (ePair (eInt .i64) (eInt .i64)) H R ⟨dC,cq,dD⟩ bN∧ROs (ePair (eInt .i64) (eInt .i64)) H R ⟨eH,cO,eI⟩ bS) {r:Int} (hp:aK.p F ad bN bS bM = some r):∃ v H',aK.tw F ⟨ax,aq,ay⟩ ab ⟨dC,cq,dD⟩ ⟨eH,cO,eI⟩ bM H = some (v,H')∧aK.Q H R0 R0  r v H':=by
 obtain ⟨w0,aP,fl,fK⟩:=h0
 subst bb
 subst fT
 subst gJ
 unfold aK.p at hp
 unfold aK.tw aK.twX
 have s0:=w0.rf
 refine new_k w0 fun H1 w1 s1=>?_
 refine new_k w1 fun H2 w2 s2=>?_
 refine bind_ex (ldSl_of (w2.ld (i:=1) rfl rfl)) ?_
 refine bind_ex (ldI_of (w2.ld (i:=1) rfl rfl)) ?_
 refine bind_ex (ldSl_of (w2.ld (i:=0) rfl rfl)) ?_
 refine bind_ex (ldSl_of (w2.ld (i:=0) rfl rfl)) ?_
 obtain ⟨r3,e3,hp⟩:=bind_some' hp
 refine call_ex (aQ.P rfl rfl rfl ⟨w2,(aP.step (s1.trans s2)),(fl.step (s1.trans s2)),(fK.step (s1.trans s2))⟩ e3) ?_
 rintro _ H4 ⟨o0a_4,o0n_4,o0c_4,o0k_4,rfl,rfl,w4,s4,f4_0⟩
 refine bind_ex rfl ?_
 obtain ⟨w5,s5⟩:=w4.pick' [2,0] 3 rfl rfl rfl
 dsimp only [pk,pks,nth,List.drop] at w5 s5
 exact aK.l29_P F rfl rfl ⟨w5,(s0.trans (s1.trans (s2.trans (s4.trans s5)))),(aP.step (s1.trans (s2.trans (s4.trans s5)))),(f4_0.step s5)⟩ hp
def bz.Q (H0:Hp) (Ri R0:List Rs)  (r:Int×Int) (v:AV) (H':Hp):Prop:=v = (.tup [(.int .i64 r.1),(.int .i64 r.2)])∧Out H0 Ri H' (R0) fun R=>True
def bz.p (F:Nat) (ad:List (Int×Int×Int×Int×Int)) (ab:Int) (ae:Int):Option (Int×Int):=(bp.p F ad ab).bind fun r2=>(bif (!r2.2.2) then (some (0,1)) else ((bF.p F ae).bind fun r8=>(bif (!r8) then (some (0,2)) else ((aK.p F ad r2.1 r2.2.1 ae).bind fun r11=>some (r11,0)))))
theorem bz.P {F:Nat} {ax:ON} {aq:Nat} {ay:Cap} {ad:List (Int×Int×Int×Int×Int)} {ab ae:Int} {H:Hp} {R0:List Rs} (bb:aq = ad.length) (h0:Inn H R0 fun R=>ROs (ePair (eInt .i64) (ePair (eInt .i64) (ePair (eInt .i64) (ePair (eInt .i64) (eInt .i64))))) H R ⟨ax,aq,ay⟩ ad) {r:Int×Int} (hp:bz.p F ad ab ae = some r):∃ v H',bz.tw F ⟨ax,aq,ay⟩ ab ae H = some (v,H')∧bz.Q H R0 R0  r v H':=by
 obtain ⟨w0,aP⟩:=h0
 subst bb
 unfold bz.p at hp
 unfold bz.tw bz.twX
 have s0:=w0.rf
 refine new_k w0 fun H1 w1 s1=>?_
 refine bind_ex (ldSl_of (w1.ld (i:=0) rfl rfl)) ?_
 refine bind_ex (ldI_of (w1.ld (i:=0) rfl rfl)) ?_
 obtain ⟨r2,e2,hp⟩:=bind_some' hp
 refine call_ex (bp.P rfl ⟨w1,(aP.step s1)⟩ e2) ?_
 rintro _ H3 ⟨o0a_3,o0n_3,o0c_3,o1a_3,o1n_3,o1c_3,rfl,rfl,rfl,w3,s3,f3_0,f3_1⟩
 refine bind_ex rfl ?_
 refine bind_ex rfl ?_
 refine bind_ex rfl ?_
 refine bind_ex rfl ?_
 refine bind_ex rfl ?_
 refine bind_ex rfl ?_
 refine bind_ex rfl ?_
 refine bind_ex rfl ?_
 refine bind_ex rfl ?_
 refine new_k w3 fun H4 w4 s4=>?_
 refine st_k w4 (i:=0) rfl rfl rfl fun H5 w5 s5=>?_
 dsimp only [List.set] at w5 s5
 refine st_k w5 (i:=0) rfl rfl rfl fun H6 w6 s6=>?_
 dsimp only [List.set] at w6 s6
 refine bif_ex (fun hb=>?_) (fun hb=>?_)
 ·replace hp:=bif_t hb hp
  obtain ⟨w7,s7⟩:=w6.pick' [] 2 rfl rfl rfl
  dsimp only [pk,pks,nth,List.drop] at w7 s7
  obtain rfl:=Option.some.inj hp
  exact ⟨_,_,rfl,rfl,w7,(s0.trans (s1.trans (s3.trans (s4.trans (s5.trans (s6.trans s7)))))),trivial⟩
 ·replace hp:=bif_f hb hp
  obtain ⟨r8,e8,hp⟩:=bind_some' hp
  refine call_ex (bF.P ⟨w6,trivial⟩ e8) ?_
  rintro _ H9 ⟨rfl,w9,s9,_⟩
  refine bind_ex rfl ?_
  refine bif_ex (fun hb=>?_) (fun hb=>?_)
  ·replace hp:=bif_t hb hp
   obtain ⟨w10,s10⟩:=w9.pick' [] 2 rfl rfl rfl
   dsimp only [pk,pks,nth,List.drop] at w10 s10
   obtain rfl:=Option.some.inj hp
   exact ⟨_,_,rfl,rfl,w10,(s0.trans (s1.trans (s3.trans (s4.trans (s5.trans (s6.trans (s9.trans s10))))))),trivial⟩
  ·replace hp:=bif_f hb hp
   refine bind_ex (ldSl_of (w9.ld (i:=1) rfl rfl)) ?_
   refine bind_ex (ldI_of (w9.ld (i:=1) rfl rfl)) ?_
   refine bind_ex (ldSl_of (w9.ld (i:=0) rfl rfl)) ?_
   refine bind_ex (ldSl_of (w9.ld (i:=0) rfl rfl)) ?_
   obtain ⟨r11,e11,hp⟩:=bind_some' hp
   refine call_ex (aK.P rfl rfl rfl ⟨w9,(aP.step (s1.trans (s3.trans (s4.trans (s5.trans (s6.trans s9)))))),(f3_0.step (s4.trans (s5.trans (s6.trans s9)))),(f3_1.step (s4.trans (s5.trans (s6.trans s9))))⟩ e11) ?_
   rintro _ H12 ⟨rfl,w12,s12,_⟩
   refine bind_ex rfl ?_
   obtain ⟨w13,s13⟩:=w12.pick' [] 2 rfl rfl rfl
   dsimp only [pk,pks,nth,List.drop] at w13 s13
   obtain rfl:=Option.some.inj hp
   exact ⟨_,_,rfl,rfl,w13,(s0.trans (s1.trans (s3.trans (s4.trans (s5.trans (s6.trans (s9.trans (s12.trans s13)))))))),trivial⟩
def bH.Q (H0:Hp) (Ri R0:List Rs)  (r:Bool) (v:AV) (H':Hp):Prop:=v = (.bool r)∧Out H0 Ri H' (R0) fun R=>True
def bH.p (F:Nat) (aa:Int) (ab:Int) (aA:Int) (aB:Int) (az:Int) (bc:Int) (fx:Int) (fy:Int) (fz:Int) (fA:Int):Option (Bool):=(bif (aa != bc) then (some false) else ((bif (ab != fx) then (some false) else ((bif (aA != fy) then (some false) else ((bif (aB != fz) then (some false) else ((bif (az != fA) then (some false) else (some true))))))))))
theorem bH.P {F:Nat} {aa ab aA aB az bc fx fy fz fA:Int} {H:Hp} {R0:List Rs}  (h0:Inn H R0 fun R=>True) {r:Bool} (hp:bH.p F aa ab aA aB az bc fx fy fz fA = some r):∃ v H',bH.tw F aa ab aA aB az bc fx fy fz fA H = some (v,H')∧bH.Q H R0 R0  r v H':=by
 obtain ⟨w0,_⟩:=h0
 unfold bH.p at hp
 unfold bH.tw bH.twX
 have s0:=w0.rf
 refine new_k w0 fun H1 w1 s1=>?_
 refine new_k w1 fun H2 w2 s2=>?_
 refine bind_ex (ldI_of (w2.ld (i:=1) rfl rfl)) ?_
 refine bind_ex (ldI_of (w2.ld (i:=0) rfl rfl)) ?_
 refine bif_ex (fun hb=>?_) (fun hb=>?_)
 ·replace hp:=bif_t hb hp
  obtain ⟨w3,s3⟩:=w2.pick' [] 2 rfl rfl rfl
  dsimp only [pk,pks,nth,List.drop] at w3 s3
  obtain rfl:=Option.some.inj hp
  exact ⟨_,_,rfl,rfl,w3,(s0.trans (s1.trans (s2.trans s3))),trivial⟩
 ·replace hp:=bif_f hb hp
  refine bind_ex (ldI_of (w2.ld (i:=1) rfl rfl)) ?_
  refine bind_ex (ldI_of (w2.ld (i:=0) rfl rfl)) ?_
  refine bif_ex (fun hb=>?_) (fun hb=>?_)
  ·replace hp:=bif_t hb hp
   obtain ⟨w4,s4⟩:=w2.pick' [] 2 rfl rfl rfl
   dsimp only [pk,pks,nth,List.drop] at w4 s4
   obtain rfl:=Option.some.inj hp
   exact ⟨_,_,rfl,rfl,w4,(s0.trans (s1.trans (s2.trans s4))),trivial⟩
  ·replace hp:=bif_f hb hp
   refine bind_ex (ldI_of (w2.ld (i:=1) rfl rfl)) ?_
   refine bind_ex (ldI_of (w2.ld (i:=0) rfl rfl)) ?_
   refine bif_ex (fun hb=>?_) (fun hb=>?_)
   ·replace hp:=bif_t hb hp
    obtain ⟨w5,s5⟩:=w2.pick' [] 2 rfl rfl rfl
    dsimp only [pk,pks,nth,List.drop] at w5 s5
    obtain rfl:=Option.some.inj hp
    exact ⟨_,_,rfl,rfl,w5,(s0.trans (s1.trans (s2.trans s5))),trivial⟩
   ·replace hp:=bif_f hb hp
    refine bind_ex (ldI_of (w2.ld (i:=1) rfl rfl)) ?_
    refine bind_ex (ldI_of (w2.ld (i:=0) rfl rfl)) ?_
    refine bif_ex (fun hb=>?_) (fun hb=>?_)
    ·replace hp:=bif_t hb hp
     obtain ⟨w6,s6⟩:=w2.pick' [] 2 rfl rfl rfl
     dsimp only [pk,pks,nth,List.drop] at w6 s6
     obtain rfl:=Option.some.inj hp
     exact ⟨_,_,rfl,rfl,w6,(s0.trans (s1.trans (s2.trans s6))),trivial⟩
    ·replace hp:=bif_f hb hp
     refine bind_ex (ldI_of (w2.ld (i:=1) rfl rfl)) ?_
     refine bind_ex (ldI_of (w2.ld (i:=0) rfl rfl)) ?_
     refine bif_ex (fun hb=>?_) (fun hb=>?_)
     ·replace hp:=bif_t hb hp
      obtain ⟨w7,s7⟩:=w2.pick' [] 2 rfl rfl rfl
      dsimp only [pk,pks,nth,List.drop] at w7 s7
      obtain rfl:=Option.some.inj hp
      exact ⟨_,_,rfl,rfl,w7,(s0.trans (s1.trans (s2.trans s7))),trivial⟩
     ·replace hp:=bif_f hb hp
      obtain ⟨w8,s8⟩:=w2.pick' [] 2 rfl rfl rfl
      dsimp only [pk,pks,nth,List.drop] at w8 s8
      obtain rfl:=Option.some.inj hp
      exact ⟨_,_,rfl,rfl,w8,(s0.trans (s1.trans (s2.trans s8))),trivial⟩
def aW.Q (H0:Hp) (Ri R0:List Rs)  (r:Bool) (v:AV) (H':Hp):Prop:=v = (.bool r)∧Out H0 Ri H' (R0) fun R=>True
def aW.S29 (H0:Hp) (Ri R0:List Rs)  (C:Sl→Sl→Int→Hp→OA) (pC:List (Int×Int×Int×Int×Int)→List (Int×Int×Int×Int×Int)→Int→Option (Bool)):Prop:=∀ {iO uO:ON} {im pD:Nat} {iQ uP:Cap} {cw gM:List (Int×Int×Int×Int×Int)} {ef:Int},∀ {H:Hp},im = cw.length→pD = gM.length→(Out H0 Ri H R0 fun R=>ROs (ePair (eInt .i64) (ePair (eInt .i64) (ePair (eInt .i64) (ePair (eInt .i64) (eInt .i64))))) H R ⟨iO,im,iQ⟩ cw∧ROs (ePair (eInt .i64) (ePair (eInt .i64) (ePair (eInt .i64) (ePair (eInt .i64) (eInt .i64))))) H R ⟨uO,pD,uP⟩ gM)→∀ {r:Bool},pC cw gM ef = some r→∃ v H',C ⟨iO,im,iQ⟩ ⟨uO,pD,uP⟩ ef H = some (v,H')∧aW.Q H0 Ri R0  r v H'
def aW.pl29 (F:Nat) :Nat→List (Int×Int×Int×Int×Int)→List (Int×Int×Int×Int×Int)→Int→Option (Bool)
 | 0,_,_,_=>none
 | k + 1,cw,gM,ef=>(bif (decide (ef < (cw.length:Int))) then ((ix cw ef).bind fun n1=>(ix gM ef).bind fun n2=>(bH.p F ((gt cw n1).1) ((gt cw n1).2.1) ((gt cw n1).2.2.1) ((gt cw n1).2.2.2.1) ((gt cw n1).2.2.2.2) ((gt gM n2).1) ((gt gM n2).2.1) ((gt gM n2).2.2.1) ((gt gM n2).2.2.2.1) ((gt gM n2).2.2.2.2)).bind fun r3=>(bif (!r3) then (some false) else (aW.pl29 F k cw gM (IntKind.i64.wrap (ef + 1))))) else (some true))
termination_by structural n=>n
theorem aW.l29_P {F:Nat} {H0:Hp} {Ri R0:List Rs}  :∀ k,aW.S29 H0 Ri R0  (aW.l29 F (bH.tw F)  k) (aW.pl29 F  k):=by
 intro k
 induction k with
 | zero=>
  intro iO uO im pD iQ uP cw gM ef H lU EH h0 r hp
  exact nomatch (show (none:Option (Bool)) = some r from hp)
 | succ k ih=>
  intro iO uO im pD iQ uP cw gM ef H lU EH h0 r hp
  obtain ⟨w0,s0,lV,EI⟩:=h0
  subst lU
  subst EH
  unfold aW.pl29 at hp
  unfold aW.l29
  refine bif_ex (fun hb=>?_) (fun hb=>?_)
  ·replace hp:=bif_t hb hp
   obtain ⟨n1,g1,hp⟩:=bind_some' hp
   obtain ⟨p1,q1,i1,h1,j1⟩:=ROs.ixr lV rfl g1
   refine bind_ex i1 ?_
   obtain ⟨_,_,rfl,rfl,_,_,rfl,rfl,_,_,rfl,rfl,_,_,rfl,rfl,rfl⟩:=h1
   refine bind_ex (ldI_of (j1 0 _ rfl)) ?_
   refine bind_ex (ldI_of (j1 1 _ rfl)) ?_
   refine bind_ex (ldI_of (j1 2 _ rfl)) ?_
   refine bind_ex (ldI_of (j1 3 _ rfl)) ?_
   refine bind_ex (ldI_of (j1 4 _ rfl)) ?_
   obtain ⟨n2,g2,hp⟩:=bind_some' hp
   obtain ⟨p2,q2,i2,h2,j2⟩:=ROs.ixr EI rfl g2
   refine bind_ex i2 ?_
   obtain ⟨_,_,rfl,rfl,_,_,rfl,rfl,_,_,rfl,rfl,_,_,rfl,rfl,rfl⟩:=h2
   refine bind_ex (ldI_of (j2 0 _ rfl)) ?_
   refine bind_ex (ldI_of (j2 1 _ rfl)) ?_
   refine bind_ex (ldI_of (j2 2 _ rfl)) ?_
   refine bind_ex (ldI_of (j2 3 _ rfl)) ?_
   refine bind_ex (ldI_of (j2 4 _ rfl)) ?_
   obtain ⟨r3,e3,hp⟩:=bind_some' hp
   refine call_ex (bH.P ⟨w0,trivial⟩ e3) ?_
   rintro _ H4 ⟨rfl,w4,s4,_⟩
   refine bind_ex rfl ?_
   refine bif_ex (fun hb=>?_) (fun hb=>?_)
   ·replace hp:=bif_t hb hp
    obtain rfl:=Option.some.inj hp
    exact ⟨_,_,rfl,rfl,w4,(s0.trans s4),trivial⟩
   ·replace hp:=bif_f hb hp
    exact ih rfl rfl ⟨w4,(s0.trans s4),(lV.step s4),(EI.step s4)⟩ hp
  ·replace hp:=bif_f hb hp
   obtain rfl:=Option.some.inj hp
   exact ⟨_,_,rfl,rfl,w0,s0,trivial⟩
def aW.p (F:Nat) (ad:List (Int×Int×Int×Int×Int)) (gF:List (Int×Int×Int×Int×Int)):Option (Bool):=(bif ((ad.length:Int) != (gF.length:Int)) then (some false) else (aW.pl29 F F ad gF 0))
theorem aW.P {F:Nat} {ax nK:ON} {aq ki:Nat} {ay nL:Cap} {ad gF:List (Int×Int×Int×Int×Int)} {H:Hp} {R0:List Rs} (bb:aq = ad.length) (wg:ki = gF.length) (h0:Inn H R0 fun R=>ROs (ePair (eInt .i64) (ePair (eInt .i64) (ePair (eInt .i64) (ePair (eInt .i64) (eInt .i64))))) H R ⟨ax,aq,ay⟩ ad∧ROs (ePair (eInt .i64) (ePair (eInt .i64) (ePair (eInt .i64) (ePair (eInt .i64) (eInt .i64))))) H R ⟨nK,ki,nL⟩ gF) {r:Bool} (hp:aW.p F ad gF = some r):∃ v H',aW.tw F ⟨ax,aq,ay⟩ ⟨nK,ki,nL⟩ H = some (v,H')∧aW.Q H R0 R0  r v H':=by
 obtain ⟨w0,aP,wh⟩:=h0
 subst bb
 subst wg
 unfold aW.p at hp
 unfold aW.tw aW.twX
 have s0:=w0.rf
 refine bif_ex (fun hb=>?_) (fun hb=>?_)
 ·replace hp:=bif_t hb hp
  obtain rfl:=Option.some.inj hp
  exact ⟨_,_,rfl,rfl,w0,s0,trivial⟩
 ·replace hp:=bif_f hb hp
  exact aW.l29_P F rfl rfl ⟨w0,s0,aP,wh⟩ hp
def bA.Q (H0:Hp) (Ri R0:List Rs)  (r:Bool) (v:AV) (H':Hp):Prop:=v = (.bool r)∧Out H0 Ri H' (R0) fun R=>True
def bA.p (F:Nat) (ad:List (Int×Int×Int×Int×Int)) (ab:Int) (bN:List (Int×Int×Int×Int×Int)) (aL:Int):Option (Bool):=(aW.p F ad bN).bind fun r3=>(bif (!r3) then (some false) else ((bif (ab != aL) then (some false) else (some true))))
theorem bA.P {F:Nat} {ax dC:ON} {aq cq:Nat} {ay dD:Cap} {ad bN:List (Int×Int×Int×Int×Int)} {ab aL:Int} {H:Hp} {R0:List Rs} (bb:aq = ad.length) (fT:cq = bN.length) (h0:Inn H R0 fun R=>ROs (ePair (eInt .i64) (ePair (eInt .i64) (ePair (eInt .i64) (ePair (eInt .i64) (eInt .i64))))) H R ⟨ax,aq,ay⟩ ad∧ROs (ePair (eInt .i64) (ePair (eInt .i64) (ePair (eInt .i64) (ePair (eInt .i64) (eInt .i64))))) H R ⟨dC,cq,dD⟩ bN) {r:Bool} (hp:bA.p F ad ab bN aL = some r):∃ v H',bA.tw F ⟨ax,aq,ay⟩ ab ⟨dC,cq,dD⟩ aL H = some (v,H')∧bA.Q H R0 R0  r v H':=by
 obtain ⟨w0,aP,fl⟩:=h0
 subst bb
 subst fT
 unfold bA.p at hp
 unfold bA.tw bA.twX
 have s0:=w0.rf
 refine new_k w0 fun H1 w1 s1=>?_
 refine new_k w1 fun H2 w2 s2=>?_
 refine bind_ex (ldSl_of (w2.ld (i:=1) rfl rfl)) ?_
 refine bind_ex (ldSl_of (w2.ld (i:=0) rfl rfl)) ?_
 obtain ⟨r3,e3,hp⟩:=bind_some' hp
 refine call_ex (aW.P rfl rfl ⟨w2,(aP.step (s1.trans s2)),(fl.step (s1.trans s2))⟩ e3) ?_
 rintro _ H4 ⟨rfl,w4,s4,_⟩
 refine bind_ex rfl ?_
 refine bif_ex (fun hb=>?_) (fun hb=>?_)
 ·replace hp:=bif_t hb hp
  obtain ⟨w5,s5⟩:=w4.pick' [] 2 rfl rfl rfl
  dsimp only [pk,pks,nth,List.drop] at w5 s5
  obtain rfl:=Option.some.inj hp
  exact ⟨_,_,rfl,rfl,w5,(s0.trans (s1.trans (s2.trans (s4.trans s5)))),trivial⟩
 ·replace hp:=bif_f hb hp
  refine bind_ex (ldI_of (w4.ld (i:=1) rfl rfl)) ?_
  refine bind_ex (ldI_of (w4.ld (i:=0) rfl rfl)) ?_
  refine bif_ex (fun hb=>?_) (fun hb=>?_)
  ·replace hp:=bif_t hb hp
   obtain ⟨w6,s6⟩:=w4.pick' [] 2 rfl rfl rfl
   dsimp only [pk,pks,nth,List.drop] at w6 s6
   obtain rfl:=Option.some.inj hp
   exact ⟨_,_,rfl,rfl,w6,(s0.trans (s1.trans (s2.trans (s4.trans s6)))),trivial⟩
  ·replace hp:=bif_f hb hp
   obtain ⟨w7,s7⟩:=w4.pick' [] 2 rfl rfl rfl
   dsimp only [pk,pks,nth,List.drop] at w7 s7
   obtain rfl:=Option.some.inj hp
   exact ⟨_,_,rfl,rfl,w7,(s0.trans (s1.trans (s2.trans (s4.trans s7)))),trivial⟩
def bL.Q (H0:Hp) (Ri R0:List Rs)  (r:Bool) (v:AV) (H':Hp):Prop:=v = (.bool r)∧Out H0 Ri H' (R0) fun R=>True
def bL.p (F:Nat) (ad:List (Int×Int×Int×Int×Int)) (ab:Int) (ae:Int):Option (Bool):=(bt.p F ad 1048576).bind fun r2=>(bif (decide (r2 < 0)) then (some true) else ((br.p F ad ab).bind fun r5=>(bw.p F r5.1 r5.2 ae).bind fun r8=>(br.p F ad ab).bind fun r11=>(bz.p F r11.1 r11.2 ae).bind fun r18=>(bif (r18.1 != r8.1) then (some false) else ((bif (r18.2 != r8.2) then (some false) else ((br.p F ad ab).bind fun r23=>(bA.p F r11.1 r11.2 r23.1 r23.2).bind fun r29=>(bif (!r29) then (some false) else (some true))))))))
end Go.Proofs.Ythfinhmkgdmelaa.AE
