import Derived.Test.YthfinhmkgdmelaaT2
import Derived.Test.YthfinhmkgdmelaaE2
set_option linter.unusedVariables false
set_option linter.unusedSimpArgs false
namespace Go.Proofs.Ythfinhmkgdmelaa.AE
open Go Go.AE Go.Proofs
set_option linter.unusedVariables false
set_option maxHeartbeats 4000000
set_option maxRecDepth 100000
theorem bI.inl {F:Nat} {aa:Int} {ab:Int} {ai:Sl} {av:Int} {cm:Int} {H:Hp} {K:AV×Hp→OA} {Q:AV→Hp→Prop} (h:∃ u H1,((Hp.new H [(.int .i64 aa),(.int .i64 ab),(.sl ai)]).bind fun H6=>(Hp.ldSl H6 H.length 2).bind fun s7=>(Hp.ldI H6 .i64 H.length 1).bind fun n8=>(Sl.idx s7 (IntKind.i64.wrap ((IntKind.i64.wrap (av * n8)) + cm)) 1).bind fun p9=>some ((.ptr p9.1 p9.2),H6)) = some (u,H1)∧∃ v H',K (u,H1) = some (v,H')∧Q v H'):∃ v H',(bI.tw F aa ab ai av cm H).bind K = some (v,H')∧Q v H':=inl_ex h
def bz.Q (H0:Hp) (Ri R0:List Rs)  (r:Int) (v:AV) (H':Hp):Prop:=v = (.int .i64 r)∧Out H0 Ri H' (R0) fun R=>True
def bz.p (F:Nat) (ac:List (Int×Int×Int×Int×Int)) (ad:Int):Option (Int):=(bif (decide ((IntKind.i64.wrap (ad - (ac.length:Int))) < 0)) then (some (-1)) else (some (IntKind.i64.wrap (ad - (ac.length:Int)))))
theorem bz.P {F:Nat} {ap:ON} {ag:Nat} {aq:Cap} {ac:List (Int×Int×Int×Int×Int)} {ad:Int} {H:Hp} {R0:List Rs} (aY:ag = ac.length) (h0:Inn H R0 fun R=>ROs (ePair (eInt .i64) (ePair (eInt .i64) (ePair (eInt .i64) (ePair (eInt .i64) (eInt .i64))))) H R ⟨ap,ag,aq⟩ ac) {r:Int} (hp:bz.p F ac ad = some r):∃ v H',bz.tw F ⟨ap,ag,aq⟩ ad H = some (v,H')∧bz.Q H R0 R0  r v H':=by
 obtain ⟨w0,aG⟩:=h0
 subst aY
 unfold bz.p at hp
 unfold bz.tw bz.twX
 have s0:=w0.rf
 refine bif_ex (fun hb=>?_) (fun hb=>?_)
 ·replace hp:=bif_t hb hp
  obtain rfl:=Option.some.inj hp
  exact ⟨_,_,rfl,rfl,w0,s0,trivial⟩
 ·replace hp:=bif_f hb hp
  obtain rfl:=Option.some.inj hp
  exact ⟨_,_,rfl,rfl,w0,s0,trivial⟩
def bq.Q (H0:Hp) (Ri R0:List Rs)  (r:Int) (v:AV) (H':Hp):Prop:=v = (.int .i64 r)∧Out H0 Ri H' (R0) fun R=>True
def bq.p (F:Nat) (ac:List (Int×Int×Int×Int×Int)) (au:Int):Option (Int):=(bz.p F ac au).bind fun r2=>(bif (decide (r2 < 0)) then (some (-1)) else (some r2))
theorem bq.P {F:Nat} {ap:ON} {ag:Nat} {aq:Cap} {ac:List (Int×Int×Int×Int×Int)} {ab au:Int} {H:Hp} {R0:List Rs} (aY:ag = ac.length) (h0:Inn H R0 fun R=>ROs (ePair (eInt .i64) (ePair (eInt .i64) (ePair (eInt .i64) (ePair (eInt .i64) (eInt .i64))))) H R ⟨ap,ag,aq⟩ ac) {r:Int} (hp:bq.p F ac au = some r):∃ v H',bq.tw F ⟨ap,ag,aq⟩ ab au H = some (v,H')∧bq.Q H R0 R0  r v H':=by
 obtain ⟨w0,aG⟩:=h0
 subst aY
 unfold bq.p at hp
 unfold bq.tw bq.twX
 have s0:=w0.rf
 refine new_k w0 fun H1 w1 s1=>?_
 refine bind_ex (ldSl_of (w1.ld (i:=0) rfl rfl)) ?_
 obtain ⟨r2,e2,hp⟩:=bind_some' hp
 refine call_ex (bz.P rfl ⟨w1,(aG.step s1)⟩ e2) ?_
 rintro _ H3 ⟨rfl,w3,s3,_⟩
 refine bind_ex rfl ?_
 refine bif_ex (fun hb=>?_) (fun hb=>?_)
 ·replace hp:=bif_t hb hp
  obtain ⟨w4,s4⟩:=w3.pick' [] 1 rfl rfl rfl
  dsimp only [pk,pks,nth,List.drop] at w4 s4
  obtain rfl:=Option.some.inj hp
  exact ⟨_,_,rfl,rfl,w4,(s0.trans (s1.trans (s3.trans s4))),trivial⟩
 ·replace hp:=bif_f hb hp
  obtain ⟨w5,s5⟩:=w3.pick' [] 1 rfl rfl rfl
  dsimp only [pk,pks,nth,List.drop] at w5 s5
  obtain rfl:=Option.some.inj hp
  exact ⟨_,_,rfl,rfl,w5,(s0.trans (s1.trans (s3.trans s5))),trivial⟩
def bA.Q (H0:Hp) (Ri R0:List Rs)  (r:Int×Int×Int×Int×Int) (v:AV) (H':Hp):Prop:=v = (.agg [(.int .i64 r.1),(.int .i64 r.2.1),(.int .i64 r.2.2.1),(.int .i64 r.2.2.2.1),(.int .i64 r.2.2.2.2)])∧Out H0 Ri H' (R0) fun R=>True
def bA.p (F:Nat) (aa:Int) (ab:Int) (ai:Int) (ay:Int) (aw:Int):Option (Int×Int×Int×Int×Int):=some (aa,ab,ai,ay,aw)
theorem bA.P {F:Nat} {aa ab ai ay aw:Int} {H:Hp} {R0:List Rs}  (h0:Inn H R0 fun R=>True) {r:Int×Int×Int×Int×Int} (hp:bA.p F aa ab ai ay aw = some r):∃ v H',bA.tw F aa ab ai ay aw H = some (v,H')∧bA.Q H R0 R0  r v H':=by
 obtain ⟨w0,_⟩:=h0
 unfold bA.p at hp
 unfold bA.tw bA.twX
 have s0:=w0.rf
 refine new_k w0 fun H1 w1 s1=>?_
 refine new_k w1 fun H2 w2 s2=>?_
 refine new_k w2 fun H3 w3 s3=>?_
 refine bind_ex (ldI_of (w3.ld (i:=2) rfl rfl)) ?_
 refine st_k w3 (i:=0) rfl rfl rfl fun H4 w4 s4=>?_
 dsimp only [List.set] at w4 s4
 refine bind_ex (ldI_of (w4.ld (i:=2) rfl rfl)) ?_
 refine st_k w4 (i:=0) rfl rfl rfl fun H5 w5 s5=>?_
 dsimp only [List.set] at w5 s5
 refine bind_ex (ldI_of (w5.ld (i:=2) rfl rfl)) ?_
 refine st_k w5 (i:=0) rfl rfl rfl fun H6 w6 s6=>?_
 dsimp only [List.set] at w6 s6
 refine bind_ex (ldI_of (w6.ld (i:=2) rfl rfl)) ?_
 refine st_k w6 (i:=0) rfl rfl rfl fun H7 w7 s7=>?_
 dsimp only [List.set] at w7 s7
 refine bind_ex (ldI_of (w7.ld (i:=2) rfl rfl)) ?_
 refine st_k w7 (i:=0) rfl rfl rfl fun H8 w8 s8=>?_
 dsimp only [List.set] at w8 s8
 refine bind_ex (ldI_of (w8.ld (i:=0) rfl rfl)) ?_
 refine bind_ex (ldI_of (w8.ld (i:=0) rfl rfl)) ?_
 refine bind_ex (ldI_of (w8.ld (i:=0) rfl rfl)) ?_
 refine bind_ex (ldI_of (w8.ld (i:=0) rfl rfl)) ?_
 refine bind_ex (ldI_of (w8.ld (i:=0) rfl rfl)) ?_
 refine st_k w8 (i:=1) rfl rfl rfl fun H9 w9 s9=>?_
 dsimp only [List.set] at w9 s9
 refine st_k w9 (i:=1) rfl rfl rfl fun H10 w10 s10=>?_
 dsimp only [List.set] at w10 s10
 refine st_k w10 (i:=1) rfl rfl rfl fun H11 w11 s11=>?_
 dsimp only [List.set] at w11 s11
 refine st_k w11 (i:=1) rfl rfl rfl fun H12 w12 s12=>?_
 dsimp only [List.set] at w12 s12
 refine st_k w12 (i:=1) rfl rfl rfl fun H13 w13 s13=>?_
 dsimp only [List.set] at w13 s13
 refine bind_ex (ldI_of (w13.ld (i:=1) rfl rfl)) ?_
 refine bind_ex (ldI_of (w13.ld (i:=1) rfl rfl)) ?_
 refine bind_ex (ldI_of (w13.ld (i:=1) rfl rfl)) ?_
 refine bind_ex (ldI_of (w13.ld (i:=1) rfl rfl)) ?_
 refine bind_ex (ldI_of (w13.ld (i:=1) rfl rfl)) ?_
 obtain ⟨w14,s14⟩:=w13.pick' [] 3 rfl rfl rfl
 dsimp only [pk,pks,nth,List.drop] at w14 s14
 obtain rfl:=Option.some.inj hp
 exact ⟨_,_,rfl,rfl,w14,(s0.trans (s1.trans (s2.trans (s3.trans (s4.trans (s5.trans (s6.trans (s7.trans (s8.trans (s9.trans (s10.trans (s11.trans (s12.trans (s13.trans s14)))))))))))))),trivial⟩
def aO.Q (H0:Hp) (Ri R0:List Rs)  (r:(List (Int×Int×Int×Int×Int))) (v:AV) (H':Hp):Prop:=∃ o0a:ON,∃ o0n:Nat,∃ o0c:Cap,∃ o0k:List AV,v = (.sl ⟨o0a,o0n,o0c⟩)∧o0n = (r).length∧Out H0 Ri H' (Rs.own ⟨o0a,o0n,o0c⟩ (ePair (eInt .i64) (ePair (eInt .i64) (ePair (eInt .i64) (ePair (eInt .i64) (eInt .i64))))).z o0k :: R0) fun R=>CR (ePair (eInt .i64) (ePair (eInt .i64) (ePair (eInt .i64) (ePair (eInt .i64) (eInt .i64))))) H' R o0k (r)
def aO.S29 (H0:Hp) (Ri R0:List Rs)  (C:Sl→Sl→Int→Hp→OA) (pC:List (Int×Int×Int×Int×Int)→List (Int×Int×Int×Int×Int)→Int→Option ((List (Int×Int×Int×Int×Int)))):Prop:=∀ {eD nE:ON} {du ky:Nat} {eE nF:Cap} {a_ fW:List (Int×Int×Int×Int×Int)} {nG:List AV} {dA:Int},∀ {H:Hp},du = a_.length→ky = fW.length→(Out H0 Ri H (Rs.own ⟨nE,ky,nF⟩ (ePair (eInt .i64) (ePair (eInt .i64) (ePair (eInt .i64) (ePair (eInt .i64) (eInt .i64))))).z nG :: R0) fun R=>ROs (ePair (eInt .i64) (ePair (eInt .i64) (ePair (eInt .i64) (ePair (eInt .i64) (eInt .i64))))) H R ⟨eD,du,eE⟩ a_∧CR (ePair (eInt .i64) (ePair (eInt .i64) (ePair (eInt .i64) (ePair (eInt .i64) (eInt .i64))))) H R nG fW)→∀ {r:(List (Int×Int×Int×Int×Int))},pC a_ fW dA = some r→∃ v H',C ⟨eD,du,eE⟩ ⟨nE,ky,nF⟩ dA H = some (v,H')∧aO.Q H0 Ri R0  r v H'
def aO.pl29 (F:Nat) :Nat→List (Int×Int×Int×Int×Int)→List (Int×Int×Int×Int×Int)→Int→Option ((List (Int×Int×Int×Int×Int)))
 | 0,_,_,_=>none
 | k + 1,a_,fW,dA=>(bif (decide (dA < (a_.length:Int))) then ((ix a_ dA).bind fun n1=>(bA.p F ((gt a_ n1).1) ((gt a_ n1).2.1) ((gt a_ n1).2.2.1) ((gt a_ n1).2.2.2.1) ((gt a_ n1).2.2.2.2)).bind fun r2=>(ix fW dA).bind fun n4=>(some (fW.set n4 (r2.1,(gt fW n4).2.1,(gt fW n4).2.2.1,(gt fW n4).2.2.2.1,(gt fW n4).2.2.2.2))).bind fun l5=>(some (l5.set n4 ((gt l5 n4).1,r2.2.1,(gt l5 n4).2.2.1,(gt l5 n4).2.2.2.1,(gt l5 n4).2.2.2.2))).bind fun l7=>(some (l7.set n4 ((gt l7 n4).1,(gt l7 n4).2.1,r2.2.2.1,(gt l7 n4).2.2.2.1,(gt l7 n4).2.2.2.2))).bind fun l9=>(some (l9.set n4 ((gt l9 n4).1,(gt l9 n4).2.1,(gt l9 n4).2.2.1,r2.2.2.2.1,(gt l9 n4).2.2.2.2))).bind fun l11=>(some (l11.set n4 ((gt l11 n4).1,(gt l11 n4).2.1,(gt l11 n4).2.2.1,(gt l11 n4).2.2.2.1,r2.2.2.2.2))).bind fun l13=>aO.pl29 F k a_ l13 (IntKind.i64.wrap (dA + 1))) else (some fW))
termination_by structural n=>n
theorem aO.l29_P {F:Nat} {H0:Hp} {Ri R0:List Rs}  :∀ k,aO.S29 H0 Ri R0  (aO.l29 F (bA.tw F)  k) (aO.pl29 F  k):=by
 intro k
 induction k with
 | zero=>
  intro eD nE du ky eE nF a_ fW nG dA H fe tP h0 r hp
  exact nomatch (show (none:Option ((List (Int×Int×Int×Int×Int)))) = some r from hp)
 | succ k ih=>
  intro eD nE du ky eE nF a_ fW nG dA H fe tP h0 r hp
  obtain ⟨w0,s0,eF,ry⟩:=h0
  subst fe
  subst tP
  unfold aO.pl29 at hp
  unfold aO.l29
  refine bif_ex (fun hb=>?_) (fun hb=>?_)
  ·replace hp:=bif_t hb hp
   obtain ⟨n1,g1,hp⟩:=bind_some' hp
   obtain ⟨p1,q1,i1,h1,j1⟩:=ROs.ixr eF rfl g1
   refine bind_ex i1 ?_
   obtain ⟨_,_,rfl,rfl,_,_,rfl,rfl,_,_,rfl,rfl,_,_,rfl,rfl,rfl⟩:=h1
   refine bind_ex (ldI_of (j1 0 _ rfl)) ?_
   refine bind_ex (ldI_of (j1 1 _ rfl)) ?_
   refine bind_ex (ldI_of (j1 2 _ rfl)) ?_
   refine bind_ex (ldI_of (j1 3 _ rfl)) ?_
   refine bind_ex (ldI_of (j1 4 _ rfl)) ?_
   obtain ⟨r2,e2,hp⟩:=bind_some' hp
   refine call_ex (bA.P ⟨w0,trivial⟩ e2) ?_
   rintro _ H3 ⟨rfl,w3,s3,_⟩
   refine bind_ex rfl ?_
   refine bind_ex rfl ?_
   refine bind_ex rfl ?_
   refine bind_ex rfl ?_
   refine bind_ex rfl ?_
   refine bind_ex rfl ?_
   refine bind_ex rfl ?_
   refine bind_ex rfl ?_
   refine bind_ex rfl ?_
   refine bind_ex rfl ?_
   refine bind_ex rfl ?_
   obtain ⟨n4,g4,hp⟩:=bind_some' hp
   obtain ⟨p4,q4,i4,h4,j4⟩:=W.ixo (E:=(ePair (eInt .i64) (ePair (eInt .i64) (ePair (eInt .i64) (ePair (eInt .i64) (eInt .i64)))))) w3 (i:=0) rfl rfl (ry.step s3) g4
   refine bind_ex i4 ?_
   obtain ⟨l5,e5,hp⟩:=bind_some' hp
   refine sto_k (ePair (eInt .i64) (ePair (eInt .i64) (ePair (eInt .i64) (ePair (eInt .i64) (eInt .i64))))) w3 (i:=0) (j:=0) (p:=p4) rfl rfl (ry.step s3) g4 i4 e5 rfl rfl (fun _ h=>by obtain ⟨_,_,rfl,rfl,_,_,rfl,rfl,_,_,rfl,rfl,_,_,rfl,rfl,rfl⟩:=h; exact ⟨[_],_,rfl,rfl,[_],_,rfl,rfl,[_],_,rfl,rfl,[_],_,rfl,rfl,rfl⟩) fun H6 k6 w6 s6 c6=>?_
   dsimp only [List.set] at w6 s6 c6
   obtain ⟨l7,e7,hp⟩:=bind_some' hp
   refine sto_k (ePair (eInt .i64) (ePair (eInt .i64) (ePair (eInt .i64) (ePair (eInt .i64) (eInt .i64))))) w6 (i:=0) (j:=1) (p:=p4) rfl rfl c6 (ix_len g4 (st_len e5)) i4 e7 rfl rfl (fun _ h=>by obtain ⟨_,_,rfl,rfl,_,_,rfl,rfl,_,_,rfl,rfl,_,_,rfl,rfl,rfl⟩:=h; exact ⟨[_],_,rfl,rfl,[_],_,rfl,rfl,[_],_,rfl,rfl,[_],_,rfl,rfl,rfl⟩) fun H8 k8 w8 s8 c8=>?_
   dsimp only [List.set] at w8 s8 c8
   obtain ⟨l9,e9,hp⟩:=bind_some' hp
   refine sto_k (ePair (eInt .i64) (ePair (eInt .i64) (ePair (eInt .i64) (ePair (eInt .i64) (eInt .i64))))) w8 (i:=0) (j:=2) (p:=p4) rfl rfl c8 (ix_len g4 ((st_len e7).trans (st_len e5))) i4 e9 rfl rfl (fun _ h=>by obtain ⟨_,_,rfl,rfl,_,_,rfl,rfl,_,_,rfl,rfl,_,_,rfl,rfl,rfl⟩:=h; exact ⟨[_],_,rfl,rfl,[_],_,rfl,rfl,[_],_,rfl,rfl,[_],_,rfl,rfl,rfl⟩) fun H10 k10 w10 s10 c10=>?_
   dsimp only [List.set] at w10 s10 c10
   obtain ⟨l11,e11,hp⟩:=bind_some' hp
   refine sto_k (ePair (eInt .i64) (ePair (eInt .i64) (ePair (eInt .i64) (ePair (eInt .i64) (eInt .i64))))) w10 (i:=0) (j:=3) (p:=p4) rfl rfl c10 (ix_len g4 (((st_len e9).trans (st_len e7)).trans (st_len e5))) i4 e11 rfl rfl (fun _ h=>by obtain ⟨_,_,rfl,rfl,_,_,rfl,rfl,_,_,rfl,rfl,_,_,rfl,rfl,rfl⟩:=h; exact ⟨[_],_,rfl,rfl,[_],_,rfl,rfl,[_],_,rfl,rfl,[_],_,rfl,rfl,rfl⟩) fun H12 k12 w12 s12 c12=>?_
   dsimp only [List.set] at w12 s12 c12
   obtain ⟨l13,e13,hp⟩:=bind_some' hp
   refine sto_k (ePair (eInt .i64) (ePair (eInt .i64) (ePair (eInt .i64) (ePair (eInt .i64) (eInt .i64))))) w12 (i:=0) (j:=4) (p:=p4) rfl rfl c12 (ix_len g4 ((((st_len e11).trans (st_len e9)).trans (st_len e7)).trans (st_len e5))) i4 e13 rfl rfl (fun _ h=>by obtain ⟨_,_,rfl,rfl,_,_,rfl,rfl,_,_,rfl,rfl,_,_,rfl,rfl,rfl⟩:=h; exact ⟨[_],_,rfl,rfl,[_],_,rfl,rfl,[_],_,rfl,rfl,[_],_,rfl,rfl,rfl⟩) fun H14 k14 w14 s14 c14=>?_
   dsimp only [List.set] at w14 s14 c14
   exact ih rfl (((((st_len e5).symm.trans (st_len e7).symm).trans (st_len e9).symm).trans (st_len e11).symm).trans (st_len e13).symm) ⟨w14,(s0.trans (s3.trans (s6.trans (s8.trans (s10.trans (s12.trans s14)))))),(eF.step (s3.trans (s6.trans (s8.trans (s10.trans (s12.trans s14)))))),c14⟩ hp
  ·replace hp:=bif_f hb hp
   obtain rfl:=Option.some.inj hp
   exact ⟨_,_,rfl,_,_,_,_,rfl,rfl,w0,s0,ry⟩
def aO.p (F:Nat) (ac:List (Int×Int×Int×Int×Int)):Option ((List (Int×Int×Int×Int×Int))):=(mkn (ac.length:Int) ((0:Int),(0:Int),(0:Int),(0:Int),(0:Int))).bind fun l1=>aO.pl29 F F ac l1 0
theorem aO.P {F:Nat} {ap:ON} {ag:Nat} {aq:Cap} {ac:List (Int×Int×Int×Int×Int)} {H:Hp} {R0:List Rs} (aY:ag = ac.length) (h0:Inn H R0 fun R=>ROs (ePair (eInt .i64) (ePair (eInt .i64) (ePair (eInt .i64) (ePair (eInt .i64) (eInt .i64))))) H R ⟨ap,ag,aq⟩ ac) {r:(List (Int×Int×Int×Int×Int))} (hp:aO.p F ac = some r):∃ v H',aO.tw F ⟨ap,ag,aq⟩ H = some (v,H')∧aO.Q H R0 R0  r v H':=by
 obtain ⟨w0,aG⟩:=h0
 subst aY
 unfold aO.p at hp
 unfold aO.tw aO.twX
 have s0:=w0.rf
 obtain ⟨l1,e1,hp⟩:=bind_some' hp
 refine mk_k (ePair (eInt .i64) (ePair (eInt .i64) (ePair (eInt .i64) (ePair (eInt .i64) (eInt .i64))))) ((0:Int),(0:Int),(0:Int),(0:Int),(0:Int)) w0 ⟨[_],_,rfl,rfl,⟨[_],_,rfl,rfl,⟨[_],_,rfl,rfl,⟨[_],_,rfl,rfl,rfl⟩⟩⟩⟩ rfl rfl e1 fun H2 k2 w2 s2 c2=>?_
 exact aO.l29_P F rfl rfl ⟨w2,(s0.trans s2),(aG.step s2),c2⟩ hp
def bj.Q (H0:Hp) (Ri R0:List Rs)  (r:(List (Int×Int×Int×Int×Int))×Int) (v:AV) (H':Hp):Prop:=∃ o0a:ON,∃ o0n:Nat,∃ o0c:Cap,∃ o0k:List AV,v = (.agg [(.sl ⟨o0a,o0n,o0c⟩),(.int .i64 r.2)])∧o0n = (r.1).length∧Out H0 Ri H' (Rs.own ⟨o0a,o0n,o0c⟩ (ePair (eInt .i64) (ePair (eInt .i64) (ePair (eInt .i64) (ePair (eInt .i64) (eInt .i64))))).z o0k :: R0) fun R=>CR (ePair (eInt .i64) (ePair (eInt .i64) (ePair (eInt .i64) (ePair (eInt .i64) (eInt .i64))))) H' R o0k (r.1)
def bj.p (F:Nat) (ac:List (Int×Int×Int×Int×Int)) (ab:Int):Option ((List (Int×Int×Int×Int×Int))×Int):=(aO.p F ac).bind fun r4=>some (r4,ab)
theorem bj.P {F:Nat} {ap:ON} {ag:Nat} {aq:Cap} {ac:List (Int×Int×Int×Int×Int)} {ab:Int} {H:Hp} {R0:List Rs} (aY:ag = ac.length) (h0:Inn H R0 fun R=>ROs (ePair (eInt .i64) (ePair (eInt .i64) (ePair (eInt .i64) (ePair (eInt .i64) (eInt .i64))))) H R ⟨ap,ag,aq⟩ ac) {r:(List (Int×Int×Int×Int×Int))×Int} (hp:bj.p F ac ab = some r):∃ v H',bj.tw F ⟨ap,ag,aq⟩ ab H = some (v,H')∧bj.Q H R0 R0  r v H':=by
 obtain ⟨w0,aG⟩:=h0
 subst aY
 unfold bj.p at hp
 unfold bj.tw bj.twX
 have s0:=w0.rf
 refine new_k w0 fun H1 w1 s1=>?_
 refine new_k w1 fun H2 w2 s2=>?_
 refine new_k w2 fun H3 w3 s3=>?_
 refine bind_ex (ldSl_of (w3.ld (i:=2) rfl rfl)) ?_
 obtain ⟨r4,e4,hp⟩:=bind_some' hp
 refine call_ex (aO.P rfl ⟨w3,(aG.step (s1.trans (s2.trans s3)))⟩ e4) ?_
 rintro _ H5 ⟨o0a_5,o0n_5,o0c_5,o0k_5,rfl,rfl,w5,s5,f5_0⟩
 refine bind_ex rfl ?_
 refine st_k w5 (i:=1) rfl rfl rfl fun H6 w6 s6=>?_
 dsimp only [List.set] at w6 s6
 refine bind_ex (ldI_of (w6.ld (i:=3) rfl rfl)) ?_
 refine st_k w6 (i:=1) rfl rfl rfl fun H7 w7 s7=>?_
 dsimp only [List.set] at w7 s7
 refine bind_ex (ldSl_of (w7.ld (i:=1) rfl rfl)) ?_
 refine bind_ex (ldI_of (w7.ld (i:=1) rfl rfl)) ?_
 refine st_k w7 (i:=2) rfl rfl rfl fun H8 w8 s8=>?_
 dsimp only [List.set] at w8 s8
 refine st_k w8 (i:=2) rfl rfl rfl fun H9 w9 s9=>?_
 dsimp only [List.set] at w9 s9
 refine bind_ex (ldSl_of (w9.ld (i:=2) rfl rfl)) ?_
 refine bind_ex (ldI_of (w9.ld (i:=2) rfl rfl)) ?_
 obtain ⟨w10,s10⟩:=w9.pick' [0] 4 rfl rfl rfl
 dsimp only [pk,pks,nth,List.drop] at w10 s10
 obtain rfl:=Option.some.inj hp
 exact ⟨_,_,rfl,_,_,_,_,rfl,rfl,w10,(s0.trans (s1.trans (s2.trans (s3.trans (s5.trans (s6.trans (s7.trans (s8.trans (s9.trans s10))))))))),(f5_0.step (s6.trans (s7.trans (s8.trans (s9.trans s10)))))⟩
def bb.Q (H0:Hp) (Ri R0:List Rs)  (r:Bool) (v:AV) (H':Hp):Prop:=v = (.bool r)∧Out H0 Ri H' (R0) fun R=>True
def bb.p (F:Nat) (aa:Int) (ad:Int) (bK:Int):Option (Bool):=(bif (decide (aa ≥ ad)) then (some (decide (aa ≤ bK))) else (some false))
theorem bb.P {F:Nat} {aa ad bK:Int} {H:Hp} {R0:List Rs}  (h0:Inn H R0 fun R=>True) {r:Bool} (hp:bb.p F aa ad bK = some r):∃ v H',bb.tw F aa ad bK H = some (v,H')∧bb.Q H R0 R0  r v H':=by
 obtain ⟨w0,_⟩:=h0
 unfold bb.p at hp
 unfold bb.tw bb.twX
 have s0:=w0.rf
 refine bif_ex (fun hb=>?_) (fun hb=>?_)
 ·replace hp:=bif_t hb hp
  obtain rfl:=Option.some.inj hp
  exact ⟨_,_,rfl,rfl,w0,s0,trivial⟩
 ·replace hp:=bif_f hb hp
  obtain rfl:=Option.some.inj hp
  exact ⟨_,_,rfl,rfl,w0,s0,trivial⟩
def aV.Q (H0:Hp) (Ri R0:List Rs)  (r:Int) (v:AV) (H':Hp):Prop:=v = (.int .i64 r)∧Out H0 Ri H' (R0) fun R=>True
def aV.p (F:Nat) (aa:Int) (ab:Int) (ai:Int) (ay:Int) (aJ:Int):Option (Int):=(ix ([aa,ab,ai,ay]:List Int) aJ).bind fun n3=>some (gt ([aa,ab,ai,ay]:List Int) n3)
theorem aV.P {F:Nat} {aa ab ai ay aw aJ:Int} {H:Hp} {R0:List Rs}  (h0:Inn H R0 fun R=>True) {r:Int} (hp:aV.p F aa ab ai ay aJ = some r):∃ v H',aV.tw F aa ab ai ay aw aJ H = some (v,H')∧aV.Q H R0 R0  r v H':=by
 obtain ⟨w0,_⟩:=h0
 unfold aV.p at hp
 unfold aV.tw aV.twX
 have s0:=w0.rf
 refine new_k w0 fun H1 w1 s1=>?_
 refine bind_ex (ldI_of (w1.ld (i:=0) rfl rfl)) ?_
 refine bind_ex (ldI_of (w1.ld (i:=0) rfl rfl)) ?_
 refine bind_ex (ldI_of (w1.ld (i:=0) rfl rfl)) ?_
 refine bind_ex (ldI_of (w1.ld (i:=0) rfl rfl)) ?_
 refine newS_k (eInt .i64) w1 (n:=4) (l:=([aa,ab,ai,ay]:List Int)) rfl (CR.cons1 rfl (CR.cons1 rfl (CR.cons1 rfl (CR.cons1 rfl CR.empty)))) rfl fun H2 w2 s2 c2=>?_
 obtain ⟨n3,g3,hp⟩:=bind_some' hp
 obtain ⟨p3,q3,i3,h3,j3⟩:=W.ixo (E:=(eInt .i64)) w2 (i:=0) rfl rfl c2 g3
 refine bind_ex i3 ?_
 have h3:_ = [_]:=h3
 subst h3
 refine bind_ex (ldI_of (j3 0 _ rfl)) ?_
 obtain ⟨w4,s4⟩:=w2.pick' [] 2 rfl rfl rfl
 dsimp only [pk,pks,nth,List.drop] at w4 s4
 obtain rfl:=Option.some.inj hp
 exact ⟨_,_,rfl,rfl,w4,(s0.trans (s1.trans (s2.trans s4))),trivial⟩
def aW.Q (H0:Hp) (Ri R0:List Rs)  (r:Bool) (v:AV) (H':Hp):Prop:=v = (.bool r)∧Out H0 Ri H' (R0) fun R=>True
def aW.p (F:Nat) (aw:Int) (aJ:Int):Option (Bool):=(bif (aJ == 0) then (some true) else ((bif (aJ == 3) then ((bif (aw == 1) then (some true) else ((bif (aJ == 1) then (some (aw == (-1))) else (some false))))) else ((bif (aJ == 1) then (some (aw == (-1))) else (some false))))))
theorem aW.P {F:Nat} {aa ab ai ay aw aJ:Int} {H:Hp} {R0:List Rs}  (h0:Inn H R0 fun R=>True) {r:Bool} (hp:aW.p F aw aJ = some r):∃ v H',aW.tw F aa ab ai ay aw aJ H = some (v,H')∧aW.Q H R0 R0  r v H':=by
 obtain ⟨w0,_⟩:=h0
 unfold aW.p at hp
 unfold aW.tw aW.twX
 have s0:=w0.rf
 refine new_k w0 fun H1 w1 s1=>?_
 refine bif_ex (fun hb=>?_) (fun hb=>?_)
 ·replace hp:=bif_t hb hp
  obtain ⟨w2,s2⟩:=w1.pick' [] 1 rfl rfl rfl
  dsimp only [pk,pks,nth,List.drop] at w2 s2
  obtain rfl:=Option.some.inj hp
  exact ⟨_,_,rfl,rfl,w2,(s0.trans (s1.trans s2)),trivial⟩
 ·replace hp:=bif_f hb hp
  refine bif_ex (fun hb=>?_) (fun hb=>?_)
  ·replace hp:=bif_t hb hp
   refine bind_ex (ldI_of (w1.ld (i:=0) rfl rfl)) ?_
   refine bif_ex (fun hb=>?_) (fun hb=>?_)
   ·replace hp:=bif_t hb hp
    obtain ⟨w3,s3⟩:=w1.pick' [] 1 rfl rfl rfl
    dsimp only [pk,pks,nth,List.drop] at w3 s3
    obtain rfl:=Option.some.inj hp
    exact ⟨_,_,rfl,rfl,w3,(s0.trans (s1.trans s3)),trivial⟩
   ·replace hp:=bif_f hb hp
    refine bif_ex (fun hb=>?_) (fun hb=>?_)
    ·replace hp:=bif_t hb hp
     refine bind_ex (ldI_of (w1.ld (i:=0) rfl rfl)) ?_
     obtain ⟨w4,s4⟩:=w1.pick' [] 1 rfl rfl rfl
     dsimp only [pk,pks,nth,List.drop] at w4 s4
     obtain rfl:=Option.some.inj hp
     exact ⟨_,_,rfl,rfl,w4,(s0.trans (s1.trans s4)),trivial⟩
    ·replace hp:=bif_f hb hp
     obtain ⟨w5,s5⟩:=w1.pick' [] 1 rfl rfl rfl
     dsimp only [pk,pks,nth,List.drop] at w5 s5
     obtain rfl:=Option.some.inj hp
     exact ⟨_,_,rfl,rfl,w5,(s0.trans (s1.trans s5)),trivial⟩
  ·replace hp:=bif_f hb hp
   refine bif_ex (fun hb=>?_) (fun hb=>?_)
   ·replace hp:=bif_t hb hp
    refine bind_ex (ldI_of (w1.ld (i:=0) rfl rfl)) ?_
    obtain ⟨w6,s6⟩:=w1.pick' [] 1 rfl rfl rfl
    dsimp only [pk,pks,nth,List.drop] at w6 s6
    obtain rfl:=Option.some.inj hp
    exact ⟨_,_,rfl,rfl,w6,(s0.trans (s1.trans s6)),trivial⟩
   ·replace hp:=bif_f hb hp
    obtain ⟨w7,s7⟩:=w1.pick' [] 1 rfl rfl rfl
    dsimp only [pk,pks,nth,List.drop] at w7 s7
    obtain rfl:=Option.some.inj hp
    exact ⟨_,_,rfl,rfl,w7,(s0.trans (s1.trans s7)),trivial⟩
def ao.Q (H0:Hp) (Ri R0:List Rs)  (r:Bool) (v:AV) (H':Hp):Prop:=v = (.bool r)∧Out H0 Ri H' (R0) fun R=>True
def ao.S61 (H0:Hp) (Ri R0:List Rs)  (C:Nat→Nat→Int→Sl→Sl→Int→Hp→OA) (pC:List (Int×Int×Int×Int×Int)→Int→List Bool→List Bool→Int→Option (Bool)):Prop:=∀ {h_ ia nH:ON} {g_ bY ho kz:Nat} {ib ic nI:Cap} {cp:List (Int×Int×Int×Int×Int)} {jl cg dC:Int} {ek iI:List Bool} {ie nJ:List AV},∀ {H:Hp},g_ = cp.length→ho = ek.length→kz = iI.length→(Out H0 Ri H (Rs.blk bY [.sl ⟨h_,g_,ib⟩,.int .i64 jl] :: Rs.own ⟨ia,ho,ic⟩ eBool.z ie :: Rs.own ⟨nH,kz,nI⟩ eBool.z nJ :: R0) fun R=>ROs (ePair (eInt .i64) (ePair (eInt .i64) (ePair (eInt .i64) (ePair (eInt .i64) (eInt .i64))))) H R ⟨h_,g_,ib⟩ cp∧CR eBool H R ie ek∧CR eBool H R nJ iI)→∀ {r:Bool},pC cp cg ek iI dC = some r→∃ v H',C bY 0 cg ⟨ia,ho,ic⟩ ⟨nH,kz,nI⟩ dC H = some (v,H')∧ao.Q H0 Ri R0  r v H'
def ao.S3927 (H0:Hp) (Ri R0:List Rs)  (C:Nat→Nat→Int→Sl→Sl→Int→Nat→Nat→Int→Hp→OA) (pC:List (Int×Int×Int×Int×Int)→Int→List Bool→List Bool→Int→Int→Int→Int→Int→Int→Int→Option (Bool)):Prop:=∀ {nK nL nM:ON} {kA dB kB kC cM:Nat} {nN nO nP:Cap} {ig:List (Int×Int×Int×Int×Int)} {rz cI ci iJ iK iL iM iN cY:Int} {gn gp:List Bool} {nQ nR:List AV},∀ {H:Hp},kA = ig.length→kB = gn.length→kC = gp.length→(Out H0 Ri H (Rs.blk dB [.sl ⟨nK,kA,nN⟩,.int .i64 rz] :: Rs.own ⟨nL,kB,nO⟩ eBool.z nQ :: Rs.own ⟨nM,kC,nP⟩ eBool.z nR :: Rs.blk cM [.int .i64 iJ,.int .i64 iK,.int .i64 iL,.int .i64 iM,.int .i64 iN] :: R0) fun R=>ROs (ePair (eInt .i64) (ePair (eInt .i64) (ePair (eInt .i64) (ePair (eInt .i64) (eInt .i64))))) H R ⟨nK,kA,nN⟩ ig∧CR eBool H R nQ gn∧CR eBool H R nR gp)→∀ {r:Bool},pC ig cI gn gp ci iJ iK iL iM iN cY = some r→∃ v H',C dB 0 cI ⟨nL,kB,nO⟩ ⟨nM,kC,nP⟩ ci cM 0 cY H = some (v,H')∧ao.Q H0 Ri R0  r v H'
def ao.pl3927 (F:Nat) (aH:List (Int×Int×Int×Int×Int)→Int→List Bool→List Bool→Int→Option (Bool)):Nat→List (Int×Int×Int×Int×Int)→Int→List Bool→List Bool→Int→Int→Int→Int→Int→Int→Int→Option (Bool)
 | 0,_,_,_,_,_,_,_,_,_,_,_=>none
 | k + 1,ig,cI,gn,gp,ci,iJ,iK,iL,iM,iN,cY=>(bif (decide (cY < 4)) then ((aV.p F iJ iK iL iM cY).bind fun r1=>(bb.p F r1 0 (IntKind.i64.wrap (cI - 1))).bind fun r3=>(bif (!r3) then (some false) else ((aW.p F iN cY).bind fun r6=>(bif r6 then ((ix gn r1).bind fun n8=>(bif (gt gn n8) then (some false) else ((ix gn r1).bind fun n10=>(some (gn.set n10 true)).bind fun l11=>ao.pl3927 F aH k ig cI l11 gp ci iJ iK iL iM iN (IntKind.i64.wrap (cY + 1))))) else ((ix gp r1).bind fun n13=>(bif (gt gp n13) then (some false) else ((ix gp r1).bind fun n15=>(some (gp.set n15 true)).bind fun l16=>ao.pl3927 F aH k ig cI gn l16 ci iJ iK iL iM iN (IntKind.i64.wrap (cY + 1))))))))) else (aH ig cI gn gp (IntKind.i64.wrap (ci + 1))))
termination_by structural n=>n
theorem ao.l3927_P {F:Nat} {H0:Hp} {Ri R0:List Rs}  {C61_:Nat→Nat→Int→Sl→Sl→Int→Hp→OA} {aH:List (Int×Int×Int×Int×Int)→Int→List Bool→List Bool→Int→Option (Bool)} (hC61:ao.S61 H0 Ri R0  C61_ aH):∀ k,ao.S3927 H0 Ri R0  (ao.l3927 F (aV.tw F) (bb.tw F) (aW.tw F) C61_ k) (ao.pl3927 F aH k):=by
 intro k
 induction k with
 | zero=>
  intro nK nL nM kA dB kB kC cM nN nO nP ig rz cI ci iJ iK iL iM iN cY gn gp nQ nR H tQ tR tS h0 r hp
  exact nomatch (show (none:Option (Bool)) = some r from hp)
 | succ k ih=>
  intro nK nL nM kA dB kB kC cM nN nO nP ig rz cI ci iJ iK iL iM iN cY gn gp nQ nR H tQ tR tS h0 r hp
  obtain ⟨w0,s0,rA,kD,kE⟩:=h0
  subst tQ
  subst tR
  subst tS
  unfold ao.pl3927 at hp
  unfold ao.l3927
  refine bif_ex (fun hb=>?_) (fun hb=>?_)
  ·replace hp:=bif_t hb hp
   refine bind_ex (ldI_of (w0.ld (i:=3) rfl rfl)) ?_
   refine bind_ex (ldI_of (w0.ld (i:=3) rfl rfl)) ?_
   refine bind_ex (ldI_of (w0.ld (i:=3) rfl rfl)) ?_
   refine bind_ex (ldI_of (w0.ld (i:=3) rfl rfl)) ?_
   refine bind_ex (ldI_of (w0.ld (i:=3) rfl rfl)) ?_
   obtain ⟨r1,e1,hp⟩:=bind_some' hp
   refine call_ex (aV.P ⟨w0,trivial⟩ e1) ?_
   rintro _ H2 ⟨rfl,w2,s2,_⟩
   refine bind_ex rfl ?_
   obtain ⟨r3,e3,hp⟩:=bind_some' hp
   refine call_ex (bb.P ⟨w2,trivial⟩ e3) ?_
   rintro _ H4 ⟨rfl,w4,s4,_⟩
   refine bind_ex rfl ?_
   refine bif_ex (fun hb=>?_) (fun hb=>?_)
   ·replace hp:=bif_t hb hp
    obtain ⟨w5,s5⟩:=w4.pick' [] 4 rfl rfl rfl
    dsimp only [pk,pks,nth,List.drop] at w5 s5
    obtain rfl:=Option.some.inj hp
    exact ⟨_,_,rfl,rfl,w5,(s0.trans (s2.trans (s4.trans s5))),trivial⟩
   ·replace hp:=bif_f hb hp
    refine bind_ex (ldI_of (w4.ld (i:=3) rfl rfl)) ?_
    refine bind_ex (ldI_of (w4.ld (i:=3) rfl rfl)) ?_
    refine bind_ex (ldI_of (w4.ld (i:=3) rfl rfl)) ?_
    refine bind_ex (ldI_of (w4.ld (i:=3) rfl rfl)) ?_
    refine bind_ex (ldI_of (w4.ld (i:=3) rfl rfl)) ?_
    obtain ⟨r6,e6,hp⟩:=bind_some' hp
    refine call_ex (aW.P ⟨w4,trivial⟩ e6) ?_
    rintro _ H7 ⟨rfl,w7,s7,_⟩
    refine bind_ex rfl ?_
    refine bif_ex (fun hb=>?_) (fun hb=>?_)
    ·replace hp:=bif_t hb hp
     obtain ⟨n8,g8,hp⟩:=bind_some' hp
     obtain ⟨p8,q8,i8,h8,j8⟩:=W.ixo (E:=eBool) w7 (i:=1) rfl rfl (kD.step (s2.trans (s4.trans s7))) g8
     refine bind_ex i8 ?_
     have h8:_ = [_]:=h8
     subst h8
     refine bind_ex (ldB_of (j8 0 _ rfl)) ?_
     refine bif_ex (fun hb=>?_) (fun hb=>?_)
     ·replace hp:=bif_t hb hp
      obtain ⟨w9,s9⟩:=w7.pick' [] 4 rfl rfl rfl
      dsimp only [pk,pks,nth,List.drop] at w9 s9
      obtain rfl:=Option.some.inj hp
      exact ⟨_,_,rfl,rfl,w9,(s0.trans (s2.trans (s4.trans (s7.trans s9)))),trivial⟩
     ·replace hp:=bif_f hb hp
      obtain ⟨n10,g10,hp⟩:=bind_some' hp
      obtain ⟨p10,q10,i10,h10,j10⟩:=W.ixo (E:=eBool) w7 (i:=1) rfl rfl (kD.step (s2.trans (s4.trans s7))) g10
      refine bind_ex i10 ?_
      obtain ⟨l11,e11,hp⟩:=bind_some' hp
      refine sto_k eBool w7 (i:=1) (j:=0) (p:=p10) rfl rfl (kD.step (s2.trans (s4.trans s7))) g10 i10 e11 rfl rfl (fun _ h=>by have h:_ = [_]:=h; subst h; exact rfl) fun H12 k12 w12 s12 c12=>?_
      dsimp only [List.set] at w12 s12 c12
      exact ih rfl ((st_len e11).symm) rfl ⟨w12,(s0.trans (s2.trans (s4.trans (s7.trans s12)))),(rA.step (s2.trans (s4.trans (s7.trans s12)))),c12,(kE.step (s2.trans (s4.trans (s7.trans s12))))⟩ hp
    ·replace hp:=bif_f hb hp
     obtain ⟨n13,g13,hp⟩:=bind_some' hp
     obtain ⟨p13,q13,i13,h13,j13⟩:=W.ixo (E:=eBool) w7 (i:=2) rfl rfl (kE.step (s2.trans (s4.trans s7))) g13
     refine bind_ex i13 ?_
     have h13:_ = [_]:=h13
     subst h13
     refine bind_ex (ldB_of (j13 0 _ rfl)) ?_
     refine bif_ex (fun hb=>?_) (fun hb=>?_)
     ·replace hp:=bif_t hb hp
      obtain ⟨w14,s14⟩:=w7.pick' [] 4 rfl rfl rfl
      dsimp only [pk,pks,nth,List.drop] at w14 s14
      obtain rfl:=Option.some.inj hp
      exact ⟨_,_,rfl,rfl,w14,(s0.trans (s2.trans (s4.trans (s7.trans s14)))),trivial⟩
     ·replace hp:=bif_f hb hp
      obtain ⟨n15,g15,hp⟩:=bind_some' hp
      obtain ⟨p15,q15,i15,h15,j15⟩:=W.ixo (E:=eBool) w7 (i:=2) rfl rfl (kE.step (s2.trans (s4.trans s7))) g15
      refine bind_ex i15 ?_
      obtain ⟨l16,e16,hp⟩:=bind_some' hp
      refine sto_k eBool w7 (i:=2) (j:=0) (p:=p15) rfl rfl (kE.step (s2.trans (s4.trans s7))) g15 i15 e16 rfl rfl (fun _ h=>by have h:_ = [_]:=h; subst h; exact rfl) fun H17 k17 w17 s17 c17=>?_
      dsimp only [List.set] at w17 s17 c17
      exact ih rfl rfl ((st_len e16).symm) ⟨w17,(s0.trans (s2.trans (s4.trans (s7.trans s17)))),(rA.step (s2.trans (s4.trans (s7.trans s17)))),(kD.step (s2.trans (s4.trans (s7.trans s17)))),c17⟩ hp
  ·replace hp:=bif_f hb hp
   obtain ⟨w18,s18⟩:=w0.pick' [0,1,2] 4 rfl rfl rfl
   dsimp only [pk,pks,nth,List.drop] at w18 s18
   exact hC61 rfl rfl rfl ⟨w18,(s0.trans s18),(rA.step s18),(kD.step s18),(kE.step s18)⟩ hp
def ao.pl61 (F:Nat) :Nat→List (Int×Int×Int×Int×Int)→Int→List Bool→List Bool→Int→Option (Bool)
 | 0,_,_,_,_,_=>none
 | k + 1,cp,cg,ek,iI,dC=>(bif (decide (dC < (cp.length:Int))) then ((ix cp dC).bind fun n1=>(bif (((gt cp n1).2.2.2.2) != 1) then ((bif (((gt cp n1).2.2.2.2) != (-1)) then (some false) else (ao.pl3927 F (ao.pl61 F k) F cp cg ek iI dC ((gt cp n1).1) ((gt cp n1).2.1) ((gt cp n1).2.2.1) ((gt cp n1).2.2.2.1) ((gt cp n1).2.2.2.2) 0))) else (ao.pl3927 F (ao.pl61 F k) F cp cg ek iI dC ((gt cp n1).1) ((gt cp n1).2.1) ((gt cp n1).2.2.1) ((gt cp n1).2.2.2.1) ((gt cp n1).2.2.2.2) 0))) else (some true))
termination_by structural n=>n
theorem ao.l61_P {F:Nat} {H0:Hp} {Ri R0:List Rs}  :∀ k,ao.S61 H0 Ri R0  (ao.l61 F (aV.tw F) (bb.tw F) (aW.tw F)  k) (ao.pl61 F  k):=by
 intro k
 induction k with
 | zero=>
  intro h_ ia nH g_ bY ho kz ib ic nI cp jl cg dC ek iI ie nJ H kF kG tT h0 r hp
  exact nomatch (show (none:Option (Bool)) = some r from hp)
 | succ k ih=>
  intro h_ ia nH g_ bY ho kz ib ic nI cp jl cg dC ek iI ie nJ H kF kG tT h0 r hp
  obtain ⟨w0,s0,kj,kk,tU⟩:=h0
  subst kF
  subst kG
  subst tT
  unfold ao.pl61 at hp
  unfold ao.l61
  refine bind_ex (ldSl_of (w0.ld (i:=0) rfl rfl)) ?_
  refine bif_ex (fun hb=>?_) (fun hb=>?_)
  ·replace hp:=bif_t hb hp
   refine bind_ex (ldSl_of (w0.ld (i:=0) rfl rfl)) ?_
   obtain ⟨n1,g1,hp⟩:=bind_some' hp
   obtain ⟨p1,q1,i1,h1,j1⟩:=ROs.ixr kj rfl g1
   refine bind_ex i1 ?_
   obtain ⟨_,_,rfl,rfl,_,_,rfl,rfl,_,_,rfl,rfl,_,_,rfl,rfl,rfl⟩:=h1
   refine bind_ex (ldI_of (j1 0 _ rfl)) ?_
   refine bind_ex (ldI_of (j1 1 _ rfl)) ?_
   refine bind_ex (ldI_of (j1 2 _ rfl)) ?_
   refine bind_ex (ldI_of (j1 3 _ rfl)) ?_
   refine bind_ex (ldI_of (j1 4 _ rfl)) ?_
   refine new_k w0 fun H2 w2 s2=>?_
   refine st_k w2 (i:=0) rfl rfl rfl fun H3 w3 s3=>?_
   dsimp only [List.set] at w3 s3
   refine st_k w3 (i:=0) rfl rfl rfl fun H4 w4 s4=>?_
   dsimp only [List.set] at w4 s4
   refine st_k w4 (i:=0) rfl rfl rfl fun H5 w5 s5=>?_
   dsimp only [List.set] at w5 s5
   refine st_k w5 (i:=0) rfl rfl rfl fun H6 w6 s6=>?_
   dsimp only [List.set] at w6 s6
   refine st_k w6 (i:=0) rfl rfl rfl fun H7 w7 s7=>?_
   dsimp only [List.set] at w7 s7
   refine bind_ex (ldI_of (w7.ld (i:=0) rfl rfl)) ?_
   refine bif_ex (fun hb=>?_) (fun hb=>?_)
   ·replace hp:=bif_t hb hp
    refine bind_ex (ldI_of (w7.ld (i:=0) rfl rfl)) ?_
    refine bif_ex (fun hb=>?_) (fun hb=>?_)
    ·replace hp:=bif_t hb hp
     obtain ⟨w8,s8⟩:=w7.pick' [] 4 rfl rfl rfl
     dsimp only [pk,pks,nth,List.drop] at w8 s8
     obtain rfl:=Option.some.inj hp
     exact ⟨_,_,rfl,rfl,w8,(s0.trans (s2.trans (s3.trans (s4.trans (s5.trans (s6.trans (s7.trans s8))))))),trivial⟩
    ·replace hp:=bif_f hb hp
     obtain ⟨w9,s9⟩:=w7.pick' [1,2,3,0] 4 rfl rfl rfl
     dsimp only [pk,pks,nth,List.drop] at w9 s9
     exact ao.l3927_P (@ih) F rfl rfl rfl ⟨w9,(s0.trans (s2.trans (s3.trans (s4.trans (s5.trans (s6.trans (s7.trans s9))))))),(kj.step (s2.trans (s3.trans (s4.trans (s5.trans (s6.trans (s7.trans s9))))))),(kk.step (s2.trans (s3.trans (s4.trans (s5.trans (s6.trans (s7.trans s9))))))),(tU.step (s2.trans (s3.trans (s4.trans (s5.trans (s6.trans (s7.trans s9)))))))⟩ hp
   ·replace hp:=bif_f hb hp
    obtain ⟨w10,s10⟩:=w7.pick' [1,2,3,0] 4 rfl rfl rfl
    dsimp only [pk,pks,nth,List.drop] at w10 s10
    exact ao.l3927_P (@ih) F rfl rfl rfl ⟨w10,(s0.trans (s2.trans (s3.trans (s4.trans (s5.trans (s6.trans (s7.trans s10))))))),(kj.step (s2.trans (s3.trans (s4.trans (s5.trans (s6.trans (s7.trans s10))))))),(kk.step (s2.trans (s3.trans (s4.trans (s5.trans (s6.trans (s7.trans s10))))))),(tU.step (s2.trans (s3.trans (s4.trans (s5.trans (s6.trans (s7.trans s10)))))))⟩ hp
  ·replace hp:=bif_f hb hp
   obtain ⟨w11,s11⟩:=w0.pick' [] 3 rfl rfl rfl
   dsimp only [pk,pks,nth,List.drop] at w11 s11
   obtain rfl:=Option.some.inj hp
   exact ⟨_,_,rfl,rfl,w11,(s0.trans s11),trivial⟩
def ao.p (F:Nat) (ac:List (Int×Int×Int×Int×Int)):Option (Bool):=(mkn (IntKind.i64.wrap (2 * (ac.length:Int))) false).bind fun l2=>(mkn (IntKind.i64.wrap (2 * (ac.length:Int))) false).bind fun l4=>ao.pl61 F F ac (IntKind.i64.wrap (2 * (ac.length:Int))) l2 l4 0
theorem ao.P {F:Nat} {ap:ON} {ag:Nat} {aq:Cap} {ac:List (Int×Int×Int×Int×Int)} {ab:Int} {H:Hp} {R0:List Rs} (aY:ag = ac.length) (h0:Inn H R0 fun R=>ROs (ePair (eInt .i64) (ePair (eInt .i64) (ePair (eInt .i64) (ePair (eInt .i64) (eInt .i64))))) H R ⟨ap,ag,aq⟩ ac) {r:Bool} (hp:ao.p F ac = some r):∃ v H',ao.tw F ⟨ap,ag,aq⟩ ab H = some (v,H')∧ao.Q H R0 R0  r v H':=by
 obtain ⟨w0,aG⟩:=h0
 subst aY
 unfold ao.p at hp
 unfold ao.tw ao.twX
 have s0:=w0.rf
 refine new_k w0 fun H1 w1 s1=>?_
 refine bind_ex (ldSl_of (w1.ld (i:=0) rfl rfl)) ?_
 obtain ⟨l2,e2,hp⟩:=bind_some' hp
 refine mk_k eBool false w1 rfl rfl rfl e2 fun H3 k3 w3 s3 c3=>?_
 obtain ⟨l4,e4,hp⟩:=bind_some' hp
 refine mk_k eBool false w3 rfl rfl rfl e4 fun H5 k5 w5 s5 c5=>?_
 obtain ⟨w6,s6⟩:=w5.pick' [2,1,0] 3 rfl rfl rfl
 dsimp only [pk,pks,nth,List.drop] at w6 s6
 exact ao.l61_P F rfl rfl rfl ⟨w6,(s0.trans (s1.trans (s3.trans (s5.trans s6)))),(aG.step (s1.trans (s3.trans (s5.trans s6)))),(c3.step (s5.trans s6)),(c5.step s6)⟩ hp
def ah.Q (H0:Hp) (Ri R0:List Rs)  (r:Int×Int) (v:AV) (H':Hp):Prop:=v = (.tup [(.int .i64 r.1),(.int .i64 r.2)])∧Out H0 Ri H' (R0) fun R=>True
def ah.S13 (H0:Hp) (Ri R0:List Rs)  (C:Int→Bool→Nat→Nat→Int→Hp→OA) (pC:Int→Bool→List (Int×Int×Int×Int×Int)→Int→Option (Int×Int)):Prop:=∀ {bP rB eJ:Int} {eI:Bool} {nS:ON} {kH cv:Nat} {nT:Cap} {iO:List (Int×Int×Int×Int×Int)},∀ {H:Hp},kH = iO.length→(Out H0 Ri H (Rs.blk cv [.sl ⟨nS,kH,nT⟩,.int .i64 rB] :: R0) fun R=>ROs (ePair (eInt .i64) (ePair (eInt .i64) (ePair (eInt .i64) (ePair (eInt .i64) (eInt .i64))))) H R ⟨nS,kH,nT⟩ iO)→∀ {r:Int×Int},pC bP eI iO eJ = some r→∃ v H',C bP eI cv 0 eJ H = some (v,H')∧ah.Q H0 Ri R0  r v H'
def ah.S213 (H0:Hp) (Ri R0:List Rs)  (C:Int→Bool→Nat→Nat→Int→Int→Hp→OA) (pC:Int→Bool→List (Int×Int×Int×Int×Int)→Int→Int→Option (Int×Int)):Prop:=∀ {cO rC cJ cP:Int} {cU:Bool} {nU:ON} {kI ea:Nat} {nV:Cap} {fm:List (Int×Int×Int×Int×Int)},∀ {H:Hp},kI = fm.length→(Out H0 Ri H (Rs.blk ea [.sl ⟨nU,kI,nV⟩,.int .i64 rC] :: R0) fun R=>ROs (ePair (eInt .i64) (ePair (eInt .i64) (ePair (eInt .i64) (ePair (eInt .i64) (eInt .i64))))) H R ⟨nU,kI,nV⟩ fm)→∀ {r:Int×Int},pC cO cU fm cJ cP = some r→∃ v H',C cO cU ea 0 cJ cP H = some (v,H')∧ah.Q H0 Ri R0  r v H'
def ah.pj3 (F:Nat) (fo:Int→Bool→List (Int×Int×Int×Int×Int)→Int→Option (Int×Int)) (iE:Int) (jA:Bool) (kJ:List (Int×Int×Int×Int×Int)) (jC:Int):Option (Int×Int):=fo iE jA kJ (IntKind.i64.wrap (jC + 1))
theorem ah.j3_P {F:Nat} {H0:Hp} {Ri R0:List Rs}  {C13_:Int→Bool→Nat→Nat→Int→Hp→OA} {fo:Int→Bool→List (Int×Int×Int×Int×Int)→Int→Option (Int×Int)} (hC13:ah.S13 H0 Ri R0  C13_ fo) {iE zt jC:Int} {jA:Bool} {tV:ON} {rD jB:Nat} {tW:Cap} {kJ:List (Int×Int×Int×Int×Int)} {H:Hp} (zu:rD = kJ.length) (h0:Out H0 Ri H (Rs.blk jB [.sl ⟨tV,rD,tW⟩,.int .i64 zt] :: R0) fun R=>ROs (ePair (eInt .i64) (ePair (eInt .i64) (ePair (eInt .i64) (ePair (eInt .i64) (eInt .i64))))) H R ⟨tV,rD,tW⟩ kJ) {r:Int×Int} (hp:ah.pj3 F fo iE jA kJ jC = some r):∃ v H',ah.j3 F (aV.tw F) (aW.tw F) C13_ iE jA jB 0 jC H = some (v,H')∧ah.Q H0 Ri R0  r v H':=by
 obtain ⟨w0,s0,zv⟩:=h0
 subst zu
 unfold ah.pj3 at hp
 unfold ah.j3
 exact hC13 rfl ⟨w0,s0,zv⟩ hp
def ah.pj4 (F:Nat) (fo:Int→Bool→List (Int×Int×Int×Int×Int)→Int→Option (Int×Int)) (jD:Int) (jE:Bool) (kK:List (Int×Int×Int×Int×Int)) (jF:Int):Option (Int×Int):=ah.pj3 F fo jD jE kK jF
theorem ah.j4_P {F:Nat} {H0:Hp} {Ri R0:List Rs}  {C13_:Int→Bool→Nat→Nat→Int→Hp→OA} {fo:Int→Bool→List (Int×Int×Int×Int×Int)→Int→Option (Int×Int)} (hC13:ah.S13 H0 Ri R0  C13_ fo) {jD zw jF:Int} {jE:Bool} {tX:ON} {rE nl:Nat} {tY:Cap} {kK:List (Int×Int×Int×Int×Int)} {H:Hp} (zx:rE = kK.length) (h0:Out H0 Ri H (Rs.blk nl [.sl ⟨tX,rE,tY⟩,.int .i64 zw] :: R0) fun R=>ROs (ePair (eInt .i64) (ePair (eInt .i64) (ePair (eInt .i64) (ePair (eInt .i64) (eInt .i64))))) H R ⟨tX,rE,tY⟩ kK) {r:Int×Int} (hp:ah.pj4 F fo jD jE kK jF = some r):∃ v H',ah.j4 F (aV.tw F) (aW.tw F) C13_ jD jE nl 0 jF H = some (v,H')∧ah.Q H0 Ri R0  r v H':=by
 obtain ⟨w0,s0,zy⟩:=h0
 subst zx
 unfold ah.pj4 at hp
 unfold ah.j4
 exact ah.j3_P (@hC13) rfl ⟨w0,s0,zy⟩ hp
def ah.pl213 (F:Nat) (fo:Int→Bool→List (Int×Int×Int×Int×Int)→Int→Option (Int×Int)):Nat→Int→Bool→List (Int×Int×Int×Int×Int)→Int→Int→Option (Int×Int)
 | 0,_,_,_,_,_=>none
 | k + 1,cO,cU,fm,cJ,cP=>(bif (decide (cP < 4)) then ((ix fm cJ).bind fun n1=>(aV.p F ((gt fm n1).1) ((gt fm n1).2.1) ((gt fm n1).2.2.1) ((gt fm n1).2.2.2.1) cP).bind fun r2=>(bif (r2 == cO) then ((ix fm cJ).bind fun n4=>(aW.p F ((gt fm n4).2.2.2.2) cP).bind fun r5=>(bif (r5 == cU) then (some (cJ,cP)) else (ah.pl213 F fo k cO cU fm cJ (IntKind.i64.wrap (cP + 1))))) else (ah.pl213 F fo k cO cU fm cJ (IntKind.i64.wrap (cP + 1))))) else (ah.pj4 F fo cO cU fm cJ))
termination_by structural n=>n
theorem ah.l213_P {F:Nat} {H0:Hp} {Ri R0:List Rs}  {C13_:Int→Bool→Nat→Nat→Int→Hp→OA} {fo:Int→Bool→List (Int×Int×Int×Int×Int)→Int→Option (Int×Int)} (hC13:ah.S13 H0 Ri R0  C13_ fo):∀ k,ah.S213 H0 Ri R0  (ah.l213 F (aV.tw F) (aW.tw F) C13_ k) (ah.pl213 F fo k):=by
 intro k
 induction k with
 | zero=>
  intro cO rC cJ cP cU nU kI ea nV fm H tZ h0 r hp
  exact nomatch (show (none:Option (Int×Int)) = some r from hp)
 | succ k ih=>
  intro cO rC cJ cP cU nU kI ea nV fm H tZ h0 r hp
  obtain ⟨w0,s0,kL⟩:=h0
  subst tZ
  unfold ah.pl213 at hp
  unfold ah.l213
  refine bif_ex (fun hb=>?_) (fun hb=>?_)
  ·replace hp:=bif_t hb hp
   refine bind_ex (ldSl_of (w0.ld (i:=0) rfl rfl)) ?_
   obtain ⟨n1,g1,hp⟩:=bind_some' hp
   obtain ⟨p1,q1,i1,h1,j1⟩:=ROs.ixr kL rfl g1
   refine bind_ex i1 ?_
   obtain ⟨_,_,rfl,rfl,_,_,rfl,rfl,_,_,rfl,rfl,_,_,rfl,rfl,rfl⟩:=h1
   refine bind_ex (ldI_of (j1 0 _ rfl)) ?_
   refine bind_ex (ldI_of (j1 1 _ rfl)) ?_
   refine bind_ex (ldI_of (j1 2 _ rfl)) ?_
   refine bind_ex (ldI_of (j1 3 _ rfl)) ?_
   refine bind_ex (ldI_of (j1 4 _ rfl)) ?_
   obtain ⟨r2,e2,hp⟩:=bind_some' hp
   refine call_ex (aV.P ⟨w0,trivial⟩ e2) ?_
   rintro _ H3 ⟨rfl,w3,s3,_⟩
   refine bind_ex rfl ?_
   refine bif_ex (fun hb=>?_) (fun hb=>?_)
   ·replace hp:=bif_t hb hp
    refine bind_ex (ldSl_of (w3.ld (i:=0) rfl rfl)) ?_
    obtain ⟨n4,g4,hp⟩:=bind_some' hp
    obtain ⟨p4,q4,i4,h4,j4⟩:=ROs.ixr (kL.step s3) rfl g4
    refine bind_ex i4 ?_
    obtain ⟨_,_,rfl,rfl,_,_,rfl,rfl,_,_,rfl,rfl,_,_,rfl,rfl,rfl⟩:=h4
    refine bind_ex (ldI_of (j4 0 _ rfl)) ?_
    refine bind_ex (ldI_of (j4 1 _ rfl)) ?_
    refine bind_ex (ldI_of (j4 2 _ rfl)) ?_
    refine bind_ex (ldI_of (j4 3 _ rfl)) ?_
    refine bind_ex (ldI_of (j4 4 _ rfl)) ?_
    obtain ⟨r5,e5,hp⟩:=bind_some' hp
    refine call_ex (aW.P ⟨w3,trivial⟩ e5) ?_
    rintro _ H6 ⟨rfl,w6,s6,_⟩
    refine bind_ex rfl ?_
    refine bif_ex (fun hb=>?_) (fun hb=>?_)
    ·replace hp:=bif_t hb hp
     obtain ⟨w7,s7⟩:=w6.pick' [] 1 rfl rfl rfl
     dsimp only [pk,pks,nth,List.drop] at w7 s7
     obtain rfl:=Option.some.inj hp
     exact ⟨_,_,rfl,rfl,w7,(s0.trans (s3.trans (s6.trans s7))),trivial⟩
    ·replace hp:=bif_f hb hp
     exact ih rfl ⟨w6,(s0.trans (s3.trans s6)),(kL.step (s3.trans s6))⟩ hp
   ·replace hp:=bif_f hb hp
    exact ih rfl ⟨w3,(s0.trans s3),(kL.step s3)⟩ hp
  ·replace hp:=bif_f hb hp
   exact ah.j4_P (@hC13) rfl ⟨w0,s0,kL⟩ hp
def ah.pl13 (F:Nat) :Nat→Int→Bool→List (Int×Int×Int×Int×Int)→Int→Option (Int×Int)
 | 0,_,_,_,_=>none
 | k + 1,bP,eI,iO,eJ=>(bif (decide (eJ < (iO.length:Int))) then (ah.pl213 F (ah.pl13 F k) F bP eI iO eJ 0) else (some ((-1),(-1))))
termination_by structural n=>n
theorem ah.l13_P {F:Nat} {H0:Hp} {Ri R0:List Rs}  :∀ k,ah.S13 H0 Ri R0  (ah.l13 F (aV.tw F) (aW.tw F)  k) (ah.pl13 F  k):=by
 intro k
 induction k with
 | zero=>
  intro bP rB eJ eI nS kH cv nT iO H t_ h0 r hp
  exact nomatch (show (none:Option (Int×Int)) = some r from hp)
 | succ k ih=>
  intro bP rB eJ eI nS kH cv nT iO H t_ h0 r hp
  obtain ⟨w0,s0,zz⟩:=h0
  subst t_
  unfold ah.pl13 at hp
  unfold ah.l13
  refine bind_ex (ldSl_of (w0.ld (i:=0) rfl rfl)) ?_
  refine bif_ex (fun hb=>?_) (fun hb=>?_)
  ·replace hp:=bif_t hb hp
   exact ah.l213_P (@ih) F rfl ⟨w0,s0,zz⟩ hp
  ·replace hp:=bif_f hb hp
   obtain ⟨w1,s1⟩:=w0.pick' [] 1 rfl rfl rfl
   dsimp only [pk,pks,nth,List.drop] at w1 s1
   obtain rfl:=Option.some.inj hp
   exact ⟨_,_,rfl,rfl,w1,(s0.trans s1),trivial⟩
def ah.p (F:Nat) (ac:List (Int×Int×Int×Int×Int)) (au:Int) (eX:Bool):Option (Int×Int):=ah.pl13 F F au eX ac 0
theorem ah.P {F:Nat} {ap:ON} {ag:Nat} {aq:Cap} {ac:List (Int×Int×Int×Int×Int)} {ab au:Int} {eX:Bool} {H:Hp} {R0:List Rs} (aY:ag = ac.length) (h0:Inn H R0 fun R=>ROs (ePair (eInt .i64) (ePair (eInt .i64) (ePair (eInt .i64) (ePair (eInt .i64) (eInt .i64))))) H R ⟨ap,ag,aq⟩ ac) {r:Int×Int} (hp:ah.p F ac au eX = some r):∃ v H',ah.tw F ⟨ap,ag,aq⟩ ab au eX H = some (v,H')∧ah.Q H R0 R0  r v H':=by
 obtain ⟨w0,aG⟩:=h0
 subst aY
 unfold ah.p at hp
 unfold ah.tw ah.twX
 have s0:=w0.rf
 refine new_k w0 fun H1 w1 s1=>?_
 exact ah.l13_P F rfl ⟨w1,(s0.trans s1),(aG.step s1)⟩ hp
def bm.Q (H0:Hp) (Ri R0:List Rs)  (r:Int) (v:AV) (H':Hp):Prop:=v = (.int .i64 r)∧Out H0 Ri H' (R0) fun R=>True
def bm.p (F:Nat) (ac:List (Int×Int×Int×Int×Int)) (au:Int):Option (Int):=(ix ac (IntKind.i64.wrap (Int.tdiv au 4))).bind fun n2=>(aV.p F ((gt ac n2).1) ((gt ac n2).2.1) ((gt ac n2).2.2.1) ((gt ac n2).2.2.2.1) (Int.tmod (IntKind.i64.wrap ((Int.tmod au 4) + 1)) 4)).bind fun r9=>(aW.p F ((gt ac n2).2.2.2.2) (Int.tmod (IntKind.i64.wrap ((Int.tmod au 4) + 1)) 4)).bind fun r12=>(ah.p F ac r9 (!r12)).bind fun r15=>some (IntKind.i64.wrap ((IntKind.i64.wrap (4 * r15.1)) + r15.2))
theorem bm.P {F:Nat} {ap:ON} {ag:Nat} {aq:Cap} {ac:List (Int×Int×Int×Int×Int)} {ab au:Int} {H:Hp} {R0:List Rs} (aY:ag = ac.length) (h0:Inn H R0 fun R=>ROs (ePair (eInt .i64) (ePair (eInt .i64) (ePair (eInt .i64) (ePair (eInt .i64) (eInt .i64))))) H R ⟨ap,ag,aq⟩ ac) {r:Int} (hp:bm.p F ac au = some r):∃ v H',bm.tw F ⟨ap,ag,aq⟩ ab au H = some (v,H')∧bm.Q H R0 R0  r v H':=by
 obtain ⟨w0,aG⟩:=h0
 subst aY
 unfold bm.p at hp
 unfold bm.tw bm.twX
 have s0:=w0.rf
 refine new_k w0 fun H1 w1 s1=>?_
 refine bind_ex (ldSl_of (w1.ld (i:=0) rfl rfl)) ?_
 obtain ⟨n2,g2,hp⟩:=bind_some' hp
 obtain ⟨p2,q2,i2,h2,j2⟩:=ROs.ixr (aG.step s1) rfl g2
 refine bind_ex i2 ?_
 obtain ⟨_,_,rfl,rfl,_,_,rfl,rfl,_,_,rfl,rfl,_,_,rfl,rfl,rfl⟩:=h2
 refine bind_ex (ldI_of (j2 0 _ rfl)) ?_
 refine bind_ex (ldI_of (j2 1 _ rfl)) ?_
 refine bind_ex (ldI_of (j2 2 _ rfl)) ?_
 refine bind_ex (ldI_of (j2 3 _ rfl)) ?_
 refine bind_ex (ldI_of (j2 4 _ rfl)) ?_
 refine new_k w1 fun H3 w3 s3=>?_
 refine st_k w3 (i:=0) rfl rfl rfl fun H4 w4 s4=>?_
 dsimp only [List.set] at w4 s4
 refine st_k w4 (i:=0) rfl rfl rfl fun H5 w5 s5=>?_
 dsimp only [List.set] at w5 s5
 refine st_k w5 (i:=0) rfl rfl rfl fun H6 w6 s6=>?_
 dsimp only [List.set] at w6 s6
 refine st_k w6 (i:=0) rfl rfl rfl fun H7 w7 s7=>?_
 dsimp only [List.set] at w7 s7
 refine st_k w7 (i:=0) rfl rfl rfl fun H8 w8 s8=>?_
 dsimp only [List.set] at w8 s8
 refine bind_ex (ldSl_of (w8.ld (i:=1) rfl rfl)) ?_
 refine bind_ex (ldI_of (w8.ld (i:=1) rfl rfl)) ?_
 refine bind_ex (ldI_of (w8.ld (i:=0) rfl rfl)) ?_
 refine bind_ex (ldI_of (w8.ld (i:=0) rfl rfl)) ?_
 refine bind_ex (ldI_of (w8.ld (i:=0) rfl rfl)) ?_
 refine bind_ex (ldI_of (w8.ld (i:=0) rfl rfl)) ?_
 refine bind_ex (ldI_of (w8.ld (i:=0) rfl rfl)) ?_
 obtain ⟨r9,e9,hp⟩:=bind_some' hp
 refine call_ex (aV.P ⟨w8,trivial⟩ e9) ?_
 rintro _ H10 ⟨rfl,w10,s10,_⟩
 refine bind_ex rfl ?_
 refine ifs_ex (W.cons_of (Rn:=[]) w8 w10 s10) ?_
 refine bind_ex (ldI_of (w10.ld (i:=0) rfl rfl)) ?_
 refine bind_ex (ldI_of (w10.ld (i:=0) rfl rfl)) ?_
 refine bind_ex (ldI_of (w10.ld (i:=0) rfl rfl)) ?_
 refine bind_ex (ldI_of (w10.ld (i:=0) rfl rfl)) ?_
 refine bind_ex (ldI_of (w10.ld (i:=0) rfl rfl)) ?_
 obtain ⟨r12,e12,hp⟩:=bind_some' hp
 refine call_ex (aW.P ⟨w10,trivial⟩ e12) ?_
 rintro _ H13 ⟨rfl,w13,s13,_⟩
 refine bind_ex rfl ?_
 refine ifs_ex (W.cons_of (Rn:=[]) w10 w13 s13) ?_
 obtain ⟨r15,e15,hp⟩:=bind_some' hp
 refine call_ex (ah.P rfl ⟨w13,(aG.step (s1.trans (s3.trans (s4.trans (s5.trans (s6.trans (s7.trans (s8.trans (s10.trans s13)))))))))⟩ e15) ?_
 rintro _ H16 ⟨rfl,w16,s16,_⟩
 refine bind_ex rfl ?_
 refine bind_ex rfl ?_
 refine bind_ex rfl ?_
 refine bind_ex rfl ?_
 refine bind_ex rfl ?_
 obtain ⟨w17,s17⟩:=w16.pick' [] 2 rfl rfl rfl
 dsimp only [pk,pks,nth,List.drop] at w17 s17
 obtain rfl:=Option.some.inj hp
 exact ⟨_,_,rfl,rfl,w17,(s0.trans (s1.trans (s3.trans (s4.trans (s5.trans (s6.trans (s7.trans (s8.trans (s10.trans (s13.trans (s16.trans s17))))))))))),trivial⟩
def ak.Q (H0:Hp) (Ri R0:List Rs)  (r:List (List Int)) (v:AV) (H':Hp):Prop:=∃ o0a:ON,∃ o0n:Nat,∃ o0c:Cap,∃ o0k:List AV,v = (.sl ⟨o0a,o0n,o0c⟩)∧o0n = (r).length∧Out H0 Ri H' (Rs.own ⟨o0a,o0n,o0c⟩ (eSl (eInt .i64)).z o0k :: R0) fun R=>CR (eSl (eInt .i64)) H' R o0k (r)
def ak.S61 (H0:Hp) (Ri R0:List Rs)  (C:Nat→Nat→Sl→Sl→Int→Hp→OA) (pC:List (Int×Int×Int×Int×Int)→List (List Int)→List Bool→Int→Option (List (List Int))):Prop:=∀ {h_ nW ia:ON} {g_ bY kM ho:Nat} {ib nX ic:Cap} {cp:List (Int×Int×Int×Int×Int)} {jl cd:Int} {ii:List (List Int)} {nY ie:List AV} {ek:List Bool},∀ {H:Hp},g_ = cp.length→kM = ii.length→ho = ek.length→(Out H0 Ri H (Rs.blk bY [.sl ⟨h_,g_,ib⟩,.int .i64 jl] :: Rs.own ⟨nW,kM,nX⟩ (eSl (eInt .i64)).z nY :: Rs.own ⟨ia,ho,ic⟩ eBool.z ie :: R0) fun R=>ROs (ePair (eInt .i64) (ePair (eInt .i64) (ePair (eInt .i64) (ePair (eInt .i64) (eInt .i64))))) H R ⟨h_,g_,ib⟩ cp∧CR (eSl (eInt .i64)) H R nY ii∧CR eBool H R ie ek)→∀ {r:List (List Int)},pC cp ii ek cd = some r→∃ v H',C bY 0 ⟨nW,kM,nX⟩ ⟨ia,ho,ic⟩ cd H = some (v,H')∧ak.Q H0 Ri R0  r v H'
def ak.pj4 (F:Nat) (aH:List (Int×Int×Int×Int×Int)→List (List Int)→List Bool→Int→Option (List (List Int))) (kN:List (Int×Int×Int×Int×Int)) (kO:List (List Int)) (kP:List Bool) (jG:Int):Option (List (List Int)):=aH kN kO kP (IntKind.i64.wrap (jG + 1))
theorem ak.j4_P {F:Nat} {H0:Hp} {Ri R0:List Rs}  {C61_:Nat→Nat→Sl→Sl→Int→Hp→OA} {aH:List (Int×Int×Int×Int×Int)→List (List Int)→List Bool→Int→Option (List (List Int))} (hC61:ak.S61 H0 Ri R0  C61_ aH) {ua ub uc:ON} {rF nm rG rH:Nat} {ud ue ug:Cap} {kN:List (Int×Int×Int×Int×Int)} {zA jG:Int} {kO:List (List Int)} {uh ui:List AV} {kP:List Bool} {H:Hp} (zB:rF = kN.length) (zC:rG = kO.length) (zD:rH = kP.length) (h0:Out H0 Ri H (Rs.blk nm [.sl ⟨ua,rF,ud⟩,.int .i64 zA] :: Rs.own ⟨ub,rG,ue⟩ (eSl (eInt .i64)).z uh :: Rs.own ⟨uc,rH,ug⟩ eBool.z ui :: R0) fun R=>ROs (ePair (eInt .i64) (ePair (eInt .i64) (ePair (eInt .i64) (ePair (eInt .i64) (eInt .i64))))) H R ⟨ua,rF,ud⟩ kN∧CR (eSl (eInt .i64)) H R uh kO∧CR eBool H R ui kP) {r:List (List Int)} (hp:ak.pj4 F aH kN kO kP jG = some r):∃ v H',ak.j4 F (bm.tw F) C61_ nm 0 ⟨ub,rG,ue⟩ ⟨uc,rH,ug⟩ jG H = some (v,H')∧ak.Q H0 Ri R0  r v H':=by
 obtain ⟨w0,s0,zE,zF,zG⟩:=h0
 subst zB
 subst zC
 subst zD
 unfold ak.pj4 at hp
 unfold ak.j4
 exact hC61 rfl rfl rfl ⟨w0,s0,zE,zF,zG⟩ hp
def ak.S7853 (H0:Hp) (Ri R0:List Rs)  (C:Nat→Nat→Sl→Sl→Int→Sl→Int→Hp→OA) (pC:List (Int×Int×Int×Int×Int)→List (List Int)→List Bool→Int→List Int→Int→Option (List (List Int))):Prop:=∀ {nZ n_ oa ob:ON} {kQ dD kR kS kT:Nat} {oc od oe og:Cap} {ij:List (Int×Int×Int×Int×Int)} {rI eb cZ:Int} {iQ:List (List Int)} {oh oi oj:List AV} {hB:List Bool} {iS:List Int},∀ {H:Hp},kQ = ij.length→kR = iQ.length→kS = hB.length→kT = iS.length→(Out H0 Ri H (Rs.blk dD [.sl ⟨nZ,kQ,oc⟩,.int .i64 rI] :: Rs.own ⟨n_,kR,od⟩ (eSl (eInt .i64)).z oh :: Rs.own ⟨oa,kS,oe⟩ eBool.z oi :: Rs.own ⟨ob,kT,og⟩ (eInt .i64).z oj :: R0) fun R=>ROs (ePair (eInt .i64) (ePair (eInt .i64) (ePair (eInt .i64) (ePair (eInt .i64) (eInt .i64))))) H R ⟨nZ,kQ,oc⟩ ij∧CR (eSl (eInt .i64)) H R oh iQ∧CR eBool H R oi hB∧CR (eInt .i64) H R oj iS)→∀ {r:List (List Int)},pC ij iQ hB eb iS cZ = some r→∃ v H',C dD 0 ⟨n_,kR,od⟩ ⟨oa,kS,oe⟩ eb ⟨ob,kT,og⟩ cZ H = some (v,H')∧ak.Q H0 Ri R0  r v H'
def ak.pj5 (F:Nat) (aH:List (Int×Int×Int×Int×Int)→List (List Int)→List Bool→Int→Option (List (List Int))) (kU:List (Int×Int×Int×Int×Int)) (kV:List (List Int)) (kW:List Bool) (jH:Int):Option (List (List Int)):=aH kU kV kW (IntKind.i64.wrap (jH + 1))
theorem ak.j5_P {F:Nat} {H0:Hp} {Ri R0:List Rs}  {C61_:Nat→Nat→Sl→Sl→Int→Hp→OA} {aH:List (Int×Int×Int×Int×Int)→List (List Int)→List Bool→Int→Option (List (List Int))} (hC61:ak.S61 H0 Ri R0  C61_ aH) {uj uk ul:ON} {rJ nn rK rL:Nat} {um un uo:Cap} {kU:List (Int×Int×Int×Int×Int)} {zH jH:Int} {kV:List (List Int)} {uq ur:List AV} {kW:List Bool} {H:Hp} (zI:rJ = kU.length) (zJ:rK = kV.length) (zK:rL = kW.length) (h0:Out H0 Ri H (Rs.blk nn [.sl ⟨uj,rJ,um⟩,.int .i64 zH] :: Rs.own ⟨uk,rK,un⟩ (eSl (eInt .i64)).z uq :: Rs.own ⟨ul,rL,uo⟩ eBool.z ur :: R0) fun R=>ROs (ePair (eInt .i64) (ePair (eInt .i64) (ePair (eInt .i64) (ePair (eInt .i64) (eInt .i64))))) H R ⟨uj,rJ,um⟩ kU∧CR (eSl (eInt .i64)) H R uq kV∧CR eBool H R ur kW) {r:List (List Int)} (hp:ak.pj5 F aH kU kV kW jH = some r):∃ v H',ak.j5 F (bm.tw F) C61_ nn 0 ⟨uk,rK,un⟩ ⟨ul,rL,uo⟩ jH H = some (v,H')∧ak.Q H0 Ri R0  r v H':=by
 obtain ⟨w0,s0,zL,zM,zN⟩:=h0
 subst zI
 subst zJ
 subst zK
 unfold ak.pj5 at hp
 unfold ak.j5
 exact hC61 rfl rfl rfl ⟨w0,s0,zL,zM,zN⟩ hp
def ak.pj6 (F:Nat) (aH:List (Int×Int×Int×Int×Int)→List (List Int)→List Bool→Int→Option (List (List Int))) (kX:List (Int×Int×Int×Int×Int)) (kY:List (List Int)) (kZ:List Bool) (jI:Int) (jm:List Int):Option (List (List Int)):=(apn kY ([jm]:List (List Int))).bind fun l3=>ak.pj5 F aH kX l3 kZ jI
theorem ak.j6_P {F:Nat} {H0:Hp} {Ri R0:List Rs}  {C61_:Nat→Nat→Sl→Sl→Int→Hp→OA} {aH:List (Int×Int×Int×Int×Int)→List (List Int)→List Bool→Int→Option (List (List Int))} (hC61:ak.S61 H0 Ri R0  C61_ aH) {ut uu uv uw:ON} {rM np rN rO rP:Nat} {ux uy uz uA:Cap} {kX:List (Int×Int×Int×Int×Int)} {zO jI:Int} {kY:List (List Int)} {uB uC uD:List AV} {kZ:List Bool} {jm:List Int} {H:Hp} (zP:rM = kX.length) (zQ:rN = kY.length) (zR:rO = kZ.length) (zS:rP = jm.length) (h0:Out H0 Ri H (Rs.blk np [.sl ⟨ut,rM,ux⟩,.int .i64 zO] :: Rs.own ⟨uu,rN,uy⟩ (eSl (eInt .i64)).z uB :: Rs.own ⟨uv,rO,uz⟩ eBool.z uC :: Rs.own ⟨uw,rP,uA⟩ (eInt .i64).z uD :: R0) fun R=>ROs (ePair (eInt .i64) (ePair (eInt .i64) (ePair (eInt .i64) (ePair (eInt .i64) (eInt .i64))))) H R ⟨ut,rM,ux⟩ kX∧CR (eSl (eInt .i64)) H R uB kY∧CR eBool H R uC kZ∧CR (eInt .i64) H R uD jm) {r:List (List Int)} (hp:ak.pj6 F aH kX kY kZ jI jm = some r):∃ v H',ak.j6 F (bm.tw F) C61_ np 0 ⟨uu,rN,uy⟩ ⟨uv,rO,uz⟩ jI ⟨uw,rP,uA⟩ H = some (v,H')∧ak.Q H0 Ri R0  r v H':=by
 obtain ⟨w0,s0,zT,zU,zV,zW⟩:=h0
 subst zP
 subst zQ
 subst zR
 subst zS
 unfold ak.pj6 at hp
 unfold ak.j6
 obtain ⟨w1,s1,f1⟩:=w0.frz (i:=3) (eInt .i64) rfl zW
 dsimp only [List.eraseIdx] at w1 s1 f1
 refine newS_k (eSl (eInt .i64)) w1 (n:=1) (l:=([jm]:List (List Int))) rfl (CR.cons1 ⟨_,rfl,f1⟩ CR.empty) rfl fun H2 w2 s2 c2=>?_
 refine bind_ex (w2.rowo (i:=0) rfl) ?_
 obtain ⟨l3,e3,hp⟩:=bind_some' hp
 refine app_k (eSl (eInt .i64)) w2 (i:=2) rfl rfl (zU.step (s1.trans s2)) c2 (show 1 = List.length ([jm]:List (List Int)) from rfl) rfl e3 fun a4 d4 H4 w4 s4 c4 x4=>?_
 dsimp only [List.set] at w4 s4 c4
 obtain ⟨w5,s5⟩:=w4.pick' [1,2,3] 4 rfl rfl rfl
 dsimp only [pk,pks,nth,List.drop] at w5 s5
 exact ak.j5_P (@hC61) rfl rfl rfl ⟨w5,(s0.trans (s1.trans (s2.trans (s4.trans s5)))),(zT.step (s1.trans (s2.trans (s4.trans s5)))),(c4.step s5),(zV.step (s1.trans (s2.trans (s4.trans s5))))⟩ hp
def ak.pl7853 (F:Nat) (aH:List (Int×Int×Int×Int×Int)→List (List Int)→List Bool→Int→Option (List (List Int))):Nat→List (Int×Int×Int×Int×Int)→List (List Int)→List Bool→Int→List Int→Int→Option (List (List Int))
 | 0,_,_,_,_,_,_=>none
 | k + 1,ij,iQ,hB,eb,iS,cZ=>(ix hB cZ).bind fun n1=>(bif (!(gt hB n1)) then ((ix hB cZ).bind fun n2=>(some (hB.set n2 true)).bind fun l3=>(apn iS ([cZ]:List Int)).bind fun l6=>(bm.p F ij cZ).bind fun r8=>ak.pl7853 F aH k ij iQ l3 eb l6 r8) else (ak.pj6 F aH ij iQ hB eb iS))
termination_by structural n=>n
theorem ak.l7853_P {F:Nat} {H0:Hp} {Ri R0:List Rs}  {C61_:Nat→Nat→Sl→Sl→Int→Hp→OA} {aH:List (Int×Int×Int×Int×Int)→List (List Int)→List Bool→Int→Option (List (List Int))} (hC61:ak.S61 H0 Ri R0  C61_ aH):∀ k,ak.S7853 H0 Ri R0  (ak.l7853 F (bm.tw F) C61_ k) (ak.pl7853 F aH k):=by
 intro k
 induction k with
 | zero=>
  intro nZ n_ oa ob kQ dD kR kS kT oc od oe og ij rI eb cZ iQ oh oi oj hB iS H uE uF uG uH h0 r hp
  exact nomatch (show (none:Option (List (List Int))) = some r from hp)
 | succ k ih=>
  intro nZ n_ oa ob kQ dD kR kS kT oc od oe og ij rI eb cZ iQ oh oi oj hB iS H uE uF uG uH h0 r hp
  obtain ⟨w0,s0,rQ,uI,ol,uJ⟩:=h0
  subst uE
  subst uF
  subst uG
  subst uH
  unfold ak.pl7853 at hp
  unfold ak.l7853
  obtain ⟨n1,g1,hp⟩:=bind_some' hp
  obtain ⟨p1,q1,i1,h1,j1⟩:=W.ixo (E:=eBool) w0 (i:=2) rfl rfl ol g1
  refine bind_ex i1 ?_
  have h1:_ = [_]:=h1
  subst h1
  refine bind_ex (ldB_of (j1 0 _ rfl)) ?_
  refine bif_ex (fun hb=>?_) (fun hb=>?_)
  ·replace hp:=bif_t hb hp
   obtain ⟨n2,g2,hp⟩:=bind_some' hp
   obtain ⟨p2,q2,i2,h2,j2⟩:=W.ixo (E:=eBool) w0 (i:=2) rfl rfl ol g2
   refine bind_ex i2 ?_
   obtain ⟨l3,e3,hp⟩:=bind_some' hp
   refine sto_k eBool w0 (i:=2) (j:=0) (p:=p2) rfl rfl ol g2 i2 e3 rfl rfl (fun _ h=>by have h:_ = [_]:=h; subst h; exact rfl) fun H4 k4 w4 s4 c4=>?_
   dsimp only [List.set] at w4 s4 c4
   refine newS_k (eInt .i64) w4 (n:=1) (l:=([cZ]:List Int)) rfl (CR.cons1 rfl CR.empty) rfl fun H5 w5 s5 c5=>?_
   refine bind_ex (w5.rowo (i:=0) rfl) ?_
   obtain ⟨l6,e6,hp⟩:=bind_some' hp
   refine app_k (eInt .i64) w5 (i:=4) rfl rfl (uJ.step (s4.trans s5)) c5 (show 1 = List.length ([cZ]:List Int) from rfl) rfl e6 fun a7 d7 H7 w7 s7 c7 x7=>?_
   dsimp only [List.set] at w7 s7 c7
   refine bind_ex (ldSl_of (w7.ld (i:=1) rfl rfl)) ?_
   refine bind_ex (ldI_of (w7.ld (i:=1) rfl rfl)) ?_
   obtain ⟨r8,e8,hp⟩:=bind_some' hp
   refine call_ex (bm.P rfl ⟨w7,(rQ.step (s4.trans (s5.trans s7)))⟩ e8) ?_
   rintro _ H9 ⟨rfl,w9,s9,_⟩
   refine bind_ex rfl ?_
   obtain ⟨w10,s10⟩:=w9.pick' [1,2,3,4] 5 rfl rfl rfl
   dsimp only [pk,pks,nth,List.drop] at w10 s10
   exact ih rfl rfl ((st_len e3).symm) rfl ⟨w10,(s0.trans (s4.trans (s5.trans (s7.trans (s9.trans s10))))),(rQ.step (s4.trans (s5.trans (s7.trans (s9.trans s10))))),(uI.step (s4.trans (s5.trans (s7.trans (s9.trans s10))))),(c4.step (s5.trans (s7.trans (s9.trans s10)))),(c7.step (s9.trans s10))⟩ hp
  ·replace hp:=bif_f hb hp
   exact ak.j6_P (@hC61) rfl rfl rfl rfl ⟨w0,s0,rQ,uI,ol,uJ⟩ hp
def ak.pl61 (F:Nat) :Nat→List (Int×Int×Int×Int×Int)→List (List Int)→List Bool→Int→Option (List (List Int))
 | 0,_,_,_,_=>none
 | k + 1,cp,ii,ek,cd=>(bif (decide (cd < (ek.length:Int))) then ((ix ek cd).bind fun n1=>(bif (gt ek n1) then (ak.pj4 F (ak.pl61 F k) cp ii ek cd) else (ak.pl7853 F (ak.pl61 F k) F cp ii ek cd ([]:List Int) cd))) else (some ii))
termination_by structural n=>n
theorem ak.l61_P {F:Nat} {H0:Hp} {Ri R0:List Rs}  :∀ k,ak.S61 H0 Ri R0  (ak.l61 F (bm.tw F)  k) (ak.pl61 F  k):=by
 intro k
 induction k with
 | zero=>
  intro h_ nW ia g_ bY kM ho ib nX ic cp jl cd ii nY ie ek H kF uK kG h0 r hp
  exact nomatch (show (none:Option (List (List Int))) = some r from hp)
 | succ k ih=>
  intro h_ nW ia g_ bY kM ho ib nX ic cp jl cd ii nY ie ek H kF uK kG h0 r hp
  obtain ⟨w0,s0,kj,rR,kk⟩:=h0
  subst kF
  subst uK
  subst kG
  unfold ak.pl61 at hp
  unfold ak.l61
  refine bif_ex (fun hb=>?_) (fun hb=>?_)
  ·replace hp:=bif_t hb hp
   obtain ⟨n1,g1,hp⟩:=bind_some' hp
   obtain ⟨p1,q1,i1,h1,j1⟩:=W.ixo (E:=eBool) w0 (i:=2) rfl rfl kk g1
   refine bind_ex i1 ?_
   have h1:_ = [_]:=h1
   subst h1
   refine bind_ex (ldB_of (j1 0 _ rfl)) ?_
   refine bif_ex (fun hb=>?_) (fun hb=>?_)
   ·replace hp:=bif_t hb hp
    exact ak.j4_P (@ih) rfl rfl rfl ⟨w0,s0,kj,rR,kk⟩ hp
   ·replace hp:=bif_f hb hp
    refine newS_k (eInt .i64) w0 (n:=0) (l:=([]:List Int)) rfl CR.empty rfl fun H2 w2 s2 c2=>?_
    obtain ⟨w3,s3⟩:=w2.pick' [1,2,3,0] 4 rfl rfl rfl
    dsimp only [pk,pks,nth,List.drop] at w3 s3
    exact ak.l7853_P (@ih) F rfl rfl rfl (show 0 = List.length ([]:List Int) from rfl) ⟨w3,(s0.trans (s2.trans s3)),(kj.step (s2.trans s3)),(rR.step (s2.trans s3)),(kk.step (s2.trans s3)),(c2.step s3)⟩ hp
  ·replace hp:=bif_f hb hp
   obtain ⟨w4,s4⟩:=w0.pick' [1] 3 rfl rfl rfl
   dsimp only [pk,pks,nth,List.drop] at w4 s4
   obtain rfl:=Option.some.inj hp
   exact ⟨_,_,rfl,_,_,_,_,rfl,rfl,w4,(s0.trans s4),(rR.step s4)⟩
def ak.p (F:Nat) (ac:List (Int×Int×Int×Int×Int)):Option (List (List Int)):=(mkn (IntKind.i64.wrap (4 * (ac.length:Int))) false).bind fun l3=>ak.pl61 F F ac ([]:List (List Int)) l3 0
theorem ak.P {F:Nat} {ap:ON} {ag:Nat} {aq:Cap} {ac:List (Int×Int×Int×Int×Int)} {ab:Int} {H:Hp} {R0:List Rs} (aY:ag = ac.length) (h0:Inn H R0 fun R=>ROs (ePair (eInt .i64) (ePair (eInt .i64) (ePair (eInt .i64) (ePair (eInt .i64) (eInt .i64))))) H R ⟨ap,ag,aq⟩ ac) {r:List (List Int)} (hp:ak.p F ac = some r):∃ v H',ak.tw F ⟨ap,ag,aq⟩ ab H = some (v,H')∧ak.Q H R0 R0  r v H':=by
 obtain ⟨w0,aG⟩:=h0
 subst aY
 unfold ak.p at hp
 unfold ak.tw ak.twX
 have s0:=w0.rf
 refine new_k w0 fun H1 w1 s1=>?_
 refine newS_k (eSl (eInt .i64)) w1 (n:=0) (l:=([]:List (List Int))) rfl CR.empty rfl fun H2 w2 s2 c2=>?_
 refine bind_ex (ldSl_of (w2.ld (i:=1) rfl rfl)) ?_
 obtain ⟨l3,e3,hp⟩:=bind_some' hp
 refine mk_k eBool false w2 rfl rfl rfl e3 fun H4 k4 w4 s4 c4=>?_
 obtain ⟨w5,s5⟩:=w4.pick' [2,1,0] 3 rfl rfl rfl
 dsimp only [pk,pks,nth,List.drop] at w5 s5
 exact ak.l61_P F rfl (show 0 = List.length ([]:List (List Int)) from rfl) rfl ⟨w5,(s0.trans (s1.trans (s2.trans (s4.trans s5)))),(aG.step (s1.trans (s2.trans (s4.trans s5)))),(c2.step (s4.trans s5)),(c4.step s5)⟩ hp
def af.Q (H0:Hp) (Ri R0:List Rs)  (r:List Int) (v:AV) (H':Hp):Prop:=∃ o0a:ON,∃ o0n:Nat,∃ o0c:Cap,∃ o0k:List AV,v = (.sl ⟨o0a,o0n,o0c⟩)∧o0n = (r).length∧Out H0 Ri H' (Rs.own ⟨o0a,o0n,o0c⟩ (eInt .i64).z o0k :: R0) fun R=>CR (eInt .i64) H' R o0k (r)
def af.S29 (H0:Hp) (Ri R0:List Rs)  (C:Nat→Nat→Sl→Int→Hp→OA) (pC:List (Int×Int×Int×Int×Int)→List Int→Int→Option (List Int)):Prop:=∀ {ik om:ON} {hC ca k_:Nat} {il oo:Cap} {eG:List (Int×Int×Int×Int×Int)} {hG cj:Int} {iT:List Int} {oq:List AV},∀ {H:Hp},hC = eG.length→k_ = iT.length→(Out H0 Ri H (Rs.blk ca [.sl ⟨ik,hC,il⟩,.int .i64 hG] :: Rs.own ⟨om,k_,oo⟩ (eInt .i64).z oq :: R0) fun R=>ROs (ePair (eInt .i64) (ePair (eInt .i64) (ePair (eInt .i64) (ePair (eInt .i64) (eInt .i64))))) H R ⟨ik,hC,il⟩ eG∧CR (eInt .i64) H R oq iT)→∀ {r:List Int},pC eG iT cj = some r→∃ v H',C ca 0 ⟨om,k_,oo⟩ cj H = some (v,H')∧af.Q H0 Ri R0  r v H'
def af.S61 (H0:Hp) (Ri R0:List Rs)  (C:Nat→Nat→Sl→Int→Hp→OA) (pC:List (Int×Int×Int×Int×Int)→List Int→Int→Option (List Int)):Prop:=∀ {im ot:ON} {hH bV lf:Nat} {io ou:Cap} {dW:List (Int×Int×Int×Int×Int)} {jn bM:Int} {gq:List Int} {ov:List AV},∀ {H:Hp},hH = dW.length→lf = gq.length→(Out H0 Ri H (Rs.blk bV [.sl ⟨im,hH,io⟩,.int .i64 jn] :: Rs.own ⟨ot,lf,ou⟩ (eInt .i64).z ov :: R0) fun R=>ROs (ePair (eInt .i64) (ePair (eInt .i64) (ePair (eInt .i64) (ePair (eInt .i64) (eInt .i64))))) H R ⟨im,hH,io⟩ dW∧CR (eInt .i64) H R ov gq)→∀ {r:List Int},pC dW gq bM = some r→∃ v H',C bV 0 ⟨ot,lf,ou⟩ bM H = some (v,H')∧af.Q H0 Ri R0  r v H'
def af.S7855 (H0:Hp) (Ri R0:List Rs)  (C:Nat→Nat→Sl→Int→Int→Int→Int→Hp→OA) (pC:List (Int×Int×Int×Int×Int)→List Int→Int→Int→Int→Int→Option (List Int)):Prop:=∀ {ox oy:ON} {lg dY li:Nat} {oz oA:Cap} {ip:List (Int×Int×Int×Int×Int)} {rS dl cw cK c_:Int} {fX:List Int} {oB:List AV},∀ {H:Hp},lg = ip.length→li = fX.length→(Out H0 Ri H (Rs.blk dY [.sl ⟨ox,lg,oz⟩,.int .i64 rS] :: Rs.own ⟨oy,li,oA⟩ (eInt .i64).z oB :: R0) fun R=>ROs (ePair (eInt .i64) (ePair (eInt .i64) (ePair (eInt .i64) (ePair (eInt .i64) (eInt .i64))))) H R ⟨ox,lg,oz⟩ ip∧CR (eInt .i64) H R oB fX)→∀ {r:List Int},pC ip fX dl cw cK c_ = some r→∃ v H',C dY 0 ⟨oy,li,oA⟩ dl cw cK c_ H = some (v,H')∧af.Q H0 Ri R0  r v H'
def af.pj8 (F:Nat) (oC:List (Int×Int×Int×Int×Int)→List Int→Int→Int→Int→Int→Option (List Int)) (lj:List (Int×Int×Int×Int×Int)) (lk:List Int) (jL:Int) (jM:Int) (jN:Int) (jO:Int):Option (List Int):=oC lj lk jL jM jN (IntKind.i64.wrap (jO + 1))
theorem af.j8_P {F:Nat} {H0:Hp} {Ri R0:List Rs}  {C7855_:Nat→Nat→Sl→Int→Int→Int→Int→Hp→OA} {oC:List (Int×Int×Int×Int×Int)→List Int→Int→Int→Int→Int→Option (List Int)} (hC7855:af.S7855 H0 Ri R0  C7855_ oC) {uL uM:ON} {rT ns rU:Nat} {uN uO:Cap} {lj:List (Int×Int×Int×Int×Int)} {zX jL jM jN jO:Int} {lk:List Int} {uP:List AV} {H:Hp} (zY:rT = lj.length) (zZ:rU = lk.length) (h0:Out H0 Ri H (Rs.blk ns [.sl ⟨uL,rT,uN⟩,.int .i64 zX] :: Rs.own ⟨uM,rU,uO⟩ (eInt .i64).z uP :: R0) fun R=>ROs (ePair (eInt .i64) (ePair (eInt .i64) (ePair (eInt .i64) (ePair (eInt .i64) (eInt .i64))))) H R ⟨uL,rT,uN⟩ lj∧CR (eInt .i64) H R uP lk) {r:List Int} (hp:af.pj8 F oC lj lk jL jM jN jO = some r):∃ v H',af.j8 F (ah.tw F) C7855_ ns 0 ⟨uM,rU,uO⟩ jL jM jN jO H = some (v,H')∧af.Q H0 Ri R0  r v H':=by
 obtain ⟨w0,s0,z_,Aa⟩:=h0
 subst zY
 subst zZ
 unfold af.pj8 at hp
 unfold af.j8
 exact hC7855 rfl rfl ⟨w0,s0,z_,Aa⟩ hp
def af.pj6 (F:Nat) (aH:List (Int×Int×Int×Int×Int)→List Int→Int→Option (List Int)) (ll:List (Int×Int×Int×Int×Int)) (lm:List Int) (jJ:Int):Option (List Int):=aH ll lm (IntKind.i64.wrap (jJ + 1))
theorem af.j6_P {F:Nat} {H0:Hp} {Ri R0:List Rs}  {C61_:Nat→Nat→Sl→Int→Hp→OA} {aH:List (Int×Int×Int×Int×Int)→List Int→Int→Option (List Int)} (hC61:af.S61 H0 Ri R0  C61_ aH) {uQ uR:ON} {rV nq rW:Nat} {uS uT:Cap} {ll:List (Int×Int×Int×Int×Int)} {Ab jJ:Int} {lm:List Int} {uU:List AV} {H:Hp} (Ac:rV = ll.length) (Ad:rW = lm.length) (h0:Out H0 Ri H (Rs.blk nq [.sl ⟨uQ,rV,uS⟩,.int .i64 Ab] :: Rs.own ⟨uR,rW,uT⟩ (eInt .i64).z uU :: R0) fun R=>ROs (ePair (eInt .i64) (ePair (eInt .i64) (ePair (eInt .i64) (ePair (eInt .i64) (eInt .i64))))) H R ⟨uQ,rV,uS⟩ ll∧CR (eInt .i64) H R uU lm) {r:List Int} (hp:af.pj6 F aH ll lm jJ = some r):∃ v H',af.j6 F (ah.tw F) C61_ nq 0 ⟨uR,rW,uT⟩ jJ H = some (v,H')∧af.Q H0 Ri R0  r v H':=by
 obtain ⟨w0,s0,Ae,Af⟩:=h0
 subst Ac
 subst Ad
 unfold af.pj6 at hp
 unfold af.j6
 exact hC61 rfl rfl ⟨w0,s0,Ae,Af⟩ hp
def af.pj7 (F:Nat) (aH:List (Int×Int×Int×Int×Int)→List Int→Int→Option (List Int)) (ln:List (Int×Int×Int×Int×Int)) (lp:List Int) (iF:Int):Option (List Int):=af.pj6 F aH ln lp iF
theorem af.j7_P {F:Nat} {H0:Hp} {Ri R0:List Rs}  {C61_:Nat→Nat→Sl→Int→Hp→OA} {aH:List (Int×Int×Int×Int×Int)→List Int→Int→Option (List Int)} (hC61:af.S61 H0 Ri R0  C61_ aH) {uV uW:ON} {rX nr rY:Nat} {uX uY:Cap} {ln:List (Int×Int×Int×Int×Int)} {Ag iF:Int} {lp:List Int} {uZ:List AV} {H:Hp} (Ah:rX = ln.length) (Ai:rY = lp.length) (h0:Out H0 Ri H (Rs.blk nr [.sl ⟨uV,rX,uX⟩,.int .i64 Ag] :: Rs.own ⟨uW,rY,uY⟩ (eInt .i64).z uZ :: R0) fun R=>ROs (ePair (eInt .i64) (ePair (eInt .i64) (ePair (eInt .i64) (ePair (eInt .i64) (eInt .i64))))) H R ⟨uV,rX,uX⟩ ln∧CR (eInt .i64) H R uZ lp) {r:List Int} (hp:af.pj7 F aH ln lp iF = some r):∃ v H',af.j7 F (ah.tw F) C61_ nr 0 ⟨uW,rY,uY⟩ iF H = some (v,H')∧af.Q H0 Ri R0  r v H':=by
 obtain ⟨w0,s0,Aj,Ak⟩:=h0
 subst Ah
 subst Ai
 unfold af.pj7 at hp
 unfold af.j7
 exact af.j6_P (@hC61) rfl rfl ⟨w0,s0,Aj,Ak⟩ hp
def af.pl7855 (F:Nat) (aH:List (Int×Int×Int×Int×Int)→List Int→Int→Option (List Int)):Nat→List (Int×Int×Int×Int×Int)→List Int→Int→Int→Int→Int→Option (List Int)
 | 0,_,_,_,_,_,_=>none
 | k + 1,ip,fX,dl,cw,cK,c_=>(bif (decide (c_ < (fX.length:Int))) then ((ix fX c_).bind fun n1=>(bif ((gt fX n1) == (if cK > cw then cK else cw)) then ((ix fX c_).bind fun n2=>(some (fX.set n2 (if cK < cw then cK else cw))).bind fun l3=>af.pj8 F (af.pl7855 F aH k) ip l3 dl cw cK c_) else (af.pj8 F (af.pl7855 F aH k) ip fX dl cw cK c_))) else (af.pj7 F aH ip fX dl))
termination_by structural n=>n
theorem af.l7855_P {F:Nat} {H0:Hp} {Ri R0:List Rs}  {C61_:Nat→Nat→Sl→Int→Hp→OA} {aH:List (Int×Int×Int×Int×Int)→List Int→Int→Option (List Int)} (hC61:af.S61 H0 Ri R0  C61_ aH):∀ k,af.S7855 H0 Ri R0  (af.l7855 F (ah.tw F) C61_ k) (af.pl7855 F aH k):=by
 intro k
 induction k with
 | zero=>
  intro ox oy lg dY li oz oA ip rS dl cw cK c_ fX oB H u_ vd h0 r hp
  exact nomatch (show (none:Option (List Int)) = some r from hp)
 | succ k ih=>
  intro ox oy lg dY li oz oA ip rS dl cw cK c_ fX oB H u_ vd h0 r hp
  obtain ⟨w0,s0,rZ,lq⟩:=h0
  subst u_
  subst vd
  unfold af.pl7855 at hp
  unfold af.l7855
  refine bif_ex (fun hb=>?_) (fun hb=>?_)
  ·replace hp:=bif_t hb hp
   obtain ⟨n1,g1,hp⟩:=bind_some' hp
   obtain ⟨p1,q1,i1,h1,j1⟩:=W.ixo (E:=(eInt .i64)) w0 (i:=1) rfl rfl lq g1
   refine bind_ex i1 ?_
   have h1:_ = [_]:=h1
   subst h1
   refine bind_ex (ldI_of (j1 0 _ rfl)) ?_
   refine bif_ex (fun hb=>?_) (fun hb=>?_)
   ·replace hp:=bif_t hb hp
    obtain ⟨n2,g2,hp⟩:=bind_some' hp
    obtain ⟨p2,q2,i2,h2,j2⟩:=W.ixo (E:=(eInt .i64)) w0 (i:=1) rfl rfl lq g2
    refine bind_ex i2 ?_
    obtain ⟨l3,e3,hp⟩:=bind_some' hp
    refine sto_k (eInt .i64) w0 (i:=1) (j:=0) (p:=p2) rfl rfl lq g2 i2 e3 rfl rfl (fun _ h=>by have h:_ = [_]:=h; subst h; exact rfl) fun H4 k4 w4 s4 c4=>?_
    dsimp only [List.set] at w4 s4 c4
    exact af.j8_P (@ih) rfl ((st_len e3).symm) ⟨w4,(s0.trans s4),(rZ.step s4),c4⟩ hp
   ·replace hp:=bif_f hb hp
    exact af.j8_P (@ih) rfl rfl ⟨w0,s0,rZ,lq⟩ hp
  ·replace hp:=bif_f hb hp
   exact af.j7_P (@hC61) rfl rfl ⟨w0,s0,rZ,lq⟩ hp
def af.pl61 (F:Nat) :Nat→List (Int×Int×Int×Int×Int)→List Int→Int→Option (List Int)
 | 0,_,_,_=>none
 | k + 1,dW,gq,bM=>(bif (decide (bM < (IntKind.i64.wrap (2 * (dW.length:Int))))) then ((ah.p F dW bM true).bind fun r1=>(ah.p F dW bM false).bind fun r3=>(ix gq r1.1).bind fun n5=>(ix gq r3.1).bind fun n6=>af.pl7855 F (af.pl61 F k) F dW gq bM (gt gq n5) (gt gq n6) 0) else (some gq))
termination_by structural n=>n
theorem af.l61_P {F:Nat} {H0:Hp} {Ri R0:List Rs}  :∀ k,af.S61 H0 Ri R0  (af.l61 F (ah.tw F)  k) (af.pl61 F  k):=by
 intro k
 induction k with
 | zero=>
  intro im ot hH bV lf io ou dW jn bM gq ov H lr ve h0 r hp
  exact nomatch (show (none:Option (List Int)) = some r from hp)
 | succ k ih=>
  intro im ot hH bV lf io ou dW jn bM gq ov H lr ve h0 r hp
  obtain ⟨w0,s0,kl,oD⟩:=h0
  subst lr
  subst ve
  unfold af.pl61 at hp
  unfold af.l61
  refine bind_ex (ldSl_of (w0.ld (i:=0) rfl rfl)) ?_
  refine bif_ex (fun hb=>?_) (fun hb=>?_)
  ·replace hp:=bif_t hb hp
   refine bind_ex (ldSl_of (w0.ld (i:=0) rfl rfl)) ?_
   refine bind_ex (ldI_of (w0.ld (i:=0) rfl rfl)) ?_
   obtain ⟨r1,e1,hp⟩:=bind_some' hp
   refine call_ex (ah.P rfl ⟨w0,kl⟩ e1) ?_
   rintro _ H2 ⟨rfl,w2,s2,_⟩
   refine bind_ex rfl ?_
   refine bind_ex rfl ?_
   refine bind_ex rfl ?_
   refine bind_ex rfl ?_
   refine bind_ex rfl ?_
   refine bind_ex (ldSl_of (w2.ld (i:=0) rfl rfl)) ?_
   refine bind_ex (ldI_of (w2.ld (i:=0) rfl rfl)) ?_
   obtain ⟨r3,e3,hp⟩:=bind_some' hp
   refine call_ex (ah.P rfl ⟨w2,(kl.step s2)⟩ e3) ?_
   rintro _ H4 ⟨rfl,w4,s4,_⟩
   refine bind_ex rfl ?_
   refine bind_ex rfl ?_
   refine bind_ex rfl ?_
   refine bind_ex rfl ?_
   refine bind_ex rfl ?_
   obtain ⟨n5,g5,hp⟩:=bind_some' hp
   obtain ⟨p5,q5,i5,h5,j5⟩:=W.ixo (E:=(eInt .i64)) w4 (i:=1) rfl rfl (oD.step (s2.trans s4)) g5
   refine bind_ex i5 ?_
   have h5:_ = [_]:=h5
   subst h5
   refine bind_ex (ldI_of (j5 0 _ rfl)) ?_
   obtain ⟨n6,g6,hp⟩:=bind_some' hp
   obtain ⟨p6,q6,i6,h6,j6⟩:=W.ixo (E:=(eInt .i64)) w4 (i:=1) rfl rfl (oD.step (s2.trans s4)) g6
   refine bind_ex i6 ?_
   have h6:_ = [_]:=h6
   subst h6
   refine bind_ex (ldI_of (j6 0 _ rfl)) ?_
   exact af.l7855_P (@ih) F rfl rfl ⟨w4,(s0.trans (s2.trans s4)),(kl.step (s2.trans s4)),(oD.step (s2.trans s4))⟩ hp
  ·replace hp:=bif_f hb hp
   obtain ⟨w7,s7⟩:=w0.pick' [1] 2 rfl rfl rfl
   dsimp only [pk,pks,nth,List.drop] at w7 s7
   obtain rfl:=Option.some.inj hp
   exact ⟨_,_,rfl,_,_,_,_,rfl,rfl,w7,(s0.trans s7),(oD.step s7)⟩
def af.pj9 (F:Nat)  (lu:List (Int×Int×Int×Int×Int)) (lv:List Int):Option (List Int):=af.pl61 F F lu lv 0
theorem af.j9_P {F:Nat} {H0:Hp} {Ri R0:List Rs}   {vf vg:ON} {r_ nt sa:Nat} {vh vi:Cap} {lu:List (Int×Int×Int×Int×Int)} {Al:Int} {lv:List Int} {vj:List AV} {H:Hp} (Am:r_ = lu.length) (An:sa = lv.length) (h0:Out H0 Ri H (Rs.blk nt [.sl ⟨vf,r_,vh⟩,.int .i64 Al] :: Rs.own ⟨vg,sa,vi⟩ (eInt .i64).z vj :: R0) fun R=>ROs (ePair (eInt .i64) (ePair (eInt .i64) (ePair (eInt .i64) (ePair (eInt .i64) (eInt .i64))))) H R ⟨vf,r_,vh⟩ lu∧CR (eInt .i64) H R vj lv) {r:List Int} (hp:af.pj9 F  lu lv = some r):∃ v H',af.j9 F (ah.tw F)  nt 0 ⟨vg,sa,vi⟩ H = some (v,H')∧af.Q H0 Ri R0  r v H':=by
 obtain ⟨w0,s0,Ao,Ap⟩:=h0
 subst Am
 subst An
 unfold af.pj9 at hp
 unfold af.j9
 exact af.l61_P F rfl rfl ⟨w0,s0,Ao,Ap⟩ hp
def af.pl29 (F:Nat) :Nat→List (Int×Int×Int×Int×Int)→List Int→Int→Option (List Int)
 | 0,_,_,_=>none
 | k + 1,eG,iT,cj=>(bif (decide (cj < (eG.length:Int))) then ((apn iT ([cj]:List Int)).bind fun l2=>af.pl29 F k eG l2 (IntKind.i64.wrap (cj + 1))) else (af.pj9 F eG iT))
termination_by structural n=>n
theorem af.l29_P {F:Nat} {H0:Hp} {Ri R0:List Rs}  :∀ k,af.S29 H0 Ri R0  (af.l29 F (ah.tw F)  k) (af.pl29 F  k):=by
 intro k
 induction k with
 | zero=>
  intro ik om hC ca k_ il oo eG hG cj iT oq H lw vk h0 r hp
  exact nomatch (show (none:Option (List Int)) = some r from hp)
 | succ k ih=>
  intro ik om hC ca k_ il oo eG hG cj iT oq H lw vk h0 r hp
  obtain ⟨w0,s0,lx,vl⟩:=h0
  subst lw
  subst vk
  unfold af.pl29 at hp
  unfold af.l29
  refine bind_ex (ldSl_of (w0.ld (i:=0) rfl rfl)) ?_
  refine bif_ex (fun hb=>?_) (fun hb=>?_)
  ·replace hp:=bif_t hb hp
   refine newS_k (eInt .i64) w0 (n:=1) (l:=([cj]:List Int)) rfl (CR.cons1 rfl CR.empty) rfl fun H1 w1 s1 c1=>?_
   refine bind_ex (w1.rowo (i:=0) rfl) ?_
   obtain ⟨l2,e2,hp⟩:=bind_some' hp
   refine app_k (eInt .i64) w1 (i:=2) rfl rfl (vl.step s1) c1 (show 1 = List.length ([cj]:List Int) from rfl) rfl e2 fun a3 d3 H3 w3 s3 c3 x3=>?_
   dsimp only [List.set] at w3 s3 c3
   obtain ⟨w4,s4⟩:=w3.pick' [1,2] 3 rfl rfl rfl
   dsimp only [pk,pks,nth,List.drop] at w4 s4
   exact ih rfl rfl ⟨w4,(s0.trans (s1.trans (s3.trans s4))),(lx.step (s1.trans (s3.trans s4))),(c3.step s4)⟩ hp
  ·replace hp:=bif_f hb hp
   exact af.j9_P rfl rfl ⟨w0,s0,lx,vl⟩ hp
def af.p (F:Nat) (ac:List (Int×Int×Int×Int×Int)):Option (List Int):=af.pl29 F F ac ([]:List Int) 0
theorem af.P {F:Nat} {ap:ON} {ag:Nat} {aq:Cap} {ac:List (Int×Int×Int×Int×Int)} {ab:Int} {H:Hp} {R0:List Rs} (aY:ag = ac.length) (h0:Inn H R0 fun R=>ROs (ePair (eInt .i64) (ePair (eInt .i64) (ePair (eInt .i64) (ePair (eInt .i64) (eInt .i64))))) H R ⟨ap,ag,aq⟩ ac) {r:List Int} (hp:af.p F ac = some r):∃ v H',af.tw F ⟨ap,ag,aq⟩ ab H = some (v,H')∧af.Q H R0 R0  r v H':=by
 obtain ⟨w0,aG⟩:=h0
 subst aY
 unfold af.p at hp
 unfold af.tw af.twX
 have s0:=w0.rf
 refine new_k w0 fun H1 w1 s1=>?_
 refine newS_k (eInt .i64) w1 (n:=0) (l:=([]:List Int)) rfl CR.empty rfl fun H2 w2 s2 c2=>?_
 obtain ⟨w3,s3⟩:=w2.pick' [1,0] 2 rfl rfl rfl
 dsimp only [pk,pks,nth,List.drop] at w3 s3
 exact af.l29_P F rfl (show 0 = List.length ([]:List Int) from rfl) ⟨w3,(s0.trans (s1.trans (s2.trans s3))),(aG.step (s1.trans (s2.trans s3))),(c2.step s3)⟩ hp
def az.Q (H0:Hp) (Ri R0:List Rs)  (r:Int) (v:AV) (H':Hp):Prop:=v = (.int .i64 r)∧Out H0 Ri H' (R0) fun R=>True
def az.S61 (H0:Hp) (Ri R0:List Rs)  (C:Int→Sl→Int→Hp→OA) (pC:Int→List Int→Int→Option (Int)):Prop:=∀ {dE da:Int} {oE:ON} {ly:Nat} {oF:Cap} {hI:List Int} {oG:List AV},∀ {H:Hp},ly = hI.length→(Out H0 Ri H (Rs.own ⟨oE,ly,oF⟩ (eInt .i64).z oG :: R0) fun R=>CR (eInt .i64) H R oG hI)→∀ {r:Int},pC dE hI da = some r→∃ v H',C dE ⟨oE,ly,oF⟩ da H = some (v,H')∧az.Q H0 Ri R0  r v H'
def az.pj2 (F:Nat) (aH:Int→List Int→Int→Option (Int)) (jQ:Int) (lz:List Int) (jR:Int):Option (Int):=aH jQ lz (IntKind.i64.wrap (jR + 1))
theorem az.j2_P {F:Nat} {H0:Hp} {Ri R0:List Rs}  {C61_:Int→Sl→Int→Hp→OA} {aH:Int→List Int→Int→Option (Int)} (hC61:az.S61 H0 Ri R0  C61_ aH) {jQ jR:Int} {vm:ON} {sb:Nat} {vn:Cap} {lz:List Int} {vo:List AV} {H:Hp} (Aq:sb = lz.length) (h0:Out H0 Ri H (Rs.own ⟨vm,sb,vn⟩ (eInt .i64).z vo :: R0) fun R=>CR (eInt .i64) H R vo lz) {r:Int} (hp:az.pj2 F aH jQ lz jR = some r):∃ v H',az.j2 F (af.tw F) C61_ jQ ⟨vm,sb,vn⟩ jR H = some (v,H')∧az.Q H0 Ri R0  r v H':=by
 obtain ⟨w0,s0,Ar⟩:=h0
 subst Aq
 unfold az.pj2 at hp
 unfold az.j2
 exact hC61 rfl ⟨w0,s0,Ar⟩ hp
def az.pl61 (F:Nat) :Nat→Int→List Int→Int→Option (Int)
 | 0,_,_,_=>none
 | k + 1,dE,hI,da=>(bif (decide (da < (hI.length:Int))) then ((ix hI da).bind fun n1=>(bif ((gt hI n1) == da) then (az.pj2 F (az.pl61 F k) (IntKind.i64.wrap (dE + 1)) hI da) else (az.pj2 F (az.pl61 F k) dE hI da))) else (some dE))
termination_by structural n=>n
theorem az.l61_P {F:Nat} {H0:Hp} {Ri R0:List Rs}  :∀ k,az.S61 H0 Ri R0  (az.l61 F (af.tw F)  k) (az.pl61 F  k):=by
 intro k
 induction k with
 | zero=>
  intro dE da oE ly oF hI oG H vp h0 r hp
  exact nomatch (show (none:Option (Int)) = some r from hp)
 | succ k ih=>
  intro dE da oE ly oF hI oG H vp h0 r hp
  obtain ⟨w0,s0,sc⟩:=h0
  subst vp
  unfold az.pl61 at hp
  unfold az.l61
  refine bif_ex (fun hb=>?_) (fun hb=>?_)
  ·replace hp:=bif_t hb hp
   obtain ⟨n1,g1,hp⟩:=bind_some' hp
   obtain ⟨p1,q1,i1,h1,j1⟩:=W.ixo (E:=(eInt .i64)) w0 (i:=0) rfl rfl sc g1
   refine bind_ex i1 ?_
   have h1:_ = [_]:=h1
   subst h1
   refine bind_ex (ldI_of (j1 0 _ rfl)) ?_
   refine bif_ex (fun hb=>?_) (fun hb=>?_)
   ·replace hp:=bif_t hb hp
    exact az.j2_P (@ih) rfl ⟨w0,s0,sc⟩ hp
   ·replace hp:=bif_f hb hp
    exact az.j2_P (@ih) rfl ⟨w0,s0,sc⟩ hp
  ·replace hp:=bif_f hb hp
   obtain ⟨w2,s2⟩:=w0.pick' [] 1 rfl rfl rfl
   dsimp only [pk,pks,nth,List.drop] at w2 s2
   obtain rfl:=Option.some.inj hp
   exact ⟨_,_,rfl,rfl,w2,(s0.trans s2),trivial⟩
def az.p (F:Nat) (ac:List (Int×Int×Int×Int×Int)):Option (Int):=(af.p F ac).bind fun r2=>az.pl61 F F 0 r2 0
theorem az.P {F:Nat} {ap:ON} {ag:Nat} {aq:Cap} {ac:List (Int×Int×Int×Int×Int)} {ab:Int} {H:Hp} {R0:List Rs} (aY:ag = ac.length) (h0:Inn H R0 fun R=>ROs (ePair (eInt .i64) (ePair (eInt .i64) (ePair (eInt .i64) (ePair (eInt .i64) (eInt .i64))))) H R ⟨ap,ag,aq⟩ ac) {r:Int} (hp:az.p F ac = some r):∃ v H',az.tw F ⟨ap,ag,aq⟩ ab H = some (v,H')∧az.Q H R0 R0  r v H':=by
 obtain ⟨w0,aG⟩:=h0
 subst aY
 unfold az.p at hp
 unfold az.tw az.twX
 have s0:=w0.rf
 refine new_k w0 fun H1 w1 s1=>?_
 refine bind_ex (ldSl_of (w1.ld (i:=0) rfl rfl)) ?_
 refine bind_ex (ldI_of (w1.ld (i:=0) rfl rfl)) ?_
 obtain ⟨r2,e2,hp⟩:=bind_some' hp
 refine call_ex (af.P rfl ⟨w1,(aG.step s1)⟩ e2) ?_
 rintro _ H3 ⟨o0a_3,o0n_3,o0c_3,o0k_3,rfl,rfl,w3,s3,f3_0⟩
 refine bind_ex rfl ?_
 obtain ⟨w4,s4⟩:=w3.pick' [0] 2 rfl rfl rfl
 dsimp only [pk,pks,nth,List.drop] at w4 s4
 exact az.l61_P F rfl ⟨w4,(s0.trans (s1.trans (s3.trans s4))),(f3_0.step s4)⟩ hp
def bp.Q (H0:Hp) (Ri R0:List Rs)  (r:Bool) (v:AV) (H':Hp):Prop:=v = (.bool r)∧Out H0 Ri H' (R0) fun R=>True
def bp.p (F:Nat) (ac:List (Int×Int×Int×Int×Int)) (ab:Int):Option (Bool):=(bif (decide ((ac.length:Int) > 10)) then (some false) else ((bb.p F ab 0 8).bind fun r3=>(bif (!r3) then (some false) else ((ao.p F ac).bind fun r6=>(bif (!r6) then (some false) else ((ak.p F ac).bind fun r9=>(az.p F ac).bind fun r12=>some ((r9.length:Int) == (IntKind.i64.wrap ((ac.length:Int) + (IntKind.i64.wrap (2 * r12)))))))))))
theorem bp.P {F:Nat} {ap:ON} {ag:Nat} {aq:Cap} {ac:List (Int×Int×Int×Int×Int)} {ab:Int} {H:Hp} {R0:List Rs} (aY:ag = ac.length) (h0:Inn H R0 fun R=>ROs (ePair (eInt .i64) (ePair (eInt .i64) (ePair (eInt .i64) (ePair (eInt .i64) (eInt .i64))))) H R ⟨ap,ag,aq⟩ ac) {r:Bool} (hp:bp.p F ac ab = some r):∃ v H',bp.tw F ⟨ap,ag,aq⟩ ab H = some (v,H')∧bp.Q H R0 R0  r v H':=by
 obtain ⟨w0,aG⟩:=h0
 subst aY
 unfold bp.p at hp
 unfold bp.tw bp.twX
 have s0:=w0.rf
 refine new_k w0 fun H1 w1 s1=>?_
 refine bind_ex (ldSl_of (w1.ld (i:=0) rfl rfl)) ?_
 refine bif_ex (fun hb=>?_) (fun hb=>?_)
 ·replace hp:=bif_t hb hp
  obtain ⟨w2,s2⟩:=w1.pick' [] 1 rfl rfl rfl
  dsimp only [pk,pks,nth,List.drop] at w2 s2
  obtain rfl:=Option.some.inj hp
  exact ⟨_,_,rfl,rfl,w2,(s0.trans (s1.trans s2)),trivial⟩
 ·replace hp:=bif_f hb hp
  refine bind_ex (ldI_of (w1.ld (i:=0) rfl rfl)) ?_
  obtain ⟨r3,e3,hp⟩:=bind_some' hp
  refine call_ex (bb.P ⟨w1,trivial⟩ e3) ?_
  rintro _ H4 ⟨rfl,w4,s4,_⟩
  refine bind_ex rfl ?_
  refine bif_ex (fun hb=>?_) (fun hb=>?_)
  ·replace hp:=bif_t hb hp
   obtain ⟨w5,s5⟩:=w4.pick' [] 1 rfl rfl rfl
   dsimp only [pk,pks,nth,List.drop] at w5 s5
   obtain rfl:=Option.some.inj hp
   exact ⟨_,_,rfl,rfl,w5,(s0.trans (s1.trans (s4.trans s5))),trivial⟩
  ·replace hp:=bif_f hb hp
   refine bind_ex (ldSl_of (w4.ld (i:=0) rfl rfl)) ?_
   refine bind_ex (ldI_of (w4.ld (i:=0) rfl rfl)) ?_
   obtain ⟨r6,e6,hp⟩:=bind_some' hp
   refine call_ex (ao.P rfl ⟨w4,(aG.step (s1.trans s4))⟩ e6) ?_
   rintro _ H7 ⟨rfl,w7,s7,_⟩
   refine bind_ex rfl ?_
   refine bif_ex (fun hb=>?_) (fun hb=>?_)
   ·replace hp:=bif_t hb hp
    obtain ⟨w8,s8⟩:=w7.pick' [] 1 rfl rfl rfl
    dsimp only [pk,pks,nth,List.drop] at w8 s8
    obtain rfl:=Option.some.inj hp
    exact ⟨_,_,rfl,rfl,w8,(s0.trans (s1.trans (s4.trans (s7.trans s8)))),trivial⟩
   ·replace hp:=bif_f hb hp
    refine bind_ex (ldSl_of (w7.ld (i:=0) rfl rfl)) ?_
    refine bind_ex (ldI_of (w7.ld (i:=0) rfl rfl)) ?_
    obtain ⟨r9,e9,hp⟩:=bind_some' hp
    refine call_ex (ak.P rfl ⟨w7,(aG.step (s1.trans (s4.trans s7)))⟩ e9) ?_
    rintro _ H10 ⟨o0a_10,o0n_10,o0c_10,o0k_10,rfl,rfl,w10,s10,f10_0⟩
    refine bind_ex rfl ?_
    refine ifs_ex (W.cons_of (Rn:=[_]) w7 w10 s10) ?_
    refine bind_ex (ldSl_of (w10.ld (i:=1) rfl rfl)) ?_
    refine bind_ex (ldSl_of (w10.ld (i:=1) rfl rfl)) ?_
    refine bind_ex (ldI_of (w10.ld (i:=1) rfl rfl)) ?_
    obtain ⟨r12,e12,hp⟩:=bind_some' hp
    refine call_ex (az.P rfl ⟨w10,(aG.step (s1.trans (s4.trans (s7.trans s10))))⟩ e12) ?_
    rintro _ H13 ⟨rfl,w13,s13,_⟩
    refine bind_ex rfl ?_
    refine ifs_ex (W.cons_of (Rn:=[]) w10 w13 s13) ?_
    obtain ⟨w15,s15⟩:=w13.pick' [] 2 rfl rfl rfl
    dsimp only [pk,pks,nth,List.drop] at w15 s15
    obtain rfl:=Option.some.inj hp
    exact ⟨_,_,rfl,rfl,w15,(s0.trans (s1.trans (s4.trans (s7.trans (s10.trans (s13.trans s15)))))),trivial⟩
def ae.Q (H0:Hp) (Ri R0:List Rs)  (r:List Int×Int) (v:AV) (H':Hp):Prop:=∃ o0a:ON,∃ o0n:Nat,∃ o0c:Cap,∃ o0k:List AV,v = (.tup [(.sl ⟨o0a,o0n,o0c⟩),(.int .i64 r.2)])∧o0n = (r.1).length∧Out H0 Ri H' (Rs.own ⟨o0a,o0n,o0c⟩ (eInt .i64).z o0k :: R0) fun R=>CR (eInt .i64) H' R o0k (r.1)
def ae.S29 (H0:Hp) (Ri R0:List Rs)  (C:Nat→Nat→Sl→Int→Hp→OA) (pC:List (Int×Int×Int×Int×Int)→Int→List Int→Int→Option (List Int×Int)):Prop:=∀ {ik oH:ON} {hC ca lA:Nat} {il oI:Cap} {eG:List (Int×Int×Int×Int×Int)} {hG dH:Int} {iU:List Int} {oJ:List AV},∀ {H:Hp},hC = eG.length→lA = iU.length→(Out H0 Ri H (Rs.blk ca [.sl ⟨ik,hC,il⟩,.int .i64 hG] :: Rs.own ⟨oH,lA,oI⟩ (eInt .i64).z oJ :: R0) fun R=>ROs (ePair (eInt .i64) (ePair (eInt .i64) (ePair (eInt .i64) (ePair (eInt .i64) (eInt .i64))))) H R ⟨ik,hC,il⟩ eG∧CR (eInt .i64) H R oJ iU)→∀ {r:List Int×Int},pC eG hG iU dH = some r→∃ v H',C ca 0 ⟨oH,lA,oI⟩ dH H = some (v,H')∧ae.Q H0 Ri R0  r v H'
def ae.S61 (H0:Hp) (Ri R0:List Rs)  (C:Nat→Nat→Sl→Int→Hp→OA) (pC:List (Int×Int×Int×Int×Int)→Int→List Int→Int→Option (List Int×Int)):Prop:=∀ {oK oL:ON} {lB ed lC:Nat} {oM oN:Cap} {gr:List (Int×Int×Int×Int×Int)} {jo dG:Int} {gu:List Int} {oO:List AV},∀ {H:Hp},lB = gr.length→lC = gu.length→(Out H0 Ri H (Rs.blk ed [.sl ⟨oK,lB,oM⟩,.int .i64 jo] :: Rs.own ⟨oL,lC,oN⟩ (eInt .i64).z oO :: R0) fun R=>ROs (ePair (eInt .i64) (ePair (eInt .i64) (ePair (eInt .i64) (ePair (eInt .i64) (eInt .i64))))) H R ⟨oK,lB,oM⟩ gr∧CR (eInt .i64) H R oO gu)→∀ {r:List Int×Int},pC gr jo gu dG = some r→∃ v H',C ed 0 ⟨oL,lC,oN⟩ dG H = some (v,H')∧ae.Q H0 Ri R0  r v H'
def ae.S1963 (H0:Hp) (Ri R0:List Rs)  (C:Nat→Nat→Sl→Int→Int→Int→Int→Hp→OA) (pC:List (Int×Int×Int×Int×Int)→Int→List Int→Int→Int→Int→Int→Option (List Int×Int)):Prop:=∀ {oP oQ:ON} {lD dZ lE:Nat} {oR oS:Cap} {iq:List (Int×Int×Int×Int×Int)} {iV dm cz cL db:Int} {fY:List Int} {oT:List AV},∀ {H:Hp},lD = iq.length→lE = fY.length→(Out H0 Ri H (Rs.blk dZ [.sl ⟨oP,lD,oR⟩,.int .i64 iV] :: Rs.own ⟨oQ,lE,oS⟩ (eInt .i64).z oT :: R0) fun R=>ROs (ePair (eInt .i64) (ePair (eInt .i64) (ePair (eInt .i64) (ePair (eInt .i64) (eInt .i64))))) H R ⟨oP,lD,oR⟩ iq∧CR (eInt .i64) H R oT fY)→∀ {r:List Int×Int},pC iq iV fY dm cz cL db = some r→∃ v H',C dZ 0 ⟨oQ,lE,oS⟩ dm cz cL db H = some (v,H')∧ae.Q H0 Ri R0  r v H'
def ae.pj12 (F:Nat) (oU:List (Int×Int×Int×Int×Int)→Int→List Int→Int→Int→Int→Int→Option (List Int×Int)) (lF:List (Int×Int×Int×Int×Int)) (oV:Int) (lG:List Int) (jX:Int) (jY:Int) (jZ:Int) (j_:Int):Option (List Int×Int):=oU lF oV lG jX jY jZ (IntKind.i64.wrap (j_ + 1))
theorem ae.j12_P {F:Nat} {H0:Hp} {Ri R0:List Rs}  {C1963_:Nat→Nat→Sl→Int→Int→Int→Int→Hp→OA} {oU:List (Int×Int×Int×Int×Int)→Int→List Int→Int→Int→Int→Int→Option (List Int×Int)} (hC1963:ae.S1963 H0 Ri R0  C1963_ oU) {vq vr:ON} {sd nz se:Nat} {vs vt:Cap} {lF:List (Int×Int×Int×Int×Int)} {oV jX jY jZ j_:Int} {lG:List Int} {vu:List AV} {H:Hp} (As:sd = lF.length) (At:se = lG.length) (h0:Out H0 Ri H (Rs.blk nz [.sl ⟨vq,sd,vs⟩,.int .i64 oV] :: Rs.own ⟨vr,se,vt⟩ (eInt .i64).z vu :: R0) fun R=>ROs (ePair (eInt .i64) (ePair (eInt .i64) (ePair (eInt .i64) (ePair (eInt .i64) (eInt .i64))))) H R ⟨vq,sd,vs⟩ lF∧CR (eInt .i64) H R vu lG) {r:List Int×Int} (hp:ae.pj12 F oU lF oV lG jX jY jZ j_ = some r):∃ v H',ae.j12 F  C1963_ nz 0 ⟨vr,se,vt⟩ jX jY jZ j_ H = some (v,H')∧ae.Q H0 Ri R0  r v H':=by
 obtain ⟨w0,s0,Au,Av⟩:=h0
 subst As
 subst At
 unfold ae.pj12 at hp
 unfold ae.j12
 exact hC1963 rfl rfl ⟨w0,s0,Au,Av⟩ hp
def ae.pj10 (F:Nat) (aH:List (Int×Int×Int×Int×Int)→Int→List Int→Int→Option (List Int×Int)) (lH:List (Int×Int×Int×Int×Int)) (oW:Int) (lI:List Int) (jV:Int):Option (List Int×Int):=aH lH oW lI (IntKind.i64.wrap (jV + 1))
theorem ae.j10_P {F:Nat} {H0:Hp} {Ri R0:List Rs}  {C61_:Nat→Nat→Sl→Int→Hp→OA} {aH:List (Int×Int×Int×Int×Int)→Int→List Int→Int→Option (List Int×Int)} (hC61:ae.S61 H0 Ri R0  C61_ aH) {vv vw:ON} {sf nx sh:Nat} {vx vy:Cap} {lH:List (Int×Int×Int×Int×Int)} {oW jV:Int} {lI:List Int} {vz:List AV} {H:Hp} (Aw:sf = lH.length) (Ax:sh = lI.length) (h0:Out H0 Ri H (Rs.blk nx [.sl ⟨vv,sf,vx⟩,.int .i64 oW] :: Rs.own ⟨vw,sh,vy⟩ (eInt .i64).z vz :: R0) fun R=>ROs (ePair (eInt .i64) (ePair (eInt .i64) (ePair (eInt .i64) (ePair (eInt .i64) (eInt .i64))))) H R ⟨vv,sf,vx⟩ lH∧CR (eInt .i64) H R vz lI) {r:List Int×Int} (hp:ae.pj10 F aH lH oW lI jV = some r):∃ v H',ae.j10 F  C61_ nx 0 ⟨vw,sh,vy⟩ jV H = some (v,H')∧ae.Q H0 Ri R0  r v H':=by
 obtain ⟨w0,s0,Ay,Az⟩:=h0
 subst Aw
 subst Ax
 unfold ae.pj10 at hp
 unfold ae.j10
 exact hC61 rfl rfl ⟨w0,s0,Ay,Az⟩ hp
def ae.pj11 (F:Nat) (aH:List (Int×Int×Int×Int×Int)→Int→List Int→Int→Option (List Int×Int)) (lJ:List (Int×Int×Int×Int×Int)) (oX:Int) (lK:List Int) (jW:Int):Option (List Int×Int):=ae.pj10 F aH lJ oX lK jW
theorem ae.j11_P {F:Nat} {H0:Hp} {Ri R0:List Rs}  {C61_:Nat→Nat→Sl→Int→Hp→OA} {aH:List (Int×Int×Int×Int×Int)→Int→List Int→Int→Option (List Int×Int)} (hC61:ae.S61 H0 Ri R0  C61_ aH) {vA vB:ON} {si ny sj:Nat} {vC vD:Cap} {lJ:List (Int×Int×Int×Int×Int)} {oX jW:Int} {lK:List Int} {vE:List AV} {H:Hp} (AA:si = lJ.length) (AB:sj = lK.length) (h0:Out H0 Ri H (Rs.blk ny [.sl ⟨vA,si,vC⟩,.int .i64 oX] :: Rs.own ⟨vB,sj,vD⟩ (eInt .i64).z vE :: R0) fun R=>ROs (ePair (eInt .i64) (ePair (eInt .i64) (ePair (eInt .i64) (ePair (eInt .i64) (eInt .i64))))) H R ⟨vA,si,vC⟩ lJ∧CR (eInt .i64) H R vE lK) {r:List Int×Int} (hp:ae.pj11 F aH lJ oX lK jW = some r):∃ v H',ae.j11 F  C61_ ny 0 ⟨vB,sj,vD⟩ jW H = some (v,H')∧ae.Q H0 Ri R0  r v H':=by
 obtain ⟨w0,s0,AC,AD⟩:=h0
 subst AA
 subst AB
 unfold ae.pj11 at hp
 unfold ae.j11
 exact ae.j10_P (@hC61) rfl rfl ⟨w0,s0,AC,AD⟩ hp
def ae.pl1963 (F:Nat) (aH:List (Int×Int×Int×Int×Int)→Int→List Int→Int→Option (List Int×Int)):Nat→List (Int×Int×Int×Int×Int)→Int→List Int→Int→Int→Int→Int→Option (List Int×Int)
 | 0,_,_,_,_,_,_,_=>none
 | k + 1,iq,iV,fY,dm,cz,cL,db=>(bif (decide (db < (fY.length:Int))) then ((ix fY db).bind fun n1=>(bif ((gt fY n1) == (if cL > cz then cL else cz)) then ((ix fY db).bind fun n2=>(some (fY.set n2 (if cL < cz then cL else cz))).bind fun l3=>ae.pj12 F (ae.pl1963 F aH k) iq iV l3 dm cz cL db) else (ae.pj12 F (ae.pl1963 F aH k) iq iV fY dm cz cL db))) else (ae.pj11 F aH iq iV fY dm))
termination_by structural n=>n
theorem ae.l1963_P {F:Nat} {H0:Hp} {Ri R0:List Rs}  {C61_:Nat→Nat→Sl→Int→Hp→OA} {aH:List (Int×Int×Int×Int×Int)→Int→List Int→Int→Option (List Int×Int)} (hC61:ae.S61 H0 Ri R0  C61_ aH):∀ k,ae.S1963 H0 Ri R0  (ae.l1963 F  C61_ k) (ae.pl1963 F aH k):=by
 intro k
 induction k with
 | zero=>
  intro oP oQ lD dZ lE oR oS iq iV dm cz cL db fY oT H vF vG h0 r hp
  exact nomatch (show (none:Option (List Int×Int)) = some r from hp)
 | succ k ih=>
  intro oP oQ lD dZ lE oR oS iq iV dm cz cL db fY oT H vF vG h0 r hp
  obtain ⟨w0,s0,sk,lL⟩:=h0
  subst vF
  subst vG
  unfold ae.pl1963 at hp
  unfold ae.l1963
  refine bif_ex (fun hb=>?_) (fun hb=>?_)
  ·replace hp:=bif_t hb hp
   obtain ⟨n1,g1,hp⟩:=bind_some' hp
   obtain ⟨p1,q1,i1,h1,j1⟩:=W.ixo (E:=(eInt .i64)) w0 (i:=1) rfl rfl lL g1
   refine bind_ex i1 ?_
   have h1:_ = [_]:=h1
   subst h1
   refine bind_ex (ldI_of (j1 0 _ rfl)) ?_
   refine bif_ex (fun hb=>?_) (fun hb=>?_)
   ·replace hp:=bif_t hb hp
    obtain ⟨n2,g2,hp⟩:=bind_some' hp
    obtain ⟨p2,q2,i2,h2,j2⟩:=W.ixo (E:=(eInt .i64)) w0 (i:=1) rfl rfl lL g2
    refine bind_ex i2 ?_
    obtain ⟨l3,e3,hp⟩:=bind_some' hp
    refine sto_k (eInt .i64) w0 (i:=1) (j:=0) (p:=p2) rfl rfl lL g2 i2 e3 rfl rfl (fun _ h=>by have h:_ = [_]:=h; subst h; exact rfl) fun H4 k4 w4 s4 c4=>?_
    dsimp only [List.set] at w4 s4 c4
    exact ae.j12_P (@ih) rfl ((st_len e3).symm) ⟨w4,(s0.trans s4),(sk.step s4),c4⟩ hp
   ·replace hp:=bif_f hb hp
    exact ae.j12_P (@ih) rfl rfl ⟨w0,s0,sk,lL⟩ hp
  ·replace hp:=bif_f hb hp
   exact ae.j11_P (@hC61) rfl rfl ⟨w0,s0,sk,lL⟩ hp
def ae.S509 (H0:Hp) (Ri R0:List Rs)  (C:Nat→Nat→Sl→Sl→Int→Int→Hp→OA) (pC:Int→List Int→List Int→Int→Int→Option (List Int×Int)):Prop:=∀ {oY oZ o_:ON} {lM ec lN lO:Nat} {pa pb pc:Cap} {pd:List (Int×Int×Int×Int×Int)} {iW cV cR:Int} {fZ f_:List Int} {pe pf:List AV},∀ {H:Hp},lM = pd.length→lN = fZ.length→lO = f_.length→(Out H0 Ri H (Rs.blk ec [.sl ⟨oY,lM,pa⟩,.int .i64 iW] :: Rs.own ⟨oZ,lN,pb⟩ (eInt .i64).z pe :: Rs.own ⟨o_,lO,pc⟩ (eInt .i64).z pf :: R0) fun R=>ROs (ePair (eInt .i64) (ePair (eInt .i64) (ePair (eInt .i64) (ePair (eInt .i64) (eInt .i64))))) H R ⟨oY,lM,pa⟩ pd∧CR (eInt .i64) H R pe fZ∧CR (eInt .i64) H R pf f_)→∀ {r:List Int×Int},pC iW fZ f_ cV cR = some r→∃ v H',C ec 0 ⟨oZ,lN,pb⟩ ⟨o_,lO,pc⟩ cV cR H = some (v,H')∧ae.Q H0 Ri R0  r v H'
def ae.pj7 (F:Nat) (pg:Int→List Int→List Int→Int→Int→Option (List Int×Int)) (ph:Int) (lP:List Int) (lQ:List Int) (jT:Int) (jU:Int):Option (List Int×Int):=pg ph lP lQ jT (IntKind.i64.wrap (jU + 1))
theorem ae.j7_P {F:Nat} {H0:Hp} {Ri R0:List Rs}  {C509_:Nat→Nat→Sl→Sl→Int→Int→Hp→OA} {pg:Int→List Int→List Int→Int→Int→Option (List Int×Int)} (hC509:ae.S509 H0 Ri R0  C509_ pg) {vH vI vJ:ON} {sm nv sn sp:Nat} {vK vL vM:Cap} {vN:List (Int×Int×Int×Int×Int)} {ph jT jU:Int} {lP lQ:List Int} {vO vP:List AV} {H:Hp} (AF:sm = vN.length) (AG:sn = lP.length) (AH:sp = lQ.length) (h0:Out H0 Ri H (Rs.blk nv [.sl ⟨vH,sm,vK⟩,.int .i64 ph] :: Rs.own ⟨vI,sn,vL⟩ (eInt .i64).z vO :: Rs.own ⟨vJ,sp,vM⟩ (eInt .i64).z vP :: R0) fun R=>ROs (ePair (eInt .i64) (ePair (eInt .i64) (ePair (eInt .i64) (ePair (eInt .i64) (eInt .i64))))) H R ⟨vH,sm,vK⟩ vN∧CR (eInt .i64) H R vO lP∧CR (eInt .i64) H R vP lQ) {r:List Int×Int} (hp:ae.pj7 F pg ph lP lQ jT jU = some r):∃ v H',ae.j7 F  C509_ nv 0 ⟨vI,sn,vL⟩ ⟨vJ,sp,vM⟩ jT jU H = some (v,H')∧ae.Q H0 Ri R0  r v H':=by
 obtain ⟨w0,s0,AI,AJ,AK⟩:=h0
 subst AF
 subst AG
 subst AH
 unfold ae.pj7 at hp
 unfold ae.j7
 exact hC509 rfl rfl rfl ⟨w0,s0,AI,AJ,AK⟩ hp
def ae.pj6 (F:Nat)  (pi:Int) (lR:List Int) (jS:Int):Option (List Int×Int):=some (lR,(IntKind.i64.wrap (jS + pi)))
theorem ae.j6_P {F:Nat} {H0:Hp} {Ri R0:List Rs}   {vQ vR:ON} {sq nu ss:Nat} {vS vT:Cap} {vU:List (Int×Int×Int×Int×Int)} {pi jS:Int} {lR:List Int} {vV:List AV} {H:Hp} (AL:sq = vU.length) (AM:ss = lR.length) (h0:Out H0 Ri H (Rs.blk nu [.sl ⟨vQ,sq,vS⟩,.int .i64 pi] :: Rs.own ⟨vR,ss,vT⟩ (eInt .i64).z vV :: R0) fun R=>ROs (ePair (eInt .i64) (ePair (eInt .i64) (ePair (eInt .i64) (ePair (eInt .i64) (eInt .i64))))) H R ⟨vQ,sq,vS⟩ vU∧CR (eInt .i64) H R vV lR) {r:List Int×Int} (hp:ae.pj6 F  pi lR jS = some r):∃ v H',ae.j6 F   nu 0 ⟨vR,ss,vT⟩ jS H = some (v,H')∧ae.Q H0 Ri R0  r v H':=by
 obtain ⟨w0,s0,BX,AN⟩:=h0
 subst AL
 subst AM
 unfold ae.pj6 at hp
 unfold ae.j6
 refine bind_ex (ldI_of (w0.ld (i:=0) rfl rfl)) ?_
 obtain ⟨w1,s1⟩:=w0.pick' [1] 2 rfl rfl rfl
 dsimp only [pk,pks,nth,List.drop] at w1 s1
 obtain rfl:=Option.some.inj hp
 exact ⟨_,_,rfl,_,_,_,_,rfl,rfl,w1,(s0.trans s1),(AN.step s1)⟩
def ae.pl509 (F:Nat) :Nat→Int→List Int→List Int→Int→Int→Option (List Int×Int)
 | 0,_,_,_,_,_=>none
 | k + 1,iW,fZ,f_,cV,cR=>(bif (decide (cR < (fZ.length:Int))) then ((ix fZ cR).bind fun n1=>(bif ((gt fZ n1) == cR) then ((apn f_ ([cV]:List Int)).bind fun l3=>ae.pj7 F (ae.pl509 F k) iW fZ l3 (IntKind.i64.wrap (cV + 1)) cR) else ((ix fZ cR).bind fun n6=>(ix f_ (gt fZ n6)).bind fun n7=>(apn f_ ([(gt f_ n7)]:List Int)).bind fun l9=>ae.pj7 F (ae.pl509 F k) iW fZ l9 cV cR))) else (ae.pj6 F iW f_ cV))
termination_by structural n=>n
theorem ae.l509_P {F:Nat} {H0:Hp} {Ri R0:List Rs}  :∀ k,ae.S509 H0 Ri R0  (ae.l509 F   k) (ae.pl509 F  k):=by
 intro k
 induction k with
 | zero=>
  intro oY oZ o_ lM ec lN lO pa pb pc pd iW cV cR fZ f_ pe pf H vW vX vY h0 r hp
  exact nomatch (show (none:Option (List Int×Int)) = some r from hp)
 | succ k ih=>
  intro oY oZ o_ lM ec lN lO pa pb pc pd iW cV cR fZ f_ pe pf H vW vX vY h0 r hp
  obtain ⟨w0,s0,su,pj,pl⟩:=h0
  subst vW
  subst vX
  subst vY
  unfold ae.pl509 at hp
  unfold ae.l509
  refine bif_ex (fun hb=>?_) (fun hb=>?_)
  ·replace hp:=bif_t hb hp
   obtain ⟨n1,g1,hp⟩:=bind_some' hp
   obtain ⟨p1,q1,i1,h1,j1⟩:=W.ixo (E:=(eInt .i64)) w0 (i:=1) rfl rfl pj g1
   refine bind_ex i1 ?_
   have h1:_ = [_]:=h1
   subst h1
   refine bind_ex (ldI_of (j1 0 _ rfl)) ?_
   refine bif_ex (fun hb=>?_) (fun hb=>?_)
   ·replace hp:=bif_t hb hp
    refine newS_k (eInt .i64) w0 (n:=1) (l:=([cV]:List Int)) rfl (CR.cons1 rfl CR.empty) rfl fun H2 w2 s2 c2=>?_
    refine bind_ex (w2.rowo (i:=0) rfl) ?_
    obtain ⟨l3,e3,hp⟩:=bind_some' hp
    refine app_k (eInt .i64) w2 (i:=3) rfl rfl (pl.step s2) c2 (show 1 = List.length ([cV]:List Int) from rfl) rfl e3 fun a4 d4 H4 w4 s4 c4 x4=>?_
    dsimp only [List.set] at w4 s4 c4
    obtain ⟨w5,s5⟩:=w4.pick' [1,2,3] 4 rfl rfl rfl
    dsimp only [pk,pks,nth,List.drop] at w5 s5
    exact ae.j7_P (@ih) rfl rfl rfl ⟨w5,(s0.trans (s2.trans (s4.trans s5))),(su.step (s2.trans (s4.trans s5))),(pj.step (s2.trans (s4.trans s5))),(c4.step s5)⟩ hp
   ·replace hp:=bif_f hb hp
    obtain ⟨n6,g6,hp⟩:=bind_some' hp
    obtain ⟨p6,q6,i6,h6,j6⟩:=W.ixo (E:=(eInt .i64)) w0 (i:=1) rfl rfl pj g6
    refine bind_ex i6 ?_
    have h6:_ = [_]:=h6
    subst h6
    refine bind_ex (ldI_of (j6 0 _ rfl)) ?_
    obtain ⟨n7,g7,hp⟩:=bind_some' hp
    obtain ⟨p7,q7,i7,h7,j7⟩:=W.ixo (E:=(eInt .i64)) w0 (i:=2) rfl rfl pl g7
    refine bind_ex i7 ?_
    have h7:_ = [_]:=h7
    subst h7
    refine bind_ex (ldI_of (j7 0 _ rfl)) ?_
    refine newS_k (eInt .i64) w0 (n:=1) (l:=([(gt f_ n7)]:List Int)) rfl (CR.cons1 rfl CR.empty) rfl fun H8 w8 s8 c8=>?_
    refine bind_ex (w8.rowo (i:=0) rfl) ?_
    obtain ⟨l9,e9,hp⟩:=bind_some' hp
    refine app_k (eInt .i64) w8 (i:=3) rfl rfl (pl.step s8) c8 (show 1 = List.length ([(gt f_ n7)]:List Int) from rfl) rfl e9 fun a10 d10 H10 w10 s10 c10 x10=>?_
    dsimp only [List.set] at w10 s10 c10
    obtain ⟨w11,s11⟩:=w10.pick' [1,2,3] 4 rfl rfl rfl
    dsimp only [pk,pks,nth,List.drop] at w11 s11
    exact ae.j7_P (@ih) rfl rfl rfl ⟨w11,(s0.trans (s8.trans (s10.trans s11))),(su.step (s8.trans (s10.trans s11))),(pj.step (s8.trans (s10.trans s11))),(c10.step s11)⟩ hp
  ·replace hp:=bif_f hb hp
   obtain ⟨w12,s12⟩:=w0.pick' [0,2] 3 rfl rfl rfl
   dsimp only [pk,pks,nth,List.drop] at w12 s12
   exact ae.j6_P rfl rfl ⟨w12,(s0.trans s12),(su.step s12),(pl.step s12)⟩ hp
def ae.pj8 (F:Nat)  (pm:Int) (lS:List Int):Option (List Int×Int):=ae.pl509 F F pm lS ([]:List Int) 0 0
theorem ae.j8_P {F:Nat} {H0:Hp} {Ri R0:List Rs}   {vZ v_:ON} {sv nw sw:Nat} {wa wb:Cap} {wc:List (Int×Int×Int×Int×Int)} {pm:Int} {lS:List Int} {wd:List AV} {H:Hp} (AO:sv = wc.length) (AP:sw = lS.length) (h0:Out H0 Ri H (Rs.blk nw [.sl ⟨vZ,sv,wa⟩,.int .i64 pm] :: Rs.own ⟨v_,sw,wb⟩ (eInt .i64).z wd :: R0) fun R=>ROs (ePair (eInt .i64) (ePair (eInt .i64) (ePair (eInt .i64) (ePair (eInt .i64) (eInt .i64))))) H R ⟨vZ,sv,wa⟩ wc∧CR (eInt .i64) H R wd lS) {r:List Int×Int} (hp:ae.pj8 F  pm lS = some r):∃ v H',ae.j8 F   nw 0 ⟨v_,sw,wb⟩ H = some (v,H')∧ae.Q H0 Ri R0  r v H':=by
 obtain ⟨w0,s0,AQ,AR⟩:=h0
 subst AO
 subst AP
 unfold ae.pj8 at hp
 unfold ae.j8
 refine newS_k (eInt .i64) w0 (n:=0) (l:=([]:List Int)) rfl CR.empty rfl fun H1 w1 s1 c1=>?_
 obtain ⟨w2,s2⟩:=w1.pick' [1,2,0] 3 rfl rfl rfl
 dsimp only [pk,pks,nth,List.drop] at w2 s2
 exact ae.l509_P F rfl rfl (show 0 = List.length ([]:List Int) from rfl) ⟨w2,(s0.trans (s1.trans s2)),(AQ.step (s1.trans s2)),(AR.step (s1.trans s2)),(c1.step s2)⟩ hp
def ae.pl61 (F:Nat) :Nat→List (Int×Int×Int×Int×Int)→Int→List Int→Int→Option (List Int×Int)
 | 0,_,_,_,_=>none
 | k + 1,gr,jo,gu,dG=>(bif (decide (dG < (gr.length:Int))) then ((ix gr dG).bind fun n1=>(ix gu ((gt gr n1).2.1)).bind fun n2=>(ix gr dG).bind fun n3=>(ix gu ((gt gr n3).2.2.2.1)).bind fun n4=>ae.pl1963 F (ae.pl61 F k) F gr jo gu dG (gt gu n2) (gt gu n4) 0) else (ae.pj8 F jo gu))
termination_by structural n=>n
theorem ae.l61_P {F:Nat} {H0:Hp} {Ri R0:List Rs}  :∀ k,ae.S61 H0 Ri R0  (ae.l61 F   k) (ae.pl61 F  k):=by
 intro k
 induction k with
 | zero=>
  intro oK oL lB ed lC oM oN gr jo dG gu oO H wg wh h0 r hp
  exact nomatch (show (none:Option (List Int×Int)) = some r from hp)
 | succ k ih=>
  intro oK oL lB ed lC oM oN gr jo dG gu oO H wg wh h0 r hp
  obtain ⟨w0,s0,po,pp⟩:=h0
  subst wg
  subst wh
  unfold ae.pl61 at hp
  unfold ae.l61
  refine bind_ex (ldSl_of (w0.ld (i:=0) rfl rfl)) ?_
  refine bif_ex (fun hb=>?_) (fun hb=>?_)
  ·replace hp:=bif_t hb hp
   refine bind_ex (ldSl_of (w0.ld (i:=0) rfl rfl)) ?_
   obtain ⟨n1,g1,hp⟩:=bind_some' hp
   obtain ⟨p1,q1,i1,h1,j1⟩:=ROs.ixr po rfl g1
   refine bind_ex i1 ?_
   obtain ⟨_,_,rfl,rfl,_,_,rfl,rfl,_,_,rfl,rfl,_,_,rfl,rfl,rfl⟩:=h1
   refine bind_ex (ldI_of (j1 1 _ rfl)) ?_
   obtain ⟨n2,g2,hp⟩:=bind_some' hp
   obtain ⟨p2,q2,i2,h2,j2⟩:=W.ixo (E:=(eInt .i64)) w0 (i:=1) rfl rfl pp g2
   refine bind_ex i2 ?_
   have h2:_ = [_]:=h2
   subst h2
   refine bind_ex (ldI_of (j2 0 _ rfl)) ?_
   refine bind_ex (ldSl_of (w0.ld (i:=0) rfl rfl)) ?_
   obtain ⟨n3,g3,hp⟩:=bind_some' hp
   obtain ⟨p3,q3,i3,h3,j3⟩:=ROs.ixr po rfl g3
   refine bind_ex i3 ?_
   obtain ⟨_,_,rfl,rfl,_,_,rfl,rfl,_,_,rfl,rfl,_,_,rfl,rfl,rfl⟩:=h3
   refine bind_ex (ldI_of (j3 3 _ rfl)) ?_
   obtain ⟨n4,g4,hp⟩:=bind_some' hp
   obtain ⟨p4,q4,i4,h4,j4⟩:=W.ixo (E:=(eInt .i64)) w0 (i:=1) rfl rfl pp g4
   refine bind_ex i4 ?_
   have h4:_ = [_]:=h4
   subst h4
   refine bind_ex (ldI_of (j4 0 _ rfl)) ?_
   exact ae.l1963_P (@ih) F rfl rfl ⟨w0,s0,po,pp⟩ hp
  ·replace hp:=bif_f hb hp
   exact ae.j8_P rfl rfl ⟨w0,s0,po,pp⟩ hp
def ae.pj13 (F:Nat)  (lT:List (Int×Int×Int×Int×Int)) (pq:Int) (lU:List Int):Option (List Int×Int):=ae.pl61 F F lT pq lU 0
theorem ae.j13_P {F:Nat} {H0:Hp} {Ri R0:List Rs}   {wi wj:ON} {sx jP sy:Nat} {wk wl:Cap} {lT:List (Int×Int×Int×Int×Int)} {pq:Int} {lU:List Int} {wm:List AV} {H:Hp} (AS:sx = lT.length) (AT:sy = lU.length) (h0:Out H0 Ri H (Rs.blk jP [.sl ⟨wi,sx,wk⟩,.int .i64 pq] :: Rs.own ⟨wj,sy,wl⟩ (eInt .i64).z wm :: R0) fun R=>ROs (ePair (eInt .i64) (ePair (eInt .i64) (ePair (eInt .i64) (ePair (eInt .i64) (eInt .i64))))) H R ⟨wi,sx,wk⟩ lT∧CR (eInt .i64) H R wm lU) {r:List Int×Int} (hp:ae.pj13 F  lT pq lU = some r):∃ v H',ae.j13 F   jP 0 ⟨wj,sy,wl⟩ H = some (v,H')∧ae.Q H0 Ri R0  r v H':=by
 obtain ⟨w0,s0,AU,AW⟩:=h0
 subst AS
 subst AT
 unfold ae.pj13 at hp
 unfold ae.j13
 exact ae.l61_P F rfl rfl ⟨w0,s0,AU,AW⟩ hp
def ae.pl29 (F:Nat) :Nat→List (Int×Int×Int×Int×Int)→Int→List Int→Int→Option (List Int×Int)
 | 0,_,_,_,_=>none
 | k + 1,eG,hG,iU,dH=>(bif (decide (dH < (IntKind.i64.wrap (2 * (eG.length:Int))))) then ((apn iU ([dH]:List Int)).bind fun l2=>ae.pl29 F k eG hG l2 (IntKind.i64.wrap (dH + 1))) else (ae.pj13 F eG hG iU))
termination_by structural n=>n
theorem ae.l29_P {F:Nat} {H0:Hp} {Ri R0:List Rs}  :∀ k,ae.S29 H0 Ri R0  (ae.l29 F   k) (ae.pl29 F  k):=by
 intro k
 induction k with
 | zero=>
  intro ik oH hC ca lA il oI eG hG dH iU oJ H lw wo h0 r hp
  exact nomatch (show (none:Option (List Int×Int)) = some r from hp)
 | succ k ih=>
  intro ik oH hC ca lA il oI eG hG dH iU oJ H lw wo h0 r hp
  obtain ⟨w0,s0,lx,wp⟩:=h0
  subst lw
  subst wo
  unfold ae.pl29 at hp
  unfold ae.l29
  refine bind_ex (ldSl_of (w0.ld (i:=0) rfl rfl)) ?_
  refine bif_ex (fun hb=>?_) (fun hb=>?_)
  ·replace hp:=bif_t hb hp
   refine newS_k (eInt .i64) w0 (n:=1) (l:=([dH]:List Int)) rfl (CR.cons1 rfl CR.empty) rfl fun H1 w1 s1 c1=>?_
   refine bind_ex (w1.rowo (i:=0) rfl) ?_
   obtain ⟨l2,e2,hp⟩:=bind_some' hp
   refine app_k (eInt .i64) w1 (i:=2) rfl rfl (wp.step s1) c1 (show 1 = List.length ([dH]:List Int) from rfl) rfl e2 fun a3 d3 H3 w3 s3 c3 x3=>?_
   dsimp only [List.set] at w3 s3 c3
   obtain ⟨w4,s4⟩:=w3.pick' [1,2] 3 rfl rfl rfl
   dsimp only [pk,pks,nth,List.drop] at w4 s4
   exact ih rfl rfl ⟨w4,(s0.trans (s1.trans (s3.trans s4))),(lx.step (s1.trans (s3.trans s4))),(c3.step s4)⟩ hp
  ·replace hp:=bif_f hb hp
   exact ae.j13_P rfl rfl ⟨w0,s0,lx,wp⟩ hp
def ae.p (F:Nat) (ac:List (Int×Int×Int×Int×Int)) (ab:Int):Option (List Int×Int):=ae.pl29 F F ac ab ([]:List Int) 0
theorem ae.P {F:Nat} {ap:ON} {ag:Nat} {aq:Cap} {ac:List (Int×Int×Int×Int×Int)} {ab:Int} {H:Hp} {R0:List Rs} (aY:ag = ac.length) (h0:Inn H R0 fun R=>ROs (ePair (eInt .i64) (ePair (eInt .i64) (ePair (eInt .i64) (ePair (eInt .i64) (eInt .i64))))) H R ⟨ap,ag,aq⟩ ac) {r:List Int×Int} (hp:ae.p F ac ab = some r):∃ v H',ae.tw F ⟨ap,ag,aq⟩ ab H = some (v,H')∧ae.Q H R0 R0  r v H':=by
 obtain ⟨w0,aG⟩:=h0
 subst aY
 unfold ae.p at hp
 unfold ae.tw ae.twX
 have s0:=w0.rf
 refine new_k w0 fun H1 w1 s1=>?_
 refine newS_k (eInt .i64) w1 (n:=0) (l:=([]:List Int)) rfl CR.empty rfl fun H2 w2 s2 c2=>?_
 obtain ⟨w3,s3⟩:=w2.pick' [1,0] 2 rfl rfl rfl
 dsimp only [pk,pks,nth,List.drop] at w3 s3
 exact ae.l29_P F rfl (show 0 = List.length ([]:List Int) from rfl) ⟨w3,(s0.trans (s1.trans (s2.trans s3))),(aG.step (s1.trans (s2.trans s3))),(c2.step s3)⟩ hp
def bB.Q (H0:Hp) (Ri R0:List Rs)  (r:Int×Int×List Int) (v:AV) (H':Hp):Prop:=∃ o2a:ON,∃ o2n:Nat,∃ o2k:List AV,v = (.agg [(.int .i64 r.1),(.int .i64 r.2.1),(.sl ⟨o2a,o2n,.ex o2n⟩)])∧o2n = (r.2.2).length∧Out H0 Ri H' (Rs.own ⟨o2a,o2n,.ex o2n⟩ (eInt .i64).z o2k :: R0) fun R=>CR (eInt .i64) H' R o2k (r.2.2)
def bB.p (F:Nat) (aa:Int) (ad:Int):Option (Int×Int×List Int):=(mkn (IntKind.i64.wrap (aa * ad)) (0:Int)).bind fun l2=>some (aa,ad,l2)
theorem bB.P {F:Nat} {aa ad:Int} {H:Hp} {R0:List Rs}  (h0:Inn H R0 fun R=>True) {r:Int×Int×List Int} (hp:bB.p F aa ad = some r):∃ v H',bB.tw F aa ad H = some (v,H')∧bB.Q H R0 R0  r v H':=by
 obtain ⟨w0,_⟩:=h0
 unfold bB.p at hp
 unfold bB.tw bB.twX
 have s0:=w0.rf
 refine new_k w0 fun H1 w1 s1=>?_
 obtain ⟨l2,e2,hp⟩:=bind_some' hp
 refine mk_k (eInt .i64) (0:Int) w1 rfl rfl rfl e2 fun H3 k3 w3 s3 c3=>?_
 refine st_k w3 (i:=1) rfl rfl rfl fun H4 w4 s4=>?_
 dsimp only [List.set] at w4 s4
 refine st_k w4 (i:=1) rfl rfl rfl fun H5 w5 s5=>?_
 dsimp only [List.set] at w5 s5
 refine st_k w5 (i:=1) rfl rfl rfl fun H6 w6 s6=>?_
 dsimp only [List.set] at w6 s6
 refine bind_ex (ldI_of (w6.ld (i:=1) rfl rfl)) ?_
 refine bind_ex (ldI_of (w6.ld (i:=1) rfl rfl)) ?_
 refine bind_ex (ldSl_of (w6.ld (i:=1) rfl rfl)) ?_
 obtain ⟨w7,s7⟩:=w6.pick' [0] 2 rfl rfl rfl
 dsimp only [pk,pks,nth,List.drop] at w7 s7
 obtain rfl:=Option.some.inj hp
 exact ⟨_,_,rfl,_,_,_,rfl,rfl,w7,(s0.trans (s1.trans (s3.trans (s4.trans (s5.trans (s6.trans s7)))))),(c3.step (s4.trans (s5.trans (s6.trans s7))))⟩
def aK.Q (H0:Hp) (Ri R0:List Rs)  (r:Int×Int×List Int) (v:AV) (H':Hp):Prop:=∃ o2a:ON,∃ o2n:Nat,∃ o2c:Cap,∃ o2k:List AV,v = (.agg [(.int .i64 r.1),(.int .i64 r.2.1),(.sl ⟨o2a,o2n,o2c⟩)])∧o2n = (r.2.2).length∧Out H0 Ri H' (Rs.own ⟨o2a,o2n,o2c⟩ (eInt .i64).z o2k :: R0) fun R=>CR (eInt .i64) H' R o2k (r.2.2)
def aK.S61 (H0:Hp) (Ri R0:List Rs)  (C:Nat→Nat→Nat→Nat→Sl→Int→Nat→Nat→Int→Hp→OA) (pC:List (Int×Int×Int×Int×Int)→List Int→Int→Int→Int→List Int→Int→Option (Int×Int×List Int)):Prop:=∀ {im pr ps pt:ON} {hH bV lV dc lW lX bM:Nat} {io pu pv pw:Cap} {dW:List (Int×Int×Int×Int×Int)} {jn sz sB cr iX jp co:Int} {px fp hJ:List Int} {py pz pA:List AV},∀ {H:Hp},hH = dW.length→lV = px.length→lW = fp.length→lX = hJ.length→(Out H0 Ri H (Rs.blk bV [.sl ⟨im,hH,io⟩,.int .i64 jn] :: Rs.own ⟨pr,lV,pu⟩ (eInt .i64).z py :: Rs.blk dc [.int .i64 sz,.int .i64 sB,.sl ⟨pr,lV,pu⟩] :: Rs.own ⟨ps,lW,pv⟩ (eInt .i64).z pz :: Rs.own ⟨pt,lX,pw⟩ (eInt .i64).z pA :: Rs.blk bM [.int .i64 iX,.int .i64 jp,.sl ⟨pt,lX,pw⟩] :: R0) fun R=>ROs (ePair (eInt .i64) (ePair (eInt .i64) (ePair (eInt .i64) (ePair (eInt .i64) (eInt .i64))))) H R ⟨im,hH,io⟩ dW∧CR (eInt .i64) H R py px∧CR (eInt .i64) H R pz fp∧CR (eInt .i64) H R pA hJ)→∀ {r:Int×Int×List Int},pC dW fp cr iX jp hJ co = some r→∃ v H',C bV 0 dc 0 ⟨ps,lW,pv⟩ cr bM 0 co H = some (v,H')∧aK.Q H0 Ri R0  r v H'
def aK.pl61 (F:Nat) :Nat→List (Int×Int×Int×Int×Int)→List Int→Int→Int→Int→List Int→Int→Option (Int×Int×List Int)
 | 0,_,_,_,_,_,_,_=>none
 | k + 1,dW,fp,cr,iX,jp,hJ,co=>(bif (decide (co < iX)) then ((ix dW co).bind fun n1=>(ix fp ((gt dW n1).1)).bind fun n8=>(ix fp ((gt dW n1).2.2.1)).bind fun n9=>(ix fp ((gt dW n1).2.1)).bind fun n10=>(ix hJ (IntKind.i64.wrap ((IntKind.i64.wrap (co * cr)) + (gt fp n8)))).bind fun n11=>(ix hJ (IntKind.i64.wrap ((IntKind.i64.wrap (co * cr)) + (gt fp n8)))).bind fun n12=>(some (hJ.set n12 (IntKind.i64.wrap ((gt hJ n11) - 1)))).bind fun l13=>(ix l13 (IntKind.i64.wrap ((IntKind.i64.wrap (co * cr)) + (gt fp n9)))).bind fun n15=>(ix l13 (IntKind.i64.wrap ((IntKind.i64.wrap (co * cr)) + (gt fp n9)))).bind fun n16=>(some (l13.set n16 (IntKind.i64.wrap ((gt l13 n15) - 1)))).bind fun l17=>(ix l17 (IntKind.i64.wrap ((IntKind.i64.wrap (co * cr)) + (gt fp n10)))).bind fun n19=>(ix l17 (IntKind.i64.wrap ((IntKind.i64.wrap (co * cr)) + (gt fp n10)))).bind fun n20=>(some (l17.set n20 (IntKind.i64.wrap ((gt l17 n19) + 2)))).bind fun l21=>aK.pl61 F k dW fp cr iX jp l21 (IntKind.i64.wrap (co + 1))) else (some (iX,jp,hJ)))
termination_by structural n=>n
theorem aK.l61_P {F:Nat} {H0:Hp} {Ri R0:List Rs}  :∀ k,aK.S61 H0 Ri R0  (aK.l61 F (ae.tw F) (bB.tw F)  k) (aK.pl61 F  k):=by
 intro k
 induction k with
 | zero=>
  intro im pr ps pt hH bV lV dc lW lX bM io pu pv pw dW jn sz sB cr iX jp co px fp hJ py pz pA H lr wq wt wu h0 r hp
  exact nomatch (show (none:Option (Int×Int×List Int)) = some r from hp)
 | succ k ih=>
  intro im pr ps pt hH bV lV dc lW lX bM io pu pv pw dW jn sz sB cr iX jp co px fp hJ py pz pA H lr wq wt wu h0 r hp
  obtain ⟨w0,s0,kl,AX,pB,pD⟩:=h0
  subst lr
  subst wq
  subst wt
  subst wu
  unfold aK.pl61 at hp
  unfold aK.l61
  refine bind_ex (ldI_of (w0.ld (i:=5) rfl rfl)) ?_
  refine bif_ex (fun hb=>?_) (fun hb=>?_)
  ·replace hp:=bif_t hb hp
   refine bind_ex (ldSl_of (w0.ld (i:=0) rfl rfl)) ?_
   obtain ⟨n1,g1,hp⟩:=bind_some' hp
   obtain ⟨p1,q1,i1,h1,j1⟩:=ROs.ixr kl rfl g1
   refine bind_ex i1 ?_
   obtain ⟨_,_,rfl,rfl,_,_,rfl,rfl,_,_,rfl,rfl,_,_,rfl,rfl,rfl⟩:=h1
   refine bind_ex (ldI_of (j1 0 _ rfl)) ?_
   refine bind_ex (ldI_of (j1 1 _ rfl)) ?_
   refine bind_ex (ldI_of (j1 2 _ rfl)) ?_
   refine bind_ex (ldI_of (j1 3 _ rfl)) ?_
   refine bind_ex (ldI_of (j1 4 _ rfl)) ?_
   refine new_k w0 fun H2 w2 s2=>?_
   refine st_k w2 (i:=0) rfl rfl rfl fun H3 w3 s3=>?_
   dsimp only [List.set] at w3 s3
   refine st_k w3 (i:=0) rfl rfl rfl fun H4 w4 s4=>?_
   dsimp only [List.set] at w4 s4
   refine st_k w4 (i:=0) rfl rfl rfl fun H5 w5 s5=>?_
   dsimp only [List.set] at w5 s5
   refine st_k w5 (i:=0) rfl rfl rfl fun H6 w6 s6=>?_
   dsimp only [List.set] at w6 s6
   refine st_k w6 (i:=0) rfl rfl rfl fun H7 w7 s7=>?_
   dsimp only [List.set] at w7 s7
   refine bind_ex (ldI_of (w7.ld (i:=0) rfl rfl)) ?_
   obtain ⟨n8,g8,hp⟩:=bind_some' hp
   obtain ⟨p8,q8,i8,h8,j8⟩:=W.ixo (E:=(eInt .i64)) w7 (i:=4) rfl rfl (pB.step (s2.trans (s3.trans (s4.trans (s5.trans (s6.trans s7)))))) g8
   refine bind_ex i8 ?_
   have h8:_ = [_]:=h8
   subst h8
   refine bind_ex (ldI_of (j8 0 _ rfl)) ?_
   refine bind_ex (ldI_of (w7.ld (i:=0) rfl rfl)) ?_
   obtain ⟨n9,g9,hp⟩:=bind_some' hp
   obtain ⟨p9,q9,i9,h9,j9⟩:=W.ixo (E:=(eInt .i64)) w7 (i:=4) rfl rfl (pB.step (s2.trans (s3.trans (s4.trans (s5.trans (s6.trans s7)))))) g9
   refine bind_ex i9 ?_
   have h9:_ = [_]:=h9
   subst h9
   refine bind_ex (ldI_of (j9 0 _ rfl)) ?_
   refine bind_ex (ldI_of (w7.ld (i:=0) rfl rfl)) ?_
   obtain ⟨n10,g10,hp⟩:=bind_some' hp
   obtain ⟨p10,q10,i10,h10,j10⟩:=W.ixo (E:=(eInt .i64)) w7 (i:=4) rfl rfl (pB.step (s2.trans (s3.trans (s4.trans (s5.trans (s6.trans s7)))))) g10
   refine bind_ex i10 ?_
   have h10:_ = [_]:=h10
   subst h10
   refine bind_ex (ldI_of (j10 0 _ rfl)) ?_
   refine bind_ex (ldSl_of (w7.ld (i:=6) rfl rfl)) ?_
   refine bind_ex (ldSl_of (w7.ld (i:=6) rfl rfl)) ?_
   obtain ⟨n11,g11,hp⟩:=bind_some' hp
   obtain ⟨p11,q11,i11,h11,j11⟩:=W.ixo (E:=(eInt .i64)) w7 (i:=5) rfl rfl (pD.step (s2.trans (s3.trans (s4.trans (s5.trans (s6.trans s7)))))) g11
   refine bind_ex i11 ?_
   have h11:_ = [_]:=h11
   subst h11
   refine bind_ex (ldI_of (j11 0 _ rfl)) ?_
   obtain ⟨n12,g12,hp⟩:=bind_some' hp
   obtain ⟨p12,q12,i12,h12,j12⟩:=W.ixo (E:=(eInt .i64)) w7 (i:=5) rfl rfl (pD.step (s2.trans (s3.trans (s4.trans (s5.trans (s6.trans s7)))))) g12
   refine bind_ex i12 ?_
   obtain ⟨l13,e13,hp⟩:=bind_some' hp
   refine sto_k (eInt .i64) w7 (i:=5) (j:=0) (p:=p12) rfl rfl (pD.step (s2.trans (s3.trans (s4.trans (s5.trans (s6.trans s7)))))) g12 i12 e13 rfl rfl (fun _ h=>by have h:_ = [_]:=h; subst h; exact rfl) fun H14 k14 w14 s14 c14=>?_
   dsimp only [List.set] at w14 s14 c14
   refine bind_ex (ldSl_of (w14.ld (i:=6) rfl rfl)) ?_
   refine bind_ex (ldSl_of (w14.ld (i:=6) rfl rfl)) ?_
   obtain ⟨n15,g15,hp⟩:=bind_some' hp
   obtain ⟨p15,q15,i15,h15,j15⟩:=W.ixo (E:=(eInt .i64)) w14 (i:=5) rfl rfl c14 g15
   refine bind_ex i15 ?_
   have h15:_ = [_]:=h15
   subst h15
   refine bind_ex (ldI_of (j15 0 _ rfl)) ?_
   obtain ⟨n16,g16,hp⟩:=bind_some' hp
   obtain ⟨p16,q16,i16,h16,j16⟩:=W.ixo (E:=(eInt .i64)) w14 (i:=5) rfl rfl c14 g16
   refine bind_ex i16 ?_
   obtain ⟨l17,e17,hp⟩:=bind_some' hp
   refine sto_k (eInt .i64) w14 (i:=5) (j:=0) (p:=p16) rfl rfl c14 g16 i16 e17 rfl rfl (fun _ h=>by have h:_ = [_]:=h; subst h; exact rfl) fun H18 k18 w18 s18 c18=>?_
   dsimp only [List.set] at w18 s18 c18
   refine bind_ex (ldSl_of (w18.ld (i:=6) rfl rfl)) ?_
   refine bind_ex (ldSl_of (w18.ld (i:=6) rfl rfl)) ?_
   obtain ⟨n19,g19,hp⟩:=bind_some' hp
   obtain ⟨p19,q19,i19,h19,j19⟩:=W.ixo (E:=(eInt .i64)) w18 (i:=5) rfl rfl c18 g19
   refine bind_ex i19 ?_
   have h19:_ = [_]:=h19
   subst h19
   refine bind_ex (ldI_of (j19 0 _ rfl)) ?_
   obtain ⟨n20,g20,hp⟩:=bind_some' hp
   obtain ⟨p20,q20,i20,h20,j20⟩:=W.ixo (E:=(eInt .i64)) w18 (i:=5) rfl rfl c18 g20
   refine bind_ex i20 ?_
   obtain ⟨l21,e21,hp⟩:=bind_some' hp
   refine sto_k (eInt .i64) w18 (i:=5) (j:=0) (p:=p20) rfl rfl c18 g20 i20 e21 rfl rfl (fun _ h=>by have h:_ = [_]:=h; subst h; exact rfl) fun H22 k22 w22 s22 c22=>?_
   dsimp only [List.set] at w22 s22 c22
   obtain ⟨w23,s23⟩:=w22.pick' [1,2,3,4,5,6] 7 rfl rfl rfl
   dsimp only [pk,pks,nth,List.drop] at w23 s23
   exact ih rfl rfl rfl (((st_len e13).symm.trans (st_len e17).symm).trans (st_len e21).symm) ⟨w23,(s0.trans (s2.trans (s3.trans (s4.trans (s5.trans (s6.trans (s7.trans (s14.trans (s18.trans (s22.trans s23)))))))))),(kl.step (s2.trans (s3.trans (s4.trans (s5.trans (s6.trans (s7.trans (s14.trans (s18.trans (s22.trans s23)))))))))),(AX.step (s2.trans (s3.trans (s4.trans (s5.trans (s6.trans (s7.trans (s14.trans (s18.trans (s22.trans s23)))))))))),(pB.step (s2.trans (s3.trans (s4.trans (s5.trans (s6.trans (s7.trans (s14.trans (s18.trans (s22.trans s23)))))))))),(c22.step s23)⟩ hp
  ·replace hp:=bif_f hb hp
   refine bind_ex (ldI_of (w0.ld (i:=5) rfl rfl)) ?_
   refine bind_ex (ldI_of (w0.ld (i:=5) rfl rfl)) ?_
   refine bind_ex (ldSl_of (w0.ld (i:=5) rfl rfl)) ?_
   refine st_k w0 (i:=2) rfl rfl rfl fun H24 w24 s24=>?_
   dsimp only [List.set] at w24 s24
   refine st_k w24 (i:=2) rfl rfl rfl fun H25 w25 s25=>?_
   dsimp only [List.set] at w25 s25
   refine st_k w25 (i:=2) rfl rfl rfl fun H26 w26 s26=>?_
   dsimp only [List.set] at w26 s26
   refine bind_ex (ldI_of (w26.ld (i:=2) rfl rfl)) ?_
   refine bind_ex (ldI_of (w26.ld (i:=2) rfl rfl)) ?_
   refine bind_ex (ldSl_of (w26.ld (i:=2) rfl rfl)) ?_
   obtain ⟨w27,s27⟩:=w26.pick' [4] 6 rfl rfl rfl
   dsimp only [pk,pks,nth,List.drop] at w27 s27
   obtain rfl:=Option.some.inj hp
   exact ⟨_,_,rfl,_,_,_,_,rfl,rfl,w27,(s0.trans (s24.trans (s25.trans (s26.trans s27)))),(pD.step (s24.trans (s25.trans (s26.trans s27))))⟩
def aK.p (F:Nat) (ac:List (Int×Int×Int×Int×Int)) (ab:Int):Option (Int×Int×List Int):=(ae.p F ac ab).bind fun r3=>(bB.p F (ac.length:Int) r3.2).bind fun r5=>aK.pl61 F F ac r3.1 r3.2 r5.1 r5.2.1 r5.2.2 0
theorem aK.P {F:Nat} {ap:ON} {ag:Nat} {aq:Cap} {ac:List (Int×Int×Int×Int×Int)} {ab:Int} {H:Hp} {R0:List Rs} (aY:ag = ac.length) (h0:Inn H R0 fun R=>ROs (ePair (eInt .i64) (ePair (eInt .i64) (ePair (eInt .i64) (ePair (eInt .i64) (eInt .i64))))) H R ⟨ap,ag,aq⟩ ac) {r:Int×Int×List Int} (hp:aK.p F ac ab = some r):∃ v H',aK.tw F ⟨ap,ag,aq⟩ ab H = some (v,H')∧aK.Q H R0 R0  r v H':=by
 obtain ⟨w0,aG⟩:=h0
 subst aY
 unfold aK.p at hp
 unfold aK.tw aK.twX
 have s0:=w0.rf
 refine new_k w0 fun H1 w1 s1=>?_
 refine new_k w1 fun H2 w2 s2=>?_
 refine bind_ex (ldSl_of (w2.ld (i:=1) rfl rfl)) ?_
 refine bind_ex (ldI_of (w2.ld (i:=1) rfl rfl)) ?_
 obtain ⟨r3,e3,hp⟩:=bind_some' hp
 refine call_ex (ae.P rfl ⟨w2,(aG.step (s1.trans s2))⟩ e3) ?_
 rintro _ H4 ⟨o0a_4,o0n_4,o0c_4,o0k_4,rfl,rfl,w4,s4,f4_0⟩
 refine bind_ex rfl ?_
 refine bind_ex rfl ?_
 refine bind_ex rfl ?_
 refine bind_ex rfl ?_
 refine bind_ex rfl ?_
 refine bind_ex (ldSl_of (w4.ld (i:=2) rfl rfl)) ?_
 obtain ⟨r5,e5,hp⟩:=bind_some' hp
 refine call_ex (bB.P ⟨w4,trivial⟩ e5) ?_
 rintro _ H6 ⟨o2a_6,o2n_6,o2k_6,rfl,rfl,w6,s6,f6_0⟩
 refine bind_ex rfl ?_
 refine bind_ex rfl ?_
 refine bind_ex rfl ?_
 refine bind_ex rfl ?_
 refine bind_ex rfl ?_
 refine bind_ex rfl ?_
 refine bind_ex rfl ?_
 refine new_k w6 fun H7 w7 s7=>?_
 refine st_k w7 (i:=0) rfl rfl rfl fun H8 w8 s8=>?_
 dsimp only [List.set] at w8 s8
 refine st_k w8 (i:=0) rfl rfl rfl fun H9 w9 s9=>?_
 dsimp only [List.set] at w9 s9
 refine st_k w9 (i:=0) rfl rfl rfl fun H10 w10 s10=>?_
 dsimp only [List.set] at w10 s10
 obtain ⟨w11,s11⟩:=w10.nilS (eInt .i64).z (by decide)
 obtain ⟨w12,s12⟩:=w11.pick' [5,0,4,3,2,1] 6 rfl rfl rfl
 dsimp only [pk,pks,nth,List.drop] at w12 s12
 exact aK.l61_P F rfl rfl rfl rfl ⟨w12,(s0.trans (s1.trans (s2.trans (s4.trans (s6.trans (s7.trans (s8.trans (s9.trans (s10.trans (s11.trans s12)))))))))),(aG.step (s1.trans (s2.trans (s4.trans (s6.trans (s7.trans (s8.trans (s9.trans (s10.trans (s11.trans s12)))))))))),((CR.empty:CR (eInt .i64) _ _ [] []).step s12),(f4_0.step (s6.trans (s7.trans (s8.trans (s9.trans (s10.trans (s11.trans s12))))))),(f6_0.step (s7.trans (s8.trans (s9.trans (s10.trans (s11.trans s12))))))⟩ hp
def bu.Q (H0:Hp) (Ri R0:List Rs)  (r:Int×Int×List Int×Bool) (v:AV) (H':Hp):Prop:=∃ o2a:ON,∃ o2n:Nat,∃ o2c:Cap,∃ o2k:List AV,v = (.tup [(.agg [(.int .i64 r.1),(.int .i64 r.2.1),(.sl ⟨o2a,o2n,o2c⟩)]),(.bool r.2.2.2)])∧o2n = (r.2.2.1).length∧Out H0 Ri H' (Rs.own ⟨o2a,o2n,o2c⟩ (eInt .i64).z o2k :: R0) fun R=>CR (eInt .i64) H' R o2k (r.2.2.1)
def bu.p (F:Nat) (ac:List (Int×Int×Int×Int×Int)) (ab:Int):Option (Int×Int×List Int×Bool):=(bp.p F ac ab).bind fun r3=>(bif (!r3) then (some (0,0,([]:List Int),false)) else ((aK.p F ac ab).bind fun r10=>some (r10.1,r10.2.1,r10.2.2,true)))
theorem bu.P {F:Nat} {ap:ON} {ag:Nat} {aq:Cap} {ac:List (Int×Int×Int×Int×Int)} {ab:Int} {H:Hp} {R0:List Rs} (aY:ag = ac.length) (h0:Inn H R0 fun R=>ROs (ePair (eInt .i64) (ePair (eInt .i64) (ePair (eInt .i64) (ePair (eInt .i64) (eInt .i64))))) H R ⟨ap,ag,aq⟩ ac) {r:Int×Int×List Int×Bool} (hp:bu.p F ac ab = some r):∃ v H',bu.tw F ⟨ap,ag,aq⟩ ab H = some (v,H')∧bu.Q H R0 R0  r v H':=by
 obtain ⟨w0,aG⟩:=h0
 subst aY
 unfold bu.p at hp
 unfold bu.tw bu.twX
 have s0:=w0.rf
 refine new_k w0 fun H1 w1 s1=>?_
 refine new_k w1 fun H2 w2 s2=>?_
 refine bind_ex (ldSl_of (w2.ld (i:=1) rfl rfl)) ?_
 refine bind_ex (ldI_of (w2.ld (i:=1) rfl rfl)) ?_
 obtain ⟨r3,e3,hp⟩:=bind_some' hp
 refine call_ex (bp.P rfl ⟨w2,(aG.step (s1.trans s2))⟩ e3) ?_
 rintro _ H4 ⟨rfl,w4,s4,_⟩
 refine bind_ex rfl ?_
 refine bif_ex (fun hb=>?_) (fun hb=>?_)
 ·replace hp:=bif_t hb hp
  refine st_k w4 (i:=0) rfl rfl rfl fun H5 w5 s5=>?_
  dsimp only [List.set] at w5 s5
  refine st_k w5 (i:=0) rfl rfl rfl fun H6 w6 s6=>?_
  dsimp only [List.set] at w6 s6
  refine st_k w6 (i:=0) rfl rfl rfl fun H7 w7 s7=>?_
  dsimp only [List.set] at w7 s7
  refine bind_ex (ldI_of (w7.ld (i:=0) rfl rfl)) ?_
  refine bind_ex (ldI_of (w7.ld (i:=0) rfl rfl)) ?_
  refine bind_ex (ldSl_of (w7.ld (i:=0) rfl rfl)) ?_
  obtain ⟨w8,s8⟩:=w7.nilS (eInt .i64).z (by decide)
  obtain ⟨w9,s9⟩:=w8.pick' [0] 3 rfl rfl rfl
  dsimp only [pk,pks,nth,List.drop] at w9 s9
  obtain rfl:=Option.some.inj hp
  exact ⟨_,_,rfl,_,_,_,_,rfl,rfl,w9,(s0.trans (s1.trans (s2.trans (s4.trans (s5.trans (s6.trans (s7.trans (s8.trans s9)))))))),((CR.empty:CR (eInt .i64) _ _ [] []).step s9)⟩
 ·replace hp:=bif_f hb hp
  refine bind_ex (ldSl_of (w4.ld (i:=1) rfl rfl)) ?_
  refine bind_ex (ldI_of (w4.ld (i:=1) rfl rfl)) ?_
  obtain ⟨r10,e10,hp⟩:=bind_some' hp
  refine call_ex (aK.P rfl ⟨w4,(aG.step (s1.trans (s2.trans s4)))⟩ e10) ?_
  rintro _ H11 ⟨o2a_11,o2n_11,o2c_11,o2k_11,rfl,rfl,w11,s11,f11_0⟩
  refine bind_ex rfl ?_
  refine bind_ex rfl ?_
  refine bind_ex rfl ?_
  refine bind_ex rfl ?_
  refine bind_ex rfl ?_
  refine bind_ex rfl ?_
  refine bind_ex rfl ?_
  refine st_k w11 (i:=1) rfl rfl rfl fun H12 w12 s12=>?_
  dsimp only [List.set] at w12 s12
  refine st_k w12 (i:=1) rfl rfl rfl fun H13 w13 s13=>?_
  dsimp only [List.set] at w13 s13
  refine st_k w13 (i:=1) rfl rfl rfl fun H14 w14 s14=>?_
  dsimp only [List.set] at w14 s14
  refine bind_ex (ldI_of (w14.ld (i:=1) rfl rfl)) ?_
  refine bind_ex (ldI_of (w14.ld (i:=1) rfl rfl)) ?_
  refine bind_ex (ldSl_of (w14.ld (i:=1) rfl rfl)) ?_
  obtain ⟨w15,s15⟩:=w14.pick' [0] 3 rfl rfl rfl
  dsimp only [pk,pks,nth,List.drop] at w15 s15
  obtain rfl:=Option.some.inj hp
  exact ⟨_,_,rfl,_,_,_,_,rfl,rfl,w15,(s0.trans (s1.trans (s2.trans (s4.trans (s11.trans (s12.trans (s13.trans (s14.trans s15)))))))),(f11_0.step (s12.trans (s13.trans (s14.trans s15))))⟩
def aE.Q (H0:Hp) (Ri R0:List Rs)  (r:Int) (v:AV) (H':Hp):Prop:=v = (.int .i64 r)∧Out H0 Ri H' (R0) fun R=>True
def aE.p (F:Nat) (ac:List (Int×Int×Int×Int×Int)):Option (Int):=some (ac.length:Int)
theorem aE.P {F:Nat} {ap:ON} {ag:Nat} {aq:Cap} {ac:List (Int×Int×Int×Int×Int)} {H:Hp} {R0:List Rs} (aY:ag = ac.length) (h0:Inn H R0 fun R=>ROs (ePair (eInt .i64) (ePair (eInt .i64) (ePair (eInt .i64) (ePair (eInt .i64) (eInt .i64))))) H R ⟨ap,ag,aq⟩ ac) {r:Int} (hp:aE.p F ac = some r):∃ v H',aE.tw F ⟨ap,ag,aq⟩ H = some (v,H')∧aE.Q H R0 R0  r v H':=by
 obtain ⟨w0,aG⟩:=h0
 subst aY
 unfold aE.p at hp
 unfold aE.tw aE.twX
 have s0:=w0.rf
 obtain rfl:=Option.some.inj hp
 exact ⟨_,_,rfl,rfl,w0,s0,trivial⟩
def bf.Q (H0:Hp) (Ri R0:List Rs)  (r:Bool) (v:AV) (H':Hp):Prop:=v = (.bool r)∧Out H0 Ri H' (R0) fun R=>True
def bf.p (F:Nat) (aa:Int) (ad:Int) (bK:Int):Option (Bool):=(bif (decide (ad ≤ aa)) then (some (decide (aa ≤ bK))) else (some false))
theorem bf.P {F:Nat} {aa ad bK:Int} {H:Hp} {R0:List Rs}  (h0:Inn H R0 fun R=>True) {r:Bool} (hp:bf.p F aa ad bK = some r):∃ v H',bf.tw F aa ad bK H = some (v,H')∧bf.Q H R0 R0  r v H':=by
 obtain ⟨w0,_⟩:=h0
 unfold bf.p at hp
 unfold bf.tw bf.twX
 have s0:=w0.rf
 refine bif_ex (fun hb=>?_) (fun hb=>?_)
 ·replace hp:=bif_t hb hp
  obtain rfl:=Option.some.inj hp
  exact ⟨_,_,rfl,rfl,w0,s0,trivial⟩
 ·replace hp:=bif_f hb hp
  obtain rfl:=Option.some.inj hp
  exact ⟨_,_,rfl,rfl,w0,s0,trivial⟩
def bC.Q (H0:Hp) (Ri R0:List Rs)  (r:Bool) (v:AV) (H':Hp):Prop:=v = (.bool r)∧Out H0 Ri H' (R0) fun R=>True
def bC.p (F:Nat) (aw:Int):Option (Bool):=(bif (aw != 1) then (some (aw != (-1))) else (some false))
theorem bC.P {F:Nat} {aa ab ai ay aw:Int} {H:Hp} {R0:List Rs}  (h0:Inn H R0 fun R=>True) {r:Bool} (hp:bC.p F aw = some r):∃ v H',bC.tw F aa ab ai ay aw H = some (v,H')∧bC.Q H R0 R0  r v H':=by
 obtain ⟨w0,_⟩:=h0
 unfold bC.p at hp
 unfold bC.tw bC.twX
 have s0:=w0.rf
 refine new_k w0 fun H1 w1 s1=>?_
 refine bind_ex (ldI_of (w1.ld (i:=0) rfl rfl)) ?_
 refine bif_ex (fun hb=>?_) (fun hb=>?_)
 ·replace hp:=bif_t hb hp
  refine bind_ex (ldI_of (w1.ld (i:=0) rfl rfl)) ?_
  obtain ⟨w2,s2⟩:=w1.pick' [] 1 rfl rfl rfl
  dsimp only [pk,pks,nth,List.drop] at w2 s2
  obtain rfl:=Option.some.inj hp
  exact ⟨_,_,rfl,rfl,w2,(s0.trans (s1.trans s2)),trivial⟩
 ·replace hp:=bif_f hb hp
  obtain ⟨w3,s3⟩:=w1.pick' [] 1 rfl rfl rfl
  dsimp only [pk,pks,nth,List.drop] at w3 s3
  obtain rfl:=Option.some.inj hp
  exact ⟨_,_,rfl,rfl,w3,(s0.trans (s1.trans s3)),trivial⟩
def aL.Q (H0:Hp) (Ri R0:List Rs)  (r:Int) (v:AV) (H':Hp):Prop:=v = (.int .i64 r)∧Out H0 Ri H' (R0) fun R=>True
def aL.S13 (H0:Hp) (Ri R0:List Rs)  (C:Sl→Int→Int→Hp→OA) (pC:List (Int×Int×Int×Int×Int)→Int→Int→Option (Int)):Prop:=∀ {pE:ON} {lY:Nat} {pF:Cap} {ir:List (Int×Int×Int×Int×Int)} {eo dL:Int},∀ {H:Hp},lY = ir.length→(Out H0 Ri H R0 fun R=>ROs (ePair (eInt .i64) (ePair (eInt .i64) (ePair (eInt .i64) (ePair (eInt .i64) (eInt .i64))))) H R ⟨pE,lY,pF⟩ ir)→∀ {r:Int},pC ir eo dL = some r→∃ v H',C ⟨pE,lY,pF⟩ eo dL H = some (v,H')∧aL.Q H0 Ri R0  r v H'
def aL.pl13 (F:Nat) :Nat→List (Int×Int×Int×Int×Int)→Int→Int→Option (Int)
 | 0,_,_,_=>none
 | k + 1,ir,eo,dL=>(bif (decide (dL < eo)) then ((ix ir dL).bind fun n1=>(bC.p F ((gt ir n1).2.2.2.2)).bind fun r2=>(bif r2 then (some dL) else (aL.pl13 F k ir eo (IntKind.i64.wrap (dL + 1))))) else (some (-1)))
termination_by structural n=>n
theorem aL.l13_P {F:Nat} {H0:Hp} {Ri R0:List Rs}  :∀ k,aL.S13 H0 Ri R0  (aL.l13 F (bC.tw F)  k) (aL.pl13 F  k):=by
 intro k
 induction k with
 | zero=>
  intro pE lY pF ir eo dL H wv h0 r hp
  exact nomatch (show (none:Option (Int)) = some r from hp)
 | succ k ih=>
  intro pE lY pF ir eo dL H wv h0 r hp
  obtain ⟨w0,s0,ww⟩:=h0
  subst wv
  unfold aL.pl13 at hp
  unfold aL.l13
  refine bif_ex (fun hb=>?_) (fun hb=>?_)
  ·replace hp:=bif_t hb hp
   obtain ⟨n1,g1,hp⟩:=bind_some' hp
   obtain ⟨p1,q1,i1,h1,j1⟩:=ROs.ixr ww rfl g1
   refine bind_ex i1 ?_
   obtain ⟨_,_,rfl,rfl,_,_,rfl,rfl,_,_,rfl,rfl,_,_,rfl,rfl,rfl⟩:=h1
   refine bind_ex (ldI_of (j1 0 _ rfl)) ?_
   refine bind_ex (ldI_of (j1 1 _ rfl)) ?_
   refine bind_ex (ldI_of (j1 2 _ rfl)) ?_
   refine bind_ex (ldI_of (j1 3 _ rfl)) ?_
   refine bind_ex (ldI_of (j1 4 _ rfl)) ?_
   obtain ⟨r2,e2,hp⟩:=bind_some' hp
   refine call_ex (bC.P ⟨w0,trivial⟩ e2) ?_
   rintro _ H3 ⟨rfl,w3,s3,_⟩
   refine bind_ex rfl ?_
   refine bif_ex (fun hb=>?_) (fun hb=>?_)
   ·replace hp:=bif_t hb hp
    obtain rfl:=Option.some.inj hp
    exact ⟨_,_,rfl,rfl,w3,(s0.trans s3),trivial⟩
   ·replace hp:=bif_f hb hp
    exact ih rfl ⟨w3,(s0.trans s3),(ww.step s3)⟩ hp
  ·replace hp:=bif_f hb hp
   obtain rfl:=Option.some.inj hp
   exact ⟨_,_,rfl,rfl,w0,s0,trivial⟩
def aL.p (F:Nat) (ac:List (Int×Int×Int×Int×Int)):Option (Int):=aL.pl13 F F ac (ac.length:Int) 0
theorem aL.P {F:Nat} {ap:ON} {ag:Nat} {aq:Cap} {ac:List (Int×Int×Int×Int×Int)} {H:Hp} {R0:List Rs} (aY:ag = ac.length) (h0:Inn H R0 fun R=>ROs (ePair (eInt .i64) (ePair (eInt .i64) (ePair (eInt .i64) (ePair (eInt .i64) (eInt .i64))))) H R ⟨ap,ag,aq⟩ ac) {r:Int} (hp:aL.p F ac = some r):∃ v H',aL.tw F ⟨ap,ag,aq⟩ H = some (v,H')∧aL.Q H R0 R0  r v H':=by
 obtain ⟨w0,aG⟩:=h0
 subst aY
 unfold aL.p at hp
 unfold aL.tw aL.twX
 have s0:=w0.rf
 exact aL.l13_P F rfl ⟨w0,s0,aG⟩ hp
def bv.Q (H0:Hp) (Ri R0:List Rs)  (r:Bool) (v:AV) (H':Hp):Prop:=v = (.bool r)∧Out H0 Ri H' (R0) fun R=>True
def bv.p (F:Nat) (ac:List (Int×Int×Int×Int×Int)):Option (Bool):=(aL.p F ac).bind fun r1=>some (decide (r1 ≥ 0))
theorem bv.P {F:Nat} {ap:ON} {ag:Nat} {aq:Cap} {ac:List (Int×Int×Int×Int×Int)} {H:Hp} {R0:List Rs} (aY:ag = ac.length) (h0:Inn H R0 fun R=>ROs (ePair (eInt .i64) (ePair (eInt .i64) (ePair (eInt .i64) (ePair (eInt .i64) (eInt .i64))))) H R ⟨ap,ag,aq⟩ ac) {r:Bool} (hp:bv.p F ac = some r):∃ v H',bv.tw F ⟨ap,ag,aq⟩ H = some (v,H')∧bv.Q H R0 R0  r v H':=by
 obtain ⟨w0,aG⟩:=h0
 subst aY
 unfold bv.p at hp
 unfold bv.tw bv.twX
 have s0:=w0.rf
 obtain ⟨r1,e1,hp⟩:=bind_some' hp
 refine call_ex (aL.P rfl ⟨w0,aG⟩ e1) ?_
 rintro _ H2 ⟨rfl,w2,s2,_⟩
 refine bind_ex rfl ?_
 obtain rfl:=Option.some.inj hp
 exact ⟨_,_,rfl,rfl,w2,(s0.trans s2),trivial⟩
def bits_Mul64.Q (H0:Hp) (Ri R0:List Rs)  (r:Int×Int) (v:AV) (H':Hp):Prop:=v = (.tup [(.int .u64 r.1),(.int .u64 r.2)])∧Out H0 Ri H' (R0) fun R=>True
def bits_Mul64.p (F:Nat) (aa:Int) (ad:Int):Option (Int×Int):=some ((IntKind.u64.wrap ((IntKind.u64.wrap ((IntKind.u64.wrap ((Int.fdiv aa (2 ^ (min (32:Int).toNat (IntKind.u64).bits))) * (Int.fdiv ad (2 ^ (min (32:Int).toNat (IntKind.u64).bits))))) + (Int.fdiv (IntKind.u64.wrap ((IntKind.u64.wrap ((Int.fdiv aa (2 ^ (min (32:Int).toNat (IntKind.u64).bits))) * (Go.bits .and .u64 ad 4294967295))) + (Int.fdiv (IntKind.u64.wrap ((Go.bits .and .u64 aa 4294967295) * (Go.bits .and .u64 ad 4294967295))) (2 ^ (min (32:Int).toNat (IntKind.u64).bits))))) (2 ^ (min (32:Int).toNat (IntKind.u64).bits))))) + (Int.fdiv (IntKind.u64.wrap ((Go.bits .and .u64 (IntKind.u64.wrap ((IntKind.u64.wrap ((Int.fdiv aa (2 ^ (min (32:Int).toNat (IntKind.u64).bits))) * (Go.bits .and .u64 ad 4294967295))) + (Int.fdiv (IntKind.u64.wrap ((Go.bits .and .u64 aa 4294967295) * (Go.bits .and .u64 ad 4294967295))) (2 ^ (min (32:Int).toNat (IntKind.u64).bits))))) 4294967295) + (IntKind.u64.wrap ((Go.bits .and .u64 aa 4294967295) * (Int.fdiv ad (2 ^ (min (32:Int).toNat (IntKind.u64).bits))))))) (2 ^ (min (32:Int).toNat (IntKind.u64).bits))))),(IntKind.u64.wrap (aa * ad)))
theorem bits_Mul64.P {F:Nat} {aa ad:Int} {H:Hp} {R0:List Rs}  (h0:Inn H R0 fun R=>True) {r:Int×Int} (hp:bits_Mul64.p F aa ad = some r):∃ v H',bits_Mul64.tw F aa ad H = some (v,H')∧bits_Mul64.Q H R0 R0  r v H':=by
 obtain ⟨w0,_⟩:=h0
 unfold bits_Mul64.p at hp
 unfold bits_Mul64.tw bits_Mul64.twX
 have s0:=w0.rf
 obtain rfl:=Option.some.inj hp
 exact ⟨_,_,rfl,rfl,w0,s0,trivial⟩
def bits_Mul.Q (H0:Hp) (Ri R0:List Rs)  (r:Int×Int) (v:AV) (H':Hp):Prop:=v = (.tup [(.int .u64 r.1),(.int .u64 r.2)])∧Out H0 Ri H' (R0) fun R=>True
def bits_Mul.p (F:Nat) (aa:Int) (ad:Int):Option (Int×Int):=(bits_Mul64.p F aa ad).bind fun r1=>some (r1.1,r1.2)
theorem bits_Mul.P {F:Nat} {aa ad:Int} {H:Hp} {R0:List Rs}  (h0:Inn H R0 fun R=>True) {r:Int×Int} (hp:bits_Mul.p F aa ad = some r):∃ v H',bits_Mul.tw F aa ad H = some (v,H')∧bits_Mul.Q H R0 R0  r v H':=by
 obtain ⟨w0,_⟩:=h0
 unfold bits_Mul.p at hp
 unfold bits_Mul.tw bits_Mul.twX
 have s0:=w0.rf
 obtain ⟨r1,e1,hp⟩:=bind_some' hp
 refine call_ex (bits_Mul64.P ⟨w0,trivial⟩ e1) ?_
 rintro _ H2 ⟨rfl,w2,s2,_⟩
 refine bind_ex rfl ?_
 refine bind_ex rfl ?_
 refine bind_ex rfl ?_
 refine bind_ex rfl ?_
 refine bind_ex rfl ?_
 obtain rfl:=Option.some.inj hp
 exact ⟨_,_,rfl,rfl,w2,(s0.trans s2),trivial⟩
def aA.Q (H0:Hp) (Ri R0:List Rs)  (r:(List (Int×Int))) (v:AV) (H':Hp):Prop:=∃ o0a:ON,∃ o0n:Nat,∃ o0k:List AV,v = (.sl ⟨o0a,o0n,.ex o0n⟩)∧o0n = (r).length∧Out H0 Ri H' (Rs.own ⟨o0a,o0n,.ex o0n⟩ (ePair (eInt .i64) (eInt .i64)).z o0k :: R0) fun R=>CR (ePair (eInt .i64) (eInt .i64)) H' R o0k (r)
def aA.pj1 (F:Nat)  (km:List (Int×Int)) (jk:Int):Option ((List (Int×Int))):=(mkn (IntKind.i64.wrap jk) ((0:Int),(0:Int))).bind fun l1=>(some (cpl l1 km)).bind fun l3=>(rept F l3 ((min km.length l1.length:Nat):Int)).bind fun l5=>some l5
theorem aA.j1_P {F:Nat} {H0:Hp} {Ri R0:List Rs}   {wx:ON} {sC:Nat} {wy:Cap} {km:List (Int×Int)} {jk:Int} {H:Hp} (AY:sC = km.length) (h0:Out H0 Ri H R0 fun R=>ROs (ePair (eInt .i64) (eInt .i64)) H R ⟨wx,sC,wy⟩ km) {r:(List (Int×Int))} (hp:aA.pj1 F  km jk = some r):∃ v H',aA.j1 F (bits_Mul.tw F)  ⟨wx,sC,wy⟩ jk H = some (v,H')∧aA.Q H0 Ri R0  r v H':=by
 obtain ⟨w0,s0,AZ⟩:=h0
 subst AY
 unfold aA.pj1 at hp
 unfold aA.j1
 obtain ⟨l1,e1,hp⟩:=bind_some' hp
 refine mk_k (ePair (eInt .i64) (eInt .i64)) ((0:Int),(0:Int)) w0 ⟨[_],_,rfl,rfl,rfl⟩ rfl rfl e1 fun H2 k2 w2 s2 c2=>?_
 obtain ⟨x3,h3,c3⟩:=(AZ.step s2).row (z:=(ePair (eInt .i64) (eInt .i64)).z) rfl
 obtain ⟨l3,e3,hp⟩:=bind_some' hp
 refine cpy_k (ePair (eInt .i64) (eInt .i64)) w2 (i:=0) rfl rfl c2 h3 c3 rfl rfl e3 fun k4 H4 w4 s4 c4=>?_
 dsimp only [List.set] at w4 s4 c4
 obtain ⟨l5,e5,hp⟩:=bind_some' hp
 refine rept_K (ePair (eInt .i64) (eInt .i64)) rfl (L:=aA.l254 F (bits_Mul.tw F)) (fun _ _ _ _=>rfl) w4 (i:=0) rfl c4 e5 fun H6 k6 w6 s6 c6=>?_
 dsimp only [List.set] at w6 s6 c6
 obtain rfl:=Option.some.inj hp
 exact ⟨_,_,rfl,_,_,_,rfl,((cpl_len e3).symm.trans (rept_len e5).symm),w6,(s0.trans (s2.trans (s4.trans s6))),c6⟩
def aA.pj2 (F:Nat)  (kn:List (Int×Int)) (ka:Int):Option ((List (Int×Int))):=(bits_Mul.p F (IntKind.u64.wrap (kn.length:Int)) (IntKind.u64.wrap ka)).bind fun r1=>(bif (decide (r1.1 > 0)) then (none) else ((bif (decide (r1.2 > 9223372036854775807)) then (none) else (aA.pj1 F kn r1.2))))
theorem aA.j2_P {F:Nat} {H0:Hp} {Ri R0:List Rs}   {wz:ON} {sD:Nat} {wA:Cap} {kn:List (Int×Int)} {ka:Int} {H:Hp} (A_:sD = kn.length) (h0:Out H0 Ri H R0 fun R=>ROs (ePair (eInt .i64) (eInt .i64)) H R ⟨wz,sD,wA⟩ kn) {r:(List (Int×Int))} (hp:aA.pj2 F  kn ka = some r):∃ v H',aA.j2 F (bits_Mul.tw F)  ⟨wz,sD,wA⟩ ka H = some (v,H')∧aA.Q H0 Ri R0  r v H':=by
 obtain ⟨w0,s0,Ba⟩:=h0
 subst A_
 unfold aA.pj2 at hp
 unfold aA.j2
 obtain ⟨r1,e1,hp⟩:=bind_some' hp
 refine call_ex (bits_Mul.P ⟨w0,trivial⟩ e1) ?_
 rintro _ H2 ⟨rfl,w2,s2,_⟩
 refine bind_ex rfl ?_
 refine bind_ex rfl ?_
 refine bind_ex rfl ?_
 refine bind_ex rfl ?_
 refine bind_ex rfl ?_
 refine bif_ex (fun hb=>?_) (fun hb=>?_)
 ·replace hp:=bif_t hb hp
  cases hp
 ·replace hp:=bif_f hb hp
  refine bif_ex (fun hb=>?_) (fun hb=>?_)
  ·replace hp:=bif_t hb hp
   cases hp
  ·replace hp:=bif_f hb hp
   exact aA.j1_P rfl ⟨w2,(s0.trans s2),(Ba.step s2)⟩ hp
def aA.p (F:Nat) (ac:List (Int×Int)) (ad:Int):Option ((List (Int×Int))):=(bif (decide (ad < 0)) then (none) else (aA.pj2 F ac ad))
theorem aA.P {F:Nat} {ap:ON} {ag:Nat} {aq:Cap} {ac:List (Int×Int)} {ad:Int} {H:Hp} {R0:List Rs} (aY:ag = ac.length) (h0:Inn H R0 fun R=>ROs (ePair (eInt .i64) (eInt .i64)) H R ⟨ap,ag,aq⟩ ac) {r:(List (Int×Int))} (hp:aA.p F ac ad = some r):∃ v H',aA.tw F ⟨ap,ag,aq⟩ ad H = some (v,H')∧aA.Q H R0 R0  r v H':=by
 obtain ⟨w0,aG⟩:=h0
 subst aY
 unfold aA.p at hp
 unfold aA.tw aA.twX
 have s0:=w0.rf
 refine bif_ex (fun hb=>?_) (fun hb=>?_)
 ·replace hp:=bif_t hb hp
  cases hp
 ·replace hp:=bif_f hb hp
  exact aA.j2_P rfl ⟨w0,s0,aG⟩ hp
def bc.Q (H0:Hp) (Ri R0:List Rs)  (r:Int×Int×Int×Int) (v:AV) (H':Hp):Prop:=v = (.agg [(.int .i64 r.1),(.int .i64 r.2.1),(.int .i64 r.2.2.1),(.int .i64 r.2.2.2)])∧Out H0 Ri H' (R0) fun R=>True
def bc.p (F:Nat) (aa:Int) (ab:Int) (ai:Int) (ay:Int):Option (Int×Int×Int×Int):=some (aa,ab,ai,ay)
theorem bc.P {F:Nat} {aa ab ai ay aw:Int} {H:Hp} {R0:List Rs}  (h0:Inn H R0 fun R=>True) {r:Int×Int×Int×Int} (hp:bc.p F aa ab ai ay = some r):∃ v H',bc.tw F aa ab ai ay aw H = some (v,H')∧bc.Q H R0 R0  r v H':=by
 obtain ⟨w0,_⟩:=h0
 unfold bc.p at hp
 unfold bc.tw bc.twX
 have s0:=w0.rf
 refine new_k w0 fun H1 w1 s1=>?_
 refine new_k w1 fun H2 w2 s2=>?_
 refine bind_ex (ldI_of (w2.ld (i:=1) rfl rfl)) ?_
 refine bind_ex (ldI_of (w2.ld (i:=1) rfl rfl)) ?_
 refine bind_ex (ldI_of (w2.ld (i:=1) rfl rfl)) ?_
 refine bind_ex (ldI_of (w2.ld (i:=1) rfl rfl)) ?_
 refine st_k w2 (i:=0) rfl rfl rfl fun H3 w3 s3=>?_
 dsimp only [List.set] at w3 s3
 refine st_k w3 (i:=0) rfl rfl rfl fun H4 w4 s4=>?_
 dsimp only [List.set] at w4 s4
 refine st_k w4 (i:=0) rfl rfl rfl fun H5 w5 s5=>?_
 dsimp only [List.set] at w5 s5
 refine st_k w5 (i:=0) rfl rfl rfl fun H6 w6 s6=>?_
 dsimp only [List.set] at w6 s6
 refine bind_ex (ldI_of (w6.ld (i:=0) rfl rfl)) ?_
 refine bind_ex (ldI_of (w6.ld (i:=0) rfl rfl)) ?_
 refine bind_ex (ldI_of (w6.ld (i:=0) rfl rfl)) ?_
 refine bind_ex (ldI_of (w6.ld (i:=0) rfl rfl)) ?_
 obtain ⟨w7,s7⟩:=w6.pick' [] 2 rfl rfl rfl
 dsimp only [pk,pks,nth,List.drop] at w7 s7
 obtain rfl:=Option.some.inj hp
 exact ⟨_,_,rfl,rfl,w7,(s0.trans (s1.trans (s2.trans (s3.trans (s4.trans (s5.trans (s6.trans s7))))))),trivial⟩
def bd.Q (H0:Hp) (Ri R0:List Rs)  (r:Bool) (v:AV) (H':Hp):Prop:=v = (.bool r)∧Out H0 Ri H' (R0) fun R=>True
def bd.p (F:Nat) (aw:Int) (aJ:Int):Option (Bool):=(bif (aJ == 0) then (some true) else (some (aJ == (IntKind.i64.wrap (2 + aw)))))
theorem bd.P {F:Nat} {aa ab ai ay aw aJ:Int} {H:Hp} {R0:List Rs}  (h0:Inn H R0 fun R=>True) {r:Bool} (hp:bd.p F aw aJ = some r):∃ v H',bd.tw F aa ab ai ay aw aJ H = some (v,H')∧bd.Q H R0 R0  r v H':=by
 obtain ⟨w0,_⟩:=h0
 unfold bd.p at hp
 unfold bd.tw bd.twX
 have s0:=w0.rf
 refine new_k w0 fun H1 w1 s1=>?_
 refine bif_ex (fun hb=>?_) (fun hb=>?_)
 ·replace hp:=bif_t hb hp
  obtain ⟨w2,s2⟩:=w1.pick' [] 1 rfl rfl rfl
  dsimp only [pk,pks,nth,List.drop] at w2 s2
  obtain rfl:=Option.some.inj hp
  exact ⟨_,_,rfl,rfl,w2,(s0.trans (s1.trans s2)),trivial⟩
 ·replace hp:=bif_f hb hp
  refine bind_ex (ldI_of (w1.ld (i:=0) rfl rfl)) ?_
  obtain ⟨w3,s3⟩:=w1.pick' [] 1 rfl rfl rfl
  dsimp only [pk,pks,nth,List.drop] at w3 s3
  obtain rfl:=Option.some.inj hp
  exact ⟨_,_,rfl,rfl,w3,(s0.trans (s1.trans s3)),trivial⟩
def bG.Q (H0:Hp) (Ri R0:List Rs)  (r:Int) (v:AV) (H':Hp):Prop:=v = (.int .i64 r)∧Out H0 Ri H' (R0) fun R=>True
def bG.p (F:Nat) (ac:List (Int×Int)):Option (Int):=some (ac.length:Int)
theorem bG.P {F:Nat} {ap:ON} {ag:Nat} {aq:Cap} {ac:List (Int×Int)} {H:Hp} {R0:List Rs} (aY:ag = ac.length) (h0:Inn H R0 fun R=>ROs (ePair (eInt .i64) (eInt .i64)) H R ⟨ap,ag,aq⟩ ac) {r:Int} (hp:bG.p F ac = some r):∃ v H',bG.tw F ⟨ap,ag,aq⟩ H = some (v,H')∧bG.Q H R0 R0  r v H':=by
 obtain ⟨w0,aG⟩:=h0
 subst aY
 unfold bG.p at hp
 unfold bG.tw bG.twX
 have s0:=w0.rf
 obtain rfl:=Option.some.inj hp
 exact ⟨_,_,rfl,rfl,w0,s0,trivial⟩
def bn.Q (H0:Hp) (Ri R0:List Rs)  (r:Bool) (v:AV) (H':Hp):Prop:=v = (.bool r)∧Out H0 Ri H' (R0) fun R=>True
def bn.p (F:Nat) (ac:List (Int×Int)) (ad:Int):Option (Bool):=(bG.p F ac).bind fun r1=>(bf.p F ad 0 (IntKind.i64.wrap (r1 - 1))).bind fun r3=>some r3
theorem bn.P {F:Nat} {ap:ON} {ag:Nat} {aq:Cap} {ac:List (Int×Int)} {ad:Int} {H:Hp} {R0:List Rs} (aY:ag = ac.length) (h0:Inn H R0 fun R=>ROs (ePair (eInt .i64) (eInt .i64)) H R ⟨ap,ag,aq⟩ ac) {r:Bool} (hp:bn.p F ac ad = some r):∃ v H',bn.tw F ⟨ap,ag,aq⟩ ad H = some (v,H')∧bn.Q H R0 R0  r v H':=by
 obtain ⟨w0,aG⟩:=h0
 subst aY
 unfold bn.p at hp
 unfold bn.tw bn.twX
 have s0:=w0.rf
 obtain ⟨r1,e1,hp⟩:=bind_some' hp
 refine call_ex (bG.P rfl ⟨w0,aG⟩ e1) ?_
 rintro _ H2 ⟨rfl,w2,s2,_⟩
 refine bind_ex rfl ?_
 obtain ⟨r3,e3,hp⟩:=bind_some' hp
 refine call_ex (bf.P ⟨w2,trivial⟩ e3) ?_
 rintro _ H4 ⟨rfl,w4,s4,_⟩
 refine bind_ex rfl ?_
 obtain rfl:=Option.some.inj hp
 exact ⟨_,_,rfl,rfl,w4,(s0.trans (s2.trans s4)),trivial⟩
def ar.Q (H0:Hp) (Ri R0:List Rs)  (r:(List (Int×Int))×(List (Int×Int))×Bool) (v:AV) (H':Hp):Prop:=∃ o0a:ON,∃ o0n:Nat,∃ o0c:Cap,∃ o0k:List AV,∃ o1a:ON,∃ o1n:Nat,∃ o1c:Cap,∃ o1k:List AV,v = (.tup [(.agg [(.sl ⟨o0a,o0n,o0c⟩),(.sl ⟨o1a,o1n,o1c⟩)]),(.bool r.2.2)])∧o0n = (r.1).length∧o1n = (r.2.1).length∧Out H0 Ri H' (Rs.own ⟨o0a,o0n,o0c⟩ (ePair (eInt .i64) (eInt .i64)).z o0k :: Rs.own ⟨o1a,o1n,o1c⟩ (ePair (eInt .i64) (eInt .i64)).z o1k :: R0) fun R=>CR (ePair (eInt .i64) (eInt .i64)) H' R o0k (r.1)∧CR (ePair (eInt .i64) (eInt .i64)) H' R o1k (r.2.1)
def ar.S61 (H0:Hp) (Ri R0:List Rs)  (C:Nat→Nat→Nat→Nat→Sl→Int→Int→Hp→OA) (pC:List (Int×Int)→List (Int×Int)→List (Int×Int×Int×Int×Int)→Int→Int→Option ((List (Int×Int))×(List (Int×Int))×Bool)):Prop:=∀ {pG pH pI pJ pK:ON} {lZ l_ dN ma mb ep mc:Nat} {pL pM pN pO pP:Cap} {pQ pR iY iZ:List (Int×Int)} {pS pT pU pV:List AV} {ga:List (Int×Int×Int×Int×Int)} {er dO:Int},∀ {H:Hp},lZ = pQ.length→l_ = pR.length→ma = iY.length→mb = iZ.length→mc = ga.length→(Out H0 Ri H (Rs.own ⟨pG,lZ,pL⟩ (ePair (eInt .i64) (eInt .i64)).z pS :: Rs.own ⟨pH,l_,pM⟩ (ePair (eInt .i64) (eInt .i64)).z pT :: Rs.blk dN [.sl ⟨pG,lZ,pL⟩,.sl ⟨pH,l_,pM⟩] :: Rs.own ⟨pI,ma,pN⟩ (ePair (eInt .i64) (eInt .i64)).z pU :: Rs.own ⟨pJ,mb,pO⟩ (ePair (eInt .i64) (eInt .i64)).z pV :: Rs.blk ep [.sl ⟨pI,ma,pN⟩,.sl ⟨pJ,mb,pO⟩] :: R0) fun R=>CR (ePair (eInt .i64) (eInt .i64)) H R pS pQ∧CR (ePair (eInt .i64) (eInt .i64)) H R pT pR∧CR (ePair (eInt .i64) (eInt .i64)) H R pU iY∧CR (ePair (eInt .i64) (eInt .i64)) H R pV iZ∧ROs (ePair (eInt .i64) (ePair (eInt .i64) (ePair (eInt .i64) (ePair (eInt .i64) (eInt .i64))))) H R ⟨pK,mc,pP⟩ ga)→∀ {r:(List (Int×Int))×(List (Int×Int))×Bool},pC iY iZ ga er dO = some r→∃ v H',C dN 0 ep 0 ⟨pK,mc,pP⟩ er dO H = some (v,H')∧ar.Q H0 Ri R0  r v H'
def ar.S3931 (H0:Hp) (Ri R0:List Rs)  (C:Nat→Nat→Nat→Nat→Sl→Int→Int→Nat→Nat→Int→Int→Int→Int→Int→Int→Hp→OA) (pC:List (Int×Int)→List (Int×Int)→List (Int×Int×Int×Int×Int)→Int→Int→Int→Int→Int→Int→Int→Int→Int→Option ((List (Int×Int))×(List (Int×Int))×Bool)):Prop:=∀ {pW pX pY pZ p_:ON} {md mf bZ mg mh cl mi cW:Nat} {qd qe qf qg qh:Cap} {qi qj eP eQ:List (Int×Int)} {qk ql qn qo:List AV} {iu:List (Int×Int×Int×Int×Int)} {dq dM sE sF sG sH i_ cB cC cD cE cF b_:Int},∀ {H:Hp},md = qi.length→mf = qj.length→mg = eP.length→mh = eQ.length→mi = iu.length→(Out H0 Ri H (Rs.own ⟨pW,md,qd⟩ (ePair (eInt .i64) (eInt .i64)).z qk :: Rs.own ⟨pX,mf,qe⟩ (ePair (eInt .i64) (eInt .i64)).z ql :: Rs.blk bZ [.sl ⟨pW,md,qd⟩,.sl ⟨pX,mf,qe⟩] :: Rs.own ⟨pY,mg,qf⟩ (ePair (eInt .i64) (eInt .i64)).z qn :: Rs.own ⟨pZ,mh,qg⟩ (ePair (eInt .i64) (eInt .i64)).z qo :: Rs.blk cl [.sl ⟨pY,mg,qf⟩,.sl ⟨pZ,mh,qg⟩] :: Rs.blk cW [.int .i64 sE,.int .i64 sF,.int .i64 sG,.int .i64 sH,.int .i64 i_] :: R0) fun R=>CR (ePair (eInt .i64) (eInt .i64)) H R qk qi∧CR (ePair (eInt .i64) (eInt .i64)) H R ql qj∧CR (ePair (eInt .i64) (eInt .i64)) H R qn eP∧CR (ePair (eInt .i64) (eInt .i64)) H R qo eQ∧ROs (ePair (eInt .i64) (ePair (eInt .i64) (ePair (eInt .i64) (ePair (eInt .i64) (eInt .i64))))) H R ⟨p_,mi,qh⟩ iu)→∀ {r:(List (Int×Int))×(List (Int×Int))×Bool},pC eP eQ iu dq dM i_ cB cC cD cE cF b_ = some r→∃ v H',C bZ 0 cl 0 ⟨p_,mi,qh⟩ dq dM cW 0 cB cC cD cE cF b_ H = some (v,H')∧ar.Q H0 Ri R0  r v H'
def ar.pl3931 (F:Nat) (aH:List (Int×Int)→List (Int×Int)→List (Int×Int×Int×Int×Int)→Int→Int→Option ((List (Int×Int))×(List (Int×Int))×Bool)):Nat→List (Int×Int)→List (Int×Int)→List (Int×Int×Int×Int×Int)→Int→Int→Int→Int→Int→Int→Int→Int→Int→Option ((List (Int×Int))×(List (Int×Int))×Bool)
 | 0,_,_,_,_,_,_,_,_,_,_,_,_=>none
 | k + 1,eP,eQ,iu,dq,dM,i_,cB,cC,cD,cE,cF,b_=>(bif (decide (b_ < 4)) then ((if 0 ≤ b_∧b_ < (4:Int) then ((bd.p F i_ b_).bind fun r2=>(bif r2 then ((bn.p F eQ (gt ([cC,cD,cE,cF]:List Int) (b_:Int).toNat)).bind fun r6=>(bif (!r6) then (some (eP,eQ,false)) else ((ix eQ (gt ([cC,cD,cE,cF]:List Int) (b_:Int).toNat)).bind fun n12=>(bif (decide (((gt eQ n12).1) ≥ 0)) then (some (eP,eQ,false)) else ((ix eQ (gt ([cC,cD,cE,cF]:List Int) (b_:Int).toNat)).bind fun n16=>(some (eQ.set n16 (cB,(gt eQ n16).2))).bind fun l17=>(some (l17.set n16 ((gt l17 n16).1,b_))).bind fun l19=>ar.pl3931 F aH k eP l19 iu dq dM i_ cB cC cD cE cF (IntKind.i64.wrap (b_ + 1))))))) else ((bn.p F eP (gt ([cC,cD,cE,cF]:List Int) (b_:Int).toNat)).bind fun r24=>(bif (!r24) then (some (eP,eQ,false)) else ((ix eP (gt ([cC,cD,cE,cF]:List Int) (b_:Int).toNat)).bind fun n30=>(bif (decide (((gt eP n30).1) ≥ 0)) then (some (eP,eQ,false)) else ((ix eP (gt ([cC,cD,cE,cF]:List Int) (b_:Int).toNat)).bind fun n34=>(some (eP.set n34 (cB,(gt eP n34).2))).bind fun l35=>(some (l35.set n34 ((gt l35 n34).1,b_))).bind fun l37=>ar.pl3931 F aH k l37 eQ iu dq dM i_ cB cC cD cE cF (IntKind.i64.wrap (b_ + 1))))))))) else none)) else (aH eP eQ iu dq (IntKind.i64.wrap (dM + 1))))
termination_by structural n=>n
theorem ar.l3931_P {F:Nat} {H0:Hp} {Ri R0:List Rs}  {C61_:Nat→Nat→Nat→Nat→Sl→Int→Int→Hp→OA} {aH:List (Int×Int)→List (Int×Int)→List (Int×Int×Int×Int×Int)→Int→Int→Option ((List (Int×Int))×(List (Int×Int))×Bool)} (hC61:ar.S61 H0 Ri R0  C61_ aH):∀ k,ar.S3931 H0 Ri R0  (ar.l3931 F (aA.tw F) (bc.tw F) (bd.tw F) (bn.tw F) C61_ k) (ar.pl3931 F aH k):=by
 intro k
 induction k with
 | zero=>
  intro pW pX pY pZ p_ md mf bZ mg mh cl mi cW qd qe qf qg qh qi qj eP eQ qk ql qn qo iu dq dM sE sF sG sH i_ cB cC cD cE cF b_ H wB wC wD wE wF h0 r hp
  exact nomatch (show (none:Option ((List (Int×Int))×(List (Int×Int))×Bool)) = some r from hp)
 | succ k ih=>
  intro pW pX pY pZ p_ md mf bZ mg mh cl mi cW qd qe qf qg qh qi qj eP eQ qk ql qn qo iu dq dM sE sF sG sH i_ cB cC cD cE cF b_ H wB wC wD wE wF h0 r hp
  obtain ⟨w0,s0,sI,sJ,hT,hU,sK⟩:=h0
  subst wB
  subst wC
  subst wD
  subst wE
  subst wF
  unfold ar.pl3931 at hp
  unfold ar.l3931
  refine bif_ex (fun hb=>?_) (fun hb=>?_)
  ·replace hp:=bif_t hb hp
   obtain ⟨g1,hp⟩:=ifs_p hp
   refine ifs_ex g1 ?_
   refine bind_ex (a:=AV.int .i64 (gt ([cC,cD,cE,cF]:List Int) (b_:Int).toNat)) (by rw [Nat.mul_one]; exact arr_get (k:=.i64) (l:=[cC,cD,cE,cF]) rfl (by have:=g1; simp only [List.length_cons,List.length_nil]; omega)) ?_
   refine bind_ex rfl ?_
   refine bind_ex (ldSl_of (w0.ld (i:=5) rfl rfl)) ?_
   refine bind_ex (ldI_of (w0.ld (i:=6) rfl rfl)) ?_
   refine bind_ex (ldI_of (w0.ld (i:=6) rfl rfl)) ?_
   refine bind_ex (ldI_of (w0.ld (i:=6) rfl rfl)) ?_
   refine bind_ex (ldI_of (w0.ld (i:=6) rfl rfl)) ?_
   refine bind_ex (ldI_of (w0.ld (i:=6) rfl rfl)) ?_
   obtain ⟨r2,e2,hp⟩:=bind_some' hp
   refine call_ex (bd.P ⟨w0,trivial⟩ e2) ?_
   rintro _ H3 ⟨rfl,w3,s3,_⟩
   refine bind_ex rfl ?_
   refine bif_ex (fun hb=>?_) (fun hb=>?_)
   ·replace hp:=bif_t hb hp
    refine bind_ex (ldSl_of (w3.ld (i:=5) rfl rfl)) ?_
    obtain ⟨w4,s4⟩:=w3.pick' [4,0,1,2,3,5,6] 7 rfl rfl rfl
    dsimp only [pk,pks,nth,List.drop] at w4 s4
    have f5:=W.borrow1 (ePair (eInt .i64) (eInt .i64)) w4 (hU.step (s3.trans s4))
    obtain ⟨w5,s5⟩:=w4.right1
    obtain ⟨r6,e6,hp⟩:=bind_some' hp
    refine call_ex (bn.P rfl ⟨w5,f5⟩ e6) ?_
    rintro _ H7 ⟨rfl,w7,s7,_⟩
    obtain ⟨w8,s8⟩:=W.frame1 w4 w7 s7
    refine bind_ex rfl ?_
    refine bif_ex (fun hb=>?_) (fun hb=>?_)
    ·replace hp:=bif_t hb hp
     refine bind_ex (ldSl_of (w8.ld (i:=5) rfl rfl)) ?_
     refine bind_ex (ldSl_of (w8.ld (i:=5) rfl rfl)) ?_
     refine st_k w8 (i:=3) rfl rfl rfl fun H9 w9 s9=>?_
     dsimp only [List.set] at w9 s9
     refine st_k w9 (i:=3) rfl rfl rfl fun H10 w10 s10=>?_
     dsimp only [List.set] at w10 s10
     refine bind_ex (ldSl_of (w10.ld (i:=3) rfl rfl)) ?_
     refine bind_ex (ldSl_of (w10.ld (i:=3) rfl rfl)) ?_
     obtain ⟨w11,s11⟩:=w10.pick' [4,0] 7 rfl rfl rfl
     dsimp only [pk,pks,nth,List.drop] at w11 s11
     obtain rfl:=Option.some.inj hp
     exact ⟨_,_,rfl,_,_,_,_,_,_,_,_,rfl,rfl,rfl,w11,(s0.trans (s3.trans (s4.trans (s8.trans (s9.trans (s10.trans s11)))))),(hT.step (s3.trans (s4.trans (s8.trans (s9.trans (s10.trans s11)))))),(hU.step (s3.trans (s4.trans (s8.trans (s9.trans (s10.trans s11))))))⟩
    ·replace hp:=bif_f hb hp
     obtain ⟨n12,g12,hp⟩:=bind_some' hp
     obtain ⟨p12,q12,i12,h12,j12⟩:=W.ixo (E:=(ePair (eInt .i64) (eInt .i64))) w8 (i:=0) rfl rfl (hU.step (s3.trans (s4.trans s8))) g12
     refine bind_ex i12 ?_
     obtain ⟨_,_,rfl,rfl,rfl⟩:=h12
     refine bind_ex (ldI_of (j12 0 _ rfl)) ?_
     refine bif_ex (fun hb=>?_) (fun hb=>?_)
     ·replace hp:=bif_t hb hp
      refine bind_ex (ldSl_of (w8.ld (i:=5) rfl rfl)) ?_
      refine bind_ex (ldSl_of (w8.ld (i:=5) rfl rfl)) ?_
      refine st_k w8 (i:=3) rfl rfl rfl fun H13 w13 s13=>?_
      dsimp only [List.set] at w13 s13
      refine st_k w13 (i:=3) rfl rfl rfl fun H14 w14 s14=>?_
      dsimp only [List.set] at w14 s14
      refine bind_ex (ldSl_of (w14.ld (i:=3) rfl rfl)) ?_
      refine bind_ex (ldSl_of (w14.ld (i:=3) rfl rfl)) ?_
      obtain ⟨w15,s15⟩:=w14.pick' [4,0] 7 rfl rfl rfl
      dsimp only [pk,pks,nth,List.drop] at w15 s15
      obtain rfl:=Option.some.inj hp
      exact ⟨_,_,rfl,_,_,_,_,_,_,_,_,rfl,rfl,rfl,w15,(s0.trans (s3.trans (s4.trans (s8.trans (s13.trans (s14.trans s15)))))),(hT.step (s3.trans (s4.trans (s8.trans (s13.trans (s14.trans s15)))))),(hU.step (s3.trans (s4.trans (s8.trans (s13.trans (s14.trans s15))))))⟩
     ·replace hp:=bif_f hb hp
      obtain ⟨n16,g16,hp⟩:=bind_some' hp
      obtain ⟨p16,q16,i16,h16,j16⟩:=W.ixo (E:=(ePair (eInt .i64) (eInt .i64))) w8 (i:=0) rfl rfl (hU.step (s3.trans (s4.trans s8))) g16
      refine bind_ex i16 ?_
      obtain ⟨l17,e17,hp⟩:=bind_some' hp
      refine sto_k (ePair (eInt .i64) (eInt .i64)) w8 (i:=0) (j:=0) (p:=p16) rfl rfl (hU.step (s3.trans (s4.trans s8))) g16 i16 e17 rfl rfl (fun _ h=>by obtain ⟨_,_,rfl,rfl,rfl⟩:=h; exact ⟨[_],_,rfl,rfl,rfl⟩) fun H18 k18 w18 s18 c18=>?_
      dsimp only [List.set] at w18 s18 c18
      obtain ⟨l19,e19,hp⟩:=bind_some' hp
      refine sto_k (ePair (eInt .i64) (eInt .i64)) w18 (i:=0) (j:=1) (p:=p16) rfl rfl c18 (ix_len g16 (st_len e17)) i16 e19 rfl rfl (fun _ h=>by obtain ⟨_,_,rfl,rfl,rfl⟩:=h; exact ⟨[_],_,rfl,rfl,rfl⟩) fun H20 k20 w20 s20 c20=>?_
      dsimp only [List.set] at w20 s20 c20
      obtain ⟨w21,s21⟩:=w20.pick' [1,2,3,4,0,5,6] 7 rfl rfl rfl
      dsimp only [pk,pks,nth,List.drop] at w21 s21
      exact ih rfl rfl rfl ((st_len e17).symm.trans (st_len e19).symm) rfl ⟨w21,(s0.trans (s3.trans (s4.trans (s8.trans (s18.trans (s20.trans s21)))))),(sI.step (s3.trans (s4.trans (s8.trans (s18.trans (s20.trans s21)))))),(sJ.step (s3.trans (s4.trans (s8.trans (s18.trans (s20.trans s21)))))),(hT.step (s3.trans (s4.trans (s8.trans (s18.trans (s20.trans s21)))))),(c20.step s21),(sK.step (s3.trans (s4.trans (s8.trans (s18.trans (s20.trans s21))))))⟩ hp
   ·replace hp:=bif_f hb hp
    obtain ⟨w22,s22⟩:=w3.pick' [3,0,1,2,4,5,6] 7 rfl rfl rfl
    dsimp only [pk,pks,nth,List.drop] at w22 s22
    have f23:=W.borrow1 (ePair (eInt .i64) (eInt .i64)) w22 (hT.step (s3.trans s22))
    obtain ⟨w23,s23⟩:=w22.right1
    obtain ⟨r24,e24,hp⟩:=bind_some' hp
    refine call_ex (bn.P rfl ⟨w23,f23⟩ e24) ?_
    rintro _ H25 ⟨rfl,w25,s25,_⟩
    obtain ⟨w26,s26⟩:=W.frame1 w22 w25 s25
    refine bind_ex rfl ?_
    refine bif_ex (fun hb=>?_) (fun hb=>?_)
    ·replace hp:=bif_t hb hp
     refine bind_ex (ldSl_of (w26.ld (i:=5) rfl rfl)) ?_
     refine bind_ex (ldSl_of (w26.ld (i:=5) rfl rfl)) ?_
     refine st_k w26 (i:=3) rfl rfl rfl fun H27 w27 s27=>?_
     dsimp only [List.set] at w27 s27
     refine st_k w27 (i:=3) rfl rfl rfl fun H28 w28 s28=>?_
     dsimp only [List.set] at w28 s28
     refine bind_ex (ldSl_of (w28.ld (i:=3) rfl rfl)) ?_
     refine bind_ex (ldSl_of (w28.ld (i:=3) rfl rfl)) ?_
     obtain ⟨w29,s29⟩:=w28.pick' [0,4] 7 rfl rfl rfl
     dsimp only [pk,pks,nth,List.drop] at w29 s29
     obtain rfl:=Option.some.inj hp
     exact ⟨_,_,rfl,_,_,_,_,_,_,_,_,rfl,rfl,rfl,w29,(s0.trans (s3.trans (s22.trans (s26.trans (s27.trans (s28.trans s29)))))),(hT.step (s3.trans (s22.trans (s26.trans (s27.trans (s28.trans s29)))))),(hU.step (s3.trans (s22.trans (s26.trans (s27.trans (s28.trans s29))))))⟩
    ·replace hp:=bif_f hb hp
     obtain ⟨n30,g30,hp⟩:=bind_some' hp
     obtain ⟨p30,q30,i30,h30,j30⟩:=W.ixo (E:=(ePair (eInt .i64) (eInt .i64))) w26 (i:=0) rfl rfl (hT.step (s3.trans (s22.trans s26))) g30
     refine bind_ex i30 ?_
     obtain ⟨_,_,rfl,rfl,rfl⟩:=h30
     refine bind_ex (ldI_of (j30 0 _ rfl)) ?_
     refine bif_ex (fun hb=>?_) (fun hb=>?_)
     ·replace hp:=bif_t hb hp
      refine bind_ex (ldSl_of (w26.ld (i:=5) rfl rfl)) ?_
      refine bind_ex (ldSl_of (w26.ld (i:=5) rfl rfl)) ?_
      refine st_k w26 (i:=3) rfl rfl rfl fun H31 w31 s31=>?_
      dsimp only [List.set] at w31 s31
      refine st_k w31 (i:=3) rfl rfl rfl fun H32 w32 s32=>?_
      dsimp only [List.set] at w32 s32
      refine bind_ex (ldSl_of (w32.ld (i:=3) rfl rfl)) ?_
      refine bind_ex (ldSl_of (w32.ld (i:=3) rfl rfl)) ?_
      obtain ⟨w33,s33⟩:=w32.pick' [0,4] 7 rfl rfl rfl
      dsimp only [pk,pks,nth,List.drop] at w33 s33
      obtain rfl:=Option.some.inj hp
      exact ⟨_,_,rfl,_,_,_,_,_,_,_,_,rfl,rfl,rfl,w33,(s0.trans (s3.trans (s22.trans (s26.trans (s31.trans (s32.trans s33)))))),(hT.step (s3.trans (s22.trans (s26.trans (s31.trans (s32.trans s33)))))),(hU.step (s3.trans (s22.trans (s26.trans (s31.trans (s32.trans s33))))))⟩
     ·replace hp:=bif_f hb hp
      obtain ⟨n34,g34,hp⟩:=bind_some' hp
      obtain ⟨p34,q34,i34,h34,j34⟩:=W.ixo (E:=(ePair (eInt .i64) (eInt .i64))) w26 (i:=0) rfl rfl (hT.step (s3.trans (s22.trans s26))) g34
      refine bind_ex i34 ?_
      obtain ⟨l35,e35,hp⟩:=bind_some' hp
      refine sto_k (ePair (eInt .i64) (eInt .i64)) w26 (i:=0) (j:=0) (p:=p34) rfl rfl (hT.step (s3.trans (s22.trans s26))) g34 i34 e35 rfl rfl (fun _ h=>by obtain ⟨_,_,rfl,rfl,rfl⟩:=h; exact ⟨[_],_,rfl,rfl,rfl⟩) fun H36 k36 w36 s36 c36=>?_
      dsimp only [List.set] at w36 s36 c36
      obtain ⟨l37,e37,hp⟩:=bind_some' hp
      refine sto_k (ePair (eInt .i64) (eInt .i64)) w36 (i:=0) (j:=1) (p:=p34) rfl rfl c36 (ix_len g34 (st_len e35)) i34 e37 rfl rfl (fun _ h=>by obtain ⟨_,_,rfl,rfl,rfl⟩:=h; exact ⟨[_],_,rfl,rfl,rfl⟩) fun H38 k38 w38 s38 c38=>?_
      dsimp only [List.set] at w38 s38 c38
      obtain ⟨w39,s39⟩:=w38.pick' [1,2,3,0,4,5,6] 7 rfl rfl rfl
      dsimp only [pk,pks,nth,List.drop] at w39 s39
      exact ih rfl rfl ((st_len e35).symm.trans (st_len e37).symm) rfl rfl ⟨w39,(s0.trans (s3.trans (s22.trans (s26.trans (s36.trans (s38.trans s39)))))),(sI.step (s3.trans (s22.trans (s26.trans (s36.trans (s38.trans s39)))))),(sJ.step (s3.trans (s22.trans (s26.trans (s36.trans (s38.trans s39)))))),(c38.step s39),(hU.step (s3.trans (s22.trans (s26.trans (s36.trans (s38.trans s39)))))),(sK.step (s3.trans (s22.trans (s26.trans (s36.trans (s38.trans s39))))))⟩ hp
  ·replace hp:=bif_f hb hp
   obtain ⟨w40,s40⟩:=w0.pick' [0,1,2,3,4,5] 7 rfl rfl rfl
   dsimp only [pk,pks,nth,List.drop] at w40 s40
   exact hC61 rfl rfl rfl rfl rfl ⟨w40,(s0.trans s40),(sI.step s40),(sJ.step s40),(hT.step s40),(hU.step s40),(sK.step s40)⟩ hp
def ar.pl61 (F:Nat) :Nat→List (Int×Int)→List (Int×Int)→List (Int×Int×Int×Int×Int)→Int→Int→Option ((List (Int×Int))×(List (Int×Int))×Bool)
 | 0,_,_,_,_,_=>none
 | k + 1,iY,iZ,ga,er,dO=>(bif (decide (dO < er)) then ((ix ga dO).bind fun n1=>(bc.p F ((gt ga n1).1) ((gt ga n1).2.1) ((gt ga n1).2.2.1) ((gt ga n1).2.2.2.1)).bind fun r8=>ar.pl3931 F (ar.pl61 F k) F iY iZ ga er dO ((gt ga n1).2.2.2.2) dO r8.1 r8.2.1 r8.2.2.1 r8.2.2.2 0) else (some (iY,iZ,true)))
termination_by structural n=>n
theorem ar.l61_P {F:Nat} {H0:Hp} {Ri R0:List Rs}  :∀ k,ar.S61 H0 Ri R0  (ar.l61 F (aA.tw F) (bc.tw F) (bd.tw F) (bn.tw F)  k) (ar.pl61 F  k):=by
 intro k
 induction k with
 | zero=>
  intro pG pH pI pJ pK lZ l_ dN ma mb ep mc pL pM pN pO pP pQ pR iY iZ pS pT pU pV ga er dO H wG wH wI wJ wK h0 r hp
  exact nomatch (show (none:Option ((List (Int×Int))×(List (Int×Int))×Bool)) = some r from hp)
 | succ k ih=>
  intro pG pH pI pJ pK lZ l_ dN ma mb ep mc pL pM pN pO pP pQ pR iY iZ pS pT pU pV ga er dO H wG wH wI wJ wK h0 r hp
  obtain ⟨w0,s0,Bb,Bc,wL,wM,wN⟩:=h0
  subst wG
  subst wH
  subst wI
  subst wJ
  subst wK
  unfold ar.pl61 at hp
  unfold ar.l61
  refine bif_ex (fun hb=>?_) (fun hb=>?_)
  ·replace hp:=bif_t hb hp
   obtain ⟨n1,g1,hp⟩:=bind_some' hp
   obtain ⟨p1,q1,i1,h1,j1⟩:=ROs.ixr wN rfl g1
   refine bind_ex i1 ?_
   obtain ⟨_,_,rfl,rfl,_,_,rfl,rfl,_,_,rfl,rfl,_,_,rfl,rfl,rfl⟩:=h1
   refine bind_ex (ldI_of (j1 0 _ rfl)) ?_
   refine bind_ex (ldI_of (j1 1 _ rfl)) ?_
   refine bind_ex (ldI_of (j1 2 _ rfl)) ?_
   refine bind_ex (ldI_of (j1 3 _ rfl)) ?_
   refine bind_ex (ldI_of (j1 4 _ rfl)) ?_
   refine new_k w0 fun H2 w2 s2=>?_
   refine st_k w2 (i:=0) rfl rfl rfl fun H3 w3 s3=>?_
   dsimp only [List.set] at w3 s3
   refine st_k w3 (i:=0) rfl rfl rfl fun H4 w4 s4=>?_
   dsimp only [List.set] at w4 s4
   refine st_k w4 (i:=0) rfl rfl rfl fun H5 w5 s5=>?_
   dsimp only [List.set] at w5 s5
   refine st_k w5 (i:=0) rfl rfl rfl fun H6 w6 s6=>?_
   dsimp only [List.set] at w6 s6
   refine st_k w6 (i:=0) rfl rfl rfl fun H7 w7 s7=>?_
   dsimp only [List.set] at w7 s7
   refine bind_ex (ldI_of (w7.ld (i:=0) rfl rfl)) ?_
   refine bind_ex (ldI_of (w7.ld (i:=0) rfl rfl)) ?_
   refine bind_ex (ldI_of (w7.ld (i:=0) rfl rfl)) ?_
   refine bind_ex (ldI_of (w7.ld (i:=0) rfl rfl)) ?_
   refine bind_ex (ldI_of (w7.ld (i:=0) rfl rfl)) ?_
   obtain ⟨r8,e8,hp⟩:=bind_some' hp
   refine call_ex (bc.P ⟨w7,trivial⟩ e8) ?_
   rintro _ H9 ⟨rfl,w9,s9,_⟩
   refine bind_ex rfl ?_
   refine bind_ex rfl ?_
   refine bind_ex rfl ?_
   refine bind_ex rfl ?_
   refine bind_ex rfl ?_
   refine bind_ex rfl ?_
   refine bind_ex rfl ?_
   refine bind_ex rfl ?_
   refine bind_ex rfl ?_
   obtain ⟨w10,s10⟩:=w9.pick' [1,2,3,4,5,6,0] 7 rfl rfl rfl
   dsimp only [pk,pks,nth,List.drop] at w10 s10
   exact ar.l3931_P (@ih) F rfl rfl rfl rfl rfl ⟨w10,(s0.trans (s2.trans (s3.trans (s4.trans (s5.trans (s6.trans (s7.trans (s9.trans s10)))))))),(Bb.step (s2.trans (s3.trans (s4.trans (s5.trans (s6.trans (s7.trans (s9.trans s10)))))))),(Bc.step (s2.trans (s3.trans (s4.trans (s5.trans (s6.trans (s7.trans (s9.trans s10)))))))),(wL.step (s2.trans (s3.trans (s4.trans (s5.trans (s6.trans (s7.trans (s9.trans s10)))))))),(wM.step (s2.trans (s3.trans (s4.trans (s5.trans (s6.trans (s7.trans (s9.trans s10)))))))),(wN.step (s2.trans (s3.trans (s4.trans (s5.trans (s6.trans (s7.trans (s9.trans s10))))))))⟩ hp
  ·replace hp:=bif_f hb hp
   refine bind_ex (ldSl_of (w0.ld (i:=5) rfl rfl)) ?_
   refine bind_ex (ldSl_of (w0.ld (i:=5) rfl rfl)) ?_
   refine st_k w0 (i:=2) rfl rfl rfl fun H11 w11 s11=>?_
   dsimp only [List.set] at w11 s11
   refine st_k w11 (i:=2) rfl rfl rfl fun H12 w12 s12=>?_
   dsimp only [List.set] at w12 s12
   refine bind_ex (ldSl_of (w12.ld (i:=2) rfl rfl)) ?_
   refine bind_ex (ldSl_of (w12.ld (i:=2) rfl rfl)) ?_
   obtain ⟨w13,s13⟩:=w12.pick' [3,4] 6 rfl rfl rfl
   dsimp only [pk,pks,nth,List.drop] at w13 s13
   obtain rfl:=Option.some.inj hp
   exact ⟨_,_,rfl,_,_,_,_,_,_,_,_,rfl,rfl,rfl,w13,(s0.trans (s11.trans (s12.trans s13))),(wL.step (s11.trans (s12.trans s13))),(wM.step (s11.trans (s12.trans s13)))⟩
def ar.p (F:Nat) (ac:List (Int×Int×Int×Int×Int)):Option ((List (Int×Int))×(List (Int×Int))×Bool):=(aA.p F ([((-1),0)]:List (Int×Int)) (IntKind.i64.wrap (2 * (ac.length:Int)))).bind fun r5=>(aA.p F ([((-1),0)]:List (Int×Int)) (IntKind.i64.wrap (2 * (ac.length:Int)))).bind fun r10=>ar.pl61 F F r5 r10 ac (ac.length:Int) 0
theorem ar.P {F:Nat} {ap:ON} {ag:Nat} {aq:Cap} {ac:List (Int×Int×Int×Int×Int)} {ab:Int} {H:Hp} {R0:List Rs} (aY:ag = ac.length) (h0:Inn H R0 fun R=>ROs (ePair (eInt .i64) (ePair (eInt .i64) (ePair (eInt .i64) (ePair (eInt .i64) (eInt .i64))))) H R ⟨ap,ag,aq⟩ ac) {r:(List (Int×Int))×(List (Int×Int))×Bool} (hp:ar.p F ac = some r):∃ v H',ar.tw F ⟨ap,ag,aq⟩ ab H = some (v,H')∧ar.Q H R0 R0  r v H':=by
 obtain ⟨w0,aG⟩:=h0
 subst aY
 unfold ar.p at hp
 unfold ar.tw ar.twX
 have s0:=w0.rf
 refine new_k w0 fun H1 w1 s1=>?_
 refine new_k w1 fun H2 w2 s2=>?_
 refine bind_ex (ldSl_of (w2.ld (i:=1) rfl rfl)) ?_
 refine newS_k (ePair (eInt .i64) (eInt .i64)) w2 (n:=1) (l:=([((-1),0)]:List (Int×Int))) rfl (CR.cons (c:=[_,_]) ⟨[_],_,rfl,rfl,rfl⟩ CR.empty) rfl fun H3 w3 s3 c3=>?_
 have f4:=W.borrow1 (ePair (eInt .i64) (eInt .i64)) w3 c3
 obtain ⟨w4,s4⟩:=w3.right1
 obtain ⟨r5,e5,hp⟩:=bind_some' hp
 refine call_ex (aA.P (show 1 = List.length ([((-1),0)]:List (Int×Int)) from rfl) ⟨w4,f4⟩ e5) ?_
 rintro _ H6 ⟨o0a_6,o0n_6,o0k_6,rfl,rfl,w6,s6,f6_0⟩
 obtain ⟨w7,s7⟩:=W.frame1 w3 w6 s6
 refine bind_ex rfl ?_
 refine newS_k (ePair (eInt .i64) (eInt .i64)) w7 (n:=1) (l:=([((-1),0)]:List (Int×Int))) rfl (CR.cons (c:=[_,_]) ⟨[_],_,rfl,rfl,rfl⟩ CR.empty) rfl fun H8 w8 s8 c8=>?_
 have f9:=W.borrow1 (ePair (eInt .i64) (eInt .i64)) w8 c8
 obtain ⟨w9,s9⟩:=w8.right1
 obtain ⟨r10,e10,hp⟩:=bind_some' hp
 refine call_ex (aA.P (show 1 = List.length ([((-1),0)]:List (Int×Int)) from rfl) ⟨w9,f9⟩ e10) ?_
 rintro _ H11 ⟨o0a_11,o0n_11,o0k_11,rfl,rfl,w11,s11,f11_0⟩
 obtain ⟨w12,s12⟩:=W.frame1 w8 w11 s11
 refine bind_ex rfl ?_
 refine new_k w12 fun H13 w13 s13=>?_
 refine st_k w13 (i:=0) rfl rfl rfl fun H14 w14 s14=>?_
 dsimp only [List.set] at w14 s14
 refine st_k w14 (i:=0) rfl rfl rfl fun H15 w15 s15=>?_
 dsimp only [List.set] at w15 s15
 refine bind_ex (ldSl_of (w15.ld (i:=6) rfl rfl)) ?_
 obtain ⟨w16,s16⟩:=w15.nilS (ePair (eInt .i64) (eInt .i64)).z (by decide)
 obtain ⟨w17,s17⟩:=w16.nilS (ePair (eInt .i64) (eInt .i64)).z (by decide)
 obtain ⟨w18,s18⟩:=w17.pick' [1,0,7,6,4,2] 9 rfl rfl rfl
 dsimp only [pk,pks,nth,List.drop] at w18 s18
 exact ar.l61_P F rfl rfl rfl rfl rfl ⟨w18,(s0.trans (s1.trans (s2.trans (s3.trans (s7.trans (s8.trans (s12.trans (s13.trans (s14.trans (s15.trans (s16.trans (s17.trans s18)))))))))))),((CR.empty:CR (ePair (eInt .i64) (eInt .i64)) _ _ [] []).step (s17.trans s18)),((CR.empty:CR (ePair (eInt .i64) (eInt .i64)) _ _ [] []).step s18),((CR.flat (ePair_flat (eInt_flat .i64) (eInt_flat .i64)) f6_0).step (s8.trans (s12.trans (s13.trans (s14.trans (s15.trans (s16.trans (s17.trans s18)))))))),((CR.flat (ePair_flat (eInt_flat .i64) (eInt_flat .i64)) f11_0).step (s13.trans (s14.trans (s15.trans (s16.trans (s17.trans s18)))))),(aG.step (s1.trans (s2.trans (s3.trans (s7.trans (s8.trans (s12.trans (s13.trans (s14.trans (s15.trans (s16.trans (s17.trans s18))))))))))))⟩ hp
def bl.Q (H0:Hp) (Ri R0:List Rs)  (r:Int×Int) (v:AV) (H':Hp):Prop:=v = (.agg [(.int .i64 r.1),(.int .i64 r.2)])∧Out H0 Ri H' (R0) fun R=>True
def bl.p (F:Nat) (ac:List (Int×Int×Int×Int×Int)) (cT:List (Int×Int)) (eH:List (Int×Int)) (cm:Int) (dP:Int):Option (Int×Int):=(ix ac cm).bind fun n5=>(bc.p F ((gt ac n5).1) ((gt ac n5).2.1) ((gt ac n5).2.2.1) ((gt ac n5).2.2.2.1)).bind fun r12=>(if 0 ≤ dP∧dP < (4:Int) then ((bd.p F ((gt ac n5).2.2.2.2) dP).bind fun r16=>(bif r16 then ((ix cT (gt ([r12.1,r12.2.1,r12.2.2.1,r12.2.2.2]:List Int) (dP:Int).toNat)).bind fun n18=>some (((gt cT n18).1),((gt cT n18).2))) else ((ix eH (gt ([r12.1,r12.2.1,r12.2.2.1,r12.2.2.2]:List Int) (dP:Int).toNat)).bind fun n22=>some (((gt eH n22).1),((gt eH n22).2))))) else none)
theorem bl.P {F:Nat} {ap hK ja:ON} {ag fC hL:Nat} {aq hM jb:Cap} {ac:List (Int×Int×Int×Int×Int)} {ab cm dP:Int} {cT eH:List (Int×Int)} {H:Hp} {R0:List Rs} (aY:ag = ac.length) (jq:fC = cT.length) (mj:hL = eH.length) (h0:Inn H R0 fun R=>ROs (ePair (eInt .i64) (ePair (eInt .i64) (ePair (eInt .i64) (ePair (eInt .i64) (eInt .i64))))) H R ⟨ap,ag,aq⟩ ac∧ROs (ePair (eInt .i64) (eInt .i64)) H R ⟨hK,fC,hM⟩ cT∧ROs (ePair (eInt .i64) (eInt .i64)) H R ⟨ja,hL,jb⟩ eH) {r:Int×Int} (hp:bl.p F ac cT eH cm dP = some r):∃ v H',bl.tw F ⟨ap,ag,aq⟩ ab ⟨hK,fC,hM⟩ ⟨ja,hL,jb⟩ cm dP H = some (v,H')∧bl.Q H R0 R0  r v H':=by
 obtain ⟨w0,aG,jr,ml⟩:=h0
 subst aY
 subst jq
 subst mj
 unfold bl.p at hp
 unfold bl.tw bl.twX
 have s0:=w0.rf
 refine new_k w0 fun H1 w1 s1=>?_
 refine new_k w1 fun H2 w2 s2=>?_
 refine new_k w2 fun H3 w3 s3=>?_
 refine new_k w3 fun H4 w4 s4=>?_
 refine bind_ex (ldSl_of (w4.ld (i:=3) rfl rfl)) ?_
 refine bind_ex (ldI_of (w4.ld (i:=1) rfl rfl)) ?_
 obtain ⟨n5,g5,hp⟩:=bind_some' hp
 obtain ⟨p5,q5,i5,h5,j5⟩:=ROs.ixr (aG.step (s1.trans (s2.trans (s3.trans s4)))) rfl g5
 refine bind_ex i5 ?_
 obtain ⟨_,_,rfl,rfl,_,_,rfl,rfl,_,_,rfl,rfl,_,_,rfl,rfl,rfl⟩:=h5
 refine bind_ex (ldI_of (j5 0 _ rfl)) ?_
 refine bind_ex (ldI_of (j5 1 _ rfl)) ?_
 refine bind_ex (ldI_of (j5 2 _ rfl)) ?_
 refine bind_ex (ldI_of (j5 3 _ rfl)) ?_
 refine bind_ex (ldI_of (j5 4 _ rfl)) ?_
 refine new_k w4 fun H6 w6 s6=>?_
 refine st_k w6 (i:=0) rfl rfl rfl fun H7 w7 s7=>?_
 dsimp only [List.set] at w7 s7
 refine st_k w7 (i:=0) rfl rfl rfl fun H8 w8 s8=>?_
 dsimp only [List.set] at w8 s8
 refine st_k w8 (i:=0) rfl rfl rfl fun H9 w9 s9=>?_
 dsimp only [List.set] at w9 s9
 refine st_k w9 (i:=0) rfl rfl rfl fun H10 w10 s10=>?_
 dsimp only [List.set] at w10 s10
 refine st_k w10 (i:=0) rfl rfl rfl fun H11 w11 s11=>?_
 dsimp only [List.set] at w11 s11
 refine bind_ex (ldI_of (w11.ld (i:=0) rfl rfl)) ?_
 refine bind_ex (ldI_of (w11.ld (i:=0) rfl rfl)) ?_
 refine bind_ex (ldI_of (w11.ld (i:=0) rfl rfl)) ?_
 refine bind_ex (ldI_of (w11.ld (i:=0) rfl rfl)) ?_
 refine bind_ex (ldI_of (w11.ld (i:=0) rfl rfl)) ?_
 obtain ⟨r12,e12,hp⟩:=bind_some' hp
 refine call_ex (bc.P ⟨w11,trivial⟩ e12) ?_
 rintro _ H13 ⟨rfl,w13,s13,_⟩
 refine bind_ex rfl ?_
 refine bind_ex rfl ?_
 refine bind_ex rfl ?_
 refine bind_ex rfl ?_
 refine bind_ex rfl ?_
 refine bind_ex rfl ?_
 refine bind_ex rfl ?_
 refine bind_ex rfl ?_
 refine bind_ex rfl ?_
 refine ifs_ex (W.cons_of (Rn:=[]) w11 w13 s13) ?_
 refine bind_ex (ldI_of (w13.ld (i:=2) rfl rfl)) ?_
 obtain ⟨g15,hp⟩:=ifs_p hp
 refine ifs_ex g15 ?_
 refine bind_ex (a:=AV.int .i64 (gt ([r12.1,r12.2.1,r12.2.2.1,r12.2.2.2]:List Int) (dP:Int).toNat)) (by rw [Nat.mul_one]; exact arr_get (k:=.i64) (l:=[r12.1,r12.2.1,r12.2.2.1,r12.2.2.2]) rfl (by have:=g15; simp only [List.length_cons,List.length_nil]; omega)) ?_
 refine bind_ex rfl ?_
 refine bind_ex (ldI_of (w13.ld (i:=0) rfl rfl)) ?_
 refine bind_ex (ldI_of (w13.ld (i:=0) rfl rfl)) ?_
 refine bind_ex (ldI_of (w13.ld (i:=0) rfl rfl)) ?_
 refine bind_ex (ldI_of (w13.ld (i:=0) rfl rfl)) ?_
 refine bind_ex (ldI_of (w13.ld (i:=0) rfl rfl)) ?_
 refine bind_ex (ldI_of (w13.ld (i:=2) rfl rfl)) ?_
 obtain ⟨r16,e16,hp⟩:=bind_some' hp
 refine call_ex (bd.P ⟨w13,trivial⟩ e16) ?_
 rintro _ H17 ⟨rfl,w17,s17,_⟩
 refine bind_ex rfl ?_
 refine bif_ex (fun hb=>?_) (fun hb=>?_)
 ·replace hp:=bif_t hb hp
  refine bind_ex (ldSl_of (w17.ld (i:=3) rfl rfl)) ?_
  obtain ⟨n18,g18,hp⟩:=bind_some' hp
  obtain ⟨p18,q18,i18,h18,j18⟩:=ROs.ixr (jr.step (s1.trans (s2.trans (s3.trans (s4.trans (s6.trans (s7.trans (s8.trans (s9.trans (s10.trans (s11.trans (s13.trans s17)))))))))))) rfl g18
  refine bind_ex i18 ?_
  obtain ⟨_,_,rfl,rfl,rfl⟩:=h18
  refine bind_ex (ldI_of (j18 0 _ rfl)) ?_
  refine bind_ex (ldI_of (j18 1 _ rfl)) ?_
  refine st_k w17 (i:=1) rfl rfl rfl fun H19 w19 s19=>?_
  dsimp only [List.set] at w19 s19
  refine st_k w19 (i:=1) rfl rfl rfl fun H20 w20 s20=>?_
  dsimp only [List.set] at w20 s20
  refine bind_ex (ldI_of (w20.ld (i:=1) rfl rfl)) ?_
  refine bind_ex (ldI_of (w20.ld (i:=1) rfl rfl)) ?_
  obtain ⟨w21,s21⟩:=w20.pick' [] 5 rfl rfl rfl
  dsimp only [pk,pks,nth,List.drop] at w21 s21
  obtain rfl:=Option.some.inj hp
  exact ⟨_,_,rfl,rfl,w21,(s0.trans (s1.trans (s2.trans (s3.trans (s4.trans (s6.trans (s7.trans (s8.trans (s9.trans (s10.trans (s11.trans (s13.trans (s17.trans (s19.trans (s20.trans s21))))))))))))))),trivial⟩
 ·replace hp:=bif_f hb hp
  refine bind_ex (ldSl_of (w17.ld (i:=3) rfl rfl)) ?_
  obtain ⟨n22,g22,hp⟩:=bind_some' hp
  obtain ⟨p22,q22,i22,h22,j22⟩:=ROs.ixr (ml.step (s1.trans (s2.trans (s3.trans (s4.trans (s6.trans (s7.trans (s8.trans (s9.trans (s10.trans (s11.trans (s13.trans s17)))))))))))) rfl g22
  refine bind_ex i22 ?_
  obtain ⟨_,_,rfl,rfl,rfl⟩:=h22
  refine bind_ex (ldI_of (j22 0 _ rfl)) ?_
  refine bind_ex (ldI_of (j22 1 _ rfl)) ?_
  refine st_k w17 (i:=1) rfl rfl rfl fun H23 w23 s23=>?_
  dsimp only [List.set] at w23 s23
  refine st_k w23 (i:=1) rfl rfl rfl fun H24 w24 s24=>?_
  dsimp only [List.set] at w24 s24
  refine bind_ex (ldI_of (w24.ld (i:=1) rfl rfl)) ?_
  refine bind_ex (ldI_of (w24.ld (i:=1) rfl rfl)) ?_
  obtain ⟨w25,s25⟩:=w24.pick' [] 5 rfl rfl rfl
  dsimp only [pk,pks,nth,List.drop] at w25 s25
  obtain rfl:=Option.some.inj hp
  exact ⟨_,_,rfl,rfl,w25,(s0.trans (s1.trans (s2.trans (s3.trans (s4.trans (s6.trans (s7.trans (s8.trans (s9.trans (s10.trans (s11.trans (s13.trans (s17.trans (s23.trans (s24.trans s25))))))))))))))),trivial⟩
def aj.Q (H0:Hp) (Ri R0:List Rs)  (r:List (List Int)) (v:AV) (H':Hp):Prop:=∃ o0a:ON,∃ o0n:Nat,∃ o0c:Cap,∃ o0k:List AV,v = (.sl ⟨o0a,o0n,o0c⟩)∧o0n = (r).length∧Out H0 Ri H' (Rs.own ⟨o0a,o0n,o0c⟩ (eSl (eInt .i64)).z o0k :: R0) fun R=>CR (eSl (eInt .i64)) H' R o0k (r)
def aj.S61 (H0:Hp) (Ri R0:List Rs)  (C:Nat→Nat→Nat→Nat→Sl→Sl→Int→Int→Hp→OA) (pC:List (Int×Int×Int×Int×Int)→List (Int×Int)→List (Int×Int)→List (List Int)→List Bool→Int→Int→Option (List (List Int))):Prop:=∀ {qp qq qr qs qt:ON} {mm eu mn mo eO mp mq:Nat} {qu qv qw qx qy:Cap} {js:List (Int×Int×Int×Int×Int)} {sL ev eg:Int} {jt ju:List (Int×Int)} {jc:List (List Int)} {qz qA:List AV} {jv:List Bool},∀ {H:Hp},mm = js.length→mn = jt.length→mo = ju.length→mp = jc.length→mq = jv.length→(Out H0 Ri H (Rs.blk eu [.sl ⟨qp,mm,qu⟩,.int .i64 sL] :: Rs.blk eO [.sl ⟨qq,mn,qv⟩,.sl ⟨qr,mo,qw⟩] :: Rs.own ⟨qs,mp,qx⟩ (eSl (eInt .i64)).z qz :: Rs.own ⟨qt,mq,qy⟩ eBool.z qA :: R0) fun R=>ROs (ePair (eInt .i64) (ePair (eInt .i64) (ePair (eInt .i64) (ePair (eInt .i64) (eInt .i64))))) H R ⟨qp,mm,qu⟩ js∧ROs (ePair (eInt .i64) (eInt .i64)) H R ⟨qq,mn,qv⟩ jt∧ROs (ePair (eInt .i64) (eInt .i64)) H R ⟨qr,mo,qw⟩ ju∧CR (eSl (eInt .i64)) H R qz jc∧CR eBool H R qA jv)→∀ {r:List (List Int)},pC js jt ju jc jv ev eg = some r→∃ v H',C eu 0 eO 0 ⟨qs,mp,qx⟩ ⟨qt,mq,qy⟩ ev eg H = some (v,H')∧aj.Q H0 Ri R0  r v H'
def aj.S15725 (H0:Hp) (Ri R0:List Rs)  (C:Nat→Nat→Nat→Nat→Sl→Sl→Int→Int→Sl→Int→Hp→OA) (pC:List (Int×Int×Int×Int×Int)→List (Int×Int)→List (Int×Int)→List (List Int)→List Bool→Int→Int→List Int→Int→Option (List (List Int))):Prop:=∀ {qB qC qD qE qF qG:ON} {mr dd ms mu dr mv mw mx:Nat} {qH qI qJ qK qL qM:Cap} {iv:List (Int×Int×Int×Int×Int)} {sM et eN cG:Int} {iw iy:List (Int×Int)} {jd:List (List Int)} {qN qO qP:List AV} {hO:List Bool} {je:List Int},∀ {H:Hp},mr = iv.length→ms = iw.length→mu = iy.length→mv = jd.length→mw = hO.length→mx = je.length→(Out H0 Ri H (Rs.blk dd [.sl ⟨qB,mr,qH⟩,.int .i64 sM] :: Rs.blk dr [.sl ⟨qC,ms,qI⟩,.sl ⟨qD,mu,qJ⟩] :: Rs.own ⟨qE,mv,qK⟩ (eSl (eInt .i64)).z qN :: Rs.own ⟨qF,mw,qL⟩ eBool.z qO :: Rs.own ⟨qG,mx,qM⟩ (eInt .i64).z qP :: R0) fun R=>ROs (ePair (eInt .i64) (ePair (eInt .i64) (ePair (eInt .i64) (ePair (eInt .i64) (eInt .i64))))) H R ⟨qB,mr,qH⟩ iv∧ROs (ePair (eInt .i64) (eInt .i64)) H R ⟨qC,ms,qI⟩ iw∧ROs (ePair (eInt .i64) (eInt .i64)) H R ⟨qD,mu,qJ⟩ iy∧CR (eSl (eInt .i64)) H R qN jd∧CR eBool H R qO hO∧CR (eInt .i64) H R qP je)→∀ {r:List (List Int)},pC iv iw iy jd hO et eN je cG = some r→∃ v H',C dd 0 dr 0 ⟨qE,mv,qK⟩ ⟨qF,mw,qL⟩ et eN ⟨qG,mx,qM⟩ cG H = some (v,H')∧aj.Q H0 Ri R0  r v H'
def aj.pj4 (F:Nat) (aH:List (Int×Int×Int×Int×Int)→List (Int×Int)→List (Int×Int)→List (List Int)→List Bool→Int→Int→Option (List (List Int))) (mz:List (Int×Int×Int×Int×Int)) (mA:List (Int×Int)) (mB:List (Int×Int)) (mC:List (List Int)) (mD:List Bool) (kb:Int) (kc:Int):Option (List (List Int)):=aH mz mA mB mC mD kb (IntKind.i64.wrap (kc + 1))
theorem aj.j4_P {F:Nat} {H0:Hp} {Ri R0:List Rs}  {C61_:Nat→Nat→Nat→Nat→Sl→Sl→Int→Int→Hp→OA} {aH:List (Int×Int×Int×Int×Int)→List (Int×Int)→List (Int×Int)→List (List Int)→List Bool→Int→Int→Option (List (List Int))} (hC61:aj.S61 H0 Ri R0  C61_ aH) {wO wP wQ wR wS:ON} {sO nA sQ sS nB sT sU:Nat} {wT wU wV wW wX:Cap} {mz:List (Int×Int×Int×Int×Int)} {Bd kb kc:Int} {mA mB:List (Int×Int)} {mC:List (List Int)} {wY wZ:List AV} {mD:List Bool} {H:Hp} (Be:sO = mz.length) (Bf:sQ = mA.length) (Bg:sS = mB.length) (Bh:sT = mC.length) (Bi:sU = mD.length) (h0:Out H0 Ri H (Rs.blk nA [.sl ⟨wO,sO,wT⟩,.int .i64 Bd] :: Rs.blk nB [.sl ⟨wP,sQ,wU⟩,.sl ⟨wQ,sS,wV⟩] :: Rs.own ⟨wR,sT,wW⟩ (eSl (eInt .i64)).z wY :: Rs.own ⟨wS,sU,wX⟩ eBool.z wZ :: R0) fun R=>ROs (ePair (eInt .i64) (ePair (eInt .i64) (ePair (eInt .i64) (ePair (eInt .i64) (eInt .i64))))) H R ⟨wO,sO,wT⟩ mz∧ROs (ePair (eInt .i64) (eInt .i64)) H R ⟨wP,sQ,wU⟩ mA∧ROs (ePair (eInt .i64) (eInt .i64)) H R ⟨wQ,sS,wV⟩ mB∧CR (eSl (eInt .i64)) H R wY mC∧CR eBool H R wZ mD) {r:List (List Int)} (hp:aj.pj4 F aH mz mA mB mC mD kb kc = some r):∃ v H',aj.j4 F (bl.tw F) C61_ nA 0 nB 0 ⟨wR,sT,wW⟩ ⟨wS,sU,wX⟩ kb kc H = some (v,H')∧aj.Q H0 Ri R0  r v H':=by
 obtain ⟨w0,s0,Bj,Bk,Bl,Bm,Bn⟩:=h0
 subst Be
 subst Bf
 subst Bg
 subst Bh
 subst Bi
 unfold aj.pj4 at hp
 unfold aj.j4
 exact hC61 rfl rfl rfl rfl rfl ⟨w0,s0,Bj,Bk,Bl,Bm,Bn⟩ hp
def aj.pj5 (F:Nat) (aH:List (Int×Int×Int×Int×Int)→List (Int×Int)→List (Int×Int)→List (List Int)→List Bool→Int→Int→Option (List (List Int))) (mE:List (Int×Int×Int×Int×Int)) (mF:List (Int×Int)) (mG:List (Int×Int)) (mH:List (List Int)) (mI:List Bool) (kd:Int) (ke:Int):Option (List (List Int)):=aj.pj4 F aH mE mF mG mH mI kd ke
theorem aj.j5_P {F:Nat} {H0:Hp} {Ri R0:List Rs}  {C61_:Nat→Nat→Nat→Nat→Sl→Sl→Int→Int→Hp→OA} {aH:List (Int×Int×Int×Int×Int)→List (Int×Int)→List (Int×Int)→List (List Int)→List Bool→Int→Int→Option (List (List Int))} (hC61:aj.S61 H0 Ri R0  C61_ aH) {w_ xa xb xc xd:ON} {sV nC sW sX jK sY sZ:Nat} {xe xf xg xh xi:Cap} {mE:List (Int×Int×Int×Int×Int)} {Bo kd ke:Int} {mF mG:List (Int×Int)} {mH:List (List Int)} {xj xk:List AV} {mI:List Bool} {H:Hp} (Bp:sV = mE.length) (Bq:sW = mF.length) (Br:sX = mG.length) (Bs:sY = mH.length) (Bt:sZ = mI.length) (h0:Out H0 Ri H (Rs.blk nC [.sl ⟨w_,sV,xe⟩,.int .i64 Bo] :: Rs.blk jK [.sl ⟨xa,sW,xf⟩,.sl ⟨xb,sX,xg⟩] :: Rs.own ⟨xc,sY,xh⟩ (eSl (eInt .i64)).z xj :: Rs.own ⟨xd,sZ,xi⟩ eBool.z xk :: R0) fun R=>ROs (ePair (eInt .i64) (ePair (eInt .i64) (ePair (eInt .i64) (ePair (eInt .i64) (eInt .i64))))) H R ⟨w_,sV,xe⟩ mE∧ROs (ePair (eInt .i64) (eInt .i64)) H R ⟨xa,sW,xf⟩ mF∧ROs (ePair (eInt .i64) (eInt .i64)) H R ⟨xb,sX,xg⟩ mG∧CR (eSl (eInt .i64)) H R xj mH∧CR eBool H R xk mI) {r:List (List Int)} (hp:aj.pj5 F aH mE mF mG mH mI kd ke = some r):∃ v H',aj.j5 F (bl.tw F) C61_ nC 0 jK 0 ⟨xc,sY,xh⟩ ⟨xd,sZ,xi⟩ kd ke H = some (v,H')∧aj.Q H0 Ri R0  r v H':=by
 obtain ⟨w0,s0,Bu,Bv,Bw,Bx,By⟩:=h0
 subst Bp
 subst Bq
 subst Br
 subst Bs
 subst Bt
 unfold aj.pj5 at hp
 unfold aj.j5
 exact aj.j4_P (@hC61) rfl rfl rfl rfl rfl ⟨w0,s0,Bu,Bv,Bw,Bx,By⟩ hp
def aj.pj6 (F:Nat) (aH:List (Int×Int×Int×Int×Int)→List (Int×Int)→List (Int×Int)→List (List Int)→List Bool→Int→Int→Option (List (List Int))) (ko:List (Int×Int×Int×Int×Int)) (kp:List (Int×Int)) (kq:List (Int×Int)) (kr:List (List Int)) (kt:List Bool) (jf:List Int) (iG:Int) (iH:Int):Option (List (List Int)):=(bif (decide ((jf.length:Int) > 0)) then ((apn kr ([jf]:List (List Int))).bind fun l3=>aj.pj5 F aH ko kp kq l3 kt iG iH) else (aj.pj5 F aH ko kp kq kr kt iG iH))
theorem aj.j6_P {F:Nat} {H0:Hp} {Ri R0:List Rs}  {C61_:Nat→Nat→Nat→Nat→Sl→Sl→Int→Int→Hp→OA} {aH:List (Int×Int×Int×Int×Int)→List (Int×Int)→List (Int×Int)→List (List Int)→List Bool→Int→Int→Option (List (List Int))} (hC61:aj.S61 H0 Ri R0  C61_ aH) {xl xm xn xo xp xq:ON} {s_ kw ta tc kx td te tf:Nat} {xr xt xu xv xw xx:Cap} {ko:List (Int×Int×Int×Int×Int)} {Bz iG iH:Int} {kp kq:List (Int×Int)} {kr:List (List Int)} {xy xz xA:List AV} {kt:List Bool} {jf:List Int} {H:Hp} (BA:s_ = ko.length) (BB:ta = kp.length) (BC:tc = kq.length) (BD:td = kr.length) (BE:te = kt.length) (BF:tf = jf.length) (h0:Out H0 Ri H (Rs.blk kw [.sl ⟨xl,s_,xr⟩,.int .i64 Bz] :: Rs.blk kx [.sl ⟨xm,ta,xt⟩,.sl ⟨xn,tc,xu⟩] :: Rs.own ⟨xo,td,xv⟩ (eSl (eInt .i64)).z xy :: Rs.own ⟨xp,te,xw⟩ eBool.z xz :: Rs.own ⟨xq,tf,xx⟩ (eInt .i64).z xA :: R0) fun R=>ROs (ePair (eInt .i64) (ePair (eInt .i64) (ePair (eInt .i64) (ePair (eInt .i64) (eInt .i64))))) H R ⟨xl,s_,xr⟩ ko∧ROs (ePair (eInt .i64) (eInt .i64)) H R ⟨xm,ta,xt⟩ kp∧ROs (ePair (eInt .i64) (eInt .i64)) H R ⟨xn,tc,xu⟩ kq∧CR (eSl (eInt .i64)) H R xy kr∧CR eBool H R xz kt∧CR (eInt .i64) H R xA jf) {r:List (List Int)} (hp:aj.pj6 F aH ko kp kq kr kt jf iG iH = some r):∃ v H',aj.j6 F (bl.tw F) C61_ kw 0 kx 0 ⟨xo,td,xv⟩ ⟨xp,te,xw⟩ ⟨xq,tf,xx⟩ iG iH H = some (v,H')∧aj.Q H0 Ri R0  r v H':=by
 obtain ⟨w0,s0,xB,xC,xD,xE,xF,BG⟩:=h0
 subst BA
 subst BB
 subst BC
 subst BD
 subst BE
 subst BF
 unfold aj.pj6 at hp
 unfold aj.j6
 refine bif_ex (fun hb=>?_) (fun hb=>?_)
 ·replace hp:=bif_t hb hp
  obtain ⟨w1,s1,f1⟩:=w0.frz (i:=4) (eInt .i64) rfl BG
  dsimp only [List.eraseIdx] at w1 s1 f1
  refine newS_k (eSl (eInt .i64)) w1 (n:=1) (l:=([jf]:List (List Int))) rfl (CR.cons1 ⟨_,rfl,f1⟩ CR.empty) rfl fun H2 w2 s2 c2=>?_
  refine bind_ex (w2.rowo (i:=0) rfl) ?_
  obtain ⟨l3,e3,hp⟩:=bind_some' hp
  refine app_k (eSl (eInt .i64)) w2 (i:=3) rfl rfl (xE.step (s1.trans s2)) c2 (show 1 = List.length ([jf]:List (List Int)) from rfl) rfl e3 fun a4 d4 H4 w4 s4 c4 x4=>?_
  dsimp only [List.set] at w4 s4 c4
  obtain ⟨w5,s5⟩:=w4.pick' [1,2,3,4] 5 rfl rfl rfl
  dsimp only [pk,pks,nth,List.drop] at w5 s5
  exact aj.j5_P (@hC61) rfl rfl rfl rfl rfl ⟨w5,(s0.trans (s1.trans (s2.trans (s4.trans s5)))),(xB.step (s1.trans (s2.trans (s4.trans s5)))),(xC.step (s1.trans (s2.trans (s4.trans s5)))),(xD.step (s1.trans (s2.trans (s4.trans s5)))),(c4.step s5),(xF.step (s1.trans (s2.trans (s4.trans s5))))⟩ hp
 ·replace hp:=bif_f hb hp
  obtain ⟨w6,s6⟩:=w0.pick' [0,1,2,3] 5 rfl rfl rfl
  dsimp only [pk,pks,nth,List.drop] at w6 s6
  exact aj.j5_P (@hC61) rfl rfl rfl rfl rfl ⟨w6,(s0.trans s6),(xB.step s6),(xC.step s6),(xD.step s6),(xE.step s6),(xF.step s6)⟩ hp
def aj.pl15725 (F:Nat) (aH:List (Int×Int×Int×Int×Int)→List (Int×Int)→List (Int×Int)→List (List Int)→List Bool→Int→Int→Option (List (List Int))):Nat→List (Int×Int×Int×Int×Int)→List (Int×Int)→List (Int×Int)→List (List Int)→List Bool→Int→Int→List Int→Int→Option (List (List Int))
 | 0,_,_,_,_,_,_,_,_,_=>none
 | k + 1,iv,iw,iy,jd,hO,et,eN,je,cG=>(ix hO cG).bind fun n1=>(bif (!(gt hO n1)) then ((ix hO cG).bind fun n2=>(some (hO.set n2 true)).bind fun l3=>(apn je ([cG]:List Int)).bind fun l6=>(bl.p F iv iw iy (IntKind.i64.wrap (Int.tdiv cG 4)) (Int.tmod (IntKind.i64.wrap (cG + 1)) 4)).bind fun r8=>aj.pl15725 F aH k iv iw iy jd l3 et eN l6 (IntKind.i64.wrap ((IntKind.i64.wrap (4 * r8.1)) + r8.2))) else (aj.pj6 F aH iv iw iy jd hO je et eN))
termination_by structural n=>n
theorem aj.l15725_P {F:Nat} {H0:Hp} {Ri R0:List Rs}  {C61_:Nat→Nat→Nat→Nat→Sl→Sl→Int→Int→Hp→OA} {aH:List (Int×Int×Int×Int×Int)→List (Int×Int)→List (Int×Int)→List (List Int)→List Bool→Int→Int→Option (List (List Int))} (hC61:aj.S61 H0 Ri R0  C61_ aH):∀ k,aj.S15725 H0 Ri R0  (aj.l15725 F (bl.tw F) C61_ k) (aj.pl15725 F aH k):=by
 intro k
 induction k with
 | zero=>
  intro qB qC qD qE qF qG mr dd ms mu dr mv mw mx qH qI qJ qK qL qM iv sM et eN cG iw iy jd qN qO qP hO je H xG xH xI xJ xK xL h0 r hp
  exact nomatch (show (none:Option (List (List Int))) = some r from hp)
 | succ k ih=>
  intro qB qC qD qE qF qG mr dd ms mu dr mv mw mx qH qI qJ qK qL qM iv sM et eN cG iw iy jd qN qO qP hO je H xG xH xI xJ xK xL h0 r hp
  obtain ⟨w0,s0,tg,th,ti,xM,qQ,xN⟩:=h0
  subst xG
  subst xH
  subst xI
  subst xJ
  subst xK
  subst xL
  unfold aj.pl15725 at hp
  unfold aj.l15725
  obtain ⟨n1,g1,hp⟩:=bind_some' hp
  obtain ⟨p1,q1,i1,h1,j1⟩:=W.ixo (E:=eBool) w0 (i:=3) rfl rfl qQ g1
  refine bind_ex i1 ?_
  have h1:_ = [_]:=h1
  subst h1
  refine bind_ex (ldB_of (j1 0 _ rfl)) ?_
  refine bif_ex (fun hb=>?_) (fun hb=>?_)
  ·replace hp:=bif_t hb hp
   obtain ⟨n2,g2,hp⟩:=bind_some' hp
   obtain ⟨p2,q2,i2,h2,j2⟩:=W.ixo (E:=eBool) w0 (i:=3) rfl rfl qQ g2
   refine bind_ex i2 ?_
   obtain ⟨l3,e3,hp⟩:=bind_some' hp
   refine sto_k eBool w0 (i:=3) (j:=0) (p:=p2) rfl rfl qQ g2 i2 e3 rfl rfl (fun _ h=>by have h:_ = [_]:=h; subst h; exact rfl) fun H4 k4 w4 s4 c4=>?_
   dsimp only [List.set] at w4 s4 c4
   refine newS_k (eInt .i64) w4 (n:=1) (l:=([cG]:List Int)) rfl (CR.cons1 rfl CR.empty) rfl fun H5 w5 s5 c5=>?_
   refine bind_ex (w5.rowo (i:=0) rfl) ?_
   obtain ⟨l6,e6,hp⟩:=bind_some' hp
   refine app_k (eInt .i64) w5 (i:=5) rfl rfl (xN.step (s4.trans s5)) c5 (show 1 = List.length ([cG]:List Int) from rfl) rfl e6 fun a7 d7 H7 w7 s7 c7 x7=>?_
   dsimp only [List.set] at w7 s7 c7
   refine bind_ex (ldSl_of (w7.ld (i:=1) rfl rfl)) ?_
   refine bind_ex (ldI_of (w7.ld (i:=1) rfl rfl)) ?_
   refine bind_ex (ldSl_of (w7.ld (i:=2) rfl rfl)) ?_
   refine bind_ex (ldSl_of (w7.ld (i:=2) rfl rfl)) ?_
   obtain ⟨r8,e8,hp⟩:=bind_some' hp
   refine call_ex (bl.P rfl rfl rfl ⟨w7,(tg.step (s4.trans (s5.trans s7))),(th.step (s4.trans (s5.trans s7))),(ti.step (s4.trans (s5.trans s7)))⟩ e8) ?_
   rintro _ H9 ⟨rfl,w9,s9,_⟩
   refine bind_ex rfl ?_
   refine bind_ex rfl ?_
   refine bind_ex rfl ?_
   refine bind_ex rfl ?_
   refine bind_ex rfl ?_
   refine new_k w9 fun H10 w10 s10=>?_
   refine st_k w10 (i:=0) rfl rfl rfl fun H11 w11 s11=>?_
   dsimp only [List.set] at w11 s11
   refine st_k w11 (i:=0) rfl rfl rfl fun H12 w12 s12=>?_
   dsimp only [List.set] at w12 s12
   refine bind_ex (ldI_of (w12.ld (i:=0) rfl rfl)) ?_
   refine bind_ex (ldI_of (w12.ld (i:=0) rfl rfl)) ?_
   obtain ⟨w13,s13⟩:=w12.pick' [2,3,4,5,6] 7 rfl rfl rfl
   dsimp only [pk,pks,nth,List.drop] at w13 s13
   exact ih rfl rfl rfl rfl ((st_len e3).symm) rfl ⟨w13,(s0.trans (s4.trans (s5.trans (s7.trans (s9.trans (s10.trans (s11.trans (s12.trans s13)))))))),(tg.step (s4.trans (s5.trans (s7.trans (s9.trans (s10.trans (s11.trans (s12.trans s13)))))))),(th.step (s4.trans (s5.trans (s7.trans (s9.trans (s10.trans (s11.trans (s12.trans s13)))))))),(ti.step (s4.trans (s5.trans (s7.trans (s9.trans (s10.trans (s11.trans (s12.trans s13)))))))),(xM.step (s4.trans (s5.trans (s7.trans (s9.trans (s10.trans (s11.trans (s12.trans s13)))))))),(c4.step (s5.trans (s7.trans (s9.trans (s10.trans (s11.trans (s12.trans s13))))))),(c7.step (s9.trans (s10.trans (s11.trans (s12.trans s13)))))⟩ hp
  ·replace hp:=bif_f hb hp
   exact aj.j6_P (@hC61) rfl rfl rfl rfl rfl rfl ⟨w0,s0,tg,th,ti,xM,qQ,xN⟩ hp
def aj.pl61 (F:Nat) :Nat→List (Int×Int×Int×Int×Int)→List (Int×Int)→List (Int×Int)→List (List Int)→List Bool→Int→Int→Option (List (List Int))
 | 0,_,_,_,_,_,_,_=>none
 | k + 1,js,jt,ju,jc,jv,ev,eg=>(bif (decide (eg < ev)) then (aj.pl15725 F (aj.pl61 F k) F js jt ju jc jv ev eg ([]:List Int) eg) else (some jc))
termination_by structural n=>n
theorem aj.l61_P {F:Nat} {H0:Hp} {Ri R0:List Rs}  :∀ k,aj.S61 H0 Ri R0  (aj.l61 F (bl.tw F)  k) (aj.pl61 F  k):=by
 intro k
 induction k with
 | zero=>
  intro qp qq qr qs qt mm eu mn mo eO mp mq qu qv qw qx qy js sL ev eg jt ju jc qz qA jv H xO xP xQ xR xS h0 r hp
  exact nomatch (show (none:Option (List (List Int))) = some r from hp)
 | succ k ih=>
  intro qp qq qr qs qt mm eu mn mo eO mp mq qu qv qw qx qy js sL ev eg jt ju jc qz qA jv H xO xP xQ xR xS h0 r hp
  obtain ⟨w0,s0,BH,BI,BJ,xT,BK⟩:=h0
  subst xO
  subst xP
  subst xQ
  subst xR
  subst xS
  unfold aj.pl61 at hp
  unfold aj.l61
  refine bif_ex (fun hb=>?_) (fun hb=>?_)
  ·replace hp:=bif_t hb hp
   obtain ⟨w1,s1⟩:=w0.nilS (eInt .i64).z (by decide)
   obtain ⟨w2,s2⟩:=w1.pick' [1,2,3,4,0] 5 rfl rfl rfl
   dsimp only [pk,pks,nth,List.drop] at w2 s2
   exact aj.l15725_P (@ih) F rfl rfl rfl rfl rfl rfl ⟨w2,(s0.trans (s1.trans s2)),(BH.step (s1.trans s2)),(BI.step (s1.trans s2)),(BJ.step (s1.trans s2)),(xT.step (s1.trans s2)),(BK.step (s1.trans s2)),((CR.empty:CR (eInt .i64) _ _ [] []).step s2)⟩ hp
  ·replace hp:=bif_f hb hp
   obtain ⟨w3,s3⟩:=w0.pick' [2] 4 rfl rfl rfl
   dsimp only [pk,pks,nth,List.drop] at w3 s3
   obtain rfl:=Option.some.inj hp
   exact ⟨_,_,rfl,_,_,_,_,rfl,rfl,w3,(s0.trans s3),(xT.step s3)⟩
def aj.p (F:Nat) (ac:List (Int×Int×Int×Int×Int)) (cT:List (Int×Int)) (eH:List (Int×Int)):Option (List (List Int)):=(mkn (IntKind.i64.wrap (4 * (ac.length:Int))) false).bind fun l3=>aj.pl61 F F ac cT eH ([]:List (List Int)) l3 (l3.length:Int) 0
theorem aj.P {F:Nat} {ap hK ja:ON} {ag fC hL:Nat} {aq hM jb:Cap} {ac:List (Int×Int×Int×Int×Int)} {ab:Int} {cT eH:List (Int×Int)} {H:Hp} {R0:List Rs} (aY:ag = ac.length) (jq:fC = cT.length) (mj:hL = eH.length) (h0:Inn H R0 fun R=>ROs (ePair (eInt .i64) (ePair (eInt .i64) (ePair (eInt .i64) (ePair (eInt .i64) (eInt .i64))))) H R ⟨ap,ag,aq⟩ ac∧ROs (ePair (eInt .i64) (eInt .i64)) H R ⟨hK,fC,hM⟩ cT∧ROs (ePair (eInt .i64) (eInt .i64)) H R ⟨ja,hL,jb⟩ eH) {r:List (List Int)} (hp:aj.p F ac cT eH = some r):∃ v H',aj.tw F ⟨ap,ag,aq⟩ ab ⟨hK,fC,hM⟩ ⟨ja,hL,jb⟩ H = some (v,H')∧aj.Q H R0 R0  r v H':=by
 obtain ⟨w0,aG,jr,ml⟩:=h0
 subst aY
 subst jq
 subst mj
 unfold aj.p at hp
 unfold aj.tw aj.twX
 have s0:=w0.rf
 refine new_k w0 fun H1 w1 s1=>?_
 refine new_k w1 fun H2 w2 s2=>?_
 refine bind_ex (ldSl_of (w2.ld (i:=1) rfl rfl)) ?_
 obtain ⟨l3,e3,hp⟩:=bind_some' hp
 refine mk_k eBool false w2 rfl rfl rfl e3 fun H4 k4 w4 s4 c4=>?_
 obtain ⟨w5,s5⟩:=w4.nilS (eSl (eInt .i64)).z (by decide)
 obtain ⟨w6,s6⟩:=w5.pick' [3,2,0,1] 4 rfl rfl rfl
 dsimp only [pk,pks,nth,List.drop] at w6 s6
 exact aj.l61_P F rfl rfl rfl rfl rfl ⟨w6,(s0.trans (s1.trans (s2.trans (s4.trans (s5.trans s6))))),(aG.step (s1.trans (s2.trans (s4.trans (s5.trans s6))))),(jr.step (s1.trans (s2.trans (s4.trans (s5.trans s6))))),(ml.step (s1.trans (s2.trans (s4.trans (s5.trans s6))))),((CR.empty:CR (eSl (eInt .i64)) _ _ [] []).step s6),(c4.step (s5.trans s6))⟩ hp
def bH.Q (H0:Hp) (Ri R0:List Rs)  (r:Int) (v:AV) (H':Hp):Prop:=v = (.int .i64 r)∧Out H0 Ri H' (R0) fun R=>True
def bH.p (F:Nat) (ac:List (List Int)):Option (Int):=some (ac.length:Int)
theorem bH.P {F:Nat} {ap:ON} {ag:Nat} {aq:Cap} {ac:List (List Int)} {H:Hp} {R0:List Rs} (aY:ag = ac.length) (h0:Inn H R0 fun R=>ROs (eSl (eInt .i64)) H R ⟨ap,ag,aq⟩ ac) {r:Int} (hp:bH.p F ac = some r):∃ v H',bH.tw F ⟨ap,ag,aq⟩ H = some (v,H')∧bH.Q H R0 R0  r v H':=by
 obtain ⟨w0,aG⟩:=h0
 subst aY
 unfold bH.p at hp
 unfold bH.tw bH.twX
 have s0:=w0.rf
 obtain rfl:=Option.some.inj hp
 exact ⟨_,_,rfl,rfl,w0,s0,trivial⟩
def aC.Q (H0:Hp) (Ri R0:List Rs)  (r:List Int) (v:AV) (H':Hp):Prop:=∃ o0a:ON,∃ o0n:Nat,∃ o0c:Cap,∃ o0k:List AV,v = (.sl ⟨o0a,o0n,o0c⟩)∧o0n = (r).length∧Out H0 Ri H' (Rs.own ⟨o0a,o0n,o0c⟩ (eInt .i64).z o0k :: R0) fun R=>CR (eInt .i64) H' R o0k (r)
def aC.S29 (H0:Hp) (Ri R0:List Rs)  (C:Sl→Int→Int→Hp→OA) (pC:List Int→Int→Int→Option (List Int)):Prop:=∀ {qR:ON} {mJ:Nat} {qS:Cap} {jg:List Int} {qT:List AV} {ew dQ:Int},∀ {H:Hp},mJ = jg.length→(Out H0 Ri H (Rs.own ⟨qR,mJ,qS⟩ (eInt .i64).z qT :: R0) fun R=>CR (eInt .i64) H R qT jg)→∀ {r:List Int},pC jg ew dQ = some r→∃ v H',C ⟨qR,mJ,qS⟩ ew dQ H = some (v,H')∧aC.Q H0 Ri R0  r v H'
def aC.pl29 (F:Nat) :Nat→List Int→Int→Int→Option (List Int)
 | 0,_,_,_=>none
 | k + 1,jg,ew,dQ=>(bif (decide (dQ < ew)) then ((apn jg ([dQ]:List Int)).bind fun l2=>aC.pl29 F k l2 ew (IntKind.i64.wrap (dQ + 1))) else (some jg))
termination_by structural n=>n
theorem aC.l29_P {F:Nat} {H0:Hp} {Ri R0:List Rs}  :∀ k,aC.S29 H0 Ri R0  (aC.l29 F   k) (aC.pl29 F  k):=by
 intro k
 induction k with
 | zero=>
  intro qR mJ qS jg qT ew dQ H xU h0 r hp
  exact nomatch (show (none:Option (List Int)) = some r from hp)
 | succ k ih=>
  intro qR mJ qS jg qT ew dQ H xU h0 r hp
  obtain ⟨w0,s0,xV⟩:=h0
  subst xU
  unfold aC.pl29 at hp
  unfold aC.l29
  refine bif_ex (fun hb=>?_) (fun hb=>?_)
  ·replace hp:=bif_t hb hp
   refine newS_k (eInt .i64) w0 (n:=1) (l:=([dQ]:List Int)) rfl (CR.cons1 rfl CR.empty) rfl fun H1 w1 s1 c1=>?_
   refine bind_ex (w1.rowo (i:=0) rfl) ?_
   obtain ⟨l2,e2,hp⟩:=bind_some' hp
   refine app_k (eInt .i64) w1 (i:=1) rfl rfl (xV.step s1) c1 (show 1 = List.length ([dQ]:List Int) from rfl) rfl e2 fun a3 d3 H3 w3 s3 c3 x3=>?_
   dsimp only [List.set] at w3 s3 c3
   obtain ⟨w4,s4⟩:=w3.pick' [1] 2 rfl rfl rfl
   dsimp only [pk,pks,nth,List.drop] at w4 s4
   exact ih rfl ⟨w4,(s0.trans (s1.trans (s3.trans s4))),(c3.step s4)⟩ hp
  ·replace hp:=bif_f hb hp
   obtain rfl:=Option.some.inj hp
   exact ⟨_,_,rfl,_,_,_,_,rfl,rfl,w0,s0,xV⟩
def aC.p (F:Nat) (aa:Int):Option (List Int):=aC.pl29 F F ([]:List Int) aa 0
theorem aC.P {F:Nat} {aa:Int} {H:Hp} {R0:List Rs}  (h0:Inn H R0 fun R=>True) {r:List Int} (hp:aC.p F aa = some r):∃ v H',aC.tw F aa H = some (v,H')∧aC.Q H R0 R0  r v H':=by
 obtain ⟨w0,_⟩:=h0
 unfold aC.p at hp
 unfold aC.tw aC.twX
 have s0:=w0.rf
 obtain ⟨w1,s1⟩:=w0.nilS (eInt .i64).z (by decide)
 exact aC.l29_P F rfl ⟨w1,(s0.trans s1),(CR.empty:CR (eInt .i64) _ _ [] [])⟩ hp
def ax.Q (H0:Hp) (Ri R0:List Rs) (ap:ON) (ag:Nat) (aq:Cap) (dv:Bool) (dw dx:List AV) (r:List Int) (v:AV) (H':Hp):Prop:=∃ hP:List AV,v = (.tup [])∧ag = (r).length∧Out H0 Ri H' (Rs.ow dv ⟨ap,ag,aq⟩ (eInt .i64).z dw hP dx :: R0) fun R=>CR (eInt .i64) H' R hP (r)
def ax.S7 (H0:Hp) (Ri R0:List Rs) (di:ON) (cH:Nat) (dj:Cap) (eR:Bool) (eS eT:List AV) (C:Sl→Int→Int→Sl→Int→Int→Hp→OA) (pC:List Int→Int→Int→Int→Int→Option (List Int)):Prop:=∀ {dk:List Int} {qU:List AV} {de dt d_ df:Int},∀ {H:Hp},cH = dk.length→(Out H0 Ri H (Rs.ow eR ⟨di,cH,dj⟩ (eInt .i64).z eS qU eT :: R0) fun R=>CR (eInt .i64) H R qU dk)→∀ {r:List Int},pC dk de dt d_ df = some r→∃ v H',C ⟨di,cH,dj⟩ de dt ⟨di,cH,dj⟩ d_ df H = some (v,H')∧ax.Q H0 Ri R0 di cH dj eR eS eT r v H'
def ax.pj2 (F:Nat) (qV:List Int→Int→Int→Int→Int→Option (List Int)) (mK:List Int) (kf:Int) (kg:Int) (kh:Int) (ki:Int):Option (List Int):=qV mK kf kg kh (IntKind.i64.wrap (ki + 1))
theorem ax.j2_P {F:Nat} {H0:Hp} {Ri R0:List Rs} {di:ON} {cH:Nat} {dj:Cap} {eR:Bool} {eS eT:List AV} {C7_:Sl→Int→Int→Sl→Int→Int→Hp→OA} {qV:List Int→Int→Int→Int→Int→Option (List Int)} (hC7:ax.S7 H0 Ri R0 di cH dj eR eS eT C7_ qV) {mK:List Int} {xW:List AV} {kf kg kh ki:Int} {H:Hp} (BL:cH = mK.length) (h0:Out H0 Ri H (Rs.ow eR ⟨di,cH,dj⟩ (eInt .i64).z eS xW eT :: R0) fun R=>CR (eInt .i64) H R xW mK) {r:List Int} (hp:ax.pj2 F qV mK kf kg kh ki = some r):∃ v H',ax.j2 F  C7_ ⟨di,cH,dj⟩ kf kg ⟨di,cH,dj⟩ kh ki H = some (v,H')∧ax.Q H0 Ri R0 di cH dj eR eS eT r v H':=by
 obtain ⟨w0,s0,BM⟩:=h0
 subst BL
 unfold ax.pj2 at hp
 unfold ax.j2
 exact hC7 rfl ⟨w0,s0,BM⟩ hp
def ax.pl7 (F:Nat) :Nat→List Int→Int→Int→Int→Int→Option (List Int)
 | 0,_,_,_,_,_=>none
 | k + 1,dk,de,dt,d_,df=>(bif (decide (df < d_)) then ((ix dk df).bind fun n1=>(bif ((gt dk n1) == de) then ((ix dk df).bind fun n2=>(some (dk.set n2 dt)).bind fun l3=>ax.pj2 F (ax.pl7 F k) l3 de dt d_ df) else (ax.pj2 F (ax.pl7 F k) dk de dt d_ df))) else (some dk))
termination_by structural n=>n
theorem ax.l7_P {F:Nat} {H0:Hp} {Ri R0:List Rs} {di:ON} {cH:Nat} {dj:Cap} {eR:Bool} {eS eT:List AV} :∀ k,ax.S7 H0 Ri R0 di cH dj eR eS eT (ax.l7 F   k) (ax.pl7 F  k):=by
 intro k
 induction k with
 | zero=>
  intro dk qU de dt d_ df H mL h0 r hp
  exact nomatch (show (none:Option (List Int)) = some r from hp)
 | succ k ih=>
  intro dk qU de dt d_ df H mL h0 r hp
  obtain ⟨w0,s0,jh⟩:=h0
  subst mL
  unfold ax.pl7 at hp
  unfold ax.l7
  refine bif_ex (fun hb=>?_) (fun hb=>?_)
  ·replace hp:=bif_t hb hp
   obtain ⟨n1,g1,hp⟩:=bind_some' hp
   obtain ⟨p1,q1,i1,h1,j1⟩:=W.ixo (E:=(eInt .i64)) w0 (i:=0) rfl rfl jh g1
   refine bind_ex i1 ?_
   have h1:_ = [_]:=h1
   subst h1
   refine bind_ex (ldI_of (j1 0 _ rfl)) ?_
   refine bif_ex (fun hb=>?_) (fun hb=>?_)
   ·replace hp:=bif_t hb hp
    obtain ⟨n2,g2,hp⟩:=bind_some' hp
    obtain ⟨p2,q2,i2,h2,j2⟩:=W.ixo (E:=(eInt .i64)) w0 (i:=0) rfl rfl jh g2
    refine bind_ex i2 ?_
    obtain ⟨l3,e3,hp⟩:=bind_some' hp
    refine sto_k (eInt .i64) w0 (i:=0) (j:=0) (p:=p2) rfl rfl jh g2 i2 e3 rfl rfl (fun _ h=>by have h:_ = [_]:=h; subst h; exact rfl) fun H4 k4 w4 s4 c4=>?_
    dsimp only [List.set] at w4 s4 c4
    exact ax.j2_P (@ih) ((st_len e3).symm) ⟨w4,(s0.trans s4),c4⟩ hp
   ·replace hp:=bif_f hb hp
    exact ax.j2_P (@ih) rfl ⟨w0,s0,jh⟩ hp
  ·replace hp:=bif_f hb hp
   obtain rfl:=Option.some.inj hp
   exact ⟨_,_,rfl,_,rfl,rfl,w0,s0,jh⟩
def ax.p (F:Nat) (ac:List Int) (ad:Int) (bK:Int):Option (List Int):=(ix ac bK).bind fun n1=>(ix ac ad).bind fun n2=>ax.pl7 F F ac (gt ac n1) (gt ac n2) (ac.length:Int) 0
theorem ax.P {F:Nat} {ap:ON} {ag:Nat} {aq:Cap} {ac:List Int} {dv:Bool} {dw dx fD:List AV} {ad bK:Int} {H:Hp} {R0:List Rs} (aY:ag = ac.length) (h0:Inn H (Rs.ow dv ⟨ap,ag,aq⟩ (eInt .i64).z dw fD dx :: R0) fun R=>CR (eInt .i64) H R fD ac) {r:List Int} (hp:ax.p F ac ad bK = some r):∃ v H',ax.tw F ⟨ap,ag,aq⟩ ad bK H = some (v,H')∧ax.Q H (Rs.ow dv ⟨ap,ag,aq⟩ (eInt .i64).z dw fD dx :: R0) R0 ap ag aq dv dw dx r v H':=by
 obtain ⟨w0,aG⟩:=h0
 subst aY
 unfold ax.p at hp
 unfold ax.tw ax.twX
 have s0:=w0.rf
 obtain ⟨n1,g1,hp⟩:=bind_some' hp
 obtain ⟨p1,q1,i1,h1,j1⟩:=W.ixo (E:=(eInt .i64)) w0 (i:=0) rfl rfl aG g1
 refine bind_ex i1 ?_
 have h1:_ = [_]:=h1
 subst h1
 refine bind_ex (ldI_of (j1 0 _ rfl)) ?_
 obtain ⟨n2,g2,hp⟩:=bind_some' hp
 obtain ⟨p2,q2,i2,h2,j2⟩:=W.ixo (E:=(eInt .i64)) w0 (i:=0) rfl rfl aG g2
 refine bind_ex i2 ?_
 have h2:_ = [_]:=h2
 subst h2
 refine bind_ex (ldI_of (j2 0 _ rfl)) ?_
 exact ax.l7_P F rfl ⟨w0,s0,aG⟩ hp
def bX.Q (H0:Hp) (Ri R0:List Rs)  (r:List Int) (v:AV) (H':Hp):Prop:=∃ o0a:ON,∃ o0n:Nat,∃ o0c:Cap,∃ o0k:List AV,v = (.sl ⟨o0a,o0n,o0c⟩)∧o0n = (r).length∧Out H0 Ri H' (Rs.own ⟨o0a,o0n,o0c⟩ (eInt .i64).z o0k :: R0) fun R=>CR (eInt .i64) H' R o0k (r)
def bX.p (F:Nat) (ac:List Int):Option (List Int):=(if ac.length ≤ 4294967296∧wfs ac = true then some (nums ac) else none)
theorem bX.P {F:Nat} {ap:ON} {ag:Nat} {aq:Cap} {ac:List Int} {H:Hp} {R0:List Rs} (aY:ag = ac.length) (h0:Inn H R0 fun R=>ROs (eInt .i64) H R ⟨ap,ag,aq⟩ ac) {r:List Int} (hp:bX.p F ac = some r):∃ v H',bX.tw F ⟨ap,ag,aq⟩ H = some (v,H')∧bX.Q H R0 R0  r v H':=by
 obtain ⟨w0,f0⟩:=h0
 subst aY
 unfold bX.p at hp
 unfold bX.tw numTw
 have s0:=w0.rf
 obtain ⟨hc,hp⟩:=ifs_p hp
 have hp:=Option.some.inj hp
 obtain ⟨xs,hx,cx⟩:=f0.row rfl
 refine bind_ex hx ?_
 obtain rfl:=cx.ints_eq
 refine bind_ex (asInts_map _) ?_
 refine ifs_ex hc ?_
 by_cases hz:ac.length = 0
 ·rw [if_pos hz]
  obtain ⟨w1,s1⟩:=w0.nilS (eInt .i64).z (by decide)
  obtain rfl:r = []:=List.length_eq_zero_iff.1 (by rw [← hp,nums_len,hz])
  exact ⟨_,_,rfl,none,0,.ex 0,[],rfl,rfl,w1,s0.trans s1,CR.empty⟩
 ·rw [if_neg hz]
  obtain ⟨H2,e2,w2,s2⟩:=w0.newF ((nums ac).map (AV.int .i64)) ac.length (eInt .i64).z (by rw [List.length_map,nums_len]; exact (Nat.mul_one _).symm) (by decide)
  subst e2
  subst hp
  exact ⟨_,_,rfl,some (_,0),_,.full 1,_,rfl,(nums_len _).symm,w2,s0.trans s2,CR.ints _ _ _ _⟩
def aI.Q (H0:Hp) (Ri R0:List Rs)  (r:List Int) (v:AV) (H':Hp):Prop:=∃ o0a:ON,∃ o0n:Nat,∃ o0c:Cap,∃ o0k:List AV,v = (.sl ⟨o0a,o0n,o0c⟩)∧o0n = (r).length∧Out H0 Ri H' (Rs.own ⟨o0a,o0n,o0c⟩ (eInt .i64).z o0k :: R0) fun R=>CR (eInt .i64) H' R o0k (r)
def aI.S29 (H0:Hp) (Ri R0:List Rs)  (C:Nat→Nat→Sl→Sl→Int→Int→Hp→OA) (pC:List (Int×Int)→List (Int×Int)→List Int→Int→Int→Option (List Int)):Prop:=∀ {mM qW qX:ON} {ku mN ey mO:Nat} {mP qY qZ:Cap} {iz iA:List (Int×Int)} {ji:List Int} {q_:List AV} {ez dR:Int},∀ {H:Hp},ku = iz.length→mN = iA.length→mO = ji.length→(Out H0 Ri H (Rs.blk ey [.sl ⟨mM,ku,mP⟩,.sl ⟨qW,mN,qY⟩] :: Rs.own ⟨qX,mO,qZ⟩ (eInt .i64).z q_ :: R0) fun R=>ROs (ePair (eInt .i64) (eInt .i64)) H R ⟨mM,ku,mP⟩ iz∧ROs (ePair (eInt .i64) (eInt .i64)) H R ⟨qW,mN,qY⟩ iA∧CR (eInt .i64) H R q_ ji)→∀ {r:List Int},pC iz iA ji ez dR = some r→∃ v H',C ey 0 ⟨qX,mO,qZ⟩ ⟨mM,ku,mP⟩ ez dR H = some (v,H')∧aI.Q H0 Ri R0  r v H'
def aI.pl29 (F:Nat) :Nat→List (Int×Int)→List (Int×Int)→List Int→Int→Int→Option (List Int)
 | 0,_,_,_,_,_=>none
 | k + 1,iz,iA,ji,ez,dR=>(bif (decide (dR < ez)) then ((ix iz dR).bind fun n1=>(ix iA dR).bind fun n5=>(ax.p F ji ((gt iz n1).1) ((gt iA n5).1)).bind fun r7=>aI.pl29 F k iz iA r7 ez (IntKind.i64.wrap (dR + 1))) else ((bX.p F ji).bind fun r12=>some r12))
termination_by structural n=>n
theorem aI.l29_P {F:Nat} {H0:Hp} {Ri R0:List Rs}  :∀ k,aI.S29 H0 Ri R0  (aI.l29 F (aE.tw F) (aC.tw F) (ax.tw F) (bX.tw F)  k) (aI.pl29 F  k):=by
 intro k
 induction k with
 | zero=>
  intro mM qW qX ku mN ey mO mP qY qZ iz iA ji q_ ez dR H xX xY xZ h0 r hp
  exact nomatch (show (none:Option (List Int)) = some r from hp)
 | succ k ih=>
  intro mM qW qX ku mN ey mO mP qY qZ iz iA ji q_ ez dR H xX xY xZ h0 r hp
  obtain ⟨w0,s0,x_,ya,yb⟩:=h0
  subst xX
  subst xY
  subst xZ
  unfold aI.pl29 at hp
  unfold aI.l29
  refine bif_ex (fun hb=>?_) (fun hb=>?_)
  ·replace hp:=bif_t hb hp
   obtain ⟨n1,g1,hp⟩:=bind_some' hp
   obtain ⟨p1,q1,i1,h1,j1⟩:=ROs.ixr x_ rfl g1
   refine bind_ex i1 ?_
   obtain ⟨_,_,rfl,rfl,rfl⟩:=h1
   refine bind_ex (ldI_of (j1 0 _ rfl)) ?_
   refine bind_ex (ldI_of (j1 1 _ rfl)) ?_
   refine new_k w0 fun H2 w2 s2=>?_
   refine st_k w2 (i:=0) rfl rfl rfl fun H3 w3 s3=>?_
   dsimp only [List.set] at w3 s3
   refine st_k w3 (i:=0) rfl rfl rfl fun H4 w4 s4=>?_
   dsimp only [List.set] at w4 s4
   refine bind_ex (ldI_of (w4.ld (i:=0) rfl rfl)) ?_
   refine bind_ex (ldSl_of (w4.ld (i:=1) rfl rfl)) ?_
   obtain ⟨n5,g5,hp⟩:=bind_some' hp
   obtain ⟨p5,q5,i5,h5,j5⟩:=ROs.ixr (ya.step (s2.trans (s3.trans s4))) rfl g5
   refine bind_ex i5 ?_
   obtain ⟨_,_,rfl,rfl,rfl⟩:=h5
   refine bind_ex (ldI_of (j5 0 _ rfl)) ?_
   obtain ⟨w6,s6⟩:=w4.pick' [2,0,1] 3 rfl rfl rfl
   dsimp only [pk,pks,nth,List.drop] at w6 s6
   obtain ⟨r7,e7,hp⟩:=bind_some' hp
   refine call_ex (ax.P rfl ⟨w6,(yb.step (s2.trans (s3.trans (s4.trans s6))))⟩ e7) ?_
   rintro _ H8 ⟨BY,rfl,hl8_0,w8,s8,f8_0⟩
   obtain ⟨w9,s9⟩:=w8.pick' [2,0] 3 rfl rfl rfl
   dsimp only [pk,pks,nth,List.drop] at w9 s9
   exact ih rfl rfl hl8_0 ⟨w9,(s0.trans (s2.trans (s3.trans (s4.trans (s6.trans (s8.trans s9)))))),(x_.step (s2.trans (s3.trans (s4.trans (s6.trans (s8.trans s9)))))),(ya.step (s2.trans (s3.trans (s4.trans (s6.trans (s8.trans s9)))))),(f8_0.step s9)⟩ hp
  ·replace hp:=bif_f hb hp
   obtain ⟨w10,s10⟩:=w0.pick' [1,0] 2 rfl rfl rfl
   dsimp only [pk,pks,nth,List.drop] at w10 s10
   have f11:=W.borrow1 (eInt .i64) w10 (yb.step s10)
   obtain ⟨w11,s11⟩:=w10.right1
   obtain ⟨r12,e12,hp⟩:=bind_some' hp
   refine call_ex (bX.P rfl ⟨w11,f11⟩ e12) ?_
   rintro _ H13 ⟨o0a_13,o0n_13,o0c_13,o0k_13,rfl,rfl,w13,s13,f13_0⟩
   obtain ⟨w14,s14⟩:=W.frame1 w10 w13 s13
   refine bind_ex rfl ?_
   obtain ⟨w15,s15⟩:=w14.pick' [1] 3 rfl rfl rfl
   dsimp only [pk,pks,nth,List.drop] at w15 s15
   obtain rfl:=Option.some.inj hp
   exact ⟨_,_,rfl,_,_,_,_,rfl,rfl,w15,(s0.trans (s10.trans (s14.trans s15))),((CR.flat (eInt_flat .i64) f13_0).step s15)⟩
def aI.p (F:Nat) (ac:List (Int×Int×Int×Int×Int)) (cT:List (Int×Int)) (eH:List (Int×Int)):Option (List Int):=(aE.p F ac).bind fun r3=>(aC.p F r3).bind fun r5=>aI.pl29 F F cT eH r5 (cT.length:Int) 0
theorem aI.P {F:Nat} {ap hK ja:ON} {ag fC hL:Nat} {aq hM jb:Cap} {ac:List (Int×Int×Int×Int×Int)} {ab:Int} {cT eH:List (Int×Int)} {H:Hp} {R0:List Rs} (aY:ag = ac.length) (jq:fC = cT.length) (mj:hL = eH.length) (h0:Inn H R0 fun R=>ROs (ePair (eInt .i64) (ePair (eInt .i64) (ePair (eInt .i64) (ePair (eInt .i64) (eInt .i64))))) H R ⟨ap,ag,aq⟩ ac∧ROs (ePair (eInt .i64) (eInt .i64)) H R ⟨hK,fC,hM⟩ cT∧ROs (ePair (eInt .i64) (eInt .i64)) H R ⟨ja,hL,jb⟩ eH) {r:List Int} (hp:aI.p F ac cT eH = some r):∃ v H',aI.tw F ⟨ap,ag,aq⟩ ab ⟨hK,fC,hM⟩ ⟨ja,hL,jb⟩ H = some (v,H')∧aI.Q H R0 R0  r v H':=by
 obtain ⟨w0,aG,jr,ml⟩:=h0
 subst aY
 subst jq
 subst mj
 unfold aI.p at hp
 unfold aI.tw aI.twX
 have s0:=w0.rf
 refine new_k w0 fun H1 w1 s1=>?_
 refine new_k w1 fun H2 w2 s2=>?_
 refine bind_ex (ldSl_of (w2.ld (i:=1) rfl rfl)) ?_
 obtain ⟨r3,e3,hp⟩:=bind_some' hp
 refine call_ex (aE.P rfl ⟨w2,(aG.step (s1.trans s2))⟩ e3) ?_
 rintro _ H4 ⟨rfl,w4,s4,_⟩
 refine bind_ex rfl ?_
 obtain ⟨r5,e5,hp⟩:=bind_some' hp
 refine call_ex (aC.P ⟨w4,trivial⟩ e5) ?_
 rintro _ H6 ⟨o0a_6,o0n_6,o0c_6,o0k_6,rfl,rfl,w6,s6,f6_0⟩
 refine bind_ex rfl ?_
 refine bind_ex (ldSl_of (w6.ld (i:=1) rfl rfl)) ?_
 obtain ⟨w7,s7⟩:=w6.pick' [1,0] 3 rfl rfl rfl
 dsimp only [pk,pks,nth,List.drop] at w7 s7
 exact aI.l29_P F rfl rfl rfl ⟨w7,(s0.trans (s1.trans (s2.trans (s4.trans (s6.trans s7))))),(jr.step (s1.trans (s2.trans (s4.trans (s6.trans s7))))),(ml.step (s1.trans (s2.trans (s4.trans (s6.trans s7))))),(f6_0.step s7)⟩ hp
def aD.Q (H0:Hp) (Ri R0:List Rs)  (r:Int) (v:AV) (H':Hp):Prop:=v = (.int .i64 r)∧Out H0 Ri H' (R0) fun R=>True
def aD.S61 (H0:Hp) (Ri R0:List Rs)  (C:Sl→Int→Int→Hp→OA) (pC:List Int→Int→Int→Option (Int)):Prop:=∀ {ra:ON} {mQ:Nat} {rb:Cap} {dk:List Int} {ck eh:Int},∀ {H:Hp},mQ = dk.length→(Out H0 Ri H R0 fun R=>ROs (eInt .i64) H R ⟨ra,mQ,rb⟩ dk)→∀ {r:Int},pC dk ck eh = some r→∃ v H',C ⟨ra,mQ,rb⟩ ck eh H = some (v,H')∧aD.Q H0 Ri R0  r v H'
def aD.pl61 (F:Nat) :Nat→List Int→Int→Int→Option (Int)
 | 0,_,_,_=>none
 | k + 1,dk,ck,eh=>(bif (decide (eh < (dk.length:Int))) then ((ix dk eh).bind fun n1=>aD.pl61 F k dk (if (gt dk n1) > ck then (gt dk n1) else ck) (IntKind.i64.wrap (eh + 1))) else (some ck))
termination_by structural n=>n
theorem aD.l61_P {F:Nat} {H0:Hp} {Ri R0:List Rs}  :∀ k,aD.S61 H0 Ri R0  (aD.l61 F   k) (aD.pl61 F  k):=by
 intro k
 induction k with
 | zero=>
  intro ra mQ rb dk ck eh H mL h0 r hp
  exact nomatch (show (none:Option (Int)) = some r from hp)
 | succ k ih=>
  intro ra mQ rb dk ck eh H mL h0 r hp
  obtain ⟨w0,s0,jh⟩:=h0
  subst mL
  unfold aD.pl61 at hp
  unfold aD.l61
  refine bif_ex (fun hb=>?_) (fun hb=>?_)
  ·replace hp:=bif_t hb hp
   obtain ⟨n1,g1,hp⟩:=bind_some' hp
   obtain ⟨p1,q1,i1,h1,j1⟩:=ROs.ixr jh rfl g1
   refine bind_ex i1 ?_
   have h1:_ = [_]:=h1
   subst h1
   refine bind_ex (ldI_of (j1 0 _ rfl)) ?_
   exact ih rfl ⟨w0,s0,jh⟩ hp
  ·replace hp:=bif_f hb hp
   obtain rfl:=Option.some.inj hp
   exact ⟨_,_,rfl,rfl,w0,s0,trivial⟩
def aD.pj1 (F:Nat)  (jw:List Int):Option (Int):=(ix jw 0).bind fun n1=>aD.pl61 F F jw (gt jw n1) 1
theorem aD.j1_P {F:Nat} {H0:Hp} {Ri R0:List Rs}   {yc:ON} {tj:Nat} {yd:Cap} {jw:List Int} {H:Hp} (BN:tj = jw.length) (h0:Out H0 Ri H R0 fun R=>ROs (eInt .i64) H R ⟨yc,tj,yd⟩ jw) {r:Int} (hp:aD.pj1 F  jw = some r):∃ v H',aD.j1 F   ⟨yc,tj,yd⟩ H = some (v,H')∧aD.Q H0 Ri R0  r v H':=by
 obtain ⟨w0,s0,ye⟩:=h0
 subst BN
 unfold aD.pj1 at hp
 unfold aD.j1
 obtain ⟨n1,g1,hp⟩:=bind_some' hp
 obtain ⟨p1,q1,i1,h1,j1⟩:=ROs.ixr ye rfl g1
 refine bind_ex i1 ?_
 have h1:_ = [_]:=h1
 subst h1
 refine bind_ex (ldI_of (j1 0 _ rfl)) ?_
 exact aD.l61_P F rfl ⟨w0,s0,ye⟩ hp
def aD.p (F:Nat) (ac:List Int):Option (Int):=(bif (decide ((ac.length:Int) < 1)) then (none) else (aD.pj1 F ac))
theorem aD.P {F:Nat} {ap:ON} {ag:Nat} {aq:Cap} {ac:List Int} {H:Hp} {R0:List Rs} (aY:ag = ac.length) (h0:Inn H R0 fun R=>ROs (eInt .i64) H R ⟨ap,ag,aq⟩ ac) {r:Int} (hp:aD.p F ac = some r):∃ v H',aD.tw F ⟨ap,ag,aq⟩ H = some (v,H')∧aD.Q H R0 R0  r v H':=by
 obtain ⟨w0,aG⟩:=h0
 subst aY
 unfold aD.p at hp
 unfold aD.tw aD.twX
 have s0:=w0.rf
 refine bif_ex (fun hb=>?_) (fun hb=>?_)
 ·replace hp:=bif_t hb hp
  cases hp
 ·replace hp:=bif_f hb hp
  exact aD.j1_P rfl ⟨w0,s0,aG⟩ hp
def ba.Q (H0:Hp) (Ri R0:List Rs)  (r:Int) (v:AV) (H':Hp):Prop:=v = (.int .i64 r)∧Out H0 Ri H' (R0) fun R=>True
def ba.p (F:Nat) (ac:List Int):Option (Int):=(bif ((ac.length:Int) == 0) then (some 0) else ((aD.p F ac).bind fun r1=>some (IntKind.i64.wrap (r1 + 1))))
theorem ba.P {F:Nat} {ap:ON} {ag:Nat} {aq:Cap} {ac:List Int} {H:Hp} {R0:List Rs} (aY:ag = ac.length) (h0:Inn H R0 fun R=>ROs (eInt .i64) H R ⟨ap,ag,aq⟩ ac) {r:Int} (hp:ba.p F ac = some r):∃ v H',ba.tw F ⟨ap,ag,aq⟩ H = some (v,H')∧ba.Q H R0 R0  r v H':=by
 obtain ⟨w0,aG⟩:=h0
 subst aY
 unfold ba.p at hp
 unfold ba.tw ba.twX
 have s0:=w0.rf
 refine bif_ex (fun hb=>?_) (fun hb=>?_)
 ·replace hp:=bif_t hb hp
  obtain rfl:=Option.some.inj hp
  exact ⟨_,_,rfl,rfl,w0,s0,trivial⟩
 ·replace hp:=bif_f hb hp
  obtain ⟨r1,e1,hp⟩:=bind_some' hp
  refine call_ex (aD.P rfl ⟨w0,aG⟩ e1) ?_
  rintro _ H2 ⟨rfl,w2,s2,_⟩
  refine bind_ex rfl ?_
  obtain rfl:=Option.some.inj hp
  exact ⟨_,_,rfl,rfl,w2,(s0.trans s2),trivial⟩
def bh.Q (H0:Hp) (Ri R0:List Rs)  (r:(List (Int×Int))×(List (Int×Int))×Bool) (v:AV) (H':Hp):Prop:=∃ o0a:ON,∃ o0n:Nat,∃ o0c:Cap,∃ o1a:ON,∃ o1n:Nat,∃ o1c:Cap,v = (.tup [(.agg [(.sl ⟨o0a,o0n,o0c⟩),(.sl ⟨o1a,o1n,o1c⟩)]),(.bool r.2.2)])∧o0n = (r.1).length∧o1n = (r.2.1).length∧Out H0 Ri H' (R0) fun R=>ROs (ePair (eInt .i64) (eInt .i64)) H' R ⟨o0a,o0n,o0c⟩ (r.1)∧ROs (ePair (eInt .i64) (eInt .i64)) H' R ⟨o1a,o1n,o1c⟩ (r.2.1)
def bh.p (F:Nat) (ac:List (Int×Int×Int×Int×Int)) (ab:Int):Option ((List (Int×Int))×(List (Int×Int))×Bool):=(aE.p F ac).bind fun r3=>(bif (decide (r3 > 10)) then (some (([]:List (Int×Int)),([]:List (Int×Int)),false)) else ((bf.p F ab 0 8).bind fun r12=>(bif (!r12) then (some (([]:List (Int×Int)),([]:List (Int×Int)),false)) else ((bv.p F ac).bind fun r21=>(bif r21 then (some (([]:List (Int×Int)),([]:List (Int×Int)),false)) else ((ar.p F ac).bind fun r30=>(bif (!r30.2.2) then (some (([]:List (Int×Int)),([]:List (Int×Int)),false)) else ((aj.p F ac r30.1 r30.2.1).bind fun r44=>(bH.p F r44).bind fun r48=>(aI.p F ac r30.1 r30.2.1).bind fun r52=>(ba.p F r52).bind fun r55=>(bif (r48 != (IntKind.i64.wrap (r3 + (IntKind.i64.wrap (2 * r55))))) then (some (([]:List (Int×Int)),([]:List (Int×Int)),false)) else (some (r30.1,r30.2.1,true)))))))))))
theorem bh.P {F:Nat} {ap:ON} {ag:Nat} {aq:Cap} {ac:List (Int×Int×Int×Int×Int)} {ab:Int} {H:Hp} {R0:List Rs} (aY:ag = ac.length) (h0:Inn H R0 fun R=>ROs (ePair (eInt .i64) (ePair (eInt .i64) (ePair (eInt .i64) (ePair (eInt .i64) (eInt .i64))))) H R ⟨ap,ag,aq⟩ ac) {r:(List (Int×Int))×(List (Int×Int))×Bool} (hp:bh.p F ac ab = some r):∃ v H',bh.tw F ⟨ap,ag,aq⟩ ab H = some (v,H')∧bh.Q H R0 R0  r v H':=by
 obtain ⟨w0,aG⟩:=h0
 subst aY
 unfold bh.p at hp
 unfold bh.tw bh.twX
 have s0:=w0.rf
 refine new_k w0 fun H1 w1 s1=>?_
 refine new_k w1 fun H2 w2 s2=>?_
 refine bind_ex (ldSl_of (w2.ld (i:=1) rfl rfl)) ?_
 obtain ⟨r3,e3,hp⟩:=bind_some' hp
 refine call_ex (aE.P rfl ⟨w2,(aG.step (s1.trans s2))⟩ e3) ?_
 rintro _ H4 ⟨rfl,w4,s4,_⟩
 refine bind_ex rfl ?_
 refine bif_ex (fun hb=>?_) (fun hb=>?_)
 ·replace hp:=bif_t hb hp
  refine st_k w4 (i:=0) rfl rfl rfl fun H5 w5 s5=>?_
  dsimp only [List.set] at w5 s5
  refine st_k w5 (i:=0) rfl rfl rfl fun H6 w6 s6=>?_
  dsimp only [List.set] at w6 s6
  refine bind_ex (ldSl_of (w6.ld (i:=0) rfl rfl)) ?_
  refine bind_ex (ldSl_of (w6.ld (i:=0) rfl rfl)) ?_
  obtain ⟨w7,s7⟩:=w6.nilS (ePair (eInt .i64) (eInt .i64)).z (by decide)
  obtain ⟨w8,s8⟩:=w7.nilS (ePair (eInt .i64) (eInt .i64)).z (by decide)
  obtain ⟨w9,s9,f9⟩:=w8.frz (i:=1) (ePair (eInt .i64) (eInt .i64)) rfl ((CR.empty:CR (ePair (eInt .i64) (eInt .i64)) _ _ [] []).step s8)
  dsimp only [List.eraseIdx] at w9 s9 f9
  obtain ⟨w10,s10,f10⟩:=w9.frz (i:=0) (ePair (eInt .i64) (eInt .i64)) rfl ((CR.empty:CR (ePair (eInt .i64) (eInt .i64)) _ _ [] []).step s9)
  dsimp only [List.eraseIdx] at w10 s10 f10
  obtain ⟨w11,s11⟩:=w10.pick' [] 2 rfl rfl rfl
  dsimp only [pk,pks,nth,List.drop] at w11 s11
  obtain rfl:=Option.some.inj hp
  exact ⟨_,_,rfl,_,_,_,_,_,_,rfl,rfl,rfl,w11,(s0.trans (s1.trans (s2.trans (s4.trans (s5.trans (s6.trans (s7.trans (s8.trans (s9.trans (s10.trans s11)))))))))),(f9.step (s10.trans s11)),(f10.step s11)⟩
 ·replace hp:=bif_f hb hp
  refine bind_ex (ldI_of (w4.ld (i:=1) rfl rfl)) ?_
  obtain ⟨r12,e12,hp⟩:=bind_some' hp
  refine call_ex (bf.P ⟨w4,trivial⟩ e12) ?_
  rintro _ H13 ⟨rfl,w13,s13,_⟩
  refine bind_ex rfl ?_
  refine bif_ex (fun hb=>?_) (fun hb=>?_)
  ·replace hp:=bif_t hb hp
   refine st_k w13 (i:=0) rfl rfl rfl fun H14 w14 s14=>?_
   dsimp only [List.set] at w14 s14
   refine st_k w14 (i:=0) rfl rfl rfl fun H15 w15 s15=>?_
   dsimp only [List.set] at w15 s15
   refine bind_ex (ldSl_of (w15.ld (i:=0) rfl rfl)) ?_
   refine bind_ex (ldSl_of (w15.ld (i:=0) rfl rfl)) ?_
   obtain ⟨w16,s16⟩:=w15.nilS (ePair (eInt .i64) (eInt .i64)).z (by decide)
   obtain ⟨w17,s17⟩:=w16.nilS (ePair (eInt .i64) (eInt .i64)).z (by decide)
   obtain ⟨w18,s18,f18⟩:=w17.frz (i:=1) (ePair (eInt .i64) (eInt .i64)) rfl ((CR.empty:CR (ePair (eInt .i64) (eInt .i64)) _ _ [] []).step s17)
   dsimp only [List.eraseIdx] at w18 s18 f18
   obtain ⟨w19,s19,f19⟩:=w18.frz (i:=0) (ePair (eInt .i64) (eInt .i64)) rfl ((CR.empty:CR (ePair (eInt .i64) (eInt .i64)) _ _ [] []).step s18)
   dsimp only [List.eraseIdx] at w19 s19 f19
   obtain ⟨w20,s20⟩:=w19.pick' [] 2 rfl rfl rfl
   dsimp only [pk,pks,nth,List.drop] at w20 s20
   obtain rfl:=Option.some.inj hp
   exact ⟨_,_,rfl,_,_,_,_,_,_,rfl,rfl,rfl,w20,(s0.trans (s1.trans (s2.trans (s4.trans (s13.trans (s14.trans (s15.trans (s16.trans (s17.trans (s18.trans (s19.trans s20))))))))))),(f18.step (s19.trans s20)),(f19.step s20)⟩
  ·replace hp:=bif_f hb hp
   refine bind_ex (ldSl_of (w13.ld (i:=1) rfl rfl)) ?_
   obtain ⟨r21,e21,hp⟩:=bind_some' hp
   refine call_ex (bv.P rfl ⟨w13,(aG.step (s1.trans (s2.trans (s4.trans s13))))⟩ e21) ?_
   rintro _ H22 ⟨rfl,w22,s22,_⟩
   refine bind_ex rfl ?_
   refine bif_ex (fun hb=>?_) (fun hb=>?_)
   ·replace hp:=bif_t hb hp
    refine st_k w22 (i:=0) rfl rfl rfl fun H23 w23 s23=>?_
    dsimp only [List.set] at w23 s23
    refine st_k w23 (i:=0) rfl rfl rfl fun H24 w24 s24=>?_
    dsimp only [List.set] at w24 s24
    refine bind_ex (ldSl_of (w24.ld (i:=0) rfl rfl)) ?_
    refine bind_ex (ldSl_of (w24.ld (i:=0) rfl rfl)) ?_
    obtain ⟨w25,s25⟩:=w24.nilS (ePair (eInt .i64) (eInt .i64)).z (by decide)
    obtain ⟨w26,s26⟩:=w25.nilS (ePair (eInt .i64) (eInt .i64)).z (by decide)
    obtain ⟨w27,s27,f27⟩:=w26.frz (i:=1) (ePair (eInt .i64) (eInt .i64)) rfl ((CR.empty:CR (ePair (eInt .i64) (eInt .i64)) _ _ [] []).step s26)
    dsimp only [List.eraseIdx] at w27 s27 f27
    obtain ⟨w28,s28,f28⟩:=w27.frz (i:=0) (ePair (eInt .i64) (eInt .i64)) rfl ((CR.empty:CR (ePair (eInt .i64) (eInt .i64)) _ _ [] []).step s27)
    dsimp only [List.eraseIdx] at w28 s28 f28
    obtain ⟨w29,s29⟩:=w28.pick' [] 2 rfl rfl rfl
    dsimp only [pk,pks,nth,List.drop] at w29 s29
    obtain rfl:=Option.some.inj hp
    exact ⟨_,_,rfl,_,_,_,_,_,_,rfl,rfl,rfl,w29,(s0.trans (s1.trans (s2.trans (s4.trans (s13.trans (s22.trans (s23.trans (s24.trans (s25.trans (s26.trans (s27.trans (s28.trans s29)))))))))))),(f27.step (s28.trans s29)),(f28.step s29)⟩
   ·replace hp:=bif_f hb hp
    refine bind_ex (ldSl_of (w22.ld (i:=1) rfl rfl)) ?_
    refine bind_ex (ldI_of (w22.ld (i:=1) rfl rfl)) ?_
    obtain ⟨r30,e30,hp⟩:=bind_some' hp
    refine call_ex (ar.P rfl ⟨w22,(aG.step (s1.trans (s2.trans (s4.trans (s13.trans s22)))))⟩ e30) ?_
    rintro _ H31 ⟨o0a_31,o0n_31,o0c_31,o0k_31,o1a_31,o1n_31,o1c_31,o1k_31,rfl,rfl,rfl,w31,s31,f31_0,f31_1⟩
    refine bind_ex rfl ?_
    refine bind_ex rfl ?_
    refine bind_ex rfl ?_
    refine bind_ex rfl ?_
    refine bind_ex rfl ?_
    refine bind_ex rfl ?_
    refine bind_ex rfl ?_
    refine bind_ex rfl ?_
    refine bind_ex rfl ?_
    refine new_k w31 fun H32 w32 s32=>?_
    refine st_k w32 (i:=0) rfl rfl rfl fun H33 w33 s33=>?_
    dsimp only [List.set] at w33 s33
    refine st_k w33 (i:=0) rfl rfl rfl fun H34 w34 s34=>?_
    dsimp only [List.set] at w34 s34
    refine bif_ex (fun hb=>?_) (fun hb=>?_)
    ·replace hp:=bif_t hb hp
     refine st_k w34 (i:=3) rfl rfl rfl fun H35 w35 s35=>?_
     dsimp only [List.set] at w35 s35
     refine st_k w35 (i:=3) rfl rfl rfl fun H36 w36 s36=>?_
     dsimp only [List.set] at w36 s36
     refine bind_ex (ldSl_of (w36.ld (i:=3) rfl rfl)) ?_
     refine bind_ex (ldSl_of (w36.ld (i:=3) rfl rfl)) ?_
     obtain ⟨w37,s37⟩:=w36.nilS (ePair (eInt .i64) (eInt .i64)).z (by decide)
     obtain ⟨w38,s38⟩:=w37.nilS (ePair (eInt .i64) (eInt .i64)).z (by decide)
     obtain ⟨w39,s39,f39⟩:=w38.frz (i:=1) (ePair (eInt .i64) (eInt .i64)) rfl ((CR.empty:CR (ePair (eInt .i64) (eInt .i64)) _ _ [] []).step s38)
     dsimp only [List.eraseIdx] at w39 s39 f39
     obtain ⟨w40,s40,f40⟩:=w39.frz (i:=0) (ePair (eInt .i64) (eInt .i64)) rfl ((CR.empty:CR (ePair (eInt .i64) (eInt .i64)) _ _ [] []).step s39)
     dsimp only [List.eraseIdx] at w40 s40 f40
     obtain ⟨w41,s41⟩:=w40.pick' [] 5 rfl rfl rfl
     dsimp only [pk,pks,nth,List.drop] at w41 s41
     obtain rfl:=Option.some.inj hp
     exact ⟨_,_,rfl,_,_,_,_,_,_,rfl,rfl,rfl,w41,(s0.trans (s1.trans (s2.trans (s4.trans (s13.trans (s22.trans (s31.trans (s32.trans (s33.trans (s34.trans (s35.trans (s36.trans (s37.trans (s38.trans (s39.trans (s40.trans s41)))))))))))))))),(f39.step (s40.trans s41)),(f40.step s41)⟩
    ·replace hp:=bif_f hb hp
     refine bind_ex (ldSl_of (w34.ld (i:=4) rfl rfl)) ?_
     refine bind_ex (ldI_of (w34.ld (i:=4) rfl rfl)) ?_
     refine bind_ex (ldSl_of (w34.ld (i:=0) rfl rfl)) ?_
     refine bind_ex (ldSl_of (w34.ld (i:=0) rfl rfl)) ?_
     obtain ⟨w42,s42,f42⟩:=w34.frz (i:=1) (ePair (eInt .i64) (eInt .i64)) rfl (f31_0.step (s32.trans (s33.trans s34)))
     dsimp only [List.eraseIdx] at w42 s42 f42
     obtain ⟨w43,s43,f43⟩:=w42.frz (i:=1) (ePair (eInt .i64) (eInt .i64)) rfl (f31_1.step (s32.trans (s33.trans (s34.trans s42))))
     dsimp only [List.eraseIdx] at w43 s43 f43
     obtain ⟨r44,e44,hp⟩:=bind_some' hp
     refine call_ex (aj.P rfl rfl rfl ⟨w43,(aG.step (s1.trans (s2.trans (s4.trans (s13.trans (s22.trans (s31.trans (s32.trans (s33.trans (s34.trans (s42.trans s43))))))))))),(f42.step s43),f43⟩ e44) ?_
     rintro _ H45 ⟨o0a_45,o0n_45,o0c_45,o0k_45,rfl,rfl,w45,s45,f45_0⟩
     refine bind_ex rfl ?_
     refine ifs_ex (Cons.tr (Cons.refl _) s42 (Cons.tr (Cons.refl _) s43 (W.cons_of (Rn:=[_]) w43 w45 s45))) ?_
     have f47:=W.borrow1 (eSl (eInt .i64)) w45 f45_0
     obtain ⟨w47,s47⟩:=w45.right1
     obtain ⟨r48,e48,hp⟩:=bind_some' hp
     refine call_ex (bH.P rfl ⟨w47,f47⟩ e48) ?_
     rintro _ H49 ⟨rfl,w49,s49,_⟩
     obtain ⟨w50,s50⟩:=W.frame1 w45 w49 s49
     refine bind_ex rfl ?_
     refine ifs_ex (W.cons_of (Rn:=[]) w47 w49 s49) ?_
     refine bind_ex (ldSl_of (w50.ld (i:=3) rfl rfl)) ?_
     refine bind_ex (ldI_of (w50.ld (i:=3) rfl rfl)) ?_
     refine bind_ex (ldSl_of (w50.ld (i:=1) rfl rfl)) ?_
     refine bind_ex (ldSl_of (w50.ld (i:=1) rfl rfl)) ?_
     obtain ⟨r52,e52,hp⟩:=bind_some' hp
     refine call_ex (aI.P rfl rfl rfl ⟨w50,(aG.step (s1.trans (s2.trans (s4.trans (s13.trans (s22.trans (s31.trans (s32.trans (s33.trans (s34.trans (s42.trans (s43.trans (s45.trans s50))))))))))))),(f42.step (s43.trans (s45.trans s50))),(f43.step (s45.trans s50))⟩ e52) ?_
     rintro _ H53 ⟨o0a_53,o0n_53,o0c_53,o0k_53,rfl,rfl,w53,s53,f53_0⟩
     refine bind_ex rfl ?_
     have f54:=W.borrow1 (eInt .i64) w53 f53_0
     obtain ⟨w54,s54⟩:=w53.right1
     obtain ⟨r55,e55,hp⟩:=bind_some' hp
     refine call_ex (ba.P rfl ⟨w54,f54⟩ e55) ?_
     rintro _ H56 ⟨rfl,w56,s56,_⟩
     obtain ⟨w57,s57⟩:=W.frame1 w53 w56 s56
     refine bind_ex rfl ?_
     refine bif_ex (fun hb=>?_) (fun hb=>?_)
     ·replace hp:=bif_t hb hp
      refine st_k w57 (i:=3) rfl rfl rfl fun H58 w58 s58=>?_
      dsimp only [List.set] at w58 s58
      refine st_k w58 (i:=3) rfl rfl rfl fun H59 w59 s59=>?_
      dsimp only [List.set] at w59 s59
      refine bind_ex (ldSl_of (w59.ld (i:=3) rfl rfl)) ?_
      refine bind_ex (ldSl_of (w59.ld (i:=3) rfl rfl)) ?_
      obtain ⟨w60,s60⟩:=w59.nilS (ePair (eInt .i64) (eInt .i64)).z (by decide)
      obtain ⟨w61,s61⟩:=w60.nilS (ePair (eInt .i64) (eInt .i64)).z (by decide)
      obtain ⟨w62,s62,f62⟩:=w61.frz (i:=1) (ePair (eInt .i64) (eInt .i64)) rfl ((CR.empty:CR (ePair (eInt .i64) (eInt .i64)) _ _ [] []).step s61)
      dsimp only [List.eraseIdx] at w62 s62 f62
      obtain ⟨w63,s63,f63⟩:=w62.frz (i:=0) (ePair (eInt .i64) (eInt .i64)) rfl ((CR.empty:CR (ePair (eInt .i64) (eInt .i64)) _ _ [] []).step s62)
      dsimp only [List.eraseIdx] at w63 s63 f63
      obtain ⟨w64,s64⟩:=w63.pick' [] 5 rfl rfl rfl
      dsimp only [pk,pks,nth,List.drop] at w64 s64
      obtain rfl:=Option.some.inj hp
      exact ⟨_,_,rfl,_,_,_,_,_,_,rfl,rfl,rfl,w64,(s0.trans (s1.trans (s2.trans (s4.trans (s13.trans (s22.trans (s31.trans (s32.trans (s33.trans (s34.trans (s42.trans (s43.trans (s45.trans (s50.trans (s53.trans (s57.trans (s58.trans (s59.trans (s60.trans (s61.trans (s62.trans (s63.trans s64)))))))))))))))))))))),(f62.step (s63.trans s64)),(f63.step s64)⟩
     ·replace hp:=bif_f hb hp
      refine bind_ex (ldSl_of (w57.ld (i:=2) rfl rfl)) ?_
      refine bind_ex (ldSl_of (w57.ld (i:=2) rfl rfl)) ?_
      refine st_k w57 (i:=3) rfl rfl rfl fun H65 w65 s65=>?_
      dsimp only [List.set] at w65 s65
      refine st_k w65 (i:=3) rfl rfl rfl fun H66 w66 s66=>?_
      dsimp only [List.set] at w66 s66
      refine bind_ex (ldSl_of (w66.ld (i:=3) rfl rfl)) ?_
      refine bind_ex (ldSl_of (w66.ld (i:=3) rfl rfl)) ?_
      obtain ⟨w67,s67⟩:=w66.pick' [] 5 rfl rfl rfl
      dsimp only [pk,pks,nth,List.drop] at w67 s67
      obtain rfl:=Option.some.inj hp
      exact ⟨_,_,rfl,_,_,_,_,_,_,rfl,rfl,rfl,w67,(s0.trans (s1.trans (s2.trans (s4.trans (s13.trans (s22.trans (s31.trans (s32.trans (s33.trans (s34.trans (s42.trans (s43.trans (s45.trans (s50.trans (s53.trans (s57.trans (s65.trans (s66.trans s67)))))))))))))))))),(f42.step (s43.trans (s45.trans (s50.trans (s53.trans (s57.trans (s65.trans (s66.trans s67)))))))),(f43.step (s45.trans (s50.trans (s53.trans (s57.trans (s65.trans (s66.trans s67)))))))⟩
def br.Q (H0:Hp) (Ri R0:List Rs)  (r:Bool) (v:AV) (H':Hp):Prop:=v = (.bool r)∧Out H0 Ri H' (R0) fun R=>True
def br.p (F:Nat) (ac:List (Int×Int×Int×Int×Int)) (ab:Int):Option (Bool):=(bh.p F ac ab).bind fun r2=>some r2.2.2
theorem br.P {F:Nat} {ap:ON} {ag:Nat} {aq:Cap} {ac:List (Int×Int×Int×Int×Int)} {ab:Int} {H:Hp} {R0:List Rs} (aY:ag = ac.length) (h0:Inn H R0 fun R=>ROs (ePair (eInt .i64) (ePair (eInt .i64) (ePair (eInt .i64) (ePair (eInt .i64) (eInt .i64))))) H R ⟨ap,ag,aq⟩ ac) {r:Bool} (hp:br.p F ac ab = some r):∃ v H',br.tw F ⟨ap,ag,aq⟩ ab H = some (v,H')∧br.Q H R0 R0  r v H':=by
 obtain ⟨w0,aG⟩:=h0
 subst aY
 unfold br.p at hp
 unfold br.tw br.twX
 have s0:=w0.rf
 refine new_k w0 fun H1 w1 s1=>?_
 refine bind_ex (ldSl_of (w1.ld (i:=0) rfl rfl)) ?_
 refine bind_ex (ldI_of (w1.ld (i:=0) rfl rfl)) ?_
 obtain ⟨r2,e2,hp⟩:=bind_some' hp
 refine call_ex (bh.P rfl ⟨w1,(aG.step s1)⟩ e2) ?_
 rintro _ H3 ⟨o0a_3,o0n_3,o0c_3,o1a_3,o1n_3,o1c_3,rfl,rfl,rfl,w3,s3,f3_0,f3_1⟩
 refine bind_ex rfl ?_
 refine bind_ex rfl ?_
 refine bind_ex rfl ?_
 refine bind_ex rfl ?_
 refine bind_ex rfl ?_
 refine bind_ex rfl ?_
 refine bind_ex rfl ?_
 refine bind_ex rfl ?_
 refine bind_ex rfl ?_
 refine new_k w3 fun H4 w4 s4=>?_
 refine st_k w4 (i:=0) rfl rfl rfl fun H5 w5 s5=>?_
 dsimp only [List.set] at w5 s5
 refine st_k w5 (i:=0) rfl rfl rfl fun H6 w6 s6=>?_
 dsimp only [List.set] at w6 s6
 obtain ⟨w7,s7⟩:=w6.pick' [] 2 rfl rfl rfl
 dsimp only [pk,pks,nth,List.drop] at w7 s7
 obtain rfl:=Option.some.inj hp
 exact ⟨_,_,rfl,rfl,w7,(s0.trans (s1.trans (s3.trans (s4.trans (s5.trans (s6.trans s7)))))),trivial⟩
def aB.Q (H0:Hp) (Ri R0:List Rs)  (r:List Int×Int) (v:AV) (H':Hp):Prop:=∃ o0a:ON,∃ o0n:Nat,∃ o0c:Cap,∃ o0k:List AV,v = (.tup [(.sl ⟨o0a,o0n,o0c⟩),(.int .i64 r.2)])∧o0n = (r.1).length∧Out H0 Ri H' (Rs.own ⟨o0a,o0n,o0c⟩ (eInt .i64).z o0k :: R0) fun R=>CR (eInt .i64) H' R o0k (r.1)
def aB.S29 (H0:Hp) (Ri R0:List Rs)  (C:Nat→Nat→Sl→Sl→Int→Int→Hp→OA) (pC:List (Int×Int×Int×Int×Int)→Int→List Int→Int→Int→Option (List Int×Int)):Prop:=∀ {mR rc:ON} {kv eA mS:Nat} {mT rd:Cap} {hX:List (Int×Int×Int×Int×Int)} {jx eB ei:Int} {jj:List Int} {rh:List AV},∀ {H:Hp},kv = hX.length→mS = jj.length→(Out H0 Ri H (Rs.blk eA [.sl ⟨mR,kv,mT⟩,.int .i64 jx] :: Rs.own ⟨rc,mS,rd⟩ (eInt .i64).z rh :: R0) fun R=>ROs (ePair (eInt .i64) (ePair (eInt .i64) (ePair (eInt .i64) (ePair (eInt .i64) (eInt .i64))))) H R ⟨mR,kv,mT⟩ hX∧CR (eInt .i64) H R rh jj)→∀ {r:List Int×Int},pC hX jx jj eB ei = some r→∃ v H',C eA 0 ⟨rc,mS,rd⟩ ⟨mR,kv,mT⟩ eB ei H = some (v,H')∧aB.Q H0 Ri R0  r v H'
def aB.pj1 (F:Nat)  (ri:Int) (mU:List Int):Option (List Int×Int):=(bX.p F mU).bind fun r3=>(ba.p F r3).bind fun r8=>some (r3,(IntKind.i64.wrap (r8 + ri)))
theorem aB.j1_P {F:Nat} {H0:Hp} {Ri R0:List Rs}   {yf yg:ON} {tk nD tl:Nat} {yh yi:Cap} {yj:List (Int×Int×Int×Int×Int)} {ri:Int} {mU:List Int} {yk:List AV} {H:Hp} (BO:tk = yj.length) (BP:tl = mU.length) (h0:Out H0 Ri H (Rs.blk nD [.sl ⟨yf,tk,yh⟩,.int .i64 ri] :: Rs.own ⟨yg,tl,yi⟩ (eInt .i64).z yk :: R0) fun R=>ROs (ePair (eInt .i64) (ePair (eInt .i64) (ePair (eInt .i64) (ePair (eInt .i64) (eInt .i64))))) H R ⟨yf,tk,yh⟩ yj∧CR (eInt .i64) H R yk mU) {r:List Int×Int} (hp:aB.pj1 F  ri mU = some r):∃ v H',aB.j1 F (aE.tw F) (aC.tw F) (ax.tw F) (bX.tw F) (ba.tw F)  nD 0 ⟨yg,tl,yi⟩ H = some (v,H')∧aB.Q H0 Ri R0  r v H':=by
 obtain ⟨w0,s0,BZ,BQ⟩:=h0
 subst BO
 subst BP
 unfold aB.pj1 at hp
 unfold aB.j1
 obtain ⟨w1,s1⟩:=w0.pick' [1,0] 2 rfl rfl rfl
 dsimp only [pk,pks,nth,List.drop] at w1 s1
 have f2:=W.borrow1 (eInt .i64) w1 (BQ.step s1)
 obtain ⟨w2,s2⟩:=w1.right1
 obtain ⟨r3,e3,hp⟩:=bind_some' hp
 refine call_ex (bX.P rfl ⟨w2,f2⟩ e3) ?_
 rintro _ H4 ⟨o0a_4,o0n_4,o0c_4,o0k_4,rfl,rfl,w4,s4,f4_0⟩
 obtain ⟨w5,s5⟩:=W.frame1 w1 w4 s4
 refine bind_ex rfl ?_
 obtain ⟨w6,s6⟩:=w5.pick' [1,0,2] 3 rfl rfl rfl
 dsimp only [pk,pks,nth,List.drop] at w6 s6
 have f7:=W.borrow1 (eInt .i64) w6 ((CR.flat (eInt_flat .i64) f4_0).step s6)
 obtain ⟨w7,s7⟩:=w6.right1
 obtain ⟨r8,e8,hp⟩:=bind_some' hp
 refine call_ex (ba.P rfl ⟨w7,f7⟩ e8) ?_
 rintro _ H9 ⟨rfl,w9,s9,_⟩
 obtain ⟨w10,s10⟩:=W.frame1 w6 w9 s9
 refine bind_ex rfl ?_
 refine ifs_ex (Cons.tr (Cons.refl _) s6 (W.cons_of (Rn:=[]) w7 w9 s9)) ?_
 refine bind_ex (ldI_of (w10.ld (i:=2) rfl rfl)) ?_
 obtain ⟨w12,s12⟩:=w10.pick' [0] 3 rfl rfl rfl
 dsimp only [pk,pks,nth,List.drop] at w12 s12
 obtain rfl:=Option.some.inj hp
 exact ⟨_,_,rfl,_,_,_,_,rfl,rfl,w12,(s0.trans (s1.trans (s5.trans (s6.trans (s10.trans s12))))),((CR.flat (eInt_flat .i64) f4_0).step (s6.trans (s10.trans s12)))⟩
def aB.pl29 (F:Nat) :Nat→List (Int×Int×Int×Int×Int)→Int→List Int→Int→Int→Option (List Int×Int)
 | 0,_,_,_,_,_=>none
 | k + 1,hX,jx,jj,eB,ei=>(bif (decide (ei < eB)) then ((ix hX ei).bind fun n1=>(ax.p F jj ((gt hX n1).2.1) ((gt hX n1).2.2.2.1)).bind fun r9=>aB.pl29 F k hX jx r9 eB (IntKind.i64.wrap (ei + 1))) else (aB.pj1 F jx jj))
termination_by structural n=>n
theorem aB.l29_P {F:Nat} {H0:Hp} {Ri R0:List Rs}  :∀ k,aB.S29 H0 Ri R0  (aB.l29 F (aE.tw F) (aC.tw F) (ax.tw F) (bX.tw F) (ba.tw F)  k) (aB.pl29 F  k):=by
 intro k
 induction k with
 | zero=>
  intro mR rc kv eA mS mT rd hX jx eB ei jj rh H yl ym h0 r hp
  exact nomatch (show (none:Option (List Int×Int)) = some r from hp)
 | succ k ih=>
  intro mR rc kv eA mS mT rd hX jx eB ei jj rh H yl ym h0 r hp
  obtain ⟨w0,s0,tn,yn⟩:=h0
  subst yl
  subst ym
  unfold aB.pl29 at hp
  unfold aB.l29
  refine bif_ex (fun hb=>?_) (fun hb=>?_)
  ·replace hp:=bif_t hb hp
   obtain ⟨n1,g1,hp⟩:=bind_some' hp
   obtain ⟨p1,q1,i1,h1,j1⟩:=ROs.ixr tn rfl g1
   refine bind_ex i1 ?_
   obtain ⟨_,_,rfl,rfl,_,_,rfl,rfl,_,_,rfl,rfl,_,_,rfl,rfl,rfl⟩:=h1
   refine bind_ex (ldI_of (j1 0 _ rfl)) ?_
   refine bind_ex (ldI_of (j1 1 _ rfl)) ?_
   refine bind_ex (ldI_of (j1 2 _ rfl)) ?_
   refine bind_ex (ldI_of (j1 3 _ rfl)) ?_
   refine bind_ex (ldI_of (j1 4 _ rfl)) ?_
   refine new_k w0 fun H2 w2 s2=>?_
   refine st_k w2 (i:=0) rfl rfl rfl fun H3 w3 s3=>?_
   dsimp only [List.set] at w3 s3
   refine st_k w3 (i:=0) rfl rfl rfl fun H4 w4 s4=>?_
   dsimp only [List.set] at w4 s4
   refine st_k w4 (i:=0) rfl rfl rfl fun H5 w5 s5=>?_
   dsimp only [List.set] at w5 s5
   refine st_k w5 (i:=0) rfl rfl rfl fun H6 w6 s6=>?_
   dsimp only [List.set] at w6 s6
   refine st_k w6 (i:=0) rfl rfl rfl fun H7 w7 s7=>?_
   dsimp only [List.set] at w7 s7
   refine bind_ex (ldI_of (w7.ld (i:=0) rfl rfl)) ?_
   refine bind_ex (ldI_of (w7.ld (i:=0) rfl rfl)) ?_
   obtain ⟨w8,s8⟩:=w7.pick' [2,0,1] 3 rfl rfl rfl
   dsimp only [pk,pks,nth,List.drop] at w8 s8
   obtain ⟨r9,e9,hp⟩:=bind_some' hp
   refine call_ex (ax.P rfl ⟨w8,(yn.step (s2.trans (s3.trans (s4.trans (s5.trans (s6.trans (s7.trans s8)))))))⟩ e9) ?_
   rintro _ H10 ⟨B_,rfl,hl10_0,w10,s10,f10_0⟩
   obtain ⟨w11,s11⟩:=w10.pick' [2,0] 3 rfl rfl rfl
   dsimp only [pk,pks,nth,List.drop] at w11 s11
   exact ih rfl hl10_0 ⟨w11,(s0.trans (s2.trans (s3.trans (s4.trans (s5.trans (s6.trans (s7.trans (s8.trans (s10.trans s11))))))))),(tn.step (s2.trans (s3.trans (s4.trans (s5.trans (s6.trans (s7.trans (s8.trans (s10.trans s11))))))))),(f10_0.step s11)⟩ hp
  ·replace hp:=bif_f hb hp
   exact aB.j1_P rfl rfl ⟨w0,s0,tn,yn⟩ hp
def aB.p (F:Nat) (ac:List (Int×Int×Int×Int×Int)) (ab:Int):Option (List Int×Int):=(aE.p F ac).bind fun r2=>(aC.p F (IntKind.i64.wrap (2 * r2))).bind fun r4=>aB.pl29 F F ac ab r4 (ac.length:Int) 0
theorem aB.P {F:Nat} {ap:ON} {ag:Nat} {aq:Cap} {ac:List (Int×Int×Int×Int×Int)} {ab:Int} {H:Hp} {R0:List Rs} (aY:ag = ac.length) (h0:Inn H R0 fun R=>ROs (ePair (eInt .i64) (ePair (eInt .i64) (ePair (eInt .i64) (ePair (eInt .i64) (eInt .i64))))) H R ⟨ap,ag,aq⟩ ac) {r:List Int×Int} (hp:aB.p F ac ab = some r):∃ v H',aB.tw F ⟨ap,ag,aq⟩ ab H = some (v,H')∧aB.Q H R0 R0  r v H':=by
 obtain ⟨w0,aG⟩:=h0
 subst aY
 unfold aB.p at hp
 unfold aB.tw aB.twX
 have s0:=w0.rf
 refine new_k w0 fun H1 w1 s1=>?_
 refine bind_ex (ldSl_of (w1.ld (i:=0) rfl rfl)) ?_
 obtain ⟨r2,e2,hp⟩:=bind_some' hp
 refine call_ex (aE.P rfl ⟨w1,(aG.step s1)⟩ e2) ?_
 rintro _ H3 ⟨rfl,w3,s3,_⟩
 refine bind_ex rfl ?_
 obtain ⟨r4,e4,hp⟩:=bind_some' hp
 refine call_ex (aC.P ⟨w3,trivial⟩ e4) ?_
 rintro _ H5 ⟨o0a_5,o0n_5,o0c_5,o0k_5,rfl,rfl,w5,s5,f5_0⟩
 refine bind_ex rfl ?_
 refine bind_ex (ldSl_of (w5.ld (i:=1) rfl rfl)) ?_
 obtain ⟨w6,s6⟩:=w5.pick' [1,0] 2 rfl rfl rfl
 dsimp only [pk,pks,nth,List.drop] at w6 s6
 exact aB.l29_P F rfl rfl ⟨w6,(s0.trans (s1.trans (s3.trans (s5.trans s6)))),(aG.step (s1.trans (s3.trans (s5.trans s6)))),(f5_0.step s6)⟩ hp
def bD.Q (H0:Hp) (Ri R0:List Rs)  (r:Int×Int×List Int) (v:AV) (H':Hp):Prop:=∃ o2a:ON,∃ o2n:Nat,∃ o2k:List AV,v = (.agg [(.int .i64 r.1),(.int .i64 r.2.1),(.sl ⟨o2a,o2n,.ex o2n⟩)])∧o2n = (r.2.2).length∧Out H0 Ri H' (Rs.own ⟨o2a,o2n,.ex o2n⟩ (eInt .i64).z o2k :: R0) fun R=>CR (eInt .i64) H' R o2k (r.2.2)
def bD.p (F:Nat) (aa:Int) (ad:Int):Option (Int×Int×List Int):=(mkn (IntKind.i64.wrap (aa * ad)) (0:Int)).bind fun l2=>some (aa,ad,l2)
theorem bD.P {F:Nat} {aa ad:Int} {H:Hp} {R0:List Rs}  (h0:Inn H R0 fun R=>True) {r:Int×Int×List Int} (hp:bD.p F aa ad = some r):∃ v H',bD.tw F aa ad H = some (v,H')∧bD.Q H R0 R0  r v H':=by
 obtain ⟨w0,_⟩:=h0
 unfold bD.p at hp
 unfold bD.tw bD.twX
 have s0:=w0.rf
 refine new_k w0 fun H1 w1 s1=>?_
 obtain ⟨l2,e2,hp⟩:=bind_some' hp
 refine mk_k (eInt .i64) (0:Int) w1 rfl rfl rfl e2 fun H3 k3 w3 s3 c3=>?_
 refine st_k w3 (i:=1) rfl rfl rfl fun H4 w4 s4=>?_
 dsimp only [List.set] at w4 s4
 refine st_k w4 (i:=1) rfl rfl rfl fun H5 w5 s5=>?_
 dsimp only [List.set] at w5 s5
 refine st_k w5 (i:=1) rfl rfl rfl fun H6 w6 s6=>?_
 dsimp only [List.set] at w6 s6
 refine bind_ex (ldI_of (w6.ld (i:=1) rfl rfl)) ?_
 refine bind_ex (ldI_of (w6.ld (i:=1) rfl rfl)) ?_
 refine bind_ex (ldSl_of (w6.ld (i:=1) rfl rfl)) ?_
 obtain ⟨w7,s7⟩:=w6.pick' [0] 2 rfl rfl rfl
 dsimp only [pk,pks,nth,List.drop] at w7 s7
 obtain rfl:=Option.some.inj hp
 exact ⟨_,_,rfl,_,_,_,rfl,rfl,w7,(s0.trans (s1.trans (s3.trans (s4.trans (s5.trans (s6.trans s7)))))),(c3.step (s4.trans (s5.trans (s6.trans s7))))⟩
def aM.Q (H0:Hp) (Ri R0:List Rs)  (r:Int×Int×List Int) (v:AV) (H':Hp):Prop:=∃ o2a:ON,∃ o2n:Nat,∃ o2c:Cap,∃ o2k:List AV,v = (.agg [(.int .i64 r.1),(.int .i64 r.2.1),(.sl ⟨o2a,o2n,o2c⟩)])∧o2n = (r.2.2).length∧Out H0 Ri H' (Rs.own ⟨o2a,o2n,o2c⟩ (eInt .i64).z o2k :: R0) fun R=>CR (eInt .i64) H' R o2k (r.2.2)
def aM.S61 (H0:Hp) (Ri R0:List Rs)  (C:Nat→Nat→Sl→Nat→Nat→Sl→Int→Int→Hp→OA) (pC:List Int→Int→Int→List Int→List (Int×Int×Int×Int×Int)→Int→Int→Option (Int×Int×List Int)):Prop:=∀ {tp tq jy hY eC cS:Int} {rj rl rm rn:ON} {mV cX mW mX cu mY:Nat} {ro rp rq rr:Cap} {rs gb hZ:List Int} {rt ru rv:List AV} {hQ:List (Int×Int×Int×Int×Int)},∀ {H:Hp},mV = rs.length→mW = gb.length→mX = hZ.length→mY = hQ.length→(Out H0 Ri H (Rs.own ⟨rj,mV,ro⟩ (eInt .i64).z rt :: Rs.blk cX [.int .i64 tp,.int .i64 tq,.sl ⟨rj,mV,ro⟩] :: Rs.own ⟨rl,mW,rp⟩ (eInt .i64).z ru :: Rs.own ⟨rm,mX,rq⟩ (eInt .i64).z rv :: Rs.blk cu [.int .i64 jy,.int .i64 hY,.sl ⟨rm,mX,rq⟩] :: R0) fun R=>CR (eInt .i64) H R rt rs∧CR (eInt .i64) H R ru gb∧CR (eInt .i64) H R rv hZ∧ROs (ePair (eInt .i64) (ePair (eInt .i64) (ePair (eInt .i64) (ePair (eInt .i64) (eInt .i64))))) H R ⟨rn,mY,rr⟩ hQ)→∀ {r:Int×Int×List Int},pC gb jy hY hZ hQ eC cS = some r→∃ v H',C cX 0 ⟨rl,mW,rp⟩ cu 0 ⟨rn,mY,rr⟩ eC cS H = some (v,H')∧aM.Q H0 Ri R0  r v H'
def aM.pl61 (F:Nat) :Nat→List Int→Int→Int→List Int→List (Int×Int×Int×Int×Int)→Int→Int→Option (Int×Int×List Int)
 | 0,_,_,_,_,_,_,_=>none
 | k + 1,gb,jy,hY,hZ,hQ,eC,cS=>(bif (decide (cS < eC)) then ((ix hQ cS).bind fun n1=>(ix gb ((gt hQ n1).2.1)).bind fun n8=>(ix hZ (IntKind.i64.wrap ((IntKind.i64.wrap (cS * hY)) + (gt gb n8)))).bind fun n10=>(some (hZ.set n10 (IntKind.i64.wrap ((gt hZ n10) + 2)))).bind fun l11=>(ix gb ((gt hQ n1).1)).bind fun n13=>(ix l11 (IntKind.i64.wrap ((IntKind.i64.wrap (cS * hY)) + (gt gb n13)))).bind fun n15=>(some (l11.set n15 (IntKind.i64.wrap ((gt l11 n15) - 1)))).bind fun l16=>(ix gb ((gt hQ n1).2.2.1)).bind fun n18=>(ix l16 (IntKind.i64.wrap ((IntKind.i64.wrap (cS * hY)) + (gt gb n18)))).bind fun n20=>(some (l16.set n20 (IntKind.i64.wrap ((gt l16 n20) - 1)))).bind fun l21=>aM.pl61 F k gb jy hY l21 hQ eC (IntKind.i64.wrap (cS + 1))) else (some (jy,hY,hZ)))
termination_by structural n=>n
theorem aM.l61_P {F:Nat} {H0:Hp} {Ri R0:List Rs}  :∀ k,aM.S61 H0 Ri R0  (aM.l61 F (aB.tw F) (aE.tw F) (bD.tw F) (bI.tw F)  k) (aM.pl61 F  k):=by
 intro k
 induction k with
 | zero=>
  intro tp tq jy hY eC cS rj rl rm rn mV cX mW mX cu mY ro rp rq rr rs gb hZ rt ru rv hQ H yo yp yq yr h0 r hp
  exact nomatch (show (none:Option (Int×Int×List Int)) = some r from hp)
 | succ k ih=>
  intro tp tq jy hY eC cS rj rl rm rn mV cX mW mX cu mY ro rp rq rr rs gb hZ rt ru rv hQ H yo yp yq yr h0 r hp
  obtain ⟨w0,s0,BR,rx,ts,yt⟩:=h0
  subst yo
  subst yp
  subst yq
  subst yr
  unfold aM.pl61 at hp
  unfold aM.l61
  refine bif_ex (fun hb=>?_) (fun hb=>?_)
  ·replace hp:=bif_t hb hp
   obtain ⟨n1,g1,hp⟩:=bind_some' hp
   obtain ⟨p1,q1,i1,h1,j1⟩:=ROs.ixr yt rfl g1
   refine bind_ex i1 ?_
   obtain ⟨_,_,rfl,rfl,_,_,rfl,rfl,_,_,rfl,rfl,_,_,rfl,rfl,rfl⟩:=h1
   refine bind_ex (ldI_of (j1 0 _ rfl)) ?_
   refine bind_ex (ldI_of (j1 1 _ rfl)) ?_
   refine bind_ex (ldI_of (j1 2 _ rfl)) ?_
   refine bind_ex (ldI_of (j1 3 _ rfl)) ?_
   refine bind_ex (ldI_of (j1 4 _ rfl)) ?_
   refine new_k w0 fun H2 w2 s2=>?_
   refine st_k w2 (i:=0) rfl rfl rfl fun H3 w3 s3=>?_
   dsimp only [List.set] at w3 s3
   refine st_k w3 (i:=0) rfl rfl rfl fun H4 w4 s4=>?_
   dsimp only [List.set] at w4 s4
   refine st_k w4 (i:=0) rfl rfl rfl fun H5 w5 s5=>?_
   dsimp only [List.set] at w5 s5
   refine st_k w5 (i:=0) rfl rfl rfl fun H6 w6 s6=>?_
   dsimp only [List.set] at w6 s6
   refine st_k w6 (i:=0) rfl rfl rfl fun H7 w7 s7=>?_
   dsimp only [List.set] at w7 s7
   refine bind_ex (ldI_of (w7.ld (i:=5) rfl rfl)) ?_
   refine bind_ex (ldI_of (w7.ld (i:=5) rfl rfl)) ?_
   refine bind_ex (ldSl_of (w7.ld (i:=5) rfl rfl)) ?_
   refine bind_ex (ldI_of (w7.ld (i:=0) rfl rfl)) ?_
   obtain ⟨n8,g8,hp⟩:=bind_some' hp
   obtain ⟨p8,q8,i8,h8,j8⟩:=W.ixo (E:=(eInt .i64)) w7 (i:=3) rfl rfl (rx.step (s2.trans (s3.trans (s4.trans (s5.trans (s6.trans s7)))))) g8
   refine bind_ex i8 ?_
   have h8:_ = [_]:=h8
   subst h8
   refine bind_ex (ldI_of (j8 0 _ rfl)) ?_
   refine bI.inl ?_
   refine new_k w7 fun H9 w9 s9=>?_
   refine bind_ex (ldSl_of (w9.ld (i:=0) rfl rfl)) ?_
   refine bind_ex (ldI_of (w9.ld (i:=0) rfl rfl)) ?_
   obtain ⟨n10,g10,hp⟩:=bind_some' hp
   obtain ⟨p10,q10,i10,h10,j10⟩:=W.ixo (E:=(eInt .i64)) w9 (i:=5) rfl rfl (ts.step (s2.trans (s3.trans (s4.trans (s5.trans (s6.trans (s7.trans s9))))))) g10
   refine bind_ex i10 ?_
   refine ⟨_,_,rfl,?_⟩
   refine bind_ex rfl ?_
   have h10:_ = [_]:=h10
   subst h10
   refine bind_ex (ldI_of (j10 0 _ rfl)) ?_
   obtain ⟨l11,e11,hp⟩:=bind_some' hp
   refine sto_k (eInt .i64) w9 (i:=5) (j:=0) (p:=p10) rfl rfl (ts.step (s2.trans (s3.trans (s4.trans (s5.trans (s6.trans (s7.trans s9))))))) g10 i10 e11 rfl rfl (fun _ h=>by have h:_ = [_]:=h; subst h; exact rfl) fun H12 k12 w12 s12 c12=>?_
   dsimp only [List.set] at w12 s12 c12
   refine bind_ex (ldI_of (w12.ld (i:=6) rfl rfl)) ?_
   refine bind_ex (ldI_of (w12.ld (i:=6) rfl rfl)) ?_
   refine bind_ex (ldSl_of (w12.ld (i:=6) rfl rfl)) ?_
   refine bind_ex (ldI_of (w12.ld (i:=1) rfl rfl)) ?_
   obtain ⟨n13,g13,hp⟩:=bind_some' hp
   obtain ⟨p13,q13,i13,h13,j13⟩:=W.ixo (E:=(eInt .i64)) w12 (i:=4) rfl rfl (rx.step (s2.trans (s3.trans (s4.trans (s5.trans (s6.trans (s7.trans (s9.trans s12)))))))) g13
   refine bind_ex i13 ?_
   have h13:_ = [_]:=h13
   subst h13
   refine bind_ex (ldI_of (j13 0 _ rfl)) ?_
   refine bI.inl ?_
   refine new_k w12 fun H14 w14 s14=>?_
   refine bind_ex (ldSl_of (w14.ld (i:=0) rfl rfl)) ?_
   refine bind_ex (ldI_of (w14.ld (i:=0) rfl rfl)) ?_
   obtain ⟨n15,g15,hp⟩:=bind_some' hp
   obtain ⟨p15,q15,i15,h15,j15⟩:=W.ixo (E:=(eInt .i64)) w14 (i:=6) rfl rfl (c12.step s14) g15
   refine bind_ex i15 ?_
   refine ⟨_,_,rfl,?_⟩
   refine bind_ex rfl ?_
   have h15:_ = [_]:=h15
   subst h15
   refine bind_ex (ldI_of (j15 0 _ rfl)) ?_
   obtain ⟨l16,e16,hp⟩:=bind_some' hp
   refine sto_k (eInt .i64) w14 (i:=6) (j:=0) (p:=p15) rfl rfl (c12.step s14) g15 i15 e16 rfl rfl (fun _ h=>by have h:_ = [_]:=h; subst h; exact rfl) fun H17 k17 w17 s17 c17=>?_
   dsimp only [List.set] at w17 s17 c17
   refine bind_ex (ldI_of (w17.ld (i:=7) rfl rfl)) ?_
   refine bind_ex (ldI_of (w17.ld (i:=7) rfl rfl)) ?_
   refine bind_ex (ldSl_of (w17.ld (i:=7) rfl rfl)) ?_
   refine bind_ex (ldI_of (w17.ld (i:=2) rfl rfl)) ?_
   obtain ⟨n18,g18,hp⟩:=bind_some' hp
   obtain ⟨p18,q18,i18,h18,j18⟩:=W.ixo (E:=(eInt .i64)) w17 (i:=5) rfl rfl (rx.step (s2.trans (s3.trans (s4.trans (s5.trans (s6.trans (s7.trans (s9.trans (s12.trans (s14.trans s17)))))))))) g18
   refine bind_ex i18 ?_
   have h18:_ = [_]:=h18
   subst h18
   refine bind_ex (ldI_of (j18 0 _ rfl)) ?_
   refine bI.inl ?_
   refine new_k w17 fun H19 w19 s19=>?_
   refine bind_ex (ldSl_of (w19.ld (i:=0) rfl rfl)) ?_
   refine bind_ex (ldI_of (w19.ld (i:=0) rfl rfl)) ?_
   obtain ⟨n20,g20,hp⟩:=bind_some' hp
   obtain ⟨p20,q20,i20,h20,j20⟩:=W.ixo (E:=(eInt .i64)) w19 (i:=7) rfl rfl (c17.step s19) g20
   refine bind_ex i20 ?_
   refine ⟨_,_,rfl,?_⟩
   refine bind_ex rfl ?_
   have h20:_ = [_]:=h20
   subst h20
   refine bind_ex (ldI_of (j20 0 _ rfl)) ?_
   obtain ⟨l21,e21,hp⟩:=bind_some' hp
   refine sto_k (eInt .i64) w19 (i:=7) (j:=0) (p:=p20) rfl rfl (c17.step s19) g20 i20 e21 rfl rfl (fun _ h=>by have h:_ = [_]:=h; subst h; exact rfl) fun H22 k22 w22 s22 c22=>?_
   dsimp only [List.set] at w22 s22 c22
   obtain ⟨w23,s23⟩:=w22.pick' [4,5,6,7,8] 9 rfl rfl rfl
   dsimp only [pk,pks,nth,List.drop] at w23 s23
   exact ih rfl rfl (((st_len e11).symm.trans (st_len e16).symm).trans (st_len e21).symm) rfl ⟨w23,(s0.trans (s2.trans (s3.trans (s4.trans (s5.trans (s6.trans (s7.trans (s9.trans (s12.trans (s14.trans (s17.trans (s19.trans (s22.trans s23))))))))))))),(BR.step (s2.trans (s3.trans (s4.trans (s5.trans (s6.trans (s7.trans (s9.trans (s12.trans (s14.trans (s17.trans (s19.trans (s22.trans s23))))))))))))),(rx.step (s2.trans (s3.trans (s4.trans (s5.trans (s6.trans (s7.trans (s9.trans (s12.trans (s14.trans (s17.trans (s19.trans (s22.trans s23))))))))))))),(c22.step s23),(yt.step (s2.trans (s3.trans (s4.trans (s5.trans (s6.trans (s7.trans (s9.trans (s12.trans (s14.trans (s17.trans (s19.trans (s22.trans s23)))))))))))))⟩ hp
  ·replace hp:=bif_f hb hp
   refine bind_ex (ldI_of (w0.ld (i:=4) rfl rfl)) ?_
   refine bind_ex (ldI_of (w0.ld (i:=4) rfl rfl)) ?_
   refine bind_ex (ldSl_of (w0.ld (i:=4) rfl rfl)) ?_
   refine st_k w0 (i:=1) rfl rfl rfl fun H24 w24 s24=>?_
   dsimp only [List.set] at w24 s24
   refine st_k w24 (i:=1) rfl rfl rfl fun H25 w25 s25=>?_
   dsimp only [List.set] at w25 s25
   refine st_k w25 (i:=1) rfl rfl rfl fun H26 w26 s26=>?_
   dsimp only [List.set] at w26 s26
   refine bind_ex (ldI_of (w26.ld (i:=1) rfl rfl)) ?_
   refine bind_ex (ldI_of (w26.ld (i:=1) rfl rfl)) ?_
   refine bind_ex (ldSl_of (w26.ld (i:=1) rfl rfl)) ?_
   obtain ⟨w27,s27⟩:=w26.pick' [3] 5 rfl rfl rfl
   dsimp only [pk,pks,nth,List.drop] at w27 s27
   obtain rfl:=Option.some.inj hp
   exact ⟨_,_,rfl,_,_,_,_,rfl,rfl,w27,(s0.trans (s24.trans (s25.trans (s26.trans s27)))),(ts.step (s24.trans (s25.trans (s26.trans s27))))⟩
def aM.p (F:Nat) (ac:List (Int×Int×Int×Int×Int)) (ab:Int):Option (Int×Int×List Int):=(aB.p F ac ab).bind fun r3=>(aE.p F ac).bind fun r5=>(bD.p F r5 r3.2).bind fun r7=>aM.pl61 F F r3.1 r7.1 r7.2.1 r7.2.2 ac (ac.length:Int) 0
theorem aM.P {F:Nat} {ap:ON} {ag:Nat} {aq:Cap} {ac:List (Int×Int×Int×Int×Int)} {ab:Int} {H:Hp} {R0:List Rs} (aY:ag = ac.length) (h0:Inn H R0 fun R=>ROs (ePair (eInt .i64) (ePair (eInt .i64) (ePair (eInt .i64) (ePair (eInt .i64) (eInt .i64))))) H R ⟨ap,ag,aq⟩ ac) {r:Int×Int×List Int} (hp:aM.p F ac ab = some r):∃ v H',aM.tw F ⟨ap,ag,aq⟩ ab H = some (v,H')∧aM.Q H R0 R0  r v H':=by
 obtain ⟨w0,aG⟩:=h0
 subst aY
 unfold aM.p at hp
 unfold aM.tw aM.twX
 have s0:=w0.rf
 refine new_k w0 fun H1 w1 s1=>?_
 refine new_k w1 fun H2 w2 s2=>?_
 refine bind_ex (ldSl_of (w2.ld (i:=1) rfl rfl)) ?_
 refine bind_ex (ldI_of (w2.ld (i:=1) rfl rfl)) ?_
 obtain ⟨r3,e3,hp⟩:=bind_some' hp
 refine call_ex (aB.P rfl ⟨w2,(aG.step (s1.trans s2))⟩ e3) ?_
 rintro _ H4 ⟨o0a_4,o0n_4,o0c_4,o0k_4,rfl,rfl,w4,s4,f4_0⟩
 refine bind_ex rfl ?_
 refine bind_ex rfl ?_
 refine bind_ex rfl ?_
 refine bind_ex rfl ?_
 refine bind_ex rfl ?_
 refine bind_ex (ldSl_of (w4.ld (i:=2) rfl rfl)) ?_
 obtain ⟨r5,e5,hp⟩:=bind_some' hp
 refine call_ex (aE.P rfl ⟨w4,(aG.step (s1.trans (s2.trans s4)))⟩ e5) ?_
 rintro _ H6 ⟨rfl,w6,s6,_⟩
 refine bind_ex rfl ?_
 obtain ⟨r7,e7,hp⟩:=bind_some' hp
 refine call_ex (bD.P ⟨w6,trivial⟩ e7) ?_
 rintro _ H8 ⟨o2a_8,o2n_8,o2k_8,rfl,rfl,w8,s8,f8_0⟩
 refine bind_ex rfl ?_
 refine bind_ex rfl ?_
 refine bind_ex rfl ?_
 refine bind_ex rfl ?_
 refine bind_ex rfl ?_
 refine bind_ex rfl ?_
 refine bind_ex rfl ?_
 refine new_k w8 fun H9 w9 s9=>?_
 refine st_k w9 (i:=0) rfl rfl rfl fun H10 w10 s10=>?_
 dsimp only [List.set] at w10 s10
 refine st_k w10 (i:=0) rfl rfl rfl fun H11 w11 s11=>?_
 dsimp only [List.set] at w11 s11
 refine st_k w11 (i:=0) rfl rfl rfl fun H12 w12 s12=>?_
 dsimp only [List.set] at w12 s12
 refine bind_ex (ldSl_of (w12.ld (i:=4) rfl rfl)) ?_
 obtain ⟨w13,s13⟩:=w12.nilS (eInt .i64).z (by decide)
 obtain ⟨w14,s14⟩:=w13.pick' [0,4,3,2,1] 6 rfl rfl rfl
 dsimp only [pk,pks,nth,List.drop] at w14 s14
 exact aM.l61_P F rfl rfl rfl rfl ⟨w14,(s0.trans (s1.trans (s2.trans (s4.trans (s6.trans (s8.trans (s9.trans (s10.trans (s11.trans (s12.trans (s13.trans s14))))))))))),((CR.empty:CR (eInt .i64) _ _ [] []).step s14),(f4_0.step (s6.trans (s8.trans (s9.trans (s10.trans (s11.trans (s12.trans (s13.trans s14)))))))),(f8_0.step (s9.trans (s10.trans (s11.trans (s12.trans (s13.trans s14)))))),(aG.step (s1.trans (s2.trans (s4.trans (s6.trans (s8.trans (s9.trans (s10.trans (s11.trans (s12.trans (s13.trans s14)))))))))))⟩ hp
def bs.Q (H0:Hp) (Ri R0:List Rs)  (r:Int×Int×List Int×Bool) (v:AV) (H':Hp):Prop:=∃ o2a:ON,∃ o2n:Nat,∃ o2c:Cap,∃ o2k:List AV,v = (.tup [(.agg [(.int .i64 r.1),(.int .i64 r.2.1),(.sl ⟨o2a,o2n,o2c⟩)]),(.bool r.2.2.2)])∧o2n = (r.2.2.1).length∧Out H0 Ri H' (Rs.own ⟨o2a,o2n,o2c⟩ (eInt .i64).z o2k :: R0) fun R=>CR (eInt .i64) H' R o2k (r.2.2.1)
def bs.p (F:Nat) (ac:List (Int×Int×Int×Int×Int)) (ab:Int):Option (Int×Int×List Int×Bool):=(br.p F ac ab).bind fun r3=>(bif (!r3) then (some (0,0,([]:List Int),false)) else ((aM.p F ac ab).bind fun r10=>some (r10.1,r10.2.1,r10.2.2,true)))
theorem bs.P {F:Nat} {ap:ON} {ag:Nat} {aq:Cap} {ac:List (Int×Int×Int×Int×Int)} {ab:Int} {H:Hp} {R0:List Rs} (aY:ag = ac.length) (h0:Inn H R0 fun R=>ROs (ePair (eInt .i64) (ePair (eInt .i64) (ePair (eInt .i64) (ePair (eInt .i64) (eInt .i64))))) H R ⟨ap,ag,aq⟩ ac) {r:Int×Int×List Int×Bool} (hp:bs.p F ac ab = some r):∃ v H',bs.tw F ⟨ap,ag,aq⟩ ab H = some (v,H')∧bs.Q H R0 R0  r v H':=by
 obtain ⟨w0,aG⟩:=h0
 subst aY
 unfold bs.p at hp
 unfold bs.tw bs.twX
 have s0:=w0.rf
 refine new_k w0 fun H1 w1 s1=>?_
 refine new_k w1 fun H2 w2 s2=>?_
 refine bind_ex (ldSl_of (w2.ld (i:=1) rfl rfl)) ?_
 refine bind_ex (ldI_of (w2.ld (i:=1) rfl rfl)) ?_
 obtain ⟨r3,e3,hp⟩:=bind_some' hp
 refine call_ex (br.P rfl ⟨w2,(aG.step (s1.trans s2))⟩ e3) ?_
 rintro _ H4 ⟨rfl,w4,s4,_⟩
 refine bind_ex rfl ?_
 refine bif_ex (fun hb=>?_) (fun hb=>?_)
 ·replace hp:=bif_t hb hp
  refine st_k w4 (i:=0) rfl rfl rfl fun H5 w5 s5=>?_
  dsimp only [List.set] at w5 s5
  refine st_k w5 (i:=0) rfl rfl rfl fun H6 w6 s6=>?_
  dsimp only [List.set] at w6 s6
  refine st_k w6 (i:=0) rfl rfl rfl fun H7 w7 s7=>?_
  dsimp only [List.set] at w7 s7
  refine bind_ex (ldI_of (w7.ld (i:=0) rfl rfl)) ?_
  refine bind_ex (ldI_of (w7.ld (i:=0) rfl rfl)) ?_
  refine bind_ex (ldSl_of (w7.ld (i:=0) rfl rfl)) ?_
  obtain ⟨w8,s8⟩:=w7.nilS (eInt .i64).z (by decide)
  obtain ⟨w9,s9⟩:=w8.pick' [0] 3 rfl rfl rfl
  dsimp only [pk,pks,nth,List.drop] at w9 s9
  obtain rfl:=Option.some.inj hp
  exact ⟨_,_,rfl,_,_,_,_,rfl,rfl,w9,(s0.trans (s1.trans (s2.trans (s4.trans (s5.trans (s6.trans (s7.trans (s8.trans s9)))))))),((CR.empty:CR (eInt .i64) _ _ [] []).step s9)⟩
 ·replace hp:=bif_f hb hp
  refine bind_ex (ldSl_of (w4.ld (i:=1) rfl rfl)) ?_
  refine bind_ex (ldI_of (w4.ld (i:=1) rfl rfl)) ?_
  obtain ⟨r10,e10,hp⟩:=bind_some' hp
  refine call_ex (aM.P rfl ⟨w4,(aG.step (s1.trans (s2.trans s4)))⟩ e10) ?_
  rintro _ H11 ⟨o2a_11,o2n_11,o2c_11,o2k_11,rfl,rfl,w11,s11,f11_0⟩
  refine bind_ex rfl ?_
  refine bind_ex rfl ?_
  refine bind_ex rfl ?_
  refine bind_ex rfl ?_
  refine bind_ex rfl ?_
  refine bind_ex rfl ?_
  refine bind_ex rfl ?_
  refine st_k w11 (i:=1) rfl rfl rfl fun H12 w12 s12=>?_
  dsimp only [List.set] at w12 s12
  refine st_k w12 (i:=1) rfl rfl rfl fun H13 w13 s13=>?_
  dsimp only [List.set] at w13 s13
  refine st_k w13 (i:=1) rfl rfl rfl fun H14 w14 s14=>?_
  dsimp only [List.set] at w14 s14
  refine bind_ex (ldI_of (w14.ld (i:=1) rfl rfl)) ?_
  refine bind_ex (ldI_of (w14.ld (i:=1) rfl rfl)) ?_
  refine bind_ex (ldSl_of (w14.ld (i:=1) rfl rfl)) ?_
  obtain ⟨w15,s15⟩:=w14.pick' [0] 3 rfl rfl rfl
  dsimp only [pk,pks,nth,List.drop] at w15 s15
  obtain rfl:=Option.some.inj hp
  exact ⟨_,_,rfl,_,_,_,_,rfl,rfl,w15,(s0.trans (s1.trans (s2.trans (s4.trans (s11.trans (s12.trans (s13.trans (s14.trans s15)))))))),(f11_0.step (s12.trans (s13.trans (s14.trans s15))))⟩
def aR.Q (H0:Hp) (Ri R0:List Rs)  (r:Bool) (v:AV) (H':Hp):Prop:=v = (.bool r)∧Out H0 Ri H' (R0) fun R=>True
def aR.S29 (H0:Hp) (Ri R0:List Rs)  (C:Sl→Sl→Int→Hp→OA) (pC:List Int→List Int→Int→Option (Bool)):Prop:=∀ {eD iB:ON} {du hR:Nat} {eE iC:Cap} {a_ dy:List Int} {bT:Int},∀ {H:Hp},du = a_.length→hR = dy.length→(Out H0 Ri H R0 fun R=>ROs (eInt .i64) H R ⟨eD,du,eE⟩ a_∧ROs (eInt .i64) H R ⟨iB,hR,iC⟩ dy)→∀ {r:Bool},pC a_ dy bT = some r→∃ v H',C ⟨eD,du,eE⟩ ⟨iB,hR,iC⟩ bT H = some (v,H')∧aR.Q H0 Ri R0  r v H'
def aR.pl29 (F:Nat) :Nat→List Int→List Int→Int→Option (Bool)
 | 0,_,_,_=>none
 | k + 1,a_,dy,bT=>(bif (decide (bT < (a_.length:Int))) then ((ix a_ bT).bind fun n1=>(ix dy bT).bind fun n2=>(bif ((gt a_ n1) != (gt dy n2)) then (some false) else (aR.pl29 F k a_ dy (IntKind.i64.wrap (bT + 1))))) else (some true))
termination_by structural n=>n
theorem aR.l29_P {F:Nat} {H0:Hp} {Ri R0:List Rs}  :∀ k,aR.S29 H0 Ri R0  (aR.l29 F   k) (aR.pl29 F  k):=by
 intro k
 induction k with
 | zero=>
  intro eD iB du hR eE iC a_ dy bT H fe mZ h0 r hp
  exact nomatch (show (none:Option (Bool)) = some r from hp)
 | succ k ih=>
  intro eD iB du hR eE iC a_ dy bT H fe mZ h0 r hp
  obtain ⟨w0,s0,eF,m_⟩:=h0
  subst fe
  subst mZ
  unfold aR.pl29 at hp
  unfold aR.l29
  refine bif_ex (fun hb=>?_) (fun hb=>?_)
  ·replace hp:=bif_t hb hp
   obtain ⟨n1,g1,hp⟩:=bind_some' hp
   obtain ⟨p1,q1,i1,h1,j1⟩:=ROs.ixr eF rfl g1
   refine bind_ex i1 ?_
   have h1:_ = [_]:=h1
   subst h1
   refine bind_ex (ldI_of (j1 0 _ rfl)) ?_
   obtain ⟨n2,g2,hp⟩:=bind_some' hp
   obtain ⟨p2,q2,i2,h2,j2⟩:=ROs.ixr m_ rfl g2
   refine bind_ex i2 ?_
   have h2:_ = [_]:=h2
   subst h2
   refine bind_ex (ldI_of (j2 0 _ rfl)) ?_
   refine bif_ex (fun hb=>?_) (fun hb=>?_)
   ·replace hp:=bif_t hb hp
    obtain rfl:=Option.some.inj hp
    exact ⟨_,_,rfl,rfl,w0,s0,trivial⟩
   ·replace hp:=bif_f hb hp
    exact ih rfl rfl ⟨w0,s0,eF,m_⟩ hp
  ·replace hp:=bif_f hb hp
   obtain rfl:=Option.some.inj hp
   exact ⟨_,_,rfl,rfl,w0,s0,trivial⟩
def aR.p (F:Nat) (ac:List Int) (gc:List Int):Option (Bool):=(bif ((ac.length:Int) != (gc.length:Int)) then (some false) else (aR.pl29 F F ac gc 0))
theorem aR.P {F:Nat} {ap na:ON} {ag jz:Nat} {aq nb:Cap} {ac gc:List Int} {H:Hp} {R0:List Rs} (aY:ag = ac.length) (tt:jz = gc.length) (h0:Inn H R0 fun R=>ROs (eInt .i64) H R ⟨ap,ag,aq⟩ ac∧ROs (eInt .i64) H R ⟨na,jz,nb⟩ gc) {r:Bool} (hp:aR.p F ac gc = some r):∃ v H',aR.tw F ⟨ap,ag,aq⟩ ⟨na,jz,nb⟩ H = some (v,H')∧aR.Q H R0 R0  r v H':=by
 obtain ⟨w0,aG,tu⟩:=h0
 subst aY
 subst tt
 unfold aR.p at hp
 unfold aR.tw aR.twX
 have s0:=w0.rf
 refine bif_ex (fun hb=>?_) (fun hb=>?_)
 ·replace hp:=bif_t hb hp
  obtain rfl:=Option.some.inj hp
  exact ⟨_,_,rfl,rfl,w0,s0,trivial⟩
 ·replace hp:=bif_f hb hp
  exact aR.l29_P F rfl rfl ⟨w0,s0,aG,tu⟩ hp
def bo.Q (H0:Hp) (Ri R0:List Rs)  (r:Bool) (v:AV) (H':Hp):Prop:=v = (.bool r)∧Out H0 Ri H' (R0) fun R=>True
def bo.p (F:Nat) (aa:Int) (ab:Int) (ff:List Int) (av:Int) (e_:Int) (nc:List Int):Option (Bool):=(bif (aa != av) then (some false) else ((bif (ab != e_) then (some false) else ((aR.p F ff nc).bind fun r5=>(bif (!r5) then (some false) else (some true))))))
theorem bo.P {F:Nat} {aa ab av e_:Int} {gv yu:ON} {fq tv:Nat} {gw yv:Cap} {ff nc:List Int} {H:Hp} {R0:List Rs} (nd:fq = ff.length) (BS:tv = nc.length) (h0:Inn H R0 fun R=>ROs (eInt .i64) H R ⟨gv,fq,gw⟩ ff∧ROs (eInt .i64) H R ⟨yu,tv,yv⟩ nc) {r:Bool} (hp:bo.p F aa ab ff av e_ nc = some r):∃ v H',bo.tw F aa ab ⟨gv,fq,gw⟩ av e_ ⟨yu,tv,yv⟩ H = some (v,H')∧bo.Q H R0 R0  r v H':=by
 obtain ⟨w0,ng,BT⟩:=h0
 subst nd
 subst BS
 unfold bo.p at hp
 unfold bo.tw bo.twX
 have s0:=w0.rf
 refine new_k w0 fun H1 w1 s1=>?_
 refine new_k w1 fun H2 w2 s2=>?_
 refine bind_ex (ldI_of (w2.ld (i:=1) rfl rfl)) ?_
 refine bind_ex (ldI_of (w2.ld (i:=0) rfl rfl)) ?_
 refine bif_ex (fun hb=>?_) (fun hb=>?_)
 ·replace hp:=bif_t hb hp
  obtain ⟨w3,s3⟩:=w2.pick' [] 2 rfl rfl rfl
  dsimp only [pk,pks,nth,List.drop] at w3 s3
  obtain rfl:=Option.some.inj hp
  exact ⟨_,_,rfl,rfl,w3,(s0.trans (s1.trans (s2.trans s3))),trivial⟩
 ·replace hp:=bif_f hb hp
  refine bind_ex (ldI_of (w2.ld (i:=1) rfl rfl)) ?_
  refine bind_ex (ldI_of (w2.ld (i:=0) rfl rfl)) ?_
  refine bif_ex (fun hb=>?_) (fun hb=>?_)
  ·replace hp:=bif_t hb hp
   obtain ⟨w4,s4⟩:=w2.pick' [] 2 rfl rfl rfl
   dsimp only [pk,pks,nth,List.drop] at w4 s4
   obtain rfl:=Option.some.inj hp
   exact ⟨_,_,rfl,rfl,w4,(s0.trans (s1.trans (s2.trans s4))),trivial⟩
  ·replace hp:=bif_f hb hp
   refine bind_ex (ldSl_of (w2.ld (i:=1) rfl rfl)) ?_
   refine bind_ex (ldSl_of (w2.ld (i:=0) rfl rfl)) ?_
   obtain ⟨r5,e5,hp⟩:=bind_some' hp
   refine call_ex (aR.P rfl rfl ⟨w2,(ng.step (s1.trans s2)),(BT.step (s1.trans s2))⟩ e5) ?_
   rintro _ H6 ⟨rfl,w6,s6,_⟩
   refine bind_ex rfl ?_
   refine bif_ex (fun hb=>?_) (fun hb=>?_)
   ·replace hp:=bif_t hb hp
    obtain ⟨w7,s7⟩:=w6.pick' [] 2 rfl rfl rfl
    dsimp only [pk,pks,nth,List.drop] at w7 s7
    obtain rfl:=Option.some.inj hp
    exact ⟨_,_,rfl,rfl,w7,(s0.trans (s1.trans (s2.trans (s6.trans s7)))),trivial⟩
   ·replace hp:=bif_f hb hp
    obtain ⟨w8,s8⟩:=w6.pick' [] 2 rfl rfl rfl
    dsimp only [pk,pks,nth,List.drop] at w8 s8
    obtain rfl:=Option.some.inj hp
    exact ⟨_,_,rfl,rfl,w8,(s0.trans (s1.trans (s2.trans (s6.trans s8)))),trivial⟩
def bE.Q (H0:Hp) (Ri R0:List Rs)  (r:Bool) (v:AV) (H':Hp):Prop:=v = (.bool r)∧Out H0 Ri H' (R0) fun R=>True
def bE.p (F:Nat) (aa:Int) (ab:Int) (ai:Int) (ay:Int) (aw:Int) (aJ:Int) (fa:Int) (fb:Int) (fc:Int) (fd:Int):Option (Bool):=(bif (aa != aJ) then (some false) else ((bif (ab != fa) then (some false) else ((bif (ai != fb) then (some false) else ((bif (ay != fc) then (some false) else ((bif (aw != fd) then (some false) else (some true))))))))))
theorem bE.P {F:Nat} {aa ab ai ay aw aJ fa fb fc fd:Int} {H:Hp} {R0:List Rs}  (h0:Inn H R0 fun R=>True) {r:Bool} (hp:bE.p F aa ab ai ay aw aJ fa fb fc fd = some r):∃ v H',bE.tw F aa ab ai ay aw aJ fa fb fc fd H = some (v,H')∧bE.Q H R0 R0  r v H':=by
 obtain ⟨w0,_⟩:=h0
 unfold bE.p at hp
 unfold bE.tw bE.twX
 have s0:=w0.rf
 refine new_k w0 fun H1 w1 s1=>?_
 refine new_k w1 fun H2 w2 s2=>?_
 refine bind_ex (ldI_of (w2.ld (i:=1) rfl rfl)) ?_
 refine bind_ex (ldI_of (w2.ld (i:=0) rfl rfl)) ?_
 refine bif_ex (fun hb=>?_) (fun hb=>?_)
 ·replace hp:=bif_t hb hp
  obtain ⟨w3,s3⟩:=w2.pick' [] 2 rfl rfl rfl
  dsimp only [pk,pks,nth,List.drop] at w3 s3
  obtain rfl:=Option.some.inj hp
  exact ⟨_,_,rfl,rfl,w3,(s0.trans (s1.trans (s2.trans s3))),trivial⟩
 ·replace hp:=bif_f hb hp
  refine bind_ex (ldI_of (w2.ld (i:=1) rfl rfl)) ?_
  refine bind_ex (ldI_of (w2.ld (i:=0) rfl rfl)) ?_
  refine bif_ex (fun hb=>?_) (fun hb=>?_)
  ·replace hp:=bif_t hb hp
   obtain ⟨w4,s4⟩:=w2.pick' [] 2 rfl rfl rfl
   dsimp only [pk,pks,nth,List.drop] at w4 s4
   obtain rfl:=Option.some.inj hp
   exact ⟨_,_,rfl,rfl,w4,(s0.trans (s1.trans (s2.trans s4))),trivial⟩
  ·replace hp:=bif_f hb hp
   refine bind_ex (ldI_of (w2.ld (i:=1) rfl rfl)) ?_
   refine bind_ex (ldI_of (w2.ld (i:=0) rfl rfl)) ?_
   refine bif_ex (fun hb=>?_) (fun hb=>?_)
   ·replace hp:=bif_t hb hp
    obtain ⟨w5,s5⟩:=w2.pick' [] 2 rfl rfl rfl
    dsimp only [pk,pks,nth,List.drop] at w5 s5
    obtain rfl:=Option.some.inj hp
    exact ⟨_,_,rfl,rfl,w5,(s0.trans (s1.trans (s2.trans s5))),trivial⟩
   ·replace hp:=bif_f hb hp
    refine bind_ex (ldI_of (w2.ld (i:=1) rfl rfl)) ?_
    refine bind_ex (ldI_of (w2.ld (i:=0) rfl rfl)) ?_
    refine bif_ex (fun hb=>?_) (fun hb=>?_)
    ·replace hp:=bif_t hb hp
     obtain ⟨w6,s6⟩:=w2.pick' [] 2 rfl rfl rfl
     dsimp only [pk,pks,nth,List.drop] at w6 s6
     obtain rfl:=Option.some.inj hp
     exact ⟨_,_,rfl,rfl,w6,(s0.trans (s1.trans (s2.trans s6))),trivial⟩
    ·replace hp:=bif_f hb hp
     refine bind_ex (ldI_of (w2.ld (i:=1) rfl rfl)) ?_
     refine bind_ex (ldI_of (w2.ld (i:=0) rfl rfl)) ?_
     refine bif_ex (fun hb=>?_) (fun hb=>?_)
     ·replace hp:=bif_t hb hp
      obtain ⟨w7,s7⟩:=w2.pick' [] 2 rfl rfl rfl
      dsimp only [pk,pks,nth,List.drop] at w7 s7
      obtain rfl:=Option.some.inj hp
      exact ⟨_,_,rfl,rfl,w7,(s0.trans (s1.trans (s2.trans s7))),trivial⟩
     ·replace hp:=bif_f hb hp
      obtain ⟨w8,s8⟩:=w2.pick' [] 2 rfl rfl rfl
      dsimp only [pk,pks,nth,List.drop] at w8 s8
      obtain rfl:=Option.some.inj hp
      exact ⟨_,_,rfl,rfl,w8,(s0.trans (s1.trans (s2.trans s8))),trivial⟩
def aS.Q (H0:Hp) (Ri R0:List Rs)  (r:Bool) (v:AV) (H':Hp):Prop:=v = (.bool r)∧Out H0 Ri H' (R0) fun R=>True
def aS.S29 (H0:Hp) (Ri R0:List Rs)  (C:Sl→Sl→Int→Hp→OA) (pC:List (Int×Int×Int×Int×Int)→List (Int×Int×Int×Int×Int)→Int→Option (Bool)):Prop:=∀ {eD iB:ON} {du hR:Nat} {eE iC:Cap} {a_ dy:List (Int×Int×Int×Int×Int)} {bT:Int},∀ {H:Hp},du = a_.length→hR = dy.length→(Out H0 Ri H R0 fun R=>ROs (ePair (eInt .i64) (ePair (eInt .i64) (ePair (eInt .i64) (ePair (eInt .i64) (eInt .i64))))) H R ⟨eD,du,eE⟩ a_∧ROs (ePair (eInt .i64) (ePair (eInt .i64) (ePair (eInt .i64) (ePair (eInt .i64) (eInt .i64))))) H R ⟨iB,hR,iC⟩ dy)→∀ {r:Bool},pC a_ dy bT = some r→∃ v H',C ⟨eD,du,eE⟩ ⟨iB,hR,iC⟩ bT H = some (v,H')∧aS.Q H0 Ri R0  r v H'
def aS.pl29 (F:Nat) :Nat→List (Int×Int×Int×Int×Int)→List (Int×Int×Int×Int×Int)→Int→Option (Bool)
 | 0,_,_,_=>none
 | k + 1,a_,dy,bT=>(bif (decide (bT < (a_.length:Int))) then ((ix a_ bT).bind fun n1=>(ix dy bT).bind fun n2=>(bE.p F ((gt a_ n1).1) ((gt a_ n1).2.1) ((gt a_ n1).2.2.1) ((gt a_ n1).2.2.2.1) ((gt a_ n1).2.2.2.2) ((gt dy n2).1) ((gt dy n2).2.1) ((gt dy n2).2.2.1) ((gt dy n2).2.2.2.1) ((gt dy n2).2.2.2.2)).bind fun r3=>(bif (!r3) then (some false) else (aS.pl29 F k a_ dy (IntKind.i64.wrap (bT + 1))))) else (some true))
termination_by structural n=>n
theorem aS.l29_P {F:Nat} {H0:Hp} {Ri R0:List Rs}  :∀ k,aS.S29 H0 Ri R0  (aS.l29 F (bE.tw F)  k) (aS.pl29 F  k):=by
 intro k
 induction k with
 | zero=>
  intro eD iB du hR eE iC a_ dy bT H fe mZ h0 r hp
  exact nomatch (show (none:Option (Bool)) = some r from hp)
 | succ k ih=>
  intro eD iB du hR eE iC a_ dy bT H fe mZ h0 r hp
  obtain ⟨w0,s0,eF,m_⟩:=h0
  subst fe
  subst mZ
  unfold aS.pl29 at hp
  unfold aS.l29
  refine bif_ex (fun hb=>?_) (fun hb=>?_)
  ·replace hp:=bif_t hb hp
   obtain ⟨n1,g1,hp⟩:=bind_some' hp
   obtain ⟨p1,q1,i1,h1,j1⟩:=ROs.ixr eF rfl g1
   refine bind_ex i1 ?_
   obtain ⟨_,_,rfl,rfl,_,_,rfl,rfl,_,_,rfl,rfl,_,_,rfl,rfl,rfl⟩:=h1
   refine bind_ex (ldI_of (j1 0 _ rfl)) ?_
   refine bind_ex (ldI_of (j1 1 _ rfl)) ?_
   refine bind_ex (ldI_of (j1 2 _ rfl)) ?_
   refine bind_ex (ldI_of (j1 3 _ rfl)) ?_
   refine bind_ex (ldI_of (j1 4 _ rfl)) ?_
   obtain ⟨n2,g2,hp⟩:=bind_some' hp
   obtain ⟨p2,q2,i2,h2,j2⟩:=ROs.ixr m_ rfl g2
   refine bind_ex i2 ?_
   obtain ⟨_,_,rfl,rfl,_,_,rfl,rfl,_,_,rfl,rfl,_,_,rfl,rfl,rfl⟩:=h2
   refine bind_ex (ldI_of (j2 0 _ rfl)) ?_
   refine bind_ex (ldI_of (j2 1 _ rfl)) ?_
   refine bind_ex (ldI_of (j2 2 _ rfl)) ?_
   refine bind_ex (ldI_of (j2 3 _ rfl)) ?_
   refine bind_ex (ldI_of (j2 4 _ rfl)) ?_
   obtain ⟨r3,e3,hp⟩:=bind_some' hp
   refine call_ex (bE.P ⟨w0,trivial⟩ e3) ?_
   rintro _ H4 ⟨rfl,w4,s4,_⟩
   refine bind_ex rfl ?_
   refine bif_ex (fun hb=>?_) (fun hb=>?_)
   ·replace hp:=bif_t hb hp
    obtain rfl:=Option.some.inj hp
    exact ⟨_,_,rfl,rfl,w4,(s0.trans s4),trivial⟩
   ·replace hp:=bif_f hb hp
    exact ih rfl rfl ⟨w4,(s0.trans s4),(eF.step s4),(m_.step s4)⟩ hp
  ·replace hp:=bif_f hb hp
   obtain rfl:=Option.some.inj hp
   exact ⟨_,_,rfl,rfl,w0,s0,trivial⟩
def aS.p (F:Nat) (ac:List (Int×Int×Int×Int×Int)) (gc:List (Int×Int×Int×Int×Int)):Option (Bool):=(bif ((ac.length:Int) != (gc.length:Int)) then (some false) else (aS.pl29 F F ac gc 0))
theorem aS.P {F:Nat} {ap na:ON} {ag jz:Nat} {aq nb:Cap} {ac gc:List (Int×Int×Int×Int×Int)} {H:Hp} {R0:List Rs} (aY:ag = ac.length) (tt:jz = gc.length) (h0:Inn H R0 fun R=>ROs (ePair (eInt .i64) (ePair (eInt .i64) (ePair (eInt .i64) (ePair (eInt .i64) (eInt .i64))))) H R ⟨ap,ag,aq⟩ ac∧ROs (ePair (eInt .i64) (ePair (eInt .i64) (ePair (eInt .i64) (ePair (eInt .i64) (eInt .i64))))) H R ⟨na,jz,nb⟩ gc) {r:Bool} (hp:aS.p F ac gc = some r):∃ v H',aS.tw F ⟨ap,ag,aq⟩ ⟨na,jz,nb⟩ H = some (v,H')∧aS.Q H R0 R0  r v H':=by
 obtain ⟨w0,aG,tu⟩:=h0
 subst aY
 subst tt
 unfold aS.p at hp
 unfold aS.tw aS.twX
 have s0:=w0.rf
 refine bif_ex (fun hb=>?_) (fun hb=>?_)
 ·replace hp:=bif_t hb hp
  obtain rfl:=Option.some.inj hp
  exact ⟨_,_,rfl,rfl,w0,s0,trivial⟩
 ·replace hp:=bif_f hb hp
  exact aS.l29_P F rfl rfl ⟨w0,s0,aG,tu⟩ hp
def bw.Q (H0:Hp) (Ri R0:List Rs)  (r:Bool) (v:AV) (H':Hp):Prop:=v = (.bool r)∧Out H0 Ri H' (R0) fun R=>True
def bw.p (F:Nat) (ac:List (Int×Int×Int×Int×Int)) (ab:Int) (cT:List (Int×Int×Int×Int×Int)) (av:Int):Option (Bool):=(aS.p F ac cT).bind fun r3=>(bif (!r3) then (some false) else ((bif (ab != av) then (some false) else (some true))))
theorem bw.P {F:Nat} {ap hK:ON} {ag fC:Nat} {aq hM:Cap} {ac cT:List (Int×Int×Int×Int×Int)} {ab av:Int} {H:Hp} {R0:List Rs} (aY:ag = ac.length) (jq:fC = cT.length) (h0:Inn H R0 fun R=>ROs (ePair (eInt .i64) (ePair (eInt .i64) (ePair (eInt .i64) (ePair (eInt .i64) (eInt .i64))))) H R ⟨ap,ag,aq⟩ ac∧ROs (ePair (eInt .i64) (ePair (eInt .i64) (ePair (eInt .i64) (ePair (eInt .i64) (eInt .i64))))) H R ⟨hK,fC,hM⟩ cT) {r:Bool} (hp:bw.p F ac ab cT av = some r):∃ v H',bw.tw F ⟨ap,ag,aq⟩ ab ⟨hK,fC,hM⟩ av H = some (v,H')∧bw.Q H R0 R0  r v H':=by
 obtain ⟨w0,aG,jr⟩:=h0
 subst aY
 subst jq
 unfold bw.p at hp
 unfold bw.tw bw.twX
 have s0:=w0.rf
 refine new_k w0 fun H1 w1 s1=>?_
 refine new_k w1 fun H2 w2 s2=>?_
 refine bind_ex (ldSl_of (w2.ld (i:=1) rfl rfl)) ?_
 refine bind_ex (ldSl_of (w2.ld (i:=0) rfl rfl)) ?_
 obtain ⟨r3,e3,hp⟩:=bind_some' hp
 refine call_ex (aS.P rfl rfl ⟨w2,(aG.step (s1.trans s2)),(jr.step (s1.trans s2))⟩ e3) ?_
 rintro _ H4 ⟨rfl,w4,s4,_⟩
 refine bind_ex rfl ?_
 refine bif_ex (fun hb=>?_) (fun hb=>?_)
 ·replace hp:=bif_t hb hp
  obtain ⟨w5,s5⟩:=w4.pick' [] 2 rfl rfl rfl
  dsimp only [pk,pks,nth,List.drop] at w5 s5
  obtain rfl:=Option.some.inj hp
  exact ⟨_,_,rfl,rfl,w5,(s0.trans (s1.trans (s2.trans (s4.trans s5)))),trivial⟩
 ·replace hp:=bif_f hb hp
  refine bind_ex (ldI_of (w4.ld (i:=1) rfl rfl)) ?_
  refine bind_ex (ldI_of (w4.ld (i:=0) rfl rfl)) ?_
  refine bif_ex (fun hb=>?_) (fun hb=>?_)
  ·replace hp:=bif_t hb hp
   obtain ⟨w6,s6⟩:=w4.pick' [] 2 rfl rfl rfl
   dsimp only [pk,pks,nth,List.drop] at w6 s6
   obtain rfl:=Option.some.inj hp
   exact ⟨_,_,rfl,rfl,w6,(s0.trans (s1.trans (s2.trans (s4.trans s6)))),trivial⟩
  ·replace hp:=bif_f hb hp
   obtain ⟨w7,s7⟩:=w4.pick' [] 2 rfl rfl rfl
   dsimp only [pk,pks,nth,List.drop] at w7 s7
   obtain rfl:=Option.some.inj hp
   exact ⟨_,_,rfl,rfl,w7,(s0.trans (s1.trans (s2.trans (s4.trans s7)))),trivial⟩
def aT.Q (H0:Hp) (Ri R0:List Rs) (ap:ON) (ag:Nat) (aq:Cap) (dv:Bool) (dw dx:List AV) (r:Int×(List (Int×Int×Int×Int×Int))) (v:AV) (H':Hp):Prop:=∃ hP:List AV,v = (.int .i64 r.1)∧ag = (r.2).length∧Out H0 Ri H' (Rs.ow dv ⟨ap,ag,aq⟩ (ePair (eInt .i64) (ePair (eInt .i64) (ePair (eInt .i64) (ePair (eInt .i64) (eInt .i64))))).z dw hP dx :: R0) fun R=>CR (ePair (eInt .i64) (ePair (eInt .i64) (ePair (eInt .i64) (ePair (eInt .i64) (eInt .i64))))) H' R hP (r.2)
def aT.S13 (H0:Hp) (Ri R0:List Rs) (di:ON) (cH:Nat) (dj:Cap) (eR:Bool) (eS eT:List AV) (C:Sl→Int→Int→Hp→OA) (pC:List (Int×Int×Int×Int×Int)→Int→Int→Option (Int×(List (Int×Int×Int×Int×Int)))):Prop:=∀ {a_:List (Int×Int×Int×Int×Int)} {iD:List AV} {aF bi:Int},∀ {H:Hp},cH = a_.length→(Out H0 Ri H (Rs.ow eR ⟨di,cH,dj⟩ (ePair (eInt .i64) (ePair (eInt .i64) (ePair (eInt .i64) (ePair (eInt .i64) (eInt .i64))))).z eS iD eT :: R0) fun R=>CR (ePair (eInt .i64) (ePair (eInt .i64) (ePair (eInt .i64) (ePair (eInt .i64) (eInt .i64))))) H R iD a_)→∀ {r:Int×(List (Int×Int×Int×Int×Int))},pC a_ aF bi = some r→∃ v H',C ⟨di,cH,dj⟩ aF bi H = some (v,H')∧aT.Q H0 Ri R0 di cH dj eR eS eT r v H'
def aT.pl13 (F:Nat) :Nat→List (Int×Int×Int×Int×Int)→Int→Int→Option (Int×(List (Int×Int×Int×Int×Int)))
 | 0,_,_,_=>none
 | k + 1,a_,aF,bi=>(bif (decide (bi < (a_.length:Int))) then ((ix a_ bi).bind fun n1=>(some (a_.set n1 (aF,(gt a_ n1).2.1,(gt a_ n1).2.2.1,(gt a_ n1).2.2.2.1,(gt a_ n1).2.2.2.2))).bind fun l2=>(ix l2 bi).bind fun n4=>(some (l2.set n4 ((gt l2 n4).1,(IntKind.i64.wrap (aF + 1)),(gt l2 n4).2.2.1,(gt l2 n4).2.2.2.1,(gt l2 n4).2.2.2.2))).bind fun l5=>(ix l5 bi).bind fun n7=>(some (l5.set n7 ((gt l5 n7).1,(gt l5 n7).2.1,(IntKind.i64.wrap ((IntKind.i64.wrap (aF + 1)) + 1)),(gt l5 n7).2.2.2.1,(gt l5 n7).2.2.2.2))).bind fun l8=>(ix l8 bi).bind fun n10=>(some (l8.set n10 ((gt l8 n10).1,(gt l8 n10).2.1,(gt l8 n10).2.2.1,(IntKind.i64.wrap ((IntKind.i64.wrap ((IntKind.i64.wrap (aF + 1)) + 1)) + 1)),(gt l8 n10).2.2.2.2))).bind fun l11=>(ix l11 bi).bind fun n13=>(some (l11.set n13 ((gt l11 n13).1,(gt l11 n13).2.1,(gt l11 n13).2.2.1,(gt l11 n13).2.2.2.1,(IntKind.i64.wrap ((IntKind.i64.wrap ((IntKind.i64.wrap ((IntKind.i64.wrap (aF + 1)) + 1)) + 1)) + 1))))).bind fun l14=>aT.pl13 F k l14 (IntKind.i64.wrap ((IntKind.i64.wrap ((IntKind.i64.wrap ((IntKind.i64.wrap ((IntKind.i64.wrap (aF + 1)) + 1)) + 1)) + 1)) + 1)) (IntKind.i64.wrap (bi + 1))) else (some (aF,a_)))
termination_by structural n=>n
theorem aT.l13_P {F:Nat} {H0:Hp} {Ri R0:List Rs} {di:ON} {cH:Nat} {dj:Cap} {eR:Bool} {eS eT:List AV} :∀ k,aT.S13 H0 Ri R0 di cH dj eR eS eT (aT.l13 F   k) (aT.pl13 F  k):=by
 intro k
 induction k with
 | zero=>
  intro a_ iD aF bi H fe h0 r hp
  exact nomatch (show (none:Option (Int×(List (Int×Int×Int×Int×Int)))) = some r from hp)
 | succ k ih=>
  intro a_ iD aF bi H fe h0 r hp
  obtain ⟨w0,s0,eF⟩:=h0
  subst fe
  unfold aT.pl13 at hp
  unfold aT.l13
  refine bif_ex (fun hb=>?_) (fun hb=>?_)
  ·replace hp:=bif_t hb hp
   obtain ⟨n1,g1,hp⟩:=bind_some' hp
   obtain ⟨p1,q1,i1,h1,j1⟩:=W.ixo (E:=(ePair (eInt .i64) (ePair (eInt .i64) (ePair (eInt .i64) (ePair (eInt .i64) (eInt .i64)))))) w0 (i:=0) rfl rfl eF g1
   refine bind_ex i1 ?_
   obtain ⟨l2,e2,hp⟩:=bind_some' hp
   refine sto_k (ePair (eInt .i64) (ePair (eInt .i64) (ePair (eInt .i64) (ePair (eInt .i64) (eInt .i64))))) w0 (i:=0) (j:=0) (p:=p1) rfl rfl eF g1 i1 e2 rfl rfl (fun _ h=>by obtain ⟨_,_,rfl,rfl,_,_,rfl,rfl,_,_,rfl,rfl,_,_,rfl,rfl,rfl⟩:=h; exact ⟨[_],_,rfl,rfl,[_],_,rfl,rfl,[_],_,rfl,rfl,[_],_,rfl,rfl,rfl⟩) fun H3 k3 w3 s3 c3=>?_
   dsimp only [List.set] at w3 s3 c3
   obtain ⟨n4,g4,hp⟩:=bind_some' hp
   obtain ⟨p4,q4,i4,h4,j4⟩:=W.ixo (E:=(ePair (eInt .i64) (ePair (eInt .i64) (ePair (eInt .i64) (ePair (eInt .i64) (eInt .i64)))))) w3 (i:=0) rfl rfl c3 g4
   refine bind_ex i4 ?_
   obtain ⟨l5,e5,hp⟩:=bind_some' hp
   refine sto_k (ePair (eInt .i64) (ePair (eInt .i64) (ePair (eInt .i64) (ePair (eInt .i64) (eInt .i64))))) w3 (i:=0) (j:=1) (p:=p4) rfl rfl c3 g4 i4 e5 rfl rfl (fun _ h=>by obtain ⟨_,_,rfl,rfl,_,_,rfl,rfl,_,_,rfl,rfl,_,_,rfl,rfl,rfl⟩:=h; exact ⟨[_],_,rfl,rfl,[_],_,rfl,rfl,[_],_,rfl,rfl,[_],_,rfl,rfl,rfl⟩) fun H6 k6 w6 s6 c6=>?_
   dsimp only [List.set] at w6 s6 c6
   obtain ⟨n7,g7,hp⟩:=bind_some' hp
   obtain ⟨p7,q7,i7,h7,j7⟩:=W.ixo (E:=(ePair (eInt .i64) (ePair (eInt .i64) (ePair (eInt .i64) (ePair (eInt .i64) (eInt .i64)))))) w6 (i:=0) rfl rfl c6 g7
   refine bind_ex i7 ?_
   obtain ⟨l8,e8,hp⟩:=bind_some' hp
   refine sto_k (ePair (eInt .i64) (ePair (eInt .i64) (ePair (eInt .i64) (ePair (eInt .i64) (eInt .i64))))) w6 (i:=0) (j:=2) (p:=p7) rfl rfl c6 g7 i7 e8 rfl rfl (fun _ h=>by obtain ⟨_,_,rfl,rfl,_,_,rfl,rfl,_,_,rfl,rfl,_,_,rfl,rfl,rfl⟩:=h; exact ⟨[_],_,rfl,rfl,[_],_,rfl,rfl,[_],_,rfl,rfl,[_],_,rfl,rfl,rfl⟩) fun H9 k9 w9 s9 c9=>?_
   dsimp only [List.set] at w9 s9 c9
   obtain ⟨n10,g10,hp⟩:=bind_some' hp
   obtain ⟨p10,q10,i10,h10,j10⟩:=W.ixo (E:=(ePair (eInt .i64) (ePair (eInt .i64) (ePair (eInt .i64) (ePair (eInt .i64) (eInt .i64)))))) w9 (i:=0) rfl rfl c9 g10
   refine bind_ex i10 ?_
   obtain ⟨l11,e11,hp⟩:=bind_some' hp
   refine sto_k (ePair (eInt .i64) (ePair (eInt .i64) (ePair (eInt .i64) (ePair (eInt .i64) (eInt .i64))))) w9 (i:=0) (j:=3) (p:=p10) rfl rfl c9 g10 i10 e11 rfl rfl (fun _ h=>by obtain ⟨_,_,rfl,rfl,_,_,rfl,rfl,_,_,rfl,rfl,_,_,rfl,rfl,rfl⟩:=h; exact ⟨[_],_,rfl,rfl,[_],_,rfl,rfl,[_],_,rfl,rfl,[_],_,rfl,rfl,rfl⟩) fun H12 k12 w12 s12 c12=>?_
   dsimp only [List.set] at w12 s12 c12
   obtain ⟨n13,g13,hp⟩:=bind_some' hp
   obtain ⟨p13,q13,i13,h13,j13⟩:=W.ixo (E:=(ePair (eInt .i64) (ePair (eInt .i64) (ePair (eInt .i64) (ePair (eInt .i64) (eInt .i64)))))) w12 (i:=0) rfl rfl c12 g13
   refine bind_ex i13 ?_
   obtain ⟨l14,e14,hp⟩:=bind_some' hp
   refine sto_k (ePair (eInt .i64) (ePair (eInt .i64) (ePair (eInt .i64) (ePair (eInt .i64) (eInt .i64))))) w12 (i:=0) (j:=4) (p:=p13) rfl rfl c12 g13 i13 e14 rfl rfl (fun _ h=>by obtain ⟨_,_,rfl,rfl,_,_,rfl,rfl,_,_,rfl,rfl,_,_,rfl,rfl,rfl⟩:=h; exact ⟨[_],_,rfl,rfl,[_],_,rfl,rfl,[_],_,rfl,rfl,[_],_,rfl,rfl,rfl⟩) fun H15 k15 w15 s15 c15=>?_
   dsimp only [List.set] at w15 s15 c15
   exact ih (((((st_len e2).symm.trans (st_len e5).symm).trans (st_len e8).symm).trans (st_len e11).symm).trans (st_len e14).symm) ⟨w15,(s0.trans (s3.trans (s6.trans (s9.trans (s12.trans s15))))),c15⟩ hp
  ·replace hp:=bif_f hb hp
   obtain rfl:=Option.some.inj hp
   exact ⟨_,_,rfl,_,rfl,rfl,w0,s0,eF⟩
def aT.p (F:Nat) (ac:List (Int×Int×Int×Int×Int)) (ad:Int):Option (Int×(List (Int×Int×Int×Int×Int))):=aT.pl13 F F ac ad 0
theorem aT.P {F:Nat} {ap:ON} {ag:Nat} {aq:Cap} {ac:List (Int×Int×Int×Int×Int)} {dv:Bool} {dw dx fD:List AV} {ad:Int} {H:Hp} {R0:List Rs} (aY:ag = ac.length) (h0:Inn H (Rs.ow dv ⟨ap,ag,aq⟩ (ePair (eInt .i64) (ePair (eInt .i64) (ePair (eInt .i64) (ePair (eInt .i64) (eInt .i64))))).z dw fD dx :: R0) fun R=>CR (ePair (eInt .i64) (ePair (eInt .i64) (ePair (eInt .i64) (ePair (eInt .i64) (eInt .i64))))) H R fD ac) {r:Int×(List (Int×Int×Int×Int×Int))} (hp:aT.p F ac ad = some r):∃ v H',aT.tw F ⟨ap,ag,aq⟩ ad H = some (v,H')∧aT.Q H (Rs.ow dv ⟨ap,ag,aq⟩ (ePair (eInt .i64) (ePair (eInt .i64) (ePair (eInt .i64) (ePair (eInt .i64) (eInt .i64))))).z dw fD dx :: R0) R0 ap ag aq dv dw dx r v H':=by
 obtain ⟨w0,aG⟩:=h0
 subst aY
 unfold aT.p at hp
 unfold aT.tw aT.twX
 have s0:=w0.rf
 exact aT.l13_P F rfl ⟨w0,s0,aG⟩ hp
def bx.Q (H0:Hp) (Ri R0:List Rs) (ap:ON) (ag:Nat) (aq:Cap) (dv:Bool) (dw dx:List AV) (r:Int×(List (Int×Int×Int×Int×Int))) (v:AV) (H':Hp):Prop:=∃ hP:List AV,v = (.int .i64 r.1)∧ag = (r.2).length∧Out H0 Ri H' (Rs.ow dv ⟨ap,ag,aq⟩ (ePair (eInt .i64) (ePair (eInt .i64) (ePair (eInt .i64) (ePair (eInt .i64) (eInt .i64))))).z dw hP dx :: R0) fun R=>CR (ePair (eInt .i64) (ePair (eInt .i64) (ePair (eInt .i64) (ePair (eInt .i64) (eInt .i64))))) H' R hP (r.2)
def bx.p (F:Nat) (ac:List (Int×Int×Int×Int×Int)) (au:Int):Option (Int×(List (Int×Int×Int×Int×Int))):=(aT.p F ac au).bind fun r3=>some (r3.1,r3.2)
theorem bx.P {F:Nat} {ap:ON} {ag:Nat} {aq:Cap} {ac:List (Int×Int×Int×Int×Int)} {dv:Bool} {dw dx fD:List AV} {ab au:Int} {H:Hp} {R0:List Rs} (aY:ag = ac.length) (h0:Inn H (Rs.ow dv ⟨ap,ag,aq⟩ (ePair (eInt .i64) (ePair (eInt .i64) (ePair (eInt .i64) (ePair (eInt .i64) (eInt .i64))))).z dw fD dx :: R0) fun R=>CR (ePair (eInt .i64) (ePair (eInt .i64) (ePair (eInt .i64) (ePair (eInt .i64) (eInt .i64))))) H R fD ac) {r:Int×(List (Int×Int×Int×Int×Int))} (hp:bx.p F ac au = some r):∃ v H',bx.tw F ⟨ap,ag,aq⟩ ab au H = some (v,H')∧bx.Q H (Rs.ow dv ⟨ap,ag,aq⟩ (ePair (eInt .i64) (ePair (eInt .i64) (ePair (eInt .i64) (ePair (eInt .i64) (eInt .i64))))).z dw fD dx :: R0) R0 ap ag aq dv dw dx r v H':=by
 obtain ⟨w0,aG⟩:=h0
 subst aY
 unfold bx.p at hp
 unfold bx.tw bx.twX
 have s0:=w0.rf
 refine new_k w0 fun H1 w1 s1=>?_
 refine bind_ex (ldSl_of (w1.ld (i:=0) rfl rfl)) ?_
 obtain ⟨w2,s2⟩:=w1.pick' [1,0] 2 rfl rfl rfl
 dsimp only [pk,pks,nth,List.drop] at w2 s2
 obtain ⟨r3,e3,hp⟩:=bind_some' hp
 refine call_ex (aT.P rfl ⟨w2,(aG.step (s1.trans s2))⟩ e3) ?_
 rintro _ H4 ⟨BU,rfl,hl4_0,w4,s4,f4_0⟩
 refine bind_ex rfl ?_
 obtain ⟨w5,s5⟩:=w4.pick' [0] 2 rfl rfl rfl
 dsimp only [pk,pks,nth,List.drop] at w5 s5
 obtain rfl:=Option.some.inj hp
 exact ⟨_,_,rfl,_,rfl,hl4_0,w5,(s0.trans (s1.trans (s2.trans (s4.trans s5)))),(f4_0.step s5)⟩
def aU.Q (H0:Hp) (Ri R0:List Rs) (ap:ON) (ag:Nat) (aq:Cap) (dv:Bool) (dw dx:List AV) (r:Int×List Int) (v:AV) (H':Hp):Prop:=∃ hP:List AV,v = (.int .i64 r.1)∧ag = (r.2).length∧Out H0 Ri H' (Rs.ow dv ⟨ap,ag,aq⟩ (eInt .i64).z dw hP dx :: R0) fun R=>CR (eInt .i64) H' R hP (r.2)
def aU.S13 (H0:Hp) (Ri R0:List Rs) (di:ON) (cH:Nat) (dj:Cap) (eR:Bool) (eS eT:List AV) (C:Sl→Int→Int→Hp→OA) (pC:List Int→Int→Int→Option (Int×List Int)):Prop:=∀ {a_:List Int} {iD:List AV} {aF bi:Int},∀ {H:Hp},cH = a_.length→(Out H0 Ri H (Rs.ow eR ⟨di,cH,dj⟩ (eInt .i64).z eS iD eT :: R0) fun R=>CR (eInt .i64) H R iD a_)→∀ {r:Int×List Int},pC a_ aF bi = some r→∃ v H',C ⟨di,cH,dj⟩ aF bi H = some (v,H')∧aU.Q H0 Ri R0 di cH dj eR eS eT r v H'
def aU.pl13 (F:Nat) :Nat→List Int→Int→Int→Option (Int×List Int)
 | 0,_,_,_=>none
 | k + 1,a_,aF,bi=>(bif (decide (bi < (a_.length:Int))) then ((ix a_ bi).bind fun n1=>(some (a_.set n1 aF)).bind fun l2=>aU.pl13 F k l2 (IntKind.i64.wrap (aF + 1)) (IntKind.i64.wrap (bi + 1))) else (some (aF,a_)))
termination_by structural n=>n
theorem aU.l13_P {F:Nat} {H0:Hp} {Ri R0:List Rs} {di:ON} {cH:Nat} {dj:Cap} {eR:Bool} {eS eT:List AV} :∀ k,aU.S13 H0 Ri R0 di cH dj eR eS eT (aU.l13 F   k) (aU.pl13 F  k):=by
 intro k
 induction k with
 | zero=>
  intro a_ iD aF bi H fe h0 r hp
  exact nomatch (show (none:Option (Int×List Int)) = some r from hp)
 | succ k ih=>
  intro a_ iD aF bi H fe h0 r hp
  obtain ⟨w0,s0,eF⟩:=h0
  subst fe
  unfold aU.pl13 at hp
  unfold aU.l13
  refine bif_ex (fun hb=>?_) (fun hb=>?_)
  ·replace hp:=bif_t hb hp
   obtain ⟨n1,g1,hp⟩:=bind_some' hp
   obtain ⟨p1,q1,i1,h1,j1⟩:=W.ixo (E:=(eInt .i64)) w0 (i:=0) rfl rfl eF g1
   refine bind_ex i1 ?_
   obtain ⟨l2,e2,hp⟩:=bind_some' hp
   refine sto_k (eInt .i64) w0 (i:=0) (j:=0) (p:=p1) rfl rfl eF g1 i1 e2 rfl rfl (fun _ h=>by have h:_ = [_]:=h; subst h; exact rfl) fun H3 k3 w3 s3 c3=>?_
   dsimp only [List.set] at w3 s3 c3
   exact ih ((st_len e2).symm) ⟨w3,(s0.trans s3),c3⟩ hp
  ·replace hp:=bif_f hb hp
   obtain rfl:=Option.some.inj hp
   exact ⟨_,_,rfl,_,rfl,rfl,w0,s0,eF⟩
def aU.p (F:Nat) (ac:List Int) (ad:Int):Option (Int×List Int):=aU.pl13 F F ac ad 0
theorem aU.P {F:Nat} {ap:ON} {ag:Nat} {aq:Cap} {ac:List Int} {dv:Bool} {dw dx fD:List AV} {ad:Int} {H:Hp} {R0:List Rs} (aY:ag = ac.length) (h0:Inn H (Rs.ow dv ⟨ap,ag,aq⟩ (eInt .i64).z dw fD dx :: R0) fun R=>CR (eInt .i64) H R fD ac) {r:Int×List Int} (hp:aU.p F ac ad = some r):∃ v H',aU.tw F ⟨ap,ag,aq⟩ ad H = some (v,H')∧aU.Q H (Rs.ow dv ⟨ap,ag,aq⟩ (eInt .i64).z dw fD dx :: R0) R0 ap ag aq dv dw dx r v H':=by
 obtain ⟨w0,aG⟩:=h0
 subst aY
 unfold aU.p at hp
 unfold aU.tw aU.twX
 have s0:=w0.rf
 exact aU.l13_P F rfl ⟨w0,s0,aG⟩ hp
def bF.Q (H0:Hp) (Ri R0:List Rs) (gv:ON) (fq:Nat) (gw:Cap) (nh:Bool) (ni nj:List AV) (r:Int×List Int) (v:AV) (H':Hp):Prop:=∃ yw:List AV,v = (.int .i64 r.1)∧fq = (r.2).length∧Out H0 Ri H' (Rs.ow nh ⟨gv,fq,gw⟩ (eInt .i64).z ni yw nj :: R0) fun R=>CR (eInt .i64) H' R yw (r.2)
def bF.p (F:Nat) (ff:List Int) (av:Int):Option (Int×List Int):=(aU.p F ff av).bind fun r3=>some (r3.1,r3.2)
theorem bF.P {F:Nat} {aa ab av:Int} {gv:ON} {fq:Nat} {gw:Cap} {ff:List Int} {nh:Bool} {ni nj tx:List AV} {H:Hp} {R0:List Rs} (nd:fq = ff.length) (h0:Inn H (Rs.ow nh ⟨gv,fq,gw⟩ (eInt .i64).z ni tx nj :: R0) fun R=>CR (eInt .i64) H R tx ff) {r:Int×List Int} (hp:bF.p F ff av = some r):∃ v H',bF.tw F aa ab ⟨gv,fq,gw⟩ av H = some (v,H')∧bF.Q H (Rs.ow nh ⟨gv,fq,gw⟩ (eInt .i64).z ni tx nj :: R0) R0 gv fq gw nh ni nj r v H':=by
 obtain ⟨w0,ng⟩:=h0
 subst nd
 unfold bF.p at hp
 unfold bF.tw bF.twX
 have s0:=w0.rf
 refine new_k w0 fun H1 w1 s1=>?_
 refine bind_ex (ldSl_of (w1.ld (i:=0) rfl rfl)) ?_
 obtain ⟨w2,s2⟩:=w1.pick' [1,0] 2 rfl rfl rfl
 dsimp only [pk,pks,nth,List.drop] at w2 s2
 obtain ⟨r3,e3,hp⟩:=bind_some' hp
 refine call_ex (aU.P rfl ⟨w2,(ng.step (s1.trans s2))⟩ e3) ?_
 rintro _ H4 ⟨BU,rfl,hl4_0,w4,s4,f4_0⟩
 refine bind_ex rfl ?_
 obtain ⟨w5,s5⟩:=w4.pick' [0] 2 rfl rfl rfl
 dsimp only [pk,pks,nth,List.drop] at w5 s5
 obtain rfl:=Option.some.inj hp
 exact ⟨_,_,rfl,_,rfl,hl4_0,w5,(s0.trans (s1.trans (s2.trans (s4.trans s5)))),(f4_0.step s5)⟩
def aN.Q (H0:Hp) (Ri R0:List Rs)  (r:Int) (v:AV) (H':Hp):Prop:=v = (.int .i64 r)∧Out H0 Ri H' (R0) fun R=>True
def aN.S13 (H0:Hp) (Ri R0:List Rs)  (C:Sl→Int→Int→Hp→OA) (pC:List Int→Int→Int→Option (Int)):Prop:=∀ {eD:ON} {du:Nat} {eE:Cap} {a_:List Int} {aF bi:Int},∀ {H:Hp},du = a_.length→(Out H0 Ri H R0 fun R=>ROs (eInt .i64) H R ⟨eD,du,eE⟩ a_)→∀ {r:Int},pC a_ aF bi = some r→∃ v H',C ⟨eD,du,eE⟩ aF bi H = some (v,H')∧aN.Q H0 Ri R0  r v H'
def aN.pl13 (F:Nat) :Nat→List Int→Int→Int→Option (Int)
 | 0,_,_,_=>none
 | k + 1,a_,aF,bi=>(bif (decide (bi < (a_.length:Int))) then ((ix a_ bi).bind fun n1=>(bif ((gt a_ n1) != aF) then (some (-1)) else (aN.pl13 F k a_ (IntKind.i64.wrap (aF + 1)) (IntKind.i64.wrap (bi + 1))))) else (some aF))
termination_by structural n=>n
theorem aN.l13_P {F:Nat} {H0:Hp} {Ri R0:List Rs}  :∀ k,aN.S13 H0 Ri R0  (aN.l13 F   k) (aN.pl13 F  k):=by
 intro k
 induction k with
 | zero=>
  intro eD du eE a_ aF bi H fe h0 r hp
  exact nomatch (show (none:Option (Int)) = some r from hp)
 | succ k ih=>
  intro eD du eE a_ aF bi H fe h0 r hp
  obtain ⟨w0,s0,eF⟩:=h0
  subst fe
  unfold aN.pl13 at hp
  unfold aN.l13
  refine bif_ex (fun hb=>?_) (fun hb=>?_)
  ·replace hp:=bif_t hb hp
   obtain ⟨n1,g1,hp⟩:=bind_some' hp
   obtain ⟨p1,q1,i1,h1,j1⟩:=ROs.ixr eF rfl g1
   refine bind_ex i1 ?_
   have h1:_ = [_]:=h1
   subst h1
   refine bind_ex (ldI_of (j1 0 _ rfl)) ?_
   refine bif_ex (fun hb=>?_) (fun hb=>?_)
   ·replace hp:=bif_t hb hp
    obtain rfl:=Option.some.inj hp
    exact ⟨_,_,rfl,rfl,w0,s0,trivial⟩
   ·replace hp:=bif_f hb hp
    exact ih rfl ⟨w0,s0,eF⟩ hp
  ·replace hp:=bif_f hb hp
   obtain rfl:=Option.some.inj hp
   exact ⟨_,_,rfl,rfl,w0,s0,trivial⟩
def aN.p (F:Nat) (ac:List Int) (ad:Int):Option (Int):=aN.pl13 F F ac ad 0
theorem aN.P {F:Nat} {ap:ON} {ag:Nat} {aq:Cap} {ac:List Int} {ad:Int} {H:Hp} {R0:List Rs} (aY:ag = ac.length) (h0:Inn H R0 fun R=>ROs (eInt .i64) H R ⟨ap,ag,aq⟩ ac) {r:Int} (hp:aN.p F ac ad = some r):∃ v H',aN.tw F ⟨ap,ag,aq⟩ ad H = some (v,H')∧aN.Q H R0 R0  r v H':=by
 obtain ⟨w0,aG⟩:=h0
 subst aY
 unfold aN.p at hp
 unfold aN.tw aN.twX
 have s0:=w0.rf
 exact aN.l13_P F rfl ⟨w0,s0,aG⟩ hp
def bt.Q (H0:Hp) (Ri R0:List Rs)  (r:Int) (v:AV) (H':Hp):Prop:=v = (.int .i64 r)∧Out H0 Ri H' (R0) fun R=>True
def bt.p (F:Nat) (ff:List Int) (av:Int):Option (Int):=(aN.p F ff av).bind fun r2=>(bif (decide (r2 < 0)) then (some (-1)) else (some r2))
theorem bt.P {F:Nat} {aa ab av:Int} {gv:ON} {fq:Nat} {gw:Cap} {ff:List Int} {H:Hp} {R0:List Rs} (nd:fq = ff.length) (h0:Inn H R0 fun R=>ROs (eInt .i64) H R ⟨gv,fq,gw⟩ ff) {r:Int} (hp:bt.p F ff av = some r):∃ v H',bt.tw F aa ab ⟨gv,fq,gw⟩ av H = some (v,H')∧bt.Q H R0 R0  r v H':=by
 obtain ⟨w0,ng⟩:=h0
 subst nd
 unfold bt.p at hp
 unfold bt.tw bt.twX
 have s0:=w0.rf
 refine new_k w0 fun H1 w1 s1=>?_
 refine bind_ex (ldSl_of (w1.ld (i:=0) rfl rfl)) ?_
 obtain ⟨r2,e2,hp⟩:=bind_some' hp
 refine call_ex (aN.P rfl ⟨w1,(ng.step s1)⟩ e2) ?_
 rintro _ H3 ⟨rfl,w3,s3,_⟩
 refine bind_ex rfl ?_
 refine bif_ex (fun hb=>?_) (fun hb=>?_)
 ·replace hp:=bif_t hb hp
  obtain ⟨w4,s4⟩:=w3.pick' [] 1 rfl rfl rfl
  dsimp only [pk,pks,nth,List.drop] at w4 s4
  obtain rfl:=Option.some.inj hp
  exact ⟨_,_,rfl,rfl,w4,(s0.trans (s1.trans (s3.trans s4))),trivial⟩
 ·replace hp:=bif_f hb hp
  obtain ⟨w5,s5⟩:=w3.pick' [] 1 rfl rfl rfl
  dsimp only [pk,pks,nth,List.drop] at w5 s5
  obtain rfl:=Option.some.inj hp
  exact ⟨_,_,rfl,rfl,w5,(s0.trans (s1.trans (s3.trans s5))),trivial⟩
def bJ.Q (H0:Hp) (Ri R0:List Rs)  (r:Bool) (v:AV) (H':Hp):Prop:=v = (.bool r)∧Out H0 Ri H' (R0) fun R=>True
def bJ.p (F:Nat) (ac:List (Int×Int×Int×Int×Int)) (ab:Int):Option (Bool):=(bq.p F ac 1048576).bind fun r2=>(bif (decide (r2 < 0)) then (some true) else ((bj.p F ac ab).bind fun r5=>(bu.p F r5.1 r5.2).bind fun r8=>(bj.p F ac ab).bind fun r15=>(bs.p F r15.1 r15.2).bind fun r22=>(bo.p F r22.1 r22.2.1 r22.2.2.1 r8.1 r8.2.1 r8.2.2.1).bind fun r32=>(bif (!r32) then (some false) else ((bif (!(r22.2.2.2 == r8.2.2.2)) then (some false) else ((bj.p F ac ab).bind fun r38=>(bw.p F r15.1 r15.2 r38.1 r38.2).bind fun r44=>(bif (!r44) then (some false) else ((bx.p F r15.1 1).bind fun r49=>(bif (decide (r49.1 < 0)) then (some false) else ((bo.p F r22.1 r22.2.1 r22.2.2.1 r8.1 r8.2.1 r8.2.2.1).bind fun r55=>(bif (!r55) then (some false) else ((bif (!(r22.2.2.2 == r8.2.2.2)) then (some false) else ((bF.p F r22.2.2.1 1).bind fun r61=>(bt.p F r61.2 1).bind fun r64=>(bif (decide (r64 < 0)) then (some false) else ((bif (r64 != r61.1) then (some false) else ((bj.p F ac ab).bind fun r69=>(bs.p F r69.1 r69.2).bind fun r72=>(bo.p F r72.1 r72.2.1 r72.2.2.1 r8.1 r8.2.1 r8.2.2.1).bind fun r82=>(bif (!r82) then (some false) else ((bif (!(r72.2.2.2 == r8.2.2.2)) then (some false) else ((bt.p F r61.2 1).bind fun r90=>(bif (decide (r90 < 0)) then (some false) else ((bif (r90 != r61.1) then (some false) else (some true))))))))))))))))))))))))))
end Go.Proofs.Ythfinhmkgdmelaa.AE
