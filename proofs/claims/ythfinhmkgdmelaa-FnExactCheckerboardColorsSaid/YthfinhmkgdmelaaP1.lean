import Derived.Test.YthfinhmkgdmelaaT2
import Derived.Test.YthfinhmkgdmelaaE2
set_option linter.unusedVariables false
set_option linter.unusedSimpArgs false
namespace Go.Proofs.Ythfinhmkgdmelaa.AE
open Go Go.AE Go.Proofs
set_option linter.unusedVariables false
set_option maxHeartbeats 4000000
set_option maxRecDepth 100000
def bE.Q (H0:Hp) (Ri R0:List Rs)  (r:Int) (v:AV) (H':Hp):Prop:=v = (.int .i64 r)∧Out H0 Ri H' (R0) fun R=>True
def bE.p (F:Nat) (ad:List (Int×Int×Int×Int×Int)) (ae:Int):Option (Int):=(bif (decide ((IntKind.i64.wrap (ae - (ad.length:Int))) < 0)) then (some (-1)) else (some (IntKind.i64.wrap (ae - (ad.length:Int)))))
theorem bE.P {F:Nat} {av:ON} {aj:Nat} {aw:Cap} {ad:List (Int×Int×Int×Int×Int)} {ae:Int} {H:Hp} {R0:List Rs} (ba:aj = ad.length) (h0:Inn H R0 fun R=>ROs (ePair (eInt .i64) (ePair (eInt .i64) (ePair (eInt .i64) (ePair (eInt .i64) (eInt .i64))))) H R ⟨av,aj,aw⟩ ad) {r:Int} (hp:bE.p F ad ae = some r):∃ v H',bE.tw F ⟨av,aj,aw⟩ ae H = some (v,H')∧bE.Q H R0 R0  r v H':=by
 obtain ⟨w0,aL⟩:=h0
 subst ba
 unfold bE.p at hp
 unfold bE.tw bE.twX
 have s0:=w0.rf
 refine bif_ex (fun hb=>?_) (fun hb=>?_)
 ·replace hp:=bif_t hb hp
  obtain rfl:=Option.some.inj hp
  exact ⟨_,_,rfl,rfl,w0,s0,trivial⟩
 ·replace hp:=bif_f hb hp
  obtain rfl:=Option.some.inj hp
  exact ⟨_,_,rfl,rfl,w0,s0,trivial⟩
def bw.Q (H0:Hp) (Ri R0:List Rs)  (r:Int) (v:AV) (H':Hp):Prop:=v = (.int .i64 r)∧Out H0 Ri H' (R0) fun R=>True
def bw.p (F:Nat) (ad:List (Int×Int×Int×Int×Int)) (aq:Int):Option (Int):=(bE.p F ad aq).bind fun r2=>(bif (decide (r2 < 0)) then (some (-1)) else (some r2))
theorem bw.P {F:Nat} {av:ON} {aj:Nat} {aw:Cap} {ad:List (Int×Int×Int×Int×Int)} {ab aq:Int} {H:Hp} {R0:List Rs} (ba:aj = ad.length) (h0:Inn H R0 fun R=>ROs (ePair (eInt .i64) (ePair (eInt .i64) (ePair (eInt .i64) (ePair (eInt .i64) (eInt .i64))))) H R ⟨av,aj,aw⟩ ad) {r:Int} (hp:bw.p F ad aq = some r):∃ v H',bw.tw F ⟨av,aj,aw⟩ ab aq H = some (v,H')∧bw.Q H R0 R0  r v H':=by
 obtain ⟨w0,aL⟩:=h0
 subst ba
 unfold bw.p at hp
 unfold bw.tw bw.twX
 have s0:=w0.rf
 refine new_k w0 fun H1 w1 s1=>?_
 refine bind_ex (ldSl_of (w1.ld (i:=0) rfl rfl)) ?_
 obtain ⟨r2,e2,hp⟩:=bind_some' hp
 refine call_ex (bE.P rfl ⟨w1,(aL.step s1)⟩ e2) ?_
 rintro _ H3 ⟨rfl,w3,s3,_⟩
 refine bind_ex rfl ?_
 refine bif_ex (fun hb=>?_) (fun hb=>?_)
 ·replace hp:=bif_t hb hp
  obtain ⟨w4,s4⟩:=w3.pick' [] 1 rfl rfl rfl
  dsimp only [pk,pks,nth,List.drop] at w4 s4
  obtain rfl:=Option.some.inj hp
  exact ⟨_,_,rfl,rfl,w4,(s0.trans (s1.trans (s3.trans s4))),trivial⟩
 ·replace hp:=bif_f hb hp
  obtain ⟨w5,s5⟩:=w3.pick' [] 1 rfl rfl rfl
  dsimp only [pk,pks,nth,List.drop] at w5 s5
  obtain rfl:=Option.some.inj hp
  exact ⟨_,_,rfl,rfl,w5,(s0.trans (s1.trans (s3.trans s5))),trivial⟩
def bF.Q (H0:Hp) (Ri R0:List Rs)  (r:Int×Int×Int×Int×Int) (v:AV) (H':Hp):Prop:=v = (.agg [(.int .i64 r.1),(.int .i64 r.2.1),(.int .i64 r.2.2.1),(.int .i64 r.2.2.2.1),(.int .i64 r.2.2.2.2)])∧Out H0 Ri H' (R0) fun R=>True
def bF.p (F:Nat) (aa:Int) (ab:Int) (aA:Int) (aB:Int) (az:Int):Option (Int×Int×Int×Int×Int):=some (aa,ab,aA,aB,az)
theorem bF.P {F:Nat} {aa ab aA aB az:Int} {H:Hp} {R0:List Rs}  (h0:Inn H R0 fun R=>True) {r:Int×Int×Int×Int×Int} (hp:bF.p F aa ab aA aB az = some r):∃ v H',bF.tw F aa ab aA aB az H = some (v,H')∧bF.Q H R0 R0  r v H':=by
 obtain ⟨w0,_⟩:=h0
 unfold bF.p at hp
 unfold bF.tw bF.twX
 have s0:=w0.rf
 refine new_k w0 fun H1 w1 s1=>?_
 refine new_k w1 fun H2 w2 s2=>?_
 refine new_k w2 fun H3 w3 s3=>?_
 refine bind_ex (ldI_of (w3.ld (i:=2) rfl rfl)) ?_
 refine st_k w3 (i:=0) rfl rfl rfl fun H4 w4 s4=>?_
 dsimp only [List.set] at w4 s4
 refine bind_ex (ldI_of (w4.ld (i:=2) rfl rfl)) ?_
 refine st_k w4 (i:=0) rfl rfl rfl fun H5 w5 s5=>?_
 dsimp only [List.set] at w5 s5
 refine bind_ex (ldI_of (w5.ld (i:=2) rfl rfl)) ?_
 refine st_k w5 (i:=0) rfl rfl rfl fun H6 w6 s6=>?_
 dsimp only [List.set] at w6 s6
 refine bind_ex (ldI_of (w6.ld (i:=2) rfl rfl)) ?_
 refine st_k w6 (i:=0) rfl rfl rfl fun H7 w7 s7=>?_
 dsimp only [List.set] at w7 s7
 refine bind_ex (ldI_of (w7.ld (i:=2) rfl rfl)) ?_
 refine st_k w7 (i:=0) rfl rfl rfl fun H8 w8 s8=>?_
 dsimp only [List.set] at w8 s8
 refine bind_ex (ldI_of (w8.ld (i:=0) rfl rfl)) ?_
 refine bind_ex (ldI_of (w8.ld (i:=0) rfl rfl)) ?_
 refine bind_ex (ldI_of (w8.ld (i:=0) rfl rfl)) ?_
 refine bind_ex (ldI_of (w8.ld (i:=0) rfl rfl)) ?_
 refine bind_ex (ldI_of (w8.ld (i:=0) rfl rfl)) ?_
 refine st_k w8 (i:=1) rfl rfl rfl fun H9 w9 s9=>?_
 dsimp only [List.set] at w9 s9
 refine st_k w9 (i:=1) rfl rfl rfl fun H10 w10 s10=>?_
 dsimp only [List.set] at w10 s10
 refine st_k w10 (i:=1) rfl rfl rfl fun H11 w11 s11=>?_
 dsimp only [List.set] at w11 s11
 refine st_k w11 (i:=1) rfl rfl rfl fun H12 w12 s12=>?_
 dsimp only [List.set] at w12 s12
 refine st_k w12 (i:=1) rfl rfl rfl fun H13 w13 s13=>?_
 dsimp only [List.set] at w13 s13
 refine bind_ex (ldI_of (w13.ld (i:=1) rfl rfl)) ?_
 refine bind_ex (ldI_of (w13.ld (i:=1) rfl rfl)) ?_
 refine bind_ex (ldI_of (w13.ld (i:=1) rfl rfl)) ?_
 refine bind_ex (ldI_of (w13.ld (i:=1) rfl rfl)) ?_
 refine bind_ex (ldI_of (w13.ld (i:=1) rfl rfl)) ?_
 obtain ⟨w14,s14⟩:=w13.pick' [] 3 rfl rfl rfl
 dsimp only [pk,pks,nth,List.drop] at w14 s14
 obtain rfl:=Option.some.inj hp
 exact ⟨_,_,rfl,rfl,w14,(s0.trans (s1.trans (s2.trans (s3.trans (s4.trans (s5.trans (s6.trans (s7.trans (s8.trans (s9.trans (s10.trans (s11.trans (s12.trans (s13.trans s14)))))))))))))),trivial⟩
def aR.Q (H0:Hp) (Ri R0:List Rs)  (r:(List (Int×Int×Int×Int×Int))) (v:AV) (H':Hp):Prop:=∃ o0a:ON,∃ o0n:Nat,∃ o0c:Cap,∃ o0k:List AV,v = (.sl ⟨o0a,o0n,o0c⟩)∧o0n = (r).length∧Out H0 Ri H' (Rs.own ⟨o0a,o0n,o0c⟩ (ePair (eInt .i64) (ePair (eInt .i64) (ePair (eInt .i64) (ePair (eInt .i64) (eInt .i64))))).z o0k :: R0) fun R=>CR (ePair (eInt .i64) (ePair (eInt .i64) (ePair (eInt .i64) (ePair (eInt .i64) (eInt .i64))))) H' R o0k (r)
def aR.S29 (H0:Hp) (Ri R0:List Rs)  (C:Sl→Sl→Int→Hp→OA) (pC:List (Int×Int×Int×Int×Int)→List (Int×Int×Int×Int×Int)→Int→Option ((List (Int×Int×Int×Int×Int)))):Prop:=∀ {eJ pc:ON} {du lx:Nat} {eK pd:Cap} {bg gw:List (Int×Int×Int×Int×Int)} {pe:List AV} {dB:Int},∀ {H:Hp},du = bg.length→lx = gw.length→(Out H0 Ri H (Rs.own ⟨pc,lx,pd⟩ (ePair (eInt .i64) (ePair (eInt .i64) (ePair (eInt .i64) (ePair (eInt .i64) (eInt .i64))))).z pe :: R0) fun R=>ROs (ePair (eInt .i64) (ePair (eInt .i64) (ePair (eInt .i64) (ePair (eInt .i64) (eInt .i64))))) H R ⟨eJ,du,eK⟩ bg∧CR (ePair (eInt .i64) (ePair (eInt .i64) (ePair (eInt .i64) (ePair (eInt .i64) (eInt .i64))))) H R pe gw)→∀ {r:(List (Int×Int×Int×Int×Int))},pC bg gw dB = some r→∃ v H',C ⟨eJ,du,eK⟩ ⟨pc,lx,pd⟩ dB H = some (v,H')∧aR.Q H0 Ri R0  r v H'
def aR.pl29 (F:Nat) :Nat→List (Int×Int×Int×Int×Int)→List (Int×Int×Int×Int×Int)→Int→Option ((List (Int×Int×Int×Int×Int)))
 | 0,_,_,_=>none
 | k + 1,bg,gw,dB=>(bif (decide (dB < (bg.length:Int))) then ((ix bg dB).bind fun n1=>(bF.p F ((gt bg n1).1) ((gt bg n1).2.1) ((gt bg n1).2.2.1) ((gt bg n1).2.2.2.1) ((gt bg n1).2.2.2.2)).bind fun r2=>(ix gw dB).bind fun n4=>(some (gw.set n4 (r2.1,(gt gw n4).2.1,(gt gw n4).2.2.1,(gt gw n4).2.2.2.1,(gt gw n4).2.2.2.2))).bind fun l5=>(some (l5.set n4 ((gt l5 n4).1,r2.2.1,(gt l5 n4).2.2.1,(gt l5 n4).2.2.2.1,(gt l5 n4).2.2.2.2))).bind fun l7=>(some (l7.set n4 ((gt l7 n4).1,(gt l7 n4).2.1,r2.2.2.1,(gt l7 n4).2.2.2.1,(gt l7 n4).2.2.2.2))).bind fun l9=>(some (l9.set n4 ((gt l9 n4).1,(gt l9 n4).2.1,(gt l9 n4).2.2.1,r2.2.2.2.1,(gt l9 n4).2.2.2.2))).bind fun l11=>(some (l11.set n4 ((gt l11 n4).1,(gt l11 n4).2.1,(gt l11 n4).2.2.1,(gt l11 n4).2.2.2.1,r2.2.2.2.2))).bind fun l13=>aR.pl29 F k bg l13 (IntKind.i64.wrap (dB + 1))) else (some gw))
termination_by structural n=>n
theorem aR.l29_P {F:Nat} {H0:Hp} {Ri R0:List Rs}  :∀ k,aR.S29 H0 Ri R0  (aR.l29 F (bF.tw F)  k) (aR.pl29 F  k):=by
 intro k
 induction k with
 | zero=>
  intro eJ pc du lx eK pd bg gw pe dB H ft wl h0 r hp
  exact nomatch (show (none:Option ((List (Int×Int×Int×Int×Int)))) = some r from hp)
 | succ k ih=>
  intro eJ pc du lx eK pd bg gw pe dB H ft wl h0 r hp
  obtain ⟨w0,s0,eL,tF⟩:=h0
  subst ft
  subst wl
  unfold aR.pl29 at hp
  unfold aR.l29
  refine bif_ex (fun hb=>?_) (fun hb=>?_)
  ·replace hp:=bif_t hb hp
   obtain ⟨n1,g1,hp⟩:=bind_some' hp
   obtain ⟨p1,q1,i1,h1,j1⟩:=ROs.ixr eL rfl g1
   refine bind_ex i1 ?_
   obtain ⟨_,_,rfl,rfl,_,_,rfl,rfl,_,_,rfl,rfl,_,_,rfl,rfl,rfl⟩:=h1
   refine bind_ex (ldI_of (j1 0 _ rfl)) ?_
   refine bind_ex (ldI_of (j1 1 _ rfl)) ?_
   refine bind_ex (ldI_of (j1 2 _ rfl)) ?_
   refine bind_ex (ldI_of (j1 3 _ rfl)) ?_
   refine bind_ex (ldI_of (j1 4 _ rfl)) ?_
   obtain ⟨r2,e2,hp⟩:=bind_some' hp
   refine call_ex (bF.P ⟨w0,trivial⟩ e2) ?_
   rintro _ H3 ⟨rfl,w3,s3,_⟩
   refine bind_ex rfl ?_
   refine bind_ex rfl ?_
   refine bind_ex rfl ?_
   refine bind_ex rfl ?_
   refine bind_ex rfl ?_
   refine bind_ex rfl ?_
   refine bind_ex rfl ?_
   refine bind_ex rfl ?_
   refine bind_ex rfl ?_
   refine bind_ex rfl ?_
   refine bind_ex rfl ?_
   obtain ⟨n4,g4,hp⟩:=bind_some' hp
   obtain ⟨p4,q4,i4,h4,j4⟩:=W.ixo (E:=(ePair (eInt .i64) (ePair (eInt .i64) (ePair (eInt .i64) (ePair (eInt .i64) (eInt .i64)))))) w3 (i:=0) rfl rfl (tF.step s3) g4
   refine bind_ex i4 ?_
   obtain ⟨l5,e5,hp⟩:=bind_some' hp
   refine sto_k (ePair (eInt .i64) (ePair (eInt .i64) (ePair (eInt .i64) (ePair (eInt .i64) (eInt .i64))))) w3 (i:=0) (j:=0) (p:=p4) rfl rfl (tF.step s3) g4 i4 e5 rfl rfl (fun _ h=>by obtain ⟨_,_,rfl,rfl,_,_,rfl,rfl,_,_,rfl,rfl,_,_,rfl,rfl,rfl⟩:=h; exact ⟨[_],_,rfl,rfl,[_],_,rfl,rfl,[_],_,rfl,rfl,[_],_,rfl,rfl,rfl⟩) fun H6 k6 w6 s6 c6=>?_
   dsimp only [List.set] at w6 s6 c6
   obtain ⟨l7,e7,hp⟩:=bind_some' hp
   refine sto_k (ePair (eInt .i64) (ePair (eInt .i64) (ePair (eInt .i64) (ePair (eInt .i64) (eInt .i64))))) w6 (i:=0) (j:=1) (p:=p4) rfl rfl c6 (ix_len g4 (st_len e5)) i4 e7 rfl rfl (fun _ h=>by obtain ⟨_,_,rfl,rfl,_,_,rfl,rfl,_,_,rfl,rfl,_,_,rfl,rfl,rfl⟩:=h; exact ⟨[_],_,rfl,rfl,[_],_,rfl,rfl,[_],_,rfl,rfl,[_],_,rfl,rfl,rfl⟩) fun H8 k8 w8 s8 c8=>?_
   dsimp only [List.set] at w8 s8 c8
   obtain ⟨l9,e9,hp⟩:=bind_some' hp
   refine sto_k (ePair (eInt .i64) (ePair (eInt .i64) (ePair (eInt .i64) (ePair (eInt .i64) (eInt .i64))))) w8 (i:=0) (j:=2) (p:=p4) rfl rfl c8 (ix_len g4 ((st_len e7).trans (st_len e5))) i4 e9 rfl rfl (fun _ h=>by obtain ⟨_,_,rfl,rfl,_,_,rfl,rfl,_,_,rfl,rfl,_,_,rfl,rfl,rfl⟩:=h; exact ⟨[_],_,rfl,rfl,[_],_,rfl,rfl,[_],_,rfl,rfl,[_],_,rfl,rfl,rfl⟩) fun H10 k10 w10 s10 c10=>?_
   dsimp only [List.set] at w10 s10 c10
   obtain ⟨l11,e11,hp⟩:=bind_some' hp
   refine sto_k (ePair (eInt .i64) (ePair (eInt .i64) (ePair (eInt .i64) (ePair (eInt .i64) (eInt .i64))))) w10 (i:=0) (j:=3) (p:=p4) rfl rfl c10 (ix_len g4 (((st_len e9).trans (st_len e7)).trans (st_len e5))) i4 e11 rfl rfl (fun _ h=>by obtain ⟨_,_,rfl,rfl,_,_,rfl,rfl,_,_,rfl,rfl,_,_,rfl,rfl,rfl⟩:=h; exact ⟨[_],_,rfl,rfl,[_],_,rfl,rfl,[_],_,rfl,rfl,[_],_,rfl,rfl,rfl⟩) fun H12 k12 w12 s12 c12=>?_
   dsimp only [List.set] at w12 s12 c12
   obtain ⟨l13,e13,hp⟩:=bind_some' hp
   refine sto_k (ePair (eInt .i64) (ePair (eInt .i64) (ePair (eInt .i64) (ePair (eInt .i64) (eInt .i64))))) w12 (i:=0) (j:=4) (p:=p4) rfl rfl c12 (ix_len g4 ((((st_len e11).trans (st_len e9)).trans (st_len e7)).trans (st_len e5))) i4 e13 rfl rfl (fun _ h=>by obtain ⟨_,_,rfl,rfl,_,_,rfl,rfl,_,_,rfl,rfl,_,_,rfl,rfl,rfl⟩:=h; exact ⟨[_],_,rfl,rfl,[_],_,rfl,rfl,[_],_,rfl,rfl,[_],_,rfl,rfl,rfl⟩) fun H14 k14 w14 s14 c14=>?_
   dsimp only [List.set] at w14 s14 c14
   exact ih rfl (((((st_len e5).symm.trans (st_len e7).symm).trans (st_len e9).symm).trans (st_len e11).symm).trans (st_len e13).symm) ⟨w14,(s0.trans (s3.trans (s6.trans (s8.trans (s10.trans (s12.trans s14)))))),(eL.step (s3.trans (s6.trans (s8.trans (s10.trans (s12.trans s14)))))),c14⟩ hp
  ·replace hp:=bif_f hb hp
   obtain rfl:=Option.some.inj hp
   exact ⟨_,_,rfl,_,_,_,_,rfl,rfl,w0,s0,tF⟩
def aR.p (F:Nat) (ad:List (Int×Int×Int×Int×Int)):Option ((List (Int×Int×Int×Int×Int))):=(mkn (ad.length:Int) ((0:Int),(0:Int),(0:Int),(0:Int),(0:Int))).bind fun l1=>aR.pl29 F F ad l1 0
theorem aR.P {F:Nat} {av:ON} {aj:Nat} {aw:Cap} {ad:List (Int×Int×Int×Int×Int)} {H:Hp} {R0:List Rs} (ba:aj = ad.length) (h0:Inn H R0 fun R=>ROs (ePair (eInt .i64) (ePair (eInt .i64) (ePair (eInt .i64) (ePair (eInt .i64) (eInt .i64))))) H R ⟨av,aj,aw⟩ ad) {r:(List (Int×Int×Int×Int×Int))} (hp:aR.p F ad = some r):∃ v H',aR.tw F ⟨av,aj,aw⟩ H = some (v,H')∧aR.Q H R0 R0  r v H':=by
 obtain ⟨w0,aL⟩:=h0
 subst ba
 unfold aR.p at hp
 unfold aR.tw aR.twX
 have s0:=w0.rf
 obtain ⟨l1,e1,hp⟩:=bind_some' hp
 refine mk_k (ePair (eInt .i64) (ePair (eInt .i64) (ePair (eInt .i64) (ePair (eInt .i64) (eInt .i64))))) ((0:Int),(0:Int),(0:Int),(0:Int),(0:Int)) w0 ⟨[_],_,rfl,rfl,⟨[_],_,rfl,rfl,⟨[_],_,rfl,rfl,⟨[_],_,rfl,rfl,rfl⟩⟩⟩⟩ rfl rfl e1 fun H2 k2 w2 s2 c2=>?_
 exact aR.l29_P F rfl rfl ⟨w2,(s0.trans s2),(aL.step s2),c2⟩ hp
def bp.Q (H0:Hp) (Ri R0:List Rs)  (r:(List (Int×Int×Int×Int×Int))×Int) (v:AV) (H':Hp):Prop:=∃ o0a:ON,∃ o0n:Nat,∃ o0c:Cap,∃ o0k:List AV,v = (.agg [(.sl ⟨o0a,o0n,o0c⟩),(.int .i64 r.2)])∧o0n = (r.1).length∧Out H0 Ri H' (Rs.own ⟨o0a,o0n,o0c⟩ (ePair (eInt .i64) (ePair (eInt .i64) (ePair (eInt .i64) (ePair (eInt .i64) (eInt .i64))))).z o0k :: R0) fun R=>CR (ePair (eInt .i64) (ePair (eInt .i64) (ePair (eInt .i64) (ePair (eInt .i64) (eInt .i64))))) H' R o0k (r.1)
def bp.p (F:Nat) (ad:List (Int×Int×Int×Int×Int)) (ab:Int):Option ((List (Int×Int×Int×Int×Int))×Int):=(aR.p F ad).bind fun r4=>some (r4,ab)
theorem bp.P {F:Nat} {av:ON} {aj:Nat} {aw:Cap} {ad:List (Int×Int×Int×Int×Int)} {ab:Int} {H:Hp} {R0:List Rs} (ba:aj = ad.length) (h0:Inn H R0 fun R=>ROs (ePair (eInt .i64) (ePair (eInt .i64) (ePair (eInt .i64) (ePair (eInt .i64) (eInt .i64))))) H R ⟨av,aj,aw⟩ ad) {r:(List (Int×Int×Int×Int×Int))×Int} (hp:bp.p F ad ab = some r):∃ v H',bp.tw F ⟨av,aj,aw⟩ ab H = some (v,H')∧bp.Q H R0 R0  r v H':=by
 obtain ⟨w0,aL⟩:=h0
 subst ba
 unfold bp.p at hp
 unfold bp.tw bp.twX
 have s0:=w0.rf
 refine new_k w0 fun H1 w1 s1=>?_
 refine new_k w1 fun H2 w2 s2=>?_
 refine new_k w2 fun H3 w3 s3=>?_
 refine bind_ex (ldSl_of (w3.ld (i:=2) rfl rfl)) ?_
 obtain ⟨r4,e4,hp⟩:=bind_some' hp
 refine call_ex (aR.P rfl ⟨w3,(aL.step (s1.trans (s2.trans s3)))⟩ e4) ?_
 rintro _ H5 ⟨o0a_5,o0n_5,o0c_5,o0k_5,rfl,rfl,w5,s5,f5_0⟩
 refine bind_ex rfl ?_
 refine st_k w5 (i:=1) rfl rfl rfl fun H6 w6 s6=>?_
 dsimp only [List.set] at w6 s6
 refine bind_ex (ldI_of (w6.ld (i:=3) rfl rfl)) ?_
 refine st_k w6 (i:=1) rfl rfl rfl fun H7 w7 s7=>?_
 dsimp only [List.set] at w7 s7
 refine bind_ex (ldSl_of (w7.ld (i:=1) rfl rfl)) ?_
 refine bind_ex (ldI_of (w7.ld (i:=1) rfl rfl)) ?_
 refine st_k w7 (i:=2) rfl rfl rfl fun H8 w8 s8=>?_
 dsimp only [List.set] at w8 s8
 refine st_k w8 (i:=2) rfl rfl rfl fun H9 w9 s9=>?_
 dsimp only [List.set] at w9 s9
 refine bind_ex (ldSl_of (w9.ld (i:=2) rfl rfl)) ?_
 refine bind_ex (ldI_of (w9.ld (i:=2) rfl rfl)) ?_
 obtain ⟨w10,s10⟩:=w9.pick' [0] 4 rfl rfl rfl
 dsimp only [pk,pks,nth,List.drop] at w10 s10
 obtain rfl:=Option.some.inj hp
 exact ⟨_,_,rfl,_,_,_,_,rfl,rfl,w10,(s0.trans (s1.trans (s2.trans (s3.trans (s5.trans (s6.trans (s7.trans (s8.trans (s9.trans s10))))))))),(f5_0.step (s6.trans (s7.trans (s8.trans (s9.trans s10)))))⟩
def bh.Q (H0:Hp) (Ri R0:List Rs)  (r:Bool) (v:AV) (H':Hp):Prop:=v = (.bool r)∧Out H0 Ri H' (R0) fun R=>True
def bh.p (F:Nat) (aa:Int) (ae:Int) (bN:Int):Option (Bool):=(bif (decide (aa ≥ ae)) then (some (decide (aa ≤ bN))) else (some false))
theorem bh.P {F:Nat} {aa ae bN:Int} {H:Hp} {R0:List Rs}  (h0:Inn H R0 fun R=>True) {r:Bool} (hp:bh.p F aa ae bN = some r):∃ v H',bh.tw F aa ae bN H = some (v,H')∧bh.Q H R0 R0  r v H':=by
 obtain ⟨w0,_⟩:=h0
 unfold bh.p at hp
 unfold bh.tw bh.twX
 have s0:=w0.rf
 refine bif_ex (fun hb=>?_) (fun hb=>?_)
 ·replace hp:=bif_t hb hp
  obtain rfl:=Option.some.inj hp
  exact ⟨_,_,rfl,rfl,w0,s0,trivial⟩
 ·replace hp:=bif_f hb hp
  obtain rfl:=Option.some.inj hp
  exact ⟨_,_,rfl,rfl,w0,s0,trivial⟩
def aX.Q (H0:Hp) (Ri R0:List Rs)  (r:Int) (v:AV) (H':Hp):Prop:=v = (.int .i64 r)∧Out H0 Ri H' (R0) fun R=>True
def aX.p (F:Nat) (aa:Int) (ab:Int) (aA:Int) (aB:Int) (bd:Int):Option (Int):=(ix ([aa,ab,aA,aB]:List Int) bd).bind fun n3=>some (gt ([aa,ab,aA,aB]:List Int) n3)
theorem aX.P {F:Nat} {aa ab aA aB az bd:Int} {H:Hp} {R0:List Rs}  (h0:Inn H R0 fun R=>True) {r:Int} (hp:aX.p F aa ab aA aB bd = some r):∃ v H',aX.tw F aa ab aA aB az bd H = some (v,H')∧aX.Q H R0 R0  r v H':=by
 obtain ⟨w0,_⟩:=h0
 unfold aX.p at hp
 unfold aX.tw aX.twX
 have s0:=w0.rf
 refine new_k w0 fun H1 w1 s1=>?_
 refine bind_ex (ldI_of (w1.ld (i:=0) rfl rfl)) ?_
 refine bind_ex (ldI_of (w1.ld (i:=0) rfl rfl)) ?_
 refine bind_ex (ldI_of (w1.ld (i:=0) rfl rfl)) ?_
 refine bind_ex (ldI_of (w1.ld (i:=0) rfl rfl)) ?_
 refine newS_k (eInt .i64) w1 (n:=4) (l:=([aa,ab,aA,aB]:List Int)) rfl (CR.cons1 rfl (CR.cons1 rfl (CR.cons1 rfl (CR.cons1 rfl CR.empty)))) rfl fun H2 w2 s2 c2=>?_
 obtain ⟨n3,g3,hp⟩:=bind_some' hp
 obtain ⟨p3,q3,i3,h3,j3⟩:=W.ixo (E:=(eInt .i64)) w2 (i:=0) rfl rfl c2 g3
 refine bind_ex i3 ?_
 have h3:_ = [_]:=h3
 subst h3
 refine bind_ex (ldI_of (j3 0 _ rfl)) ?_
 obtain ⟨w4,s4⟩:=w2.pick' [] 2 rfl rfl rfl
 dsimp only [pk,pks,nth,List.drop] at w4 s4
 obtain rfl:=Option.some.inj hp
 exact ⟨_,_,rfl,rfl,w4,(s0.trans (s1.trans (s2.trans s4))),trivial⟩
def aY.Q (H0:Hp) (Ri R0:List Rs)  (r:Bool) (v:AV) (H':Hp):Prop:=v = (.bool r)∧Out H0 Ri H' (R0) fun R=>True
def aY.p (F:Nat) (az:Int) (bd:Int):Option (Bool):=(bif (bd == 0) then (some true) else ((bif (bd == 3) then ((bif (az == 1) then (some true) else ((bif (bd == 1) then (some (az == (-1))) else (some false))))) else ((bif (bd == 1) then (some (az == (-1))) else (some false))))))
theorem aY.P {F:Nat} {aa ab aA aB az bd:Int} {H:Hp} {R0:List Rs}  (h0:Inn H R0 fun R=>True) {r:Bool} (hp:aY.p F az bd = some r):∃ v H',aY.tw F aa ab aA aB az bd H = some (v,H')∧aY.Q H R0 R0  r v H':=by
 obtain ⟨w0,_⟩:=h0
 unfold aY.p at hp
 unfold aY.tw aY.twX
 have s0:=w0.rf
 refine new_k w0 fun H1 w1 s1=>?_
 refine bif_ex (fun hb=>?_) (fun hb=>?_)
 ·replace hp:=bif_t hb hp
  obtain ⟨w2,s2⟩:=w1.pick' [] 1 rfl rfl rfl
  dsimp only [pk,pks,nth,List.drop] at w2 s2
  obtain rfl:=Option.some.inj hp
  exact ⟨_,_,rfl,rfl,w2,(s0.trans (s1.trans s2)),trivial⟩
 ·replace hp:=bif_f hb hp
  refine bif_ex (fun hb=>?_) (fun hb=>?_)
  ·replace hp:=bif_t hb hp
   refine bind_ex (ldI_of (w1.ld (i:=0) rfl rfl)) ?_
   refine bif_ex (fun hb=>?_) (fun hb=>?_)
   ·replace hp:=bif_t hb hp
    obtain ⟨w3,s3⟩:=w1.pick' [] 1 rfl rfl rfl
    dsimp only [pk,pks,nth,List.drop] at w3 s3
    obtain rfl:=Option.some.inj hp
    exact ⟨_,_,rfl,rfl,w3,(s0.trans (s1.trans s3)),trivial⟩
   ·replace hp:=bif_f hb hp
    refine bif_ex (fun hb=>?_) (fun hb=>?_)
    ·replace hp:=bif_t hb hp
     refine bind_ex (ldI_of (w1.ld (i:=0) rfl rfl)) ?_
     obtain ⟨w4,s4⟩:=w1.pick' [] 1 rfl rfl rfl
     dsimp only [pk,pks,nth,List.drop] at w4 s4
     obtain rfl:=Option.some.inj hp
     exact ⟨_,_,rfl,rfl,w4,(s0.trans (s1.trans s4)),trivial⟩
    ·replace hp:=bif_f hb hp
     obtain ⟨w5,s5⟩:=w1.pick' [] 1 rfl rfl rfl
     dsimp only [pk,pks,nth,List.drop] at w5 s5
     obtain rfl:=Option.some.inj hp
     exact ⟨_,_,rfl,rfl,w5,(s0.trans (s1.trans s5)),trivial⟩
  ·replace hp:=bif_f hb hp
   refine bif_ex (fun hb=>?_) (fun hb=>?_)
   ·replace hp:=bif_t hb hp
    refine bind_ex (ldI_of (w1.ld (i:=0) rfl rfl)) ?_
    obtain ⟨w6,s6⟩:=w1.pick' [] 1 rfl rfl rfl
    dsimp only [pk,pks,nth,List.drop] at w6 s6
    obtain rfl:=Option.some.inj hp
    exact ⟨_,_,rfl,rfl,w6,(s0.trans (s1.trans s6)),trivial⟩
   ·replace hp:=bif_f hb hp
    obtain ⟨w7,s7⟩:=w1.pick' [] 1 rfl rfl rfl
    dsimp only [pk,pks,nth,List.drop] at w7 s7
    obtain rfl:=Option.some.inj hp
    exact ⟨_,_,rfl,rfl,w7,(s0.trans (s1.trans s7)),trivial⟩
def au.Q (H0:Hp) (Ri R0:List Rs)  (r:Bool) (v:AV) (H':Hp):Prop:=v = (.bool r)∧Out H0 Ri H' (R0) fun R=>True
def au.S61 (H0:Hp) (Ri R0:List Rs)  (C:Nat→Nat→Int→Sl→Sl→Int→Hp→OA) (pC:List (Int×Int×Int×Int×Int)→Int→List Bool→List Bool→Int→Option (Bool)):Prop:=∀ {iD iE pf:ON} {h_ bV ia ly:Nat} {iF iG pg:Cap} {cq:List (Int×Int×Int×Int×Int)} {jO cd dD:Int} {et jl:List Bool} {iH ph:List AV},∀ {H:Hp},h_ = cq.length→ia = et.length→ly = jl.length→(Out H0 Ri H (Rs.blk bV [.sl ⟨iD,h_,iF⟩,.int .i64 jO] :: Rs.own ⟨iE,ia,iG⟩ eBool.z iH :: Rs.own ⟨pf,ly,pg⟩ eBool.z ph :: R0) fun R=>ROs (ePair (eInt .i64) (ePair (eInt .i64) (ePair (eInt .i64) (ePair (eInt .i64) (eInt .i64))))) H R ⟨iD,h_,iF⟩ cq∧CR eBool H R iH et∧CR eBool H R ph jl)→∀ {r:Bool},pC cq cd et jl dD = some r→∃ v H',C bV 0 cd ⟨iE,ia,iG⟩ ⟨pf,ly,pg⟩ dD H = some (v,H')∧au.Q H0 Ri R0  r v H'
def au.S3927 (H0:Hp) (Ri R0:List Rs)  (C:Nat→Nat→Int→Sl→Sl→Int→Nat→Nat→Int→Hp→OA) (pC:List (Int×Int×Int×Int×Int)→Int→List Bool→List Bool→Int→Int→Int→Int→Int→Int→Int→Option (Bool)):Prop:=∀ {pi pj pl:ON} {lz dC lA lB cM:Nat} {pm po pp:Cap} {iI:List (Int×Int×Int×Int×Int)} {tG cJ cg jm jn jo jp jq cX:Int} {gQ gR:List Bool} {pq pr:List AV},∀ {H:Hp},lz = iI.length→lA = gQ.length→lB = gR.length→(Out H0 Ri H (Rs.blk dC [.sl ⟨pi,lz,pm⟩,.int .i64 tG] :: Rs.own ⟨pj,lA,po⟩ eBool.z pq :: Rs.own ⟨pl,lB,pp⟩ eBool.z pr :: Rs.blk cM [.int .i64 jm,.int .i64 jn,.int .i64 jo,.int .i64 jp,.int .i64 jq] :: R0) fun R=>ROs (ePair (eInt .i64) (ePair (eInt .i64) (ePair (eInt .i64) (ePair (eInt .i64) (eInt .i64))))) H R ⟨pi,lz,pm⟩ iI∧CR eBool H R pq gQ∧CR eBool H R pr gR)→∀ {r:Bool},pC iI cJ gQ gR cg jm jn jo jp jq cX = some r→∃ v H',C dC 0 cJ ⟨pj,lA,po⟩ ⟨pl,lB,pp⟩ cg cM 0 cX H = some (v,H')∧au.Q H0 Ri R0  r v H'
def au.pl3927 (F:Nat) (aO:List (Int×Int×Int×Int×Int)→Int→List Bool→List Bool→Int→Option (Bool)):Nat→List (Int×Int×Int×Int×Int)→Int→List Bool→List Bool→Int→Int→Int→Int→Int→Int→Int→Option (Bool)
 | 0,_,_,_,_,_,_,_,_,_,_,_=>none
 | k + 1,iI,cJ,gQ,gR,cg,jm,jn,jo,jp,jq,cX=>(bif (decide (cX < 4)) then ((aX.p F jm jn jo jp cX).bind fun r1=>(bh.p F r1 0 (IntKind.i64.wrap (cJ - 1))).bind fun r3=>(bif (!r3) then (some false) else ((aY.p F jq cX).bind fun r6=>(bif r6 then ((ix gQ r1).bind fun n8=>(bif (gt gQ n8) then (some false) else ((ix gQ r1).bind fun n10=>(some (gQ.set n10 true)).bind fun l11=>au.pl3927 F aO k iI cJ l11 gR cg jm jn jo jp jq (IntKind.i64.wrap (cX + 1))))) else ((ix gR r1).bind fun n13=>(bif (gt gR n13) then (some false) else ((ix gR r1).bind fun n15=>(some (gR.set n15 true)).bind fun l16=>au.pl3927 F aO k iI cJ gQ l16 cg jm jn jo jp jq (IntKind.i64.wrap (cX + 1))))))))) else (aO iI cJ gQ gR (IntKind.i64.wrap (cg + 1))))
termination_by structural n=>n
theorem au.l3927_P {F:Nat} {H0:Hp} {Ri R0:List Rs}  {C61_:Nat→Nat→Int→Sl→Sl→Int→Hp→OA} {aO:List (Int×Int×Int×Int×Int)→Int→List Bool→List Bool→Int→Option (Bool)} (hC61:au.S61 H0 Ri R0  C61_ aO):∀ k,au.S3927 H0 Ri R0  (au.l3927 F (aX.tw F) (bh.tw F) (aY.tw F) C61_ k) (au.pl3927 F aO k):=by
 intro k
 induction k with
 | zero=>
  intro pi pj pl lz dC lA lB cM pm po pp iI tG cJ cg jm jn jo jp jq cX gQ gR pq pr H wm wo wp h0 r hp
  exact nomatch (show (none:Option (Bool)) = some r from hp)
 | succ k ih=>
  intro pi pj pl lz dC lA lB cM pm po pp iI tG cJ cg jm jn jo jp jq cX gQ gR pq pr H wm wo wp h0 r hp
  obtain ⟨w0,s0,tH,lC,lD⟩:=h0
  subst wm
  subst wo
  subst wp
  unfold au.pl3927 at hp
  unfold au.l3927
  refine bif_ex (fun hb=>?_) (fun hb=>?_)
  ·replace hp:=bif_t hb hp
   refine bind_ex (ldI_of (w0.ld (i:=3) rfl rfl)) ?_
   refine bind_ex (ldI_of (w0.ld (i:=3) rfl rfl)) ?_
   refine bind_ex (ldI_of (w0.ld (i:=3) rfl rfl)) ?_
   refine bind_ex (ldI_of (w0.ld (i:=3) rfl rfl)) ?_
   refine bind_ex (ldI_of (w0.ld (i:=3) rfl rfl)) ?_
   obtain ⟨r1,e1,hp⟩:=bind_some' hp
   refine call_ex (aX.P ⟨w0,trivial⟩ e1) ?_
   rintro _ H2 ⟨rfl,w2,s2,_⟩
   refine bind_ex rfl ?_
   obtain ⟨r3,e3,hp⟩:=bind_some' hp
   refine call_ex (bh.P ⟨w2,trivial⟩ e3) ?_
   rintro _ H4 ⟨rfl,w4,s4,_⟩
   refine bind_ex rfl ?_
   refine bif_ex (fun hb=>?_) (fun hb=>?_)
   ·replace hp:=bif_t hb hp
    obtain ⟨w5,s5⟩:=w4.pick' [] 4 rfl rfl rfl
    dsimp only [pk,pks,nth,List.drop] at w5 s5
    obtain rfl:=Option.some.inj hp
    exact ⟨_,_,rfl,rfl,w5,(s0.trans (s2.trans (s4.trans s5))),trivial⟩
   ·replace hp:=bif_f hb hp
    refine bind_ex (ldI_of (w4.ld (i:=3) rfl rfl)) ?_
    refine bind_ex (ldI_of (w4.ld (i:=3) rfl rfl)) ?_
    refine bind_ex (ldI_of (w4.ld (i:=3) rfl rfl)) ?_
    refine bind_ex (ldI_of (w4.ld (i:=3) rfl rfl)) ?_
    refine bind_ex (ldI_of (w4.ld (i:=3) rfl rfl)) ?_
    obtain ⟨r6,e6,hp⟩:=bind_some' hp
    refine call_ex (aY.P ⟨w4,trivial⟩ e6) ?_
    rintro _ H7 ⟨rfl,w7,s7,_⟩
    refine bind_ex rfl ?_
    refine bif_ex (fun hb=>?_) (fun hb=>?_)
    ·replace hp:=bif_t hb hp
     obtain ⟨n8,g8,hp⟩:=bind_some' hp
     obtain ⟨p8,q8,i8,h8,j8⟩:=W.ixo (E:=eBool) w7 (i:=1) rfl rfl (lC.step (s2.trans (s4.trans s7))) g8
     refine bind_ex i8 ?_
     have h8:_ = [_]:=h8
     subst h8
     refine bind_ex (ldB_of (j8 0 _ rfl)) ?_
     refine bif_ex (fun hb=>?_) (fun hb=>?_)
     ·replace hp:=bif_t hb hp
      obtain ⟨w9,s9⟩:=w7.pick' [] 4 rfl rfl rfl
      dsimp only [pk,pks,nth,List.drop] at w9 s9
      obtain rfl:=Option.some.inj hp
      exact ⟨_,_,rfl,rfl,w9,(s0.trans (s2.trans (s4.trans (s7.trans s9)))),trivial⟩
     ·replace hp:=bif_f hb hp
      obtain ⟨n10,g10,hp⟩:=bind_some' hp
      obtain ⟨p10,q10,i10,h10,j10⟩:=W.ixo (E:=eBool) w7 (i:=1) rfl rfl (lC.step (s2.trans (s4.trans s7))) g10
      refine bind_ex i10 ?_
      obtain ⟨l11,e11,hp⟩:=bind_some' hp
      refine sto_k eBool w7 (i:=1) (j:=0) (p:=p10) rfl rfl (lC.step (s2.trans (s4.trans s7))) g10 i10 e11 rfl rfl (fun _ h=>by have h:_ = [_]:=h; subst h; exact rfl) fun H12 k12 w12 s12 c12=>?_
      dsimp only [List.set] at w12 s12 c12
      exact ih rfl ((st_len e11).symm) rfl ⟨w12,(s0.trans (s2.trans (s4.trans (s7.trans s12)))),(tH.step (s2.trans (s4.trans (s7.trans s12)))),c12,(lD.step (s2.trans (s4.trans (s7.trans s12))))⟩ hp
    ·replace hp:=bif_f hb hp
     obtain ⟨n13,g13,hp⟩:=bind_some' hp
     obtain ⟨p13,q13,i13,h13,j13⟩:=W.ixo (E:=eBool) w7 (i:=2) rfl rfl (lD.step (s2.trans (s4.trans s7))) g13
     refine bind_ex i13 ?_
     have h13:_ = [_]:=h13
     subst h13
     refine bind_ex (ldB_of (j13 0 _ rfl)) ?_
     refine bif_ex (fun hb=>?_) (fun hb=>?_)
     ·replace hp:=bif_t hb hp
      obtain ⟨w14,s14⟩:=w7.pick' [] 4 rfl rfl rfl
      dsimp only [pk,pks,nth,List.drop] at w14 s14
      obtain rfl:=Option.some.inj hp
      exact ⟨_,_,rfl,rfl,w14,(s0.trans (s2.trans (s4.trans (s7.trans s14)))),trivial⟩
     ·replace hp:=bif_f hb hp
      obtain ⟨n15,g15,hp⟩:=bind_some' hp
      obtain ⟨p15,q15,i15,h15,j15⟩:=W.ixo (E:=eBool) w7 (i:=2) rfl rfl (lD.step (s2.trans (s4.trans s7))) g15
      refine bind_ex i15 ?_
      obtain ⟨l16,e16,hp⟩:=bind_some' hp
      refine sto_k eBool w7 (i:=2) (j:=0) (p:=p15) rfl rfl (lD.step (s2.trans (s4.trans s7))) g15 i15 e16 rfl rfl (fun _ h=>by have h:_ = [_]:=h; subst h; exact rfl) fun H17 k17 w17 s17 c17=>?_
      dsimp only [List.set] at w17 s17 c17
      exact ih rfl rfl ((st_len e16).symm) ⟨w17,(s0.trans (s2.trans (s4.trans (s7.trans s17)))),(tH.step (s2.trans (s4.trans (s7.trans s17)))),(lC.step (s2.trans (s4.trans (s7.trans s17)))),c17⟩ hp
  ·replace hp:=bif_f hb hp
   obtain ⟨w18,s18⟩:=w0.pick' [0,1,2] 4 rfl rfl rfl
   dsimp only [pk,pks,nth,List.drop] at w18 s18
   exact hC61 rfl rfl rfl ⟨w18,(s0.trans s18),(tH.step s18),(lC.step s18),(lD.step s18)⟩ hp
def au.pl61 (F:Nat) :Nat→List (Int×Int×Int×Int×Int)→Int→List Bool→List Bool→Int→Option (Bool)
 | 0,_,_,_,_,_=>none
 | k + 1,cq,cd,et,jl,dD=>(bif (decide (dD < (cq.length:Int))) then ((ix cq dD).bind fun n1=>(bif (((gt cq n1).2.2.2.2) != 1) then ((bif (((gt cq n1).2.2.2.2) != (-1)) then (some false) else (au.pl3927 F (au.pl61 F k) F cq cd et jl dD ((gt cq n1).1) ((gt cq n1).2.1) ((gt cq n1).2.2.1) ((gt cq n1).2.2.2.1) ((gt cq n1).2.2.2.2) 0))) else (au.pl3927 F (au.pl61 F k) F cq cd et jl dD ((gt cq n1).1) ((gt cq n1).2.1) ((gt cq n1).2.2.1) ((gt cq n1).2.2.2.1) ((gt cq n1).2.2.2.2) 0))) else (some true))
termination_by structural n=>n
theorem au.l61_P {F:Nat} {H0:Hp} {Ri R0:List Rs}  :∀ k,au.S61 H0 Ri R0  (au.l61 F (aX.tw F) (bh.tw F) (aY.tw F)  k) (au.pl61 F  k):=by
 intro k
 induction k with
 | zero=>
  intro iD iE pf h_ bV ia ly iF iG pg cq jO cd dD et jl iH ph H lE lF wq h0 r hp
  exact nomatch (show (none:Option (Bool)) = some r from hp)
 | succ k ih=>
  intro iD iE pf h_ bV ia ly iF iG pg cq jO cd dD et jl iH ph H lE lF wq h0 r hp
  obtain ⟨w0,s0,lb,lc,wt⟩:=h0
  subst lE
  subst lF
  subst wq
  unfold au.pl61 at hp
  unfold au.l61
  refine bind_ex (ldSl_of (w0.ld (i:=0) rfl rfl)) ?_
  refine bif_ex (fun hb=>?_) (fun hb=>?_)
  ·replace hp:=bif_t hb hp
   refine bind_ex (ldSl_of (w0.ld (i:=0) rfl rfl)) ?_
   obtain ⟨n1,g1,hp⟩:=bind_some' hp
   obtain ⟨p1,q1,i1,h1,j1⟩:=ROs.ixr lb rfl g1
   refine bind_ex i1 ?_
   obtain ⟨_,_,rfl,rfl,_,_,rfl,rfl,_,_,rfl,rfl,_,_,rfl,rfl,rfl⟩:=h1
   refine bind_ex (ldI_of (j1 0 _ rfl)) ?_
   refine bind_ex (ldI_of (j1 1 _ rfl)) ?_
   refine bind_ex (ldI_of (j1 2 _ rfl)) ?_
   refine bind_ex (ldI_of (j1 3 _ rfl)) ?_
   refine bind_ex (ldI_of (j1 4 _ rfl)) ?_
   refine new_k w0 fun H2 w2 s2=>?_
   refine st_k w2 (i:=0) rfl rfl rfl fun H3 w3 s3=>?_
   dsimp only [List.set] at w3 s3
   refine st_k w3 (i:=0) rfl rfl rfl fun H4 w4 s4=>?_
   dsimp only [List.set] at w4 s4
   refine st_k w4 (i:=0) rfl rfl rfl fun H5 w5 s5=>?_
   dsimp only [List.set] at w5 s5
   refine st_k w5 (i:=0) rfl rfl rfl fun H6 w6 s6=>?_
   dsimp only [List.set] at w6 s6
   refine st_k w6 (i:=0) rfl rfl rfl fun H7 w7 s7=>?_
   dsimp only [List.set] at w7 s7
   refine bind_ex (ldI_of (w7.ld (i:=0) rfl rfl)) ?_
   refine bif_ex (fun hb=>?_) (fun hb=>?_)
   ·replace hp:=bif_t hb hp
    refine bind_ex (ldI_of (w7.ld (i:=0) rfl rfl)) ?_
    refine bif_ex (fun hb=>?_) (fun hb=>?_)
    ·replace hp:=bif_t hb hp
     obtain ⟨w8,s8⟩:=w7.pick' [] 4 rfl rfl rfl
     dsimp only [pk,pks,nth,List.drop] at w8 s8
     obtain rfl:=Option.some.inj hp
     exact ⟨_,_,rfl,rfl,w8,(s0.trans (s2.trans (s3.trans (s4.trans (s5.trans (s6.trans (s7.trans s8))))))),trivial⟩
    ·replace hp:=bif_f hb hp
     obtain ⟨w9,s9⟩:=w7.pick' [1,2,3,0] 4 rfl rfl rfl
     dsimp only [pk,pks,nth,List.drop] at w9 s9
     exact au.l3927_P (@ih) F rfl rfl rfl ⟨w9,(s0.trans (s2.trans (s3.trans (s4.trans (s5.trans (s6.trans (s7.trans s9))))))),(lb.step (s2.trans (s3.trans (s4.trans (s5.trans (s6.trans (s7.trans s9))))))),(lc.step (s2.trans (s3.trans (s4.trans (s5.trans (s6.trans (s7.trans s9))))))),(wt.step (s2.trans (s3.trans (s4.trans (s5.trans (s6.trans (s7.trans s9)))))))⟩ hp
   ·replace hp:=bif_f hb hp
    obtain ⟨w10,s10⟩:=w7.pick' [1,2,3,0] 4 rfl rfl rfl
    dsimp only [pk,pks,nth,List.drop] at w10 s10
    exact au.l3927_P (@ih) F rfl rfl rfl ⟨w10,(s0.trans (s2.trans (s3.trans (s4.trans (s5.trans (s6.trans (s7.trans s10))))))),(lb.step (s2.trans (s3.trans (s4.trans (s5.trans (s6.trans (s7.trans s10))))))),(lc.step (s2.trans (s3.trans (s4.trans (s5.trans (s6.trans (s7.trans s10))))))),(wt.step (s2.trans (s3.trans (s4.trans (s5.trans (s6.trans (s7.trans s10)))))))⟩ hp
  ·replace hp:=bif_f hb hp
   obtain ⟨w11,s11⟩:=w0.pick' [] 3 rfl rfl rfl
   dsimp only [pk,pks,nth,List.drop] at w11 s11
   obtain rfl:=Option.some.inj hp
   exact ⟨_,_,rfl,rfl,w11,(s0.trans s11),trivial⟩
def au.p (F:Nat) (ad:List (Int×Int×Int×Int×Int)):Option (Bool):=(mkn (IntKind.i64.wrap (2 * (ad.length:Int))) false).bind fun l2=>(mkn (IntKind.i64.wrap (2 * (ad.length:Int))) false).bind fun l4=>au.pl61 F F ad (IntKind.i64.wrap (2 * (ad.length:Int))) l2 l4 0
theorem au.P {F:Nat} {av:ON} {aj:Nat} {aw:Cap} {ad:List (Int×Int×Int×Int×Int)} {ab:Int} {H:Hp} {R0:List Rs} (ba:aj = ad.length) (h0:Inn H R0 fun R=>ROs (ePair (eInt .i64) (ePair (eInt .i64) (ePair (eInt .i64) (ePair (eInt .i64) (eInt .i64))))) H R ⟨av,aj,aw⟩ ad) {r:Bool} (hp:au.p F ad = some r):∃ v H',au.tw F ⟨av,aj,aw⟩ ab H = some (v,H')∧au.Q H R0 R0  r v H':=by
 obtain ⟨w0,aL⟩:=h0
 subst ba
 unfold au.p at hp
 unfold au.tw au.twX
 have s0:=w0.rf
 refine new_k w0 fun H1 w1 s1=>?_
 refine bind_ex (ldSl_of (w1.ld (i:=0) rfl rfl)) ?_
 obtain ⟨l2,e2,hp⟩:=bind_some' hp
 refine mk_k eBool false w1 rfl rfl rfl e2 fun H3 k3 w3 s3 c3=>?_
 obtain ⟨l4,e4,hp⟩:=bind_some' hp
 refine mk_k eBool false w3 rfl rfl rfl e4 fun H5 k5 w5 s5 c5=>?_
 obtain ⟨w6,s6⟩:=w5.pick' [2,1,0] 3 rfl rfl rfl
 dsimp only [pk,pks,nth,List.drop] at w6 s6
 exact au.l61_P F rfl rfl rfl ⟨w6,(s0.trans (s1.trans (s3.trans (s5.trans s6)))),(aL.step (s1.trans (s3.trans (s5.trans s6)))),(c3.step (s5.trans s6)),(c5.step s6)⟩ hp
def ak.Q (H0:Hp) (Ri R0:List Rs)  (r:Int×Int) (v:AV) (H':Hp):Prop:=v = (.tup [(.int .i64 r.1),(.int .i64 r.2)])∧Out H0 Ri H' (R0) fun R=>True
def ak.S13 (H0:Hp) (Ri R0:List Rs)  (C:Int→Bool→Nat→Nat→Int→Hp→OA) (pC:Int→Bool→List (Int×Int×Int×Int×Int)→Int→Option (Int×Int)):Prop:=∀ {ck tI eP:Int} {eO:Bool} {ps:ON} {lG cv:Nat} {pt:Cap} {jr:List (Int×Int×Int×Int×Int)},∀ {H:Hp},lG = jr.length→(Out H0 Ri H (Rs.blk cv [.sl ⟨ps,lG,pt⟩,.int .i64 tI] :: R0) fun R=>ROs (ePair (eInt .i64) (ePair (eInt .i64) (ePair (eInt .i64) (ePair (eInt .i64) (eInt .i64))))) H R ⟨ps,lG,pt⟩ jr)→∀ {r:Int×Int},pC ck eO jr eP = some r→∃ v H',C ck eO cv 0 eP H = some (v,H')∧ak.Q H0 Ri R0  r v H'
def ak.S213 (H0:Hp) (Ri R0:List Rs)  (C:Int→Bool→Nat→Nat→Int→Int→Hp→OA) (pC:Int→Bool→List (Int×Int×Int×Int×Int)→Int→Int→Option (Int×Int)):Prop:=∀ {cO tJ cK cP:Int} {cT:Bool} {pu:ON} {lH eg:Nat} {pv:Cap} {fC:List (Int×Int×Int×Int×Int)},∀ {H:Hp},lH = fC.length→(Out H0 Ri H (Rs.blk eg [.sl ⟨pu,lH,pv⟩,.int .i64 tJ] :: R0) fun R=>ROs (ePair (eInt .i64) (ePair (eInt .i64) (ePair (eInt .i64) (ePair (eInt .i64) (eInt .i64))))) H R ⟨pu,lH,pv⟩ fC)→∀ {r:Int×Int},pC cO cT fC cK cP = some r→∃ v H',C cO cT eg 0 cK cP H = some (v,H')∧ak.Q H0 Ri R0  r v H'
def ak.pj3 (F:Nat) (fD:Int→Bool→List (Int×Int×Int×Int×Int)→Int→Option (Int×Int)) (jf:Int) (j_:Bool) (lI:List (Int×Int×Int×Int×Int)) (kb:Int):Option (Int×Int):=fD jf j_ lI (IntKind.i64.wrap (kb + 1))
theorem ak.j3_P {F:Nat} {H0:Hp} {Ri R0:List Rs}  {C13_:Int→Bool→Nat→Nat→Int→Hp→OA} {fD:Int→Bool→List (Int×Int×Int×Int×Int)→Int→Option (Int×Int)} (hC13:ak.S13 H0 Ri R0  C13_ fD) {jf Ej kb:Int} {j_:Bool} {wu:ON} {tK ka:Nat} {wv:Cap} {lI:List (Int×Int×Int×Int×Int)} {H:Hp} (Ek:tK = lI.length) (h0:Out H0 Ri H (Rs.blk ka [.sl ⟨wu,tK,wv⟩,.int .i64 Ej] :: R0) fun R=>ROs (ePair (eInt .i64) (ePair (eInt .i64) (ePair (eInt .i64) (ePair (eInt .i64) (eInt .i64))))) H R ⟨wu,tK,wv⟩ lI) {r:Int×Int} (hp:ak.pj3 F fD jf j_ lI kb = some r):∃ v H',ak.j3 F (aX.tw F) (aY.tw F) C13_ jf j_ ka 0 kb H = some (v,H')∧ak.Q H0 Ri R0  r v H':=by
 obtain ⟨w0,s0,El⟩:=h0
 subst Ek
 unfold ak.pj3 at hp
 unfold ak.j3
 exact hC13 rfl ⟨w0,s0,El⟩ hp
def ak.pj4 (F:Nat) (fD:Int→Bool→List (Int×Int×Int×Int×Int)→Int→Option (Int×Int)) (kd:Int) (ke:Bool) (lJ:List (Int×Int×Int×Int×Int)) (kf:Int):Option (Int×Int):=ak.pj3 F fD kd ke lJ kf
theorem ak.j4_P {F:Nat} {H0:Hp} {Ri R0:List Rs}  {C13_:Int→Bool→Nat→Nat→Int→Hp→OA} {fD:Int→Bool→List (Int×Int×Int×Int×Int)→Int→Option (Int×Int)} (hC13:ak.S13 H0 Ri R0  C13_ fD) {kd Em kf:Int} {ke:Bool} {ww:ON} {tL oS:Nat} {wx:Cap} {lJ:List (Int×Int×Int×Int×Int)} {H:Hp} (En:tL = lJ.length) (h0:Out H0 Ri H (Rs.blk oS [.sl ⟨ww,tL,wx⟩,.int .i64 Em] :: R0) fun R=>ROs (ePair (eInt .i64) (ePair (eInt .i64) (ePair (eInt .i64) (ePair (eInt .i64) (eInt .i64))))) H R ⟨ww,tL,wx⟩ lJ) {r:Int×Int} (hp:ak.pj4 F fD kd ke lJ kf = some r):∃ v H',ak.j4 F (aX.tw F) (aY.tw F) C13_ kd ke oS 0 kf H = some (v,H')∧ak.Q H0 Ri R0  r v H':=by
 obtain ⟨w0,s0,Eo⟩:=h0
 subst En
 unfold ak.pj4 at hp
 unfold ak.j4
 exact ak.j3_P (@hC13) rfl ⟨w0,s0,Eo⟩ hp
def ak.pl213 (F:Nat) (fD:Int→Bool→List (Int×Int×Int×Int×Int)→Int→Option (Int×Int)):Nat→Int→Bool→List (Int×Int×Int×Int×Int)→Int→Int→Option (Int×Int)
 | 0,_,_,_,_,_=>none
 | k + 1,cO,cT,fC,cK,cP=>(bif (decide (cP < 4)) then ((ix fC cK).bind fun n1=>(aX.p F ((gt fC n1).1) ((gt fC n1).2.1) ((gt fC n1).2.2.1) ((gt fC n1).2.2.2.1) cP).bind fun r2=>(bif (r2 == cO) then ((ix fC cK).bind fun n4=>(aY.p F ((gt fC n4).2.2.2.2) cP).bind fun r5=>(bif (r5 == cT) then (some (cK,cP)) else (ak.pl213 F fD k cO cT fC cK (IntKind.i64.wrap (cP + 1))))) else (ak.pl213 F fD k cO cT fC cK (IntKind.i64.wrap (cP + 1))))) else (ak.pj4 F fD cO cT fC cK))
termination_by structural n=>n
theorem ak.l213_P {F:Nat} {H0:Hp} {Ri R0:List Rs}  {C13_:Int→Bool→Nat→Nat→Int→Hp→OA} {fD:Int→Bool→List (Int×Int×Int×Int×Int)→Int→Option (Int×Int)} (hC13:ak.S13 H0 Ri R0  C13_ fD):∀ k,ak.S213 H0 Ri R0  (ak.l213 F (aX.tw F) (aY.tw F) C13_ k) (ak.pl213 F fD k):=by
 intro k
 induction k with
 | zero=>
  intro cO tJ cK cP cT pu lH eg pv fC H wy h0 r hp
  exact nomatch (show (none:Option (Int×Int)) = some r from hp)
 | succ k ih=>
  intro cO tJ cK cP cT pu lH eg pv fC H wy h0 r hp
  obtain ⟨w0,s0,lK⟩:=h0
  subst wy
  unfold ak.pl213 at hp
  unfold ak.l213
  refine bif_ex (fun hb=>?_) (fun hb=>?_)
  ·replace hp:=bif_t hb hp
   refine bind_ex (ldSl_of (w0.ld (i:=0) rfl rfl)) ?_
   obtain ⟨n1,g1,hp⟩:=bind_some' hp
   obtain ⟨p1,q1,i1,h1,j1⟩:=ROs.ixr lK rfl g1
   refine bind_ex i1 ?_
   obtain ⟨_,_,rfl,rfl,_,_,rfl,rfl,_,_,rfl,rfl,_,_,rfl,rfl,rfl⟩:=h1
   refine bind_ex (ldI_of (j1 0 _ rfl)) ?_
   refine bind_ex (ldI_of (j1 1 _ rfl)) ?_
   refine bind_ex (ldI_of (j1 2 _ rfl)) ?_
   refine bind_ex (ldI_of (j1 3 _ rfl)) ?_
   refine bind_ex (ldI_of (j1 4 _ rfl)) ?_
   obtain ⟨r2,e2,hp⟩:=bind_some' hp
   refine call_ex (aX.P ⟨w0,trivial⟩ e2) ?_
   rintro _ H3 ⟨rfl,w3,s3,_⟩
   refine bind_ex rfl ?_
   refine bif_ex (fun hb=>?_) (fun hb=>?_)
   ·replace hp:=bif_t hb hp
    refine bind_ex (ldSl_of (w3.ld (i:=0) rfl rfl)) ?_
    obtain ⟨n4,g4,hp⟩:=bind_some' hp
    obtain ⟨p4,q4,i4,h4,j4⟩:=ROs.ixr (lK.step s3) rfl g4
    refine bind_ex i4 ?_
    obtain ⟨_,_,rfl,rfl,_,_,rfl,rfl,_,_,rfl,rfl,_,_,rfl,rfl,rfl⟩:=h4
    refine bind_ex (ldI_of (j4 0 _ rfl)) ?_
    refine bind_ex (ldI_of (j4 1 _ rfl)) ?_
    refine bind_ex (ldI_of (j4 2 _ rfl)) ?_
    refine bind_ex (ldI_of (j4 3 _ rfl)) ?_
    refine bind_ex (ldI_of (j4 4 _ rfl)) ?_
    obtain ⟨r5,e5,hp⟩:=bind_some' hp
    refine call_ex (aY.P ⟨w3,trivial⟩ e5) ?_
    rintro _ H6 ⟨rfl,w6,s6,_⟩
    refine bind_ex rfl ?_
    refine bif_ex (fun hb=>?_) (fun hb=>?_)
    ·replace hp:=bif_t hb hp
     obtain ⟨w7,s7⟩:=w6.pick' [] 1 rfl rfl rfl
     dsimp only [pk,pks,nth,List.drop] at w7 s7
     obtain rfl:=Option.some.inj hp
     exact ⟨_,_,rfl,rfl,w7,(s0.trans (s3.trans (s6.trans s7))),trivial⟩
    ·replace hp:=bif_f hb hp
     exact ih rfl ⟨w6,(s0.trans (s3.trans s6)),(lK.step (s3.trans s6))⟩ hp
   ·replace hp:=bif_f hb hp
    exact ih rfl ⟨w3,(s0.trans s3),(lK.step s3)⟩ hp
  ·replace hp:=bif_f hb hp
   exact ak.j4_P (@hC13) rfl ⟨w0,s0,lK⟩ hp
def ak.pl13 (F:Nat) :Nat→Int→Bool→List (Int×Int×Int×Int×Int)→Int→Option (Int×Int)
 | 0,_,_,_,_=>none
 | k + 1,ck,eO,jr,eP=>(bif (decide (eP < (jr.length:Int))) then (ak.pl213 F (ak.pl13 F k) F ck eO jr eP 0) else (some ((-1),(-1))))
termination_by structural n=>n
theorem ak.l13_P {F:Nat} {H0:Hp} {Ri R0:List Rs}  :∀ k,ak.S13 H0 Ri R0  (ak.l13 F (aX.tw F) (aY.tw F)  k) (ak.pl13 F  k):=by
 intro k
 induction k with
 | zero=>
  intro ck tI eP eO ps lG cv pt jr H wz h0 r hp
  exact nomatch (show (none:Option (Int×Int)) = some r from hp)
 | succ k ih=>
  intro ck tI eP eO ps lG cv pt jr H wz h0 r hp
  obtain ⟨w0,s0,Er⟩:=h0
  subst wz
  unfold ak.pl13 at hp
  unfold ak.l13
  refine bind_ex (ldSl_of (w0.ld (i:=0) rfl rfl)) ?_
  refine bif_ex (fun hb=>?_) (fun hb=>?_)
  ·replace hp:=bif_t hb hp
   exact ak.l213_P (@ih) F rfl ⟨w0,s0,Er⟩ hp
  ·replace hp:=bif_f hb hp
   obtain ⟨w1,s1⟩:=w0.pick' [] 1 rfl rfl rfl
   dsimp only [pk,pks,nth,List.drop] at w1 s1
   obtain rfl:=Option.some.inj hp
   exact ⟨_,_,rfl,rfl,w1,(s0.trans s1),trivial⟩
def ak.p (F:Nat) (ad:List (Int×Int×Int×Int×Int)) (aq:Int) (fg:Bool):Option (Int×Int):=ak.pl13 F F aq fg ad 0
theorem ak.P {F:Nat} {av:ON} {aj:Nat} {aw:Cap} {ad:List (Int×Int×Int×Int×Int)} {ab aq:Int} {fg:Bool} {H:Hp} {R0:List Rs} (ba:aj = ad.length) (h0:Inn H R0 fun R=>ROs (ePair (eInt .i64) (ePair (eInt .i64) (ePair (eInt .i64) (ePair (eInt .i64) (eInt .i64))))) H R ⟨av,aj,aw⟩ ad) {r:Int×Int} (hp:ak.p F ad aq fg = some r):∃ v H',ak.tw F ⟨av,aj,aw⟩ ab aq fg H = some (v,H')∧ak.Q H R0 R0  r v H':=by
 obtain ⟨w0,aL⟩:=h0
 subst ba
 unfold ak.p at hp
 unfold ak.tw ak.twX
 have s0:=w0.rf
 refine new_k w0 fun H1 w1 s1=>?_
 exact ak.l13_P F rfl ⟨w1,(s0.trans s1),(aL.step s1)⟩ hp
def bt.Q (H0:Hp) (Ri R0:List Rs)  (r:Int) (v:AV) (H':Hp):Prop:=v = (.int .i64 r)∧Out H0 Ri H' (R0) fun R=>True
def bt.p (F:Nat) (ad:List (Int×Int×Int×Int×Int)) (aq:Int):Option (Int):=(ix ad (IntKind.i64.wrap (Int.tdiv aq 4))).bind fun n2=>(aX.p F ((gt ad n2).1) ((gt ad n2).2.1) ((gt ad n2).2.2.1) ((gt ad n2).2.2.2.1) (Int.tmod (IntKind.i64.wrap ((Int.tmod aq 4) + 1)) 4)).bind fun r9=>(aY.p F ((gt ad n2).2.2.2.2) (Int.tmod (IntKind.i64.wrap ((Int.tmod aq 4) + 1)) 4)).bind fun r12=>(ak.p F ad r9 (!r12)).bind fun r15=>some (IntKind.i64.wrap ((IntKind.i64.wrap (4 * r15.1)) + r15.2))
theorem bt.P {F:Nat} {av:ON} {aj:Nat} {aw:Cap} {ad:List (Int×Int×Int×Int×Int)} {ab aq:Int} {H:Hp} {R0:List Rs} (ba:aj = ad.length) (h0:Inn H R0 fun R=>ROs (ePair (eInt .i64) (ePair (eInt .i64) (ePair (eInt .i64) (ePair (eInt .i64) (eInt .i64))))) H R ⟨av,aj,aw⟩ ad) {r:Int} (hp:bt.p F ad aq = some r):∃ v H',bt.tw F ⟨av,aj,aw⟩ ab aq H = some (v,H')∧bt.Q H R0 R0  r v H':=by
 obtain ⟨w0,aL⟩:=h0
 subst ba
 unfold bt.p at hp
 unfold bt.tw bt.twX
 have s0:=w0.rf
 refine new_k w0 fun H1 w1 s1=>?_
 refine bind_ex (ldSl_of (w1.ld (i:=0) rfl rfl)) ?_
 obtain ⟨n2,g2,hp⟩:=bind_some' hp
 obtain ⟨p2,q2,i2,h2,j2⟩:=ROs.ixr (aL.step s1) rfl g2
 refine bind_ex i2 ?_
 obtain ⟨_,_,rfl,rfl,_,_,rfl,rfl,_,_,rfl,rfl,_,_,rfl,rfl,rfl⟩:=h2
 refine bind_ex (ldI_of (j2 0 _ rfl)) ?_
 refine bind_ex (ldI_of (j2 1 _ rfl)) ?_
 refine bind_ex (ldI_of (j2 2 _ rfl)) ?_
 refine bind_ex (ldI_of (j2 3 _ rfl)) ?_
 refine bind_ex (ldI_of (j2 4 _ rfl)) ?_
 refine new_k w1 fun H3 w3 s3=>?_
 refine st_k w3 (i:=0) rfl rfl rfl fun H4 w4 s4=>?_
 dsimp only [List.set] at w4 s4
 refine st_k w4 (i:=0) rfl rfl rfl fun H5 w5 s5=>?_
 dsimp only [List.set] at w5 s5
 refine st_k w5 (i:=0) rfl rfl rfl fun H6 w6 s6=>?_
 dsimp only [List.set] at w6 s6
 refine st_k w6 (i:=0) rfl rfl rfl fun H7 w7 s7=>?_
 dsimp only [List.set] at w7 s7
 refine st_k w7 (i:=0) rfl rfl rfl fun H8 w8 s8=>?_
 dsimp only [List.set] at w8 s8
 refine bind_ex (ldSl_of (w8.ld (i:=1) rfl rfl)) ?_
 refine bind_ex (ldI_of (w8.ld (i:=1) rfl rfl)) ?_
 refine bind_ex (ldI_of (w8.ld (i:=0) rfl rfl)) ?_
 refine bind_ex (ldI_of (w8.ld (i:=0) rfl rfl)) ?_
 refine bind_ex (ldI_of (w8.ld (i:=0) rfl rfl)) ?_
 refine bind_ex (ldI_of (w8.ld (i:=0) rfl rfl)) ?_
 refine bind_ex (ldI_of (w8.ld (i:=0) rfl rfl)) ?_
 obtain ⟨r9,e9,hp⟩:=bind_some' hp
 refine call_ex (aX.P ⟨w8,trivial⟩ e9) ?_
 rintro _ H10 ⟨rfl,w10,s10,_⟩
 refine bind_ex rfl ?_
 refine ifs_ex (W.cons_of (Rn:=[]) w8 w10 s10) ?_
 refine bind_ex (ldI_of (w10.ld (i:=0) rfl rfl)) ?_
 refine bind_ex (ldI_of (w10.ld (i:=0) rfl rfl)) ?_
 refine bind_ex (ldI_of (w10.ld (i:=0) rfl rfl)) ?_
 refine bind_ex (ldI_of (w10.ld (i:=0) rfl rfl)) ?_
 refine bind_ex (ldI_of (w10.ld (i:=0) rfl rfl)) ?_
 obtain ⟨r12,e12,hp⟩:=bind_some' hp
 refine call_ex (aY.P ⟨w10,trivial⟩ e12) ?_
 rintro _ H13 ⟨rfl,w13,s13,_⟩
 refine bind_ex rfl ?_
 refine ifs_ex (W.cons_of (Rn:=[]) w10 w13 s13) ?_
 obtain ⟨r15,e15,hp⟩:=bind_some' hp
 refine call_ex (ak.P rfl ⟨w13,(aL.step (s1.trans (s3.trans (s4.trans (s5.trans (s6.trans (s7.trans (s8.trans (s10.trans s13)))))))))⟩ e15) ?_
 rintro _ H16 ⟨rfl,w16,s16,_⟩
 refine bind_ex rfl ?_
 refine bind_ex rfl ?_
 refine bind_ex rfl ?_
 refine bind_ex rfl ?_
 refine bind_ex rfl ?_
 obtain ⟨w17,s17⟩:=w16.pick' [] 2 rfl rfl rfl
 dsimp only [pk,pks,nth,List.drop] at w17 s17
 obtain rfl:=Option.some.inj hp
 exact ⟨_,_,rfl,rfl,w17,(s0.trans (s1.trans (s3.trans (s4.trans (s5.trans (s6.trans (s7.trans (s8.trans (s10.trans (s13.trans (s16.trans s17))))))))))),trivial⟩
def ah.Q (H0:Hp) (Ri R0:List Rs)  (r:List (List Int)) (v:AV) (H':Hp):Prop:=∃ o0a:ON,∃ o0n:Nat,∃ o0c:Cap,∃ o0k:List AV,v = (.sl ⟨o0a,o0n,o0c⟩)∧o0n = (r).length∧Out H0 Ri H' (Rs.own ⟨o0a,o0n,o0c⟩ (eSl (eInt .i64)).z o0k :: R0) fun R=>CR (eSl (eInt .i64)) H' R o0k (r)
def ah.S61 (H0:Hp) (Ri R0:List Rs)  (C:Nat→Nat→Sl→Sl→Int→Hp→OA) (pC:List (Int×Int×Int×Int×Int)→List (List Int)→List Bool→Int→Option (List (List Int))):Prop:=∀ {iD pw iE:ON} {h_ bV lL ia:Nat} {iF px iG:Cap} {cq:List (Int×Int×Int×Int×Int)} {jO cb:Int} {iJ:List (List Int)} {py iH:List AV} {et:List Bool},∀ {H:Hp},h_ = cq.length→lL = iJ.length→ia = et.length→(Out H0 Ri H (Rs.blk bV [.sl ⟨iD,h_,iF⟩,.int .i64 jO] :: Rs.own ⟨pw,lL,px⟩ (eSl (eInt .i64)).z py :: Rs.own ⟨iE,ia,iG⟩ eBool.z iH :: R0) fun R=>ROs (ePair (eInt .i64) (ePair (eInt .i64) (ePair (eInt .i64) (ePair (eInt .i64) (eInt .i64))))) H R ⟨iD,h_,iF⟩ cq∧CR (eSl (eInt .i64)) H R py iJ∧CR eBool H R iH et)→∀ {r:List (List Int)},pC cq iJ et cb = some r→∃ v H',C bV 0 ⟨pw,lL,px⟩ ⟨iE,ia,iG⟩ cb H = some (v,H')∧ah.Q H0 Ri R0  r v H'
def ah.pj4 (F:Nat) (aO:List (Int×Int×Int×Int×Int)→List (List Int)→List Bool→Int→Option (List (List Int))) (lM:List (Int×Int×Int×Int×Int)) (lN:List (List Int)) (lO:List Bool) (kg:Int):Option (List (List Int)):=aO lM lN lO (IntKind.i64.wrap (kg + 1))
theorem ah.j4_P {F:Nat} {H0:Hp} {Ri R0:List Rs}  {C61_:Nat→Nat→Sl→Sl→Int→Hp→OA} {aO:List (Int×Int×Int×Int×Int)→List (List Int)→List Bool→Int→Option (List (List Int))} (hC61:ah.S61 H0 Ri R0  C61_ aO) {wA wB wC:ON} {tM oT tO tP:Nat} {wD wE wF:Cap} {lM:List (Int×Int×Int×Int×Int)} {Es kg:Int} {lN:List (List Int)} {wG wH:List AV} {lO:List Bool} {H:Hp} (Et:tM = lM.length) (Eu:tO = lN.length) (Ev:tP = lO.length) (h0:Out H0 Ri H (Rs.blk oT [.sl ⟨wA,tM,wD⟩,.int .i64 Es] :: Rs.own ⟨wB,tO,wE⟩ (eSl (eInt .i64)).z wG :: Rs.own ⟨wC,tP,wF⟩ eBool.z wH :: R0) fun R=>ROs (ePair (eInt .i64) (ePair (eInt .i64) (ePair (eInt .i64) (ePair (eInt .i64) (eInt .i64))))) H R ⟨wA,tM,wD⟩ lM∧CR (eSl (eInt .i64)) H R wG lN∧CR eBool H R wH lO) {r:List (List Int)} (hp:ah.pj4 F aO lM lN lO kg = some r):∃ v H',ah.j4 F (bt.tw F) C61_ oT 0 ⟨wB,tO,wE⟩ ⟨wC,tP,wF⟩ kg H = some (v,H')∧ah.Q H0 Ri R0  r v H':=by
 obtain ⟨w0,s0,Ew,Ex,Ey⟩:=h0
 subst Et
 subst Eu
 subst Ev
 unfold ah.pj4 at hp
 unfold ah.j4
 exact hC61 rfl rfl rfl ⟨w0,s0,Ew,Ex,Ey⟩ hp
def ah.S7853 (H0:Hp) (Ri R0:List Rs)  (C:Nat→Nat→Sl→Sl→Int→Sl→Int→Hp→OA) (pC:List (Int×Int×Int×Int×Int)→List (List Int)→List Bool→Int→List Int→Int→Option (List (List Int))):Prop:=∀ {pz pA pB pD:ON} {lP dE lQ lR lS:Nat} {pE pF pG pH:Cap} {iK:List (Int×Int×Int×Int×Int)} {tQ eh cY:Int} {js:List (List Int)} {pI pJ pK:List AV} {ib:List Bool} {jt:List Int},∀ {H:Hp},lP = iK.length→lQ = js.length→lR = ib.length→lS = jt.length→(Out H0 Ri H (Rs.blk dE [.sl ⟨pz,lP,pE⟩,.int .i64 tQ] :: Rs.own ⟨pA,lQ,pF⟩ (eSl (eInt .i64)).z pI :: Rs.own ⟨pB,lR,pG⟩ eBool.z pJ :: Rs.own ⟨pD,lS,pH⟩ (eInt .i64).z pK :: R0) fun R=>ROs (ePair (eInt .i64) (ePair (eInt .i64) (ePair (eInt .i64) (ePair (eInt .i64) (eInt .i64))))) H R ⟨pz,lP,pE⟩ iK∧CR (eSl (eInt .i64)) H R pI js∧CR eBool H R pJ ib∧CR (eInt .i64) H R pK jt)→∀ {r:List (List Int)},pC iK js ib eh jt cY = some r→∃ v H',C dE 0 ⟨pA,lQ,pF⟩ ⟨pB,lR,pG⟩ eh ⟨pD,lS,pH⟩ cY H = some (v,H')∧ah.Q H0 Ri R0  r v H'
def ah.pj5 (F:Nat) (aO:List (Int×Int×Int×Int×Int)→List (List Int)→List Bool→Int→Option (List (List Int))) (lT:List (Int×Int×Int×Int×Int)) (lU:List (List Int)) (lV:List Bool) (kh:Int):Option (List (List Int)):=aO lT lU lV (IntKind.i64.wrap (kh + 1))
theorem ah.j5_P {F:Nat} {H0:Hp} {Ri R0:List Rs}  {C61_:Nat→Nat→Sl→Sl→Int→Hp→OA} {aO:List (Int×Int×Int×Int×Int)→List (List Int)→List Bool→Int→Option (List (List Int))} (hC61:ah.S61 H0 Ri R0  C61_ aO) {wI wJ wK:ON} {tR oU tS tT:Nat} {wL wM wN:Cap} {lT:List (Int×Int×Int×Int×Int)} {Ez kh:Int} {lU:List (List Int)} {wO wP:List AV} {lV:List Bool} {H:Hp} (EA:tR = lT.length) (EB:tS = lU.length) (EC:tT = lV.length) (h0:Out H0 Ri H (Rs.blk oU [.sl ⟨wI,tR,wL⟩,.int .i64 Ez] :: Rs.own ⟨wJ,tS,wM⟩ (eSl (eInt .i64)).z wO :: Rs.own ⟨wK,tT,wN⟩ eBool.z wP :: R0) fun R=>ROs (ePair (eInt .i64) (ePair (eInt .i64) (ePair (eInt .i64) (ePair (eInt .i64) (eInt .i64))))) H R ⟨wI,tR,wL⟩ lT∧CR (eSl (eInt .i64)) H R wO lU∧CR eBool H R wP lV) {r:List (List Int)} (hp:ah.pj5 F aO lT lU lV kh = some r):∃ v H',ah.j5 F (bt.tw F) C61_ oU 0 ⟨wJ,tS,wM⟩ ⟨wK,tT,wN⟩ kh H = some (v,H')∧ah.Q H0 Ri R0  r v H':=by
 obtain ⟨w0,s0,ED,EE,EF⟩:=h0
 subst EA
 subst EB
 subst EC
 unfold ah.pj5 at hp
 unfold ah.j5
 exact hC61 rfl rfl rfl ⟨w0,s0,ED,EE,EF⟩ hp
def ah.pj6 (F:Nat) (aO:List (Int×Int×Int×Int×Int)→List (List Int)→List Bool→Int→Option (List (List Int))) (lW:List (Int×Int×Int×Int×Int)) (lX:List (List Int)) (lY:List Bool) (ki:Int) (jP:List Int):Option (List (List Int)):=(apn lX ([jP]:List (List Int))).bind fun l3=>ah.pj5 F aO lW l3 lY ki
theorem ah.j6_P {F:Nat} {H0:Hp} {Ri R0:List Rs}  {C61_:Nat→Nat→Sl→Sl→Int→Hp→OA} {aO:List (Int×Int×Int×Int×Int)→List (List Int)→List Bool→Int→Option (List (List Int))} (hC61:ah.S61 H0 Ri R0  C61_ aO) {wQ wR wS wT:ON} {tU oV tV tW tX:Nat} {wU wV wW wX:Cap} {lW:List (Int×Int×Int×Int×Int)} {EG ki:Int} {lX:List (List Int)} {wY wZ w_:List AV} {lY:List Bool} {jP:List Int} {H:Hp} (EH:tU = lW.length) (EI:tV = lX.length) (EJ:tW = lY.length) (EK:tX = jP.length) (h0:Out H0 Ri H (Rs.blk oV [.sl ⟨wQ,tU,wU⟩,.int .i64 EG] :: Rs.own ⟨wR,tV,wV⟩ (eSl (eInt .i64)).z wY :: Rs.own ⟨wS,tW,wW⟩ eBool.z wZ :: Rs.own ⟨wT,tX,wX⟩ (eInt .i64).z w_ :: R0) fun R=>ROs (ePair (eInt .i64) (ePair (eInt .i64) (ePair (eInt .i64) (ePair (eInt .i64) (eInt .i64))))) H R ⟨wQ,tU,wU⟩ lW∧CR (eSl (eInt .i64)) H R wY lX∧CR eBool H R wZ lY∧CR (eInt .i64) H R w_ jP) {r:List (List Int)} (hp:ah.pj6 F aO lW lX lY ki jP = some r):∃ v H',ah.j6 F (bt.tw F) C61_ oV 0 ⟨wR,tV,wV⟩ ⟨wS,tW,wW⟩ ki ⟨wT,tX,wX⟩ H = some (v,H')∧ah.Q H0 Ri R0  r v H':=by
 obtain ⟨w0,s0,EL,EM,EN,EO⟩:=h0
 subst EH
 subst EI
 subst EJ
 subst EK
 unfold ah.pj6 at hp
 unfold ah.j6
 obtain ⟨w1,s1,f1⟩:=w0.frz (i:=3) (eInt .i64) rfl EO
 dsimp only [List.eraseIdx] at w1 s1 f1
 refine newS_k (eSl (eInt .i64)) w1 (n:=1) (l:=([jP]:List (List Int))) rfl (CR.cons1 ⟨_,rfl,f1⟩ CR.empty) rfl fun H2 w2 s2 c2=>?_
 refine bind_ex (w2.rowo (i:=0) rfl) ?_
 obtain ⟨l3,e3,hp⟩:=bind_some' hp
 refine app_k (eSl (eInt .i64)) w2 (i:=2) rfl rfl (EM.step (s1.trans s2)) c2 (show 1 = List.length ([jP]:List (List Int)) from rfl) rfl e3 fun a4 d4 H4 w4 s4 c4 x4=>?_
 dsimp only [List.set] at w4 s4 c4
 obtain ⟨w5,s5⟩:=w4.pick' [1,2,3] 4 rfl rfl rfl
 dsimp only [pk,pks,nth,List.drop] at w5 s5
 exact ah.j5_P (@hC61) rfl rfl rfl ⟨w5,(s0.trans (s1.trans (s2.trans (s4.trans s5)))),(EL.step (s1.trans (s2.trans (s4.trans s5)))),(c4.step s5),(EN.step (s1.trans (s2.trans (s4.trans s5))))⟩ hp
def ah.pl7853 (F:Nat) (aO:List (Int×Int×Int×Int×Int)→List (List Int)→List Bool→Int→Option (List (List Int))):Nat→List (Int×Int×Int×Int×Int)→List (List Int)→List Bool→Int→List Int→Int→Option (List (List Int))
 | 0,_,_,_,_,_,_=>none
 | k + 1,iK,js,ib,eh,jt,cY=>(ix ib cY).bind fun n1=>(bif (!(gt ib n1)) then ((ix ib cY).bind fun n2=>(some (ib.set n2 true)).bind fun l3=>(apn jt ([cY]:List Int)).bind fun l6=>(bt.p F iK cY).bind fun r8=>ah.pl7853 F aO k iK js l3 eh l6 r8) else (ah.pj6 F aO iK js ib eh jt))
termination_by structural n=>n
theorem ah.l7853_P {F:Nat} {H0:Hp} {Ri R0:List Rs}  {C61_:Nat→Nat→Sl→Sl→Int→Hp→OA} {aO:List (Int×Int×Int×Int×Int)→List (List Int)→List Bool→Int→Option (List (List Int))} (hC61:ah.S61 H0 Ri R0  C61_ aO):∀ k,ah.S7853 H0 Ri R0  (ah.l7853 F (bt.tw F) C61_ k) (ah.pl7853 F aO k):=by
 intro k
 induction k with
 | zero=>
  intro pz pA pB pD lP dE lQ lR lS pE pF pG pH iK tQ eh cY js pI pJ pK ib jt H xa xb xc xd h0 r hp
  exact nomatch (show (none:Option (List (List Int))) = some r from hp)
 | succ k ih=>
  intro pz pA pB pD lP dE lQ lR lS pE pF pG pH iK tQ eh cY js pI pJ pK ib jt H xa xb xc xd h0 r hp
  obtain ⟨w0,s0,tY,xe,pL,xf⟩:=h0
  subst xa
  subst xb
  subst xc
  subst xd
  unfold ah.pl7853 at hp
  unfold ah.l7853
  obtain ⟨n1,g1,hp⟩:=bind_some' hp
  obtain ⟨p1,q1,i1,h1,j1⟩:=W.ixo (E:=eBool) w0 (i:=2) rfl rfl pL g1
  refine bind_ex i1 ?_
  have h1:_ = [_]:=h1
  subst h1
  refine bind_ex (ldB_of (j1 0 _ rfl)) ?_
  refine bif_ex (fun hb=>?_) (fun hb=>?_)
  ·replace hp:=bif_t hb hp
   obtain ⟨n2,g2,hp⟩:=bind_some' hp
   obtain ⟨p2,q2,i2,h2,j2⟩:=W.ixo (E:=eBool) w0 (i:=2) rfl rfl pL g2
   refine bind_ex i2 ?_
   obtain ⟨l3,e3,hp⟩:=bind_some' hp
   refine sto_k eBool w0 (i:=2) (j:=0) (p:=p2) rfl rfl pL g2 i2 e3 rfl rfl (fun _ h=>by have h:_ = [_]:=h; subst h; exact rfl) fun H4 k4 w4 s4 c4=>?_
   dsimp only [List.set] at w4 s4 c4
   refine newS_k (eInt .i64) w4 (n:=1) (l:=([cY]:List Int)) rfl (CR.cons1 rfl CR.empty) rfl fun H5 w5 s5 c5=>?_
   refine bind_ex (w5.rowo (i:=0) rfl) ?_
   obtain ⟨l6,e6,hp⟩:=bind_some' hp
   refine app_k (eInt .i64) w5 (i:=4) rfl rfl (xf.step (s4.trans s5)) c5 (show 1 = List.length ([cY]:List Int) from rfl) rfl e6 fun a7 d7 H7 w7 s7 c7 x7=>?_
   dsimp only [List.set] at w7 s7 c7
   refine bind_ex (ldSl_of (w7.ld (i:=1) rfl rfl)) ?_
   refine bind_ex (ldI_of (w7.ld (i:=1) rfl rfl)) ?_
   obtain ⟨r8,e8,hp⟩:=bind_some' hp
   refine call_ex (bt.P rfl ⟨w7,(tY.step (s4.trans (s5.trans s7)))⟩ e8) ?_
   rintro _ H9 ⟨rfl,w9,s9,_⟩
   refine bind_ex rfl ?_
   obtain ⟨w10,s10⟩:=w9.pick' [1,2,3,4] 5 rfl rfl rfl
   dsimp only [pk,pks,nth,List.drop] at w10 s10
   exact ih rfl rfl ((st_len e3).symm) rfl ⟨w10,(s0.trans (s4.trans (s5.trans (s7.trans (s9.trans s10))))),(tY.step (s4.trans (s5.trans (s7.trans (s9.trans s10))))),(xe.step (s4.trans (s5.trans (s7.trans (s9.trans s10))))),(c4.step (s5.trans (s7.trans (s9.trans s10)))),(c7.step (s9.trans s10))⟩ hp
  ·replace hp:=bif_f hb hp
   exact ah.j6_P (@hC61) rfl rfl rfl rfl ⟨w0,s0,tY,xe,pL,xf⟩ hp
def ah.pl61 (F:Nat) :Nat→List (Int×Int×Int×Int×Int)→List (List Int)→List Bool→Int→Option (List (List Int))
 | 0,_,_,_,_=>none
 | k + 1,cq,iJ,et,cb=>(bif (decide (cb < (et.length:Int))) then ((ix et cb).bind fun n1=>(bif (gt et n1) then (ah.pj4 F (ah.pl61 F k) cq iJ et cb) else (ah.pl7853 F (ah.pl61 F k) F cq iJ et cb ([]:List Int) cb))) else (some iJ))
termination_by structural n=>n
theorem ah.l61_P {F:Nat} {H0:Hp} {Ri R0:List Rs}  :∀ k,ah.S61 H0 Ri R0  (ah.l61 F (bt.tw F)  k) (ah.pl61 F  k):=by
 intro k
 induction k with
 | zero=>
  intro iD pw iE h_ bV lL ia iF px iG cq jO cb iJ py iH et H lE xg lF h0 r hp
  exact nomatch (show (none:Option (List (List Int))) = some r from hp)
 | succ k ih=>
  intro iD pw iE h_ bV lL ia iF px iG cq jO cb iJ py iH et H lE xg lF h0 r hp
  obtain ⟨w0,s0,lb,tZ,lc⟩:=h0
  subst lE
  subst xg
  subst lF
  unfold ah.pl61 at hp
  unfold ah.l61
  refine bif_ex (fun hb=>?_) (fun hb=>?_)
  ·replace hp:=bif_t hb hp
   obtain ⟨n1,g1,hp⟩:=bind_some' hp
   obtain ⟨p1,q1,i1,h1,j1⟩:=W.ixo (E:=eBool) w0 (i:=2) rfl rfl lc g1
   refine bind_ex i1 ?_
   have h1:_ = [_]:=h1
   subst h1
   refine bind_ex (ldB_of (j1 0 _ rfl)) ?_
   refine bif_ex (fun hb=>?_) (fun hb=>?_)
   ·replace hp:=bif_t hb hp
    exact ah.j4_P (@ih) rfl rfl rfl ⟨w0,s0,lb,tZ,lc⟩ hp
   ·replace hp:=bif_f hb hp
    refine newS_k (eInt .i64) w0 (n:=0) (l:=([]:List Int)) rfl CR.empty rfl fun H2 w2 s2 c2=>?_
    obtain ⟨w3,s3⟩:=w2.pick' [1,2,3,0] 4 rfl rfl rfl
    dsimp only [pk,pks,nth,List.drop] at w3 s3
    exact ah.l7853_P (@ih) F rfl rfl rfl (show 0 = List.length ([]:List Int) from rfl) ⟨w3,(s0.trans (s2.trans s3)),(lb.step (s2.trans s3)),(tZ.step (s2.trans s3)),(lc.step (s2.trans s3)),(c2.step s3)⟩ hp
  ·replace hp:=bif_f hb hp
   obtain ⟨w4,s4⟩:=w0.pick' [1] 3 rfl rfl rfl
   dsimp only [pk,pks,nth,List.drop] at w4 s4
   obtain rfl:=Option.some.inj hp
   exact ⟨_,_,rfl,_,_,_,_,rfl,rfl,w4,(s0.trans s4),(tZ.step s4)⟩
def ah.p (F:Nat) (ad:List (Int×Int×Int×Int×Int)):Option (List (List Int)):=(mkn (IntKind.i64.wrap (4 * (ad.length:Int))) false).bind fun l3=>ah.pl61 F F ad ([]:List (List Int)) l3 0
theorem ah.P {F:Nat} {av:ON} {aj:Nat} {aw:Cap} {ad:List (Int×Int×Int×Int×Int)} {ab:Int} {H:Hp} {R0:List Rs} (ba:aj = ad.length) (h0:Inn H R0 fun R=>ROs (ePair (eInt .i64) (ePair (eInt .i64) (ePair (eInt .i64) (ePair (eInt .i64) (eInt .i64))))) H R ⟨av,aj,aw⟩ ad) {r:List (List Int)} (hp:ah.p F ad = some r):∃ v H',ah.tw F ⟨av,aj,aw⟩ ab H = some (v,H')∧ah.Q H R0 R0  r v H':=by
 obtain ⟨w0,aL⟩:=h0
 subst ba
 unfold ah.p at hp
 unfold ah.tw ah.twX
 have s0:=w0.rf
 refine new_k w0 fun H1 w1 s1=>?_
 refine newS_k (eSl (eInt .i64)) w1 (n:=0) (l:=([]:List (List Int))) rfl CR.empty rfl fun H2 w2 s2 c2=>?_
 refine bind_ex (ldSl_of (w2.ld (i:=1) rfl rfl)) ?_
 obtain ⟨l3,e3,hp⟩:=bind_some' hp
 refine mk_k eBool false w2 rfl rfl rfl e3 fun H4 k4 w4 s4 c4=>?_
 obtain ⟨w5,s5⟩:=w4.pick' [2,1,0] 3 rfl rfl rfl
 dsimp only [pk,pks,nth,List.drop] at w5 s5
 exact ah.l61_P F rfl (show 0 = List.length ([]:List (List Int)) from rfl) rfl ⟨w5,(s0.trans (s1.trans (s2.trans (s4.trans s5)))),(aL.step (s1.trans (s2.trans (s4.trans s5)))),(c2.step (s4.trans s5)),(c4.step s5)⟩ hp
def af.Q (H0:Hp) (Ri R0:List Rs)  (r:List Int) (v:AV) (H':Hp):Prop:=∃ o0a:ON,∃ o0n:Nat,∃ o0c:Cap,∃ o0k:List AV,v = (.sl ⟨o0a,o0n,o0c⟩)∧o0n = (r).length∧Out H0 Ri H' (Rs.own ⟨o0a,o0n,o0c⟩ (eInt .i64).z o0k :: R0) fun R=>CR (eInt .i64) H' R o0k (r)
def af.S29 (H0:Hp) (Ri R0:List Rs)  (C:Nat→Nat→Sl→Int→Hp→OA) (pC:List (Int×Int×Int×Int×Int)→List Int→Int→Option (List Int)):Prop:=∀ {pM pN:ON} {lZ eR l_:Nat} {pO pP:Cap} {iL:List (Int×Int×Int×Int×Int)} {t_ dH:Int} {ju:List Int} {pQ:List AV},∀ {H:Hp},lZ = iL.length→l_ = ju.length→(Out H0 Ri H (Rs.blk eR [.sl ⟨pM,lZ,pO⟩,.int .i64 t_] :: Rs.own ⟨pN,l_,pP⟩ (eInt .i64).z pQ :: R0) fun R=>ROs (ePair (eInt .i64) (ePair (eInt .i64) (ePair (eInt .i64) (ePair (eInt .i64) (eInt .i64))))) H R ⟨pM,lZ,pO⟩ iL∧CR (eInt .i64) H R pQ ju)→∀ {r:List Int},pC iL ju dH = some r→∃ v H',C eR 0 ⟨pN,l_,pP⟩ dH H = some (v,H')∧af.Q H0 Ri R0  r v H'
def af.S61 (H0:Hp) (Ri R0:List Rs)  (C:Nat→Nat→Sl→Int→Hp→OA) (pC:List (Int×Int×Int×Int×Int)→List Int→Int→Option (List Int)):Prop:=∀ {pR pS:ON} {ma eb mb:Nat} {pT pU:Cap} {iw:List (Int×Int×Int×Int×Int)} {ua dG:Int} {gS:List Int} {pV:List AV},∀ {H:Hp},ma = iw.length→mb = gS.length→(Out H0 Ri H (Rs.blk eb [.sl ⟨pR,ma,pT⟩,.int .i64 ua] :: Rs.own ⟨pS,mb,pU⟩ (eInt .i64).z pV :: R0) fun R=>ROs (ePair (eInt .i64) (ePair (eInt .i64) (ePair (eInt .i64) (ePair (eInt .i64) (eInt .i64))))) H R ⟨pR,ma,pT⟩ iw∧CR (eInt .i64) H R pV gS)→∀ {r:List Int},pC iw gS dG = some r→∃ v H',C eb 0 ⟨pS,mb,pU⟩ dG H = some (v,H')∧af.Q H0 Ri R0  r v H'
def af.S7855 (H0:Hp) (Ri R0:List Rs)  (C:Nat→Nat→Sl→Int→Int→Int→Int→Hp→OA) (pC:List (Int×Int×Int×Int×Int)→List Int→Int→Int→Int→Int→Option (List Int)):Prop:=∀ {pW pX:ON} {mc ea md:Nat} {pY pZ:Cap} {iM:List (Int×Int×Int×Int×Int)} {ub dj cw cL cZ:Int} {gx:List Int} {p_:List AV},∀ {H:Hp},mc = iM.length→md = gx.length→(Out H0 Ri H (Rs.blk ea [.sl ⟨pW,mc,pY⟩,.int .i64 ub] :: Rs.own ⟨pX,md,pZ⟩ (eInt .i64).z p_ :: R0) fun R=>ROs (ePair (eInt .i64) (ePair (eInt .i64) (ePair (eInt .i64) (ePair (eInt .i64) (eInt .i64))))) H R ⟨pW,mc,pY⟩ iM∧CR (eInt .i64) H R p_ gx)→∀ {r:List Int},pC iM gx dj cw cL cZ = some r→∃ v H',C ea 0 ⟨pX,md,pZ⟩ dj cw cL cZ H = some (v,H')∧af.Q H0 Ri R0  r v H'
def af.pj8 (F:Nat) (qd:List (Int×Int×Int×Int×Int)→List Int→Int→Int→Int→Int→Option (List Int)) (mf:List (Int×Int×Int×Int×Int)) (mg:List Int) (kl:Int) (km:Int) (kn:Int) (ko:Int):Option (List Int):=qd mf mg kl km kn (IntKind.i64.wrap (ko + 1))
theorem af.j8_P {F:Nat} {H0:Hp} {Ri R0:List Rs}  {C7855_:Nat→Nat→Sl→Int→Int→Int→Int→Hp→OA} {qd:List (Int×Int×Int×Int×Int)→List Int→Int→Int→Int→Int→Option (List Int)} (hC7855:af.S7855 H0 Ri R0  C7855_ qd) {xh xi:ON} {uc oY ud:Nat} {xj xl:Cap} {mf:List (Int×Int×Int×Int×Int)} {EP kl km kn ko:Int} {mg:List Int} {xm:List AV} {H:Hp} (EQ:uc = mf.length) (ER:ud = mg.length) (h0:Out H0 Ri H (Rs.blk oY [.sl ⟨xh,uc,xj⟩,.int .i64 EP] :: Rs.own ⟨xi,ud,xl⟩ (eInt .i64).z xm :: R0) fun R=>ROs (ePair (eInt .i64) (ePair (eInt .i64) (ePair (eInt .i64) (ePair (eInt .i64) (eInt .i64))))) H R ⟨xh,uc,xj⟩ mf∧CR (eInt .i64) H R xm mg) {r:List Int} (hp:af.pj8 F qd mf mg kl km kn ko = some r):∃ v H',af.j8 F (ak.tw F) C7855_ oY 0 ⟨xi,ud,xl⟩ kl km kn ko H = some (v,H')∧af.Q H0 Ri R0  r v H':=by
 obtain ⟨w0,s0,ES,ET⟩:=h0
 subst EQ
 subst ER
 unfold af.pj8 at hp
 unfold af.j8
 exact hC7855 rfl rfl ⟨w0,s0,ES,ET⟩ hp
def af.pj6 (F:Nat) (aO:List (Int×Int×Int×Int×Int)→List Int→Int→Option (List Int)) (mh:List (Int×Int×Int×Int×Int)) (mi:List Int) (kj:Int):Option (List Int):=aO mh mi (IntKind.i64.wrap (kj + 1))
theorem af.j6_P {F:Nat} {H0:Hp} {Ri R0:List Rs}  {C61_:Nat→Nat→Sl→Int→Hp→OA} {aO:List (Int×Int×Int×Int×Int)→List Int→Int→Option (List Int)} (hC61:af.S61 H0 Ri R0  C61_ aO) {xn xo:ON} {ue oW ug:Nat} {xp xq:Cap} {mh:List (Int×Int×Int×Int×Int)} {EU kj:Int} {mi:List Int} {xt:List AV} {H:Hp} (EV:ue = mh.length) (EW:ug = mi.length) (h0:Out H0 Ri H (Rs.blk oW [.sl ⟨xn,ue,xp⟩,.int .i64 EU] :: Rs.own ⟨xo,ug,xq⟩ (eInt .i64).z xt :: R0) fun R=>ROs (ePair (eInt .i64) (ePair (eInt .i64) (ePair (eInt .i64) (ePair (eInt .i64) (eInt .i64))))) H R ⟨xn,ue,xp⟩ mh∧CR (eInt .i64) H R xt mi) {r:List Int} (hp:af.pj6 F aO mh mi kj = some r):∃ v H',af.j6 F (ak.tw F) C61_ oW 0 ⟨xo,ug,xq⟩ kj H = some (v,H')∧af.Q H0 Ri R0  r v H':=by
 obtain ⟨w0,s0,EX,EY⟩:=h0
 subst EV
 subst EW
 unfold af.pj6 at hp
 unfold af.j6
 exact hC61 rfl rfl ⟨w0,s0,EX,EY⟩ hp
def af.pj7 (F:Nat) (aO:List (Int×Int×Int×Int×Int)→List Int→Int→Option (List Int)) (mj:List (Int×Int×Int×Int×Int)) (ml:List Int) (jg:Int):Option (List Int):=af.pj6 F aO mj ml jg
theorem af.j7_P {F:Nat} {H0:Hp} {Ri R0:List Rs}  {C61_:Nat→Nat→Sl→Int→Hp→OA} {aO:List (Int×Int×Int×Int×Int)→List Int→Int→Option (List Int)} (hC61:af.S61 H0 Ri R0  C61_ aO) {xu xv:ON} {uh oX ui:Nat} {xw xx:Cap} {mj:List (Int×Int×Int×Int×Int)} {EZ jg:Int} {ml:List Int} {xy:List AV} {H:Hp} (E_:uh = mj.length) (Fa:ui = ml.length) (h0:Out H0 Ri H (Rs.blk oX [.sl ⟨xu,uh,xw⟩,.int .i64 EZ] :: Rs.own ⟨xv,ui,xx⟩ (eInt .i64).z xy :: R0) fun R=>ROs (ePair (eInt .i64) (ePair (eInt .i64) (ePair (eInt .i64) (ePair (eInt .i64) (eInt .i64))))) H R ⟨xu,uh,xw⟩ mj∧CR (eInt .i64) H R xy ml) {r:List Int} (hp:af.pj7 F aO mj ml jg = some r):∃ v H',af.j7 F (ak.tw F) C61_ oX 0 ⟨xv,ui,xx⟩ jg H = some (v,H')∧af.Q H0 Ri R0  r v H':=by
 obtain ⟨w0,s0,Fb,Fc⟩:=h0
 subst E_
 subst Fa
 unfold af.pj7 at hp
 unfold af.j7
 exact af.j6_P (@hC61) rfl rfl ⟨w0,s0,Fb,Fc⟩ hp
def af.pl7855 (F:Nat) (aO:List (Int×Int×Int×Int×Int)→List Int→Int→Option (List Int)):Nat→List (Int×Int×Int×Int×Int)→List Int→Int→Int→Int→Int→Option (List Int)
 | 0,_,_,_,_,_,_=>none
 | k + 1,iM,gx,dj,cw,cL,cZ=>(bif (decide (cZ < (gx.length:Int))) then ((ix gx cZ).bind fun n1=>(bif ((gt gx n1) == (if cL > cw then cL else cw)) then ((ix gx cZ).bind fun n2=>(some (gx.set n2 (if cL < cw then cL else cw))).bind fun l3=>af.pj8 F (af.pl7855 F aO k) iM l3 dj cw cL cZ) else (af.pj8 F (af.pl7855 F aO k) iM gx dj cw cL cZ))) else (af.pj7 F aO iM gx dj))
termination_by structural n=>n
theorem af.l7855_P {F:Nat} {H0:Hp} {Ri R0:List Rs}  {C61_:Nat→Nat→Sl→Int→Hp→OA} {aO:List (Int×Int×Int×Int×Int)→List Int→Int→Option (List Int)} (hC61:af.S61 H0 Ri R0  C61_ aO):∀ k,af.S7855 H0 Ri R0  (af.l7855 F (ak.tw F) C61_ k) (af.pl7855 F aO k):=by
 intro k
 induction k with
 | zero=>
  intro pW pX mc ea md pY pZ iM ub dj cw cL cZ gx p_ H xz xA h0 r hp
  exact nomatch (show (none:Option (List Int)) = some r from hp)
 | succ k ih=>
  intro pW pX mc ea md pY pZ iM ub dj cw cL cZ gx p_ H xz xA h0 r hp
  obtain ⟨w0,s0,uj,mm⟩:=h0
  subst xz
  subst xA
  unfold af.pl7855 at hp
  unfold af.l7855
  refine bif_ex (fun hb=>?_) (fun hb=>?_)
  ·replace hp:=bif_t hb hp
   obtain ⟨n1,g1,hp⟩:=bind_some' hp
   obtain ⟨p1,q1,i1,h1,j1⟩:=W.ixo (E:=(eInt .i64)) w0 (i:=1) rfl rfl mm g1
   refine bind_ex i1 ?_
   have h1:_ = [_]:=h1
   subst h1
   refine bind_ex (ldI_of (j1 0 _ rfl)) ?_
   refine bif_ex (fun hb=>?_) (fun hb=>?_)
   ·replace hp:=bif_t hb hp
    obtain ⟨n2,g2,hp⟩:=bind_some' hp
    obtain ⟨p2,q2,i2,h2,j2⟩:=W.ixo (E:=(eInt .i64)) w0 (i:=1) rfl rfl mm g2
    refine bind_ex i2 ?_
    obtain ⟨l3,e3,hp⟩:=bind_some' hp
    refine sto_k (eInt .i64) w0 (i:=1) (j:=0) (p:=p2) rfl rfl mm g2 i2 e3 rfl rfl (fun _ h=>by have h:_ = [_]:=h; subst h; exact rfl) fun H4 k4 w4 s4 c4=>?_
    dsimp only [List.set] at w4 s4 c4
    exact af.j8_P (@ih) rfl ((st_len e3).symm) ⟨w4,(s0.trans s4),(uj.step s4),c4⟩ hp
   ·replace hp:=bif_f hb hp
    exact af.j8_P (@ih) rfl rfl ⟨w0,s0,uj,mm⟩ hp
  ·replace hp:=bif_f hb hp
   exact af.j7_P (@hC61) rfl rfl ⟨w0,s0,uj,mm⟩ hp
def af.pl61 (F:Nat) :Nat→List (Int×Int×Int×Int×Int)→List Int→Int→Option (List Int)
 | 0,_,_,_=>none
 | k + 1,iw,gS,dG=>(bif (decide (dG < (IntKind.i64.wrap (2 * (iw.length:Int))))) then ((ak.p F iw dG true).bind fun r1=>(ak.p F iw dG false).bind fun r3=>(ix gS r1.1).bind fun n5=>(ix gS r3.1).bind fun n6=>af.pl7855 F (af.pl61 F k) F iw gS dG (gt gS n5) (gt gS n6) 0) else (some gS))
termination_by structural n=>n
theorem af.l61_P {F:Nat} {H0:Hp} {Ri R0:List Rs}  :∀ k,af.S61 H0 Ri R0  (af.l61 F (ak.tw F)  k) (af.pl61 F  k):=by
 intro k
 induction k with
 | zero=>
  intro pR pS ma eb mb pT pU iw ua dG gS pV H xB xC h0 r hp
  exact nomatch (show (none:Option (List Int)) = some r from hp)
 | succ k ih=>
  intro pR pS ma eb mb pT pU iw ua dG gS pV H xB xC h0 r hp
  obtain ⟨w0,s0,uk,qe⟩:=h0
  subst xB
  subst xC
  unfold af.pl61 at hp
  unfold af.l61
  refine bind_ex (ldSl_of (w0.ld (i:=0) rfl rfl)) ?_
  refine bif_ex (fun hb=>?_) (fun hb=>?_)
  ·replace hp:=bif_t hb hp
   refine bind_ex (ldSl_of (w0.ld (i:=0) rfl rfl)) ?_
   refine bind_ex (ldI_of (w0.ld (i:=0) rfl rfl)) ?_
   obtain ⟨r1,e1,hp⟩:=bind_some' hp
   refine call_ex (ak.P rfl ⟨w0,uk⟩ e1) ?_
   rintro _ H2 ⟨rfl,w2,s2,_⟩
   refine bind_ex rfl ?_
   refine bind_ex rfl ?_
   refine bind_ex rfl ?_
   refine bind_ex rfl ?_
   refine bind_ex rfl ?_
   refine bind_ex (ldSl_of (w2.ld (i:=0) rfl rfl)) ?_
   refine bind_ex (ldI_of (w2.ld (i:=0) rfl rfl)) ?_
   obtain ⟨r3,e3,hp⟩:=bind_some' hp
   refine call_ex (ak.P rfl ⟨w2,(uk.step s2)⟩ e3) ?_
   rintro _ H4 ⟨rfl,w4,s4,_⟩
   refine bind_ex rfl ?_
   refine bind_ex rfl ?_
   refine bind_ex rfl ?_
   refine bind_ex rfl ?_
   refine bind_ex rfl ?_
   obtain ⟨n5,g5,hp⟩:=bind_some' hp
   obtain ⟨p5,q5,i5,h5,j5⟩:=W.ixo (E:=(eInt .i64)) w4 (i:=1) rfl rfl (qe.step (s2.trans s4)) g5
   refine bind_ex i5 ?_
   have h5:_ = [_]:=h5
   subst h5
   refine bind_ex (ldI_of (j5 0 _ rfl)) ?_
   obtain ⟨n6,g6,hp⟩:=bind_some' hp
   obtain ⟨p6,q6,i6,h6,j6⟩:=W.ixo (E:=(eInt .i64)) w4 (i:=1) rfl rfl (qe.step (s2.trans s4)) g6
   refine bind_ex i6 ?_
   have h6:_ = [_]:=h6
   subst h6
   refine bind_ex (ldI_of (j6 0 _ rfl)) ?_
   exact af.l7855_P (@ih) F rfl rfl ⟨w4,(s0.trans (s2.trans s4)),(uk.step (s2.trans s4)),(qe.step (s2.trans s4))⟩ hp
  ·replace hp:=bif_f hb hp
   obtain ⟨w7,s7⟩:=w0.pick' [1] 2 rfl rfl rfl
   dsimp only [pk,pks,nth,List.drop] at w7 s7
   obtain rfl:=Option.some.inj hp
   exact ⟨_,_,rfl,_,_,_,_,rfl,rfl,w7,(s0.trans s7),(qe.step s7)⟩
def af.pj9 (F:Nat)  (mn:List (Int×Int×Int×Int×Int)) (mo:List Int):Option (List Int):=af.pl61 F F mn mo 0
theorem af.j9_P {F:Nat} {H0:Hp} {Ri R0:List Rs}   {xD xE:ON} {ul oZ um:Nat} {xF xG:Cap} {mn:List (Int×Int×Int×Int×Int)} {Fd:Int} {mo:List Int} {xH:List AV} {H:Hp} (Fe:ul = mn.length) (Ff:um = mo.length) (h0:Out H0 Ri H (Rs.blk oZ [.sl ⟨xD,ul,xF⟩,.int .i64 Fd] :: Rs.own ⟨xE,um,xG⟩ (eInt .i64).z xH :: R0) fun R=>ROs (ePair (eInt .i64) (ePair (eInt .i64) (ePair (eInt .i64) (ePair (eInt .i64) (eInt .i64))))) H R ⟨xD,ul,xF⟩ mn∧CR (eInt .i64) H R xH mo) {r:List Int} (hp:af.pj9 F  mn mo = some r):∃ v H',af.j9 F (ak.tw F)  oZ 0 ⟨xE,um,xG⟩ H = some (v,H')∧af.Q H0 Ri R0  r v H':=by
 obtain ⟨w0,s0,Fg,Fh⟩:=h0
 subst Fe
 subst Ff
 unfold af.pj9 at hp
 unfold af.j9
 exact af.l61_P F rfl rfl ⟨w0,s0,Fg,Fh⟩ hp
def af.pl29 (F:Nat) :Nat→List (Int×Int×Int×Int×Int)→List Int→Int→Option (List Int)
 | 0,_,_,_=>none
 | k + 1,iL,ju,dH=>(bif (decide (dH < (iL.length:Int))) then ((apn ju ([dH]:List Int)).bind fun l2=>af.pl29 F k iL l2 (IntKind.i64.wrap (dH + 1))) else (af.pj9 F iL ju))
termination_by structural n=>n
theorem af.l29_P {F:Nat} {H0:Hp} {Ri R0:List Rs}  :∀ k,af.S29 H0 Ri R0  (af.l29 F (ak.tw F)  k) (af.pl29 F  k):=by
 intro k
 induction k with
 | zero=>
  intro pM pN lZ eR l_ pO pP iL t_ dH ju pQ H xI xJ h0 r hp
  exact nomatch (show (none:Option (List Int)) = some r from hp)
 | succ k ih=>
  intro pM pN lZ eR l_ pO pP iL t_ dH ju pQ H xI xJ h0 r hp
  obtain ⟨w0,s0,xK,xL⟩:=h0
  subst xI
  subst xJ
  unfold af.pl29 at hp
  unfold af.l29
  refine bind_ex (ldSl_of (w0.ld (i:=0) rfl rfl)) ?_
  refine bif_ex (fun hb=>?_) (fun hb=>?_)
  ·replace hp:=bif_t hb hp
   refine newS_k (eInt .i64) w0 (n:=1) (l:=([dH]:List Int)) rfl (CR.cons1 rfl CR.empty) rfl fun H1 w1 s1 c1=>?_
   refine bind_ex (w1.rowo (i:=0) rfl) ?_
   obtain ⟨l2,e2,hp⟩:=bind_some' hp
   refine app_k (eInt .i64) w1 (i:=2) rfl rfl (xL.step s1) c1 (show 1 = List.length ([dH]:List Int) from rfl) rfl e2 fun a3 d3 H3 w3 s3 c3 x3=>?_
   dsimp only [List.set] at w3 s3 c3
   obtain ⟨w4,s4⟩:=w3.pick' [1,2] 3 rfl rfl rfl
   dsimp only [pk,pks,nth,List.drop] at w4 s4
   exact ih rfl rfl ⟨w4,(s0.trans (s1.trans (s3.trans s4))),(xK.step (s1.trans (s3.trans s4))),(c3.step s4)⟩ hp
  ·replace hp:=bif_f hb hp
   exact af.j9_P rfl rfl ⟨w0,s0,xK,xL⟩ hp
def af.p (F:Nat) (ad:List (Int×Int×Int×Int×Int)):Option (List Int):=af.pl29 F F ad ([]:List Int) 0
theorem af.P {F:Nat} {av:ON} {aj:Nat} {aw:Cap} {ad:List (Int×Int×Int×Int×Int)} {ab:Int} {H:Hp} {R0:List Rs} (ba:aj = ad.length) (h0:Inn H R0 fun R=>ROs (ePair (eInt .i64) (ePair (eInt .i64) (ePair (eInt .i64) (ePair (eInt .i64) (eInt .i64))))) H R ⟨av,aj,aw⟩ ad) {r:List Int} (hp:af.p F ad = some r):∃ v H',af.tw F ⟨av,aj,aw⟩ ab H = some (v,H')∧af.Q H R0 R0  r v H':=by
 obtain ⟨w0,aL⟩:=h0
 subst ba
 unfold af.p at hp
 unfold af.tw af.twX
 have s0:=w0.rf
 refine new_k w0 fun H1 w1 s1=>?_
 refine newS_k (eInt .i64) w1 (n:=0) (l:=([]:List Int)) rfl CR.empty rfl fun H2 w2 s2 c2=>?_
 obtain ⟨w3,s3⟩:=w2.pick' [1,0] 2 rfl rfl rfl
 dsimp only [pk,pks,nth,List.drop] at w3 s3
 exact af.l29_P F rfl (show 0 = List.length ([]:List Int) from rfl) ⟨w3,(s0.trans (s1.trans (s2.trans s3))),(aL.step (s1.trans (s2.trans s3))),(c2.step s3)⟩ hp
def aF.Q (H0:Hp) (Ri R0:List Rs)  (r:Int) (v:AV) (H':Hp):Prop:=v = (.int .i64 r)∧Out H0 Ri H' (R0) fun R=>True
def aF.S61 (H0:Hp) (Ri R0:List Rs)  (C:Int→Sl→Int→Hp→OA) (pC:Int→List Int→Int→Option (Int)):Prop:=∀ {dI c_:Int} {qf:ON} {mp:Nat} {qg:Cap} {ic:List Int} {qh:List AV},∀ {H:Hp},mp = ic.length→(Out H0 Ri H (Rs.own ⟨qf,mp,qg⟩ (eInt .i64).z qh :: R0) fun R=>CR (eInt .i64) H R qh ic)→∀ {r:Int},pC dI ic c_ = some r→∃ v H',C dI ⟨qf,mp,qg⟩ c_ H = some (v,H')∧aF.Q H0 Ri R0  r v H'
def aF.pj2 (F:Nat) (aO:Int→List Int→Int→Option (Int)) (kp:Int) (mq:List Int) (kq:Int):Option (Int):=aO kp mq (IntKind.i64.wrap (kq + 1))
theorem aF.j2_P {F:Nat} {H0:Hp} {Ri R0:List Rs}  {C61_:Int→Sl→Int→Hp→OA} {aO:Int→List Int→Int→Option (Int)} (hC61:aF.S61 H0 Ri R0  C61_ aO) {kp kq:Int} {xM:ON} {un:Nat} {xN:Cap} {mq:List Int} {xO:List AV} {H:Hp} (Fi:un = mq.length) (h0:Out H0 Ri H (Rs.own ⟨xM,un,xN⟩ (eInt .i64).z xO :: R0) fun R=>CR (eInt .i64) H R xO mq) {r:Int} (hp:aF.pj2 F aO kp mq kq = some r):∃ v H',aF.j2 F (af.tw F) C61_ kp ⟨xM,un,xN⟩ kq H = some (v,H')∧aF.Q H0 Ri R0  r v H':=by
 obtain ⟨w0,s0,Fj⟩:=h0
 subst Fi
 unfold aF.pj2 at hp
 unfold aF.j2
 exact hC61 rfl ⟨w0,s0,Fj⟩ hp
def aF.pl61 (F:Nat) :Nat→Int→List Int→Int→Option (Int)
 | 0,_,_,_=>none
 | k + 1,dI,ic,c_=>(bif (decide (c_ < (ic.length:Int))) then ((ix ic c_).bind fun n1=>(bif ((gt ic n1) == c_) then (aF.pj2 F (aF.pl61 F k) (IntKind.i64.wrap (dI + 1)) ic c_) else (aF.pj2 F (aF.pl61 F k) dI ic c_))) else (some dI))
termination_by structural n=>n
theorem aF.l61_P {F:Nat} {H0:Hp} {Ri R0:List Rs}  :∀ k,aF.S61 H0 Ri R0  (aF.l61 F (af.tw F)  k) (aF.pl61 F  k):=by
 intro k
 induction k with
 | zero=>
  intro dI c_ qf mp qg ic qh H xP h0 r hp
  exact nomatch (show (none:Option (Int)) = some r from hp)
 | succ k ih=>
  intro dI c_ qf mp qg ic qh H xP h0 r hp
  obtain ⟨w0,s0,uo⟩:=h0
  subst xP
  unfold aF.pl61 at hp
  unfold aF.l61
  refine bif_ex (fun hb=>?_) (fun hb=>?_)
  ·replace hp:=bif_t hb hp
   obtain ⟨n1,g1,hp⟩:=bind_some' hp
   obtain ⟨p1,q1,i1,h1,j1⟩:=W.ixo (E:=(eInt .i64)) w0 (i:=0) rfl rfl uo g1
   refine bind_ex i1 ?_
   have h1:_ = [_]:=h1
   subst h1
   refine bind_ex (ldI_of (j1 0 _ rfl)) ?_
   refine bif_ex (fun hb=>?_) (fun hb=>?_)
   ·replace hp:=bif_t hb hp
    exact aF.j2_P (@ih) rfl ⟨w0,s0,uo⟩ hp
   ·replace hp:=bif_f hb hp
    exact aF.j2_P (@ih) rfl ⟨w0,s0,uo⟩ hp
  ·replace hp:=bif_f hb hp
   obtain ⟨w2,s2⟩:=w0.pick' [] 1 rfl rfl rfl
   dsimp only [pk,pks,nth,List.drop] at w2 s2
   obtain rfl:=Option.some.inj hp
   exact ⟨_,_,rfl,rfl,w2,(s0.trans s2),trivial⟩
def aF.p (F:Nat) (ad:List (Int×Int×Int×Int×Int)):Option (Int):=(af.p F ad).bind fun r2=>aF.pl61 F F 0 r2 0
theorem aF.P {F:Nat} {av:ON} {aj:Nat} {aw:Cap} {ad:List (Int×Int×Int×Int×Int)} {ab:Int} {H:Hp} {R0:List Rs} (ba:aj = ad.length) (h0:Inn H R0 fun R=>ROs (ePair (eInt .i64) (ePair (eInt .i64) (ePair (eInt .i64) (ePair (eInt .i64) (eInt .i64))))) H R ⟨av,aj,aw⟩ ad) {r:Int} (hp:aF.p F ad = some r):∃ v H',aF.tw F ⟨av,aj,aw⟩ ab H = some (v,H')∧aF.Q H R0 R0  r v H':=by
 obtain ⟨w0,aL⟩:=h0
 subst ba
 unfold aF.p at hp
 unfold aF.tw aF.twX
 have s0:=w0.rf
 refine new_k w0 fun H1 w1 s1=>?_
 refine bind_ex (ldSl_of (w1.ld (i:=0) rfl rfl)) ?_
 refine bind_ex (ldI_of (w1.ld (i:=0) rfl rfl)) ?_
 obtain ⟨r2,e2,hp⟩:=bind_some' hp
 refine call_ex (af.P rfl ⟨w1,(aL.step s1)⟩ e2) ?_
 rintro _ H3 ⟨o0a_3,o0n_3,o0c_3,o0k_3,rfl,rfl,w3,s3,f3_0⟩
 refine bind_ex rfl ?_
 obtain ⟨w4,s4⟩:=w3.pick' [0] 2 rfl rfl rfl
 dsimp only [pk,pks,nth,List.drop] at w4 s4
 exact aF.l61_P F rfl ⟨w4,(s0.trans (s1.trans (s3.trans s4))),(f3_0.step s4)⟩ hp
def bz.Q (H0:Hp) (Ri R0:List Rs)  (r:Bool) (v:AV) (H':Hp):Prop:=v = (.bool r)∧Out H0 Ri H' (R0) fun R=>True
def bz.p (F:Nat) (ad:List (Int×Int×Int×Int×Int)) (ab:Int):Option (Bool):=(bif (decide ((ad.length:Int) > 10)) then (some false) else ((bh.p F ab 0 8).bind fun r3=>(bif (!r3) then (some false) else ((au.p F ad).bind fun r6=>(bif (!r6) then (some false) else ((ah.p F ad).bind fun r9=>(aF.p F ad).bind fun r12=>some ((r9.length:Int) == (IntKind.i64.wrap ((ad.length:Int) + (IntKind.i64.wrap (2 * r12)))))))))))
theorem bz.P {F:Nat} {av:ON} {aj:Nat} {aw:Cap} {ad:List (Int×Int×Int×Int×Int)} {ab:Int} {H:Hp} {R0:List Rs} (ba:aj = ad.length) (h0:Inn H R0 fun R=>ROs (ePair (eInt .i64) (ePair (eInt .i64) (ePair (eInt .i64) (ePair (eInt .i64) (eInt .i64))))) H R ⟨av,aj,aw⟩ ad) {r:Bool} (hp:bz.p F ad ab = some r):∃ v H',bz.tw F ⟨av,aj,aw⟩ ab H = some (v,H')∧bz.Q H R0 R0  r v H':=by
 obtain ⟨w0,aL⟩:=h0
 subst ba
 unfold bz.p at hp
 unfold bz.tw bz.twX
 have s0:=w0.rf
 refine new_k w0 fun H1 w1 s1=>?_
 refine bind_ex (ldSl_of (w1.ld (i:=0) rfl rfl)) ?_
 refine bif_ex (fun hb=>?_) (fun hb=>?_)
 ·replace hp:=bif_t hb hp
  obtain ⟨w2,s2⟩:=w1.pick' [] 1 rfl rfl rfl
  dsimp only [pk,pks,nth,List.drop] at w2 s2
  obtain rfl:=Option.some.inj hp
  exact ⟨_,_,rfl,rfl,w2,(s0.trans (s1.trans s2)),trivial⟩
 ·replace hp:=bif_f hb hp
  refine bind_ex (ldI_of (w1.ld (i:=0) rfl rfl)) ?_
  obtain ⟨r3,e3,hp⟩:=bind_some' hp
  refine call_ex (bh.P ⟨w1,trivial⟩ e3) ?_
  rintro _ H4 ⟨rfl,w4,s4,_⟩
  refine bind_ex rfl ?_
  refine bif_ex (fun hb=>?_) (fun hb=>?_)
  ·replace hp:=bif_t hb hp
   obtain ⟨w5,s5⟩:=w4.pick' [] 1 rfl rfl rfl
   dsimp only [pk,pks,nth,List.drop] at w5 s5
   obtain rfl:=Option.some.inj hp
   exact ⟨_,_,rfl,rfl,w5,(s0.trans (s1.trans (s4.trans s5))),trivial⟩
  ·replace hp:=bif_f hb hp
   refine bind_ex (ldSl_of (w4.ld (i:=0) rfl rfl)) ?_
   refine bind_ex (ldI_of (w4.ld (i:=0) rfl rfl)) ?_
   obtain ⟨r6,e6,hp⟩:=bind_some' hp
   refine call_ex (au.P rfl ⟨w4,(aL.step (s1.trans s4))⟩ e6) ?_
   rintro _ H7 ⟨rfl,w7,s7,_⟩
   refine bind_ex rfl ?_
   refine bif_ex (fun hb=>?_) (fun hb=>?_)
   ·replace hp:=bif_t hb hp
    obtain ⟨w8,s8⟩:=w7.pick' [] 1 rfl rfl rfl
    dsimp only [pk,pks,nth,List.drop] at w8 s8
    obtain rfl:=Option.some.inj hp
    exact ⟨_,_,rfl,rfl,w8,(s0.trans (s1.trans (s4.trans (s7.trans s8)))),trivial⟩
   ·replace hp:=bif_f hb hp
    refine bind_ex (ldSl_of (w7.ld (i:=0) rfl rfl)) ?_
    refine bind_ex (ldI_of (w7.ld (i:=0) rfl rfl)) ?_
    obtain ⟨r9,e9,hp⟩:=bind_some' hp
    refine call_ex (ah.P rfl ⟨w7,(aL.step (s1.trans (s4.trans s7)))⟩ e9) ?_
    rintro _ H10 ⟨o0a_10,o0n_10,o0c_10,o0k_10,rfl,rfl,w10,s10,f10_0⟩
    refine bind_ex rfl ?_
    refine ifs_ex (W.cons_of (Rn:=[_]) w7 w10 s10) ?_
    refine bind_ex (ldSl_of (w10.ld (i:=1) rfl rfl)) ?_
    refine bind_ex (ldSl_of (w10.ld (i:=1) rfl rfl)) ?_
    refine bind_ex (ldI_of (w10.ld (i:=1) rfl rfl)) ?_
    obtain ⟨r12,e12,hp⟩:=bind_some' hp
    refine call_ex (aF.P rfl ⟨w10,(aL.step (s1.trans (s4.trans (s7.trans s10))))⟩ e12) ?_
    rintro _ H13 ⟨rfl,w13,s13,_⟩
    refine bind_ex rfl ?_
    refine ifs_ex (W.cons_of (Rn:=[]) w10 w13 s13) ?_
    obtain ⟨w15,s15⟩:=w13.pick' [] 2 rfl rfl rfl
    dsimp only [pk,pks,nth,List.drop] at w15 s15
    obtain rfl:=Option.some.inj hp
    exact ⟨_,_,rfl,rfl,w15,(s0.trans (s1.trans (s4.trans (s7.trans (s10.trans (s13.trans s15)))))),trivial⟩
def ao.Q (H0:Hp) (Ri R0:List Rs)  (r:List Int) (v:AV) (H':Hp):Prop:=∃ o0a:ON,∃ o0n:Nat,∃ o0c:Cap,∃ o0k:List AV,v = (.sl ⟨o0a,o0n,o0c⟩)∧o0n = (r).length∧Out H0 Ri H' (Rs.own ⟨o0a,o0n,o0c⟩ (eInt .i64).z o0k :: R0) fun R=>CR (eInt .i64) H' R o0k (r)
def ao.S61 (H0:Hp) (Ri R0:List Rs)  (C:Sl→Sl→Int→Hp→OA) (pC:List Int→List (List Int)→Int→Option (List Int)):Prop:=∀ {qi qj:ON} {mr ms:Nat} {qk ql:Cap} {jv:List Int} {qn qo:List AV} {jw:List (List Int)} {eS:Int},∀ {H:Hp},mr = jv.length→ms = jw.length→(Out H0 Ri H (Rs.own ⟨qi,mr,qk⟩ (eInt .i64).z qn :: Rs.own ⟨qj,ms,ql⟩ (eSl (eInt .i64)).z qo :: R0) fun R=>CR (eInt .i64) H R qn jv∧CR (eSl (eInt .i64)) H R qo jw)→∀ {r:List Int},pC jv jw eS = some r→∃ v H',C ⟨qi,mr,qk⟩ ⟨qj,ms,ql⟩ eS H = some (v,H')∧ao.Q H0 Ri R0  r v H'
def ao.S981 (H0:Hp) (Ri R0:List Rs)  (C:Sl→Sl→Int→Int→Hp→OA) (pC:List Int→List (List Int)→Int→Int→Option (List Int)):Prop:=∀ {qp qq:ON} {mu mv:Nat} {qr qs:Cap} {iN:List Int} {qt qu:List AV} {gy:List (List Int)} {cU ei:Int},∀ {H:Hp},mu = iN.length→mv = gy.length→(Out H0 Ri H (Rs.own ⟨qp,mu,qr⟩ (eInt .i64).z qt :: Rs.own ⟨qq,mv,qs⟩ (eSl (eInt .i64)).z qu :: R0) fun R=>CR (eInt .i64) H R qt iN∧CR (eSl (eInt .i64)) H R qu gy)→∀ {r:List Int},pC iN gy cU ei = some r→∃ v H',C ⟨qp,mu,qr⟩ ⟨qq,mv,qs⟩ cU ei H = some (v,H')∧ao.Q H0 Ri R0  r v H'
def ao.pj3 (F:Nat) (aO:List Int→List (List Int)→Int→Option (List Int)) (mw:List Int) (mx:List (List Int)) (kr:Int):Option (List Int):=aO mw mx (IntKind.i64.wrap (kr + 1))
theorem ao.j3_P {F:Nat} {H0:Hp} {Ri R0:List Rs}  {C61_:Sl→Sl→Int→Hp→OA} {aO:List Int→List (List Int)→Int→Option (List Int)} (hC61:ao.S61 H0 Ri R0  C61_ aO) {xQ xR:ON} {uq ur:Nat} {xS xT:Cap} {mw:List Int} {xU xV:List AV} {mx:List (List Int)} {kr:Int} {H:Hp} (Fk:uq = mw.length) (Fl:ur = mx.length) (h0:Out H0 Ri H (Rs.own ⟨xQ,uq,xS⟩ (eInt .i64).z xU :: Rs.own ⟨xR,ur,xT⟩ (eSl (eInt .i64)).z xV :: R0) fun R=>CR (eInt .i64) H R xU mw∧CR (eSl (eInt .i64)) H R xV mx) {r:List Int} (hp:ao.pj3 F aO mw mx kr = some r):∃ v H',ao.j3 F (ah.tw F) C61_ ⟨xQ,uq,xS⟩ ⟨xR,ur,xT⟩ kr H = some (v,H')∧ao.Q H0 Ri R0  r v H':=by
 obtain ⟨w0,s0,Fm,Fn⟩:=h0
 subst Fk
 subst Fl
 unfold ao.pj3 at hp
 unfold ao.j3
 exact hC61 rfl rfl ⟨w0,s0,Fm,Fn⟩ hp
def ao.pj4 (F:Nat) (aO:List Int→List (List Int)→Int→Option (List Int)) (mz:List Int) (mA:List (List Int)) (kt:Int):Option (List Int):=ao.pj3 F aO mz mA kt
theorem ao.j4_P {F:Nat} {H0:Hp} {Ri R0:List Rs}  {C61_:Sl→Sl→Int→Hp→OA} {aO:List Int→List (List Int)→Int→Option (List Int)} (hC61:ao.S61 H0 Ri R0  C61_ aO) {xW xX:ON} {ut uu:Nat} {xY xZ:Cap} {mz:List Int} {x_ ya:List AV} {mA:List (List Int)} {kt:Int} {H:Hp} (Fo:ut = mz.length) (Fp:uu = mA.length) (h0:Out H0 Ri H (Rs.own ⟨xW,ut,xY⟩ (eInt .i64).z x_ :: Rs.own ⟨xX,uu,xZ⟩ (eSl (eInt .i64)).z ya :: R0) fun R=>CR (eInt .i64) H R x_ mz∧CR (eSl (eInt .i64)) H R ya mA) {r:List Int} (hp:ao.pj4 F aO mz mA kt = some r):∃ v H',ao.j4 F (ah.tw F) C61_ ⟨xW,ut,xY⟩ ⟨xX,uu,xZ⟩ kt H = some (v,H')∧ao.Q H0 Ri R0  r v H':=by
 obtain ⟨w0,s0,Fq,Fr⟩:=h0
 subst Fo
 subst Fp
 unfold ao.pj4 at hp
 unfold ao.j4
 exact ao.j3_P (@hC61) rfl rfl ⟨w0,s0,Fq,Fr⟩ hp
def ao.pl981 (F:Nat) (aO:List Int→List (List Int)→Int→Option (List Int)):Nat→List Int→List (List Int)→Int→Int→Option (List Int)
 | 0,_,_,_,_=>none
 | k + 1,iN,gy,cU,ei=>(ix gy cU).bind fun n1=>(bif (decide (ei < (((gt gy n1).length):Int))) then ((ix gy cU).bind fun n2=>(ix (gt gy n2) ei).bind fun n3=>(ix iN (gt (gt gy n2) n3)).bind fun n4=>(some (iN.set n4 cU)).bind fun l5=>ao.pl981 F aO k l5 gy cU (IntKind.i64.wrap (ei + 1))) else (ao.pj4 F aO iN gy cU))
termination_by structural n=>n
theorem ao.l981_P {F:Nat} {H0:Hp} {Ri R0:List Rs}  {C61_:Sl→Sl→Int→Hp→OA} {aO:List Int→List (List Int)→Int→Option (List Int)} (hC61:ao.S61 H0 Ri R0  C61_ aO):∀ k,ao.S981 H0 Ri R0  (ao.l981 F (ah.tw F) C61_ k) (ao.pl981 F aO k):=by
 intro k
 induction k with
 | zero=>
  intro qp qq mu mv qr qs iN qt qu gy cU ei H yb yc h0 r hp
  exact nomatch (show (none:Option (List Int)) = some r from hp)
 | succ k ih=>
  intro qp qq mu mv qr qs iN qt qu gy cU ei H yb yc h0 r hp
  obtain ⟨w0,s0,uv,qv⟩:=h0
  subst yb
  subst yc
  unfold ao.pl981 at hp
  unfold ao.l981
  obtain ⟨n1,g1,hp⟩:=bind_some' hp
  obtain ⟨p1,q1,i1,h1,j1⟩:=W.ixo (E:=(eSl (eInt .i64))) w0 (i:=1) rfl rfl qv g1
  refine bind_ex i1 ?_
  obtain ⟨⟨Fs,m1_0,c1_0⟩,rfl,f1_0⟩:=h1
  obtain rfl:m1_0 = _:=f1_0.n
  refine bind_ex (ldSl_of (j1 0 _ rfl)) ?_
  refine bif_ex (fun hb=>?_) (fun hb=>?_)
  ·replace hp:=bif_t hb hp
   obtain ⟨n2,g2,hp⟩:=bind_some' hp
   obtain ⟨p2,q2,i2,h2,j2⟩:=W.ixo (E:=(eSl (eInt .i64))) w0 (i:=1) rfl rfl qv g2
   refine bind_ex i2 ?_
   obtain ⟨⟨HN,m2_0,c2_0⟩,rfl,f2_0⟩:=h2
   obtain rfl:m2_0 = _:=f2_0.n
   refine bind_ex (ldSl_of (j2 0 _ rfl)) ?_
   obtain ⟨n3,g3,hp⟩:=bind_some' hp
   obtain ⟨p3,q3,i3,h3,j3⟩:=ROs.ixr f2_0 rfl g3
   refine bind_ex i3 ?_
   have h3:_ = [_]:=h3
   subst h3
   refine bind_ex (ldI_of (j3 0 _ rfl)) ?_
   obtain ⟨n4,g4,hp⟩:=bind_some' hp
   obtain ⟨p4,q4,i4,h4,j4⟩:=W.ixo (E:=(eInt .i64)) w0 (i:=0) rfl rfl uv g4
   refine bind_ex i4 ?_
   obtain ⟨l5,e5,hp⟩:=bind_some' hp
   refine sto_k (eInt .i64) w0 (i:=0) (j:=0) (p:=p4) rfl rfl uv g4 i4 e5 rfl rfl (fun _ h=>by have h:_ = [_]:=h; subst h; exact rfl) fun H6 k6 w6 s6 c6=>?_
   dsimp only [List.set] at w6 s6 c6
   exact ih ((st_len e5).symm) rfl ⟨w6,(s0.trans s6),c6,(qv.step s6)⟩ hp
  ·replace hp:=bif_f hb hp
   exact ao.j4_P (@hC61) rfl rfl ⟨w0,s0,uv,qv⟩ hp
def ao.pl61 (F:Nat) :Nat→List Int→List (List Int)→Int→Option (List Int)
 | 0,_,_,_=>none
 | k + 1,jv,jw,eS=>(bif (decide (eS < (jw.length:Int))) then (ao.pl981 F (ao.pl61 F k) F jv jw eS 0) else (some jv))
termination_by structural n=>n
theorem ao.l61_P {F:Nat} {H0:Hp} {Ri R0:List Rs}  :∀ k,ao.S61 H0 Ri R0  (ao.l61 F (ah.tw F)  k) (ao.pl61 F  k):=by
 intro k
 induction k with
 | zero=>
  intro qi qj mr ms qk ql jv qn qo jw eS H yd ye h0 r hp
  exact nomatch (show (none:Option (List Int)) = some r from hp)
 | succ k ih=>
  intro qi qj mr ms qk ql jv qn qo jw eS H yd ye h0 r hp
  obtain ⟨w0,s0,yf,Ft⟩:=h0
  subst yd
  subst ye
  unfold ao.pl61 at hp
  unfold ao.l61
  refine bif_ex (fun hb=>?_) (fun hb=>?_)
  ·replace hp:=bif_t hb hp
   exact ao.l981_P (@ih) F rfl rfl ⟨w0,s0,yf,Ft⟩ hp
  ·replace hp:=bif_f hb hp
   obtain ⟨w1,s1⟩:=w0.pick' [0] 2 rfl rfl rfl
   dsimp only [pk,pks,nth,List.drop] at w1 s1
   obtain rfl:=Option.some.inj hp
   exact ⟨_,_,rfl,_,_,_,_,rfl,rfl,w1,(s0.trans s1),(yf.step s1)⟩
def ao.p (F:Nat) (ad:List (Int×Int×Int×Int×Int)):Option (List Int):=(mkn (IntKind.i64.wrap (4 * (ad.length:Int))) (0:Int)).bind fun l2=>(ah.p F ad).bind fun r4=>ao.pl61 F F l2 r4 0
theorem ao.P {F:Nat} {av:ON} {aj:Nat} {aw:Cap} {ad:List (Int×Int×Int×Int×Int)} {ab:Int} {H:Hp} {R0:List Rs} (ba:aj = ad.length) (h0:Inn H R0 fun R=>ROs (ePair (eInt .i64) (ePair (eInt .i64) (ePair (eInt .i64) (ePair (eInt .i64) (eInt .i64))))) H R ⟨av,aj,aw⟩ ad) {r:List Int} (hp:ao.p F ad = some r):∃ v H',ao.tw F ⟨av,aj,aw⟩ ab H = some (v,H')∧ao.Q H R0 R0  r v H':=by
 obtain ⟨w0,aL⟩:=h0
 subst ba
 unfold ao.p at hp
 unfold ao.tw ao.twX
 have s0:=w0.rf
 refine new_k w0 fun H1 w1 s1=>?_
 refine bind_ex (ldSl_of (w1.ld (i:=0) rfl rfl)) ?_
 obtain ⟨l2,e2,hp⟩:=bind_some' hp
 refine mk_k (eInt .i64) (0:Int) w1 rfl rfl rfl e2 fun H3 k3 w3 s3 c3=>?_
 refine bind_ex (ldSl_of (w3.ld (i:=1) rfl rfl)) ?_
 refine bind_ex (ldI_of (w3.ld (i:=1) rfl rfl)) ?_
 obtain ⟨r4,e4,hp⟩:=bind_some' hp
 refine call_ex (ah.P rfl ⟨w3,(aL.step (s1.trans s3))⟩ e4) ?_
 rintro _ H5 ⟨o0a_5,o0n_5,o0c_5,o0k_5,rfl,rfl,w5,s5,f5_0⟩
 refine bind_ex rfl ?_
 obtain ⟨w6,s6⟩:=w5.pick' [1,0] 3 rfl rfl rfl
 dsimp only [pk,pks,nth,List.drop] at w6 s6
 exact ao.l61_P F rfl rfl ⟨w6,(s0.trans (s1.trans (s3.trans (s5.trans s6)))),(c3.step (s5.trans s6)),(f5_0.step s6)⟩ hp
def ac.Q (H0:Hp) (Ri R0:List Rs)  (r:List Int) (v:AV) (H':Hp):Prop:=∃ o0a:ON,∃ o0n:Nat,∃ o0c:Cap,∃ o0k:List AV,v = (.sl ⟨o0a,o0n,o0c⟩)∧o0n = (r).length∧Out H0 Ri H' (Rs.own ⟨o0a,o0n,o0c⟩ (eInt .i64).z o0k :: R0) fun R=>CR (eInt .i64) H' R o0k (r)
def ac.S125 (H0:Hp) (Ri R0:List Rs)  (C:Sl→Sl→Sl→Int→Hp→OA) (pC:List Int→List Int→List Int→Int→Option (List Int)):Prop:=∀ {qw qx iO:ON} {mB mC ie:Nat} {qy qz iQ:Cap} {jx jy eM:List Int} {qA qB iS:List AV} {ej:Int},∀ {H:Hp},mB = jx.length→mC = jy.length→ie = eM.length→(Out H0 Ri H (Rs.own ⟨qw,mB,qy⟩ (eInt .i64).z qA :: Rs.own ⟨qx,mC,qz⟩ (eInt .i64).z qB :: Rs.own ⟨iO,ie,iQ⟩ (eInt .i64).z iS :: R0) fun R=>CR (eInt .i64) H R qA jx∧CR (eInt .i64) H R qB jy∧CR (eInt .i64) H R iS eM)→∀ {r:List Int},pC jx jy eM ej = some r→∃ v H',C ⟨qw,mB,qy⟩ ⟨qx,mC,qz⟩ ⟨iO,ie,iQ⟩ ej H = some (v,H')∧ac.Q H0 Ri R0  r v H'
def ac.S253 (H0:Hp) (Ri R0:List Rs)  (C:Sl→Sl→Sl→Int→Hp→OA) (pC:List Int→List Int→List Int→Int→Option (List Int)):Prop:=∀ {qC qD qE:ON} {mD mE mF:Nat} {qF qG qH:Cap} {ig ii iy:List Int} {qI qJ qK:List AV} {cQ:Int},∀ {H:Hp},mD = ig.length→mE = ii.length→mF = iy.length→(Out H0 Ri H (Rs.own ⟨qC,mD,qF⟩ (eInt .i64).z qI :: Rs.own ⟨qD,mE,qG⟩ (eInt .i64).z qJ :: Rs.own ⟨qE,mF,qH⟩ (eInt .i64).z qK :: R0) fun R=>CR (eInt .i64) H R qI ig∧CR (eInt .i64) H R qJ ii∧CR (eInt .i64) H R qK iy)→∀ {r:List Int},pC ig ii iy cQ = some r→∃ v H',C ⟨qC,mD,qF⟩ ⟨qD,mE,qG⟩ ⟨qE,mF,qH⟩ cQ H = some (v,H')∧ac.Q H0 Ri R0  r v H'
def ac.pj28 (F:Nat) (fY:List Int→List Int→List Int→Int→Option (List Int)) (mG:List Int) (mH:List Int) (mI:List Int) (kE:Int):Option (List Int):=fY mG mH mI (IntKind.i64.wrap (kE + 1))
theorem ac.j28_P {F:Nat} {H0:Hp} {Ri R0:List Rs}  {C253_:Sl→Sl→Sl→Int→Hp→OA} {fY:List Int→List Int→List Int→Int→Option (List Int)} (hC253:ac.S253 H0 Ri R0  C253_ fY) {yg yh yi:ON} {uw ux uy:Nat} {yj yl ym:Cap} {mG mH mI:List Int} {yn yo yp:List AV} {kE:Int} {H:Hp} (Fu:uw = mG.length) (Fv:ux = mH.length) (Fw:uy = mI.length) (h0:Out H0 Ri H (Rs.own ⟨yg,uw,yj⟩ (eInt .i64).z yn :: Rs.own ⟨yh,ux,yl⟩ (eInt .i64).z yo :: Rs.own ⟨yi,uy,ym⟩ (eInt .i64).z yp :: R0) fun R=>CR (eInt .i64) H R yn mG∧CR (eInt .i64) H R yo mH∧CR (eInt .i64) H R yp mI) {r:List Int} (hp:ac.pj28 F fY mG mH mI kE = some r):∃ v H',ac.j28 F (ao.tw F) (af.tw F) (ah.tw F) C253_ ⟨yg,uw,yj⟩ ⟨yh,ux,yl⟩ ⟨yi,uy,ym⟩ kE H = some (v,H')∧ac.Q H0 Ri R0  r v H':=by
 obtain ⟨w0,s0,Fx,Fy,Fz⟩:=h0
 subst Fu
 subst Fv
 subst Fw
 unfold ac.pj28 at hp
 unfold ac.j28
 exact hC253 rfl rfl rfl ⟨w0,s0,Fx,Fy,Fz⟩ hp
def ac.pj29 (F:Nat) (fY:List Int→List Int→List Int→Int→Option (List Int)) (mJ:List Int) (mK:List Int) (mL:List Int) (kF:Int):Option (List Int):=fY mJ mK mL (IntKind.i64.wrap (kF + 1))
theorem ac.j29_P {F:Nat} {H0:Hp} {Ri R0:List Rs}  {C253_:Sl→Sl→Sl→Int→Hp→OA} {fY:List Int→List Int→List Int→Int→Option (List Int)} (hC253:ac.S253 H0 Ri R0  C253_ fY) {yq yt yu:ON} {uz uA uB:Nat} {yv yw yx:Cap} {mJ mK mL:List Int} {yy yz yA:List AV} {kF:Int} {H:Hp} (FA:uz = mJ.length) (FB:uA = mK.length) (FC:uB = mL.length) (h0:Out H0 Ri H (Rs.own ⟨yq,uz,yv⟩ (eInt .i64).z yy :: Rs.own ⟨yt,uA,yw⟩ (eInt .i64).z yz :: Rs.own ⟨yu,uB,yx⟩ (eInt .i64).z yA :: R0) fun R=>CR (eInt .i64) H R yy mJ∧CR (eInt .i64) H R yz mK∧CR (eInt .i64) H R yA mL) {r:List Int} (hp:ac.pj29 F fY mJ mK mL kF = some r):∃ v H',ac.j29 F (ao.tw F) (af.tw F) (ah.tw F) C253_ ⟨yq,uz,yv⟩ ⟨yt,uA,yw⟩ ⟨yu,uB,yx⟩ kF H = some (v,H')∧ac.Q H0 Ri R0  r v H':=by
 obtain ⟨w0,s0,FD,FE,FF⟩:=h0
 subst FA
 subst FB
 subst FC
 unfold ac.pj29 at hp
 unfold ac.j29
 exact hC253 rfl rfl rfl ⟨w0,s0,FD,FE,FF⟩ hp
def ac.S509 (H0:Hp) (Ri R0:List Rs)  (C:Sl→Sl→Bool→Hp→OA) (pC:List Int→List Int→Bool→Option (List Int)):Prop:=∀ {qL qM:ON} {mM mN:Nat} {qN qO:Cap} {jQ jz:List Int} {qP qQ:List AV} {fz:Bool},∀ {H:Hp},mM = jQ.length→mN = jz.length→(Out H0 Ri H (Rs.own ⟨qL,mM,qN⟩ (eInt .i64).z qP :: Rs.own ⟨qM,mN,qO⟩ (eInt .i64).z qQ :: R0) fun R=>CR (eInt .i64) H R qP jQ∧CR (eInt .i64) H R qQ jz)→∀ {r:List Int},pC jQ jz fz = some r→∃ v H',C ⟨qL,mM,qN⟩ ⟨qM,mN,qO⟩ fz H = some (v,H')∧ac.Q H0 Ri R0  r v H'
def ac.S8151 (H0:Hp) (Ri R0:List Rs)  (C:Sl→Sl→Bool→Int→Hp→OA) (pC:List Int→List Int→Bool→Int→Option (List Int)):Prop:=∀ {qR qS:ON} {mO mP:Nat} {qT qU:Cap} {cH cR:List Int} {qV qW:List AV} {dl:Bool} {bY:Int},∀ {H:Hp},mO = cH.length→mP = cR.length→(Out H0 Ri H (Rs.own ⟨qR,mO,qT⟩ (eInt .i64).z qV :: Rs.own ⟨qS,mP,qU⟩ (eInt .i64).z qW :: R0) fun R=>CR (eInt .i64) H R qV cH∧CR (eInt .i64) H R qW cR)→∀ {r:List Int},pC cH cR dl bY = some r→∃ v H',C ⟨qR,mO,qT⟩ ⟨qS,mP,qU⟩ dl bY H = some (v,H')∧ac.Q H0 Ri R0  r v H'
def ac.pj22 (F:Nat) (cS:List Int→List Int→Bool→Int→Option (List Int)) (mQ:List Int) (mR:List Int) (kw:Bool) (kx:Int):Option (List Int):=cS mQ mR kw (IntKind.i64.wrap (kx + 1))
theorem ac.j22_P {F:Nat} {H0:Hp} {Ri R0:List Rs}  {C8151_:Sl→Sl→Bool→Int→Hp→OA} {cS:List Int→List Int→Bool→Int→Option (List Int)} (hC8151:ac.S8151 H0 Ri R0  C8151_ cS) {yB yC:ON} {uC uD:Nat} {yD yE:Cap} {mQ mR:List Int} {yF yG:List AV} {kw:Bool} {kx:Int} {H:Hp} (FG:uC = mQ.length) (FH:uD = mR.length) (h0:Out H0 Ri H (Rs.own ⟨yB,uC,yD⟩ (eInt .i64).z yF :: Rs.own ⟨yC,uD,yE⟩ (eInt .i64).z yG :: R0) fun R=>CR (eInt .i64) H R yF mQ∧CR (eInt .i64) H R yG mR) {r:List Int} (hp:ac.pj22 F cS mQ mR kw kx = some r):∃ v H',ac.j22 F (ao.tw F) (af.tw F) (ah.tw F) C8151_ ⟨yB,uC,yD⟩ ⟨yC,uD,yE⟩ kw kx H = some (v,H')∧ac.Q H0 Ri R0  r v H':=by
 obtain ⟨w0,s0,FI,FJ⟩:=h0
 subst FG
 subst FH
 unfold ac.pj22 at hp
 unfold ac.j22
 exact hC8151 rfl rfl ⟨w0,s0,FI,FJ⟩ hp
def ac.pj23 (F:Nat) (cS:List Int→List Int→Bool→Int→Option (List Int)) (mS:List Int) (mT:List Int) (ky:Bool) (kz:Int):Option (List Int):=cS mS mT ky (IntKind.i64.wrap (kz + 1))
theorem ac.j23_P {F:Nat} {H0:Hp} {Ri R0:List Rs}  {C8151_:Sl→Sl→Bool→Int→Hp→OA} {cS:List Int→List Int→Bool→Int→Option (List Int)} (hC8151:ac.S8151 H0 Ri R0  C8151_ cS) {yH yI:ON} {uE uF:Nat} {yJ yK:Cap} {mS mT:List Int} {yL yM:List AV} {ky:Bool} {kz:Int} {H:Hp} (FK:uE = mS.length) (FL:uF = mT.length) (h0:Out H0 Ri H (Rs.own ⟨yH,uE,yJ⟩ (eInt .i64).z yL :: Rs.own ⟨yI,uF,yK⟩ (eInt .i64).z yM :: R0) fun R=>CR (eInt .i64) H R yL mS∧CR (eInt .i64) H R yM mT) {r:List Int} (hp:ac.pj23 F cS mS mT ky kz = some r):∃ v H',ac.j23 F (ao.tw F) (af.tw F) (ah.tw F) C8151_ ⟨yH,uE,yJ⟩ ⟨yI,uF,yK⟩ ky kz H = some (v,H')∧ac.Q H0 Ri R0  r v H':=by
 obtain ⟨w0,s0,FM,FN⟩:=h0
 subst FK
 subst FL
 unfold ac.pj23 at hp
 unfold ac.j23
 exact hC8151 rfl rfl ⟨w0,s0,FM,FN⟩ hp
def ac.pj24 (F:Nat) (cS:List Int→List Int→Bool→Int→Option (List Int)) (ij:List Int) (fZ:List Int) (jh:Bool) (fR:Int) (ji:Int):Option (List Int):=(ix fZ ji).bind fun n1=>(bif (decide ((gt fZ n1) ≥ 0)) then ((ix ij fR).bind fun n2=>(ix fZ (gt ij n2)).bind fun n3=>(bif (decide ((gt fZ n3) < 0)) then ((ix ij fR).bind fun n4=>(ix fZ ji).bind fun n5=>(ix fZ (gt ij n4)).bind fun n6=>(some (fZ.set n6 (IntKind.i64.wrap (1 - (gt fZ n5))))).bind fun l7=>ac.pj22 F cS ij l7 true fR) else (ac.pj23 F cS ij fZ jh fR))) else (cS ij fZ jh (IntKind.i64.wrap (fR + 1))))
theorem ac.j24_P {F:Nat} {H0:Hp} {Ri R0:List Rs}  {C8151_:Sl→Sl→Bool→Int→Hp→OA} {cS:List Int→List Int→Bool→Int→Option (List Int)} (hC8151:ac.S8151 H0 Ri R0  C8151_ cS) {yN yO:ON} {uG uH:Nat} {yP yQ:Cap} {ij fZ:List Int} {yR yS:List AV} {jh:Bool} {fR ji:Int} {H:Hp} (FO:uG = ij.length) (FP:uH = fZ.length) (h0:Out H0 Ri H (Rs.own ⟨yN,uG,yP⟩ (eInt .i64).z yR :: Rs.own ⟨yO,uH,yQ⟩ (eInt .i64).z yS :: R0) fun R=>CR (eInt .i64) H R yR ij∧CR (eInt .i64) H R yS fZ) {r:List Int} (hp:ac.pj24 F cS ij fZ jh fR ji = some r):∃ v H',ac.j24 F (ao.tw F) (af.tw F) (ah.tw F) C8151_ ⟨yN,uG,yP⟩ ⟨yO,uH,yQ⟩ jh fR ji H = some (v,H')∧ac.Q H0 Ri R0  r v H':=by
 obtain ⟨w0,s0,mU,jR⟩:=h0
 subst FO
 subst FP
 unfold ac.pj24 at hp
 unfold ac.j24
 obtain ⟨n1,g1,hp⟩:=bind_some' hp
 obtain ⟨p1,q1,i1,h1,j1⟩:=W.ixo (E:=(eInt .i64)) w0 (i:=1) rfl rfl jR g1
 refine bind_ex i1 ?_
 have h1:_ = [_]:=h1
 subst h1
 refine bind_ex (ldI_of (j1 0 _ rfl)) ?_
 refine bif_ex (fun hb=>?_) (fun hb=>?_)
 ·replace hp:=bif_t hb hp
  obtain ⟨n2,g2,hp⟩:=bind_some' hp
  obtain ⟨p2,q2,i2,h2,j2⟩:=W.ixo (E:=(eInt .i64)) w0 (i:=0) rfl rfl mU g2
  refine bind_ex i2 ?_
  have h2:_ = [_]:=h2
  subst h2
  refine bind_ex (ldI_of (j2 0 _ rfl)) ?_
  obtain ⟨n3,g3,hp⟩:=bind_some' hp
  obtain ⟨p3,q3,i3,h3,j3⟩:=W.ixo (E:=(eInt .i64)) w0 (i:=1) rfl rfl jR g3
  refine bind_ex i3 ?_
  have h3:_ = [_]:=h3
  subst h3
  refine bind_ex (ldI_of (j3 0 _ rfl)) ?_
  refine bif_ex (fun hb=>?_) (fun hb=>?_)
  ·replace hp:=bif_t hb hp
   obtain ⟨n4,g4,hp⟩:=bind_some' hp
   obtain ⟨p4,q4,i4,h4,j4⟩:=W.ixo (E:=(eInt .i64)) w0 (i:=0) rfl rfl mU g4
   refine bind_ex i4 ?_
   have h4:_ = [_]:=h4
   subst h4
   refine bind_ex (ldI_of (j4 0 _ rfl)) ?_
   obtain ⟨n5,g5,hp⟩:=bind_some' hp
   obtain ⟨p5,q5,i5,h5,j5⟩:=W.ixo (E:=(eInt .i64)) w0 (i:=1) rfl rfl jR g5
   refine bind_ex i5 ?_
   have h5:_ = [_]:=h5
   subst h5
   refine bind_ex (ldI_of (j5 0 _ rfl)) ?_
   obtain ⟨n6,g6,hp⟩:=bind_some' hp
   obtain ⟨p6,q6,i6,h6,j6⟩:=W.ixo (E:=(eInt .i64)) w0 (i:=1) rfl rfl jR g6
   refine bind_ex i6 ?_
   obtain ⟨l7,e7,hp⟩:=bind_some' hp
   refine sto_k (eInt .i64) w0 (i:=1) (j:=0) (p:=p6) rfl rfl jR g6 i6 e7 rfl rfl (fun _ h=>by have h:_ = [_]:=h; subst h; exact rfl) fun H8 k8 w8 s8 c8=>?_
   dsimp only [List.set] at w8 s8 c8
   exact ac.j22_P (@hC8151) rfl ((st_len e7).symm) ⟨w8,(s0.trans s8),(mU.step s8),c8⟩ hp
  ·replace hp:=bif_f hb hp
   exact ac.j23_P (@hC8151) rfl rfl ⟨w0,s0,mU,jR⟩ hp
 ·replace hp:=bif_f hb hp
  exact hC8151 rfl rfl ⟨w0,s0,mU,jR⟩ hp
def ac.pj25 (F:Nat) (cS:List Int→List Int→Bool→Int→Option (List Int)) (mV:List Int) (mW:List Int) (kA:Bool) (kB:Int):Option (List Int):=cS mV mW kA (IntKind.i64.wrap (kB + 1))
theorem ac.j25_P {F:Nat} {H0:Hp} {Ri R0:List Rs}  {C8151_:Sl→Sl→Bool→Int→Hp→OA} {cS:List Int→List Int→Bool→Int→Option (List Int)} (hC8151:ac.S8151 H0 Ri R0  C8151_ cS) {yT yU:ON} {uI uJ:Nat} {yV yW:Cap} {mV mW:List Int} {yX yY:List AV} {kA:Bool} {kB:Int} {H:Hp} (FQ:uI = mV.length) (FR:uJ = mW.length) (h0:Out H0 Ri H (Rs.own ⟨yT,uI,yV⟩ (eInt .i64).z yX :: Rs.own ⟨yU,uJ,yW⟩ (eInt .i64).z yY :: R0) fun R=>CR (eInt .i64) H R yX mV∧CR (eInt .i64) H R yY mW) {r:List Int} (hp:ac.pj25 F cS mV mW kA kB = some r):∃ v H',ac.j25 F (ao.tw F) (af.tw F) (ah.tw F) C8151_ ⟨yT,uI,yV⟩ ⟨yU,uJ,yW⟩ kA kB H = some (v,H')∧ac.Q H0 Ri R0  r v H':=by
 obtain ⟨w0,s0,FS,FT⟩:=h0
 subst FQ
 subst FR
 unfold ac.pj25 at hp
 unfold ac.j25
 exact hC8151 rfl rfl ⟨w0,s0,FS,FT⟩ hp
def ac.pj26 (F:Nat) (cS:List Int→List Int→Bool→Int→Option (List Int)) (mX:List Int) (mY:List Int) (kC:Bool) (kD:Int):Option (List Int):=cS mX mY kC (IntKind.i64.wrap (kD + 1))
theorem ac.j26_P {F:Nat} {H0:Hp} {Ri R0:List Rs}  {C8151_:Sl→Sl→Bool→Int→Hp→OA} {cS:List Int→List Int→Bool→Int→Option (List Int)} (hC8151:ac.S8151 H0 Ri R0  C8151_ cS) {yZ y_:ON} {uK uL:Nat} {za zb:Cap} {mX mY:List Int} {zc zd:List AV} {kC:Bool} {kD:Int} {H:Hp} (FU:uK = mX.length) (FV:uL = mY.length) (h0:Out H0 Ri H (Rs.own ⟨yZ,uK,za⟩ (eInt .i64).z zc :: Rs.own ⟨y_,uL,zb⟩ (eInt .i64).z zd :: R0) fun R=>CR (eInt .i64) H R zc mX∧CR (eInt .i64) H R zd mY) {r:List Int} (hp:ac.pj26 F cS mX mY kC kD = some r):∃ v H',ac.j26 F (ao.tw F) (af.tw F) (ah.tw F) C8151_ ⟨yZ,uK,za⟩ ⟨y_,uL,zb⟩ kC kD H = some (v,H')∧ac.Q H0 Ri R0  r v H':=by
 obtain ⟨w0,s0,FW,FX⟩:=h0
 subst FU
 subst FV
 unfold ac.pj26 at hp
 unfold ac.j26
 exact hC8151 rfl rfl ⟨w0,s0,FW,FX⟩ hp
def ac.pj20 (F:Nat) (cc:List Int→List Int→Bool→Option (List Int)) (mZ:List Int) (m_:List Int) (ku:Bool):Option (List Int):=cc mZ m_ ku
theorem ac.j20_P {F:Nat} {H0:Hp} {Ri R0:List Rs}  {C509_:Sl→Sl→Bool→Hp→OA} {cc:List Int→List Int→Bool→Option (List Int)} (hC509:ac.S509 H0 Ri R0  C509_ cc) {ze zf:ON} {uM uN:Nat} {zg zh:Cap} {mZ m_:List Int} {zi zj:List AV} {ku:Bool} {H:Hp} (FY:uM = mZ.length) (FZ:uN = m_.length) (h0:Out H0 Ri H (Rs.own ⟨ze,uM,zg⟩ (eInt .i64).z zi :: Rs.own ⟨zf,uN,zh⟩ (eInt .i64).z zj :: R0) fun R=>CR (eInt .i64) H R zi mZ∧CR (eInt .i64) H R zj m_) {r:List Int} (hp:ac.pj20 F cc mZ m_ ku = some r):∃ v H',ac.j20 F (ao.tw F) (af.tw F) (ah.tw F) C509_ ⟨ze,uM,zg⟩ ⟨zf,uN,zh⟩ ku H = some (v,H')∧ac.Q H0 Ri R0  r v H':=by
 obtain ⟨w0,s0,F_,Ga⟩:=h0
 subst FY
 subst FZ
 unfold ac.pj20 at hp
 unfold ac.j20
 exact hC509 rfl rfl ⟨w0,s0,F_,Ga⟩ hp
def ac.pj21 (F:Nat) (cc:List Int→List Int→Bool→Option (List Int)) (na:List Int) (nb:List Int) (kv:Bool):Option (List Int):=ac.pj20 F cc na nb kv
theorem ac.j21_P {F:Nat} {H0:Hp} {Ri R0:List Rs}  {C509_:Sl→Sl→Bool→Hp→OA} {cc:List Int→List Int→Bool→Option (List Int)} (hC509:ac.S509 H0 Ri R0  C509_ cc) {zk zl:ON} {uO uP:Nat} {zm zn:Cap} {na nb:List Int} {zo zp:List AV} {kv:Bool} {H:Hp} (Gb:uO = na.length) (Gc:uP = nb.length) (h0:Out H0 Ri H (Rs.own ⟨zk,uO,zm⟩ (eInt .i64).z zo :: Rs.own ⟨zl,uP,zn⟩ (eInt .i64).z zp :: R0) fun R=>CR (eInt .i64) H R zo na∧CR (eInt .i64) H R zp nb) {r:List Int} (hp:ac.pj21 F cc na nb kv = some r):∃ v H',ac.j21 F (ao.tw F) (af.tw F) (ah.tw F) C509_ ⟨zk,uO,zm⟩ ⟨zl,uP,zn⟩ kv H = some (v,H')∧ac.Q H0 Ri R0  r v H':=by
 obtain ⟨w0,s0,Gd,Ge⟩:=h0
 subst Gb
 subst Gc
 unfold ac.pj21 at hp
 unfold ac.j21
 exact ac.j20_P (@hC509) rfl rfl ⟨w0,s0,Gd,Ge⟩ hp
def ac.pl8151 (F:Nat) (cc:List Int→List Int→Bool→Option (List Int)):Nat→List Int→List Int→Bool→Int→Option (List Int)
 | 0,_,_,_,_=>none
 | k + 1,cH,cR,dl,bY=>(bif (decide (bY < (cH.length:Int))) then ((ix cH (IntKind.i64.wrap ((IntKind.i64.wrap ((IntKind.i64.wrap (Int.tdiv bY 4)) * 4)) + (Int.tmod (IntKind.i64.wrap (bY + 1)) 4)))).bind fun n1=>(ix cH bY).bind fun n2=>(ix cR (gt cH n2)).bind fun n3=>(bif (decide ((gt cR n3) ≥ 0)) then ((ix cR (gt cH n1)).bind fun n4=>(bif (decide ((gt cR n4) < 0)) then ((ix cH bY).bind fun n5=>(ix cR (gt cH n5)).bind fun n6=>(ix cR (gt cH n1)).bind fun n7=>(some (cR.set n7 (IntKind.i64.wrap (1 - (gt cR n6))))).bind fun l8=>ac.pj24 F (ac.pl8151 F cc k) cH l8 true bY (gt cH n1)) else (ac.pj24 F (ac.pl8151 F cc k) cH cR dl bY (gt cH n1)))) else ((ix cR (gt cH n1)).bind fun n10=>(bif (decide ((gt cR n10) ≥ 0)) then ((ix cH bY).bind fun n11=>(ix cR (gt cH n11)).bind fun n12=>(bif (decide ((gt cR n12) < 0)) then ((ix cH bY).bind fun n13=>(ix cR (gt cH n1)).bind fun n14=>(ix cR (gt cH n13)).bind fun n15=>(some (cR.set n15 (IntKind.i64.wrap (1 - (gt cR n14))))).bind fun l16=>ac.pj25 F (ac.pl8151 F cc k) cH l16 true bY) else (ac.pj26 F (ac.pl8151 F cc k) cH cR dl bY))) else (ac.pl8151 F cc k cH cR dl (IntKind.i64.wrap (bY + 1))))))) else (ac.pj21 F cc cH cR dl))
termination_by structural n=>n
theorem ac.l8151_P {F:Nat} {H0:Hp} {Ri R0:List Rs}  {C509_:Sl→Sl→Bool→Hp→OA} {cc:List Int→List Int→Bool→Option (List Int)} (hC509:ac.S509 H0 Ri R0  C509_ cc):∀ k,ac.S8151 H0 Ri R0  (ac.l8151 F (ao.tw F) (af.tw F) (ah.tw F) C509_ k) (ac.pl8151 F cc k):=by
 intro k
 induction k with
 | zero=>
  intro qR qS mO mP qT qU cH cR qV qW dl bY H zq zr h0 r hp
  exact nomatch (show (none:Option (List Int)) = some r from hp)
 | succ k ih=>
  intro qR qS mO mP qT qU cH cR qV qW dl bY H zq zr h0 r hp
  obtain ⟨w0,s0,ik,f_⟩:=h0
  subst zq
  subst zr
  unfold ac.pl8151 at hp
  unfold ac.l8151
  refine bif_ex (fun hb=>?_) (fun hb=>?_)
  ·replace hp:=bif_t hb hp
   obtain ⟨n1,g1,hp⟩:=bind_some' hp
   obtain ⟨p1,q1,i1,h1,j1⟩:=W.ixo (E:=(eInt .i64)) w0 (i:=0) rfl rfl ik g1
   refine bind_ex i1 ?_
   have h1:_ = [_]:=h1
   subst h1
   refine bind_ex (ldI_of (j1 0 _ rfl)) ?_
   obtain ⟨n2,g2,hp⟩:=bind_some' hp
   obtain ⟨p2,q2,i2,h2,j2⟩:=W.ixo (E:=(eInt .i64)) w0 (i:=0) rfl rfl ik g2
   refine bind_ex i2 ?_
   have h2:_ = [_]:=h2
   subst h2
   refine bind_ex (ldI_of (j2 0 _ rfl)) ?_
   obtain ⟨n3,g3,hp⟩:=bind_some' hp
   obtain ⟨p3,q3,i3,h3,j3⟩:=W.ixo (E:=(eInt .i64)) w0 (i:=1) rfl rfl f_ g3
   refine bind_ex i3 ?_
   have h3:_ = [_]:=h3
   subst h3
   refine bind_ex (ldI_of (j3 0 _ rfl)) ?_
   refine bif_ex (fun hb=>?_) (fun hb=>?_)
   ·replace hp:=bif_t hb hp
    obtain ⟨n4,g4,hp⟩:=bind_some' hp
    obtain ⟨p4,q4,i4,h4,j4⟩:=W.ixo (E:=(eInt .i64)) w0 (i:=1) rfl rfl f_ g4
    refine bind_ex i4 ?_
    have h4:_ = [_]:=h4
    subst h4
    refine bind_ex (ldI_of (j4 0 _ rfl)) ?_
    refine bif_ex (fun hb=>?_) (fun hb=>?_)
    ·replace hp:=bif_t hb hp
     obtain ⟨n5,g5,hp⟩:=bind_some' hp
     obtain ⟨p5,q5,i5,h5,j5⟩:=W.ixo (E:=(eInt .i64)) w0 (i:=0) rfl rfl ik g5
     refine bind_ex i5 ?_
     have h5:_ = [_]:=h5
     subst h5
     refine bind_ex (ldI_of (j5 0 _ rfl)) ?_
     obtain ⟨n6,g6,hp⟩:=bind_some' hp
     obtain ⟨p6,q6,i6,h6,j6⟩:=W.ixo (E:=(eInt .i64)) w0 (i:=1) rfl rfl f_ g6
     refine bind_ex i6 ?_
     have h6:_ = [_]:=h6
     subst h6
     refine bind_ex (ldI_of (j6 0 _ rfl)) ?_
     obtain ⟨n7,g7,hp⟩:=bind_some' hp
     obtain ⟨p7,q7,i7,h7,j7⟩:=W.ixo (E:=(eInt .i64)) w0 (i:=1) rfl rfl f_ g7
     refine bind_ex i7 ?_
     obtain ⟨l8,e8,hp⟩:=bind_some' hp
     refine sto_k (eInt .i64) w0 (i:=1) (j:=0) (p:=p7) rfl rfl f_ g7 i7 e8 rfl rfl (fun _ h=>by have h:_ = [_]:=h; subst h; exact rfl) fun H9 k9 w9 s9 c9=>?_
     dsimp only [List.set] at w9 s9 c9
     exact ac.j24_P (@ih) rfl ((st_len e8).symm) ⟨w9,(s0.trans s9),(ik.step s9),c9⟩ hp
    ·replace hp:=bif_f hb hp
     exact ac.j24_P (@ih) rfl rfl ⟨w0,s0,ik,f_⟩ hp
   ·replace hp:=bif_f hb hp
    obtain ⟨n10,g10,hp⟩:=bind_some' hp
    obtain ⟨p10,q10,i10,h10,j10⟩:=W.ixo (E:=(eInt .i64)) w0 (i:=1) rfl rfl f_ g10
    refine bind_ex i10 ?_
    have h10:_ = [_]:=h10
    subst h10
    refine bind_ex (ldI_of (j10 0 _ rfl)) ?_
    refine bif_ex (fun hb=>?_) (fun hb=>?_)
    ·replace hp:=bif_t hb hp
     obtain ⟨n11,g11,hp⟩:=bind_some' hp
     obtain ⟨p11,q11,i11,h11,j11⟩:=W.ixo (E:=(eInt .i64)) w0 (i:=0) rfl rfl ik g11
     refine bind_ex i11 ?_
     have h11:_ = [_]:=h11
     subst h11
     refine bind_ex (ldI_of (j11 0 _ rfl)) ?_
     obtain ⟨n12,g12,hp⟩:=bind_some' hp
     obtain ⟨p12,q12,i12,h12,j12⟩:=W.ixo (E:=(eInt .i64)) w0 (i:=1) rfl rfl f_ g12
     refine bind_ex i12 ?_
     have h12:_ = [_]:=h12
     subst h12
     refine bind_ex (ldI_of (j12 0 _ rfl)) ?_
     refine bif_ex (fun hb=>?_) (fun hb=>?_)
     ·replace hp:=bif_t hb hp
      obtain ⟨n13,g13,hp⟩:=bind_some' hp
      obtain ⟨p13,q13,i13,h13,j13⟩:=W.ixo (E:=(eInt .i64)) w0 (i:=0) rfl rfl ik g13
      refine bind_ex i13 ?_
      have h13:_ = [_]:=h13
      subst h13
      refine bind_ex (ldI_of (j13 0 _ rfl)) ?_
      obtain ⟨n14,g14,hp⟩:=bind_some' hp
      obtain ⟨p14,q14,i14,h14,j14⟩:=W.ixo (E:=(eInt .i64)) w0 (i:=1) rfl rfl f_ g14
      refine bind_ex i14 ?_
      have h14:_ = [_]:=h14
      subst h14
      refine bind_ex (ldI_of (j14 0 _ rfl)) ?_
      obtain ⟨n15,g15,hp⟩:=bind_some' hp
      obtain ⟨p15,q15,i15,h15,j15⟩:=W.ixo (E:=(eInt .i64)) w0 (i:=1) rfl rfl f_ g15
      refine bind_ex i15 ?_
      obtain ⟨l16,e16,hp⟩:=bind_some' hp
      refine sto_k (eInt .i64) w0 (i:=1) (j:=0) (p:=p15) rfl rfl f_ g15 i15 e16 rfl rfl (fun _ h=>by have h:_ = [_]:=h; subst h; exact rfl) fun H17 k17 w17 s17 c17=>?_
      dsimp only [List.set] at w17 s17 c17
      exact ac.j25_P (@ih) rfl ((st_len e16).symm) ⟨w17,(s0.trans s17),(ik.step s17),c17⟩ hp
     ·replace hp:=bif_f hb hp
      exact ac.j26_P (@ih) rfl rfl ⟨w0,s0,ik,f_⟩ hp
    ·replace hp:=bif_f hb hp
     exact ih rfl rfl ⟨w0,s0,ik,f_⟩ hp
  ·replace hp:=bif_f hb hp
   exact ac.j21_P (@hC509) rfl rfl ⟨w0,s0,ik,f_⟩ hp
def ac.pl509 (F:Nat) :Nat→List Int→List Int→Bool→Option (List Int)
 | 0,_,_,_=>none
 | k + 1,jQ,jz,fz=>(bif fz then (ac.pl8151 F (ac.pl509 F k) F jQ jz false 0) else (some jz))
termination_by structural n=>n
theorem ac.l509_P {F:Nat} {H0:Hp} {Ri R0:List Rs}  :∀ k,ac.S509 H0 Ri R0  (ac.l509 F (ao.tw F) (af.tw F) (ah.tw F)  k) (ac.pl509 F  k):=by
 intro k
 induction k with
 | zero=>
  intro qL qM mM mN qN qO jQ jz qP qQ fz H zt zu h0 r hp
  exact nomatch (show (none:Option (List Int)) = some r from hp)
 | succ k ih=>
  intro qL qM mM mN qN qO jQ jz qP qQ fz H zt zu h0 r hp
  obtain ⟨w0,s0,Gf,zv⟩:=h0
  subst zt
  subst zu
  unfold ac.pl509 at hp
  unfold ac.l509
  refine bif_ex (fun hb=>?_) (fun hb=>?_)
  ·replace hp:=bif_t hb hp
   exact ac.l8151_P (@ih) F rfl rfl ⟨w0,s0,Gf,zv⟩ hp
  ·replace hp:=bif_f hb hp
   obtain ⟨w1,s1⟩:=w0.pick' [1] 2 rfl rfl rfl
   dsimp only [pk,pks,nth,List.drop] at w1 s1
   obtain rfl:=Option.some.inj hp
   exact ⟨_,_,rfl,_,_,_,_,rfl,rfl,w1,(s0.trans s1),(zv.step s1)⟩
def ac.pj27 (F:Nat)  (nc:List Int) (nd:List Int):Option (List Int):=ac.pl509 F F nc nd true
theorem ac.j27_P {F:Nat} {H0:Hp} {Ri R0:List Rs}   {zw zx:ON} {uQ uR:Nat} {zy zz:Cap} {nc nd:List Int} {zA zB:List AV} {H:Hp} (Gg:uQ = nc.length) (Gh:uR = nd.length) (h0:Out H0 Ri H (Rs.own ⟨zw,uQ,zy⟩ (eInt .i64).z zA :: Rs.own ⟨zx,uR,zz⟩ (eInt .i64).z zB :: R0) fun R=>CR (eInt .i64) H R zA nc∧CR (eInt .i64) H R zB nd) {r:List Int} (hp:ac.pj27 F  nc nd = some r):∃ v H',ac.j27 F (ao.tw F) (af.tw F) (ah.tw F)  ⟨zw,uQ,zy⟩ ⟨zx,uR,zz⟩ H = some (v,H')∧ac.Q H0 Ri R0  r v H':=by
 obtain ⟨w0,s0,Gi,Gj⟩:=h0
 subst Gg
 subst Gh
 unfold ac.pj27 at hp
 unfold ac.j27
 exact ac.l509_P F rfl rfl ⟨w0,s0,Gi,Gj⟩ hp
def ac.pl253 (F:Nat) :Nat→List Int→List Int→List Int→Int→Option (List Int)
 | 0,_,_,_,_=>none
 | k + 1,ig,ii,iy,cQ=>(bif (decide (cQ < (ii.length:Int))) then ((ix ii cQ).bind fun n1=>(bif ((gt ii n1) == cQ) then ((ix ig (IntKind.i64.wrap (4 * cQ))).bind fun n2=>(ix iy (gt ig n2)).bind fun n3=>(some (iy.set n3 0)).bind fun l4=>ac.pj28 F (ac.pl253 F k) ig ii l4 cQ) else (ac.pj29 F (ac.pl253 F k) ig ii iy cQ))) else (ac.pj27 F ig iy))
termination_by structural n=>n
theorem ac.l253_P {F:Nat} {H0:Hp} {Ri R0:List Rs}  :∀ k,ac.S253 H0 Ri R0  (ac.l253 F (ao.tw F) (af.tw F) (ah.tw F)  k) (ac.pl253 F  k):=by
 intro k
 induction k with
 | zero=>
  intro qC qD qE mD mE mF qF qG qH ig ii iy qI qJ qK cQ H zC zD zE h0 r hp
  exact nomatch (show (none:Option (List Int)) = some r from hp)
 | succ k ih=>
  intro qC qD qE mD mE mF qF qG qH ig ii iy qI qJ qK cQ H zC zD zE h0 r hp
  obtain ⟨w0,s0,qX,uS,qY⟩:=h0
  subst zC
  subst zD
  subst zE
  unfold ac.pl253 at hp
  unfold ac.l253
  refine bif_ex (fun hb=>?_) (fun hb=>?_)
  ·replace hp:=bif_t hb hp
   obtain ⟨n1,g1,hp⟩:=bind_some' hp
   obtain ⟨p1,q1,i1,h1,j1⟩:=W.ixo (E:=(eInt .i64)) w0 (i:=1) rfl rfl uS g1
   refine bind_ex i1 ?_
   have h1:_ = [_]:=h1
   subst h1
   refine bind_ex (ldI_of (j1 0 _ rfl)) ?_
   refine bif_ex (fun hb=>?_) (fun hb=>?_)
   ·replace hp:=bif_t hb hp
    obtain ⟨n2,g2,hp⟩:=bind_some' hp
    obtain ⟨p2,q2,i2,h2,j2⟩:=W.ixo (E:=(eInt .i64)) w0 (i:=0) rfl rfl qX g2
    refine bind_ex i2 ?_
    have h2:_ = [_]:=h2
    subst h2
    refine bind_ex (ldI_of (j2 0 _ rfl)) ?_
    obtain ⟨n3,g3,hp⟩:=bind_some' hp
    obtain ⟨p3,q3,i3,h3,j3⟩:=W.ixo (E:=(eInt .i64)) w0 (i:=2) rfl rfl qY g3
    refine bind_ex i3 ?_
    obtain ⟨l4,e4,hp⟩:=bind_some' hp
    refine sto_k (eInt .i64) w0 (i:=2) (j:=0) (p:=p3) rfl rfl qY g3 i3 e4 rfl rfl (fun _ h=>by have h:_ = [_]:=h; subst h; exact rfl) fun H5 k5 w5 s5 c5=>?_
    dsimp only [List.set] at w5 s5 c5
    exact ac.j28_P (@ih) rfl rfl ((st_len e4).symm) ⟨w5,(s0.trans s5),(qX.step s5),(uS.step s5),c5⟩ hp
   ·replace hp:=bif_f hb hp
    exact ac.j29_P (@ih) rfl rfl rfl ⟨w0,s0,qX,uS,qY⟩ hp
  ·replace hp:=bif_f hb hp
   obtain ⟨w6,s6⟩:=w0.pick' [0,2] 3 rfl rfl rfl
   dsimp only [pk,pks,nth,List.drop] at w6 s6
   exact ac.j27_P rfl rfl ⟨w6,(s0.trans s6),(qX.step s6),(qY.step s6)⟩ hp
def ac.pj30 (F:Nat)  (ng:List Int) (nh:List Int) (ni:List Int):Option (List Int):=ac.pl253 F F ng nh ni 0
theorem ac.j30_P {F:Nat} {H0:Hp} {Ri R0:List Rs}   {zF zG zH:ON} {uT uU uV:Nat} {zI zJ zK:Cap} {ng nh ni:List Int} {zL zM zN:List AV} {H:Hp} (Gk:uT = ng.length) (Gl:uU = nh.length) (Gm:uV = ni.length) (h0:Out H0 Ri H (Rs.own ⟨zF,uT,zI⟩ (eInt .i64).z zL :: Rs.own ⟨zG,uU,zJ⟩ (eInt .i64).z zM :: Rs.own ⟨zH,uV,zK⟩ (eInt .i64).z zN :: R0) fun R=>CR (eInt .i64) H R zL ng∧CR (eInt .i64) H R zM nh∧CR (eInt .i64) H R zN ni) {r:List Int} (hp:ac.pj30 F  ng nh ni = some r):∃ v H',ac.j30 F (ao.tw F) (af.tw F) (ah.tw F)  ⟨zF,uT,zI⟩ ⟨zG,uU,zJ⟩ ⟨zH,uV,zK⟩ H = some (v,H')∧ac.Q H0 Ri R0  r v H':=by
 obtain ⟨w0,s0,Gn,Gp,Gq⟩:=h0
 subst Gk
 subst Gl
 subst Gm
 unfold ac.pj30 at hp
 unfold ac.j30
 exact ac.l253_P F rfl rfl rfl ⟨w0,s0,Gn,Gp,Gq⟩ hp
def ac.pl125 (F:Nat) :Nat→List Int→List Int→List Int→Int→Option (List Int)
 | 0,_,_,_,_=>none
 | k + 1,jx,jy,eM,ej=>(bif (decide (ej < (eM.length:Int))) then ((ix eM ej).bind fun n1=>(some (eM.set n1 (-1))).bind fun l2=>ac.pl125 F k jx jy l2 (IntKind.i64.wrap (ej + 1))) else (ac.pj30 F jx jy eM))
termination_by structural n=>n
theorem ac.l125_P {F:Nat} {H0:Hp} {Ri R0:List Rs}  :∀ k,ac.S125 H0 Ri R0  (ac.l125 F (ao.tw F) (af.tw F) (ah.tw F)  k) (ac.pl125 F  k):=by
 intro k
 induction k with
 | zero=>
  intro qw qx iO mB mC ie qy qz iQ jx jy eM qA qB iS ej H zO zP nj h0 r hp
  exact nomatch (show (none:Option (List Int)) = some r from hp)
 | succ k ih=>
  intro qw qx iO mB mC ie qy qz iQ jx jy eM qA qB iS ej H zO zP nj h0 r hp
  obtain ⟨w0,s0,zQ,zR,lf⟩:=h0
  subst zO
  subst zP
  subst nj
  unfold ac.pl125 at hp
  unfold ac.l125
  refine bif_ex (fun hb=>?_) (fun hb=>?_)
  ·replace hp:=bif_t hb hp
   obtain ⟨n1,g1,hp⟩:=bind_some' hp
   obtain ⟨p1,q1,i1,h1,j1⟩:=W.ixo (E:=(eInt .i64)) w0 (i:=2) rfl rfl lf g1
   refine bind_ex i1 ?_
   obtain ⟨l2,e2,hp⟩:=bind_some' hp
   refine sto_k (eInt .i64) w0 (i:=2) (j:=0) (p:=p1) rfl rfl lf g1 i1 e2 rfl rfl (fun _ h=>by have h:_ = [_]:=h; subst h; exact rfl) fun H3 k3 w3 s3 c3=>?_
   dsimp only [List.set] at w3 s3 c3
   exact ih rfl rfl ((st_len e2).symm) ⟨w3,(s0.trans s3),(zQ.step s3),(zR.step s3),c3⟩ hp
  ·replace hp:=bif_f hb hp
   exact ac.j30_P rfl rfl rfl ⟨w0,s0,zQ,zR,lf⟩ hp
def ac.p (F:Nat) (ad:List (Int×Int×Int×Int×Int)):Option (List Int):=(ao.p F ad).bind fun r2=>(af.p F ad).bind fun r4=>(ah.p F ad).bind fun r6=>(mkn (r6.length:Int) (0:Int)).bind fun l8=>ac.pl125 F F r2 r4 l8 0
theorem ac.P {F:Nat} {av:ON} {aj:Nat} {aw:Cap} {ad:List (Int×Int×Int×Int×Int)} {ab:Int} {H:Hp} {R0:List Rs} (ba:aj = ad.length) (h0:Inn H R0 fun R=>ROs (ePair (eInt .i64) (ePair (eInt .i64) (ePair (eInt .i64) (ePair (eInt .i64) (eInt .i64))))) H R ⟨av,aj,aw⟩ ad) {r:List Int} (hp:ac.p F ad = some r):∃ v H',ac.tw F ⟨av,aj,aw⟩ ab H = some (v,H')∧ac.Q H R0 R0  r v H':=by
 obtain ⟨w0,aL⟩:=h0
 subst ba
 unfold ac.p at hp
 unfold ac.tw ac.twX
 have s0:=w0.rf
 refine new_k w0 fun H1 w1 s1=>?_
 refine bind_ex (ldSl_of (w1.ld (i:=0) rfl rfl)) ?_
 refine bind_ex (ldI_of (w1.ld (i:=0) rfl rfl)) ?_
 obtain ⟨r2,e2,hp⟩:=bind_some' hp
 refine call_ex (ao.P rfl ⟨w1,(aL.step s1)⟩ e2) ?_
 rintro _ H3 ⟨o0a_3,o0n_3,o0c_3,o0k_3,rfl,rfl,w3,s3,f3_0⟩
 refine bind_ex rfl ?_
 refine bind_ex (ldSl_of (w3.ld (i:=1) rfl rfl)) ?_
 refine bind_ex (ldI_of (w3.ld (i:=1) rfl rfl)) ?_
 obtain ⟨r4,e4,hp⟩:=bind_some' hp
 refine call_ex (af.P rfl ⟨w3,(aL.step (s1.trans s3))⟩ e4) ?_
 rintro _ H5 ⟨o0a_5,o0n_5,o0c_5,o0k_5,rfl,rfl,w5,s5,f5_0⟩
 refine bind_ex rfl ?_
 refine bind_ex (ldSl_of (w5.ld (i:=2) rfl rfl)) ?_
 refine bind_ex (ldI_of (w5.ld (i:=2) rfl rfl)) ?_
 obtain ⟨r6,e6,hp⟩:=bind_some' hp
 refine call_ex (ah.P rfl ⟨w5,(aL.step (s1.trans (s3.trans s5)))⟩ e6) ?_
 rintro _ H7 ⟨o0a_7,o0n_7,o0c_7,o0k_7,rfl,rfl,w7,s7,f7_0⟩
 refine bind_ex rfl ?_
 obtain ⟨l8,e8,hp⟩:=bind_some' hp
 refine mk_k (eInt .i64) (0:Int) w7 rfl rfl rfl e8 fun H9 k9 w9 s9 c9=>?_
 obtain ⟨w10,s10⟩:=w9.pick' [3,2,0] 5 rfl rfl rfl
 dsimp only [pk,pks,nth,List.drop] at w10 s10
 exact ac.l125_P F rfl rfl rfl ⟨w10,(s0.trans (s1.trans (s3.trans (s5.trans (s7.trans (s9.trans s10)))))),(f3_0.step (s5.trans (s7.trans (s9.trans s10)))),(f5_0.step (s7.trans (s9.trans s10))),(c9.step s10)⟩ hp
def bA.Q (H0:Hp) (Ri R0:List Rs)  (r:List Int×Bool) (v:AV) (H':Hp):Prop:=∃ o0a:ON,∃ o0n:Nat,∃ o0c:Cap,∃ o0k:List AV,v = (.tup [(.sl ⟨o0a,o0n,o0c⟩),(.bool r.2)])∧o0n = (r.1).length∧Out H0 Ri H' (Rs.own ⟨o0a,o0n,o0c⟩ (eInt .i64).z o0k :: R0) fun R=>CR (eInt .i64) H' R o0k (r.1)
def bA.p (F:Nat) (ad:List (Int×Int×Int×Int×Int)) (ab:Int):Option (List Int×Bool):=(bz.p F ad ab).bind fun r2=>(bif (!r2) then (some (([]:List Int),false)) else ((ac.p F ad).bind fun r6=>some (r6,true)))
theorem bA.P {F:Nat} {av:ON} {aj:Nat} {aw:Cap} {ad:List (Int×Int×Int×Int×Int)} {ab:Int} {H:Hp} {R0:List Rs} (ba:aj = ad.length) (h0:Inn H R0 fun R=>ROs (ePair (eInt .i64) (ePair (eInt .i64) (ePair (eInt .i64) (ePair (eInt .i64) (eInt .i64))))) H R ⟨av,aj,aw⟩ ad) {r:List Int×Bool} (hp:bA.p F ad ab = some r):∃ v H',bA.tw F ⟨av,aj,aw⟩ ab H = some (v,H')∧bA.Q H R0 R0  r v H':=by
 obtain ⟨w0,aL⟩:=h0
 subst ba
 unfold bA.p at hp
 unfold bA.tw bA.twX
 have s0:=w0.rf
 refine new_k w0 fun H1 w1 s1=>?_
 refine bind_ex (ldSl_of (w1.ld (i:=0) rfl rfl)) ?_
 refine bind_ex (ldI_of (w1.ld (i:=0) rfl rfl)) ?_
 obtain ⟨r2,e2,hp⟩:=bind_some' hp
 refine call_ex (bz.P rfl ⟨w1,(aL.step s1)⟩ e2) ?_
 rintro _ H3 ⟨rfl,w3,s3,_⟩
 refine bind_ex rfl ?_
 refine bif_ex (fun hb=>?_) (fun hb=>?_)
 ·replace hp:=bif_t hb hp
  refine newS_k (eInt .i64) w3 (n:=0) (l:=([]:List Int)) rfl CR.empty rfl fun H4 w4 s4 c4=>?_
  obtain ⟨w5,s5⟩:=w4.pick' [0] 2 rfl rfl rfl
  dsimp only [pk,pks,nth,List.drop] at w5 s5
  obtain rfl:=Option.some.inj hp
  exact ⟨_,_,rfl,_,_,_,_,rfl,(show 0 = List.length ([]:List Int) from rfl),w5,(s0.trans (s1.trans (s3.trans (s4.trans s5)))),(c4.step s5)⟩
 ·replace hp:=bif_f hb hp
  refine bind_ex (ldSl_of (w3.ld (i:=0) rfl rfl)) ?_
  refine bind_ex (ldI_of (w3.ld (i:=0) rfl rfl)) ?_
  obtain ⟨r6,e6,hp⟩:=bind_some' hp
  refine call_ex (ac.P rfl ⟨w3,(aL.step (s1.trans s3))⟩ e6) ?_
  rintro _ H7 ⟨o0a_7,o0n_7,o0c_7,o0k_7,rfl,rfl,w7,s7,f7_0⟩
  refine bind_ex rfl ?_
  obtain ⟨w8,s8⟩:=w7.pick' [0] 2 rfl rfl rfl
  dsimp only [pk,pks,nth,List.drop] at w8 s8
  obtain rfl:=Option.some.inj hp
  exact ⟨_,_,rfl,_,_,_,_,rfl,rfl,w8,(s0.trans (s1.trans (s3.trans (s7.trans s8)))),(f7_0.step s8)⟩
def bf.Q (H0:Hp) (Ri R0:List Rs)  (r:Int) (v:AV) (H':Hp):Prop:=v = (.int .i64 r)∧Out H0 Ri H' (R0) fun R=>True
def bf.p (F:Nat) (ad:List (Int×Int×Int×Int×Int)):Option (Int):=some (ad.length:Int)
theorem bf.P {F:Nat} {av:ON} {aj:Nat} {aw:Cap} {ad:List (Int×Int×Int×Int×Int)} {H:Hp} {R0:List Rs} (ba:aj = ad.length) (h0:Inn H R0 fun R=>ROs (ePair (eInt .i64) (ePair (eInt .i64) (ePair (eInt .i64) (ePair (eInt .i64) (eInt .i64))))) H R ⟨av,aj,aw⟩ ad) {r:Int} (hp:bf.p F ad = some r):∃ v H',bf.tw F ⟨av,aj,aw⟩ H = some (v,H')∧bf.Q H R0 R0  r v H':=by
 obtain ⟨w0,aL⟩:=h0
 subst ba
 unfold bf.p at hp
 unfold bf.tw bf.twX
 have s0:=w0.rf
 obtain rfl:=Option.some.inj hp
 exact ⟨_,_,rfl,rfl,w0,s0,trivial⟩
def bk.Q (H0:Hp) (Ri R0:List Rs)  (r:Bool) (v:AV) (H':Hp):Prop:=v = (.bool r)∧Out H0 Ri H' (R0) fun R=>True
def bk.p (F:Nat) (aa:Int) (ae:Int) (bN:Int):Option (Bool):=(bif (decide (ae ≤ aa)) then (some (decide (aa ≤ bN))) else (some false))
theorem bk.P {F:Nat} {aa ae bN:Int} {H:Hp} {R0:List Rs}  (h0:Inn H R0 fun R=>True) {r:Bool} (hp:bk.p F aa ae bN = some r):∃ v H',bk.tw F aa ae bN H = some (v,H')∧bk.Q H R0 R0  r v H':=by
 obtain ⟨w0,_⟩:=h0
 unfold bk.p at hp
 unfold bk.tw bk.twX
 have s0:=w0.rf
 refine bif_ex (fun hb=>?_) (fun hb=>?_)
 ·replace hp:=bif_t hb hp
  obtain rfl:=Option.some.inj hp
  exact ⟨_,_,rfl,rfl,w0,s0,trivial⟩
 ·replace hp:=bif_f hb hp
  obtain rfl:=Option.some.inj hp
  exact ⟨_,_,rfl,rfl,w0,s0,trivial⟩
def bG.Q (H0:Hp) (Ri R0:List Rs)  (r:Bool) (v:AV) (H':Hp):Prop:=v = (.bool r)∧Out H0 Ri H' (R0) fun R=>True
def bG.p (F:Nat) (az:Int):Option (Bool):=(bif (az != 1) then (some (az != (-1))) else (some false))
theorem bG.P {F:Nat} {aa ab aA aB az:Int} {H:Hp} {R0:List Rs}  (h0:Inn H R0 fun R=>True) {r:Bool} (hp:bG.p F az = some r):∃ v H',bG.tw F aa ab aA aB az H = some (v,H')∧bG.Q H R0 R0  r v H':=by
 obtain ⟨w0,_⟩:=h0
 unfold bG.p at hp
 unfold bG.tw bG.twX
 have s0:=w0.rf
 refine new_k w0 fun H1 w1 s1=>?_
 refine bind_ex (ldI_of (w1.ld (i:=0) rfl rfl)) ?_
 refine bif_ex (fun hb=>?_) (fun hb=>?_)
 ·replace hp:=bif_t hb hp
  refine bind_ex (ldI_of (w1.ld (i:=0) rfl rfl)) ?_
  obtain ⟨w2,s2⟩:=w1.pick' [] 1 rfl rfl rfl
  dsimp only [pk,pks,nth,List.drop] at w2 s2
  obtain rfl:=Option.some.inj hp
  exact ⟨_,_,rfl,rfl,w2,(s0.trans (s1.trans s2)),trivial⟩
 ·replace hp:=bif_f hb hp
  obtain ⟨w3,s3⟩:=w1.pick' [] 1 rfl rfl rfl
  dsimp only [pk,pks,nth,List.drop] at w3 s3
  obtain rfl:=Option.some.inj hp
  exact ⟨_,_,rfl,rfl,w3,(s0.trans (s1.trans s3)),trivial⟩
def aP.Q (H0:Hp) (Ri R0:List Rs)  (r:Int) (v:AV) (H':Hp):Prop:=v = (.int .i64 r)∧Out H0 Ri H' (R0) fun R=>True
def aP.S13 (H0:Hp) (Ri R0:List Rs)  (C:Sl→Int→Int→Hp→OA) (pC:List (Int×Int×Int×Int×Int)→Int→Int→Option (Int)):Prop:=∀ {qZ:ON} {nk:Nat} {q_:Cap} {iT:List (Int×Int×Int×Int×Int)} {ew dK:Int},∀ {H:Hp},nk = iT.length→(Out H0 Ri H R0 fun R=>ROs (ePair (eInt .i64) (ePair (eInt .i64) (ePair (eInt .i64) (ePair (eInt .i64) (eInt .i64))))) H R ⟨qZ,nk,q_⟩ iT)→∀ {r:Int},pC iT ew dK = some r→∃ v H',C ⟨qZ,nk,q_⟩ ew dK H = some (v,H')∧aP.Q H0 Ri R0  r v H'
def aP.pl13 (F:Nat) :Nat→List (Int×Int×Int×Int×Int)→Int→Int→Option (Int)
 | 0,_,_,_=>none
 | k + 1,iT,ew,dK=>(bif (decide (dK < ew)) then ((ix iT dK).bind fun n1=>(bG.p F ((gt iT n1).2.2.2.2)).bind fun r2=>(bif r2 then (some dK) else (aP.pl13 F k iT ew (IntKind.i64.wrap (dK + 1))))) else (some (-1)))
termination_by structural n=>n
theorem aP.l13_P {F:Nat} {H0:Hp} {Ri R0:List Rs}  :∀ k,aP.S13 H0 Ri R0  (aP.l13 F (bG.tw F)  k) (aP.pl13 F  k):=by
 intro k
 induction k with
 | zero=>
  intro qZ nk q_ iT ew dK H zS h0 r hp
  exact nomatch (show (none:Option (Int)) = some r from hp)
 | succ k ih=>
  intro qZ nk q_ iT ew dK H zS h0 r hp
  obtain ⟨w0,s0,zT⟩:=h0
  subst zS
  unfold aP.pl13 at hp
  unfold aP.l13
  refine bif_ex (fun hb=>?_) (fun hb=>?_)
  ·replace hp:=bif_t hb hp
   obtain ⟨n1,g1,hp⟩:=bind_some' hp
   obtain ⟨p1,q1,i1,h1,j1⟩:=ROs.ixr zT rfl g1
   refine bind_ex i1 ?_
   obtain ⟨_,_,rfl,rfl,_,_,rfl,rfl,_,_,rfl,rfl,_,_,rfl,rfl,rfl⟩:=h1
   refine bind_ex (ldI_of (j1 0 _ rfl)) ?_
   refine bind_ex (ldI_of (j1 1 _ rfl)) ?_
   refine bind_ex (ldI_of (j1 2 _ rfl)) ?_
   refine bind_ex (ldI_of (j1 3 _ rfl)) ?_
   refine bind_ex (ldI_of (j1 4 _ rfl)) ?_
   obtain ⟨r2,e2,hp⟩:=bind_some' hp
   refine call_ex (bG.P ⟨w0,trivial⟩ e2) ?_
   rintro _ H3 ⟨rfl,w3,s3,_⟩
   refine bind_ex rfl ?_
   refine bif_ex (fun hb=>?_) (fun hb=>?_)
   ·replace hp:=bif_t hb hp
    obtain rfl:=Option.some.inj hp
    exact ⟨_,_,rfl,rfl,w3,(s0.trans s3),trivial⟩
   ·replace hp:=bif_f hb hp
    exact ih rfl ⟨w3,(s0.trans s3),(zT.step s3)⟩ hp
  ·replace hp:=bif_f hb hp
   obtain rfl:=Option.some.inj hp
   exact ⟨_,_,rfl,rfl,w0,s0,trivial⟩
def aP.p (F:Nat) (ad:List (Int×Int×Int×Int×Int)):Option (Int):=aP.pl13 F F ad (ad.length:Int) 0
theorem aP.P {F:Nat} {av:ON} {aj:Nat} {aw:Cap} {ad:List (Int×Int×Int×Int×Int)} {H:Hp} {R0:List Rs} (ba:aj = ad.length) (h0:Inn H R0 fun R=>ROs (ePair (eInt .i64) (ePair (eInt .i64) (ePair (eInt .i64) (ePair (eInt .i64) (eInt .i64))))) H R ⟨av,aj,aw⟩ ad) {r:Int} (hp:aP.p F ad = some r):∃ v H',aP.tw F ⟨av,aj,aw⟩ H = some (v,H')∧aP.Q H R0 R0  r v H':=by
 obtain ⟨w0,aL⟩:=h0
 subst ba
 unfold aP.p at hp
 unfold aP.tw aP.twX
 have s0:=w0.rf
 exact aP.l13_P F rfl ⟨w0,s0,aL⟩ hp
def bB.Q (H0:Hp) (Ri R0:List Rs)  (r:Bool) (v:AV) (H':Hp):Prop:=v = (.bool r)∧Out H0 Ri H' (R0) fun R=>True
def bB.p (F:Nat) (ad:List (Int×Int×Int×Int×Int)):Option (Bool):=(aP.p F ad).bind fun r1=>some (decide (r1 ≥ 0))
theorem bB.P {F:Nat} {av:ON} {aj:Nat} {aw:Cap} {ad:List (Int×Int×Int×Int×Int)} {H:Hp} {R0:List Rs} (ba:aj = ad.length) (h0:Inn H R0 fun R=>ROs (ePair (eInt .i64) (ePair (eInt .i64) (ePair (eInt .i64) (ePair (eInt .i64) (eInt .i64))))) H R ⟨av,aj,aw⟩ ad) {r:Bool} (hp:bB.p F ad = some r):∃ v H',bB.tw F ⟨av,aj,aw⟩ H = some (v,H')∧bB.Q H R0 R0  r v H':=by
 obtain ⟨w0,aL⟩:=h0
 subst ba
 unfold bB.p at hp
 unfold bB.tw bB.twX
 have s0:=w0.rf
 obtain ⟨r1,e1,hp⟩:=bind_some' hp
 refine call_ex (aP.P rfl ⟨w0,aL⟩ e1) ?_
 rintro _ H2 ⟨rfl,w2,s2,_⟩
 refine bind_ex rfl ?_
 obtain rfl:=Option.some.inj hp
 exact ⟨_,_,rfl,rfl,w2,(s0.trans s2),trivial⟩
def bits_Mul64.Q (H0:Hp) (Ri R0:List Rs)  (r:Int×Int) (v:AV) (H':Hp):Prop:=v = (.tup [(.int .u64 r.1),(.int .u64 r.2)])∧Out H0 Ri H' (R0) fun R=>True
def bits_Mul64.p (F:Nat) (aa:Int) (ae:Int):Option (Int×Int):=some ((IntKind.u64.wrap ((IntKind.u64.wrap ((IntKind.u64.wrap ((Int.fdiv aa (2 ^ (min (32:Int).toNat (IntKind.u64).bits))) * (Int.fdiv ae (2 ^ (min (32:Int).toNat (IntKind.u64).bits))))) + (Int.fdiv (IntKind.u64.wrap ((IntKind.u64.wrap ((Int.fdiv aa (2 ^ (min (32:Int).toNat (IntKind.u64).bits))) * (Go.bits .and .u64 ae 4294967295))) + (Int.fdiv (IntKind.u64.wrap ((Go.bits .and .u64 aa 4294967295) * (Go.bits .and .u64 ae 4294967295))) (2 ^ (min (32:Int).toNat (IntKind.u64).bits))))) (2 ^ (min (32:Int).toNat (IntKind.u64).bits))))) + (Int.fdiv (IntKind.u64.wrap ((Go.bits .and .u64 (IntKind.u64.wrap ((IntKind.u64.wrap ((Int.fdiv aa (2 ^ (min (32:Int).toNat (IntKind.u64).bits))) * (Go.bits .and .u64 ae 4294967295))) + (Int.fdiv (IntKind.u64.wrap ((Go.bits .and .u64 aa 4294967295) * (Go.bits .and .u64 ae 4294967295))) (2 ^ (min (32:Int).toNat (IntKind.u64).bits))))) 4294967295) + (IntKind.u64.wrap ((Go.bits .and .u64 aa 4294967295) * (Int.fdiv ae (2 ^ (min (32:Int).toNat (IntKind.u64).bits))))))) (2 ^ (min (32:Int).toNat (IntKind.u64).bits))))),(IntKind.u64.wrap (aa * ae)))
theorem bits_Mul64.P {F:Nat} {aa ae:Int} {H:Hp} {R0:List Rs}  (h0:Inn H R0 fun R=>True) {r:Int×Int} (hp:bits_Mul64.p F aa ae = some r):∃ v H',bits_Mul64.tw F aa ae H = some (v,H')∧bits_Mul64.Q H R0 R0  r v H':=by
 obtain ⟨w0,_⟩:=h0
 unfold bits_Mul64.p at hp
 unfold bits_Mul64.tw bits_Mul64.twX
 have s0:=w0.rf
 obtain rfl:=Option.some.inj hp
 exact ⟨_,_,rfl,rfl,w0,s0,trivial⟩
def bits_Mul.Q (H0:Hp) (Ri R0:List Rs)  (r:Int×Int) (v:AV) (H':Hp):Prop:=v = (.tup [(.int .u64 r.1),(.int .u64 r.2)])∧Out H0 Ri H' (R0) fun R=>True
def bits_Mul.p (F:Nat) (aa:Int) (ae:Int):Option (Int×Int):=(bits_Mul64.p F aa ae).bind fun r1=>some (r1.1,r1.2)
theorem bits_Mul.P {F:Nat} {aa ae:Int} {H:Hp} {R0:List Rs}  (h0:Inn H R0 fun R=>True) {r:Int×Int} (hp:bits_Mul.p F aa ae = some r):∃ v H',bits_Mul.tw F aa ae H = some (v,H')∧bits_Mul.Q H R0 R0  r v H':=by
 obtain ⟨w0,_⟩:=h0
 unfold bits_Mul.p at hp
 unfold bits_Mul.tw bits_Mul.twX
 have s0:=w0.rf
 obtain ⟨r1,e1,hp⟩:=bind_some' hp
 refine call_ex (bits_Mul64.P ⟨w0,trivial⟩ e1) ?_
 rintro _ H2 ⟨rfl,w2,s2,_⟩
 refine bind_ex rfl ?_
 refine bind_ex rfl ?_
 refine bind_ex rfl ?_
 refine bind_ex rfl ?_
 refine bind_ex rfl ?_
 obtain rfl:=Option.some.inj hp
 exact ⟨_,_,rfl,rfl,w2,(s0.trans s2),trivial⟩
def aI.Q (H0:Hp) (Ri R0:List Rs)  (r:(List (Int×Int))) (v:AV) (H':Hp):Prop:=∃ o0a:ON,∃ o0n:Nat,∃ o0k:List AV,v = (.sl ⟨o0a,o0n,.ex o0n⟩)∧o0n = (r).length∧Out H0 Ri H' (Rs.own ⟨o0a,o0n,.ex o0n⟩ (ePair (eInt .i64) (eInt .i64)).z o0k :: R0) fun R=>CR (ePair (eInt .i64) (eInt .i64)) H' R o0k (r)
def aI.pj1 (F:Nat)  (gz:List (Int×Int)) (fH:Int):Option ((List (Int×Int))):=(mkn (IntKind.i64.wrap fH) ((0:Int),(0:Int))).bind fun l1=>(some (cpl l1 gz)).bind fun l3=>(rept F l3 ((min gz.length l1.length:Nat):Int)).bind fun l5=>some l5
theorem aI.j1_P {F:Nat} {H0:Hp} {Ri R0:List Rs}   {nl:ON} {jS:Nat} {nm:Cap} {gz:List (Int×Int)} {fH:Int} {H:Hp} (uW:jS = gz.length) (h0:Out H0 Ri H R0 fun R=>ROs (ePair (eInt .i64) (eInt .i64)) H R ⟨nl,jS,nm⟩ gz) {r:(List (Int×Int))} (hp:aI.pj1 F  gz fH = some r):∃ v H',aI.j1 F (bits_Mul.tw F)  ⟨nl,jS,nm⟩ fH H = some (v,H')∧aI.Q H0 Ri R0  r v H':=by
 obtain ⟨w0,s0,uX⟩:=h0
 subst uW
 unfold aI.pj1 at hp
 unfold aI.j1
 obtain ⟨l1,e1,hp⟩:=bind_some' hp
 refine mk_k (ePair (eInt .i64) (eInt .i64)) ((0:Int),(0:Int)) w0 ⟨[_],_,rfl,rfl,rfl⟩ rfl rfl e1 fun H2 k2 w2 s2 c2=>?_
 obtain ⟨x3,h3,c3⟩:=(uX.step s2).row (z:=(ePair (eInt .i64) (eInt .i64)).z) rfl
 obtain ⟨l3,e3,hp⟩:=bind_some' hp
 refine cpy_k (ePair (eInt .i64) (eInt .i64)) w2 (i:=0) rfl rfl c2 h3 c3 rfl rfl e3 fun k4 H4 w4 s4 c4=>?_
 dsimp only [List.set] at w4 s4 c4
 obtain ⟨l5,e5,hp⟩:=bind_some' hp
 refine rept_K (ePair (eInt .i64) (eInt .i64)) rfl (L:=aI.l254 F (bits_Mul.tw F)) (fun _ _ _ _=>rfl) w4 (i:=0) rfl c4 e5 fun H6 k6 w6 s6 c6=>?_
 dsimp only [List.set] at w6 s6 c6
 obtain rfl:=Option.some.inj hp
 exact ⟨_,_,rfl,_,_,_,rfl,((cpl_len e3).symm.trans (rept_len e5).symm),w6,(s0.trans (s2.trans (s4.trans s6))),c6⟩
def aI.pj2 (F:Nat)  (gA:List (Int×Int)) (gj:Int):Option ((List (Int×Int))):=(bits_Mul.p F (IntKind.u64.wrap (gA.length:Int)) (IntKind.u64.wrap gj)).bind fun r1=>(bif (decide (r1.1 > 0)) then (none) else ((bif (decide (r1.2 > 9223372036854775807)) then (none) else (aI.pj1 F gA r1.2))))
theorem aI.j2_P {F:Nat} {H0:Hp} {Ri R0:List Rs}   {nn:ON} {jT:Nat} {np:Cap} {gA:List (Int×Int)} {gj:Int} {H:Hp} (uY:jT = gA.length) (h0:Out H0 Ri H R0 fun R=>ROs (ePair (eInt .i64) (eInt .i64)) H R ⟨nn,jT,np⟩ gA) {r:(List (Int×Int))} (hp:aI.pj2 F  gA gj = some r):∃ v H',aI.j2 F (bits_Mul.tw F)  ⟨nn,jT,np⟩ gj H = some (v,H')∧aI.Q H0 Ri R0  r v H':=by
 obtain ⟨w0,s0,uZ⟩:=h0
 subst uY
 unfold aI.pj2 at hp
 unfold aI.j2
 obtain ⟨r1,e1,hp⟩:=bind_some' hp
 refine call_ex (bits_Mul.P ⟨w0,trivial⟩ e1) ?_
 rintro _ H2 ⟨rfl,w2,s2,_⟩
 refine bind_ex rfl ?_
 refine bind_ex rfl ?_
 refine bind_ex rfl ?_
 refine bind_ex rfl ?_
 refine bind_ex rfl ?_
 refine bif_ex (fun hb=>?_) (fun hb=>?_)
 ·replace hp:=bif_t hb hp
  cases hp
 ·replace hp:=bif_f hb hp
  refine bif_ex (fun hb=>?_) (fun hb=>?_)
  ·replace hp:=bif_t hb hp
   cases hp
  ·replace hp:=bif_f hb hp
   exact aI.j1_P rfl ⟨w2,(s0.trans s2),(uZ.step s2)⟩ hp
def aI.p (F:Nat) (ad:List (Int×Int)) (ae:Int):Option ((List (Int×Int))):=(bif (decide (ae < 0)) then (none) else (aI.pj2 F ad ae))
theorem aI.P {F:Nat} {av:ON} {aj:Nat} {aw:Cap} {ad:List (Int×Int)} {ae:Int} {H:Hp} {R0:List Rs} (ba:aj = ad.length) (h0:Inn H R0 fun R=>ROs (ePair (eInt .i64) (eInt .i64)) H R ⟨av,aj,aw⟩ ad) {r:(List (Int×Int))} (hp:aI.p F ad ae = some r):∃ v H',aI.tw F ⟨av,aj,aw⟩ ae H = some (v,H')∧aI.Q H R0 R0  r v H':=by
 obtain ⟨w0,aL⟩:=h0
 subst ba
 unfold aI.p at hp
 unfold aI.tw aI.twX
 have s0:=w0.rf
 refine bif_ex (fun hb=>?_) (fun hb=>?_)
 ·replace hp:=bif_t hb hp
  cases hp
 ·replace hp:=bif_f hb hp
  exact aI.j2_P rfl ⟨w0,s0,aL⟩ hp
def bi.Q (H0:Hp) (Ri R0:List Rs)  (r:Int×Int×Int×Int) (v:AV) (H':Hp):Prop:=v = (.agg [(.int .i64 r.1),(.int .i64 r.2.1),(.int .i64 r.2.2.1),(.int .i64 r.2.2.2)])∧Out H0 Ri H' (R0) fun R=>True
def bi.p (F:Nat) (aa:Int) (ab:Int) (aA:Int) (aB:Int):Option (Int×Int×Int×Int):=some (aa,ab,aA,aB)
theorem bi.P {F:Nat} {aa ab aA aB az:Int} {H:Hp} {R0:List Rs}  (h0:Inn H R0 fun R=>True) {r:Int×Int×Int×Int} (hp:bi.p F aa ab aA aB = some r):∃ v H',bi.tw F aa ab aA aB az H = some (v,H')∧bi.Q H R0 R0  r v H':=by
 obtain ⟨w0,_⟩:=h0
 unfold bi.p at hp
 unfold bi.tw bi.twX
 have s0:=w0.rf
 refine new_k w0 fun H1 w1 s1=>?_
 refine new_k w1 fun H2 w2 s2=>?_
 refine bind_ex (ldI_of (w2.ld (i:=1) rfl rfl)) ?_
 refine bind_ex (ldI_of (w2.ld (i:=1) rfl rfl)) ?_
 refine bind_ex (ldI_of (w2.ld (i:=1) rfl rfl)) ?_
 refine bind_ex (ldI_of (w2.ld (i:=1) rfl rfl)) ?_
 refine st_k w2 (i:=0) rfl rfl rfl fun H3 w3 s3=>?_
 dsimp only [List.set] at w3 s3
 refine st_k w3 (i:=0) rfl rfl rfl fun H4 w4 s4=>?_
 dsimp only [List.set] at w4 s4
 refine st_k w4 (i:=0) rfl rfl rfl fun H5 w5 s5=>?_
 dsimp only [List.set] at w5 s5
 refine st_k w5 (i:=0) rfl rfl rfl fun H6 w6 s6=>?_
 dsimp only [List.set] at w6 s6
 refine bind_ex (ldI_of (w6.ld (i:=0) rfl rfl)) ?_
 refine bind_ex (ldI_of (w6.ld (i:=0) rfl rfl)) ?_
 refine bind_ex (ldI_of (w6.ld (i:=0) rfl rfl)) ?_
 refine bind_ex (ldI_of (w6.ld (i:=0) rfl rfl)) ?_
 obtain ⟨w7,s7⟩:=w6.pick' [] 2 rfl rfl rfl
 dsimp only [pk,pks,nth,List.drop] at w7 s7
 obtain rfl:=Option.some.inj hp
 exact ⟨_,_,rfl,rfl,w7,(s0.trans (s1.trans (s2.trans (s3.trans (s4.trans (s5.trans (s6.trans s7))))))),trivial⟩
def bj.Q (H0:Hp) (Ri R0:List Rs)  (r:Bool) (v:AV) (H':Hp):Prop:=v = (.bool r)∧Out H0 Ri H' (R0) fun R=>True
def bj.p (F:Nat) (az:Int) (bd:Int):Option (Bool):=(bif (bd == 0) then (some true) else (some (bd == (IntKind.i64.wrap (2 + az)))))
theorem bj.P {F:Nat} {aa ab aA aB az bd:Int} {H:Hp} {R0:List Rs}  (h0:Inn H R0 fun R=>True) {r:Bool} (hp:bj.p F az bd = some r):∃ v H',bj.tw F aa ab aA aB az bd H = some (v,H')∧bj.Q H R0 R0  r v H':=by
 obtain ⟨w0,_⟩:=h0
 unfold bj.p at hp
 unfold bj.tw bj.twX
 have s0:=w0.rf
 refine new_k w0 fun H1 w1 s1=>?_
 refine bif_ex (fun hb=>?_) (fun hb=>?_)
 ·replace hp:=bif_t hb hp
  obtain ⟨w2,s2⟩:=w1.pick' [] 1 rfl rfl rfl
  dsimp only [pk,pks,nth,List.drop] at w2 s2
  obtain rfl:=Option.some.inj hp
  exact ⟨_,_,rfl,rfl,w2,(s0.trans (s1.trans s2)),trivial⟩
 ·replace hp:=bif_f hb hp
  refine bind_ex (ldI_of (w1.ld (i:=0) rfl rfl)) ?_
  obtain ⟨w3,s3⟩:=w1.pick' [] 1 rfl rfl rfl
  dsimp only [pk,pks,nth,List.drop] at w3 s3
  obtain rfl:=Option.some.inj hp
  exact ⟨_,_,rfl,rfl,w3,(s0.trans (s1.trans s3)),trivial⟩
def bI.Q (H0:Hp) (Ri R0:List Rs)  (r:Int) (v:AV) (H':Hp):Prop:=v = (.int .i64 r)∧Out H0 Ri H' (R0) fun R=>True
def bI.p (F:Nat) (ad:List (Int×Int)):Option (Int):=some (ad.length:Int)
theorem bI.P {F:Nat} {av:ON} {aj:Nat} {aw:Cap} {ad:List (Int×Int)} {H:Hp} {R0:List Rs} (ba:aj = ad.length) (h0:Inn H R0 fun R=>ROs (ePair (eInt .i64) (eInt .i64)) H R ⟨av,aj,aw⟩ ad) {r:Int} (hp:bI.p F ad = some r):∃ v H',bI.tw F ⟨av,aj,aw⟩ H = some (v,H')∧bI.Q H R0 R0  r v H':=by
 obtain ⟨w0,aL⟩:=h0
 subst ba
 unfold bI.p at hp
 unfold bI.tw bI.twX
 have s0:=w0.rf
 obtain rfl:=Option.some.inj hp
 exact ⟨_,_,rfl,rfl,w0,s0,trivial⟩
def bu.Q (H0:Hp) (Ri R0:List Rs)  (r:Bool) (v:AV) (H':Hp):Prop:=v = (.bool r)∧Out H0 Ri H' (R0) fun R=>True
def bu.p (F:Nat) (ad:List (Int×Int)) (ae:Int):Option (Bool):=(bI.p F ad).bind fun r1=>(bk.p F ae 0 (IntKind.i64.wrap (r1 - 1))).bind fun r3=>some r3
theorem bu.P {F:Nat} {av:ON} {aj:Nat} {aw:Cap} {ad:List (Int×Int)} {ae:Int} {H:Hp} {R0:List Rs} (ba:aj = ad.length) (h0:Inn H R0 fun R=>ROs (ePair (eInt .i64) (eInt .i64)) H R ⟨av,aj,aw⟩ ad) {r:Bool} (hp:bu.p F ad ae = some r):∃ v H',bu.tw F ⟨av,aj,aw⟩ ae H = some (v,H')∧bu.Q H R0 R0  r v H':=by
 obtain ⟨w0,aL⟩:=h0
 subst ba
 unfold bu.p at hp
 unfold bu.tw bu.twX
 have s0:=w0.rf
 obtain ⟨r1,e1,hp⟩:=bind_some' hp
 refine call_ex (bI.P rfl ⟨w0,aL⟩ e1) ?_
 rintro _ H2 ⟨rfl,w2,s2,_⟩
 refine bind_ex rfl ?_
 obtain ⟨r3,e3,hp⟩:=bind_some' hp
 refine call_ex (bk.P ⟨w2,trivial⟩ e3) ?_
 rintro _ H4 ⟨rfl,w4,s4,_⟩
 refine bind_ex rfl ?_
 obtain rfl:=Option.some.inj hp
 exact ⟨_,_,rfl,rfl,w4,(s0.trans (s2.trans s4)),trivial⟩
def ay.Q (H0:Hp) (Ri R0:List Rs)  (r:(List (Int×Int))×(List (Int×Int))×Bool) (v:AV) (H':Hp):Prop:=∃ o0a:ON,∃ o0n:Nat,∃ o0c:Cap,∃ o0k:List AV,∃ o1a:ON,∃ o1n:Nat,∃ o1c:Cap,∃ o1k:List AV,v = (.tup [(.agg [(.sl ⟨o0a,o0n,o0c⟩),(.sl ⟨o1a,o1n,o1c⟩)]),(.bool r.2.2)])∧o0n = (r.1).length∧o1n = (r.2.1).length∧Out H0 Ri H' (Rs.own ⟨o0a,o0n,o0c⟩ (ePair (eInt .i64) (eInt .i64)).z o0k :: Rs.own ⟨o1a,o1n,o1c⟩ (ePair (eInt .i64) (eInt .i64)).z o1k :: R0) fun R=>CR (ePair (eInt .i64) (eInt .i64)) H' R o0k (r.1)∧CR (ePair (eInt .i64) (eInt .i64)) H' R o1k (r.2.1)
def ay.S61 (H0:Hp) (Ri R0:List Rs)  (C:Nat→Nat→Nat→Nat→Sl→Int→Int→Hp→OA) (pC:List (Int×Int)→List (Int×Int)→List (Int×Int×Int×Int×Int)→Int→Int→Option ((List (Int×Int))×(List (Int×Int))×Bool)):Prop:=∀ {ra rb rc rd rh:ON} {nq nr dM ns nu bR nv:Nat} {ri rj rl rm rn:Cap} {ro rp jA jB:List (Int×Int)} {rq rr rs rt:List AV} {gB:List (Int×Int×Int×Int×Int)} {ey dN:Int},∀ {H:Hp},nq = ro.length→nr = rp.length→ns = jA.length→nu = jB.length→nv = gB.length→(Out H0 Ri H (Rs.own ⟨ra,nq,ri⟩ (ePair (eInt .i64) (eInt .i64)).z rq :: Rs.own ⟨rb,nr,rj⟩ (ePair (eInt .i64) (eInt .i64)).z rr :: Rs.blk dM [.sl ⟨ra,nq,ri⟩,.sl ⟨rb,nr,rj⟩] :: Rs.own ⟨rc,ns,rl⟩ (ePair (eInt .i64) (eInt .i64)).z rs :: Rs.own ⟨rd,nu,rm⟩ (ePair (eInt .i64) (eInt .i64)).z rt :: Rs.blk bR [.sl ⟨rc,ns,rl⟩,.sl ⟨rd,nu,rm⟩] :: R0) fun R=>CR (ePair (eInt .i64) (eInt .i64)) H R rq ro∧CR (ePair (eInt .i64) (eInt .i64)) H R rr rp∧CR (ePair (eInt .i64) (eInt .i64)) H R rs jA∧CR (ePair (eInt .i64) (eInt .i64)) H R rt jB∧ROs (ePair (eInt .i64) (ePair (eInt .i64) (ePair (eInt .i64) (ePair (eInt .i64) (eInt .i64))))) H R ⟨rh,nv,rn⟩ gB)→∀ {r:(List (Int×Int))×(List (Int×Int))×Bool},pC jA jB gB ey dN = some r→∃ v H',C dM 0 bR 0 ⟨rh,nv,rn⟩ ey dN H = some (v,H')∧ay.Q H0 Ri R0  r v H'
def ay.S3931 (H0:Hp) (Ri R0:List Rs)  (C:Nat→Nat→Nat→Nat→Sl→Int→Int→Nat→Nat→Int→Int→Int→Int→Int→Int→Hp→OA) (pC:List (Int×Int)→List (Int×Int)→List (Int×Int×Int×Int×Int)→Int→Int→Int→Int→Int→Int→Int→Int→Int→Option ((List (Int×Int))×(List (Int×Int))×Bool)):Prop:=∀ {ru rv rx ry rz:ON} {nw nx bW ny nz cm nA cW:Nat} {rA rB rC rD rE:Cap} {rF rG eY eZ:List (Int×Int)} {rH rI rJ rK:List AV} {iU:List (Int×Int×Int×Int×Int)} {dp dL u_ va vb vc jC cA cB cC cD cE bZ:Int},∀ {H:Hp},nw = rF.length→nx = rG.length→ny = eY.length→nz = eZ.length→nA = iU.length→(Out H0 Ri H (Rs.own ⟨ru,nw,rA⟩ (ePair (eInt .i64) (eInt .i64)).z rH :: Rs.own ⟨rv,nx,rB⟩ (ePair (eInt .i64) (eInt .i64)).z rI :: Rs.blk bW [.sl ⟨ru,nw,rA⟩,.sl ⟨rv,nx,rB⟩] :: Rs.own ⟨rx,ny,rC⟩ (ePair (eInt .i64) (eInt .i64)).z rJ :: Rs.own ⟨ry,nz,rD⟩ (ePair (eInt .i64) (eInt .i64)).z rK :: Rs.blk cm [.sl ⟨rx,ny,rC⟩,.sl ⟨ry,nz,rD⟩] :: Rs.blk cW [.int .i64 u_,.int .i64 va,.int .i64 vb,.int .i64 vc,.int .i64 jC] :: R0) fun R=>CR (ePair (eInt .i64) (eInt .i64)) H R rH rF∧CR (ePair (eInt .i64) (eInt .i64)) H R rI rG∧CR (ePair (eInt .i64) (eInt .i64)) H R rJ eY∧CR (ePair (eInt .i64) (eInt .i64)) H R rK eZ∧ROs (ePair (eInt .i64) (ePair (eInt .i64) (ePair (eInt .i64) (ePair (eInt .i64) (eInt .i64))))) H R ⟨rz,nA,rE⟩ iU)→∀ {r:(List (Int×Int))×(List (Int×Int))×Bool},pC eY eZ iU dp dL jC cA cB cC cD cE bZ = some r→∃ v H',C bW 0 cm 0 ⟨rz,nA,rE⟩ dp dL cW 0 cA cB cC cD cE bZ H = some (v,H')∧ay.Q H0 Ri R0  r v H'
def ay.pl3931 (F:Nat) (aO:List (Int×Int)→List (Int×Int)→List (Int×Int×Int×Int×Int)→Int→Int→Option ((List (Int×Int))×(List (Int×Int))×Bool)):Nat→List (Int×Int)→List (Int×Int)→List (Int×Int×Int×Int×Int)→Int→Int→Int→Int→Int→Int→Int→Int→Int→Option ((List (Int×Int))×(List (Int×Int))×Bool)
 | 0,_,_,_,_,_,_,_,_,_,_,_,_=>none
 | k + 1,eY,eZ,iU,dp,dL,jC,cA,cB,cC,cD,cE,bZ=>(bif (decide (bZ < 4)) then ((if 0 ≤ bZ∧bZ < (4:Int) then ((bj.p F jC bZ).bind fun r2=>(bif r2 then ((bu.p F eZ (gt ([cB,cC,cD,cE]:List Int) (bZ:Int).toNat)).bind fun r6=>(bif (!r6) then (some (eY,eZ,false)) else ((ix eZ (gt ([cB,cC,cD,cE]:List Int) (bZ:Int).toNat)).bind fun n12=>(bif (decide (((gt eZ n12).1) ≥ 0)) then (some (eY,eZ,false)) else ((ix eZ (gt ([cB,cC,cD,cE]:List Int) (bZ:Int).toNat)).bind fun n16=>(some (eZ.set n16 (cA,(gt eZ n16).2))).bind fun l17=>(some (l17.set n16 ((gt l17 n16).1,bZ))).bind fun l19=>ay.pl3931 F aO k eY l19 iU dp dL jC cA cB cC cD cE (IntKind.i64.wrap (bZ + 1))))))) else ((bu.p F eY (gt ([cB,cC,cD,cE]:List Int) (bZ:Int).toNat)).bind fun r24=>(bif (!r24) then (some (eY,eZ,false)) else ((ix eY (gt ([cB,cC,cD,cE]:List Int) (bZ:Int).toNat)).bind fun n30=>(bif (decide (((gt eY n30).1) ≥ 0)) then (some (eY,eZ,false)) else ((ix eY (gt ([cB,cC,cD,cE]:List Int) (bZ:Int).toNat)).bind fun n34=>(some (eY.set n34 (cA,(gt eY n34).2))).bind fun l35=>(some (l35.set n34 ((gt l35 n34).1,bZ))).bind fun l37=>ay.pl3931 F aO k l37 eZ iU dp dL jC cA cB cC cD cE (IntKind.i64.wrap (bZ + 1))))))))) else none)) else (aO eY eZ iU dp (IntKind.i64.wrap (dL + 1))))
termination_by structural n=>n
theorem ay.l3931_P {F:Nat} {H0:Hp} {Ri R0:List Rs}  {C61_:Nat→Nat→Nat→Nat→Sl→Int→Int→Hp→OA} {aO:List (Int×Int)→List (Int×Int)→List (Int×Int×Int×Int×Int)→Int→Int→Option ((List (Int×Int))×(List (Int×Int))×Bool)} (hC61:ay.S61 H0 Ri R0  C61_ aO):∀ k,ay.S3931 H0 Ri R0  (ay.l3931 F (aI.tw F) (bi.tw F) (bj.tw F) (bu.tw F) C61_ k) (ay.pl3931 F aO k):=by
 intro k
 induction k with
 | zero=>
  intro ru rv rx ry rz nw nx bW ny nz cm nA cW rA rB rC rD rE rF rG eY eZ rH rI rJ rK iU dp dL u_ va vb vc jC cA cB cC cD cE bZ H zU zV zW zX zY h0 r hp
  exact nomatch (show (none:Option ((List (Int×Int))×(List (Int×Int))×Bool)) = some r from hp)
 | succ k ih=>
  intro ru rv rx ry rz nw nx bW ny nz cm nA cW rA rB rC rD rE rF rG eY eZ rH rI rJ rK iU dp dL u_ va vb vc jC cA cB cC cD cE bZ H zU zV zW zX zY h0 r hp
  obtain ⟨w0,s0,vd,ve,iz,iA,vf⟩:=h0
  subst zU
  subst zV
  subst zW
  subst zX
  subst zY
  unfold ay.pl3931 at hp
  unfold ay.l3931
  refine bif_ex (fun hb=>?_) (fun hb=>?_)
  ·replace hp:=bif_t hb hp
   obtain ⟨g1,hp⟩:=ifs_p hp
   refine ifs_ex g1 ?_
   refine bind_ex (a:=AV.int .i64 (gt ([cB,cC,cD,cE]:List Int) (bZ:Int).toNat)) (by rw [Nat.mul_one]; exact arr_get (k:=.i64) (l:=[cB,cC,cD,cE]) rfl (by have:=g1; simp only [List.length_cons,List.length_nil]; omega)) ?_
   refine bind_ex rfl ?_
   refine bind_ex (ldSl_of (w0.ld (i:=5) rfl rfl)) ?_
   refine bind_ex (ldI_of (w0.ld (i:=6) rfl rfl)) ?_
   refine bind_ex (ldI_of (w0.ld (i:=6) rfl rfl)) ?_
   refine bind_ex (ldI_of (w0.ld (i:=6) rfl rfl)) ?_
   refine bind_ex (ldI_of (w0.ld (i:=6) rfl rfl)) ?_
   refine bind_ex (ldI_of (w0.ld (i:=6) rfl rfl)) ?_
   obtain ⟨r2,e2,hp⟩:=bind_some' hp
   refine call_ex (bj.P ⟨w0,trivial⟩ e2) ?_
   rintro _ H3 ⟨rfl,w3,s3,_⟩
   refine bind_ex rfl ?_
   refine bif_ex (fun hb=>?_) (fun hb=>?_)
   ·replace hp:=bif_t hb hp
    refine bind_ex (ldSl_of (w3.ld (i:=5) rfl rfl)) ?_
    obtain ⟨w4,s4⟩:=w3.pick' [4,0,1,2,3,5,6] 7 rfl rfl rfl
    dsimp only [pk,pks,nth,List.drop] at w4 s4
    have f5:=W.borrow1 (ePair (eInt .i64) (eInt .i64)) w4 (iA.step (s3.trans s4))
    obtain ⟨w5,s5⟩:=w4.right1
    obtain ⟨r6,e6,hp⟩:=bind_some' hp
    refine call_ex (bu.P rfl ⟨w5,f5⟩ e6) ?_
    rintro _ H7 ⟨rfl,w7,s7,_⟩
    obtain ⟨w8,s8⟩:=W.frame1 w4 w7 s7
    refine bind_ex rfl ?_
    refine bif_ex (fun hb=>?_) (fun hb=>?_)
    ·replace hp:=bif_t hb hp
     refine bind_ex (ldSl_of (w8.ld (i:=5) rfl rfl)) ?_
     refine bind_ex (ldSl_of (w8.ld (i:=5) rfl rfl)) ?_
     refine st_k w8 (i:=3) rfl rfl rfl fun H9 w9 s9=>?_
     dsimp only [List.set] at w9 s9
     refine st_k w9 (i:=3) rfl rfl rfl fun H10 w10 s10=>?_
     dsimp only [List.set] at w10 s10
     refine bind_ex (ldSl_of (w10.ld (i:=3) rfl rfl)) ?_
     refine bind_ex (ldSl_of (w10.ld (i:=3) rfl rfl)) ?_
     obtain ⟨w11,s11⟩:=w10.pick' [4,0] 7 rfl rfl rfl
     dsimp only [pk,pks,nth,List.drop] at w11 s11
     obtain rfl:=Option.some.inj hp
     exact ⟨_,_,rfl,_,_,_,_,_,_,_,_,rfl,rfl,rfl,w11,(s0.trans (s3.trans (s4.trans (s8.trans (s9.trans (s10.trans s11)))))),(iz.step (s3.trans (s4.trans (s8.trans (s9.trans (s10.trans s11)))))),(iA.step (s3.trans (s4.trans (s8.trans (s9.trans (s10.trans s11))))))⟩
    ·replace hp:=bif_f hb hp
     obtain ⟨n12,g12,hp⟩:=bind_some' hp
     obtain ⟨p12,q12,i12,h12,j12⟩:=W.ixo (E:=(ePair (eInt .i64) (eInt .i64))) w8 (i:=0) rfl rfl (iA.step (s3.trans (s4.trans s8))) g12
     refine bind_ex i12 ?_
     obtain ⟨_,_,rfl,rfl,rfl⟩:=h12
     refine bind_ex (ldI_of (j12 0 _ rfl)) ?_
     refine bif_ex (fun hb=>?_) (fun hb=>?_)
     ·replace hp:=bif_t hb hp
      refine bind_ex (ldSl_of (w8.ld (i:=5) rfl rfl)) ?_
      refine bind_ex (ldSl_of (w8.ld (i:=5) rfl rfl)) ?_
      refine st_k w8 (i:=3) rfl rfl rfl fun H13 w13 s13=>?_
      dsimp only [List.set] at w13 s13
      refine st_k w13 (i:=3) rfl rfl rfl fun H14 w14 s14=>?_
      dsimp only [List.set] at w14 s14
      refine bind_ex (ldSl_of (w14.ld (i:=3) rfl rfl)) ?_
      refine bind_ex (ldSl_of (w14.ld (i:=3) rfl rfl)) ?_
      obtain ⟨w15,s15⟩:=w14.pick' [4,0] 7 rfl rfl rfl
      dsimp only [pk,pks,nth,List.drop] at w15 s15
      obtain rfl:=Option.some.inj hp
      exact ⟨_,_,rfl,_,_,_,_,_,_,_,_,rfl,rfl,rfl,w15,(s0.trans (s3.trans (s4.trans (s8.trans (s13.trans (s14.trans s15)))))),(iz.step (s3.trans (s4.trans (s8.trans (s13.trans (s14.trans s15)))))),(iA.step (s3.trans (s4.trans (s8.trans (s13.trans (s14.trans s15))))))⟩
     ·replace hp:=bif_f hb hp
      obtain ⟨n16,g16,hp⟩:=bind_some' hp
      obtain ⟨p16,q16,i16,h16,j16⟩:=W.ixo (E:=(ePair (eInt .i64) (eInt .i64))) w8 (i:=0) rfl rfl (iA.step (s3.trans (s4.trans s8))) g16
      refine bind_ex i16 ?_
      obtain ⟨l17,e17,hp⟩:=bind_some' hp
      refine sto_k (ePair (eInt .i64) (eInt .i64)) w8 (i:=0) (j:=0) (p:=p16) rfl rfl (iA.step (s3.trans (s4.trans s8))) g16 i16 e17 rfl rfl (fun _ h=>by obtain ⟨_,_,rfl,rfl,rfl⟩:=h; exact ⟨[_],_,rfl,rfl,rfl⟩) fun H18 k18 w18 s18 c18=>?_
      dsimp only [List.set] at w18 s18 c18
      obtain ⟨l19,e19,hp⟩:=bind_some' hp
      refine sto_k (ePair (eInt .i64) (eInt .i64)) w18 (i:=0) (j:=1) (p:=p16) rfl rfl c18 (ix_len g16 (st_len e17)) i16 e19 rfl rfl (fun _ h=>by obtain ⟨_,_,rfl,rfl,rfl⟩:=h; exact ⟨[_],_,rfl,rfl,rfl⟩) fun H20 k20 w20 s20 c20=>?_
      dsimp only [List.set] at w20 s20 c20
      obtain ⟨w21,s21⟩:=w20.pick' [1,2,3,4,0,5,6] 7 rfl rfl rfl
      dsimp only [pk,pks,nth,List.drop] at w21 s21
      exact ih rfl rfl rfl ((st_len e17).symm.trans (st_len e19).symm) rfl ⟨w21,(s0.trans (s3.trans (s4.trans (s8.trans (s18.trans (s20.trans s21)))))),(vd.step (s3.trans (s4.trans (s8.trans (s18.trans (s20.trans s21)))))),(ve.step (s3.trans (s4.trans (s8.trans (s18.trans (s20.trans s21)))))),(iz.step (s3.trans (s4.trans (s8.trans (s18.trans (s20.trans s21)))))),(c20.step s21),(vf.step (s3.trans (s4.trans (s8.trans (s18.trans (s20.trans s21))))))⟩ hp
   ·replace hp:=bif_f hb hp
    obtain ⟨w22,s22⟩:=w3.pick' [3,0,1,2,4,5,6] 7 rfl rfl rfl
    dsimp only [pk,pks,nth,List.drop] at w22 s22
    have f23:=W.borrow1 (ePair (eInt .i64) (eInt .i64)) w22 (iz.step (s3.trans s22))
    obtain ⟨w23,s23⟩:=w22.right1
    obtain ⟨r24,e24,hp⟩:=bind_some' hp
    refine call_ex (bu.P rfl ⟨w23,f23⟩ e24) ?_
    rintro _ H25 ⟨rfl,w25,s25,_⟩
    obtain ⟨w26,s26⟩:=W.frame1 w22 w25 s25
    refine bind_ex rfl ?_
    refine bif_ex (fun hb=>?_) (fun hb=>?_)
    ·replace hp:=bif_t hb hp
     refine bind_ex (ldSl_of (w26.ld (i:=5) rfl rfl)) ?_
     refine bind_ex (ldSl_of (w26.ld (i:=5) rfl rfl)) ?_
     refine st_k w26 (i:=3) rfl rfl rfl fun H27 w27 s27=>?_
     dsimp only [List.set] at w27 s27
     refine st_k w27 (i:=3) rfl rfl rfl fun H28 w28 s28=>?_
     dsimp only [List.set] at w28 s28
     refine bind_ex (ldSl_of (w28.ld (i:=3) rfl rfl)) ?_
     refine bind_ex (ldSl_of (w28.ld (i:=3) rfl rfl)) ?_
     obtain ⟨w29,s29⟩:=w28.pick' [0,4] 7 rfl rfl rfl
     dsimp only [pk,pks,nth,List.drop] at w29 s29
     obtain rfl:=Option.some.inj hp
     exact ⟨_,_,rfl,_,_,_,_,_,_,_,_,rfl,rfl,rfl,w29,(s0.trans (s3.trans (s22.trans (s26.trans (s27.trans (s28.trans s29)))))),(iz.step (s3.trans (s22.trans (s26.trans (s27.trans (s28.trans s29)))))),(iA.step (s3.trans (s22.trans (s26.trans (s27.trans (s28.trans s29))))))⟩
    ·replace hp:=bif_f hb hp
     obtain ⟨n30,g30,hp⟩:=bind_some' hp
     obtain ⟨p30,q30,i30,h30,j30⟩:=W.ixo (E:=(ePair (eInt .i64) (eInt .i64))) w26 (i:=0) rfl rfl (iz.step (s3.trans (s22.trans s26))) g30
     refine bind_ex i30 ?_
     obtain ⟨_,_,rfl,rfl,rfl⟩:=h30
     refine bind_ex (ldI_of (j30 0 _ rfl)) ?_
     refine bif_ex (fun hb=>?_) (fun hb=>?_)
     ·replace hp:=bif_t hb hp
      refine bind_ex (ldSl_of (w26.ld (i:=5) rfl rfl)) ?_
      refine bind_ex (ldSl_of (w26.ld (i:=5) rfl rfl)) ?_
      refine st_k w26 (i:=3) rfl rfl rfl fun H31 w31 s31=>?_
      dsimp only [List.set] at w31 s31
      refine st_k w31 (i:=3) rfl rfl rfl fun H32 w32 s32=>?_
      dsimp only [List.set] at w32 s32
      refine bind_ex (ldSl_of (w32.ld (i:=3) rfl rfl)) ?_
      refine bind_ex (ldSl_of (w32.ld (i:=3) rfl rfl)) ?_
      obtain ⟨w33,s33⟩:=w32.pick' [0,4] 7 rfl rfl rfl
      dsimp only [pk,pks,nth,List.drop] at w33 s33
      obtain rfl:=Option.some.inj hp
      exact ⟨_,_,rfl,_,_,_,_,_,_,_,_,rfl,rfl,rfl,w33,(s0.trans (s3.trans (s22.trans (s26.trans (s31.trans (s32.trans s33)))))),(iz.step (s3.trans (s22.trans (s26.trans (s31.trans (s32.trans s33)))))),(iA.step (s3.trans (s22.trans (s26.trans (s31.trans (s32.trans s33))))))⟩
     ·replace hp:=bif_f hb hp
      obtain ⟨n34,g34,hp⟩:=bind_some' hp
      obtain ⟨p34,q34,i34,h34,j34⟩:=W.ixo (E:=(ePair (eInt .i64) (eInt .i64))) w26 (i:=0) rfl rfl (iz.step (s3.trans (s22.trans s26))) g34
      refine bind_ex i34 ?_
      obtain ⟨l35,e35,hp⟩:=bind_some' hp
      refine sto_k (ePair (eInt .i64) (eInt .i64)) w26 (i:=0) (j:=0) (p:=p34) rfl rfl (iz.step (s3.trans (s22.trans s26))) g34 i34 e35 rfl rfl (fun _ h=>by obtain ⟨_,_,rfl,rfl,rfl⟩:=h; exact ⟨[_],_,rfl,rfl,rfl⟩) fun H36 k36 w36 s36 c36=>?_
      dsimp only [List.set] at w36 s36 c36
      obtain ⟨l37,e37,hp⟩:=bind_some' hp
      refine sto_k (ePair (eInt .i64) (eInt .i64)) w36 (i:=0) (j:=1) (p:=p34) rfl rfl c36 (ix_len g34 (st_len e35)) i34 e37 rfl rfl (fun _ h=>by obtain ⟨_,_,rfl,rfl,rfl⟩:=h; exact ⟨[_],_,rfl,rfl,rfl⟩) fun H38 k38 w38 s38 c38=>?_
      dsimp only [List.set] at w38 s38 c38
      obtain ⟨w39,s39⟩:=w38.pick' [1,2,3,0,4,5,6] 7 rfl rfl rfl
      dsimp only [pk,pks,nth,List.drop] at w39 s39
      exact ih rfl rfl ((st_len e35).symm.trans (st_len e37).symm) rfl rfl ⟨w39,(s0.trans (s3.trans (s22.trans (s26.trans (s36.trans (s38.trans s39)))))),(vd.step (s3.trans (s22.trans (s26.trans (s36.trans (s38.trans s39)))))),(ve.step (s3.trans (s22.trans (s26.trans (s36.trans (s38.trans s39)))))),(c38.step s39),(iA.step (s3.trans (s22.trans (s26.trans (s36.trans (s38.trans s39)))))),(vf.step (s3.trans (s22.trans (s26.trans (s36.trans (s38.trans s39))))))⟩ hp
  ·replace hp:=bif_f hb hp
   obtain ⟨w40,s40⟩:=w0.pick' [0,1,2,3,4,5] 7 rfl rfl rfl
   dsimp only [pk,pks,nth,List.drop] at w40 s40
   exact hC61 rfl rfl rfl rfl rfl ⟨w40,(s0.trans s40),(vd.step s40),(ve.step s40),(iz.step s40),(iA.step s40),(vf.step s40)⟩ hp
def ay.pl61 (F:Nat) :Nat→List (Int×Int)→List (Int×Int)→List (Int×Int×Int×Int×Int)→Int→Int→Option ((List (Int×Int))×(List (Int×Int))×Bool)
 | 0,_,_,_,_,_=>none
 | k + 1,jA,jB,gB,ey,dN=>(bif (decide (dN < ey)) then ((ix gB dN).bind fun n1=>(bi.p F ((gt gB n1).1) ((gt gB n1).2.1) ((gt gB n1).2.2.1) ((gt gB n1).2.2.2.1)).bind fun r8=>ay.pl3931 F (ay.pl61 F k) F jA jB gB ey dN ((gt gB n1).2.2.2.2) dN r8.1 r8.2.1 r8.2.2.1 r8.2.2.2 0) else (some (jA,jB,true)))
termination_by structural n=>n
theorem ay.l61_P {F:Nat} {H0:Hp} {Ri R0:List Rs}  :∀ k,ay.S61 H0 Ri R0  (ay.l61 F (aI.tw F) (bi.tw F) (bj.tw F) (bu.tw F)  k) (ay.pl61 F  k):=by
 intro k
 induction k with
 | zero=>
  intro ra rb rc rd rh nq nr dM ns nu bR nv ri rj rl rm rn ro rp jA jB rq rr rs rt gB ey dN H zZ z_ Aa Ab Ac h0 r hp
  exact nomatch (show (none:Option ((List (Int×Int))×(List (Int×Int))×Bool)) = some r from hp)
 | succ k ih=>
  intro ra rb rc rd rh nq nr dM ns nu bR nv ri rj rl rm rn ro rp jA jB rq rr rs rt gB ey dN H zZ z_ Aa Ab Ac h0 r hp
  obtain ⟨w0,s0,Gr,Gs,Ad,Ae,Af⟩:=h0
  subst zZ
  subst z_
  subst Aa
  subst Ab
  subst Ac
  unfold ay.pl61 at hp
  unfold ay.l61
  refine bif_ex (fun hb=>?_) (fun hb=>?_)
  ·replace hp:=bif_t hb hp
   obtain ⟨n1,g1,hp⟩:=bind_some' hp
   obtain ⟨p1,q1,i1,h1,j1⟩:=ROs.ixr Af rfl g1
   refine bind_ex i1 ?_
   obtain ⟨_,_,rfl,rfl,_,_,rfl,rfl,_,_,rfl,rfl,_,_,rfl,rfl,rfl⟩:=h1
   refine bind_ex (ldI_of (j1 0 _ rfl)) ?_
   refine bind_ex (ldI_of (j1 1 _ rfl)) ?_
   refine bind_ex (ldI_of (j1 2 _ rfl)) ?_
   refine bind_ex (ldI_of (j1 3 _ rfl)) ?_
   refine bind_ex (ldI_of (j1 4 _ rfl)) ?_
   refine new_k w0 fun H2 w2 s2=>?_
   refine st_k w2 (i:=0) rfl rfl rfl fun H3 w3 s3=>?_
   dsimp only [List.set] at w3 s3
   refine st_k w3 (i:=0) rfl rfl rfl fun H4 w4 s4=>?_
   dsimp only [List.set] at w4 s4
   refine st_k w4 (i:=0) rfl rfl rfl fun H5 w5 s5=>?_
   dsimp only [List.set] at w5 s5
   refine st_k w5 (i:=0) rfl rfl rfl fun H6 w6 s6=>?_
   dsimp only [List.set] at w6 s6
   refine st_k w6 (i:=0) rfl rfl rfl fun H7 w7 s7=>?_
   dsimp only [List.set] at w7 s7
   refine bind_ex (ldI_of (w7.ld (i:=0) rfl rfl)) ?_
   refine bind_ex (ldI_of (w7.ld (i:=0) rfl rfl)) ?_
   refine bind_ex (ldI_of (w7.ld (i:=0) rfl rfl)) ?_
   refine bind_ex (ldI_of (w7.ld (i:=0) rfl rfl)) ?_
   refine bind_ex (ldI_of (w7.ld (i:=0) rfl rfl)) ?_
   obtain ⟨r8,e8,hp⟩:=bind_some' hp
   refine call_ex (bi.P ⟨w7,trivial⟩ e8) ?_
   rintro _ H9 ⟨rfl,w9,s9,_⟩
   refine bind_ex rfl ?_
   refine bind_ex rfl ?_
   refine bind_ex rfl ?_
   refine bind_ex rfl ?_
   refine bind_ex rfl ?_
   refine bind_ex rfl ?_
   refine bind_ex rfl ?_
   refine bind_ex rfl ?_
   refine bind_ex rfl ?_
   obtain ⟨w10,s10⟩:=w9.pick' [1,2,3,4,5,6,0] 7 rfl rfl rfl
   dsimp only [pk,pks,nth,List.drop] at w10 s10
   exact ay.l3931_P (@ih) F rfl rfl rfl rfl rfl ⟨w10,(s0.trans (s2.trans (s3.trans (s4.trans (s5.trans (s6.trans (s7.trans (s9.trans s10)))))))),(Gr.step (s2.trans (s3.trans (s4.trans (s5.trans (s6.trans (s7.trans (s9.trans s10)))))))),(Gs.step (s2.trans (s3.trans (s4.trans (s5.trans (s6.trans (s7.trans (s9.trans s10)))))))),(Ad.step (s2.trans (s3.trans (s4.trans (s5.trans (s6.trans (s7.trans (s9.trans s10)))))))),(Ae.step (s2.trans (s3.trans (s4.trans (s5.trans (s6.trans (s7.trans (s9.trans s10)))))))),(Af.step (s2.trans (s3.trans (s4.trans (s5.trans (s6.trans (s7.trans (s9.trans s10))))))))⟩ hp
  ·replace hp:=bif_f hb hp
   refine bind_ex (ldSl_of (w0.ld (i:=5) rfl rfl)) ?_
   refine bind_ex (ldSl_of (w0.ld (i:=5) rfl rfl)) ?_
   refine st_k w0 (i:=2) rfl rfl rfl fun H11 w11 s11=>?_
   dsimp only [List.set] at w11 s11
   refine st_k w11 (i:=2) rfl rfl rfl fun H12 w12 s12=>?_
   dsimp only [List.set] at w12 s12
   refine bind_ex (ldSl_of (w12.ld (i:=2) rfl rfl)) ?_
   refine bind_ex (ldSl_of (w12.ld (i:=2) rfl rfl)) ?_
   obtain ⟨w13,s13⟩:=w12.pick' [3,4] 6 rfl rfl rfl
   dsimp only [pk,pks,nth,List.drop] at w13 s13
   obtain rfl:=Option.some.inj hp
   exact ⟨_,_,rfl,_,_,_,_,_,_,_,_,rfl,rfl,rfl,w13,(s0.trans (s11.trans (s12.trans s13))),(Ad.step (s11.trans (s12.trans s13))),(Ae.step (s11.trans (s12.trans s13)))⟩
def ay.p (F:Nat) (ad:List (Int×Int×Int×Int×Int)):Option ((List (Int×Int))×(List (Int×Int))×Bool):=(aI.p F ([((-1),0)]:List (Int×Int)) (IntKind.i64.wrap (2 * (ad.length:Int)))).bind fun r5=>(aI.p F ([((-1),0)]:List (Int×Int)) (IntKind.i64.wrap (2 * (ad.length:Int)))).bind fun r10=>ay.pl61 F F r5 r10 ad (ad.length:Int) 0
theorem ay.P {F:Nat} {av:ON} {aj:Nat} {aw:Cap} {ad:List (Int×Int×Int×Int×Int)} {ab:Int} {H:Hp} {R0:List Rs} (ba:aj = ad.length) (h0:Inn H R0 fun R=>ROs (ePair (eInt .i64) (ePair (eInt .i64) (ePair (eInt .i64) (ePair (eInt .i64) (eInt .i64))))) H R ⟨av,aj,aw⟩ ad) {r:(List (Int×Int))×(List (Int×Int))×Bool} (hp:ay.p F ad = some r):∃ v H',ay.tw F ⟨av,aj,aw⟩ ab H = some (v,H')∧ay.Q H R0 R0  r v H':=by
 obtain ⟨w0,aL⟩:=h0
 subst ba
 unfold ay.p at hp
 unfold ay.tw ay.twX
 have s0:=w0.rf
 refine new_k w0 fun H1 w1 s1=>?_
 refine new_k w1 fun H2 w2 s2=>?_
 refine bind_ex (ldSl_of (w2.ld (i:=1) rfl rfl)) ?_
 refine newS_k (ePair (eInt .i64) (eInt .i64)) w2 (n:=1) (l:=([((-1),0)]:List (Int×Int))) rfl (CR.cons (c:=[_,_]) ⟨[_],_,rfl,rfl,rfl⟩ CR.empty) rfl fun H3 w3 s3 c3=>?_
 have f4:=W.borrow1 (ePair (eInt .i64) (eInt .i64)) w3 c3
 obtain ⟨w4,s4⟩:=w3.right1
 obtain ⟨r5,e5,hp⟩:=bind_some' hp
 refine call_ex (aI.P (show 1 = List.length ([((-1),0)]:List (Int×Int)) from rfl) ⟨w4,f4⟩ e5) ?_
 rintro _ H6 ⟨o0a_6,o0n_6,o0k_6,rfl,rfl,w6,s6,f6_0⟩
 obtain ⟨w7,s7⟩:=W.frame1 w3 w6 s6
 refine bind_ex rfl ?_
 refine newS_k (ePair (eInt .i64) (eInt .i64)) w7 (n:=1) (l:=([((-1),0)]:List (Int×Int))) rfl (CR.cons (c:=[_,_]) ⟨[_],_,rfl,rfl,rfl⟩ CR.empty) rfl fun H8 w8 s8 c8=>?_
 have f9:=W.borrow1 (ePair (eInt .i64) (eInt .i64)) w8 c8
 obtain ⟨w9,s9⟩:=w8.right1
 obtain ⟨r10,e10,hp⟩:=bind_some' hp
 refine call_ex (aI.P (show 1 = List.length ([((-1),0)]:List (Int×Int)) from rfl) ⟨w9,f9⟩ e10) ?_
 rintro _ H11 ⟨o0a_11,o0n_11,o0k_11,rfl,rfl,w11,s11,f11_0⟩
 obtain ⟨w12,s12⟩:=W.frame1 w8 w11 s11
 refine bind_ex rfl ?_
 refine new_k w12 fun H13 w13 s13=>?_
 refine st_k w13 (i:=0) rfl rfl rfl fun H14 w14 s14=>?_
 dsimp only [List.set] at w14 s14
 refine st_k w14 (i:=0) rfl rfl rfl fun H15 w15 s15=>?_
 dsimp only [List.set] at w15 s15
 refine bind_ex (ldSl_of (w15.ld (i:=6) rfl rfl)) ?_
 obtain ⟨w16,s16⟩:=w15.nilS (ePair (eInt .i64) (eInt .i64)).z (by decide)
 obtain ⟨w17,s17⟩:=w16.nilS (ePair (eInt .i64) (eInt .i64)).z (by decide)
 obtain ⟨w18,s18⟩:=w17.pick' [1,0,7,6,4,2] 9 rfl rfl rfl
 dsimp only [pk,pks,nth,List.drop] at w18 s18
 exact ay.l61_P F rfl rfl rfl rfl rfl ⟨w18,(s0.trans (s1.trans (s2.trans (s3.trans (s7.trans (s8.trans (s12.trans (s13.trans (s14.trans (s15.trans (s16.trans (s17.trans s18)))))))))))),((CR.empty:CR (ePair (eInt .i64) (eInt .i64)) _ _ [] []).step (s17.trans s18)),((CR.empty:CR (ePair (eInt .i64) (eInt .i64)) _ _ [] []).step s18),((CR.flat (ePair_flat (eInt_flat .i64) (eInt_flat .i64)) f6_0).step (s8.trans (s12.trans (s13.trans (s14.trans (s15.trans (s16.trans (s17.trans s18)))))))),((CR.flat (ePair_flat (eInt_flat .i64) (eInt_flat .i64)) f11_0).step (s13.trans (s14.trans (s15.trans (s16.trans (s17.trans s18)))))),(aL.step (s1.trans (s2.trans (s3.trans (s7.trans (s8.trans (s12.trans (s13.trans (s14.trans (s15.trans (s16.trans (s17.trans s18))))))))))))⟩ hp
def br.Q (H0:Hp) (Ri R0:List Rs)  (r:Int×Int) (v:AV) (H':Hp):Prop:=v = (.agg [(.int .i64 r.1),(.int .i64 r.2)])∧Out H0 Ri H' (R0) fun R=>True
def br.p (F:Nat) (ad:List (Int×Int×Int×Int×Int)) (bX:List (Int×Int)) (cn:List (Int×Int)) (fj:Int) (dO:Int):Option (Int×Int):=(ix ad fj).bind fun n5=>(bi.p F ((gt ad n5).1) ((gt ad n5).2.1) ((gt ad n5).2.2.1) ((gt ad n5).2.2.2.1)).bind fun r12=>(if 0 ≤ dO∧dO < (4:Int) then ((bj.p F ((gt ad n5).2.2.2.2) dO).bind fun r16=>(bif r16 then ((ix bX (gt ([r12.1,r12.2.1,r12.2.2.1,r12.2.2.2]:List Int) (dO:Int).toNat)).bind fun n18=>some (((gt bX n18).1),((gt bX n18).2))) else ((ix cn (gt ([r12.1,r12.2.1,r12.2.2.1,r12.2.2.2]:List Int) (dO:Int).toNat)).bind fun n22=>some (((gt cn n22).1),((gt cn n22).2))))) else none)
theorem br.P {F:Nat} {av fu ga:ON} {aj dv eN:Nat} {aw fv gb:Cap} {ad:List (Int×Int×Int×Int×Int)} {ab fj dO:Int} {bX cn:List (Int×Int)} {H:Hp} {R0:List Rs} (ba:aj = ad.length) (il:dv = bX.length) (iV:eN = cn.length) (h0:Inn H R0 fun R=>ROs (ePair (eInt .i64) (ePair (eInt .i64) (ePair (eInt .i64) (ePair (eInt .i64) (eInt .i64))))) H R ⟨av,aj,aw⟩ ad∧ROs (ePair (eInt .i64) (eInt .i64)) H R ⟨fu,dv,fv⟩ bX∧ROs (ePair (eInt .i64) (eInt .i64)) H R ⟨ga,eN,gb⟩ cn) {r:Int×Int} (hp:br.p F ad bX cn fj dO = some r):∃ v H',br.tw F ⟨av,aj,aw⟩ ab ⟨fu,dv,fv⟩ ⟨ga,eN,gb⟩ fj dO H = some (v,H')∧br.Q H R0 R0  r v H':=by
 obtain ⟨w0,aL,gC,im⟩:=h0
 subst ba
 subst il
 subst iV
 unfold br.p at hp
 unfold br.tw br.twX
 have s0:=w0.rf
 refine new_k w0 fun H1 w1 s1=>?_
 refine new_k w1 fun H2 w2 s2=>?_
 refine new_k w2 fun H3 w3 s3=>?_
 refine new_k w3 fun H4 w4 s4=>?_
 refine bind_ex (ldSl_of (w4.ld (i:=3) rfl rfl)) ?_
 refine bind_ex (ldI_of (w4.ld (i:=1) rfl rfl)) ?_
 obtain ⟨n5,g5,hp⟩:=bind_some' hp
 obtain ⟨p5,q5,i5,h5,j5⟩:=ROs.ixr (aL.step (s1.trans (s2.trans (s3.trans s4)))) rfl g5
 refine bind_ex i5 ?_
 obtain ⟨_,_,rfl,rfl,_,_,rfl,rfl,_,_,rfl,rfl,_,_,rfl,rfl,rfl⟩:=h5
 refine bind_ex (ldI_of (j5 0 _ rfl)) ?_
 refine bind_ex (ldI_of (j5 1 _ rfl)) ?_
 refine bind_ex (ldI_of (j5 2 _ rfl)) ?_
 refine bind_ex (ldI_of (j5 3 _ rfl)) ?_
 refine bind_ex (ldI_of (j5 4 _ rfl)) ?_
 refine new_k w4 fun H6 w6 s6=>?_
 refine st_k w6 (i:=0) rfl rfl rfl fun H7 w7 s7=>?_
 dsimp only [List.set] at w7 s7
 refine st_k w7 (i:=0) rfl rfl rfl fun H8 w8 s8=>?_
 dsimp only [List.set] at w8 s8
 refine st_k w8 (i:=0) rfl rfl rfl fun H9 w9 s9=>?_
 dsimp only [List.set] at w9 s9
 refine st_k w9 (i:=0) rfl rfl rfl fun H10 w10 s10=>?_
 dsimp only [List.set] at w10 s10
 refine st_k w10 (i:=0) rfl rfl rfl fun H11 w11 s11=>?_
 dsimp only [List.set] at w11 s11
 refine bind_ex (ldI_of (w11.ld (i:=0) rfl rfl)) ?_
 refine bind_ex (ldI_of (w11.ld (i:=0) rfl rfl)) ?_
 refine bind_ex (ldI_of (w11.ld (i:=0) rfl rfl)) ?_
 refine bind_ex (ldI_of (w11.ld (i:=0) rfl rfl)) ?_
 refine bind_ex (ldI_of (w11.ld (i:=0) rfl rfl)) ?_
 obtain ⟨r12,e12,hp⟩:=bind_some' hp
 refine call_ex (bi.P ⟨w11,trivial⟩ e12) ?_
 rintro _ H13 ⟨rfl,w13,s13,_⟩
 refine bind_ex rfl ?_
 refine bind_ex rfl ?_
 refine bind_ex rfl ?_
 refine bind_ex rfl ?_
 refine bind_ex rfl ?_
 refine bind_ex rfl ?_
 refine bind_ex rfl ?_
 refine bind_ex rfl ?_
 refine bind_ex rfl ?_
 refine ifs_ex (W.cons_of (Rn:=[]) w11 w13 s13) ?_
 refine bind_ex (ldI_of (w13.ld (i:=2) rfl rfl)) ?_
 obtain ⟨g15,hp⟩:=ifs_p hp
 refine ifs_ex g15 ?_
 refine bind_ex (a:=AV.int .i64 (gt ([r12.1,r12.2.1,r12.2.2.1,r12.2.2.2]:List Int) (dO:Int).toNat)) (by rw [Nat.mul_one]; exact arr_get (k:=.i64) (l:=[r12.1,r12.2.1,r12.2.2.1,r12.2.2.2]) rfl (by have:=g15; simp only [List.length_cons,List.length_nil]; omega)) ?_
 refine bind_ex rfl ?_
 refine bind_ex (ldI_of (w13.ld (i:=0) rfl rfl)) ?_
 refine bind_ex (ldI_of (w13.ld (i:=0) rfl rfl)) ?_
 refine bind_ex (ldI_of (w13.ld (i:=0) rfl rfl)) ?_
 refine bind_ex (ldI_of (w13.ld (i:=0) rfl rfl)) ?_
 refine bind_ex (ldI_of (w13.ld (i:=0) rfl rfl)) ?_
 refine bind_ex (ldI_of (w13.ld (i:=2) rfl rfl)) ?_
 obtain ⟨r16,e16,hp⟩:=bind_some' hp
 refine call_ex (bj.P ⟨w13,trivial⟩ e16) ?_
 rintro _ H17 ⟨rfl,w17,s17,_⟩
 refine bind_ex rfl ?_
 refine bif_ex (fun hb=>?_) (fun hb=>?_)
 ·replace hp:=bif_t hb hp
  refine bind_ex (ldSl_of (w17.ld (i:=3) rfl rfl)) ?_
  obtain ⟨n18,g18,hp⟩:=bind_some' hp
  obtain ⟨p18,q18,i18,h18,j18⟩:=ROs.ixr (gC.step (s1.trans (s2.trans (s3.trans (s4.trans (s6.trans (s7.trans (s8.trans (s9.trans (s10.trans (s11.trans (s13.trans s17)))))))))))) rfl g18
  refine bind_ex i18 ?_
  obtain ⟨_,_,rfl,rfl,rfl⟩:=h18
  refine bind_ex (ldI_of (j18 0 _ rfl)) ?_
  refine bind_ex (ldI_of (j18 1 _ rfl)) ?_
  refine st_k w17 (i:=1) rfl rfl rfl fun H19 w19 s19=>?_
  dsimp only [List.set] at w19 s19
  refine st_k w19 (i:=1) rfl rfl rfl fun H20 w20 s20=>?_
  dsimp only [List.set] at w20 s20
  refine bind_ex (ldI_of (w20.ld (i:=1) rfl rfl)) ?_
  refine bind_ex (ldI_of (w20.ld (i:=1) rfl rfl)) ?_
  obtain ⟨w21,s21⟩:=w20.pick' [] 5 rfl rfl rfl
  dsimp only [pk,pks,nth,List.drop] at w21 s21
  obtain rfl:=Option.some.inj hp
  exact ⟨_,_,rfl,rfl,w21,(s0.trans (s1.trans (s2.trans (s3.trans (s4.trans (s6.trans (s7.trans (s8.trans (s9.trans (s10.trans (s11.trans (s13.trans (s17.trans (s19.trans (s20.trans s21))))))))))))))),trivial⟩
 ·replace hp:=bif_f hb hp
  refine bind_ex (ldSl_of (w17.ld (i:=3) rfl rfl)) ?_
  obtain ⟨n22,g22,hp⟩:=bind_some' hp
  obtain ⟨p22,q22,i22,h22,j22⟩:=ROs.ixr (im.step (s1.trans (s2.trans (s3.trans (s4.trans (s6.trans (s7.trans (s8.trans (s9.trans (s10.trans (s11.trans (s13.trans s17)))))))))))) rfl g22
  refine bind_ex i22 ?_
  obtain ⟨_,_,rfl,rfl,rfl⟩:=h22
  refine bind_ex (ldI_of (j22 0 _ rfl)) ?_
  refine bind_ex (ldI_of (j22 1 _ rfl)) ?_
  refine st_k w17 (i:=1) rfl rfl rfl fun H23 w23 s23=>?_
  dsimp only [List.set] at w23 s23
  refine st_k w23 (i:=1) rfl rfl rfl fun H24 w24 s24=>?_
  dsimp only [List.set] at w24 s24
  refine bind_ex (ldI_of (w24.ld (i:=1) rfl rfl)) ?_
  refine bind_ex (ldI_of (w24.ld (i:=1) rfl rfl)) ?_
  obtain ⟨w25,s25⟩:=w24.pick' [] 5 rfl rfl rfl
  dsimp only [pk,pks,nth,List.drop] at w25 s25
  obtain rfl:=Option.some.inj hp
  exact ⟨_,_,rfl,rfl,w25,(s0.trans (s1.trans (s2.trans (s3.trans (s4.trans (s6.trans (s7.trans (s8.trans (s9.trans (s10.trans (s11.trans (s13.trans (s17.trans (s23.trans (s24.trans s25))))))))))))))),trivial⟩
def ai.Q (H0:Hp) (Ri R0:List Rs)  (r:List (List Int)) (v:AV) (H':Hp):Prop:=∃ o0a:ON,∃ o0n:Nat,∃ o0c:Cap,∃ o0k:List AV,v = (.sl ⟨o0a,o0n,o0c⟩)∧o0n = (r).length∧Out H0 Ri H' (Rs.own ⟨o0a,o0n,o0c⟩ (eSl (eInt .i64)).z o0k :: R0) fun R=>CR (eSl (eInt .i64)) H' R o0k (r)
def ai.S61 (H0:Hp) (Ri R0:List Rs)  (C:Nat→Nat→Nat→Nat→Sl→Sl→Int→Int→Hp→OA) (pC:List (Int×Int×Int×Int×Int)→List (Int×Int)→List (Int×Int)→List (List Int)→List Bool→Int→Int→Option (List (List Int))):Prop:=∀ {rL rM rN rO rP:ON} {nB eB nC nD co nE nF:Nat} {rQ rR rS rT rU:Cap} {jU:List (Int×Int×Int×Int×Int)} {vg eC eo:Int} {jV jW:List (Int×Int)} {jD:List (List Int)} {rV rW:List AV} {jX:List Bool},∀ {H:Hp},nB = jU.length→nC = jV.length→nD = jW.length→nE = jD.length→nF = jX.length→(Out H0 Ri H (Rs.blk eB [.sl ⟨rL,nB,rQ⟩,.int .i64 vg] :: Rs.blk co [.sl ⟨rM,nC,rR⟩,.sl ⟨rN,nD,rS⟩] :: Rs.own ⟨rO,nE,rT⟩ (eSl (eInt .i64)).z rV :: Rs.own ⟨rP,nF,rU⟩ eBool.z rW :: R0) fun R=>ROs (ePair (eInt .i64) (ePair (eInt .i64) (ePair (eInt .i64) (ePair (eInt .i64) (eInt .i64))))) H R ⟨rL,nB,rQ⟩ jU∧ROs (ePair (eInt .i64) (eInt .i64)) H R ⟨rM,nC,rR⟩ jV∧ROs (ePair (eInt .i64) (eInt .i64)) H R ⟨rN,nD,rS⟩ jW∧CR (eSl (eInt .i64)) H R rV jD∧CR eBool H R rW jX)→∀ {r:List (List Int)},pC jU jV jW jD jX eC eo = some r→∃ v H',C eB 0 co 0 ⟨rO,nE,rT⟩ ⟨rP,nF,rU⟩ eC eo H = some (v,H')∧ai.Q H0 Ri R0  r v H'
def ai.S15725 (H0:Hp) (Ri R0:List Rs)  (C:Nat→Nat→Nat→Nat→Sl→Sl→Int→Int→Sl→Int→Hp→OA) (pC:List (Int×Int×Int×Int×Int)→List (Int×Int)→List (Int×Int)→List (List Int)→List Bool→Int→Int→List Int→Int→Option (List (List Int))):Prop:=∀ {rX rY rZ r_ sa sb:ON} {nG db nH nI dq nJ nK nL:Nat} {sc sd se sf sh si:Cap} {iW:List (Int×Int×Int×Int×Int)} {vh eA eU cF:Int} {iX iY:List (Int×Int)} {jE:List (List Int)} {sj sk sm:List AV} {io:List Bool} {jF:List Int},∀ {H:Hp},nG = iW.length→nH = iX.length→nI = iY.length→nJ = jE.length→nK = io.length→nL = jF.length→(Out H0 Ri H (Rs.blk db [.sl ⟨rX,nG,sc⟩,.int .i64 vh] :: Rs.blk dq [.sl ⟨rY,nH,sd⟩,.sl ⟨rZ,nI,se⟩] :: Rs.own ⟨r_,nJ,sf⟩ (eSl (eInt .i64)).z sj :: Rs.own ⟨sa,nK,sh⟩ eBool.z sk :: Rs.own ⟨sb,nL,si⟩ (eInt .i64).z sm :: R0) fun R=>ROs (ePair (eInt .i64) (ePair (eInt .i64) (ePair (eInt .i64) (ePair (eInt .i64) (eInt .i64))))) H R ⟨rX,nG,sc⟩ iW∧ROs (ePair (eInt .i64) (eInt .i64)) H R ⟨rY,nH,sd⟩ iX∧ROs (ePair (eInt .i64) (eInt .i64)) H R ⟨rZ,nI,se⟩ iY∧CR (eSl (eInt .i64)) H R sj jE∧CR eBool H R sk io∧CR (eInt .i64) H R sm jF)→∀ {r:List (List Int)},pC iW iX iY jE io eA eU jF cF = some r→∃ v H',C db 0 dq 0 ⟨r_,nJ,sf⟩ ⟨sa,nK,sh⟩ eA eU ⟨sb,nL,si⟩ cF H = some (v,H')∧ai.Q H0 Ri R0  r v H'
def ai.pj4 (F:Nat) (aO:List (Int×Int×Int×Int×Int)→List (Int×Int)→List (Int×Int)→List (List Int)→List Bool→Int→Int→Option (List (List Int))) (nM:List (Int×Int×Int×Int×Int)) (nN:List (Int×Int)) (nO:List (Int×Int)) (nP:List (List Int)) (nQ:List Bool) (kG:Int) (kH:Int):Option (List (List Int)):=aO nM nN nO nP nQ kG (IntKind.i64.wrap (kH + 1))
theorem ai.j4_P {F:Nat} {H0:Hp} {Ri R0:List Rs}  {C61_:Nat→Nat→Nat→Nat→Sl→Sl→Int→Int→Hp→OA} {aO:List (Int×Int×Int×Int×Int)→List (Int×Int)→List (Int×Int)→List (List Int)→List Bool→Int→Int→Option (List (List Int))} (hC61:ai.S61 H0 Ri R0  C61_ aO) {Ag Ah Ai Aj Ak:ON} {vi o_ vj vk pa vl vm:Nat} {Al Am An Ao Ap:Cap} {nM:List (Int×Int×Int×Int×Int)} {Gt kG kH:Int} {nN nO:List (Int×Int)} {nP:List (List Int)} {Aq Ar:List AV} {nQ:List Bool} {H:Hp} (Gu:vi = nM.length) (Gv:vj = nN.length) (Gw:vk = nO.length) (Gx:vl = nP.length) (Gy:vm = nQ.length) (h0:Out H0 Ri H (Rs.blk o_ [.sl ⟨Ag,vi,Al⟩,.int .i64 Gt] :: Rs.blk pa [.sl ⟨Ah,vj,Am⟩,.sl ⟨Ai,vk,An⟩] :: Rs.own ⟨Aj,vl,Ao⟩ (eSl (eInt .i64)).z Aq :: Rs.own ⟨Ak,vm,Ap⟩ eBool.z Ar :: R0) fun R=>ROs (ePair (eInt .i64) (ePair (eInt .i64) (ePair (eInt .i64) (ePair (eInt .i64) (eInt .i64))))) H R ⟨Ag,vi,Al⟩ nM∧ROs (ePair (eInt .i64) (eInt .i64)) H R ⟨Ah,vj,Am⟩ nN∧ROs (ePair (eInt .i64) (eInt .i64)) H R ⟨Ai,vk,An⟩ nO∧CR (eSl (eInt .i64)) H R Aq nP∧CR eBool H R Ar nQ) {r:List (List Int)} (hp:ai.pj4 F aO nM nN nO nP nQ kG kH = some r):∃ v H',ai.j4 F (br.tw F) C61_ o_ 0 pa 0 ⟨Aj,vl,Ao⟩ ⟨Ak,vm,Ap⟩ kG kH H = some (v,H')∧ai.Q H0 Ri R0  r v H':=by
 obtain ⟨w0,s0,Gz,GA,GB,GC,GD⟩:=h0
 subst Gu
 subst Gv
 subst Gw
 subst Gx
 subst Gy
 unfold ai.pj4 at hp
 unfold ai.j4
 exact hC61 rfl rfl rfl rfl rfl ⟨w0,s0,Gz,GA,GB,GC,GD⟩ hp
def ai.pj5 (F:Nat) (aO:List (Int×Int×Int×Int×Int)→List (Int×Int)→List (Int×Int)→List (List Int)→List Bool→Int→Int→Option (List (List Int))) (nR:List (Int×Int×Int×Int×Int)) (nS:List (Int×Int)) (nT:List (Int×Int)) (nU:List (List Int)) (nV:List Bool) (kI:Int) (kJ:Int):Option (List (List Int)):=ai.pj4 F aO nR nS nT nU nV kI kJ
theorem ai.j5_P {F:Nat} {H0:Hp} {Ri R0:List Rs}  {C61_:Nat→Nat→Nat→Nat→Sl→Sl→Int→Int→Hp→OA} {aO:List (Int×Int×Int×Int×Int)→List (Int×Int)→List (Int×Int)→List (List Int)→List Bool→Int→Int→Option (List (List Int))} (hC61:ai.S61 H0 Ri R0  C61_ aO) {As At Au Av Aw:ON} {vn pb vo vp kk vq vr:Nat} {Ax Ay Az AA AB:Cap} {nR:List (Int×Int×Int×Int×Int)} {GE kI kJ:Int} {nS nT:List (Int×Int)} {nU:List (List Int)} {AC AD:List AV} {nV:List Bool} {H:Hp} (GF:vn = nR.length) (GG:vo = nS.length) (GH:vp = nT.length) (GI:vq = nU.length) (GJ:vr = nV.length) (h0:Out H0 Ri H (Rs.blk pb [.sl ⟨As,vn,Ax⟩,.int .i64 GE] :: Rs.blk kk [.sl ⟨At,vo,Ay⟩,.sl ⟨Au,vp,Az⟩] :: Rs.own ⟨Av,vq,AA⟩ (eSl (eInt .i64)).z AC :: Rs.own ⟨Aw,vr,AB⟩ eBool.z AD :: R0) fun R=>ROs (ePair (eInt .i64) (ePair (eInt .i64) (ePair (eInt .i64) (ePair (eInt .i64) (eInt .i64))))) H R ⟨As,vn,Ax⟩ nR∧ROs (ePair (eInt .i64) (eInt .i64)) H R ⟨At,vo,Ay⟩ nS∧ROs (ePair (eInt .i64) (eInt .i64)) H R ⟨Au,vp,Az⟩ nT∧CR (eSl (eInt .i64)) H R AC nU∧CR eBool H R AD nV) {r:List (List Int)} (hp:ai.pj5 F aO nR nS nT nU nV kI kJ = some r):∃ v H',ai.j5 F (br.tw F) C61_ pb 0 kk 0 ⟨Av,vq,AA⟩ ⟨Aw,vr,AB⟩ kI kJ H = some (v,H')∧ai.Q H0 Ri R0  r v H':=by
 obtain ⟨w0,s0,GK,GL,GM,GN,GO⟩:=h0
 subst GF
 subst GG
 subst GH
 subst GI
 subst GJ
 unfold ai.pj5 at hp
 unfold ai.j5
 exact ai.j4_P (@hC61) rfl rfl rfl rfl rfl ⟨w0,s0,GK,GL,GM,GN,GO⟩ hp
def ai.pj6 (F:Nat) (aO:List (Int×Int×Int×Int×Int)→List (Int×Int)→List (Int×Int)→List (List Int)→List Bool→Int→Int→Option (List (List Int))) (lg:List (Int×Int×Int×Int×Int)) (li:List (Int×Int)) (lj:List (Int×Int)) (lk:List (List Int)) (ll:List Bool) (jG:List Int) (jj:Int) (jk:Int):Option (List (List Int)):=(bif (decide ((jG.length:Int) > 0)) then ((apn lk ([jG]:List (List Int))).bind fun l3=>ai.pj5 F aO lg li lj l3 ll jj jk) else (ai.pj5 F aO lg li lj lk ll jj jk))
theorem ai.j6_P {F:Nat} {H0:Hp} {Ri R0:List Rs}  {C61_:Nat→Nat→Nat→Nat→Sl→Sl→Int→Int→Hp→OA} {aO:List (Int×Int×Int×Int×Int)→List (Int×Int)→List (Int×Int)→List (List Int)→List Bool→Int→Int→Option (List (List Int))} (hC61:ai.S61 H0 Ri R0  C61_ aO) {AF AG AH AI AJ AK:ON} {vs lv vt vu lw vv vw vx:Nat} {AL AM AN AO AP AQ:Cap} {lg:List (Int×Int×Int×Int×Int)} {GP jj jk:Int} {li lj:List (Int×Int)} {lk:List (List Int)} {AR AS AT:List AV} {ll:List Bool} {jG:List Int} {H:Hp} (GQ:vs = lg.length) (GR:vt = li.length) (GS:vu = lj.length) (GT:vv = lk.length) (GU:vw = ll.length) (GV:vx = jG.length) (h0:Out H0 Ri H (Rs.blk lv [.sl ⟨AF,vs,AL⟩,.int .i64 GP] :: Rs.blk lw [.sl ⟨AG,vt,AM⟩,.sl ⟨AH,vu,AN⟩] :: Rs.own ⟨AI,vv,AO⟩ (eSl (eInt .i64)).z AR :: Rs.own ⟨AJ,vw,AP⟩ eBool.z AS :: Rs.own ⟨AK,vx,AQ⟩ (eInt .i64).z AT :: R0) fun R=>ROs (ePair (eInt .i64) (ePair (eInt .i64) (ePair (eInt .i64) (ePair (eInt .i64) (eInt .i64))))) H R ⟨AF,vs,AL⟩ lg∧ROs (ePair (eInt .i64) (eInt .i64)) H R ⟨AG,vt,AM⟩ li∧ROs (ePair (eInt .i64) (eInt .i64)) H R ⟨AH,vu,AN⟩ lj∧CR (eSl (eInt .i64)) H R AR lk∧CR eBool H R AS ll∧CR (eInt .i64) H R AT jG) {r:List (List Int)} (hp:ai.pj6 F aO lg li lj lk ll jG jj jk = some r):∃ v H',ai.j6 F (br.tw F) C61_ lv 0 lw 0 ⟨AI,vv,AO⟩ ⟨AJ,vw,AP⟩ ⟨AK,vx,AQ⟩ jj jk H = some (v,H')∧ai.Q H0 Ri R0  r v H':=by
 obtain ⟨w0,s0,AU,AW,AX,AY,AZ,GW⟩:=h0
 subst GQ
 subst GR
 subst GS
 subst GT
 subst GU
 subst GV
 unfold ai.pj6 at hp
 unfold ai.j6
 refine bif_ex (fun hb=>?_) (fun hb=>?_)
 ·replace hp:=bif_t hb hp
  obtain ⟨w1,s1,f1⟩:=w0.frz (i:=4) (eInt .i64) rfl GW
  dsimp only [List.eraseIdx] at w1 s1 f1
  refine newS_k (eSl (eInt .i64)) w1 (n:=1) (l:=([jG]:List (List Int))) rfl (CR.cons1 ⟨_,rfl,f1⟩ CR.empty) rfl fun H2 w2 s2 c2=>?_
  refine bind_ex (w2.rowo (i:=0) rfl) ?_
  obtain ⟨l3,e3,hp⟩:=bind_some' hp
  refine app_k (eSl (eInt .i64)) w2 (i:=3) rfl rfl (AY.step (s1.trans s2)) c2 (show 1 = List.length ([jG]:List (List Int)) from rfl) rfl e3 fun a4 d4 H4 w4 s4 c4 x4=>?_
  dsimp only [List.set] at w4 s4 c4
  obtain ⟨w5,s5⟩:=w4.pick' [1,2,3,4] 5 rfl rfl rfl
  dsimp only [pk,pks,nth,List.drop] at w5 s5
  exact ai.j5_P (@hC61) rfl rfl rfl rfl rfl ⟨w5,(s0.trans (s1.trans (s2.trans (s4.trans s5)))),(AU.step (s1.trans (s2.trans (s4.trans s5)))),(AW.step (s1.trans (s2.trans (s4.trans s5)))),(AX.step (s1.trans (s2.trans (s4.trans s5)))),(c4.step s5),(AZ.step (s1.trans (s2.trans (s4.trans s5))))⟩ hp
 ·replace hp:=bif_f hb hp
  obtain ⟨w6,s6⟩:=w0.pick' [0,1,2,3] 5 rfl rfl rfl
  dsimp only [pk,pks,nth,List.drop] at w6 s6
  exact ai.j5_P (@hC61) rfl rfl rfl rfl rfl ⟨w6,(s0.trans s6),(AU.step s6),(AW.step s6),(AX.step s6),(AY.step s6),(AZ.step s6)⟩ hp
def ai.pl15725 (F:Nat) (aO:List (Int×Int×Int×Int×Int)→List (Int×Int)→List (Int×Int)→List (List Int)→List Bool→Int→Int→Option (List (List Int))):Nat→List (Int×Int×Int×Int×Int)→List (Int×Int)→List (Int×Int)→List (List Int)→List Bool→Int→Int→List Int→Int→Option (List (List Int))
 | 0,_,_,_,_,_,_,_,_,_=>none
 | k + 1,iW,iX,iY,jE,io,eA,eU,jF,cF=>(ix io cF).bind fun n1=>(bif (!(gt io n1)) then ((ix io cF).bind fun n2=>(some (io.set n2 true)).bind fun l3=>(apn jF ([cF]:List Int)).bind fun l6=>(br.p F iW iX iY (IntKind.i64.wrap (Int.tdiv cF 4)) (Int.tmod (IntKind.i64.wrap (cF + 1)) 4)).bind fun r8=>ai.pl15725 F aO k iW iX iY jE l3 eA eU l6 (IntKind.i64.wrap ((IntKind.i64.wrap (4 * r8.1)) + r8.2))) else (ai.pj6 F aO iW iX iY jE io jF eA eU))
termination_by structural n=>n
theorem ai.l15725_P {F:Nat} {H0:Hp} {Ri R0:List Rs}  {C61_:Nat→Nat→Nat→Nat→Sl→Sl→Int→Int→Hp→OA} {aO:List (Int×Int×Int×Int×Int)→List (Int×Int)→List (Int×Int)→List (List Int)→List Bool→Int→Int→Option (List (List Int))} (hC61:ai.S61 H0 Ri R0  C61_ aO):∀ k,ai.S15725 H0 Ri R0  (ai.l15725 F (br.tw F) C61_ k) (ai.pl15725 F aO k):=by
 intro k
 induction k with
 | zero=>
  intro rX rY rZ r_ sa sb nG db nH nI dq nJ nK nL sc sd se sf sh si iW vh eA eU cF iX iY jE sj sk sm io jF H A_ Ba Bb Bc Bd Be h0 r hp
  exact nomatch (show (none:Option (List (List Int))) = some r from hp)
 | succ k ih=>
  intro rX rY rZ r_ sa sb nG db nH nI dq nJ nK nL sc sd se sf sh si iW vh eA eU cF iX iY jE sj sk sm io jF H A_ Ba Bb Bc Bd Be h0 r hp
  obtain ⟨w0,s0,vy,vz,vA,Bf,sn,Bg⟩:=h0
  subst A_
  subst Ba
  subst Bb
  subst Bc
  subst Bd
  subst Be
  unfold ai.pl15725 at hp
  unfold ai.l15725
  obtain ⟨n1,g1,hp⟩:=bind_some' hp
  obtain ⟨p1,q1,i1,h1,j1⟩:=W.ixo (E:=eBool) w0 (i:=3) rfl rfl sn g1
  refine bind_ex i1 ?_
  have h1:_ = [_]:=h1
  subst h1
  refine bind_ex (ldB_of (j1 0 _ rfl)) ?_
  refine bif_ex (fun hb=>?_) (fun hb=>?_)
  ·replace hp:=bif_t hb hp
   obtain ⟨n2,g2,hp⟩:=bind_some' hp
   obtain ⟨p2,q2,i2,h2,j2⟩:=W.ixo (E:=eBool) w0 (i:=3) rfl rfl sn g2
   refine bind_ex i2 ?_
   obtain ⟨l3,e3,hp⟩:=bind_some' hp
   refine sto_k eBool w0 (i:=3) (j:=0) (p:=p2) rfl rfl sn g2 i2 e3 rfl rfl (fun _ h=>by have h:_ = [_]:=h; subst h; exact rfl) fun H4 k4 w4 s4 c4=>?_
   dsimp only [List.set] at w4 s4 c4
   refine newS_k (eInt .i64) w4 (n:=1) (l:=([cF]:List Int)) rfl (CR.cons1 rfl CR.empty) rfl fun H5 w5 s5 c5=>?_
   refine bind_ex (w5.rowo (i:=0) rfl) ?_
   obtain ⟨l6,e6,hp⟩:=bind_some' hp
   refine app_k (eInt .i64) w5 (i:=5) rfl rfl (Bg.step (s4.trans s5)) c5 (show 1 = List.length ([cF]:List Int) from rfl) rfl e6 fun a7 d7 H7 w7 s7 c7 x7=>?_
   dsimp only [List.set] at w7 s7 c7
   refine bind_ex (ldSl_of (w7.ld (i:=1) rfl rfl)) ?_
   refine bind_ex (ldI_of (w7.ld (i:=1) rfl rfl)) ?_
   refine bind_ex (ldSl_of (w7.ld (i:=2) rfl rfl)) ?_
   refine bind_ex (ldSl_of (w7.ld (i:=2) rfl rfl)) ?_
   obtain ⟨r8,e8,hp⟩:=bind_some' hp
   refine call_ex (br.P rfl rfl rfl ⟨w7,(vy.step (s4.trans (s5.trans s7))),(vz.step (s4.trans (s5.trans s7))),(vA.step (s4.trans (s5.trans s7)))⟩ e8) ?_
   rintro _ H9 ⟨rfl,w9,s9,_⟩
   refine bind_ex rfl ?_
   refine bind_ex rfl ?_
   refine bind_ex rfl ?_
   refine bind_ex rfl ?_
   refine bind_ex rfl ?_
   refine new_k w9 fun H10 w10 s10=>?_
   refine st_k w10 (i:=0) rfl rfl rfl fun H11 w11 s11=>?_
   dsimp only [List.set] at w11 s11
   refine st_k w11 (i:=0) rfl rfl rfl fun H12 w12 s12=>?_
   dsimp only [List.set] at w12 s12
   refine bind_ex (ldI_of (w12.ld (i:=0) rfl rfl)) ?_
   refine bind_ex (ldI_of (w12.ld (i:=0) rfl rfl)) ?_
   obtain ⟨w13,s13⟩:=w12.pick' [2,3,4,5,6] 7 rfl rfl rfl
   dsimp only [pk,pks,nth,List.drop] at w13 s13
   exact ih rfl rfl rfl rfl ((st_len e3).symm) rfl ⟨w13,(s0.trans (s4.trans (s5.trans (s7.trans (s9.trans (s10.trans (s11.trans (s12.trans s13)))))))),(vy.step (s4.trans (s5.trans (s7.trans (s9.trans (s10.trans (s11.trans (s12.trans s13)))))))),(vz.step (s4.trans (s5.trans (s7.trans (s9.trans (s10.trans (s11.trans (s12.trans s13)))))))),(vA.step (s4.trans (s5.trans (s7.trans (s9.trans (s10.trans (s11.trans (s12.trans s13)))))))),(Bf.step (s4.trans (s5.trans (s7.trans (s9.trans (s10.trans (s11.trans (s12.trans s13)))))))),(c4.step (s5.trans (s7.trans (s9.trans (s10.trans (s11.trans (s12.trans s13))))))),(c7.step (s9.trans (s10.trans (s11.trans (s12.trans s13)))))⟩ hp
  ·replace hp:=bif_f hb hp
   exact ai.j6_P (@hC61) rfl rfl rfl rfl rfl rfl ⟨w0,s0,vy,vz,vA,Bf,sn,Bg⟩ hp
def ai.pl61 (F:Nat) :Nat→List (Int×Int×Int×Int×Int)→List (Int×Int)→List (Int×Int)→List (List Int)→List Bool→Int→Int→Option (List (List Int))
 | 0,_,_,_,_,_,_,_=>none
 | k + 1,jU,jV,jW,jD,jX,eC,eo=>(bif (decide (eo < eC)) then (ai.pl15725 F (ai.pl61 F k) F jU jV jW jD jX eC eo ([]:List Int) eo) else (some jD))
termination_by structural n=>n
theorem ai.l61_P {F:Nat} {H0:Hp} {Ri R0:List Rs}  :∀ k,ai.S61 H0 Ri R0  (ai.l61 F (br.tw F)  k) (ai.pl61 F  k):=by
 intro k
 induction k with
 | zero=>
  intro rL rM rN rO rP nB eB nC nD co nE nF rQ rR rS rT rU jU vg eC eo jV jW jD rV rW jX H Bh Bi Bj Bk Bl h0 r hp
  exact nomatch (show (none:Option (List (List Int))) = some r from hp)
 | succ k ih=>
  intro rL rM rN rO rP nB eB nC nD co nE nF rQ rR rS rT rU jU vg eC eo jV jW jD rV rW jX H Bh Bi Bj Bk Bl h0 r hp
  obtain ⟨w0,s0,GX,GY,GZ,Bm,G_⟩:=h0
  subst Bh
  subst Bi
  subst Bj
  subst Bk
  subst Bl
  unfold ai.pl61 at hp
  unfold ai.l61
  refine bif_ex (fun hb=>?_) (fun hb=>?_)
  ·replace hp:=bif_t hb hp
   obtain ⟨w1,s1⟩:=w0.nilS (eInt .i64).z (by decide)
   obtain ⟨w2,s2⟩:=w1.pick' [1,2,3,4,0] 5 rfl rfl rfl
   dsimp only [pk,pks,nth,List.drop] at w2 s2
   exact ai.l15725_P (@ih) F rfl rfl rfl rfl rfl rfl ⟨w2,(s0.trans (s1.trans s2)),(GX.step (s1.trans s2)),(GY.step (s1.trans s2)),(GZ.step (s1.trans s2)),(Bm.step (s1.trans s2)),(G_.step (s1.trans s2)),((CR.empty:CR (eInt .i64) _ _ [] []).step s2)⟩ hp
  ·replace hp:=bif_f hb hp
   obtain ⟨w3,s3⟩:=w0.pick' [2] 4 rfl rfl rfl
   dsimp only [pk,pks,nth,List.drop] at w3 s3
   obtain rfl:=Option.some.inj hp
   exact ⟨_,_,rfl,_,_,_,_,rfl,rfl,w3,(s0.trans s3),(Bm.step s3)⟩
def ai.p (F:Nat) (ad:List (Int×Int×Int×Int×Int)) (bX:List (Int×Int)) (cn:List (Int×Int)):Option (List (List Int)):=(mkn (IntKind.i64.wrap (4 * (ad.length:Int))) false).bind fun l3=>ai.pl61 F F ad bX cn ([]:List (List Int)) l3 (l3.length:Int) 0
theorem ai.P {F:Nat} {av fu ga:ON} {aj dv eN:Nat} {aw fv gb:Cap} {ad:List (Int×Int×Int×Int×Int)} {ab:Int} {bX cn:List (Int×Int)} {H:Hp} {R0:List Rs} (ba:aj = ad.length) (il:dv = bX.length) (iV:eN = cn.length) (h0:Inn H R0 fun R=>ROs (ePair (eInt .i64) (ePair (eInt .i64) (ePair (eInt .i64) (ePair (eInt .i64) (eInt .i64))))) H R ⟨av,aj,aw⟩ ad∧ROs (ePair (eInt .i64) (eInt .i64)) H R ⟨fu,dv,fv⟩ bX∧ROs (ePair (eInt .i64) (eInt .i64)) H R ⟨ga,eN,gb⟩ cn) {r:List (List Int)} (hp:ai.p F ad bX cn = some r):∃ v H',ai.tw F ⟨av,aj,aw⟩ ab ⟨fu,dv,fv⟩ ⟨ga,eN,gb⟩ H = some (v,H')∧ai.Q H R0 R0  r v H':=by
 obtain ⟨w0,aL,gC,im⟩:=h0
 subst ba
 subst il
 subst iV
 unfold ai.p at hp
 unfold ai.tw ai.twX
 have s0:=w0.rf
 refine new_k w0 fun H1 w1 s1=>?_
 refine new_k w1 fun H2 w2 s2=>?_
 refine bind_ex (ldSl_of (w2.ld (i:=1) rfl rfl)) ?_
 obtain ⟨l3,e3,hp⟩:=bind_some' hp
 refine mk_k eBool false w2 rfl rfl rfl e3 fun H4 k4 w4 s4 c4=>?_
 obtain ⟨w5,s5⟩:=w4.nilS (eSl (eInt .i64)).z (by decide)
 obtain ⟨w6,s6⟩:=w5.pick' [3,2,0,1] 4 rfl rfl rfl
 dsimp only [pk,pks,nth,List.drop] at w6 s6
 exact ai.l61_P F rfl rfl rfl rfl rfl ⟨w6,(s0.trans (s1.trans (s2.trans (s4.trans (s5.trans s6))))),(aL.step (s1.trans (s2.trans (s4.trans (s5.trans s6))))),(gC.step (s1.trans (s2.trans (s4.trans (s5.trans s6))))),(im.step (s1.trans (s2.trans (s4.trans (s5.trans s6))))),((CR.empty:CR (eSl (eInt .i64)) _ _ [] []).step s6),(c4.step (s5.trans s6))⟩ hp
def bJ.Q (H0:Hp) (Ri R0:List Rs)  (r:Int) (v:AV) (H':Hp):Prop:=v = (.int .i64 r)∧Out H0 Ri H' (R0) fun R=>True
def bJ.p (F:Nat) (ad:List (List Int)):Option (Int):=some (ad.length:Int)
theorem bJ.P {F:Nat} {av:ON} {aj:Nat} {aw:Cap} {ad:List (List Int)} {H:Hp} {R0:List Rs} (ba:aj = ad.length) (h0:Inn H R0 fun R=>ROs (eSl (eInt .i64)) H R ⟨av,aj,aw⟩ ad) {r:Int} (hp:bJ.p F ad = some r):∃ v H',bJ.tw F ⟨av,aj,aw⟩ H = some (v,H')∧bJ.Q H R0 R0  r v H':=by
 obtain ⟨w0,aL⟩:=h0
 subst ba
 unfold bJ.p at hp
 unfold bJ.tw bJ.twX
 have s0:=w0.rf
 obtain rfl:=Option.some.inj hp
 exact ⟨_,_,rfl,rfl,w0,s0,trivial⟩
def aQ.Q (H0:Hp) (Ri R0:List Rs)  (r:List Int) (v:AV) (H':Hp):Prop:=∃ o0a:ON,∃ o0n:Nat,∃ o0c:Cap,∃ o0k:List AV,v = (.sl ⟨o0a,o0n,o0c⟩)∧o0n = (r).length∧Out H0 Ri H' (Rs.own ⟨o0a,o0n,o0c⟩ (eInt .i64).z o0k :: R0) fun R=>CR (eInt .i64) H' R o0k (r)
def aQ.S29 (H0:Hp) (Ri R0:List Rs)  (C:Sl→Int→Int→Hp→OA) (pC:List Int→Int→Int→Option (List Int)):Prop:=∀ {sp:ON} {nW:Nat} {sq:Cap} {jH:List Int} {ss:List AV} {eD dP:Int},∀ {H:Hp},nW = jH.length→(Out H0 Ri H (Rs.own ⟨sp,nW,sq⟩ (eInt .i64).z ss :: R0) fun R=>CR (eInt .i64) H R ss jH)→∀ {r:List Int},pC jH eD dP = some r→∃ v H',C ⟨sp,nW,sq⟩ eD dP H = some (v,H')∧aQ.Q H0 Ri R0  r v H'
def aQ.pl29 (F:Nat) :Nat→List Int→Int→Int→Option (List Int)
 | 0,_,_,_=>none
 | k + 1,jH,eD,dP=>(bif (decide (dP < eD)) then ((apn jH ([dP]:List Int)).bind fun l2=>aQ.pl29 F k l2 eD (IntKind.i64.wrap (dP + 1))) else (some jH))
termination_by structural n=>n
theorem aQ.l29_P {F:Nat} {H0:Hp} {Ri R0:List Rs}  :∀ k,aQ.S29 H0 Ri R0  (aQ.l29 F   k) (aQ.pl29 F  k):=by
 intro k
 induction k with
 | zero=>
  intro sp nW sq jH ss eD dP H Bn h0 r hp
  exact nomatch (show (none:Option (List Int)) = some r from hp)
 | succ k ih=>
  intro sp nW sq jH ss eD dP H Bn h0 r hp
  obtain ⟨w0,s0,Bo⟩:=h0
  subst Bn
  unfold aQ.pl29 at hp
  unfold aQ.l29
  refine bif_ex (fun hb=>?_) (fun hb=>?_)
  ·replace hp:=bif_t hb hp
   refine newS_k (eInt .i64) w0 (n:=1) (l:=([dP]:List Int)) rfl (CR.cons1 rfl CR.empty) rfl fun H1 w1 s1 c1=>?_
   refine bind_ex (w1.rowo (i:=0) rfl) ?_
   obtain ⟨l2,e2,hp⟩:=bind_some' hp
   refine app_k (eInt .i64) w1 (i:=1) rfl rfl (Bo.step s1) c1 (show 1 = List.length ([dP]:List Int) from rfl) rfl e2 fun a3 d3 H3 w3 s3 c3 x3=>?_
   dsimp only [List.set] at w3 s3 c3
   obtain ⟨w4,s4⟩:=w3.pick' [1] 2 rfl rfl rfl
   dsimp only [pk,pks,nth,List.drop] at w4 s4
   exact ih rfl ⟨w4,(s0.trans (s1.trans (s3.trans s4))),(c3.step s4)⟩ hp
  ·replace hp:=bif_f hb hp
   obtain rfl:=Option.some.inj hp
   exact ⟨_,_,rfl,_,_,_,_,rfl,rfl,w0,s0,Bo⟩
def aQ.p (F:Nat) (aa:Int):Option (List Int):=aQ.pl29 F F ([]:List Int) aa 0
theorem aQ.P {F:Nat} {aa:Int} {H:Hp} {R0:List Rs}  (h0:Inn H R0 fun R=>True) {r:List Int} (hp:aQ.p F aa = some r):∃ v H',aQ.tw F aa H = some (v,H')∧aQ.Q H R0 R0  r v H':=by
 obtain ⟨w0,_⟩:=h0
 unfold aQ.p at hp
 unfold aQ.tw aQ.twX
 have s0:=w0.rf
 obtain ⟨w1,s1⟩:=w0.nilS (eInt .i64).z (by decide)
 exact aQ.l29_P F rfl ⟨w1,(s0.trans s1),(CR.empty:CR (eInt .i64) _ _ [] [])⟩ hp
def aG.Q (H0:Hp) (Ri R0:List Rs) (av:ON) (aj:Nat) (aw:Cap) (dw:Bool) (dx dy:List AV) (r:List Int) (v:AV) (H':Hp):Prop:=∃ ip:List AV,v = (.tup [])∧aj = (r).length∧Out H0 Ri H' (Rs.ow dw ⟨av,aj,aw⟩ (eInt .i64).z dx ip dy :: R0) fun R=>CR (eInt .i64) H' R ip (r)
def aG.S7 (H0:Hp) (Ri R0:List Rs) (dg:ON) (cI:Nat) (dh:Cap) (e_:Bool) (fa fb:List AV) (C:Sl→Int→Int→Sl→Int→Int→Hp→OA) (pC:List Int→Int→Int→Int→Int→Option (List Int)):Prop:=∀ {di:List Int} {su:List AV} {dc dr ec dd:Int},∀ {H:Hp},cI = di.length→(Out H0 Ri H (Rs.ow e_ ⟨dg,cI,dh⟩ (eInt .i64).z fa su fb :: R0) fun R=>CR (eInt .i64) H R su di)→∀ {r:List Int},pC di dc dr ec dd = some r→∃ v H',C ⟨dg,cI,dh⟩ dc dr ⟨dg,cI,dh⟩ ec dd H = some (v,H')∧aG.Q H0 Ri R0 dg cI dh e_ fa fb r v H'
def aG.pj2 (F:Nat) (sv:List Int→Int→Int→Int→Int→Option (List Int)) (nX:List Int) (kK:Int) (kL:Int) (kM:Int) (kN:Int):Option (List Int):=sv nX kK kL kM (IntKind.i64.wrap (kN + 1))
theorem aG.j2_P {F:Nat} {H0:Hp} {Ri R0:List Rs} {dg:ON} {cI:Nat} {dh:Cap} {e_:Bool} {fa fb:List AV} {C7_:Sl→Int→Int→Sl→Int→Int→Hp→OA} {sv:List Int→Int→Int→Int→Int→Option (List Int)} (hC7:aG.S7 H0 Ri R0 dg cI dh e_ fa fb C7_ sv) {nX:List Int} {Bp:List AV} {kK kL kM kN:Int} {H:Hp} (Ha:cI = nX.length) (h0:Out H0 Ri H (Rs.ow e_ ⟨dg,cI,dh⟩ (eInt .i64).z fa Bp fb :: R0) fun R=>CR (eInt .i64) H R Bp nX) {r:List Int} (hp:aG.pj2 F sv nX kK kL kM kN = some r):∃ v H',aG.j2 F  C7_ ⟨dg,cI,dh⟩ kK kL ⟨dg,cI,dh⟩ kM kN H = some (v,H')∧aG.Q H0 Ri R0 dg cI dh e_ fa fb r v H':=by
 obtain ⟨w0,s0,Hb⟩:=h0
 subst Ha
 unfold aG.pj2 at hp
 unfold aG.j2
 exact hC7 rfl ⟨w0,s0,Hb⟩ hp
def aG.pl7 (F:Nat) :Nat→List Int→Int→Int→Int→Int→Option (List Int)
 | 0,_,_,_,_,_=>none
 | k + 1,di,dc,dr,ec,dd=>(bif (decide (dd < ec)) then ((ix di dd).bind fun n1=>(bif ((gt di n1) == dc) then ((ix di dd).bind fun n2=>(some (di.set n2 dr)).bind fun l3=>aG.pj2 F (aG.pl7 F k) l3 dc dr ec dd) else (aG.pj2 F (aG.pl7 F k) di dc dr ec dd))) else (some di))
termination_by structural n=>n
theorem aG.l7_P {F:Nat} {H0:Hp} {Ri R0:List Rs} {dg:ON} {cI:Nat} {dh:Cap} {e_:Bool} {fa fb:List AV} :∀ k,aG.S7 H0 Ri R0 dg cI dh e_ fa fb (aG.l7 F   k) (aG.pl7 F  k):=by
 intro k
 induction k with
 | zero=>
  intro di su dc dr ec dd H nY h0 r hp
  exact nomatch (show (none:Option (List Int)) = some r from hp)
 | succ k ih=>
  intro di su dc dr ec dd H nY h0 r hp
  obtain ⟨w0,s0,jI⟩:=h0
  subst nY
  unfold aG.pl7 at hp
  unfold aG.l7
  refine bif_ex (fun hb=>?_) (fun hb=>?_)
  ·replace hp:=bif_t hb hp
   obtain ⟨n1,g1,hp⟩:=bind_some' hp
   obtain ⟨p1,q1,i1,h1,j1⟩:=W.ixo (E:=(eInt .i64)) w0 (i:=0) rfl rfl jI g1
   refine bind_ex i1 ?_
   have h1:_ = [_]:=h1
   subst h1
   refine bind_ex (ldI_of (j1 0 _ rfl)) ?_
   refine bif_ex (fun hb=>?_) (fun hb=>?_)
   ·replace hp:=bif_t hb hp
    obtain ⟨n2,g2,hp⟩:=bind_some' hp
    obtain ⟨p2,q2,i2,h2,j2⟩:=W.ixo (E:=(eInt .i64)) w0 (i:=0) rfl rfl jI g2
    refine bind_ex i2 ?_
    obtain ⟨l3,e3,hp⟩:=bind_some' hp
    refine sto_k (eInt .i64) w0 (i:=0) (j:=0) (p:=p2) rfl rfl jI g2 i2 e3 rfl rfl (fun _ h=>by have h:_ = [_]:=h; subst h; exact rfl) fun H4 k4 w4 s4 c4=>?_
    dsimp only [List.set] at w4 s4 c4
    exact aG.j2_P (@ih) ((st_len e3).symm) ⟨w4,(s0.trans s4),c4⟩ hp
   ·replace hp:=bif_f hb hp
    exact aG.j2_P (@ih) rfl ⟨w0,s0,jI⟩ hp
  ·replace hp:=bif_f hb hp
   obtain rfl:=Option.some.inj hp
   exact ⟨_,_,rfl,_,rfl,rfl,w0,s0,jI⟩
def aG.p (F:Nat) (ad:List Int) (ae:Int) (bN:Int):Option (List Int):=(ix ad bN).bind fun n1=>(ix ad ae).bind fun n2=>aG.pl7 F F ad (gt ad n1) (gt ad n2) (ad.length:Int) 0
theorem aG.P {F:Nat} {av:ON} {aj:Nat} {aw:Cap} {ad:List Int} {dw:Bool} {dx dy fM:List AV} {ae bN:Int} {H:Hp} {R0:List Rs} (ba:aj = ad.length) (h0:Inn H (Rs.ow dw ⟨av,aj,aw⟩ (eInt .i64).z dx fM dy :: R0) fun R=>CR (eInt .i64) H R fM ad) {r:List Int} (hp:aG.p F ad ae bN = some r):∃ v H',aG.tw F ⟨av,aj,aw⟩ ae bN H = some (v,H')∧aG.Q H (Rs.ow dw ⟨av,aj,aw⟩ (eInt .i64).z dx fM dy :: R0) R0 av aj aw dw dx dy r v H':=by
 obtain ⟨w0,aL⟩:=h0
 subst ba
 unfold aG.p at hp
 unfold aG.tw aG.twX
 have s0:=w0.rf
 obtain ⟨n1,g1,hp⟩:=bind_some' hp
 obtain ⟨p1,q1,i1,h1,j1⟩:=W.ixo (E:=(eInt .i64)) w0 (i:=0) rfl rfl aL g1
 refine bind_ex i1 ?_
 have h1:_ = [_]:=h1
 subst h1
 refine bind_ex (ldI_of (j1 0 _ rfl)) ?_
 obtain ⟨n2,g2,hp⟩:=bind_some' hp
 obtain ⟨p2,q2,i2,h2,j2⟩:=W.ixo (E:=(eInt .i64)) w0 (i:=0) rfl rfl aL g2
 refine bind_ex i2 ?_
 have h2:_ = [_]:=h2
 subst h2
 refine bind_ex (ldI_of (j2 0 _ rfl)) ?_
 exact aG.l7_P F rfl ⟨w0,s0,aL⟩ hp
def cu.Q (H0:Hp) (Ri R0:List Rs)  (r:List Int) (v:AV) (H':Hp):Prop:=∃ o0a:ON,∃ o0n:Nat,∃ o0c:Cap,∃ o0k:List AV,v = (.sl ⟨o0a,o0n,o0c⟩)∧o0n = (r).length∧Out H0 Ri H' (Rs.own ⟨o0a,o0n,o0c⟩ (eInt .i64).z o0k :: R0) fun R=>CR (eInt .i64) H' R o0k (r)
def cu.p (F:Nat) (ad:List Int):Option (List Int):=(if ad.length ≤ 4294967296∧wfs ad = true then some (nums ad) else none)
theorem cu.P {F:Nat} {av:ON} {aj:Nat} {aw:Cap} {ad:List Int} {H:Hp} {R0:List Rs} (ba:aj = ad.length) (h0:Inn H R0 fun R=>ROs (eInt .i64) H R ⟨av,aj,aw⟩ ad) {r:List Int} (hp:cu.p F ad = some r):∃ v H',cu.tw F ⟨av,aj,aw⟩ H = some (v,H')∧cu.Q H R0 R0  r v H':=by
 obtain ⟨w0,f0⟩:=h0
 subst ba
 unfold cu.p at hp
 unfold cu.tw numTw
 have s0:=w0.rf
 obtain ⟨hc,hp⟩:=ifs_p hp
 have hp:=Option.some.inj hp
 obtain ⟨xs,hx,cx⟩:=f0.row rfl
 refine bind_ex hx ?_
 obtain rfl:=cx.ints_eq
 refine bind_ex (asInts_map _) ?_
 refine ifs_ex hc ?_
 by_cases hz:ad.length = 0
 ·rw [if_pos hz]
  obtain ⟨w1,s1⟩:=w0.nilS (eInt .i64).z (by decide)
  obtain rfl:r = []:=List.length_eq_zero_iff.1 (by rw [← hp,nums_len,hz])
  exact ⟨_,_,rfl,none,0,.ex 0,[],rfl,rfl,w1,s0.trans s1,CR.empty⟩
 ·rw [if_neg hz]
  obtain ⟨H2,e2,w2,s2⟩:=w0.newF ((nums ad).map (AV.int .i64)) ad.length (eInt .i64).z (by rw [List.length_map,nums_len]; exact (Nat.mul_one _).symm) (by decide)
  subst e2
  subst hp
  exact ⟨_,_,rfl,some (_,0),_,.full 1,_,rfl,(nums_len _).symm,w2,s0.trans s2,CR.ints _ _ _ _⟩
def aE.Q (H0:Hp) (Ri R0:List Rs)  (r:List Int) (v:AV) (H':Hp):Prop:=∃ o0a:ON,∃ o0n:Nat,∃ o0c:Cap,∃ o0k:List AV,v = (.sl ⟨o0a,o0n,o0c⟩)∧o0n = (r).length∧Out H0 Ri H' (Rs.own ⟨o0a,o0n,o0c⟩ (eInt .i64).z o0k :: R0) fun R=>CR (eInt .i64) H' R o0k (r)
def aE.S29 (H0:Hp) (Ri R0:List Rs)  (C:Nat→Nat→Sl→Sl→Int→Int→Hp→OA) (pC:List (Int×Int)→List (Int×Int)→List Int→Int→Int→Option (List Int)):Prop:=∀ {nZ sw sx:ON} {lm n_ eE oa:Nat} {ob sy sB:Cap} {iZ i_:List (Int×Int)} {jJ:List Int} {sC:List AV} {eF dU:Int},∀ {H:Hp},lm = iZ.length→n_ = i_.length→oa = jJ.length→(Out H0 Ri H (Rs.blk eE [.sl ⟨nZ,lm,ob⟩,.sl ⟨sw,n_,sy⟩] :: Rs.own ⟨sx,oa,sB⟩ (eInt .i64).z sC :: R0) fun R=>ROs (ePair (eInt .i64) (eInt .i64)) H R ⟨nZ,lm,ob⟩ iZ∧ROs (ePair (eInt .i64) (eInt .i64)) H R ⟨sw,n_,sy⟩ i_∧CR (eInt .i64) H R sC jJ)→∀ {r:List Int},pC iZ i_ jJ eF dU = some r→∃ v H',C eE 0 ⟨sx,oa,sB⟩ ⟨nZ,lm,ob⟩ eF dU H = some (v,H')∧aE.Q H0 Ri R0  r v H'
def aE.pl29 (F:Nat) :Nat→List (Int×Int)→List (Int×Int)→List Int→Int→Int→Option (List Int)
 | 0,_,_,_,_,_=>none
 | k + 1,iZ,i_,jJ,eF,dU=>(bif (decide (dU < eF)) then ((ix iZ dU).bind fun n1=>(ix i_ dU).bind fun n5=>(aG.p F jJ ((gt iZ n1).1) ((gt i_ n5).1)).bind fun r7=>aE.pl29 F k iZ i_ r7 eF (IntKind.i64.wrap (dU + 1))) else ((cu.p F jJ).bind fun r12=>some r12))
termination_by structural n=>n
theorem aE.l29_P {F:Nat} {H0:Hp} {Ri R0:List Rs}  :∀ k,aE.S29 H0 Ri R0  (aE.l29 F (bf.tw F) (aQ.tw F) (aG.tw F) (cu.tw F)  k) (aE.pl29 F  k):=by
 intro k
 induction k with
 | zero=>
  intro nZ sw sx lm n_ eE oa ob sy sB iZ i_ jJ sC eF dU H Bq Br Bs h0 r hp
  exact nomatch (show (none:Option (List Int)) = some r from hp)
 | succ k ih=>
  intro nZ sw sx lm n_ eE oa ob sy sB iZ i_ jJ sC eF dU H Bq Br Bs h0 r hp
  obtain ⟨w0,s0,Bt,Bu,Bv⟩:=h0
  subst Bq
  subst Br
  subst Bs
  unfold aE.pl29 at hp
  unfold aE.l29
  refine bif_ex (fun hb=>?_) (fun hb=>?_)
  ·replace hp:=bif_t hb hp
   obtain ⟨n1,g1,hp⟩:=bind_some' hp
   obtain ⟨p1,q1,i1,h1,j1⟩:=ROs.ixr Bt rfl g1
   refine bind_ex i1 ?_
   obtain ⟨_,_,rfl,rfl,rfl⟩:=h1
   refine bind_ex (ldI_of (j1 0 _ rfl)) ?_
   refine bind_ex (ldI_of (j1 1 _ rfl)) ?_
   refine new_k w0 fun H2 w2 s2=>?_
   refine st_k w2 (i:=0) rfl rfl rfl fun H3 w3 s3=>?_
   dsimp only [List.set] at w3 s3
   refine st_k w3 (i:=0) rfl rfl rfl fun H4 w4 s4=>?_
   dsimp only [List.set] at w4 s4
   refine bind_ex (ldI_of (w4.ld (i:=0) rfl rfl)) ?_
   refine bind_ex (ldSl_of (w4.ld (i:=1) rfl rfl)) ?_
   obtain ⟨n5,g5,hp⟩:=bind_some' hp
   obtain ⟨p5,q5,i5,h5,j5⟩:=ROs.ixr (Bu.step (s2.trans (s3.trans s4))) rfl g5
   refine bind_ex i5 ?_
   obtain ⟨_,_,rfl,rfl,rfl⟩:=h5
   refine bind_ex (ldI_of (j5 0 _ rfl)) ?_
   obtain ⟨w6,s6⟩:=w4.pick' [2,0,1] 3 rfl rfl rfl
   dsimp only [pk,pks,nth,List.drop] at w6 s6
   obtain ⟨r7,e7,hp⟩:=bind_some' hp
   refine call_ex (aG.P rfl ⟨w6,(Bv.step (s2.trans (s3.trans (s4.trans s6))))⟩ e7) ?_
   rintro _ H8 ⟨HO,rfl,hl8_0,w8,s8,f8_0⟩
   obtain ⟨w9,s9⟩:=w8.pick' [2,0] 3 rfl rfl rfl
   dsimp only [pk,pks,nth,List.drop] at w9 s9
   exact ih rfl rfl hl8_0 ⟨w9,(s0.trans (s2.trans (s3.trans (s4.trans (s6.trans (s8.trans s9)))))),(Bt.step (s2.trans (s3.trans (s4.trans (s6.trans (s8.trans s9)))))),(Bu.step (s2.trans (s3.trans (s4.trans (s6.trans (s8.trans s9)))))),(f8_0.step s9)⟩ hp
  ·replace hp:=bif_f hb hp
   obtain ⟨w10,s10⟩:=w0.pick' [1,0] 2 rfl rfl rfl
   dsimp only [pk,pks,nth,List.drop] at w10 s10
   have f11:=W.borrow1 (eInt .i64) w10 (Bv.step s10)
   obtain ⟨w11,s11⟩:=w10.right1
   obtain ⟨r12,e12,hp⟩:=bind_some' hp
   refine call_ex (cu.P rfl ⟨w11,f11⟩ e12) ?_
   rintro _ H13 ⟨o0a_13,o0n_13,o0c_13,o0k_13,rfl,rfl,w13,s13,f13_0⟩
   obtain ⟨w14,s14⟩:=W.frame1 w10 w13 s13
   refine bind_ex rfl ?_
   obtain ⟨w15,s15⟩:=w14.pick' [1] 3 rfl rfl rfl
   dsimp only [pk,pks,nth,List.drop] at w15 s15
   obtain rfl:=Option.some.inj hp
   exact ⟨_,_,rfl,_,_,_,_,rfl,rfl,w15,(s0.trans (s10.trans (s14.trans s15))),((CR.flat (eInt_flat .i64) f13_0).step s15)⟩
def aE.p (F:Nat) (ad:List (Int×Int×Int×Int×Int)) (bX:List (Int×Int)) (cn:List (Int×Int)):Option (List Int):=(bf.p F ad).bind fun r3=>(aQ.p F r3).bind fun r5=>aE.pl29 F F bX cn r5 (bX.length:Int) 0
theorem aE.P {F:Nat} {av fu ga:ON} {aj dv eN:Nat} {aw fv gb:Cap} {ad:List (Int×Int×Int×Int×Int)} {ab:Int} {bX cn:List (Int×Int)} {H:Hp} {R0:List Rs} (ba:aj = ad.length) (il:dv = bX.length) (iV:eN = cn.length) (h0:Inn H R0 fun R=>ROs (ePair (eInt .i64) (ePair (eInt .i64) (ePair (eInt .i64) (ePair (eInt .i64) (eInt .i64))))) H R ⟨av,aj,aw⟩ ad∧ROs (ePair (eInt .i64) (eInt .i64)) H R ⟨fu,dv,fv⟩ bX∧ROs (ePair (eInt .i64) (eInt .i64)) H R ⟨ga,eN,gb⟩ cn) {r:List Int} (hp:aE.p F ad bX cn = some r):∃ v H',aE.tw F ⟨av,aj,aw⟩ ab ⟨fu,dv,fv⟩ ⟨ga,eN,gb⟩ H = some (v,H')∧aE.Q H R0 R0  r v H':=by
 obtain ⟨w0,aL,gC,im⟩:=h0
 subst ba
 subst il
 subst iV
 unfold aE.p at hp
 unfold aE.tw aE.twX
 have s0:=w0.rf
 refine new_k w0 fun H1 w1 s1=>?_
 refine new_k w1 fun H2 w2 s2=>?_
 refine bind_ex (ldSl_of (w2.ld (i:=1) rfl rfl)) ?_
 obtain ⟨r3,e3,hp⟩:=bind_some' hp
 refine call_ex (bf.P rfl ⟨w2,(aL.step (s1.trans s2))⟩ e3) ?_
 rintro _ H4 ⟨rfl,w4,s4,_⟩
 refine bind_ex rfl ?_
 obtain ⟨r5,e5,hp⟩:=bind_some' hp
 refine call_ex (aQ.P ⟨w4,trivial⟩ e5) ?_
 rintro _ H6 ⟨o0a_6,o0n_6,o0c_6,o0k_6,rfl,rfl,w6,s6,f6_0⟩
 refine bind_ex rfl ?_
 refine bind_ex (ldSl_of (w6.ld (i:=1) rfl rfl)) ?_
 obtain ⟨w7,s7⟩:=w6.pick' [1,0] 3 rfl rfl rfl
 dsimp only [pk,pks,nth,List.drop] at w7 s7
 exact aE.l29_P F rfl rfl rfl ⟨w7,(s0.trans (s1.trans (s2.trans (s4.trans (s6.trans s7))))),(gC.step (s1.trans (s2.trans (s4.trans (s6.trans s7))))),(im.step (s1.trans (s2.trans (s4.trans (s6.trans s7))))),(f6_0.step s7)⟩ hp
def aJ.Q (H0:Hp) (Ri R0:List Rs)  (r:Int) (v:AV) (H':Hp):Prop:=v = (.int .i64 r)∧Out H0 Ri H' (R0) fun R=>True
def aJ.S61 (H0:Hp) (Ri R0:List Rs)  (C:Sl→Int→Int→Hp→OA) (pC:List Int→Int→Int→Option (Int)):Prop:=∀ {sD:ON} {oc:Nat} {sE:Cap} {di:List Int} {cl ep:Int},∀ {H:Hp},oc = di.length→(Out H0 Ri H R0 fun R=>ROs (eInt .i64) H R ⟨sD,oc,sE⟩ di)→∀ {r:Int},pC di cl ep = some r→∃ v H',C ⟨sD,oc,sE⟩ cl ep H = some (v,H')∧aJ.Q H0 Ri R0  r v H'
def aJ.pl61 (F:Nat) :Nat→List Int→Int→Int→Option (Int)
 | 0,_,_,_=>none
 | k + 1,di,cl,ep=>(bif (decide (ep < (di.length:Int))) then ((ix di ep).bind fun n1=>aJ.pl61 F k di (if (gt di n1) > cl then (gt di n1) else cl) (IntKind.i64.wrap (ep + 1))) else (some cl))
termination_by structural n=>n
theorem aJ.l61_P {F:Nat} {H0:Hp} {Ri R0:List Rs}  :∀ k,aJ.S61 H0 Ri R0  (aJ.l61 F   k) (aJ.pl61 F  k):=by
 intro k
 induction k with
 | zero=>
  intro sD oc sE di cl ep H nY h0 r hp
  exact nomatch (show (none:Option (Int)) = some r from hp)
 | succ k ih=>
  intro sD oc sE di cl ep H nY h0 r hp
  obtain ⟨w0,s0,jI⟩:=h0
  subst nY
  unfold aJ.pl61 at hp
  unfold aJ.l61
  refine bif_ex (fun hb=>?_) (fun hb=>?_)
  ·replace hp:=bif_t hb hp
   obtain ⟨n1,g1,hp⟩:=bind_some' hp
   obtain ⟨p1,q1,i1,h1,j1⟩:=ROs.ixr jI rfl g1
   refine bind_ex i1 ?_
   have h1:_ = [_]:=h1
   subst h1
   refine bind_ex (ldI_of (j1 0 _ rfl)) ?_
   exact ih rfl ⟨w0,s0,jI⟩ hp
  ·replace hp:=bif_f hb hp
   obtain rfl:=Option.some.inj hp
   exact ⟨_,_,rfl,rfl,w0,s0,trivial⟩
def aJ.pj1 (F:Nat)  (jY:List Int):Option (Int):=(ix jY 0).bind fun n1=>aJ.pl61 F F jY (gt jY n1) 1
theorem aJ.j1_P {F:Nat} {H0:Hp} {Ri R0:List Rs}   {Bw:ON} {vB:Nat} {Bx:Cap} {jY:List Int} {H:Hp} (Hc:vB = jY.length) (h0:Out H0 Ri H R0 fun R=>ROs (eInt .i64) H R ⟨Bw,vB,Bx⟩ jY) {r:Int} (hp:aJ.pj1 F  jY = some r):∃ v H',aJ.j1 F   ⟨Bw,vB,Bx⟩ H = some (v,H')∧aJ.Q H0 Ri R0  r v H':=by
 obtain ⟨w0,s0,By⟩:=h0
 subst Hc
 unfold aJ.pj1 at hp
 unfold aJ.j1
 obtain ⟨n1,g1,hp⟩:=bind_some' hp
 obtain ⟨p1,q1,i1,h1,j1⟩:=ROs.ixr By rfl g1
 refine bind_ex i1 ?_
 have h1:_ = [_]:=h1
 subst h1
 refine bind_ex (ldI_of (j1 0 _ rfl)) ?_
 exact aJ.l61_P F rfl ⟨w0,s0,By⟩ hp
def aJ.p (F:Nat) (ad:List Int):Option (Int):=(bif (decide ((ad.length:Int) < 1)) then (none) else (aJ.pj1 F ad))
theorem aJ.P {F:Nat} {av:ON} {aj:Nat} {aw:Cap} {ad:List Int} {H:Hp} {R0:List Rs} (ba:aj = ad.length) (h0:Inn H R0 fun R=>ROs (eInt .i64) H R ⟨av,aj,aw⟩ ad) {r:Int} (hp:aJ.p F ad = some r):∃ v H',aJ.tw F ⟨av,aj,aw⟩ H = some (v,H')∧aJ.Q H R0 R0  r v H':=by
 obtain ⟨w0,aL⟩:=h0
 subst ba
 unfold aJ.p at hp
 unfold aJ.tw aJ.twX
 have s0:=w0.rf
 refine bif_ex (fun hb=>?_) (fun hb=>?_)
 ·replace hp:=bif_t hb hp
  cases hp
 ·replace hp:=bif_f hb hp
  exact aJ.j1_P rfl ⟨w0,s0,aL⟩ hp
def bc.Q (H0:Hp) (Ri R0:List Rs)  (r:Int) (v:AV) (H':Hp):Prop:=v = (.int .i64 r)∧Out H0 Ri H' (R0) fun R=>True
def bc.p (F:Nat) (ad:List Int):Option (Int):=(bif ((ad.length:Int) == 0) then (some 0) else ((aJ.p F ad).bind fun r1=>some (IntKind.i64.wrap (r1 + 1))))
theorem bc.P {F:Nat} {av:ON} {aj:Nat} {aw:Cap} {ad:List Int} {H:Hp} {R0:List Rs} (ba:aj = ad.length) (h0:Inn H R0 fun R=>ROs (eInt .i64) H R ⟨av,aj,aw⟩ ad) {r:Int} (hp:bc.p F ad = some r):∃ v H',bc.tw F ⟨av,aj,aw⟩ H = some (v,H')∧bc.Q H R0 R0  r v H':=by
 obtain ⟨w0,aL⟩:=h0
 subst ba
 unfold bc.p at hp
 unfold bc.tw bc.twX
 have s0:=w0.rf
 refine bif_ex (fun hb=>?_) (fun hb=>?_)
 ·replace hp:=bif_t hb hp
  obtain rfl:=Option.some.inj hp
  exact ⟨_,_,rfl,rfl,w0,s0,trivial⟩
 ·replace hp:=bif_f hb hp
  obtain ⟨r1,e1,hp⟩:=bind_some' hp
  refine call_ex (aJ.P rfl ⟨w0,aL⟩ e1) ?_
  rintro _ H2 ⟨rfl,w2,s2,_⟩
  refine bind_ex rfl ?_
  obtain rfl:=Option.some.inj hp
  exact ⟨_,_,rfl,rfl,w2,(s0.trans s2),trivial⟩
def bs.Q (H0:Hp) (Ri R0:List Rs)  (r:(List (Int×Int))×(List (Int×Int))×Bool) (v:AV) (H':Hp):Prop:=∃ o0a:ON,∃ o0n:Nat,∃ o0c:Cap,∃ o1a:ON,∃ o1n:Nat,∃ o1c:Cap,v = (.tup [(.agg [(.sl ⟨o0a,o0n,o0c⟩),(.sl ⟨o1a,o1n,o1c⟩)]),(.bool r.2.2)])∧o0n = (r.1).length∧o1n = (r.2.1).length∧Out H0 Ri H' (R0) fun R=>ROs (ePair (eInt .i64) (eInt .i64)) H' R ⟨o0a,o0n,o0c⟩ (r.1)∧ROs (ePair (eInt .i64) (eInt .i64)) H' R ⟨o1a,o1n,o1c⟩ (r.2.1)
def bs.p (F:Nat) (ad:List (Int×Int×Int×Int×Int)) (ab:Int):Option ((List (Int×Int))×(List (Int×Int))×Bool):=(bf.p F ad).bind fun r3=>(bif (decide (r3 > 10)) then (some (([]:List (Int×Int)),([]:List (Int×Int)),false)) else ((bk.p F ab 0 8).bind fun r12=>(bif (!r12) then (some (([]:List (Int×Int)),([]:List (Int×Int)),false)) else ((bB.p F ad).bind fun r21=>(bif r21 then (some (([]:List (Int×Int)),([]:List (Int×Int)),false)) else ((ay.p F ad).bind fun r30=>(bif (!r30.2.2) then (some (([]:List (Int×Int)),([]:List (Int×Int)),false)) else ((ai.p F ad r30.1 r30.2.1).bind fun r44=>(bJ.p F r44).bind fun r48=>(aE.p F ad r30.1 r30.2.1).bind fun r52=>(bc.p F r52).bind fun r55=>(bif (r48 != (IntKind.i64.wrap (r3 + (IntKind.i64.wrap (2 * r55))))) then (some (([]:List (Int×Int)),([]:List (Int×Int)),false)) else (some (r30.1,r30.2.1,true)))))))))))
theorem bs.P {F:Nat} {av:ON} {aj:Nat} {aw:Cap} {ad:List (Int×Int×Int×Int×Int)} {ab:Int} {H:Hp} {R0:List Rs} (ba:aj = ad.length) (h0:Inn H R0 fun R=>ROs (ePair (eInt .i64) (ePair (eInt .i64) (ePair (eInt .i64) (ePair (eInt .i64) (eInt .i64))))) H R ⟨av,aj,aw⟩ ad) {r:(List (Int×Int))×(List (Int×Int))×Bool} (hp:bs.p F ad ab = some r):∃ v H',bs.tw F ⟨av,aj,aw⟩ ab H = some (v,H')∧bs.Q H R0 R0  r v H':=by
 obtain ⟨w0,aL⟩:=h0
 subst ba
 unfold bs.p at hp
 unfold bs.tw bs.twX
 have s0:=w0.rf
 refine new_k w0 fun H1 w1 s1=>?_
 refine new_k w1 fun H2 w2 s2=>?_
 refine bind_ex (ldSl_of (w2.ld (i:=1) rfl rfl)) ?_
 obtain ⟨r3,e3,hp⟩:=bind_some' hp
 refine call_ex (bf.P rfl ⟨w2,(aL.step (s1.trans s2))⟩ e3) ?_
 rintro _ H4 ⟨rfl,w4,s4,_⟩
 refine bind_ex rfl ?_
 refine bif_ex (fun hb=>?_) (fun hb=>?_)
 ·replace hp:=bif_t hb hp
  refine st_k w4 (i:=0) rfl rfl rfl fun H5 w5 s5=>?_
  dsimp only [List.set] at w5 s5
  refine st_k w5 (i:=0) rfl rfl rfl fun H6 w6 s6=>?_
  dsimp only [List.set] at w6 s6
  refine bind_ex (ldSl_of (w6.ld (i:=0) rfl rfl)) ?_
  refine bind_ex (ldSl_of (w6.ld (i:=0) rfl rfl)) ?_
  obtain ⟨w7,s7⟩:=w6.nilS (ePair (eInt .i64) (eInt .i64)).z (by decide)
  obtain ⟨w8,s8⟩:=w7.nilS (ePair (eInt .i64) (eInt .i64)).z (by decide)
  obtain ⟨w9,s9,f9⟩:=w8.frz (i:=1) (ePair (eInt .i64) (eInt .i64)) rfl ((CR.empty:CR (ePair (eInt .i64) (eInt .i64)) _ _ [] []).step s8)
  dsimp only [List.eraseIdx] at w9 s9 f9
  obtain ⟨w10,s10,f10⟩:=w9.frz (i:=0) (ePair (eInt .i64) (eInt .i64)) rfl ((CR.empty:CR (ePair (eInt .i64) (eInt .i64)) _ _ [] []).step s9)
  dsimp only [List.eraseIdx] at w10 s10 f10
  obtain ⟨w11,s11⟩:=w10.pick' [] 2 rfl rfl rfl
  dsimp only [pk,pks,nth,List.drop] at w11 s11
  obtain rfl:=Option.some.inj hp
  exact ⟨_,_,rfl,_,_,_,_,_,_,rfl,rfl,rfl,w11,(s0.trans (s1.trans (s2.trans (s4.trans (s5.trans (s6.trans (s7.trans (s8.trans (s9.trans (s10.trans s11)))))))))),(f9.step (s10.trans s11)),(f10.step s11)⟩
 ·replace hp:=bif_f hb hp
  refine bind_ex (ldI_of (w4.ld (i:=1) rfl rfl)) ?_
  obtain ⟨r12,e12,hp⟩:=bind_some' hp
  refine call_ex (bk.P ⟨w4,trivial⟩ e12) ?_
  rintro _ H13 ⟨rfl,w13,s13,_⟩
  refine bind_ex rfl ?_
  refine bif_ex (fun hb=>?_) (fun hb=>?_)
  ·replace hp:=bif_t hb hp
   refine st_k w13 (i:=0) rfl rfl rfl fun H14 w14 s14=>?_
   dsimp only [List.set] at w14 s14
   refine st_k w14 (i:=0) rfl rfl rfl fun H15 w15 s15=>?_
   dsimp only [List.set] at w15 s15
   refine bind_ex (ldSl_of (w15.ld (i:=0) rfl rfl)) ?_
   refine bind_ex (ldSl_of (w15.ld (i:=0) rfl rfl)) ?_
   obtain ⟨w16,s16⟩:=w15.nilS (ePair (eInt .i64) (eInt .i64)).z (by decide)
   obtain ⟨w17,s17⟩:=w16.nilS (ePair (eInt .i64) (eInt .i64)).z (by decide)
   obtain ⟨w18,s18,f18⟩:=w17.frz (i:=1) (ePair (eInt .i64) (eInt .i64)) rfl ((CR.empty:CR (ePair (eInt .i64) (eInt .i64)) _ _ [] []).step s17)
   dsimp only [List.eraseIdx] at w18 s18 f18
   obtain ⟨w19,s19,f19⟩:=w18.frz (i:=0) (ePair (eInt .i64) (eInt .i64)) rfl ((CR.empty:CR (ePair (eInt .i64) (eInt .i64)) _ _ [] []).step s18)
   dsimp only [List.eraseIdx] at w19 s19 f19
   obtain ⟨w20,s20⟩:=w19.pick' [] 2 rfl rfl rfl
   dsimp only [pk,pks,nth,List.drop] at w20 s20
   obtain rfl:=Option.some.inj hp
   exact ⟨_,_,rfl,_,_,_,_,_,_,rfl,rfl,rfl,w20,(s0.trans (s1.trans (s2.trans (s4.trans (s13.trans (s14.trans (s15.trans (s16.trans (s17.trans (s18.trans (s19.trans s20))))))))))),(f18.step (s19.trans s20)),(f19.step s20)⟩
  ·replace hp:=bif_f hb hp
   refine bind_ex (ldSl_of (w13.ld (i:=1) rfl rfl)) ?_
   obtain ⟨r21,e21,hp⟩:=bind_some' hp
   refine call_ex (bB.P rfl ⟨w13,(aL.step (s1.trans (s2.trans (s4.trans s13))))⟩ e21) ?_
   rintro _ H22 ⟨rfl,w22,s22,_⟩
   refine bind_ex rfl ?_
   refine bif_ex (fun hb=>?_) (fun hb=>?_)
   ·replace hp:=bif_t hb hp
    refine st_k w22 (i:=0) rfl rfl rfl fun H23 w23 s23=>?_
    dsimp only [List.set] at w23 s23
    refine st_k w23 (i:=0) rfl rfl rfl fun H24 w24 s24=>?_
    dsimp only [List.set] at w24 s24
    refine bind_ex (ldSl_of (w24.ld (i:=0) rfl rfl)) ?_
    refine bind_ex (ldSl_of (w24.ld (i:=0) rfl rfl)) ?_
    obtain ⟨w25,s25⟩:=w24.nilS (ePair (eInt .i64) (eInt .i64)).z (by decide)
    obtain ⟨w26,s26⟩:=w25.nilS (ePair (eInt .i64) (eInt .i64)).z (by decide)
    obtain ⟨w27,s27,f27⟩:=w26.frz (i:=1) (ePair (eInt .i64) (eInt .i64)) rfl ((CR.empty:CR (ePair (eInt .i64) (eInt .i64)) _ _ [] []).step s26)
    dsimp only [List.eraseIdx] at w27 s27 f27
    obtain ⟨w28,s28,f28⟩:=w27.frz (i:=0) (ePair (eInt .i64) (eInt .i64)) rfl ((CR.empty:CR (ePair (eInt .i64) (eInt .i64)) _ _ [] []).step s27)
    dsimp only [List.eraseIdx] at w28 s28 f28
    obtain ⟨w29,s29⟩:=w28.pick' [] 2 rfl rfl rfl
    dsimp only [pk,pks,nth,List.drop] at w29 s29
    obtain rfl:=Option.some.inj hp
    exact ⟨_,_,rfl,_,_,_,_,_,_,rfl,rfl,rfl,w29,(s0.trans (s1.trans (s2.trans (s4.trans (s13.trans (s22.trans (s23.trans (s24.trans (s25.trans (s26.trans (s27.trans (s28.trans s29)))))))))))),(f27.step (s28.trans s29)),(f28.step s29)⟩
   ·replace hp:=bif_f hb hp
    refine bind_ex (ldSl_of (w22.ld (i:=1) rfl rfl)) ?_
    refine bind_ex (ldI_of (w22.ld (i:=1) rfl rfl)) ?_
    obtain ⟨r30,e30,hp⟩:=bind_some' hp
    refine call_ex (ay.P rfl ⟨w22,(aL.step (s1.trans (s2.trans (s4.trans (s13.trans s22)))))⟩ e30) ?_
    rintro _ H31 ⟨o0a_31,o0n_31,o0c_31,o0k_31,o1a_31,o1n_31,o1c_31,o1k_31,rfl,rfl,rfl,w31,s31,f31_0,f31_1⟩
    refine bind_ex rfl ?_
    refine bind_ex rfl ?_
    refine bind_ex rfl ?_
    refine bind_ex rfl ?_
    refine bind_ex rfl ?_
    refine bind_ex rfl ?_
    refine bind_ex rfl ?_
    refine bind_ex rfl ?_
    refine bind_ex rfl ?_
    refine new_k w31 fun H32 w32 s32=>?_
    refine st_k w32 (i:=0) rfl rfl rfl fun H33 w33 s33=>?_
    dsimp only [List.set] at w33 s33
    refine st_k w33 (i:=0) rfl rfl rfl fun H34 w34 s34=>?_
    dsimp only [List.set] at w34 s34
    refine bif_ex (fun hb=>?_) (fun hb=>?_)
    ·replace hp:=bif_t hb hp
     refine st_k w34 (i:=3) rfl rfl rfl fun H35 w35 s35=>?_
     dsimp only [List.set] at w35 s35
     refine st_k w35 (i:=3) rfl rfl rfl fun H36 w36 s36=>?_
     dsimp only [List.set] at w36 s36
     refine bind_ex (ldSl_of (w36.ld (i:=3) rfl rfl)) ?_
     refine bind_ex (ldSl_of (w36.ld (i:=3) rfl rfl)) ?_
     obtain ⟨w37,s37⟩:=w36.nilS (ePair (eInt .i64) (eInt .i64)).z (by decide)
     obtain ⟨w38,s38⟩:=w37.nilS (ePair (eInt .i64) (eInt .i64)).z (by decide)
     obtain ⟨w39,s39,f39⟩:=w38.frz (i:=1) (ePair (eInt .i64) (eInt .i64)) rfl ((CR.empty:CR (ePair (eInt .i64) (eInt .i64)) _ _ [] []).step s38)
     dsimp only [List.eraseIdx] at w39 s39 f39
     obtain ⟨w40,s40,f40⟩:=w39.frz (i:=0) (ePair (eInt .i64) (eInt .i64)) rfl ((CR.empty:CR (ePair (eInt .i64) (eInt .i64)) _ _ [] []).step s39)
     dsimp only [List.eraseIdx] at w40 s40 f40
     obtain ⟨w41,s41⟩:=w40.pick' [] 5 rfl rfl rfl
     dsimp only [pk,pks,nth,List.drop] at w41 s41
     obtain rfl:=Option.some.inj hp
     exact ⟨_,_,rfl,_,_,_,_,_,_,rfl,rfl,rfl,w41,(s0.trans (s1.trans (s2.trans (s4.trans (s13.trans (s22.trans (s31.trans (s32.trans (s33.trans (s34.trans (s35.trans (s36.trans (s37.trans (s38.trans (s39.trans (s40.trans s41)))))))))))))))),(f39.step (s40.trans s41)),(f40.step s41)⟩
    ·replace hp:=bif_f hb hp
     refine bind_ex (ldSl_of (w34.ld (i:=4) rfl rfl)) ?_
     refine bind_ex (ldI_of (w34.ld (i:=4) rfl rfl)) ?_
     refine bind_ex (ldSl_of (w34.ld (i:=0) rfl rfl)) ?_
     refine bind_ex (ldSl_of (w34.ld (i:=0) rfl rfl)) ?_
     obtain ⟨w42,s42,f42⟩:=w34.frz (i:=1) (ePair (eInt .i64) (eInt .i64)) rfl (f31_0.step (s32.trans (s33.trans s34)))
     dsimp only [List.eraseIdx] at w42 s42 f42
     obtain ⟨w43,s43,f43⟩:=w42.frz (i:=1) (ePair (eInt .i64) (eInt .i64)) rfl (f31_1.step (s32.trans (s33.trans (s34.trans s42))))
     dsimp only [List.eraseIdx] at w43 s43 f43
     obtain ⟨r44,e44,hp⟩:=bind_some' hp
     refine call_ex (ai.P rfl rfl rfl ⟨w43,(aL.step (s1.trans (s2.trans (s4.trans (s13.trans (s22.trans (s31.trans (s32.trans (s33.trans (s34.trans (s42.trans s43))))))))))),(f42.step s43),f43⟩ e44) ?_
     rintro _ H45 ⟨o0a_45,o0n_45,o0c_45,o0k_45,rfl,rfl,w45,s45,f45_0⟩
     refine bind_ex rfl ?_
     refine ifs_ex (Cons.tr (Cons.refl _) s42 (Cons.tr (Cons.refl _) s43 (W.cons_of (Rn:=[_]) w43 w45 s45))) ?_
     have f47:=W.borrow1 (eSl (eInt .i64)) w45 f45_0
     obtain ⟨w47,s47⟩:=w45.right1
     obtain ⟨r48,e48,hp⟩:=bind_some' hp
     refine call_ex (bJ.P rfl ⟨w47,f47⟩ e48) ?_
     rintro _ H49 ⟨rfl,w49,s49,_⟩
     obtain ⟨w50,s50⟩:=W.frame1 w45 w49 s49
     refine bind_ex rfl ?_
     refine ifs_ex (W.cons_of (Rn:=[]) w47 w49 s49) ?_
     refine bind_ex (ldSl_of (w50.ld (i:=3) rfl rfl)) ?_
     refine bind_ex (ldI_of (w50.ld (i:=3) rfl rfl)) ?_
     refine bind_ex (ldSl_of (w50.ld (i:=1) rfl rfl)) ?_
     refine bind_ex (ldSl_of (w50.ld (i:=1) rfl rfl)) ?_
     obtain ⟨r52,e52,hp⟩:=bind_some' hp
     refine call_ex (aE.P rfl rfl rfl ⟨w50,(aL.step (s1.trans (s2.trans (s4.trans (s13.trans (s22.trans (s31.trans (s32.trans (s33.trans (s34.trans (s42.trans (s43.trans (s45.trans s50))))))))))))),(f42.step (s43.trans (s45.trans s50))),(f43.step (s45.trans s50))⟩ e52) ?_
     rintro _ H53 ⟨o0a_53,o0n_53,o0c_53,o0k_53,rfl,rfl,w53,s53,f53_0⟩
     refine bind_ex rfl ?_
     have f54:=W.borrow1 (eInt .i64) w53 f53_0
     obtain ⟨w54,s54⟩:=w53.right1
     obtain ⟨r55,e55,hp⟩:=bind_some' hp
     refine call_ex (bc.P rfl ⟨w54,f54⟩ e55) ?_
     rintro _ H56 ⟨rfl,w56,s56,_⟩
     obtain ⟨w57,s57⟩:=W.frame1 w53 w56 s56
     refine bind_ex rfl ?_
     refine bif_ex (fun hb=>?_) (fun hb=>?_)
     ·replace hp:=bif_t hb hp
      refine st_k w57 (i:=3) rfl rfl rfl fun H58 w58 s58=>?_
      dsimp only [List.set] at w58 s58
      refine st_k w58 (i:=3) rfl rfl rfl fun H59 w59 s59=>?_
      dsimp only [List.set] at w59 s59
      refine bind_ex (ldSl_of (w59.ld (i:=3) rfl rfl)) ?_
      refine bind_ex (ldSl_of (w59.ld (i:=3) rfl rfl)) ?_
      obtain ⟨w60,s60⟩:=w59.nilS (ePair (eInt .i64) (eInt .i64)).z (by decide)
      obtain ⟨w61,s61⟩:=w60.nilS (ePair (eInt .i64) (eInt .i64)).z (by decide)
      obtain ⟨w62,s62,f62⟩:=w61.frz (i:=1) (ePair (eInt .i64) (eInt .i64)) rfl ((CR.empty:CR (ePair (eInt .i64) (eInt .i64)) _ _ [] []).step s61)
      dsimp only [List.eraseIdx] at w62 s62 f62
      obtain ⟨w63,s63,f63⟩:=w62.frz (i:=0) (ePair (eInt .i64) (eInt .i64)) rfl ((CR.empty:CR (ePair (eInt .i64) (eInt .i64)) _ _ [] []).step s62)
      dsimp only [List.eraseIdx] at w63 s63 f63
      obtain ⟨w64,s64⟩:=w63.pick' [] 5 rfl rfl rfl
      dsimp only [pk,pks,nth,List.drop] at w64 s64
      obtain rfl:=Option.some.inj hp
      exact ⟨_,_,rfl,_,_,_,_,_,_,rfl,rfl,rfl,w64,(s0.trans (s1.trans (s2.trans (s4.trans (s13.trans (s22.trans (s31.trans (s32.trans (s33.trans (s34.trans (s42.trans (s43.trans (s45.trans (s50.trans (s53.trans (s57.trans (s58.trans (s59.trans (s60.trans (s61.trans (s62.trans (s63.trans s64)))))))))))))))))))))),(f62.step (s63.trans s64)),(f63.step s64)⟩
     ·replace hp:=bif_f hb hp
      refine bind_ex (ldSl_of (w57.ld (i:=2) rfl rfl)) ?_
      refine bind_ex (ldSl_of (w57.ld (i:=2) rfl rfl)) ?_
      refine st_k w57 (i:=3) rfl rfl rfl fun H65 w65 s65=>?_
      dsimp only [List.set] at w65 s65
      refine st_k w65 (i:=3) rfl rfl rfl fun H66 w66 s66=>?_
      dsimp only [List.set] at w66 s66
      refine bind_ex (ldSl_of (w66.ld (i:=3) rfl rfl)) ?_
      refine bind_ex (ldSl_of (w66.ld (i:=3) rfl rfl)) ?_
      obtain ⟨w67,s67⟩:=w66.pick' [] 5 rfl rfl rfl
      dsimp only [pk,pks,nth,List.drop] at w67 s67
      obtain rfl:=Option.some.inj hp
      exact ⟨_,_,rfl,_,_,_,_,_,_,rfl,rfl,rfl,w67,(s0.trans (s1.trans (s2.trans (s4.trans (s13.trans (s22.trans (s31.trans (s32.trans (s33.trans (s34.trans (s42.trans (s43.trans (s45.trans (s50.trans (s53.trans (s57.trans (s65.trans (s66.trans s67)))))))))))))))))),(f42.step (s43.trans (s45.trans (s50.trans (s53.trans (s57.trans (s65.trans (s66.trans s67)))))))),(f43.step (s45.trans (s50.trans (s53.trans (s57.trans (s65.trans (s66.trans s67)))))))⟩
def ap.Q (H0:Hp) (Ri R0:List Rs)  (r:List Int) (v:AV) (H':Hp):Prop:=∃ o0a:ON,∃ o0n:Nat,∃ o0c:Cap,∃ o0k:List AV,v = (.sl ⟨o0a,o0n,o0c⟩)∧o0n = (r).length∧Out H0 Ri H' (Rs.own ⟨o0a,o0n,o0c⟩ (eInt .i64).z o0k :: R0) fun R=>CR (eInt .i64) H' R o0k (r)
def ap.S29 (H0:Hp) (Ri R0:List Rs)  (C:Sl→Sl→Int→Int→Hp→OA) (pC:List Int→List (List Int)→Int→Int→Option (List Int)):Prop:=∀ {iO sF:ON} {ie od:Nat} {iQ sG:Cap} {eM:List Int} {iS sH:List AV} {iB:List (List Int)} {eH dW:Int},∀ {H:Hp},ie = eM.length→od = iB.length→(Out H0 Ri H (Rs.own ⟨iO,ie,iQ⟩ (eInt .i64).z iS :: Rs.own ⟨sF,od,sG⟩ (eSl (eInt .i64)).z sH :: R0) fun R=>CR (eInt .i64) H R iS eM∧CR (eSl (eInt .i64)) H R sH iB)→∀ {r:List Int},pC eM iB eH dW = some r→∃ v H',C ⟨iO,ie,iQ⟩ ⟨sF,od,sG⟩ eH dW H = some (v,H')∧ap.Q H0 Ri R0  r v H'
def ap.S1883 (H0:Hp) (Ri R0:List Rs)  (C:Sl→Sl→Int→Int→Int→Sl→Int→Int→Hp→OA) (pC:List Int→List (List Int)→Int→Int→Int→List Int→Int→Int→Option (List Int)):Prop:=∀ {sI sJ sK:ON} {oe og oh:Nat} {sL sM sO:Cap} {ja jb:List Int} {sQ sS:List AV} {jK:List (List Int)} {dV ed de eG es:Int},∀ {H:Hp},oe = ja.length→og = jK.length→oh = jb.length→(Out H0 Ri H (Rs.own ⟨sI,oe,sL⟩ (eInt .i64).z sQ :: Rs.own ⟨sJ,og,sM⟩ (eSl (eInt .i64)).z sS :: R0) fun R=>CR (eInt .i64) H R sQ ja∧CR (eSl (eInt .i64)) H R sS jK∧ROs (eInt .i64) H R ⟨sK,oh,sO⟩ jb)→∀ {r:List Int},pC ja jK dV ed de jb eG es = some r→∃ v H',C ⟨sI,oe,sL⟩ ⟨sJ,og,sM⟩ dV ed de ⟨sK,oh,sO⟩ eG es H = some (v,H')∧ap.Q H0 Ri R0  r v H'
def ap.pj3 (F:Nat) (fN:List Int→List (List Int)→Int→Int→Option (List Int)) (oi:List Int) (oj:List (List Int)) (kO:Int) (kP:Int):Option (List Int):=fN oi oj kO (IntKind.i64.wrap (kP + 1))
theorem ap.j3_P {F:Nat} {H0:Hp} {Ri R0:List Rs}  {C29_:Sl→Sl→Int→Int→Hp→OA} {fN:List Int→List (List Int)→Int→Int→Option (List Int)} (hC29:ap.S29 H0 Ri R0  C29_ fN) {Bz BA:ON} {vC vD:Nat} {BB BC:Cap} {oi:List Int} {BD BE:List AV} {oj:List (List Int)} {kO kP:Int} {H:Hp} (Hd:vC = oi.length) (He:vD = oj.length) (h0:Out H0 Ri H (Rs.own ⟨Bz,vC,BB⟩ (eInt .i64).z BD :: Rs.own ⟨BA,vD,BC⟩ (eSl (eInt .i64)).z BE :: R0) fun R=>CR (eInt .i64) H R BD oi∧CR (eSl (eInt .i64)) H R BE oj) {r:List Int} (hp:ap.pj3 F fN oi oj kO kP = some r):∃ v H',ap.j3 F (ai.tw F) C29_ ⟨Bz,vC,BB⟩ ⟨BA,vD,BC⟩ kO kP H = some (v,H')∧ap.Q H0 Ri R0  r v H':=by
 obtain ⟨w0,s0,Hf,Hg⟩:=h0
 subst Hd
 subst He
 unfold ap.pj3 at hp
 unfold ap.j3
 exact hC29 rfl rfl ⟨w0,s0,Hf,Hg⟩ hp
def ap.pj4 (F:Nat) (fN:List Int→List (List Int)→Int→Int→Option (List Int)) (ol:List Int) (om:List (List Int)) (kQ:Int) (kR:Int):Option (List Int):=ap.pj3 F fN ol om kQ kR
theorem ap.j4_P {F:Nat} {H0:Hp} {Ri R0:List Rs}  {C29_:Sl→Sl→Int→Int→Hp→OA} {fN:List Int→List (List Int)→Int→Int→Option (List Int)} (hC29:ap.S29 H0 Ri R0  C29_ fN) {BF BG:ON} {vE vF:Nat} {BH BI:Cap} {ol:List Int} {BJ BK:List AV} {om:List (List Int)} {kQ kR:Int} {H:Hp} (Hh:vE = ol.length) (Hi:vF = om.length) (h0:Out H0 Ri H (Rs.own ⟨BF,vE,BH⟩ (eInt .i64).z BJ :: Rs.own ⟨BG,vF,BI⟩ (eSl (eInt .i64)).z BK :: R0) fun R=>CR (eInt .i64) H R BJ ol∧CR (eSl (eInt .i64)) H R BK om) {r:List Int} (hp:ap.pj4 F fN ol om kQ kR = some r):∃ v H',ap.j4 F (ai.tw F) C29_ ⟨BF,vE,BH⟩ ⟨BG,vF,BI⟩ kQ kR H = some (v,H')∧ap.Q H0 Ri R0  r v H':=by
 obtain ⟨w0,s0,Hj,Hk⟩:=h0
 subst Hh
 subst Hi
 unfold ap.pj4 at hp
 unfold ap.j4
 exact ap.j3_P (@hC29) rfl rfl ⟨w0,s0,Hj,Hk⟩ hp
def ap.pl1883 (F:Nat) (fN:List Int→List (List Int)→Int→Int→Option (List Int)):Nat→List Int→List (List Int)→Int→Int→Int→List Int→Int→Int→Option (List Int)
 | 0,_,_,_,_,_,_,_,_=>none
 | k + 1,ja,jK,dV,ed,de,jb,eG,es=>(bif (decide (es < eG)) then ((ix jb es).bind fun n1=>(ix ja (gt jb n1)).bind fun n2=>(some (ja.set n2 de)).bind fun l3=>ap.pl1883 F fN k l3 jK dV ed de jb eG (IntKind.i64.wrap (es + 1))) else (ap.pj4 F fN ja jK dV ed))
termination_by structural n=>n
theorem ap.l1883_P {F:Nat} {H0:Hp} {Ri R0:List Rs}  {C29_:Sl→Sl→Int→Int→Hp→OA} {fN:List Int→List (List Int)→Int→Int→Option (List Int)} (hC29:ap.S29 H0 Ri R0  C29_ fN):∀ k,ap.S1883 H0 Ri R0  (ap.l1883 F (ai.tw F) C29_ k) (ap.pl1883 F fN k):=by
 intro k
 induction k with
 | zero=>
  intro sI sJ sK oe og oh sL sM sO ja jb sQ sS jK dV ed de eG es H BL BM BN h0 r hp
  exact nomatch (show (none:Option (List Int)) = some r from hp)
 | succ k ih=>
  intro sI sJ sK oe og oh sL sM sO ja jb sQ sS jK dV ed de eG es H BL BM BN h0 r hp
  obtain ⟨w0,s0,vG,BO,BP⟩:=h0
  subst BL
  subst BM
  subst BN
  unfold ap.pl1883 at hp
  unfold ap.l1883
  refine bif_ex (fun hb=>?_) (fun hb=>?_)
  ·replace hp:=bif_t hb hp
   obtain ⟨n1,g1,hp⟩:=bind_some' hp
   obtain ⟨p1,q1,i1,h1,j1⟩:=ROs.ixr BP rfl g1
   refine bind_ex i1 ?_
   have h1:_ = [_]:=h1
   subst h1
   refine bind_ex (ldI_of (j1 0 _ rfl)) ?_
   obtain ⟨n2,g2,hp⟩:=bind_some' hp
   obtain ⟨p2,q2,i2,h2,j2⟩:=W.ixo (E:=(eInt .i64)) w0 (i:=0) rfl rfl vG g2
   refine bind_ex i2 ?_
   obtain ⟨l3,e3,hp⟩:=bind_some' hp
   refine sto_k (eInt .i64) w0 (i:=0) (j:=0) (p:=p2) rfl rfl vG g2 i2 e3 rfl rfl (fun _ h=>by have h:_ = [_]:=h; subst h; exact rfl) fun H4 k4 w4 s4 c4=>?_
   dsimp only [List.set] at w4 s4 c4
   exact ih ((st_len e3).symm) rfl rfl ⟨w4,(s0.trans s4),c4,(BO.step s4),(BP.step s4)⟩ hp
  ·replace hp:=bif_f hb hp
   exact ap.j4_P (@hC29) rfl rfl ⟨w0,s0,vG,BO⟩ hp
def ap.pl29 (F:Nat) :Nat→List Int→List (List Int)→Int→Int→Option (List Int)
 | 0,_,_,_,_=>none
 | k + 1,eM,iB,eH,dW=>(bif (decide (dW < eH)) then ((ix iB dW).bind fun n1=>ap.pl1883 F (ap.pl29 F k) F eM iB eH dW dW (gt iB n1) (((gt iB n1).length):Int) 0) else (some eM))
termination_by structural n=>n
theorem ap.l29_P {F:Nat} {H0:Hp} {Ri R0:List Rs}  :∀ k,ap.S29 H0 Ri R0  (ap.l29 F (ai.tw F)  k) (ap.pl29 F  k):=by
 intro k
 induction k with
 | zero=>
  intro iO sF ie od iQ sG eM iS sH iB eH dW H nj BQ h0 r hp
  exact nomatch (show (none:Option (List Int)) = some r from hp)
 | succ k ih=>
  intro iO sF ie od iQ sG eM iS sH iB eH dW H nj BQ h0 r hp
  obtain ⟨w0,s0,lf,BR⟩:=h0
  subst nj
  subst BQ
  unfold ap.pl29 at hp
  unfold ap.l29
  refine bif_ex (fun hb=>?_) (fun hb=>?_)
  ·replace hp:=bif_t hb hp
   obtain ⟨n1,g1,hp⟩:=bind_some' hp
   obtain ⟨p1,q1,i1,h1,j1⟩:=W.ixo (E:=(eSl (eInt .i64))) w0 (i:=1) rfl rfl BR g1
   refine bind_ex i1 ?_
   obtain ⟨⟨Fs,m1_0,c1_0⟩,rfl,f1_0⟩:=h1
   obtain rfl:m1_0 = _:=f1_0.n
   refine bind_ex (ldSl_of (j1 0 _ rfl)) ?_
   exact ap.l1883_P (@ih) F rfl rfl rfl ⟨w0,s0,lf,BR,f1_0⟩ hp
  ·replace hp:=bif_f hb hp
   obtain ⟨w2,s2⟩:=w0.pick' [0] 2 rfl rfl rfl
   dsimp only [pk,pks,nth,List.drop] at w2 s2
   obtain rfl:=Option.some.inj hp
   exact ⟨_,_,rfl,_,_,_,_,rfl,rfl,w2,(s0.trans s2),(lf.step s2)⟩
def ap.p (F:Nat) (ad:List (Int×Int×Int×Int×Int)) (bX:List (Int×Int)) (cn:List (Int×Int)):Option (List Int):=(mkn (IntKind.i64.wrap (4 * (ad.length:Int))) (0:Int)).bind fun l3=>(ai.p F ad bX cn).bind fun r5=>ap.pl29 F F l3 r5 (r5.length:Int) 0
theorem ap.P {F:Nat} {av fu ga:ON} {aj dv eN:Nat} {aw fv gb:Cap} {ad:List (Int×Int×Int×Int×Int)} {ab:Int} {bX cn:List (Int×Int)} {H:Hp} {R0:List Rs} (ba:aj = ad.length) (il:dv = bX.length) (iV:eN = cn.length) (h0:Inn H R0 fun R=>ROs (ePair (eInt .i64) (ePair (eInt .i64) (ePair (eInt .i64) (ePair (eInt .i64) (eInt .i64))))) H R ⟨av,aj,aw⟩ ad∧ROs (ePair (eInt .i64) (eInt .i64)) H R ⟨fu,dv,fv⟩ bX∧ROs (ePair (eInt .i64) (eInt .i64)) H R ⟨ga,eN,gb⟩ cn) {r:List Int} (hp:ap.p F ad bX cn = some r):∃ v H',ap.tw F ⟨av,aj,aw⟩ ab ⟨fu,dv,fv⟩ ⟨ga,eN,gb⟩ H = some (v,H')∧ap.Q H R0 R0  r v H':=by
 obtain ⟨w0,aL,gC,im⟩:=h0
 subst ba
 subst il
 subst iV
 unfold ap.p at hp
 unfold ap.tw ap.twX
 have s0:=w0.rf
 refine new_k w0 fun H1 w1 s1=>?_
 refine new_k w1 fun H2 w2 s2=>?_
 refine bind_ex (ldSl_of (w2.ld (i:=1) rfl rfl)) ?_
 obtain ⟨l3,e3,hp⟩:=bind_some' hp
 refine mk_k (eInt .i64) (0:Int) w2 rfl rfl rfl e3 fun H4 k4 w4 s4 c4=>?_
 refine bind_ex (ldSl_of (w4.ld (i:=2) rfl rfl)) ?_
 refine bind_ex (ldI_of (w4.ld (i:=2) rfl rfl)) ?_
 refine bind_ex (ldSl_of (w4.ld (i:=1) rfl rfl)) ?_
 refine bind_ex (ldSl_of (w4.ld (i:=1) rfl rfl)) ?_
 obtain ⟨r5,e5,hp⟩:=bind_some' hp
 refine call_ex (ai.P rfl rfl rfl ⟨w4,(aL.step (s1.trans (s2.trans s4))),(gC.step (s1.trans (s2.trans s4))),(im.step (s1.trans (s2.trans s4)))⟩ e5) ?_
 rintro _ H6 ⟨o0a_6,o0n_6,o0c_6,o0k_6,rfl,rfl,w6,s6,f6_0⟩
 refine bind_ex rfl ?_
 obtain ⟨w7,s7⟩:=w6.pick' [1,0] 4 rfl rfl rfl
 dsimp only [pk,pks,nth,List.drop] at w7 s7
 exact ap.l29_P F rfl rfl ⟨w7,(s0.trans (s1.trans (s2.trans (s4.trans (s6.trans s7))))),(c4.step (s6.trans s7)),(f6_0.step s7)⟩ hp
def aH.Q (H0:Hp) (Ri R0:List Rs)  (r:List Int) (v:AV) (H':Hp):Prop:=∃ o0a:ON,∃ o0n:Nat,∃ o0k:List AV,v = (.sl ⟨o0a,o0n,.ex o0n⟩)∧o0n = (r).length∧Out H0 Ri H' (Rs.own ⟨o0a,o0n,.ex o0n⟩ (eInt .i64).z o0k :: R0) fun R=>CR (eInt .i64) H' R o0k (r)
def aH.pj1 (F:Nat)  (gz:List Int) (fH:Int):Option (List Int):=(mkn (IntKind.i64.wrap fH) (0:Int)).bind fun l1=>(some (cpl l1 gz)).bind fun l3=>(rept F l3 ((min gz.length l1.length:Nat):Int)).bind fun l5=>some l5
theorem aH.j1_P {F:Nat} {H0:Hp} {Ri R0:List Rs}   {nl:ON} {jS:Nat} {nm:Cap} {gz:List Int} {fH:Int} {H:Hp} (uW:jS = gz.length) (h0:Out H0 Ri H R0 fun R=>ROs (eInt .i64) H R ⟨nl,jS,nm⟩ gz) {r:List Int} (hp:aH.pj1 F  gz fH = some r):∃ v H',aH.j1 F (bits_Mul.tw F)  ⟨nl,jS,nm⟩ fH H = some (v,H')∧aH.Q H0 Ri R0  r v H':=by
 obtain ⟨w0,s0,uX⟩:=h0
 subst uW
 unfold aH.pj1 at hp
 unfold aH.j1
 obtain ⟨l1,e1,hp⟩:=bind_some' hp
 refine mk_k (eInt .i64) (0:Int) w0 rfl rfl rfl e1 fun H2 k2 w2 s2 c2=>?_
 obtain ⟨x3,h3,c3⟩:=(uX.step s2).row (z:=(eInt .i64).z) rfl
 obtain ⟨l3,e3,hp⟩:=bind_some' hp
 refine cpy_k (eInt .i64) w2 (i:=0) rfl rfl c2 h3 c3 rfl rfl e3 fun k4 H4 w4 s4 c4=>?_
 dsimp only [List.set] at w4 s4 c4
 obtain ⟨l5,e5,hp⟩:=bind_some' hp
 refine rept_K (eInt .i64) rfl (L:=aH.l254 F (bits_Mul.tw F)) (fun _ _ _ _=>rfl) w4 (i:=0) rfl c4 e5 fun H6 k6 w6 s6 c6=>?_
 dsimp only [List.set] at w6 s6 c6
 obtain rfl:=Option.some.inj hp
 exact ⟨_,_,rfl,_,_,_,rfl,((cpl_len e3).symm.trans (rept_len e5).symm),w6,(s0.trans (s2.trans (s4.trans s6))),c6⟩
def aH.pj2 (F:Nat)  (gA:List Int) (gj:Int):Option (List Int):=(bits_Mul.p F (IntKind.u64.wrap (gA.length:Int)) (IntKind.u64.wrap gj)).bind fun r1=>(bif (decide (r1.1 > 0)) then (none) else ((bif (decide (r1.2 > 9223372036854775807)) then (none) else (aH.pj1 F gA r1.2))))
theorem aH.j2_P {F:Nat} {H0:Hp} {Ri R0:List Rs}   {nn:ON} {jT:Nat} {np:Cap} {gA:List Int} {gj:Int} {H:Hp} (uY:jT = gA.length) (h0:Out H0 Ri H R0 fun R=>ROs (eInt .i64) H R ⟨nn,jT,np⟩ gA) {r:List Int} (hp:aH.pj2 F  gA gj = some r):∃ v H',aH.j2 F (bits_Mul.tw F)  ⟨nn,jT,np⟩ gj H = some (v,H')∧aH.Q H0 Ri R0  r v H':=by
 obtain ⟨w0,s0,uZ⟩:=h0
 subst uY
 unfold aH.pj2 at hp
 unfold aH.j2
 obtain ⟨r1,e1,hp⟩:=bind_some' hp
 refine call_ex (bits_Mul.P ⟨w0,trivial⟩ e1) ?_
 rintro _ H2 ⟨rfl,w2,s2,_⟩
 refine bind_ex rfl ?_
 refine bind_ex rfl ?_
 refine bind_ex rfl ?_
 refine bind_ex rfl ?_
 refine bind_ex rfl ?_
 refine bif_ex (fun hb=>?_) (fun hb=>?_)
 ·replace hp:=bif_t hb hp
  cases hp
 ·replace hp:=bif_f hb hp
  refine bif_ex (fun hb=>?_) (fun hb=>?_)
  ·replace hp:=bif_t hb hp
   cases hp
  ·replace hp:=bif_f hb hp
   exact aH.j1_P rfl ⟨w2,(s0.trans s2),(uZ.step s2)⟩ hp
def aH.p (F:Nat) (ad:List Int) (ae:Int):Option (List Int):=(bif (decide (ae < 0)) then (none) else (aH.pj2 F ad ae))
theorem aH.P {F:Nat} {av:ON} {aj:Nat} {aw:Cap} {ad:List Int} {ae:Int} {H:Hp} {R0:List Rs} (ba:aj = ad.length) (h0:Inn H R0 fun R=>ROs (eInt .i64) H R ⟨av,aj,aw⟩ ad) {r:List Int} (hp:aH.p F ad ae = some r):∃ v H',aH.tw F ⟨av,aj,aw⟩ ae H = some (v,H')∧aH.Q H R0 R0  r v H':=by
 obtain ⟨w0,aL⟩:=h0
 subst ba
 unfold aH.p at hp
 unfold aH.tw aH.twX
 have s0:=w0.rf
 refine bif_ex (fun hb=>?_) (fun hb=>?_)
 ·replace hp:=bif_t hb hp
  cases hp
 ·replace hp:=bif_f hb hp
  exact aH.j2_P rfl ⟨w0,s0,aL⟩ hp
def ag.Q (H0:Hp) (Ri R0:List Rs)  (r:List Int) (v:AV) (H':Hp):Prop:=∃ o0a:ON,∃ o0n:Nat,∃ o0c:Cap,∃ o0k:List AV,v = (.sl ⟨o0a,o0n,o0c⟩)∧o0n = (r).length∧Out H0 Ri H' (Rs.own ⟨o0a,o0n,o0c⟩ (eInt .i64).z o0k :: R0) fun R=>CR (eInt .i64) H' R o0k (r)
def ag.S253 (H0:Hp) (Ri R0:List Rs)  (C:Sl→Sl→Sl→Sl→Int→Int→Hp→OA) (pC:List Int→List Int→List Bool→List Int→Int→Int→Option (List Int)):Prop:=∀ {sT sU sV sW:ON} {oo oq ot ou:Nat} {sX sY sZ s_:Cap} {iq iC ir:List Int} {tc td te tf:List AV} {iu:List Bool} {ef df:Int},∀ {H:Hp},oo = iq.length→oq = iC.length→ot = iu.length→ou = ir.length→(Out H0 Ri H (Rs.own ⟨sT,oo,sX⟩ (eInt .i64).z tc :: Rs.own ⟨sU,oq,sY⟩ (eInt .i64).z td :: Rs.own ⟨sV,ot,sZ⟩ eBool.z te :: Rs.own ⟨sW,ou,s_⟩ (eInt .i64).z tf :: R0) fun R=>CR (eInt .i64) H R tc iq∧CR (eInt .i64) H R td iC∧CR eBool H R te iu∧CR (eInt .i64) H R tf ir)→∀ {r:List Int},pC iq iC iu ir ef df = some r→∃ v H',C ⟨sT,oo,sX⟩ ⟨sU,oq,sY⟩ ⟨sV,ot,sZ⟩ ⟨sW,ou,s_⟩ ef df H = some (v,H')∧ag.Q H0 Ri R0  r v H'
def ag.pj11 (F:Nat) (fY:List Int→List Int→List Bool→List Int→Int→Int→Option (List Int)) (ov:List Int) (ox:List Int) (oy:List Bool) (oz:List Int) (k_:Int) (la:Int):Option (List Int):=fY ov ox oy oz k_ (IntKind.i64.wrap (la + 1))
theorem ag.j11_P {F:Nat} {H0:Hp} {Ri R0:List Rs}  {C253_:Sl→Sl→Sl→Sl→Int→Int→Hp→OA} {fY:List Int→List Int→List Bool→List Int→Int→Int→Option (List Int)} (hC253:ag.S253 H0 Ri R0  C253_ fY) {BS BT BU BV:ON} {vH vI vJ vK:Nat} {BW BX BY BZ:Cap} {ov ox oz:List Int} {B_ Ca Cb Cc:List AV} {oy:List Bool} {k_ la:Int} {H:Hp} (Hl:vH = ov.length) (Hm:vI = ox.length) (Hn:vJ = oy.length) (Ho:vK = oz.length) (h0:Out H0 Ri H (Rs.own ⟨BS,vH,BW⟩ (eInt .i64).z B_ :: Rs.own ⟨BT,vI,BX⟩ (eInt .i64).z Ca :: Rs.own ⟨BU,vJ,BY⟩ eBool.z Cb :: Rs.own ⟨BV,vK,BZ⟩ (eInt .i64).z Cc :: R0) fun R=>CR (eInt .i64) H R B_ ov∧CR (eInt .i64) H R Ca ox∧CR eBool H R Cb oy∧CR (eInt .i64) H R Cc oz) {r:List Int} (hp:ag.pj11 F fY ov ox oy oz k_ la = some r):∃ v H',ag.j11 F (ap.tw F) (aE.tw F) (ai.tw F) (aH.tw F) (bc.tw F) C253_ ⟨BS,vH,BW⟩ ⟨BT,vI,BX⟩ ⟨BU,vJ,BY⟩ ⟨BV,vK,BZ⟩ k_ la H = some (v,H')∧ag.Q H0 Ri R0  r v H':=by
 obtain ⟨w0,s0,Hq,Hr,Hs,Ht⟩:=h0
 subst Hl
 subst Hm
 subst Hn
 subst Ho
 unfold ag.pj11 at hp
 unfold ag.j11
 exact hC253 rfl rfl rfl rfl ⟨w0,s0,Hq,Hr,Hs,Ht⟩ hp
def ag.S509 (H0:Hp) (Ri R0:List Rs)  (C:Sl→Sl→Int→Int→Hp→OA) (pC:List Int→List Int→Int→Int→Option (List Int)):Prop:=∀ {tg th:ON} {oA oB:Nat} {ti tj:Cap} {jL jM:List Int} {tk tn:List AV} {eI eX:Int},∀ {H:Hp},oA = jL.length→oB = jM.length→(Out H0 Ri H (Rs.own ⟨tg,oA,ti⟩ (eInt .i64).z tk :: Rs.own ⟨th,oB,tj⟩ (eInt .i64).z tn :: R0) fun R=>CR (eInt .i64) H R tk jL∧CR (eInt .i64) H R tn jM)→∀ {r:List Int},pC jL jM eI eX = some r→∃ v H',C ⟨tg,oA,ti⟩ ⟨th,oB,tj⟩ eI eX H = some (v,H')∧ag.Q H0 Ri R0  r v H'
def ag.S16301 (H0:Hp) (Ri R0:List Rs)  (C:Sl→Sl→Int→Int→Int→Int→Hp→OA) (pC:List Int→List Int→Int→Int→Int→Int→Option (List Int)):Prop:=∀ {tp tq:ON} {oC oD:Nat} {ts tt:Cap} {gD gE:List Int} {tu tv:List AV} {dt dX ee cG:Int},∀ {H:Hp},oC = gD.length→oD = gE.length→(Out H0 Ri H (Rs.own ⟨tp,oC,ts⟩ (eInt .i64).z tu :: Rs.own ⟨tq,oD,tt⟩ (eInt .i64).z tv :: R0) fun R=>CR (eInt .i64) H R tu gD∧CR (eInt .i64) H R tv gE)→∀ {r:List Int},pC gD gE dt dX ee cG = some r→∃ v H',C ⟨tp,oC,ts⟩ ⟨tq,oD,tt⟩ dt dX ee cG H = some (v,H')∧ag.Q H0 Ri R0  r v H'
def ag.pj9 (F:Nat) (tx:List Int→List Int→Int→Int→Int→Int→Option (List Int)) (oE:List Int) (oF:List Int) (kW:Int) (kX:Int) (kY:Int) (kZ:Int):Option (List Int):=tx oE oF kW kX kY (IntKind.i64.wrap (kZ + 1))
theorem ag.j9_P {F:Nat} {H0:Hp} {Ri R0:List Rs}  {C16301_:Sl→Sl→Int→Int→Int→Int→Hp→OA} {tx:List Int→List Int→Int→Int→Int→Int→Option (List Int)} (hC16301:ag.S16301 H0 Ri R0  C16301_ tx) {Cd Ce:ON} {vL vM:Nat} {Cf Cg:Cap} {oE oF:List Int} {Ch Ci:List AV} {kW kX kY kZ:Int} {H:Hp} (Hu:vL = oE.length) (Hv:vM = oF.length) (h0:Out H0 Ri H (Rs.own ⟨Cd,vL,Cf⟩ (eInt .i64).z Ch :: Rs.own ⟨Ce,vM,Cg⟩ (eInt .i64).z Ci :: R0) fun R=>CR (eInt .i64) H R Ch oE∧CR (eInt .i64) H R Ci oF) {r:List Int} (hp:ag.pj9 F tx oE oF kW kX kY kZ = some r):∃ v H',ag.j9 F (ap.tw F) (aE.tw F) (ai.tw F) (aH.tw F) (bc.tw F) C16301_ ⟨Cd,vL,Cf⟩ ⟨Ce,vM,Cg⟩ kW kX kY kZ H = some (v,H')∧ag.Q H0 Ri R0  r v H':=by
 obtain ⟨w0,s0,Hw,Hx⟩:=h0
 subst Hu
 subst Hv
 unfold ag.pj9 at hp
 unfold ag.j9
 exact hC16301 rfl rfl ⟨w0,s0,Hw,Hx⟩ hp
def ag.pj7 (F:Nat) (cc:List Int→List Int→Int→Int→Option (List Int)) (oG:List Int) (oH:List Int) (kS:Int) (kT:Int):Option (List Int):=cc oG oH kS (IntKind.i64.wrap (kT + 1))
theorem ag.j7_P {F:Nat} {H0:Hp} {Ri R0:List Rs}  {C509_:Sl→Sl→Int→Int→Hp→OA} {cc:List Int→List Int→Int→Int→Option (List Int)} (hC509:ag.S509 H0 Ri R0  C509_ cc) {Cj Ck:ON} {vN vO:Nat} {Cl Cm:Cap} {oG oH:List Int} {Cn Co:List AV} {kS kT:Int} {H:Hp} (Hy:vN = oG.length) (Hz:vO = oH.length) (h0:Out H0 Ri H (Rs.own ⟨Cj,vN,Cl⟩ (eInt .i64).z Cn :: Rs.own ⟨Ck,vO,Cm⟩ (eInt .i64).z Co :: R0) fun R=>CR (eInt .i64) H R Cn oG∧CR (eInt .i64) H R Co oH) {r:List Int} (hp:ag.pj7 F cc oG oH kS kT = some r):∃ v H',ag.j7 F (ap.tw F) (aE.tw F) (ai.tw F) (aH.tw F) (bc.tw F) C509_ ⟨Cj,vN,Cl⟩ ⟨Ck,vO,Cm⟩ kS kT H = some (v,H')∧ag.Q H0 Ri R0  r v H':=by
 obtain ⟨w0,s0,HA,HB⟩:=h0
 subst Hy
 subst Hz
 unfold ag.pj7 at hp
 unfold ag.j7
 exact hC509 rfl rfl ⟨w0,s0,HA,HB⟩ hp
def ag.pj8 (F:Nat) (cc:List Int→List Int→Int→Int→Option (List Int)) (oI:List Int) (oJ:List Int) (kU:Int) (kV:Int):Option (List Int):=ag.pj7 F cc oI oJ kU kV
theorem ag.j8_P {F:Nat} {H0:Hp} {Ri R0:List Rs}  {C509_:Sl→Sl→Int→Int→Hp→OA} {cc:List Int→List Int→Int→Int→Option (List Int)} (hC509:ag.S509 H0 Ri R0  C509_ cc) {Cp Cq:ON} {vP vQ:Nat} {Cs Ct:Cap} {oI oJ:List Int} {Cu Cv:List AV} {kU kV:Int} {H:Hp} (HC:vP = oI.length) (HD:vQ = oJ.length) (h0:Out H0 Ri H (Rs.own ⟨Cp,vP,Cs⟩ (eInt .i64).z Cu :: Rs.own ⟨Cq,vQ,Ct⟩ (eInt .i64).z Cv :: R0) fun R=>CR (eInt .i64) H R Cu oI∧CR (eInt .i64) H R Cv oJ) {r:List Int} (hp:ag.pj8 F cc oI oJ kU kV = some r):∃ v H',ag.j8 F (ap.tw F) (aE.tw F) (ai.tw F) (aH.tw F) (bc.tw F) C509_ ⟨Cp,vP,Cs⟩ ⟨Cq,vQ,Ct⟩ kU kV H = some (v,H')∧ag.Q H0 Ri R0  r v H':=by
 obtain ⟨w0,s0,HE,HF⟩:=h0
 subst HC
 subst HD
 unfold ag.pj8 at hp
 unfold ag.j8
 exact ag.j7_P (@hC509) rfl rfl ⟨w0,s0,HE,HF⟩ hp
def ag.pl16301 (F:Nat) (cc:List Int→List Int→Int→Int→Option (List Int)):Nat→List Int→List Int→Int→Int→Int→Int→Option (List Int)
 | 0,_,_,_,_,_,_=>none
 | k + 1,gD,gE,dt,dX,ee,cG=>(bif (decide (cG < ee)) then ((ix gD cG).bind fun n1=>(ix gE (gt gD n1)).bind fun n2=>(bif (decide ((gt gE n2) ≥ 0)) then ((ix gD (IntKind.i64.wrap ((IntKind.i64.wrap (cG - (Int.tmod cG 4))) + (Int.tmod (IntKind.i64.wrap (cG + 1)) 4)))).bind fun n3=>(ix gE (gt gD n3)).bind fun n4=>(some (gE.set n4 (IntKind.i64.wrap (1 - (gt gE n2))))).bind fun l5=>ag.pj9 F (ag.pl16301 F cc k) gD l5 dt dX ee cG) else (ag.pj9 F (ag.pl16301 F cc k) gD gE dt dX ee cG))) else (ag.pj8 F cc gD gE dt dX))
termination_by structural n=>n
theorem ag.l16301_P {F:Nat} {H0:Hp} {Ri R0:List Rs}  {C509_:Sl→Sl→Int→Int→Hp→OA} {cc:List Int→List Int→Int→Int→Option (List Int)} (hC509:ag.S509 H0 Ri R0  C509_ cc):∀ k,ag.S16301 H0 Ri R0  (ag.l16301 F (ap.tw F) (aE.tw F) (ai.tw F) (aH.tw F) (bc.tw F) C509_ k) (ag.pl16301 F cc k):=by
 intro k
 induction k with
 | zero=>
  intro tp tq oC oD ts tt gD gE tu tv dt dX ee cG H Cw Cx h0 r hp
  exact nomatch (show (none:Option (List Int)) = some r from hp)
 | succ k ih=>
  intro tp tq oC oD ts tt gD gE tu tv dt dX ee cG H Cw Cx h0 r hp
  obtain ⟨w0,s0,oK,oL⟩:=h0
  subst Cw
  subst Cx
  unfold ag.pl16301 at hp
  unfold ag.l16301
  refine bif_ex (fun hb=>?_) (fun hb=>?_)
  ·replace hp:=bif_t hb hp
   obtain ⟨n1,g1,hp⟩:=bind_some' hp
   obtain ⟨p1,q1,i1,h1,j1⟩:=W.ixo (E:=(eInt .i64)) w0 (i:=0) rfl rfl oK g1
   refine bind_ex i1 ?_
   have h1:_ = [_]:=h1
   subst h1
   refine bind_ex (ldI_of (j1 0 _ rfl)) ?_
   obtain ⟨n2,g2,hp⟩:=bind_some' hp
   obtain ⟨p2,q2,i2,h2,j2⟩:=W.ixo (E:=(eInt .i64)) w0 (i:=1) rfl rfl oL g2
   refine bind_ex i2 ?_
   have h2:_ = [_]:=h2
   subst h2
   refine bind_ex (ldI_of (j2 0 _ rfl)) ?_
   refine bif_ex (fun hb=>?_) (fun hb=>?_)
   ·replace hp:=bif_t hb hp
    obtain ⟨n3,g3,hp⟩:=bind_some' hp
    obtain ⟨p3,q3,i3,h3,j3⟩:=W.ixo (E:=(eInt .i64)) w0 (i:=0) rfl rfl oK g3
    refine bind_ex i3 ?_
    have h3:_ = [_]:=h3
    subst h3
    refine bind_ex (ldI_of (j3 0 _ rfl)) ?_
    obtain ⟨n4,g4,hp⟩:=bind_some' hp
    obtain ⟨p4,q4,i4,h4,j4⟩:=W.ixo (E:=(eInt .i64)) w0 (i:=1) rfl rfl oL g4
    refine bind_ex i4 ?_
    obtain ⟨l5,e5,hp⟩:=bind_some' hp
    refine sto_k (eInt .i64) w0 (i:=1) (j:=0) (p:=p4) rfl rfl oL g4 i4 e5 rfl rfl (fun _ h=>by have h:_ = [_]:=h; subst h; exact rfl) fun H6 k6 w6 s6 c6=>?_
    dsimp only [List.set] at w6 s6 c6
    exact ag.j9_P (@ih) rfl ((st_len e5).symm) ⟨w6,(s0.trans s6),(oK.step s6),c6⟩ hp
   ·replace hp:=bif_f hb hp
    exact ag.j9_P (@ih) rfl rfl ⟨w0,s0,oK,oL⟩ hp
  ·replace hp:=bif_f hb hp
   exact ag.j8_P (@hC509) rfl rfl ⟨w0,s0,oK,oL⟩ hp
def ag.pl509 (F:Nat) :Nat→List Int→List Int→Int→Int→Option (List Int)
 | 0,_,_,_,_=>none
 | k + 1,jL,jM,eI,eX=>(bif (decide (eX < eI)) then (ag.pl16301 F (ag.pl509 F k) F jL jM eI eX (jL.length:Int) 0) else (some jM))
termination_by structural n=>n
theorem ag.l509_P {F:Nat} {H0:Hp} {Ri R0:List Rs}  :∀ k,ag.S509 H0 Ri R0  (ag.l509 F (ap.tw F) (aE.tw F) (ai.tw F) (aH.tw F) (bc.tw F)  k) (ag.pl509 F  k):=by
 intro k
 induction k with
 | zero=>
  intro tg th oA oB ti tj jL jM tk tn eI eX H Cy Cz h0 r hp
  exact nomatch (show (none:Option (List Int)) = some r from hp)
 | succ k ih=>
  intro tg th oA oB ti tj jL jM tk tn eI eX H Cy Cz h0 r hp
  obtain ⟨w0,s0,HG,CA⟩:=h0
  subst Cy
  subst Cz
  unfold ag.pl509 at hp
  unfold ag.l509
  refine bif_ex (fun hb=>?_) (fun hb=>?_)
  ·replace hp:=bif_t hb hp
   exact ag.l16301_P (@ih) F rfl rfl ⟨w0,s0,HG,CA⟩ hp
  ·replace hp:=bif_f hb hp
   obtain ⟨w1,s1⟩:=w0.pick' [1] 2 rfl rfl rfl
   dsimp only [pk,pks,nth,List.drop] at w1 s1
   obtain rfl:=Option.some.inj hp
   exact ⟨_,_,rfl,_,_,_,_,rfl,rfl,w1,(s0.trans s1),(CA.step s1)⟩
def ag.pj10 (F:Nat)  (oM:List Int) (ln:List Int):Option (List Int):=ag.pl509 F F oM ln (ln.length:Int) 0
theorem ag.j10_P {F:Nat} {H0:Hp} {Ri R0:List Rs}   {CB CC:ON} {vR vS:Nat} {CD CE:Cap} {oM ln:List Int} {CF CG:List AV} {H:Hp} (HH:vR = oM.length) (HI:vS = ln.length) (h0:Out H0 Ri H (Rs.own ⟨CB,vR,CD⟩ (eInt .i64).z CF :: Rs.own ⟨CC,vS,CE⟩ (eInt .i64).z CG :: R0) fun R=>CR (eInt .i64) H R CF oM∧CR (eInt .i64) H R CG ln) {r:List Int} (hp:ag.pj10 F  oM ln = some r):∃ v H',ag.j10 F (ap.tw F) (aE.tw F) (ai.tw F) (aH.tw F) (bc.tw F)  ⟨CB,vR,CD⟩ ⟨CC,vS,CE⟩ H = some (v,H')∧ag.Q H0 Ri R0  r v H':=by
 obtain ⟨w0,s0,HJ,HK⟩:=h0
 subst HH
 subst HI
 unfold ag.pj10 at hp
 unfold ag.j10
 exact ag.l509_P F rfl rfl ⟨w0,s0,HJ,HK⟩ hp
def ag.pl253 (F:Nat) :Nat→List Int→List Int→List Bool→List Int→Int→Int→Option (List Int)
 | 0,_,_,_,_,_,_=>none
 | k + 1,iq,iC,iu,ir,ef,df=>(bif (decide (df < ef)) then ((ix ir df).bind fun n1=>(ix iu (gt ir n1)).bind fun n2=>(bif (!(gt iu n2)) then ((ix iu (gt ir n1)).bind fun n3=>(some (iu.set n3 true)).bind fun l4=>(ix iq (IntKind.i64.wrap (4 * df))).bind fun n6=>(ix iC (gt iq n6)).bind fun n7=>(some (iC.set n7 0)).bind fun l8=>ag.pj11 F (ag.pl253 F k) iq l8 l4 ir ef df) else (ag.pj11 F (ag.pl253 F k) iq iC iu ir ef df))) else (ag.pj10 F iq iC))
termination_by structural n=>n
theorem ag.l253_P {F:Nat} {H0:Hp} {Ri R0:List Rs}  :∀ k,ag.S253 H0 Ri R0  (ag.l253 F (ap.tw F) (aE.tw F) (ai.tw F) (aH.tw F) (bc.tw F)  k) (ag.pl253 F  k):=by
 intro k
 induction k with
 | zero=>
  intro sT sU sV sW oo oq ot ou sX sY sZ s_ iq iC ir tc td te tf iu ef df H CH CI CJ CK h0 r hp
  exact nomatch (show (none:Option (List Int)) = some r from hp)
 | succ k ih=>
  intro sT sU sV sW oo oq ot ou sX sY sZ s_ iq iC ir tc td te tf iu ef df H CH CI CJ CK h0 r hp
  obtain ⟨w0,s0,tz,tB,tC,vT⟩:=h0
  subst CH
  subst CI
  subst CJ
  subst CK
  unfold ag.pl253 at hp
  unfold ag.l253
  refine bif_ex (fun hb=>?_) (fun hb=>?_)
  ·replace hp:=bif_t hb hp
   obtain ⟨n1,g1,hp⟩:=bind_some' hp
   obtain ⟨p1,q1,i1,h1,j1⟩:=W.ixo (E:=(eInt .i64)) w0 (i:=3) rfl rfl vT g1
   refine bind_ex i1 ?_
   have h1:_ = [_]:=h1
   subst h1
   refine bind_ex (ldI_of (j1 0 _ rfl)) ?_
   obtain ⟨n2,g2,hp⟩:=bind_some' hp
   obtain ⟨p2,q2,i2,h2,j2⟩:=W.ixo (E:=eBool) w0 (i:=2) rfl rfl tC g2
   refine bind_ex i2 ?_
   have h2:_ = [_]:=h2
   subst h2
   refine bind_ex (ldB_of (j2 0 _ rfl)) ?_
   refine bif_ex (fun hb=>?_) (fun hb=>?_)
   ·replace hp:=bif_t hb hp
    obtain ⟨n3,g3,hp⟩:=bind_some' hp
    obtain ⟨p3,q3,i3,h3,j3⟩:=W.ixo (E:=eBool) w0 (i:=2) rfl rfl tC g3
    refine bind_ex i3 ?_
    obtain ⟨l4,e4,hp⟩:=bind_some' hp
    refine sto_k eBool w0 (i:=2) (j:=0) (p:=p3) rfl rfl tC g3 i3 e4 rfl rfl (fun _ h=>by have h:_ = [_]:=h; subst h; exact rfl) fun H5 k5 w5 s5 c5=>?_
    dsimp only [List.set] at w5 s5 c5
    obtain ⟨n6,g6,hp⟩:=bind_some' hp
    obtain ⟨p6,q6,i6,h6,j6⟩:=W.ixo (E:=(eInt .i64)) w5 (i:=0) rfl rfl (tz.step s5) g6
    refine bind_ex i6 ?_
    have h6:_ = [_]:=h6
    subst h6
    refine bind_ex (ldI_of (j6 0 _ rfl)) ?_
    obtain ⟨n7,g7,hp⟩:=bind_some' hp
    obtain ⟨p7,q7,i7,h7,j7⟩:=W.ixo (E:=(eInt .i64)) w5 (i:=1) rfl rfl (tB.step s5) g7
    refine bind_ex i7 ?_
    obtain ⟨l8,e8,hp⟩:=bind_some' hp
    refine sto_k (eInt .i64) w5 (i:=1) (j:=0) (p:=p7) rfl rfl (tB.step s5) g7 i7 e8 rfl rfl (fun _ h=>by have h:_ = [_]:=h; subst h; exact rfl) fun H9 k9 w9 s9 c9=>?_
    dsimp only [List.set] at w9 s9 c9
    exact ag.j11_P (@ih) rfl ((st_len e8).symm) ((st_len e4).symm) rfl ⟨w9,(s0.trans (s5.trans s9)),(tz.step (s5.trans s9)),c9,(c5.step s9),(vT.step (s5.trans s9))⟩ hp
   ·replace hp:=bif_f hb hp
    exact ag.j11_P (@ih) rfl rfl rfl rfl ⟨w0,s0,tz,tB,tC,vT⟩ hp
  ·replace hp:=bif_f hb hp
   obtain ⟨w10,s10⟩:=w0.pick' [0,1] 4 rfl rfl rfl
   dsimp only [pk,pks,nth,List.drop] at w10 s10
   exact ag.j10_P rfl rfl ⟨w10,(s0.trans s10),(tz.step s10),(tB.step s10)⟩ hp
def ag.p (F:Nat) (ad:List (Int×Int×Int×Int×Int)) (bX:List (Int×Int)) (cn:List (Int×Int)):Option (List Int):=(ap.p F ad bX cn).bind fun r3=>(aE.p F ad bX cn).bind fun r5=>(ai.p F ad bX cn).bind fun r8=>(aH.p F ([(-1)]:List Int) (r8.length:Int)).bind fun r12=>(bc.p F r5).bind fun r17=>(mkn r17 false).bind fun l20=>ag.pl253 F F r3 r12 l20 r5 (r5.length:Int) 0
theorem ag.P {F:Nat} {av fu ga:ON} {aj dv eN:Nat} {aw fv gb:Cap} {ad:List (Int×Int×Int×Int×Int)} {ab:Int} {bX cn:List (Int×Int)} {H:Hp} {R0:List Rs} (ba:aj = ad.length) (il:dv = bX.length) (iV:eN = cn.length) (h0:Inn H R0 fun R=>ROs (ePair (eInt .i64) (ePair (eInt .i64) (ePair (eInt .i64) (ePair (eInt .i64) (eInt .i64))))) H R ⟨av,aj,aw⟩ ad∧ROs (ePair (eInt .i64) (eInt .i64)) H R ⟨fu,dv,fv⟩ bX∧ROs (ePair (eInt .i64) (eInt .i64)) H R ⟨ga,eN,gb⟩ cn) {r:List Int} (hp:ag.p F ad bX cn = some r):∃ v H',ag.tw F ⟨av,aj,aw⟩ ab ⟨fu,dv,fv⟩ ⟨ga,eN,gb⟩ H = some (v,H')∧ag.Q H R0 R0  r v H':=by
 obtain ⟨w0,aL,gC,im⟩:=h0
 subst ba
 subst il
 subst iV
 unfold ag.p at hp
 unfold ag.tw ag.twX
 have s0:=w0.rf
 refine new_k w0 fun H1 w1 s1=>?_
 refine new_k w1 fun H2 w2 s2=>?_
 refine bind_ex (ldSl_of (w2.ld (i:=1) rfl rfl)) ?_
 refine bind_ex (ldI_of (w2.ld (i:=1) rfl rfl)) ?_
 refine bind_ex (ldSl_of (w2.ld (i:=0) rfl rfl)) ?_
 refine bind_ex (ldSl_of (w2.ld (i:=0) rfl rfl)) ?_
 obtain ⟨r3,e3,hp⟩:=bind_some' hp
 refine call_ex (ap.P rfl rfl rfl ⟨w2,(aL.step (s1.trans s2)),(gC.step (s1.trans s2)),(im.step (s1.trans s2))⟩ e3) ?_
 rintro _ H4 ⟨o0a_4,o0n_4,o0c_4,o0k_4,rfl,rfl,w4,s4,f4_0⟩
 refine bind_ex rfl ?_
 refine bind_ex (ldSl_of (w4.ld (i:=2) rfl rfl)) ?_
 refine bind_ex (ldI_of (w4.ld (i:=2) rfl rfl)) ?_
 refine bind_ex (ldSl_of (w4.ld (i:=1) rfl rfl)) ?_
 refine bind_ex (ldSl_of (w4.ld (i:=1) rfl rfl)) ?_
 obtain ⟨r5,e5,hp⟩:=bind_some' hp
 refine call_ex (aE.P rfl rfl rfl ⟨w4,(aL.step (s1.trans (s2.trans s4))),(gC.step (s1.trans (s2.trans s4))),(im.step (s1.trans (s2.trans s4)))⟩ e5) ?_
 rintro _ H6 ⟨o0a_6,o0n_6,o0c_6,o0k_6,rfl,rfl,w6,s6,f6_0⟩
 refine bind_ex rfl ?_
 refine newS_k (eInt .i64) w6 (n:=1) (l:=([(-1)]:List Int)) rfl (CR.cons1 rfl CR.empty) rfl fun H7 w7 s7 c7=>?_
 refine bind_ex (ldSl_of (w7.ld (i:=4) rfl rfl)) ?_
 refine bind_ex (ldI_of (w7.ld (i:=4) rfl rfl)) ?_
 refine bind_ex (ldSl_of (w7.ld (i:=3) rfl rfl)) ?_
 refine bind_ex (ldSl_of (w7.ld (i:=3) rfl rfl)) ?_
 obtain ⟨r8,e8,hp⟩:=bind_some' hp
 refine call_ex (ai.P rfl rfl rfl ⟨w7,(aL.step (s1.trans (s2.trans (s4.trans (s6.trans s7))))),(gC.step (s1.trans (s2.trans (s4.trans (s6.trans s7))))),(im.step (s1.trans (s2.trans (s4.trans (s6.trans s7)))))⟩ e8) ?_
 rintro _ H9 ⟨o0a_9,o0n_9,o0c_9,o0k_9,rfl,rfl,w9,s9,f9_0⟩
 refine bind_ex rfl ?_
 obtain ⟨w10,s10⟩:=w9.pick' [1,0,2,3,4,5] 6 rfl rfl rfl
 dsimp only [pk,pks,nth,List.drop] at w10 s10
 have f11:=W.borrow1 (eInt .i64) w10 (c7.step (s9.trans s10))
 obtain ⟨w11,s11⟩:=w10.right1
 obtain ⟨r12,e12,hp⟩:=bind_some' hp
 refine call_ex (aH.P (show 1 = List.length ([(-1)]:List Int) from rfl) ⟨w11,f11⟩ e12) ?_
 rintro _ H13 ⟨o0a_13,o0n_13,o0k_13,rfl,rfl,w13,s13,f13_0⟩
 obtain ⟨w14,s14⟩:=W.frame1 w10 w13 s13
 refine bind_ex rfl ?_
 obtain ⟨w15,s15⟩:=w14.pick' [3,0,1,2,4,5,6] 7 rfl rfl rfl
 dsimp only [pk,pks,nth,List.drop] at w15 s15
 have f16:=W.borrow1 (eInt .i64) w15 (f6_0.step (s7.trans (s9.trans (s10.trans (s14.trans s15)))))
 obtain ⟨w16,s16⟩:=w15.right1
 obtain ⟨r17,e17,hp⟩:=bind_some' hp
 refine call_ex (bc.P rfl ⟨w16,f16⟩ e17) ?_
 rintro _ H18 ⟨rfl,w18,s18,_⟩
 obtain ⟨w19,s19⟩:=W.frame1 w15 w18 s18
 refine bind_ex rfl ?_
 obtain ⟨l20,e20,hp⟩:=bind_some' hp
 refine mk_k eBool false w19 rfl rfl rfl e20 fun H21 k21 w21 s21 c21=>?_
 obtain ⟨w22,s22⟩:=w21.pick' [5,3,0,1] 8 rfl rfl rfl
 dsimp only [pk,pks,nth,List.drop] at w22 s22
 exact ag.l253_P F rfl rfl rfl rfl ⟨w22,(s0.trans (s1.trans (s2.trans (s4.trans (s6.trans (s7.trans (s9.trans (s10.trans (s14.trans (s15.trans (s19.trans (s21.trans s22)))))))))))),(f4_0.step (s6.trans (s7.trans (s9.trans (s10.trans (s14.trans (s15.trans (s19.trans (s21.trans s22))))))))),((CR.flat (eInt_flat .i64) f13_0).step (s15.trans (s19.trans (s21.trans s22)))),(c21.step s22),(f6_0.step (s7.trans (s9.trans (s10.trans (s14.trans (s15.trans (s19.trans (s21.trans s22))))))))⟩ hp
def bx.Q (H0:Hp) (Ri R0:List Rs)  (r:List Int×Bool) (v:AV) (H':Hp):Prop:=∃ o0a:ON,∃ o0n:Nat,∃ o0c:Cap,∃ o0k:List AV,v = (.tup [(.sl ⟨o0a,o0n,o0c⟩),(.bool r.2)])∧o0n = (r.1).length∧Out H0 Ri H' (Rs.own ⟨o0a,o0n,o0c⟩ (eInt .i64).z o0k :: R0) fun R=>CR (eInt .i64) H' R o0k (r.1)
def bx.p (F:Nat) (ad:List (Int×Int×Int×Int×Int)) (ab:Int):Option (List Int×Bool):=(bs.p F ad ab).bind fun r2=>(bif (!r2.2.2) then (some (([]:List Int),false)) else ((ag.p F ad r2.1 r2.2.1).bind fun r9=>some (r9,true)))
theorem bx.P {F:Nat} {av:ON} {aj:Nat} {aw:Cap} {ad:List (Int×Int×Int×Int×Int)} {ab:Int} {H:Hp} {R0:List Rs} (ba:aj = ad.length) (h0:Inn H R0 fun R=>ROs (ePair (eInt .i64) (ePair (eInt .i64) (ePair (eInt .i64) (ePair (eInt .i64) (eInt .i64))))) H R ⟨av,aj,aw⟩ ad) {r:List Int×Bool} (hp:bx.p F ad ab = some r):∃ v H',bx.tw F ⟨av,aj,aw⟩ ab H = some (v,H')∧bx.Q H R0 R0  r v H':=by
 obtain ⟨w0,aL⟩:=h0
 subst ba
 unfold bx.p at hp
 unfold bx.tw bx.twX
 have s0:=w0.rf
 refine new_k w0 fun H1 w1 s1=>?_
 refine bind_ex (ldSl_of (w1.ld (i:=0) rfl rfl)) ?_
 refine bind_ex (ldI_of (w1.ld (i:=0) rfl rfl)) ?_
 obtain ⟨r2,e2,hp⟩:=bind_some' hp
 refine call_ex (bs.P rfl ⟨w1,(aL.step s1)⟩ e2) ?_
 rintro _ H3 ⟨o0a_3,o0n_3,o0c_3,o1a_3,o1n_3,o1c_3,rfl,rfl,rfl,w3,s3,f3_0,f3_1⟩
 refine bind_ex rfl ?_
 refine bind_ex rfl ?_
 refine bind_ex rfl ?_
 refine bind_ex rfl ?_
 refine bind_ex rfl ?_
 refine bind_ex rfl ?_
 refine bind_ex rfl ?_
 refine bind_ex rfl ?_
 refine bind_ex rfl ?_
 refine new_k w3 fun H4 w4 s4=>?_
 refine st_k w4 (i:=0) rfl rfl rfl fun H5 w5 s5=>?_
 dsimp only [List.set] at w5 s5
 refine st_k w5 (i:=0) rfl rfl rfl fun H6 w6 s6=>?_
 dsimp only [List.set] at w6 s6
 refine bif_ex (fun hb=>?_) (fun hb=>?_)
 ·replace hp:=bif_t hb hp
  obtain ⟨w7,s7⟩:=w6.nilS (eInt .i64).z (by decide)
  obtain ⟨w8,s8⟩:=w7.pick' [0] 3 rfl rfl rfl
  dsimp only [pk,pks,nth,List.drop] at w8 s8
  obtain rfl:=Option.some.inj hp
  exact ⟨_,_,rfl,_,_,_,_,rfl,rfl,w8,(s0.trans (s1.trans (s3.trans (s4.trans (s5.trans (s6.trans (s7.trans s8))))))),((CR.empty:CR (eInt .i64) _ _ [] []).step s8)⟩
 ·replace hp:=bif_f hb hp
  refine bind_ex (ldSl_of (w6.ld (i:=1) rfl rfl)) ?_
  refine bind_ex (ldI_of (w6.ld (i:=1) rfl rfl)) ?_
  refine bind_ex (ldSl_of (w6.ld (i:=0) rfl rfl)) ?_
  refine bind_ex (ldSl_of (w6.ld (i:=0) rfl rfl)) ?_
  obtain ⟨r9,e9,hp⟩:=bind_some' hp
  refine call_ex (ag.P rfl rfl rfl ⟨w6,(aL.step (s1.trans (s3.trans (s4.trans (s5.trans s6))))),(f3_0.step (s4.trans (s5.trans s6))),(f3_1.step (s4.trans (s5.trans s6)))⟩ e9) ?_
  rintro _ H10 ⟨o0a_10,o0n_10,o0c_10,o0k_10,rfl,rfl,w10,s10,f10_0⟩
  refine bind_ex rfl ?_
  obtain ⟨w11,s11⟩:=w10.pick' [0] 3 rfl rfl rfl
  dsimp only [pk,pks,nth,List.drop] at w11 s11
  obtain rfl:=Option.some.inj hp
  exact ⟨_,_,rfl,_,_,_,_,rfl,rfl,w11,(s0.trans (s1.trans (s3.trans (s4.trans (s5.trans (s6.trans (s10.trans s11))))))),(f10_0.step s11)⟩
def aM.Q (H0:Hp) (Ri R0:List Rs)  (r:Bool) (v:AV) (H':Hp):Prop:=v = (.bool r)∧Out H0 Ri H' (R0) fun R=>True
def aM.S29 (H0:Hp) (Ri R0:List Rs)  (C:Sl→Sl→Int→Hp→OA) (pC:List Int→List Int→Int→Option (Bool)):Prop:=∀ {eJ jc:ON} {du iv:Nat} {eK jd:Cap} {bg dz:List Int} {bS:Int},∀ {H:Hp},du = bg.length→iv = dz.length→(Out H0 Ri H R0 fun R=>ROs (eInt .i64) H R ⟨eJ,du,eK⟩ bg∧ROs (eInt .i64) H R ⟨jc,iv,jd⟩ dz)→∀ {r:Bool},pC bg dz bS = some r→∃ v H',C ⟨eJ,du,eK⟩ ⟨jc,iv,jd⟩ bS H = some (v,H')∧aM.Q H0 Ri R0  r v H'
def aM.pl29 (F:Nat) :Nat→List Int→List Int→Int→Option (Bool)
 | 0,_,_,_=>none
 | k + 1,bg,dz,bS=>(bif (decide (bS < (bg.length:Int))) then ((ix bg bS).bind fun n1=>(ix dz bS).bind fun n2=>(bif ((gt bg n1) != (gt dz n2)) then (some false) else (aM.pl29 F k bg dz (IntKind.i64.wrap (bS + 1))))) else (some true))
termination_by structural n=>n
theorem aM.l29_P {F:Nat} {H0:Hp} {Ri R0:List Rs}  :∀ k,aM.S29 H0 Ri R0  (aM.l29 F   k) (aM.pl29 F  k):=by
 intro k
 induction k with
 | zero=>
  intro eJ jc du iv eK jd bg dz bS H ft oN h0 r hp
  exact nomatch (show (none:Option (Bool)) = some r from hp)
 | succ k ih=>
  intro eJ jc du iv eK jd bg dz bS H ft oN h0 r hp
  obtain ⟨w0,s0,eL,oO⟩:=h0
  subst ft
  subst oN
  unfold aM.pl29 at hp
  unfold aM.l29
  refine bif_ex (fun hb=>?_) (fun hb=>?_)
  ·replace hp:=bif_t hb hp
   obtain ⟨n1,g1,hp⟩:=bind_some' hp
   obtain ⟨p1,q1,i1,h1,j1⟩:=ROs.ixr eL rfl g1
   refine bind_ex i1 ?_
   have h1:_ = [_]:=h1
   subst h1
   refine bind_ex (ldI_of (j1 0 _ rfl)) ?_
   obtain ⟨n2,g2,hp⟩:=bind_some' hp
   obtain ⟨p2,q2,i2,h2,j2⟩:=ROs.ixr oO rfl g2
   refine bind_ex i2 ?_
   have h2:_ = [_]:=h2
   subst h2
   refine bind_ex (ldI_of (j2 0 _ rfl)) ?_
   refine bif_ex (fun hb=>?_) (fun hb=>?_)
   ·replace hp:=bif_t hb hp
    obtain rfl:=Option.some.inj hp
    exact ⟨_,_,rfl,rfl,w0,s0,trivial⟩
   ·replace hp:=bif_f hb hp
    exact ih rfl rfl ⟨w0,s0,eL,oO⟩ hp
  ·replace hp:=bif_f hb hp
   obtain rfl:=Option.some.inj hp
   exact ⟨_,_,rfl,rfl,w0,s0,trivial⟩
def aM.p (F:Nat) (ad:List Int) (gF:List Int):Option (Bool):=(bif ((ad.length:Int) != (gF.length:Int)) then (some false) else (aM.pl29 F F ad gF 0))
theorem aM.P {F:Nat} {av oP:ON} {aj jZ:Nat} {aw oQ:Cap} {ad gF:List Int} {H:Hp} {R0:List Rs} (ba:aj = ad.length) (vU:jZ = gF.length) (h0:Inn H R0 fun R=>ROs (eInt .i64) H R ⟨av,aj,aw⟩ ad∧ROs (eInt .i64) H R ⟨oP,jZ,oQ⟩ gF) {r:Bool} (hp:aM.p F ad gF = some r):∃ v H',aM.tw F ⟨av,aj,aw⟩ ⟨oP,jZ,oQ⟩ H = some (v,H')∧aM.Q H R0 R0  r v H':=by
 obtain ⟨w0,aL,vV⟩:=h0
 subst ba
 subst vU
 unfold aM.p at hp
 unfold aM.tw aM.twX
 have s0:=w0.rf
 refine bif_ex (fun hb=>?_) (fun hb=>?_)
 ·replace hp:=bif_t hb hp
  obtain rfl:=Option.some.inj hp
  exact ⟨_,_,rfl,rfl,w0,s0,trivial⟩
 ·replace hp:=bif_f hb hp
  exact aM.l29_P F rfl rfl ⟨w0,s0,aL,vV⟩ hp
def bH.Q (H0:Hp) (Ri R0:List Rs)  (r:Bool) (v:AV) (H':Hp):Prop:=v = (.bool r)∧Out H0 Ri H' (R0) fun R=>True
def bH.p (F:Nat) (aa:Int) (ab:Int) (aA:Int) (aB:Int) (az:Int) (bd:Int) (fm:Int) (fo:Int) (fp:Int) (fq:Int):Option (Bool):=(bif (aa != bd) then (some false) else ((bif (ab != fm) then (some false) else ((bif (aA != fo) then (some false) else ((bif (aB != fp) then (some false) else ((bif (az != fq) then (some false) else (some true))))))))))
theorem bH.P {F:Nat} {aa ab aA aB az bd fm fo fp fq:Int} {H:Hp} {R0:List Rs}  (h0:Inn H R0 fun R=>True) {r:Bool} (hp:bH.p F aa ab aA aB az bd fm fo fp fq = some r):∃ v H',bH.tw F aa ab aA aB az bd fm fo fp fq H = some (v,H')∧bH.Q H R0 R0  r v H':=by
 obtain ⟨w0,_⟩:=h0
 unfold bH.p at hp
 unfold bH.tw bH.twX
 have s0:=w0.rf
 refine new_k w0 fun H1 w1 s1=>?_
 refine new_k w1 fun H2 w2 s2=>?_
 refine bind_ex (ldI_of (w2.ld (i:=1) rfl rfl)) ?_
 refine bind_ex (ldI_of (w2.ld (i:=0) rfl rfl)) ?_
 refine bif_ex (fun hb=>?_) (fun hb=>?_)
 ·replace hp:=bif_t hb hp
  obtain ⟨w3,s3⟩:=w2.pick' [] 2 rfl rfl rfl
  dsimp only [pk,pks,nth,List.drop] at w3 s3
  obtain rfl:=Option.some.inj hp
  exact ⟨_,_,rfl,rfl,w3,(s0.trans (s1.trans (s2.trans s3))),trivial⟩
 ·replace hp:=bif_f hb hp
  refine bind_ex (ldI_of (w2.ld (i:=1) rfl rfl)) ?_
  refine bind_ex (ldI_of (w2.ld (i:=0) rfl rfl)) ?_
  refine bif_ex (fun hb=>?_) (fun hb=>?_)
  ·replace hp:=bif_t hb hp
   obtain ⟨w4,s4⟩:=w2.pick' [] 2 rfl rfl rfl
   dsimp only [pk,pks,nth,List.drop] at w4 s4
   obtain rfl:=Option.some.inj hp
   exact ⟨_,_,rfl,rfl,w4,(s0.trans (s1.trans (s2.trans s4))),trivial⟩
  ·replace hp:=bif_f hb hp
   refine bind_ex (ldI_of (w2.ld (i:=1) rfl rfl)) ?_
   refine bind_ex (ldI_of (w2.ld (i:=0) rfl rfl)) ?_
   refine bif_ex (fun hb=>?_) (fun hb=>?_)
   ·replace hp:=bif_t hb hp
    obtain ⟨w5,s5⟩:=w2.pick' [] 2 rfl rfl rfl
    dsimp only [pk,pks,nth,List.drop] at w5 s5
    obtain rfl:=Option.some.inj hp
    exact ⟨_,_,rfl,rfl,w5,(s0.trans (s1.trans (s2.trans s5))),trivial⟩
   ·replace hp:=bif_f hb hp
    refine bind_ex (ldI_of (w2.ld (i:=1) rfl rfl)) ?_
    refine bind_ex (ldI_of (w2.ld (i:=0) rfl rfl)) ?_
    refine bif_ex (fun hb=>?_) (fun hb=>?_)
    ·replace hp:=bif_t hb hp
     obtain ⟨w6,s6⟩:=w2.pick' [] 2 rfl rfl rfl
     dsimp only [pk,pks,nth,List.drop] at w6 s6
     obtain rfl:=Option.some.inj hp
     exact ⟨_,_,rfl,rfl,w6,(s0.trans (s1.trans (s2.trans s6))),trivial⟩
    ·replace hp:=bif_f hb hp
     refine bind_ex (ldI_of (w2.ld (i:=1) rfl rfl)) ?_
     refine bind_ex (ldI_of (w2.ld (i:=0) rfl rfl)) ?_
     refine bif_ex (fun hb=>?_) (fun hb=>?_)
     ·replace hp:=bif_t hb hp
      obtain ⟨w7,s7⟩:=w2.pick' [] 2 rfl rfl rfl
      dsimp only [pk,pks,nth,List.drop] at w7 s7
      obtain rfl:=Option.some.inj hp
      exact ⟨_,_,rfl,rfl,w7,(s0.trans (s1.trans (s2.trans s7))),trivial⟩
     ·replace hp:=bif_f hb hp
      obtain ⟨w8,s8⟩:=w2.pick' [] 2 rfl rfl rfl
      dsimp only [pk,pks,nth,List.drop] at w8 s8
      obtain rfl:=Option.some.inj hp
      exact ⟨_,_,rfl,rfl,w8,(s0.trans (s1.trans (s2.trans s8))),trivial⟩
def aU.Q (H0:Hp) (Ri R0:List Rs)  (r:Bool) (v:AV) (H':Hp):Prop:=v = (.bool r)∧Out H0 Ri H' (R0) fun R=>True
def aU.S29 (H0:Hp) (Ri R0:List Rs)  (C:Sl→Sl→Int→Hp→OA) (pC:List (Int×Int×Int×Int×Int)→List (Int×Int×Int×Int×Int)→Int→Option (Bool)):Prop:=∀ {eJ jc:ON} {du iv:Nat} {eK jd:Cap} {bg dz:List (Int×Int×Int×Int×Int)} {bS:Int},∀ {H:Hp},du = bg.length→iv = dz.length→(Out H0 Ri H R0 fun R=>ROs (ePair (eInt .i64) (ePair (eInt .i64) (ePair (eInt .i64) (ePair (eInt .i64) (eInt .i64))))) H R ⟨eJ,du,eK⟩ bg∧ROs (ePair (eInt .i64) (ePair (eInt .i64) (ePair (eInt .i64) (ePair (eInt .i64) (eInt .i64))))) H R ⟨jc,iv,jd⟩ dz)→∀ {r:Bool},pC bg dz bS = some r→∃ v H',C ⟨eJ,du,eK⟩ ⟨jc,iv,jd⟩ bS H = some (v,H')∧aU.Q H0 Ri R0  r v H'
def aU.pl29 (F:Nat) :Nat→List (Int×Int×Int×Int×Int)→List (Int×Int×Int×Int×Int)→Int→Option (Bool)
 | 0,_,_,_=>none
 | k + 1,bg,dz,bS=>(bif (decide (bS < (bg.length:Int))) then ((ix bg bS).bind fun n1=>(ix dz bS).bind fun n2=>(bH.p F ((gt bg n1).1) ((gt bg n1).2.1) ((gt bg n1).2.2.1) ((gt bg n1).2.2.2.1) ((gt bg n1).2.2.2.2) ((gt dz n2).1) ((gt dz n2).2.1) ((gt dz n2).2.2.1) ((gt dz n2).2.2.2.1) ((gt dz n2).2.2.2.2)).bind fun r3=>(bif (!r3) then (some false) else (aU.pl29 F k bg dz (IntKind.i64.wrap (bS + 1))))) else (some true))
termination_by structural n=>n
theorem aU.l29_P {F:Nat} {H0:Hp} {Ri R0:List Rs}  :∀ k,aU.S29 H0 Ri R0  (aU.l29 F (bH.tw F)  k) (aU.pl29 F  k):=by
 intro k
 induction k with
 | zero=>
  intro eJ jc du iv eK jd bg dz bS H ft oN h0 r hp
  exact nomatch (show (none:Option (Bool)) = some r from hp)
 | succ k ih=>
  intro eJ jc du iv eK jd bg dz bS H ft oN h0 r hp
  obtain ⟨w0,s0,eL,oO⟩:=h0
  subst ft
  subst oN
  unfold aU.pl29 at hp
  unfold aU.l29
  refine bif_ex (fun hb=>?_) (fun hb=>?_)
  ·replace hp:=bif_t hb hp
   obtain ⟨n1,g1,hp⟩:=bind_some' hp
   obtain ⟨p1,q1,i1,h1,j1⟩:=ROs.ixr eL rfl g1
   refine bind_ex i1 ?_
   obtain ⟨_,_,rfl,rfl,_,_,rfl,rfl,_,_,rfl,rfl,_,_,rfl,rfl,rfl⟩:=h1
   refine bind_ex (ldI_of (j1 0 _ rfl)) ?_
   refine bind_ex (ldI_of (j1 1 _ rfl)) ?_
   refine bind_ex (ldI_of (j1 2 _ rfl)) ?_
   refine bind_ex (ldI_of (j1 3 _ rfl)) ?_
   refine bind_ex (ldI_of (j1 4 _ rfl)) ?_
   obtain ⟨n2,g2,hp⟩:=bind_some' hp
   obtain ⟨p2,q2,i2,h2,j2⟩:=ROs.ixr oO rfl g2
   refine bind_ex i2 ?_
   obtain ⟨_,_,rfl,rfl,_,_,rfl,rfl,_,_,rfl,rfl,_,_,rfl,rfl,rfl⟩:=h2
   refine bind_ex (ldI_of (j2 0 _ rfl)) ?_
   refine bind_ex (ldI_of (j2 1 _ rfl)) ?_
   refine bind_ex (ldI_of (j2 2 _ rfl)) ?_
   refine bind_ex (ldI_of (j2 3 _ rfl)) ?_
   refine bind_ex (ldI_of (j2 4 _ rfl)) ?_
   obtain ⟨r3,e3,hp⟩:=bind_some' hp
   refine call_ex (bH.P ⟨w0,trivial⟩ e3) ?_
   rintro _ H4 ⟨rfl,w4,s4,_⟩
   refine bind_ex rfl ?_
   refine bif_ex (fun hb=>?_) (fun hb=>?_)
   ·replace hp:=bif_t hb hp
    obtain rfl:=Option.some.inj hp
    exact ⟨_,_,rfl,rfl,w4,(s0.trans s4),trivial⟩
   ·replace hp:=bif_f hb hp
    exact ih rfl rfl ⟨w4,(s0.trans s4),(eL.step s4),(oO.step s4)⟩ hp
  ·replace hp:=bif_f hb hp
   obtain rfl:=Option.some.inj hp
   exact ⟨_,_,rfl,rfl,w0,s0,trivial⟩
def aU.p (F:Nat) (ad:List (Int×Int×Int×Int×Int)) (gF:List (Int×Int×Int×Int×Int)):Option (Bool):=(bif ((ad.length:Int) != (gF.length:Int)) then (some false) else (aU.pl29 F F ad gF 0))
theorem aU.P {F:Nat} {av oP:ON} {aj jZ:Nat} {aw oQ:Cap} {ad gF:List (Int×Int×Int×Int×Int)} {H:Hp} {R0:List Rs} (ba:aj = ad.length) (vU:jZ = gF.length) (h0:Inn H R0 fun R=>ROs (ePair (eInt .i64) (ePair (eInt .i64) (ePair (eInt .i64) (ePair (eInt .i64) (eInt .i64))))) H R ⟨av,aj,aw⟩ ad∧ROs (ePair (eInt .i64) (ePair (eInt .i64) (ePair (eInt .i64) (ePair (eInt .i64) (eInt .i64))))) H R ⟨oP,jZ,oQ⟩ gF) {r:Bool} (hp:aU.p F ad gF = some r):∃ v H',aU.tw F ⟨av,aj,aw⟩ ⟨oP,jZ,oQ⟩ H = some (v,H')∧aU.Q H R0 R0  r v H':=by
 obtain ⟨w0,aL,vV⟩:=h0
 subst ba
 subst vU
 unfold aU.p at hp
 unfold aU.tw aU.twX
 have s0:=w0.rf
 refine bif_ex (fun hb=>?_) (fun hb=>?_)
 ·replace hp:=bif_t hb hp
  obtain rfl:=Option.some.inj hp
  exact ⟨_,_,rfl,rfl,w0,s0,trivial⟩
 ·replace hp:=bif_f hb hp
  exact aU.l29_P F rfl rfl ⟨w0,s0,aL,vV⟩ hp
def bC.Q (H0:Hp) (Ri R0:List Rs)  (r:Bool) (v:AV) (H':Hp):Prop:=v = (.bool r)∧Out H0 Ri H' (R0) fun R=>True
def bC.p (F:Nat) (ad:List (Int×Int×Int×Int×Int)) (ab:Int) (bX:List (Int×Int×Int×Int×Int)) (bb:Int):Option (Bool):=(aU.p F ad bX).bind fun r3=>(bif (!r3) then (some false) else ((bif (ab != bb) then (some false) else (some true))))
theorem bC.P {F:Nat} {av fu:ON} {aj dv:Nat} {aw fv:Cap} {ad bX:List (Int×Int×Int×Int×Int)} {ab bb:Int} {H:Hp} {R0:List Rs} (ba:aj = ad.length) (il:dv = bX.length) (h0:Inn H R0 fun R=>ROs (ePair (eInt .i64) (ePair (eInt .i64) (ePair (eInt .i64) (ePair (eInt .i64) (eInt .i64))))) H R ⟨av,aj,aw⟩ ad∧ROs (ePair (eInt .i64) (ePair (eInt .i64) (ePair (eInt .i64) (ePair (eInt .i64) (eInt .i64))))) H R ⟨fu,dv,fv⟩ bX) {r:Bool} (hp:bC.p F ad ab bX bb = some r):∃ v H',bC.tw F ⟨av,aj,aw⟩ ab ⟨fu,dv,fv⟩ bb H = some (v,H')∧bC.Q H R0 R0  r v H':=by
 obtain ⟨w0,aL,gC⟩:=h0
 subst ba
 subst il
 unfold bC.p at hp
 unfold bC.tw bC.twX
 have s0:=w0.rf
 refine new_k w0 fun H1 w1 s1=>?_
 refine new_k w1 fun H2 w2 s2=>?_
 refine bind_ex (ldSl_of (w2.ld (i:=1) rfl rfl)) ?_
 refine bind_ex (ldSl_of (w2.ld (i:=0) rfl rfl)) ?_
 obtain ⟨r3,e3,hp⟩:=bind_some' hp
 refine call_ex (aU.P rfl rfl ⟨w2,(aL.step (s1.trans s2)),(gC.step (s1.trans s2))⟩ e3) ?_
 rintro _ H4 ⟨rfl,w4,s4,_⟩
 refine bind_ex rfl ?_
 refine bif_ex (fun hb=>?_) (fun hb=>?_)
 ·replace hp:=bif_t hb hp
  obtain ⟨w5,s5⟩:=w4.pick' [] 2 rfl rfl rfl
  dsimp only [pk,pks,nth,List.drop] at w5 s5
  obtain rfl:=Option.some.inj hp
  exact ⟨_,_,rfl,rfl,w5,(s0.trans (s1.trans (s2.trans (s4.trans s5)))),trivial⟩
 ·replace hp:=bif_f hb hp
  refine bind_ex (ldI_of (w4.ld (i:=1) rfl rfl)) ?_
  refine bind_ex (ldI_of (w4.ld (i:=0) rfl rfl)) ?_
  refine bif_ex (fun hb=>?_) (fun hb=>?_)
  ·replace hp:=bif_t hb hp
   obtain ⟨w6,s6⟩:=w4.pick' [] 2 rfl rfl rfl
   dsimp only [pk,pks,nth,List.drop] at w6 s6
   obtain rfl:=Option.some.inj hp
   exact ⟨_,_,rfl,rfl,w6,(s0.trans (s1.trans (s2.trans (s4.trans s6)))),trivial⟩
  ·replace hp:=bif_f hb hp
   obtain ⟨w7,s7⟩:=w4.pick' [] 2 rfl rfl rfl
   dsimp only [pk,pks,nth,List.drop] at w7 s7
   obtain rfl:=Option.some.inj hp
   exact ⟨_,_,rfl,rfl,w7,(s0.trans (s1.trans (s2.trans (s4.trans s7)))),trivial⟩
def aV.Q (H0:Hp) (Ri R0:List Rs) (av:ON) (aj:Nat) (aw:Cap) (dw:Bool) (dx dy:List AV) (r:Int×(List (Int×Int×Int×Int×Int))) (v:AV) (H':Hp):Prop:=∃ ip:List AV,v = (.int .i64 r.1)∧aj = (r.2).length∧Out H0 Ri H' (Rs.ow dw ⟨av,aj,aw⟩ (ePair (eInt .i64) (ePair (eInt .i64) (ePair (eInt .i64) (ePair (eInt .i64) (eInt .i64))))).z dx ip dy :: R0) fun R=>CR (ePair (eInt .i64) (ePair (eInt .i64) (ePair (eInt .i64) (ePair (eInt .i64) (eInt .i64))))) H' R ip (r.2)
def aV.S13 (H0:Hp) (Ri R0:List Rs) (dg:ON) (cI:Nat) (dh:Cap) (e_:Bool) (fa fb:List AV) (C:Sl→Int→Int→Hp→OA) (pC:List (Int×Int×Int×Int×Int)→Int→Int→Option (Int×(List (Int×Int×Int×Int×Int)))):Prop:=∀ {bg:List (Int×Int×Int×Int×Int)} {je:List AV} {aK bo:Int},∀ {H:Hp},cI = bg.length→(Out H0 Ri H (Rs.ow e_ ⟨dg,cI,dh⟩ (ePair (eInt .i64) (ePair (eInt .i64) (ePair (eInt .i64) (ePair (eInt .i64) (eInt .i64))))).z fa je fb :: R0) fun R=>CR (ePair (eInt .i64) (ePair (eInt .i64) (ePair (eInt .i64) (ePair (eInt .i64) (eInt .i64))))) H R je bg)→∀ {r:Int×(List (Int×Int×Int×Int×Int))},pC bg aK bo = some r→∃ v H',C ⟨dg,cI,dh⟩ aK bo H = some (v,H')∧aV.Q H0 Ri R0 dg cI dh e_ fa fb r v H'
def aV.pl13 (F:Nat) :Nat→List (Int×Int×Int×Int×Int)→Int→Int→Option (Int×(List (Int×Int×Int×Int×Int)))
 | 0,_,_,_=>none
 | k + 1,bg,aK,bo=>(bif (decide (bo < (bg.length:Int))) then ((ix bg bo).bind fun n1=>(some (bg.set n1 (aK,(gt bg n1).2.1,(gt bg n1).2.2.1,(gt bg n1).2.2.2.1,(gt bg n1).2.2.2.2))).bind fun l2=>(ix l2 bo).bind fun n4=>(some (l2.set n4 ((gt l2 n4).1,(IntKind.i64.wrap (aK + 1)),(gt l2 n4).2.2.1,(gt l2 n4).2.2.2.1,(gt l2 n4).2.2.2.2))).bind fun l5=>(ix l5 bo).bind fun n7=>(some (l5.set n7 ((gt l5 n7).1,(gt l5 n7).2.1,(IntKind.i64.wrap ((IntKind.i64.wrap (aK + 1)) + 1)),(gt l5 n7).2.2.2.1,(gt l5 n7).2.2.2.2))).bind fun l8=>(ix l8 bo).bind fun n10=>(some (l8.set n10 ((gt l8 n10).1,(gt l8 n10).2.1,(gt l8 n10).2.2.1,(IntKind.i64.wrap ((IntKind.i64.wrap ((IntKind.i64.wrap (aK + 1)) + 1)) + 1)),(gt l8 n10).2.2.2.2))).bind fun l11=>(ix l11 bo).bind fun n13=>(some (l11.set n13 ((gt l11 n13).1,(gt l11 n13).2.1,(gt l11 n13).2.2.1,(gt l11 n13).2.2.2.1,(IntKind.i64.wrap ((IntKind.i64.wrap ((IntKind.i64.wrap ((IntKind.i64.wrap (aK + 1)) + 1)) + 1)) + 1))))).bind fun l14=>aV.pl13 F k l14 (IntKind.i64.wrap ((IntKind.i64.wrap ((IntKind.i64.wrap ((IntKind.i64.wrap ((IntKind.i64.wrap (aK + 1)) + 1)) + 1)) + 1)) + 1)) (IntKind.i64.wrap (bo + 1))) else (some (aK,bg)))
termination_by structural n=>n
theorem aV.l13_P {F:Nat} {H0:Hp} {Ri R0:List Rs} {dg:ON} {cI:Nat} {dh:Cap} {e_:Bool} {fa fb:List AV} :∀ k,aV.S13 H0 Ri R0 dg cI dh e_ fa fb (aV.l13 F   k) (aV.pl13 F  k):=by
 intro k
 induction k with
 | zero=>
  intro bg je aK bo H ft h0 r hp
  exact nomatch (show (none:Option (Int×(List (Int×Int×Int×Int×Int)))) = some r from hp)
 | succ k ih=>
  intro bg je aK bo H ft h0 r hp
  obtain ⟨w0,s0,eL⟩:=h0
  subst ft
  unfold aV.pl13 at hp
  unfold aV.l13
  refine bif_ex (fun hb=>?_) (fun hb=>?_)
  ·replace hp:=bif_t hb hp
   obtain ⟨n1,g1,hp⟩:=bind_some' hp
   obtain ⟨p1,q1,i1,h1,j1⟩:=W.ixo (E:=(ePair (eInt .i64) (ePair (eInt .i64) (ePair (eInt .i64) (ePair (eInt .i64) (eInt .i64)))))) w0 (i:=0) rfl rfl eL g1
   refine bind_ex i1 ?_
   obtain ⟨l2,e2,hp⟩:=bind_some' hp
   refine sto_k (ePair (eInt .i64) (ePair (eInt .i64) (ePair (eInt .i64) (ePair (eInt .i64) (eInt .i64))))) w0 (i:=0) (j:=0) (p:=p1) rfl rfl eL g1 i1 e2 rfl rfl (fun _ h=>by obtain ⟨_,_,rfl,rfl,_,_,rfl,rfl,_,_,rfl,rfl,_,_,rfl,rfl,rfl⟩:=h; exact ⟨[_],_,rfl,rfl,[_],_,rfl,rfl,[_],_,rfl,rfl,[_],_,rfl,rfl,rfl⟩) fun H3 k3 w3 s3 c3=>?_
   dsimp only [List.set] at w3 s3 c3
   obtain ⟨n4,g4,hp⟩:=bind_some' hp
   obtain ⟨p4,q4,i4,h4,j4⟩:=W.ixo (E:=(ePair (eInt .i64) (ePair (eInt .i64) (ePair (eInt .i64) (ePair (eInt .i64) (eInt .i64)))))) w3 (i:=0) rfl rfl c3 g4
   refine bind_ex i4 ?_
   obtain ⟨l5,e5,hp⟩:=bind_some' hp
   refine sto_k (ePair (eInt .i64) (ePair (eInt .i64) (ePair (eInt .i64) (ePair (eInt .i64) (eInt .i64))))) w3 (i:=0) (j:=1) (p:=p4) rfl rfl c3 g4 i4 e5 rfl rfl (fun _ h=>by obtain ⟨_,_,rfl,rfl,_,_,rfl,rfl,_,_,rfl,rfl,_,_,rfl,rfl,rfl⟩:=h; exact ⟨[_],_,rfl,rfl,[_],_,rfl,rfl,[_],_,rfl,rfl,[_],_,rfl,rfl,rfl⟩) fun H6 k6 w6 s6 c6=>?_
   dsimp only [List.set] at w6 s6 c6
   obtain ⟨n7,g7,hp⟩:=bind_some' hp
   obtain ⟨p7,q7,i7,h7,j7⟩:=W.ixo (E:=(ePair (eInt .i64) (ePair (eInt .i64) (ePair (eInt .i64) (ePair (eInt .i64) (eInt .i64)))))) w6 (i:=0) rfl rfl c6 g7
   refine bind_ex i7 ?_
   obtain ⟨l8,e8,hp⟩:=bind_some' hp
   refine sto_k (ePair (eInt .i64) (ePair (eInt .i64) (ePair (eInt .i64) (ePair (eInt .i64) (eInt .i64))))) w6 (i:=0) (j:=2) (p:=p7) rfl rfl c6 g7 i7 e8 rfl rfl (fun _ h=>by obtain ⟨_,_,rfl,rfl,_,_,rfl,rfl,_,_,rfl,rfl,_,_,rfl,rfl,rfl⟩:=h; exact ⟨[_],_,rfl,rfl,[_],_,rfl,rfl,[_],_,rfl,rfl,[_],_,rfl,rfl,rfl⟩) fun H9 k9 w9 s9 c9=>?_
   dsimp only [List.set] at w9 s9 c9
   obtain ⟨n10,g10,hp⟩:=bind_some' hp
   obtain ⟨p10,q10,i10,h10,j10⟩:=W.ixo (E:=(ePair (eInt .i64) (ePair (eInt .i64) (ePair (eInt .i64) (ePair (eInt .i64) (eInt .i64)))))) w9 (i:=0) rfl rfl c9 g10
   refine bind_ex i10 ?_
   obtain ⟨l11,e11,hp⟩:=bind_some' hp
   refine sto_k (ePair (eInt .i64) (ePair (eInt .i64) (ePair (eInt .i64) (ePair (eInt .i64) (eInt .i64))))) w9 (i:=0) (j:=3) (p:=p10) rfl rfl c9 g10 i10 e11 rfl rfl (fun _ h=>by obtain ⟨_,_,rfl,rfl,_,_,rfl,rfl,_,_,rfl,rfl,_,_,rfl,rfl,rfl⟩:=h; exact ⟨[_],_,rfl,rfl,[_],_,rfl,rfl,[_],_,rfl,rfl,[_],_,rfl,rfl,rfl⟩) fun H12 k12 w12 s12 c12=>?_
   dsimp only [List.set] at w12 s12 c12
   obtain ⟨n13,g13,hp⟩:=bind_some' hp
   obtain ⟨p13,q13,i13,h13,j13⟩:=W.ixo (E:=(ePair (eInt .i64) (ePair (eInt .i64) (ePair (eInt .i64) (ePair (eInt .i64) (eInt .i64)))))) w12 (i:=0) rfl rfl c12 g13
   refine bind_ex i13 ?_
   obtain ⟨l14,e14,hp⟩:=bind_some' hp
   refine sto_k (ePair (eInt .i64) (ePair (eInt .i64) (ePair (eInt .i64) (ePair (eInt .i64) (eInt .i64))))) w12 (i:=0) (j:=4) (p:=p13) rfl rfl c12 g13 i13 e14 rfl rfl (fun _ h=>by obtain ⟨_,_,rfl,rfl,_,_,rfl,rfl,_,_,rfl,rfl,_,_,rfl,rfl,rfl⟩:=h; exact ⟨[_],_,rfl,rfl,[_],_,rfl,rfl,[_],_,rfl,rfl,[_],_,rfl,rfl,rfl⟩) fun H15 k15 w15 s15 c15=>?_
   dsimp only [List.set] at w15 s15 c15
   exact ih (((((st_len e2).symm.trans (st_len e5).symm).trans (st_len e8).symm).trans (st_len e11).symm).trans (st_len e14).symm) ⟨w15,(s0.trans (s3.trans (s6.trans (s9.trans (s12.trans s15))))),c15⟩ hp
  ·replace hp:=bif_f hb hp
   obtain rfl:=Option.some.inj hp
   exact ⟨_,_,rfl,_,rfl,rfl,w0,s0,eL⟩
def aV.p (F:Nat) (ad:List (Int×Int×Int×Int×Int)) (ae:Int):Option (Int×(List (Int×Int×Int×Int×Int))):=aV.pl13 F F ad ae 0
theorem aV.P {F:Nat} {av:ON} {aj:Nat} {aw:Cap} {ad:List (Int×Int×Int×Int×Int)} {dw:Bool} {dx dy fM:List AV} {ae:Int} {H:Hp} {R0:List Rs} (ba:aj = ad.length) (h0:Inn H (Rs.ow dw ⟨av,aj,aw⟩ (ePair (eInt .i64) (ePair (eInt .i64) (ePair (eInt .i64) (ePair (eInt .i64) (eInt .i64))))).z dx fM dy :: R0) fun R=>CR (ePair (eInt .i64) (ePair (eInt .i64) (ePair (eInt .i64) (ePair (eInt .i64) (eInt .i64))))) H R fM ad) {r:Int×(List (Int×Int×Int×Int×Int))} (hp:aV.p F ad ae = some r):∃ v H',aV.tw F ⟨av,aj,aw⟩ ae H = some (v,H')∧aV.Q H (Rs.ow dw ⟨av,aj,aw⟩ (ePair (eInt .i64) (ePair (eInt .i64) (ePair (eInt .i64) (ePair (eInt .i64) (eInt .i64))))).z dx fM dy :: R0) R0 av aj aw dw dx dy r v H':=by
 obtain ⟨w0,aL⟩:=h0
 subst ba
 unfold aV.p at hp
 unfold aV.tw aV.twX
 have s0:=w0.rf
 exact aV.l13_P F rfl ⟨w0,s0,aL⟩ hp
def bD.Q (H0:Hp) (Ri R0:List Rs) (av:ON) (aj:Nat) (aw:Cap) (dw:Bool) (dx dy:List AV) (r:Int×(List (Int×Int×Int×Int×Int))) (v:AV) (H':Hp):Prop:=∃ ip:List AV,v = (.int .i64 r.1)∧aj = (r.2).length∧Out H0 Ri H' (Rs.ow dw ⟨av,aj,aw⟩ (ePair (eInt .i64) (ePair (eInt .i64) (ePair (eInt .i64) (ePair (eInt .i64) (eInt .i64))))).z dx ip dy :: R0) fun R=>CR (ePair (eInt .i64) (ePair (eInt .i64) (ePair (eInt .i64) (ePair (eInt .i64) (eInt .i64))))) H' R ip (r.2)
def bD.p (F:Nat) (ad:List (Int×Int×Int×Int×Int)) (aq:Int):Option (Int×(List (Int×Int×Int×Int×Int))):=(aV.p F ad aq).bind fun r3=>some (r3.1,r3.2)
theorem bD.P {F:Nat} {av:ON} {aj:Nat} {aw:Cap} {ad:List (Int×Int×Int×Int×Int)} {dw:Bool} {dx dy fM:List AV} {ab aq:Int} {H:Hp} {R0:List Rs} (ba:aj = ad.length) (h0:Inn H (Rs.ow dw ⟨av,aj,aw⟩ (ePair (eInt .i64) (ePair (eInt .i64) (ePair (eInt .i64) (ePair (eInt .i64) (eInt .i64))))).z dx fM dy :: R0) fun R=>CR (ePair (eInt .i64) (ePair (eInt .i64) (ePair (eInt .i64) (ePair (eInt .i64) (eInt .i64))))) H R fM ad) {r:Int×(List (Int×Int×Int×Int×Int))} (hp:bD.p F ad aq = some r):∃ v H',bD.tw F ⟨av,aj,aw⟩ ab aq H = some (v,H')∧bD.Q H (Rs.ow dw ⟨av,aj,aw⟩ (ePair (eInt .i64) (ePair (eInt .i64) (ePair (eInt .i64) (ePair (eInt .i64) (eInt .i64))))).z dx fM dy :: R0) R0 av aj aw dw dx dy r v H':=by
 obtain ⟨w0,aL⟩:=h0
 subst ba
 unfold bD.p at hp
 unfold bD.tw bD.twX
 have s0:=w0.rf
 refine new_k w0 fun H1 w1 s1=>?_
 refine bind_ex (ldSl_of (w1.ld (i:=0) rfl rfl)) ?_
 obtain ⟨w2,s2⟩:=w1.pick' [1,0] 2 rfl rfl rfl
 dsimp only [pk,pks,nth,List.drop] at w2 s2
 obtain ⟨r3,e3,hp⟩:=bind_some' hp
 refine call_ex (aV.P rfl ⟨w2,(aL.step (s1.trans s2))⟩ e3) ?_
 rintro _ H4 ⟨HP,rfl,hl4_0,w4,s4,f4_0⟩
 refine bind_ex rfl ?_
 obtain ⟨w5,s5⟩:=w4.pick' [0] 2 rfl rfl rfl
 dsimp only [pk,pks,nth,List.drop] at w5 s5
 obtain rfl:=Option.some.inj hp
 exact ⟨_,_,rfl,_,rfl,hl4_0,w5,(s0.trans (s1.trans (s2.trans (s4.trans s5)))),(f4_0.step s5)⟩
def aW.Q (H0:Hp) (Ri R0:List Rs) (av:ON) (aj:Nat) (aw:Cap) (dw:Bool) (dx dy:List AV) (r:Int×List Int) (v:AV) (H':Hp):Prop:=∃ ip:List AV,v = (.int .i64 r.1)∧aj = (r.2).length∧Out H0 Ri H' (Rs.ow dw ⟨av,aj,aw⟩ (eInt .i64).z dx ip dy :: R0) fun R=>CR (eInt .i64) H' R ip (r.2)
def aW.S13 (H0:Hp) (Ri R0:List Rs) (dg:ON) (cI:Nat) (dh:Cap) (e_:Bool) (fa fb:List AV) (C:Sl→Int→Int→Hp→OA) (pC:List Int→Int→Int→Option (Int×List Int)):Prop:=∀ {bg:List Int} {je:List AV} {aK bo:Int},∀ {H:Hp},cI = bg.length→(Out H0 Ri H (Rs.ow e_ ⟨dg,cI,dh⟩ (eInt .i64).z fa je fb :: R0) fun R=>CR (eInt .i64) H R je bg)→∀ {r:Int×List Int},pC bg aK bo = some r→∃ v H',C ⟨dg,cI,dh⟩ aK bo H = some (v,H')∧aW.Q H0 Ri R0 dg cI dh e_ fa fb r v H'
def aW.pl13 (F:Nat) :Nat→List Int→Int→Int→Option (Int×List Int)
 | 0,_,_,_=>none
 | k + 1,bg,aK,bo=>(bif (decide (bo < (bg.length:Int))) then ((ix bg bo).bind fun n1=>(some (bg.set n1 aK)).bind fun l2=>aW.pl13 F k l2 (IntKind.i64.wrap (aK + 1)) (IntKind.i64.wrap (bo + 1))) else (some (aK,bg)))
termination_by structural n=>n
theorem aW.l13_P {F:Nat} {H0:Hp} {Ri R0:List Rs} {dg:ON} {cI:Nat} {dh:Cap} {e_:Bool} {fa fb:List AV} :∀ k,aW.S13 H0 Ri R0 dg cI dh e_ fa fb (aW.l13 F   k) (aW.pl13 F  k):=by
 intro k
 induction k with
 | zero=>
  intro bg je aK bo H ft h0 r hp
  exact nomatch (show (none:Option (Int×List Int)) = some r from hp)
 | succ k ih=>
  intro bg je aK bo H ft h0 r hp
  obtain ⟨w0,s0,eL⟩:=h0
  subst ft
  unfold aW.pl13 at hp
  unfold aW.l13
  refine bif_ex (fun hb=>?_) (fun hb=>?_)
  ·replace hp:=bif_t hb hp
   obtain ⟨n1,g1,hp⟩:=bind_some' hp
   obtain ⟨p1,q1,i1,h1,j1⟩:=W.ixo (E:=(eInt .i64)) w0 (i:=0) rfl rfl eL g1
   refine bind_ex i1 ?_
   obtain ⟨l2,e2,hp⟩:=bind_some' hp
   refine sto_k (eInt .i64) w0 (i:=0) (j:=0) (p:=p1) rfl rfl eL g1 i1 e2 rfl rfl (fun _ h=>by have h:_ = [_]:=h; subst h; exact rfl) fun H3 k3 w3 s3 c3=>?_
   dsimp only [List.set] at w3 s3 c3
   exact ih ((st_len e2).symm) ⟨w3,(s0.trans s3),c3⟩ hp
  ·replace hp:=bif_f hb hp
   obtain rfl:=Option.some.inj hp
   exact ⟨_,_,rfl,_,rfl,rfl,w0,s0,eL⟩
def aW.p (F:Nat) (ad:List Int) (ae:Int):Option (Int×List Int):=aW.pl13 F F ad ae 0
theorem aW.P {F:Nat} {av:ON} {aj:Nat} {aw:Cap} {ad:List Int} {dw:Bool} {dx dy fM:List AV} {ae:Int} {H:Hp} {R0:List Rs} (ba:aj = ad.length) (h0:Inn H (Rs.ow dw ⟨av,aj,aw⟩ (eInt .i64).z dx fM dy :: R0) fun R=>CR (eInt .i64) H R fM ad) {r:Int×List Int} (hp:aW.p F ad ae = some r):∃ v H',aW.tw F ⟨av,aj,aw⟩ ae H = some (v,H')∧aW.Q H (Rs.ow dw ⟨av,aj,aw⟩ (eInt .i64).z dx fM dy :: R0) R0 av aj aw dw dx dy r v H':=by
 obtain ⟨w0,aL⟩:=h0
 subst ba
 unfold aW.p at hp
 unfold aW.tw aW.twX
 have s0:=w0.rf
 exact aW.l13_P F rfl ⟨w0,s0,aL⟩ hp
def aN.Q (H0:Hp) (Ri R0:List Rs)  (r:Int) (v:AV) (H':Hp):Prop:=v = (.int .i64 r)∧Out H0 Ri H' (R0) fun R=>True
def aN.S13 (H0:Hp) (Ri R0:List Rs)  (C:Sl→Int→Int→Hp→OA) (pC:List Int→Int→Int→Option (Int)):Prop:=∀ {eJ:ON} {du:Nat} {eK:Cap} {bg:List Int} {aK bo:Int},∀ {H:Hp},du = bg.length→(Out H0 Ri H R0 fun R=>ROs (eInt .i64) H R ⟨eJ,du,eK⟩ bg)→∀ {r:Int},pC bg aK bo = some r→∃ v H',C ⟨eJ,du,eK⟩ aK bo H = some (v,H')∧aN.Q H0 Ri R0  r v H'
def aN.pl13 (F:Nat) :Nat→List Int→Int→Int→Option (Int)
 | 0,_,_,_=>none
 | k + 1,bg,aK,bo=>(bif (decide (bo < (bg.length:Int))) then ((ix bg bo).bind fun n1=>(bif ((gt bg n1) != aK) then (some (-1)) else (aN.pl13 F k bg (IntKind.i64.wrap (aK + 1)) (IntKind.i64.wrap (bo + 1))))) else (some aK))
termination_by structural n=>n
theorem aN.l13_P {F:Nat} {H0:Hp} {Ri R0:List Rs}  :∀ k,aN.S13 H0 Ri R0  (aN.l13 F   k) (aN.pl13 F  k):=by
 intro k
 induction k with
 | zero=>
  intro eJ du eK bg aK bo H ft h0 r hp
  exact nomatch (show (none:Option (Int)) = some r from hp)
 | succ k ih=>
  intro eJ du eK bg aK bo H ft h0 r hp
  obtain ⟨w0,s0,eL⟩:=h0
  subst ft
  unfold aN.pl13 at hp
  unfold aN.l13
  refine bif_ex (fun hb=>?_) (fun hb=>?_)
  ·replace hp:=bif_t hb hp
   obtain ⟨n1,g1,hp⟩:=bind_some' hp
   obtain ⟨p1,q1,i1,h1,j1⟩:=ROs.ixr eL rfl g1
   refine bind_ex i1 ?_
   have h1:_ = [_]:=h1
   subst h1
   refine bind_ex (ldI_of (j1 0 _ rfl)) ?_
   refine bif_ex (fun hb=>?_) (fun hb=>?_)
   ·replace hp:=bif_t hb hp
    obtain rfl:=Option.some.inj hp
    exact ⟨_,_,rfl,rfl,w0,s0,trivial⟩
   ·replace hp:=bif_f hb hp
    exact ih rfl ⟨w0,s0,eL⟩ hp
  ·replace hp:=bif_f hb hp
   obtain rfl:=Option.some.inj hp
   exact ⟨_,_,rfl,rfl,w0,s0,trivial⟩
def aN.p (F:Nat) (ad:List Int) (ae:Int):Option (Int):=aN.pl13 F F ad ae 0
theorem aN.P {F:Nat} {av:ON} {aj:Nat} {aw:Cap} {ad:List Int} {ae:Int} {H:Hp} {R0:List Rs} (ba:aj = ad.length) (h0:Inn H R0 fun R=>ROs (eInt .i64) H R ⟨av,aj,aw⟩ ad) {r:Int} (hp:aN.p F ad ae = some r):∃ v H',aN.tw F ⟨av,aj,aw⟩ ae H = some (v,H')∧aN.Q H R0 R0  r v H':=by
 obtain ⟨w0,aL⟩:=h0
 subst ba
 unfold aN.p at hp
 unfold aN.tw aN.twX
 have s0:=w0.rf
 exact aN.l13_P F rfl ⟨w0,s0,aL⟩ hp
def bM.Q (H0:Hp) (Ri R0:List Rs)  (r:Bool) (v:AV) (H':Hp):Prop:=v = (.bool r)∧Out H0 Ri H' (R0) fun R=>True
def bM.p (F:Nat) (ad:List (Int×Int×Int×Int×Int)) (ab:Int):Option (Bool):=(bw.p F ad 1048576).bind fun r2=>(bif (decide (r2 < 0)) then (some true) else ((bp.p F ad ab).bind fun r5=>(bA.p F r5.1 r5.2).bind fun r8=>(bp.p F ad ab).bind fun r11=>(bx.p F r11.1 r11.2).bind fun r18=>(aM.p F r18.1 r8.1).bind fun r24=>(bif (!r24) then (some false) else ((bif (!(r18.2 == r8.2)) then (some false) else ((bp.p F ad ab).bind fun r30=>(bC.p F r11.1 r11.2 r30.1 r30.2).bind fun r36=>(bif (!r36) then (some false) else ((bD.p F r11.1 1).bind fun r41=>(bif (decide (r41.1 < 0)) then (some false) else ((aM.p F r18.1 r8.1).bind fun r47=>(bif (!r47) then (some false) else ((bif (!(r18.2 == r8.2)) then (some false) else ((aW.p F r18.1 1).bind fun r53=>(aN.p F r53.2 1).bind fun r56=>(bif (decide (r56 < 0)) then (some false) else ((bif (r56 != r53.1) then (some false) else ((bp.p F ad ab).bind fun r61=>(bx.p F r61.1 r61.2).bind fun r64=>(aM.p F r64.1 r8.1).bind fun r70=>(bif (!r70) then (some false) else ((bif (!(r64.2 == r8.2)) then (some false) else ((aN.p F r53.2 1).bind fun r78=>(bif (decide (r78 < 0)) then (some false) else ((bif (r78 != r53.1) then (some false) else (some true))))))))))))))))))))))))))
end Go.Proofs.Ythfinhmkgdmelaa.AE
