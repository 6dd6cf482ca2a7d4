import Derived.Test.YthfinhmkgdmelaaT2
import Derived.Test.YthfinhmkgdmelaaE2
set_option linter.unusedVariables false
set_option linter.unusedSimpArgs false
namespace Go.Proofs.Ythfinhmkgdmelaa.AE
open Go Go.AE Go.Proofs
set_option linter.unusedVariables false
set_option maxHeartbeats 4000000
set_option maxRecDepth 100000
theorem bO.inl {F:Nat} {aa:Int} {ab:Int} {ah:Sl} {ar:Int} {bb:Int} {H:Hp} {K:AV×Hp→OA} {Q:AV→Hp→Prop} (h:∃ u H1,((Hp.new H [(.int .i64 aa),(.int .i64 ab),(.sl ah)]).bind fun H6=>(Hp.ldSl H6 H.length 2).bind fun s7=>(Hp.ldI H6 .i64 H.length 1).bind fun n8=>(Sl.idx s7 (IntKind.i64.wrap ((IntKind.i64.wrap (ar * n8)) + bb)) 1).bind fun p9=>some ((.ptr p9.1 p9.2),H6)) = some (u,H1)∧∃ v H',K (u,H1) = some (v,H')∧Q v H'):∃ v H',(bO.tw F aa ab ah ar bb H).bind K = some (v,H')∧Q v H':=inl_ex h
def bC.Q (H0:Hp) (Ri R0:List Rs)  (r:Int) (v:AV) (H':Hp):Prop:=v = (.int .i64 r)∧Out H0 Ri H' (R0) fun R=>True
def bC.p (F:Nat) (ac:List (Int×Int×Int×Int×Int)) (ad:Int):Option (Int):=(bif (decide ((IntKind.i64.wrap (ad - (ac.length:Int))) < 0)) then (some (-1)) else (some (IntKind.i64.wrap (ad - (ac.length:Int)))))
theorem bC.P {F:Nat} {av:ON} {aj:Nat} {aw:Cap} {ac:List (Int×Int×Int×Int×Int)} {ad:Int} {H:Hp} {R0:List Rs} (ba:aj = ac.length) (h0:Inn H R0 fun R=>ROs (ePair (eInt .i64) (ePair (eInt .i64) (ePair (eInt .i64) (ePair (eInt .i64) (eInt .i64))))) H R ⟨av,aj,aw⟩ ac) {r:Int} (hp:bC.p F ac ad = some r):∃ v H',bC.tw F ⟨av,aj,aw⟩ ad H = some (v,H')∧bC.Q H R0 R0  r v H':=by
 obtain ⟨w0,aH⟩:=h0
 subst ba
 unfold bC.p at hp
 unfold bC.tw bC.twX
 have s0:=w0.rf
 refine bif_ex (fun hb=>?_) (fun hb=>?_)
 ·replace hp:=bif_t hb hp
  obtain rfl:=Option.some.inj hp
  exact ⟨_,_,rfl,rfl,w0,s0,trivial⟩
 ·replace hp:=bif_f hb hp
  obtain rfl:=Option.some.inj hp
  exact ⟨_,_,rfl,rfl,w0,s0,trivial⟩
def bs.Q (H0:Hp) (Ri R0:List Rs)  (r:Int) (v:AV) (H':Hp):Prop:=v = (.int .i64 r)∧Out H0 Ri H' (R0) fun R=>True
def bs.p (F:Nat) (ac:List (Int×Int×Int×Int×Int)) (af:Int):Option (Int):=(bC.p F ac af).bind fun r2=>(bif (decide (r2 < 0)) then (some (-1)) else (some r2))
theorem bs.P {F:Nat} {av:ON} {aj:Nat} {aw:Cap} {ac:List (Int×Int×Int×Int×Int)} {ab af:Int} {H:Hp} {R0:List Rs} (ba:aj = ac.length) (h0:Inn H R0 fun R=>ROs (ePair (eInt .i64) (ePair (eInt .i64) (ePair (eInt .i64) (ePair (eInt .i64) (eInt .i64))))) H R ⟨av,aj,aw⟩ ac) {r:Int} (hp:bs.p F ac af = some r):∃ v H',bs.tw F ⟨av,aj,aw⟩ ab af H = some (v,H')∧bs.Q H R0 R0  r v H':=by
 obtain ⟨w0,aH⟩:=h0
 subst ba
 unfold bs.p at hp
 unfold bs.tw bs.twX
 have s0:=w0.rf
 refine new_k w0 fun H1 w1 s1=>?_
 refine bind_ex (ldSl_of (w1.ld (i:=0) rfl rfl)) ?_
 obtain ⟨r2,e2,hp⟩:=bind_some' hp
 refine call_ex (bC.P rfl ⟨w1,(aH.step s1)⟩ e2) ?_
 rintro _ H3 ⟨rfl,w3,s3,_⟩
 refine bind_ex rfl ?_
 refine bif_ex (fun hb=>?_) (fun hb=>?_)
 ·replace hp:=bif_t hb hp
  obtain ⟨w4,s4⟩:=w3.pick' [] 1 rfl rfl rfl
  dsimp only [pk,pks,nth,List.drop] at w4 s4
  obtain rfl:=Option.some.inj hp
  exact ⟨_,_,rfl,rfl,w4,(s0.trans (s1.trans (s3.trans s4))),trivial⟩
 ·replace hp:=bif_f hb hp
  obtain ⟨w5,s5⟩:=w3.pick' [] 1 rfl rfl rfl
  dsimp only [pk,pks,nth,List.drop] at w5 s5
  obtain rfl:=Option.some.inj hp
  exact ⟨_,_,rfl,rfl,w5,(s0.trans (s1.trans (s3.trans s5))),trivial⟩
def bD.Q (H0:Hp) (Ri R0:List Rs)  (r:Int×Int×Int×Int×Int) (v:AV) (H':Hp):Prop:=v = (.agg [(.int .i64 r.1),(.int .i64 r.2.1),(.int .i64 r.2.2.1),(.int .i64 r.2.2.2.1),(.int .i64 r.2.2.2.2)])∧Out H0 Ri H' (R0) fun R=>True
def bD.p (F:Nat) (aa:Int) (ab:Int) (ah:Int) (az:Int) (ax:Int):Option (Int×Int×Int×Int×Int):=some (aa,ab,ah,az,ax)
theorem bD.P {F:Nat} {aa ab ah az ax:Int} {H:Hp} {R0:List Rs}  (h0:Inn H R0 fun R=>True) {r:Int×Int×Int×Int×Int} (hp:bD.p F aa ab ah az ax = some r):∃ v H',bD.tw F aa ab ah az ax H = some (v,H')∧bD.Q H R0 R0  r v H':=by
 obtain ⟨w0,_⟩:=h0
 unfold bD.p at hp
 unfold bD.tw bD.twX
 have s0:=w0.rf
 refine new_k w0 fun H1 w1 s1=>?_
 refine new_k w1 fun H2 w2 s2=>?_
 refine new_k w2 fun H3 w3 s3=>?_
 refine bind_ex (ldI_of (w3.ld (i:=2) rfl rfl)) ?_
 refine st_k w3 (i:=0) rfl rfl rfl fun H4 w4 s4=>?_
 dsimp only [List.set] at w4 s4
 refine bind_ex (ldI_of (w4.ld (i:=2) rfl rfl)) ?_
 refine st_k w4 (i:=0) rfl rfl rfl fun H5 w5 s5=>?_
 dsimp only [List.set] at w5 s5
 refine bind_ex (ldI_of (w5.ld (i:=2) rfl rfl)) ?_
 refine st_k w5 (i:=0) rfl rfl rfl fun H6 w6 s6=>?_
 dsimp only [List.set] at w6 s6
 refine bind_ex (ldI_of (w6.ld (i:=2) rfl rfl)) ?_
 refine st_k w6 (i:=0) rfl rfl rfl fun H7 w7 s7=>?_
 dsimp only [List.set] at w7 s7
 refine bind_ex (ldI_of (w7.ld (i:=2) rfl rfl)) ?_
 refine st_k w7 (i:=0) rfl rfl rfl fun H8 w8 s8=>?_
 dsimp only [List.set] at w8 s8
 refine bind_ex (ldI_of (w8.ld (i:=0) rfl rfl)) ?_
 refine bind_ex (ldI_of (w8.ld (i:=0) rfl rfl)) ?_
 refine bind_ex (ldI_of (w8.ld (i:=0) rfl rfl)) ?_
 refine bind_ex (ldI_of (w8.ld (i:=0) rfl rfl)) ?_
 refine bind_ex (ldI_of (w8.ld (i:=0) rfl rfl)) ?_
 refine st_k w8 (i:=1) rfl rfl rfl fun H9 w9 s9=>?_
 dsimp only [List.set] at w9 s9
 refine st_k w9 (i:=1) rfl rfl rfl fun H10 w10 s10=>?_
 dsimp only [List.set] at w10 s10
 refine st_k w10 (i:=1) rfl rfl rfl fun H11 w11 s11=>?_
 dsimp only [List.set] at w11 s11
 refine st_k w11 (i:=1) rfl rfl rfl fun H12 w12 s12=>?_
 dsimp only [List.set] at w12 s12
 refine st_k w12 (i:=1) rfl rfl rfl fun H13 w13 s13=>?_
 dsimp only [List.set] at w13 s13
 refine bind_ex (ldI_of (w13.ld (i:=1) rfl rfl)) ?_
 refine bind_ex (ldI_of (w13.ld (i:=1) rfl rfl)) ?_
 refine bind_ex (ldI_of (w13.ld (i:=1) rfl rfl)) ?_
 refine bind_ex (ldI_of (w13.ld (i:=1) rfl rfl)) ?_
 refine bind_ex (ldI_of (w13.ld (i:=1) rfl rfl)) ?_
 obtain ⟨w14,s14⟩:=w13.pick' [] 3 rfl rfl rfl
 dsimp only [pk,pks,nth,List.drop] at w14 s14
 obtain rfl:=Option.some.inj hp
 exact ⟨_,_,rfl,rfl,w14,(s0.trans (s1.trans (s2.trans (s3.trans (s4.trans (s5.trans (s6.trans (s7.trans (s8.trans (s9.trans (s10.trans (s11.trans (s12.trans (s13.trans s14)))))))))))))),trivial⟩
def aT.Q (H0:Hp) (Ri R0:List Rs)  (r:(List (Int×Int×Int×Int×Int))) (v:AV) (H':Hp):Prop:=∃ o0a:ON,∃ o0n:Nat,∃ o0c:Cap,∃ o0k:List AV,v = (.sl ⟨o0a,o0n,o0c⟩)∧o0n = (r).length∧Out H0 Ri H' (Rs.own ⟨o0a,o0n,o0c⟩ (ePair (eInt .i64) (ePair (eInt .i64) (ePair (eInt .i64) (ePair (eInt .i64) (eInt .i64))))).z o0k :: R0) fun R=>CR (ePair (eInt .i64) (ePair (eInt .i64) (ePair (eInt .i64) (ePair (eInt .i64) (eInt .i64))))) H' R o0k (r)
def aT.S29 (H0:Hp) (Ri R0:List Rs)  (C:Sl→Sl→Int→Hp→OA) (pC:List (Int×Int×Int×Int×Int)→List (Int×Int×Int×Int×Int)→Int→Option ((List (Int×Int×Int×Int×Int)))):Prop:=∀ {fo iT:ON} {dR ik:Nat} {fp iU:Cap} {bR dS:List (Int×Int×Int×Int×Int)} {iV:List AV} {b_:Int},∀ {H:Hp},dR = bR.length→ik = dS.length→(Out H0 Ri H (Rs.own ⟨iT,ik,iU⟩ (ePair (eInt .i64) (ePair (eInt .i64) (ePair (eInt .i64) (ePair (eInt .i64) (eInt .i64))))).z iV :: R0) fun R=>ROs (ePair (eInt .i64) (ePair (eInt .i64) (ePair (eInt .i64) (ePair (eInt .i64) (eInt .i64))))) H R ⟨fo,dR,fp⟩ bR∧CR (ePair (eInt .i64) (ePair (eInt .i64) (ePair (eInt .i64) (ePair (eInt .i64) (eInt .i64))))) H R iV dS)→∀ {r:(List (Int×Int×Int×Int×Int))},pC bR dS b_ = some r→∃ v H',C ⟨fo,dR,fp⟩ ⟨iT,ik,iU⟩ b_ H = some (v,H')∧aT.Q H0 Ri R0  r v H'
def aT.pl29 (F:Nat) :Nat→List (Int×Int×Int×Int×Int)→List (Int×Int×Int×Int×Int)→Int→Option ((List (Int×Int×Int×Int×Int)))
 | 0,_,_,_=>none
 | k + 1,bR,dS,b_=>(bif (decide (b_ < (bR.length:Int))) then ((ix bR b_).bind fun n1=>(bD.p F ((gt bR n1).1) ((gt bR n1).2.1) ((gt bR n1).2.2.1) ((gt bR n1).2.2.2.1) ((gt bR n1).2.2.2.2)).bind fun r2=>(ix dS b_).bind fun n4=>(some (dS.set n4 (r2.1,(gt dS n4).2.1,(gt dS n4).2.2.1,(gt dS n4).2.2.2.1,(gt dS n4).2.2.2.2))).bind fun l5=>(some (l5.set n4 ((gt l5 n4).1,r2.2.1,(gt l5 n4).2.2.1,(gt l5 n4).2.2.2.1,(gt l5 n4).2.2.2.2))).bind fun l7=>(some (l7.set n4 ((gt l7 n4).1,(gt l7 n4).2.1,r2.2.2.1,(gt l7 n4).2.2.2.1,(gt l7 n4).2.2.2.2))).bind fun l9=>(some (l9.set n4 ((gt l9 n4).1,(gt l9 n4).2.1,(gt l9 n4).2.2.1,r2.2.2.2.1,(gt l9 n4).2.2.2.2))).bind fun l11=>(some (l11.set n4 ((gt l11 n4).1,(gt l11 n4).2.1,(gt l11 n4).2.2.1,(gt l11 n4).2.2.2.1,r2.2.2.2.2))).bind fun l13=>aT.pl29 F k bR l13 (IntKind.i64.wrap (b_ + 1))) else (some dS))
termination_by structural n=>n
theorem aT.l29_P {F:Nat} {H0:Hp} {Ri R0:List Rs}  :∀ k,aT.S29 H0 Ri R0  (aT.l29 F (bD.tw F)  k) (aT.pl29 F  k):=by
 intro k
 induction k with
 | zero=>
  intro fo iT dR ik fp iU bR dS iV b_ H il mg h0 r hp
  exact nomatch (show (none:Option ((List (Int×Int×Int×Int×Int)))) = some r from hp)
 | succ k ih=>
  intro fo iT dR ik fp iU bR dS iV b_ H il mg h0 r hp
  obtain ⟨w0,s0,im,ko⟩:=h0
  subst il
  subst mg
  unfold aT.pl29 at hp
  unfold aT.l29
  refine bif_ex (fun hb=>?_) (fun hb=>?_)
  ·replace hp:=bif_t hb hp
   obtain ⟨n1,g1,hp⟩:=bind_some' hp
   obtain ⟨p1,q1,i1,h1,j1⟩:=ROs.ixr im rfl g1
   refine bind_ex i1 ?_
   obtain ⟨_,_,rfl,rfl,_,_,rfl,rfl,_,_,rfl,rfl,_,_,rfl,rfl,rfl⟩:=h1
   refine bind_ex (ldI_of (j1 0 _ rfl)) ?_
   refine bind_ex (ldI_of (j1 1 _ rfl)) ?_
   refine bind_ex (ldI_of (j1 2 _ rfl)) ?_
   refine bind_ex (ldI_of (j1 3 _ rfl)) ?_
   refine bind_ex (ldI_of (j1 4 _ rfl)) ?_
   obtain ⟨r2,e2,hp⟩:=bind_some' hp
   refine call_ex (bD.P ⟨w0,trivial⟩ e2) ?_
   rintro _ H3 ⟨rfl,w3,s3,_⟩
   refine bind_ex rfl ?_
   refine bind_ex rfl ?_
   refine bind_ex rfl ?_
   refine bind_ex rfl ?_
   refine bind_ex rfl ?_
   refine bind_ex rfl ?_
   refine bind_ex rfl ?_
   refine bind_ex rfl ?_
   refine bind_ex rfl ?_
   refine bind_ex rfl ?_
   refine bind_ex rfl ?_
   obtain ⟨n4,g4,hp⟩:=bind_some' hp
   obtain ⟨p4,q4,i4,h4,j4⟩:=W.ixo (E:=(ePair (eInt .i64) (ePair (eInt .i64) (ePair (eInt .i64) (ePair (eInt .i64) (eInt .i64)))))) w3 (i:=0) rfl rfl (ko.step s3) g4
   refine bind_ex i4 ?_
   obtain ⟨l5,e5,hp⟩:=bind_some' hp
   refine sto_k (ePair (eInt .i64) (ePair (eInt .i64) (ePair (eInt .i64) (ePair (eInt .i64) (eInt .i64))))) w3 (i:=0) (j:=0) (p:=p4) rfl rfl (ko.step s3) g4 i4 e5 rfl rfl (fun _ h=>by obtain ⟨_,_,rfl,rfl,_,_,rfl,rfl,_,_,rfl,rfl,_,_,rfl,rfl,rfl⟩:=h; exact ⟨[_],_,rfl,rfl,[_],_,rfl,rfl,[_],_,rfl,rfl,[_],_,rfl,rfl,rfl⟩) fun H6 k6 w6 s6 c6=>?_
   dsimp only [List.set] at w6 s6 c6
   obtain ⟨l7,e7,hp⟩:=bind_some' hp
   refine sto_k (ePair (eInt .i64) (ePair (eInt .i64) (ePair (eInt .i64) (ePair (eInt .i64) (eInt .i64))))) w6 (i:=0) (j:=1) (p:=p4) rfl rfl c6 (ix_len g4 (st_len e5)) i4 e7 rfl rfl (fun _ h=>by obtain ⟨_,_,rfl,rfl,_,_,rfl,rfl,_,_,rfl,rfl,_,_,rfl,rfl,rfl⟩:=h; exact ⟨[_],_,rfl,rfl,[_],_,rfl,rfl,[_],_,rfl,rfl,[_],_,rfl,rfl,rfl⟩) fun H8 k8 w8 s8 c8=>?_
   dsimp only [List.set] at w8 s8 c8
   obtain ⟨l9,e9,hp⟩:=bind_some' hp
   refine sto_k (ePair (eInt .i64) (ePair (eInt .i64) (ePair (eInt .i64) (ePair (eInt .i64) (eInt .i64))))) w8 (i:=0) (j:=2) (p:=p4) rfl rfl c8 (ix_len g4 ((st_len e7).trans (st_len e5))) i4 e9 rfl rfl (fun _ h=>by obtain ⟨_,_,rfl,rfl,_,_,rfl,rfl,_,_,rfl,rfl,_,_,rfl,rfl,rfl⟩:=h; exact ⟨[_],_,rfl,rfl,[_],_,rfl,rfl,[_],_,rfl,rfl,[_],_,rfl,rfl,rfl⟩) fun H10 k10 w10 s10 c10=>?_
   dsimp only [List.set] at w10 s10 c10
   obtain ⟨l11,e11,hp⟩:=bind_some' hp
   refine sto_k (ePair (eInt .i64) (ePair (eInt .i64) (ePair (eInt .i64) (ePair (eInt .i64) (eInt .i64))))) w10 (i:=0) (j:=3) (p:=p4) rfl rfl c10 (ix_len g4 (((st_len e9).trans (st_len e7)).trans (st_len e5))) i4 e11 rfl rfl (fun _ h=>by obtain ⟨_,_,rfl,rfl,_,_,rfl,rfl,_,_,rfl,rfl,_,_,rfl,rfl,rfl⟩:=h; exact ⟨[_],_,rfl,rfl,[_],_,rfl,rfl,[_],_,rfl,rfl,[_],_,rfl,rfl,rfl⟩) fun H12 k12 w12 s12 c12=>?_
   dsimp only [List.set] at w12 s12 c12
   obtain ⟨l13,e13,hp⟩:=bind_some' hp
   refine sto_k (ePair (eInt .i64) (ePair (eInt .i64) (ePair (eInt .i64) (ePair (eInt .i64) (eInt .i64))))) w12 (i:=0) (j:=4) (p:=p4) rfl rfl c12 (ix_len g4 ((((st_len e11).trans (st_len e9)).trans (st_len e7)).trans (st_len e5))) i4 e13 rfl rfl (fun _ h=>by obtain ⟨_,_,rfl,rfl,_,_,rfl,rfl,_,_,rfl,rfl,_,_,rfl,rfl,rfl⟩:=h; exact ⟨[_],_,rfl,rfl,[_],_,rfl,rfl,[_],_,rfl,rfl,[_],_,rfl,rfl,rfl⟩) fun H14 k14 w14 s14 c14=>?_
   dsimp only [List.set] at w14 s14 c14
   exact ih rfl (((((st_len e5).symm.trans (st_len e7).symm).trans (st_len e9).symm).trans (st_len e11).symm).trans (st_len e13).symm) ⟨w14,(s0.trans (s3.trans (s6.trans (s8.trans (s10.trans (s12.trans s14)))))),(im.step (s3.trans (s6.trans (s8.trans (s10.trans (s12.trans s14)))))),c14⟩ hp
  ·replace hp:=bif_f hb hp
   obtain rfl:=Option.some.inj hp
   exact ⟨_,_,rfl,_,_,_,_,rfl,rfl,w0,s0,ko⟩
def aT.p (F:Nat) (ac:List (Int×Int×Int×Int×Int)):Option ((List (Int×Int×Int×Int×Int))):=(mkn (ac.length:Int) ((0:Int),(0:Int),(0:Int),(0:Int),(0:Int))).bind fun l1=>aT.pl29 F F ac l1 0
theorem aT.P {F:Nat} {av:ON} {aj:Nat} {aw:Cap} {ac:List (Int×Int×Int×Int×Int)} {H:Hp} {R0:List Rs} (ba:aj = ac.length) (h0:Inn H R0 fun R=>ROs (ePair (eInt .i64) (ePair (eInt .i64) (ePair (eInt .i64) (ePair (eInt .i64) (eInt .i64))))) H R ⟨av,aj,aw⟩ ac) {r:(List (Int×Int×Int×Int×Int))} (hp:aT.p F ac = some r):∃ v H',aT.tw F ⟨av,aj,aw⟩ H = some (v,H')∧aT.Q H R0 R0  r v H':=by
 obtain ⟨w0,aH⟩:=h0
 subst ba
 unfold aT.p at hp
 unfold aT.tw aT.twX
 have s0:=w0.rf
 obtain ⟨l1,e1,hp⟩:=bind_some' hp
 refine mk_k (ePair (eInt .i64) (ePair (eInt .i64) (ePair (eInt .i64) (ePair (eInt .i64) (eInt .i64))))) ((0:Int),(0:Int),(0:Int),(0:Int),(0:Int)) w0 ⟨[_],_,rfl,rfl,⟨[_],_,rfl,rfl,⟨[_],_,rfl,rfl,⟨[_],_,rfl,rfl,rfl⟩⟩⟩⟩ rfl rfl e1 fun H2 k2 w2 s2 c2=>?_
 exact aT.l29_P F rfl rfl ⟨w2,(s0.trans s2),(aH.step s2),c2⟩ hp
def bp.Q (H0:Hp) (Ri R0:List Rs)  (r:(List (Int×Int×Int×Int×Int))×Int) (v:AV) (H':Hp):Prop:=∃ o0a:ON,∃ o0n:Nat,∃ o0c:Cap,∃ o0k:List AV,v = (.agg [(.sl ⟨o0a,o0n,o0c⟩),(.int .i64 r.2)])∧o0n = (r.1).length∧Out H0 Ri H' (Rs.own ⟨o0a,o0n,o0c⟩ (ePair (eInt .i64) (ePair (eInt .i64) (ePair (eInt .i64) (ePair (eInt .i64) (eInt .i64))))).z o0k :: R0) fun R=>CR (ePair (eInt .i64) (ePair (eInt .i64) (ePair (eInt .i64) (ePair (eInt .i64) (eInt .i64))))) H' R o0k (r.1)
def bp.p (F:Nat) (ac:List (Int×Int×Int×Int×Int)) (ab:Int):Option ((List (Int×Int×Int×Int×Int))×Int):=(aT.p F ac).bind fun r4=>some (r4,ab)
theorem bp.P {F:Nat} {av:ON} {aj:Nat} {aw:Cap} {ac:List (Int×Int×Int×Int×Int)} {ab:Int} {H:Hp} {R0:List Rs} (ba:aj = ac.length) (h0:Inn H R0 fun R=>ROs (ePair (eInt .i64) (ePair (eInt .i64) (ePair (eInt .i64) (ePair (eInt .i64) (eInt .i64))))) H R ⟨av,aj,aw⟩ ac) {r:(List (Int×Int×Int×Int×Int))×Int} (hp:bp.p F ac ab = some r):∃ v H',bp.tw F ⟨av,aj,aw⟩ ab H = some (v,H')∧bp.Q H R0 R0  r v H':=by
 obtain ⟨w0,aH⟩:=h0
 subst ba
 unfold bp.p at hp
 unfold bp.tw bp.twX
 have s0:=w0.rf
 refine new_k w0 fun H1 w1 s1=>?_
 refine new_k w1 fun H2 w2 s2=>?_
 refine new_k w2 fun H3 w3 s3=>?_
 refine bind_ex (ldSl_of (w3.ld (i:=2) rfl rfl)) ?_
 obtain ⟨r4,e4,hp⟩:=bind_some' hp
 refine call_ex (aT.P rfl ⟨w3,(aH.step (s1.trans (s2.trans s3)))⟩ e4) ?_
 rintro _ H5 ⟨o0a_5,o0n_5,o0c_5,o0k_5,rfl,rfl,w5,s5,f5_0⟩
 refine bind_ex rfl ?_
 refine st_k w5 (i:=1) rfl rfl rfl fun H6 w6 s6=>?_
 dsimp only [List.set] at w6 s6
 refine bind_ex (ldI_of (w6.ld (i:=3) rfl rfl)) ?_
 refine st_k w6 (i:=1) rfl rfl rfl fun H7 w7 s7=>?_
 dsimp only [List.set] at w7 s7
 refine bind_ex (ldSl_of (w7.ld (i:=1) rfl rfl)) ?_
 refine bind_ex (ldI_of (w7.ld (i:=1) rfl rfl)) ?_
 refine st_k w7 (i:=2) rfl rfl rfl fun H8 w8 s8=>?_
 dsimp only [List.set] at w8 s8
 refine st_k w8 (i:=2) rfl rfl rfl fun H9 w9 s9=>?_
 dsimp only [List.set] at w9 s9
 refine bind_ex (ldSl_of (w9.ld (i:=2) rfl rfl)) ?_
 refine bind_ex (ldI_of (w9.ld (i:=2) rfl rfl)) ?_
 obtain ⟨w10,s10⟩:=w9.pick' [0] 4 rfl rfl rfl
 dsimp only [pk,pks,nth,List.drop] at w10 s10
 obtain rfl:=Option.some.inj hp
 exact ⟨_,_,rfl,_,_,_,_,rfl,rfl,w10,(s0.trans (s1.trans (s2.trans (s3.trans (s5.trans (s6.trans (s7.trans (s8.trans (s9.trans s10))))))))),(f5_0.step (s6.trans (s7.trans (s8.trans (s9.trans s10)))))⟩
def aI.Q (H0:Hp) (Ri R0:List Rs)  (r:List Int) (v:AV) (H':Hp):Prop:=∃ o0a:ON,∃ o0n:Nat,∃ o0c:Cap,∃ o0k:List AV,v = (.sl ⟨o0a,o0n,o0c⟩)∧o0n = (r).length∧Out H0 Ri H' (Rs.own ⟨o0a,o0n,o0c⟩ (eInt .i64).z o0k :: R0) fun R=>CR (eInt .i64) H' R o0k (r)
def aI.S29 (H0:Hp) (Ri R0:List Rs)  (C:Sl→Sl→Int→Hp→OA) (pC:List Int→List Int→Int→Option (List Int)):Prop:=∀ {fo iT:ON} {dR ik:Nat} {fp iU:Cap} {bR dS:List Int} {iV:List AV} {b_:Int},∀ {H:Hp},dR = bR.length→ik = dS.length→(Out H0 Ri H (Rs.own ⟨iT,ik,iU⟩ (eInt .i64).z iV :: R0) fun R=>ROs (eInt .i64) H R ⟨fo,dR,fp⟩ bR∧CR (eInt .i64) H R iV dS)→∀ {r:List Int},pC bR dS b_ = some r→∃ v H',C ⟨fo,dR,fp⟩ ⟨iT,ik,iU⟩ b_ H = some (v,H')∧aI.Q H0 Ri R0  r v H'
def aI.pl29 (F:Nat) :Nat→List Int→List Int→Int→Option (List Int)
 | 0,_,_,_=>none
 | k + 1,bR,dS,b_=>(bif (decide (b_ < (bR.length:Int))) then ((ix bR b_).bind fun n1=>(ix dS b_).bind fun n2=>(some (dS.set n2 (gt bR n1))).bind fun l3=>aI.pl29 F k bR l3 (IntKind.i64.wrap (b_ + 1))) else (some dS))
termination_by structural n=>n
theorem aI.l29_P {F:Nat} {H0:Hp} {Ri R0:List Rs}  :∀ k,aI.S29 H0 Ri R0  (aI.l29 F   k) (aI.pl29 F  k):=by
 intro k
 induction k with
 | zero=>
  intro fo iT dR ik fp iU bR dS iV b_ H il mg h0 r hp
  exact nomatch (show (none:Option (List Int)) = some r from hp)
 | succ k ih=>
  intro fo iT dR ik fp iU bR dS iV b_ H il mg h0 r hp
  obtain ⟨w0,s0,im,ko⟩:=h0
  subst il
  subst mg
  unfold aI.pl29 at hp
  unfold aI.l29
  refine bif_ex (fun hb=>?_) (fun hb=>?_)
  ·replace hp:=bif_t hb hp
   obtain ⟨n1,g1,hp⟩:=bind_some' hp
   obtain ⟨p1,q1,i1,h1,j1⟩:=ROs.ixr im rfl g1
   refine bind_ex i1 ?_
   have h1:_ = [_]:=h1
   subst h1
   refine bind_ex (ldI_of (j1 0 _ rfl)) ?_
   obtain ⟨n2,g2,hp⟩:=bind_some' hp
   obtain ⟨p2,q2,i2,h2,j2⟩:=W.ixo (E:=(eInt .i64)) w0 (i:=0) rfl rfl ko g2
   refine bind_ex i2 ?_
   obtain ⟨l3,e3,hp⟩:=bind_some' hp
   refine sto_k (eInt .i64) w0 (i:=0) (j:=0) (p:=p2) rfl rfl ko g2 i2 e3 rfl rfl (fun _ h=>by have h:_ = [_]:=h; subst h; exact rfl) fun H4 k4 w4 s4 c4=>?_
   dsimp only [List.set] at w4 s4 c4
   exact ih rfl ((st_len e3).symm) ⟨w4,(s0.trans s4),(im.step s4),c4⟩ hp
  ·replace hp:=bif_f hb hp
   obtain rfl:=Option.some.inj hp
   exact ⟨_,_,rfl,_,_,_,_,rfl,rfl,w0,s0,ko⟩
def aI.p (F:Nat) (ac:List Int):Option (List Int):=(mkn (ac.length:Int) (0:Int)).bind fun l1=>aI.pl29 F F ac l1 0
theorem aI.P {F:Nat} {av:ON} {aj:Nat} {aw:Cap} {ac:List Int} {H:Hp} {R0:List Rs} (ba:aj = ac.length) (h0:Inn H R0 fun R=>ROs (eInt .i64) H R ⟨av,aj,aw⟩ ac) {r:List Int} (hp:aI.p F ac = some r):∃ v H',aI.tw F ⟨av,aj,aw⟩ H = some (v,H')∧aI.Q H R0 R0  r v H':=by
 obtain ⟨w0,aH⟩:=h0
 subst ba
 unfold aI.p at hp
 unfold aI.tw aI.twX
 have s0:=w0.rf
 obtain ⟨l1,e1,hp⟩:=bind_some' hp
 refine mk_k (eInt .i64) (0:Int) w0 rfl rfl rfl e1 fun H2 k2 w2 s2 c2=>?_
 exact aI.l29_P F rfl rfl ⟨w2,(s0.trans s2),(aH.step s2),c2⟩ hp
def aY.Q (H0:Hp) (Ri R0:List Rs)  (r:Bool) (v:AV) (H':Hp):Prop:=v = (.bool r)∧Out H0 Ri H' (R0) fun R=>True
def aY.p (F:Nat) (aa:Int) (ad:Int) (bQ:Int):Option (Bool):=(bif (decide (aa ≥ ad)) then (some (decide (aa ≤ bQ))) else (some false))
theorem aY.P {F:Nat} {aa ad bQ:Int} {H:Hp} {R0:List Rs}  (h0:Inn H R0 fun R=>True) {r:Bool} (hp:aY.p F aa ad bQ = some r):∃ v H',aY.tw F aa ad bQ H = some (v,H')∧aY.Q H R0 R0  r v H':=by
 obtain ⟨w0,_⟩:=h0
 unfold aY.p at hp
 unfold aY.tw aY.twX
 have s0:=w0.rf
 refine bif_ex (fun hb=>?_) (fun hb=>?_)
 ·replace hp:=bif_t hb hp
  obtain rfl:=Option.some.inj hp
  exact ⟨_,_,rfl,rfl,w0,s0,trivial⟩
 ·replace hp:=bif_f hb hp
  obtain rfl:=Option.some.inj hp
  exact ⟨_,_,rfl,rfl,w0,s0,trivial⟩
def aZ.Q (H0:Hp) (Ri R0:List Rs)  (r:Int) (v:AV) (H':Hp):Prop:=v = (.int .i64 r)∧Out H0 Ri H' (R0) fun R=>True
def aZ.p (F:Nat) (aa:Int) (ab:Int) (ah:Int) (az:Int) (bd:Int):Option (Int):=(ix ([aa,ab,ah,az]:List Int) bd).bind fun n3=>some (gt ([aa,ab,ah,az]:List Int) n3)
theorem aZ.P {F:Nat} {aa ab ah az ax bd:Int} {H:Hp} {R0:List Rs}  (h0:Inn H R0 fun R=>True) {r:Int} (hp:aZ.p F aa ab ah az bd = some r):∃ v H',aZ.tw F aa ab ah az ax bd H = some (v,H')∧aZ.Q H R0 R0  r v H':=by
 obtain ⟨w0,_⟩:=h0
 unfold aZ.p at hp
 unfold aZ.tw aZ.twX
 have s0:=w0.rf
 refine new_k w0 fun H1 w1 s1=>?_
 refine bind_ex (ldI_of (w1.ld (i:=0) rfl rfl)) ?_
 refine bind_ex (ldI_of (w1.ld (i:=0) rfl rfl)) ?_
 refine bind_ex (ldI_of (w1.ld (i:=0) rfl rfl)) ?_
 refine bind_ex (ldI_of (w1.ld (i:=0) rfl rfl)) ?_
 refine newS_k (eInt .i64) w1 (n:=4) (l:=([aa,ab,ah,az]:List Int)) rfl (CR.cons1 rfl (CR.cons1 rfl (CR.cons1 rfl (CR.cons1 rfl CR.empty)))) rfl fun H2 w2 s2 c2=>?_
 obtain ⟨n3,g3,hp⟩:=bind_some' hp
 obtain ⟨p3,q3,i3,h3,j3⟩:=W.ixo (E:=(eInt .i64)) w2 (i:=0) rfl rfl c2 g3
 refine bind_ex i3 ?_
 have h3:_ = [_]:=h3
 subst h3
 refine bind_ex (ldI_of (j3 0 _ rfl)) ?_
 obtain ⟨w4,s4⟩:=w2.pick' [] 2 rfl rfl rfl
 dsimp only [pk,pks,nth,List.drop] at w4 s4
 obtain rfl:=Option.some.inj hp
 exact ⟨_,_,rfl,rfl,w4,(s0.trans (s1.trans (s2.trans s4))),trivial⟩
def a_.Q (H0:Hp) (Ri R0:List Rs)  (r:Bool) (v:AV) (H':Hp):Prop:=v = (.bool r)∧Out H0 Ri H' (R0) fun R=>True
def a_.p (F:Nat) (ax:Int) (bd:Int):Option (Bool):=(bif (bd == 0) then (some true) else ((bif (bd == 3) then ((bif (ax == 1) then (some true) else ((bif (bd == 1) then (some (ax == (-1))) else (some false))))) else ((bif (bd == 1) then (some (ax == (-1))) else (some false))))))
theorem a_.P {F:Nat} {aa ab ah az ax bd:Int} {H:Hp} {R0:List Rs}  (h0:Inn H R0 fun R=>True) {r:Bool} (hp:a_.p F ax bd = some r):∃ v H',a_.tw F aa ab ah az ax bd H = some (v,H')∧a_.Q H R0 R0  r v H':=by
 obtain ⟨w0,_⟩:=h0
 unfold a_.p at hp
 unfold a_.tw a_.twX
 have s0:=w0.rf
 refine new_k w0 fun H1 w1 s1=>?_
 refine bif_ex (fun hb=>?_) (fun hb=>?_)
 ·replace hp:=bif_t hb hp
  obtain ⟨w2,s2⟩:=w1.pick' [] 1 rfl rfl rfl
  dsimp only [pk,pks,nth,List.drop] at w2 s2
  obtain rfl:=Option.some.inj hp
  exact ⟨_,_,rfl,rfl,w2,(s0.trans (s1.trans s2)),trivial⟩
 ·replace hp:=bif_f hb hp
  refine bif_ex (fun hb=>?_) (fun hb=>?_)
  ·replace hp:=bif_t hb hp
   refine bind_ex (ldI_of (w1.ld (i:=0) rfl rfl)) ?_
   refine bif_ex (fun hb=>?_) (fun hb=>?_)
   ·replace hp:=bif_t hb hp
    obtain ⟨w3,s3⟩:=w1.pick' [] 1 rfl rfl rfl
    dsimp only [pk,pks,nth,List.drop] at w3 s3
    obtain rfl:=Option.some.inj hp
    exact ⟨_,_,rfl,rfl,w3,(s0.trans (s1.trans s3)),trivial⟩
   ·replace hp:=bif_f hb hp
    refine bif_ex (fun hb=>?_) (fun hb=>?_)
    ·replace hp:=bif_t hb hp
     refine bind_ex (ldI_of (w1.ld (i:=0) rfl rfl)) ?_
     obtain ⟨w4,s4⟩:=w1.pick' [] 1 rfl rfl rfl
     dsimp only [pk,pks,nth,List.drop] at w4 s4
     obtain rfl:=Option.some.inj hp
     exact ⟨_,_,rfl,rfl,w4,(s0.trans (s1.trans s4)),trivial⟩
    ·replace hp:=bif_f hb hp
     obtain ⟨w5,s5⟩:=w1.pick' [] 1 rfl rfl rfl
     dsimp only [pk,pks,nth,List.drop] at w5 s5
     obtain rfl:=Option.some.inj hp
     exact ⟨_,_,rfl,rfl,w5,(s0.trans (s1.trans s5)),trivial⟩
  ·replace hp:=bif_f hb hp
   refine bif_ex (fun hb=>?_) (fun hb=>?_)
   ·replace hp:=bif_t hb hp
    refine bind_ex (ldI_of (w1.ld (i:=0) rfl rfl)) ?_
    obtain ⟨w6,s6⟩:=w1.pick' [] 1 rfl rfl rfl
    dsimp only [pk,pks,nth,List.drop] at w6 s6
    obtain rfl:=Option.some.inj hp
    exact ⟨_,_,rfl,rfl,w6,(s0.trans (s1.trans s6)),trivial⟩
   ·replace hp:=bif_f hb hp
    obtain ⟨w7,s7⟩:=w1.pick' [] 1 rfl rfl rfl
    dsimp only [pk,pks,nth,List.drop] at w7 s7
    obtain rfl:=Option.some.inj hp
    exact ⟨_,_,rfl,rfl,w7,(s0.trans (s1.trans s7)),trivial⟩
def ap.Q (H0:Hp) (Ri R0:List Rs)  (r:Bool) (v:AV) (H':Hp):Prop:=v = (.bool r)∧Out H0 Ri H' (R0) fun R=>True
def ap.S61 (H0:Hp) (Ri R0:List Rs)  (C:Nat→Nat→Int→Sl→Sl→Int→Hp→OA) (pC:List (Int×Int×Int×Int×Int)→Int→List Bool→List Bool→Int→Option (Bool)):Prop:=∀ {iW iX py:ON} {io ch ip mh:Nat} {iY iZ pz:Cap} {cF:List (Int×Int×Int×Int×Int)} {kp bN dW:Int} {eU jz:List Bool} {i_ pA:List AV},∀ {H:Hp},io = cF.length→ip = eU.length→mh = jz.length→(Out H0 Ri H (Rs.blk ch [.sl ⟨iW,io,iY⟩,.int .i64 kp] :: Rs.own ⟨iX,ip,iZ⟩ eBool.z i_ :: Rs.own ⟨py,mh,pz⟩ eBool.z pA :: R0) fun R=>ROs (ePair (eInt .i64) (ePair (eInt .i64) (ePair (eInt .i64) (ePair (eInt .i64) (eInt .i64))))) H R ⟨iW,io,iY⟩ cF∧CR eBool H R i_ eU∧CR eBool H R pA jz)→∀ {r:Bool},pC cF bN eU jz dW = some r→∃ v H',C ch 0 bN ⟨iX,ip,iZ⟩ ⟨py,mh,pz⟩ dW H = some (v,H')∧ap.Q H0 Ri R0  r v H'
def ap.S3927 (H0:Hp) (Ri R0:List Rs)  (C:Nat→Nat→Int→Sl→Sl→Int→Nat→Nat→Int→Hp→OA) (pC:List (Int×Int×Int×Int×Int)→Int→List Bool→List Bool→Int→Int→Int→Int→Int→Int→Int→Option (Bool)):Prop:=∀ {pB pD pE:ON} {mi dV mj ml c_:Nat} {pF pG pH:Cap} {ja:List (Int×Int×Int×Int×Int)} {tW cV cu jA jB jC jD jE du:Int} {gY gZ:List Bool} {pI pJ:List AV},∀ {H:Hp},mi = ja.length→mj = gY.length→ml = gZ.length→(Out H0 Ri H (Rs.blk dV [.sl ⟨pB,mi,pF⟩,.int .i64 tW] :: Rs.own ⟨pD,mj,pG⟩ eBool.z pI :: Rs.own ⟨pE,ml,pH⟩ eBool.z pJ :: Rs.blk c_ [.int .i64 jA,.int .i64 jB,.int .i64 jC,.int .i64 jD,.int .i64 jE] :: R0) fun R=>ROs (ePair (eInt .i64) (ePair (eInt .i64) (ePair (eInt .i64) (ePair (eInt .i64) (eInt .i64))))) H R ⟨pB,mi,pF⟩ ja∧CR eBool H R pI gY∧CR eBool H R pJ gZ)→∀ {r:Bool},pC ja cV gY gZ cu jA jB jC jD jE du = some r→∃ v H',C dV 0 cV ⟨pD,mj,pG⟩ ⟨pE,ml,pH⟩ cu c_ 0 du H = some (v,H')∧ap.Q H0 Ri R0  r v H'
def ap.pl3927 (F:Nat) (aJ:List (Int×Int×Int×Int×Int)→Int→List Bool→List Bool→Int→Option (Bool)):Nat→List (Int×Int×Int×Int×Int)→Int→List Bool→List Bool→Int→Int→Int→Int→Int→Int→Int→Option (Bool)
 | 0,_,_,_,_,_,_,_,_,_,_,_=>none
 | k + 1,ja,cV,gY,gZ,cu,jA,jB,jC,jD,jE,du=>(bif (decide (du < 4)) then ((aZ.p F jA jB jC jD du).bind fun r1=>(aY.p F r1 0 (IntKind.i64.wrap (cV - 1))).bind fun r3=>(bif (!r3) then (some false) else ((a_.p F jE du).bind fun r6=>(bif r6 then ((ix gY r1).bind fun n8=>(bif (gt gY n8) then (some false) else ((ix gY r1).bind fun n10=>(some (gY.set n10 true)).bind fun l11=>ap.pl3927 F aJ k ja cV l11 gZ cu jA jB jC jD jE (IntKind.i64.wrap (du + 1))))) else ((ix gZ r1).bind fun n13=>(bif (gt gZ n13) then (some false) else ((ix gZ r1).bind fun n15=>(some (gZ.set n15 true)).bind fun l16=>ap.pl3927 F aJ k ja cV gY l16 cu jA jB jC jD jE (IntKind.i64.wrap (du + 1))))))))) else (aJ ja cV gY gZ (IntKind.i64.wrap (cu + 1))))
termination_by structural n=>n
theorem ap.l3927_P {F:Nat} {H0:Hp} {Ri R0:List Rs}  {C61_:Nat→Nat→Int→Sl→Sl→Int→Hp→OA} {aJ:List (Int×Int×Int×Int×Int)→Int→List Bool→List Bool→Int→Option (Bool)} (hC61:ap.S61 H0 Ri R0  C61_ aJ):∀ k,ap.S3927 H0 Ri R0  (ap.l3927 F (aZ.tw F) (aY.tw F) (a_.tw F) C61_ k) (ap.pl3927 F aJ k):=by
 intro k
 induction k with
 | zero=>
  intro pB pD pE mi dV mj ml c_ pF pG pH ja tW cV cu jA jB jC jD jE du gY gZ pI pJ H wl wm wo h0 r hp
  exact nomatch (show (none:Option (Bool)) = some r from hp)
 | succ k ih=>
  intro pB pD pE mi dV mj ml c_ pF pG pH ja tW cV cu jA jB jC jD jE du gY gZ pI pJ H wl wm wo h0 r hp
  obtain ⟨w0,s0,tX,mm,mn⟩:=h0
  subst wl
  subst wm
  subst wo
  unfold ap.pl3927 at hp
  unfold ap.l3927
  refine bif_ex (fun hb=>?_) (fun hb=>?_)
  ·replace hp:=bif_t hb hp
   refine bind_ex (ldI_of (w0.ld (i:=3) rfl rfl)) ?_
   refine bind_ex (ldI_of (w0.ld (i:=3) rfl rfl)) ?_
   refine bind_ex (ldI_of (w0.ld (i:=3) rfl rfl)) ?_
   refine bind_ex (ldI_of (w0.ld (i:=3) rfl rfl)) ?_
   refine bind_ex (ldI_of (w0.ld (i:=3) rfl rfl)) ?_
   obtain ⟨r1,e1,hp⟩:=bind_some' hp
   refine call_ex (aZ.P ⟨w0,trivial⟩ e1) ?_
   rintro _ H2 ⟨rfl,w2,s2,_⟩
   refine bind_ex rfl ?_
   obtain ⟨r3,e3,hp⟩:=bind_some' hp
   refine call_ex (aY.P ⟨w2,trivial⟩ e3) ?_
   rintro _ H4 ⟨rfl,w4,s4,_⟩
   refine bind_ex rfl ?_
   refine bif_ex (fun hb=>?_) (fun hb=>?_)
   ·replace hp:=bif_t hb hp
    obtain ⟨w5,s5⟩:=w4.pick' [] 4 rfl rfl rfl
    dsimp only [pk,pks,nth,List.drop] at w5 s5
    obtain rfl:=Option.some.inj hp
    exact ⟨_,_,rfl,rfl,w5,(s0.trans (s2.trans (s4.trans s5))),trivial⟩
   ·replace hp:=bif_f hb hp
    refine bind_ex (ldI_of (w4.ld (i:=3) rfl rfl)) ?_
    refine bind_ex (ldI_of (w4.ld (i:=3) rfl rfl)) ?_
    refine bind_ex (ldI_of (w4.ld (i:=3) rfl rfl)) ?_
    refine bind_ex (ldI_of (w4.ld (i:=3) rfl rfl)) ?_
    refine bind_ex (ldI_of (w4.ld (i:=3) rfl rfl)) ?_
    obtain ⟨r6,e6,hp⟩:=bind_some' hp
    refine call_ex (a_.P ⟨w4,trivial⟩ e6) ?_
    rintro _ H7 ⟨rfl,w7,s7,_⟩
    refine bind_ex rfl ?_
    refine bif_ex (fun hb=>?_) (fun hb=>?_)
    ·replace hp:=bif_t hb hp
     obtain ⟨n8,g8,hp⟩:=bind_some' hp
     obtain ⟨p8,q8,i8,h8,j8⟩:=W.ixo (E:=eBool) w7 (i:=1) rfl rfl (mm.step (s2.trans (s4.trans s7))) g8
     refine bind_ex i8 ?_
     have h8:_ = [_]:=h8
     subst h8
     refine bind_ex (ldB_of (j8 0 _ rfl)) ?_
     refine bif_ex (fun hb=>?_) (fun hb=>?_)
     ·replace hp:=bif_t hb hp
      obtain ⟨w9,s9⟩:=w7.pick' [] 4 rfl rfl rfl
      dsimp only [pk,pks,nth,List.drop] at w9 s9
      obtain rfl:=Option.some.inj hp
      exact ⟨_,_,rfl,rfl,w9,(s0.trans (s2.trans (s4.trans (s7.trans s9)))),trivial⟩
     ·replace hp:=bif_f hb hp
      obtain ⟨n10,g10,hp⟩:=bind_some' hp
      obtain ⟨p10,q10,i10,h10,j10⟩:=W.ixo (E:=eBool) w7 (i:=1) rfl rfl (mm.step (s2.trans (s4.trans s7))) g10
      refine bind_ex i10 ?_
      obtain ⟨l11,e11,hp⟩:=bind_some' hp
      refine sto_k eBool w7 (i:=1) (j:=0) (p:=p10) rfl rfl (mm.step (s2.trans (s4.trans s7))) g10 i10 e11 rfl rfl (fun _ h=>by have h:_ = [_]:=h; subst h; exact rfl) fun H12 k12 w12 s12 c12=>?_
      dsimp only [List.set] at w12 s12 c12
      exact ih rfl ((st_len e11).symm) rfl ⟨w12,(s0.trans (s2.trans (s4.trans (s7.trans s12)))),(tX.step (s2.trans (s4.trans (s7.trans s12)))),c12,(mn.step (s2.trans (s4.trans (s7.trans s12))))⟩ hp
    ·replace hp:=bif_f hb hp
     obtain ⟨n13,g13,hp⟩:=bind_some' hp
     obtain ⟨p13,q13,i13,h13,j13⟩:=W.ixo (E:=eBool) w7 (i:=2) rfl rfl (mn.step (s2.trans (s4.trans s7))) g13
     refine bind_ex i13 ?_
     have h13:_ = [_]:=h13
     subst h13
     refine bind_ex (ldB_of (j13 0 _ rfl)) ?_
     refine bif_ex (fun hb=>?_) (fun hb=>?_)
     ·replace hp:=bif_t hb hp
      obtain ⟨w14,s14⟩:=w7.pick' [] 4 rfl rfl rfl
      dsimp only [pk,pks,nth,List.drop] at w14 s14
      obtain rfl:=Option.some.inj hp
      exact ⟨_,_,rfl,rfl,w14,(s0.trans (s2.trans (s4.trans (s7.trans s14)))),trivial⟩
     ·replace hp:=bif_f hb hp
      obtain ⟨n15,g15,hp⟩:=bind_some' hp
      obtain ⟨p15,q15,i15,h15,j15⟩:=W.ixo (E:=eBool) w7 (i:=2) rfl rfl (mn.step (s2.trans (s4.trans s7))) g15
      refine bind_ex i15 ?_
      obtain ⟨l16,e16,hp⟩:=bind_some' hp
      refine sto_k eBool w7 (i:=2) (j:=0) (p:=p15) rfl rfl (mn.step (s2.trans (s4.trans s7))) g15 i15 e16 rfl rfl (fun _ h=>by have h:_ = [_]:=h; subst h; exact rfl) fun H17 k17 w17 s17 c17=>?_
      dsimp only [List.set] at w17 s17 c17
      exact ih rfl rfl ((st_len e16).symm) ⟨w17,(s0.trans (s2.trans (s4.trans (s7.trans s17)))),(tX.step (s2.trans (s4.trans (s7.trans s17)))),(mm.step (s2.trans (s4.trans (s7.trans s17)))),c17⟩ hp
  ·replace hp:=bif_f hb hp
   obtain ⟨w18,s18⟩:=w0.pick' [0,1,2] 4 rfl rfl rfl
   dsimp only [pk,pks,nth,List.drop] at w18 s18
   exact hC61 rfl rfl rfl ⟨w18,(s0.trans s18),(tX.step s18),(mm.step s18),(mn.step s18)⟩ hp
def ap.pl61 (F:Nat) :Nat→List (Int×Int×Int×Int×Int)→Int→List Bool→List Bool→Int→Option (Bool)
 | 0,_,_,_,_,_=>none
 | k + 1,cF,bN,eU,jz,dW=>(bif (decide (dW < (cF.length:Int))) then ((ix cF dW).bind fun n1=>(bif (((gt cF n1).2.2.2.2) != 1) then ((bif (((gt cF n1).2.2.2.2) != (-1)) then (some false) else (ap.pl3927 F (ap.pl61 F k) F cF bN eU jz dW ((gt cF n1).1) ((gt cF n1).2.1) ((gt cF n1).2.2.1) ((gt cF n1).2.2.2.1) ((gt cF n1).2.2.2.2) 0))) else (ap.pl3927 F (ap.pl61 F k) F cF bN eU jz dW ((gt cF n1).1) ((gt cF n1).2.1) ((gt cF n1).2.2.1) ((gt cF n1).2.2.2.1) ((gt cF n1).2.2.2.2) 0))) else (some true))
termination_by structural n=>n
theorem ap.l61_P {F:Nat} {H0:Hp} {Ri R0:List Rs}  :∀ k,ap.S61 H0 Ri R0  (ap.l61 F (aZ.tw F) (aY.tw F) (a_.tw F)  k) (ap.pl61 F  k):=by
 intro k
 induction k with
 | zero=>
  intro iW iX py io ch ip mh iY iZ pz cF kp bN dW eU jz i_ pA H mo mp wp h0 r hp
  exact nomatch (show (none:Option (Bool)) = some r from hp)
 | succ k ih=>
  intro iW iX py io ch ip mh iY iZ pz cF kp bN dW eU jz i_ pA H mo mp wp h0 r hp
  obtain ⟨w0,s0,lP,lQ,wq⟩:=h0
  subst mo
  subst mp
  subst wp
  unfold ap.pl61 at hp
  unfold ap.l61
  refine bind_ex (ldSl_of (w0.ld (i:=0) rfl rfl)) ?_
  refine bif_ex (fun hb=>?_) (fun hb=>?_)
  ·replace hp:=bif_t hb hp
   refine bind_ex (ldSl_of (w0.ld (i:=0) rfl rfl)) ?_
   obtain ⟨n1,g1,hp⟩:=bind_some' hp
   obtain ⟨p1,q1,i1,h1,j1⟩:=ROs.ixr lP rfl g1
   refine bind_ex i1 ?_
   obtain ⟨_,_,rfl,rfl,_,_,rfl,rfl,_,_,rfl,rfl,_,_,rfl,rfl,rfl⟩:=h1
   refine bind_ex (ldI_of (j1 0 _ rfl)) ?_
   refine bind_ex (ldI_of (j1 1 _ rfl)) ?_
   refine bind_ex (ldI_of (j1 2 _ rfl)) ?_
   refine bind_ex (ldI_of (j1 3 _ rfl)) ?_
   refine bind_ex (ldI_of (j1 4 _ rfl)) ?_
   refine new_k w0 fun H2 w2 s2=>?_
   refine st_k w2 (i:=0) rfl rfl rfl fun H3 w3 s3=>?_
   dsimp only [List.set] at w3 s3
   refine st_k w3 (i:=0) rfl rfl rfl fun H4 w4 s4=>?_
   dsimp only [List.set] at w4 s4
   refine st_k w4 (i:=0) rfl rfl rfl fun H5 w5 s5=>?_
   dsimp only [List.set] at w5 s5
   refine st_k w5 (i:=0) rfl rfl rfl fun H6 w6 s6=>?_
   dsimp only [List.set] at w6 s6
   refine st_k w6 (i:=0) rfl rfl rfl fun H7 w7 s7=>?_
   dsimp only [List.set] at w7 s7
   refine bind_ex (ldI_of (w7.ld (i:=0) rfl rfl)) ?_
   refine bif_ex (fun hb=>?_) (fun hb=>?_)
   ·replace hp:=bif_t hb hp
    refine bind_ex (ldI_of (w7.ld (i:=0) rfl rfl)) ?_
    refine bif_ex (fun hb=>?_) (fun hb=>?_)
    ·replace hp:=bif_t hb hp
     obtain ⟨w8,s8⟩:=w7.pick' [] 4 rfl rfl rfl
     dsimp only [pk,pks,nth,List.drop] at w8 s8
     obtain rfl:=Option.some.inj hp
     exact ⟨_,_,rfl,rfl,w8,(s0.trans (s2.trans (s3.trans (s4.trans (s5.trans (s6.trans (s7.trans s8))))))),trivial⟩
    ·replace hp:=bif_f hb hp
     obtain ⟨w9,s9⟩:=w7.pick' [1,2,3,0] 4 rfl rfl rfl
     dsimp only [pk,pks,nth,List.drop] at w9 s9
     exact ap.l3927_P (@ih) F rfl rfl rfl ⟨w9,(s0.trans (s2.trans (s3.trans (s4.trans (s5.trans (s6.trans (s7.trans s9))))))),(lP.step (s2.trans (s3.trans (s4.trans (s5.trans (s6.trans (s7.trans s9))))))),(lQ.step (s2.trans (s3.trans (s4.trans (s5.trans (s6.trans (s7.trans s9))))))),(wq.step (s2.trans (s3.trans (s4.trans (s5.trans (s6.trans (s7.trans s9)))))))⟩ hp
   ·replace hp:=bif_f hb hp
    obtain ⟨w10,s10⟩:=w7.pick' [1,2,3,0] 4 rfl rfl rfl
    dsimp only [pk,pks,nth,List.drop] at w10 s10
    exact ap.l3927_P (@ih) F rfl rfl rfl ⟨w10,(s0.trans (s2.trans (s3.trans (s4.trans (s5.trans (s6.trans (s7.trans s10))))))),(lP.step (s2.trans (s3.trans (s4.trans (s5.trans (s6.trans (s7.trans s10))))))),(lQ.step (s2.trans (s3.trans (s4.trans (s5.trans (s6.trans (s7.trans s10))))))),(wq.step (s2.trans (s3.trans (s4.trans (s5.trans (s6.trans (s7.trans s10)))))))⟩ hp
  ·replace hp:=bif_f hb hp
   obtain ⟨w11,s11⟩:=w0.pick' [] 3 rfl rfl rfl
   dsimp only [pk,pks,nth,List.drop] at w11 s11
   obtain rfl:=Option.some.inj hp
   exact ⟨_,_,rfl,rfl,w11,(s0.trans s11),trivial⟩
def ap.p (F:Nat) (ac:List (Int×Int×Int×Int×Int)):Option (Bool):=(mkn (IntKind.i64.wrap (2 * (ac.length:Int))) false).bind fun l2=>(mkn (IntKind.i64.wrap (2 * (ac.length:Int))) false).bind fun l4=>ap.pl61 F F ac (IntKind.i64.wrap (2 * (ac.length:Int))) l2 l4 0
theorem ap.P {F:Nat} {av:ON} {aj:Nat} {aw:Cap} {ac:List (Int×Int×Int×Int×Int)} {ab:Int} {H:Hp} {R0:List Rs} (ba:aj = ac.length) (h0:Inn H R0 fun R=>ROs (ePair (eInt .i64) (ePair (eInt .i64) (ePair (eInt .i64) (ePair (eInt .i64) (eInt .i64))))) H R ⟨av,aj,aw⟩ ac) {r:Bool} (hp:ap.p F ac = some r):∃ v H',ap.tw F ⟨av,aj,aw⟩ ab H = some (v,H')∧ap.Q H R0 R0  r v H':=by
 obtain ⟨w0,aH⟩:=h0
 subst ba
 unfold ap.p at hp
 unfold ap.tw ap.twX
 have s0:=w0.rf
 refine new_k w0 fun H1 w1 s1=>?_
 refine bind_ex (ldSl_of (w1.ld (i:=0) rfl rfl)) ?_
 obtain ⟨l2,e2,hp⟩:=bind_some' hp
 refine mk_k eBool false w1 rfl rfl rfl e2 fun H3 k3 w3 s3 c3=>?_
 obtain ⟨l4,e4,hp⟩:=bind_some' hp
 refine mk_k eBool false w3 rfl rfl rfl e4 fun H5 k5 w5 s5 c5=>?_
 obtain ⟨w6,s6⟩:=w5.pick' [2,1,0] 3 rfl rfl rfl
 dsimp only [pk,pks,nth,List.drop] at w6 s6
 exact ap.l61_P F rfl rfl rfl ⟨w6,(s0.trans (s1.trans (s3.trans (s5.trans s6)))),(aH.step (s1.trans (s3.trans (s5.trans s6)))),(c3.step (s5.trans s6)),(c5.step s6)⟩ hp
def ai.Q (H0:Hp) (Ri R0:List Rs)  (r:Int×Int) (v:AV) (H':Hp):Prop:=v = (.tup [(.int .i64 r.1),(.int .i64 r.2)])∧Out H0 Ri H' (R0) fun R=>True
def ai.S13 (H0:Hp) (Ri R0:List Rs)  (C:Int→Bool→Nat→Nat→Int→Hp→OA) (pC:Int→Bool→List (Int×Int×Int×Int×Int)→Int→Option (Int×Int)):Prop:=∀ {bV tY fv:Int} {fu:Bool} {pK:ON} {mq cL:Nat} {pL:Cap} {jF:List (Int×Int×Int×Int×Int)},∀ {H:Hp},mq = jF.length→(Out H0 Ri H (Rs.blk cL [.sl ⟨pK,mq,pL⟩,.int .i64 tY] :: R0) fun R=>ROs (ePair (eInt .i64) (ePair (eInt .i64) (ePair (eInt .i64) (ePair (eInt .i64) (eInt .i64))))) H R ⟨pK,mq,pL⟩ jF)→∀ {r:Int×Int},pC bV fu jF fv = some r→∃ v H',C bV fu cL 0 fv H = some (v,H')∧ai.Q H0 Ri R0  r v H'
def ai.S213 (H0:Hp) (Ri R0:List Rs)  (C:Int→Bool→Nat→Nat→Int→Int→Hp→OA) (pC:Int→Bool→List (Int×Int×Int×Int×Int)→Int→Int→Option (Int×Int)):Prop:=∀ {db tZ cW dc:Int} {dk:Bool} {pM:ON} {mr eG:Nat} {pN:Cap} {fV:List (Int×Int×Int×Int×Int)},∀ {H:Hp},mr = fV.length→(Out H0 Ri H (Rs.blk eG [.sl ⟨pM,mr,pN⟩,.int .i64 tZ] :: R0) fun R=>ROs (ePair (eInt .i64) (ePair (eInt .i64) (ePair (eInt .i64) (ePair (eInt .i64) (eInt .i64))))) H R ⟨pM,mr,pN⟩ fV)→∀ {r:Int×Int},pC db dk fV cW dc = some r→∃ v H',C db dk eG 0 cW dc H = some (v,H')∧ai.Q H0 Ri R0  r v H'
def ai.pj3 (F:Nat) (fW:Int→Bool→List (Int×Int×Int×Int×Int)→Int→Option (Int×Int)) (ju:Int) (kN:Bool) (ms:List (Int×Int×Int×Int×Int)) (kP:Int):Option (Int×Int):=fW ju kN ms (IntKind.i64.wrap (kP + 1))
theorem ai.j3_P {F:Nat} {H0:Hp} {Ri R0:List Rs}  {C13_:Int→Bool→Nat→Nat→Int→Hp→OA} {fW:Int→Bool→List (Int×Int×Int×Int×Int)→Int→Option (Int×Int)} (hC13:ai.S13 H0 Ri R0  C13_ fW) {ju Cp kP:Int} {kN:Bool} {wt:ON} {t_ kO:Nat} {wu:Cap} {ms:List (Int×Int×Int×Int×Int)} {H:Hp} (Cq:t_ = ms.length) (h0:Out H0 Ri H (Rs.blk kO [.sl ⟨wt,t_,wu⟩,.int .i64 Cp] :: R0) fun R=>ROs (ePair (eInt .i64) (ePair (eInt .i64) (ePair (eInt .i64) (ePair (eInt .i64) (eInt .i64))))) H R ⟨wt,t_,wu⟩ ms) {r:Int×Int} (hp:ai.pj3 F fW ju kN ms kP = some r):∃ v H',ai.j3 F (aZ.tw F) (a_.tw F) C13_ ju kN kO 0 kP H = some (v,H')∧ai.Q H0 Ri R0  r v H':=by
 obtain ⟨w0,s0,Cs⟩:=h0
 subst Cq
 unfold ai.pj3 at hp
 unfold ai.j3
 exact hC13 rfl ⟨w0,s0,Cs⟩ hp
def ai.pj4 (F:Nat) (fW:Int→Bool→List (Int×Int×Int×Int×Int)→Int→Option (Int×Int)) (kQ:Int) (kR:Bool) (mu:List (Int×Int×Int×Int×Int)) (kS:Int):Option (Int×Int):=ai.pj3 F fW kQ kR mu kS
theorem ai.j4_P {F:Nat} {H0:Hp} {Ri R0:List Rs}  {C13_:Int→Bool→Nat→Nat→Int→Hp→OA} {fW:Int→Bool→List (Int×Int×Int×Int×Int)→Int→Option (Int×Int)} (hC13:ai.S13 H0 Ri R0  C13_ fW) {kQ Ct kS:Int} {kR:Bool} {wv:ON} {ua pc:Nat} {ww:Cap} {mu:List (Int×Int×Int×Int×Int)} {H:Hp} (Cu:ua = mu.length) (h0:Out H0 Ri H (Rs.blk pc [.sl ⟨wv,ua,ww⟩,.int .i64 Ct] :: R0) fun R=>ROs (ePair (eInt .i64) (ePair (eInt .i64) (ePair (eInt .i64) (ePair (eInt .i64) (eInt .i64))))) H R ⟨wv,ua,ww⟩ mu) {r:Int×Int} (hp:ai.pj4 F fW kQ kR mu kS = some r):∃ v H',ai.j4 F (aZ.tw F) (a_.tw F) C13_ kQ kR pc 0 kS H = some (v,H')∧ai.Q H0 Ri R0  r v H':=by
 obtain ⟨w0,s0,Cv⟩:=h0
 subst Cu
 unfold ai.pj4 at hp
 unfold ai.j4
 exact ai.j3_P (@hC13) rfl ⟨w0,s0,Cv⟩ hp
def ai.pl213 (F:Nat) (fW:Int→Bool→List (Int×Int×Int×Int×Int)→Int→Option (Int×Int)):Nat→Int→Bool→List (Int×Int×Int×Int×Int)→Int→Int→Option (Int×Int)
 | 0,_,_,_,_,_=>none
 | k + 1,db,dk,fV,cW,dc=>(bif (decide (dc < 4)) then ((ix fV cW).bind fun n1=>(aZ.p F ((gt fV n1).1) ((gt fV n1).2.1) ((gt fV n1).2.2.1) ((gt fV n1).2.2.2.1) dc).bind fun r2=>(bif (r2 == db) then ((ix fV cW).bind fun n4=>(a_.p F ((gt fV n4).2.2.2.2) dc).bind fun r5=>(bif (r5 == dk) then (some (cW,dc)) else (ai.pl213 F fW k db dk fV cW (IntKind.i64.wrap (dc + 1))))) else (ai.pl213 F fW k db dk fV cW (IntKind.i64.wrap (dc + 1))))) else (ai.pj4 F fW db dk fV cW))
termination_by structural n=>n
theorem ai.l213_P {F:Nat} {H0:Hp} {Ri R0:List Rs}  {C13_:Int→Bool→Nat→Nat→Int→Hp→OA} {fW:Int→Bool→List (Int×Int×Int×Int×Int)→Int→Option (Int×Int)} (hC13:ai.S13 H0 Ri R0  C13_ fW):∀ k,ai.S213 H0 Ri R0  (ai.l213 F (aZ.tw F) (a_.tw F) C13_ k) (ai.pl213 F fW k):=by
 intro k
 induction k with
 | zero=>
  intro db tZ cW dc dk pM mr eG pN fV H wx h0 r hp
  exact nomatch (show (none:Option (Int×Int)) = some r from hp)
 | succ k ih=>
  intro db tZ cW dc dk pM mr eG pN fV H wx h0 r hp
  obtain ⟨w0,s0,mv⟩:=h0
  subst wx
  unfold ai.pl213 at hp
  unfold ai.l213
  refine bif_ex (fun hb=>?_) (fun hb=>?_)
  ·replace hp:=bif_t hb hp
   refine bind_ex (ldSl_of (w0.ld (i:=0) rfl rfl)) ?_
   obtain ⟨n1,g1,hp⟩:=bind_some' hp
   obtain ⟨p1,q1,i1,h1,j1⟩:=ROs.ixr mv rfl g1
   refine bind_ex i1 ?_
   obtain ⟨_,_,rfl,rfl,_,_,rfl,rfl,_,_,rfl,rfl,_,_,rfl,rfl,rfl⟩:=h1
   refine bind_ex (ldI_of (j1 0 _ rfl)) ?_
   refine bind_ex (ldI_of (j1 1 _ rfl)) ?_
   refine bind_ex (ldI_of (j1 2 _ rfl)) ?_
   refine bind_ex (ldI_of (j1 3 _ rfl)) ?_
   refine bind_ex (ldI_of (j1 4 _ rfl)) ?_
   obtain ⟨r2,e2,hp⟩:=bind_some' hp
   refine call_ex (aZ.P ⟨w0,trivial⟩ e2) ?_
   rintro _ H3 ⟨rfl,w3,s3,_⟩
   refine bind_ex rfl ?_
   refine bif_ex (fun hb=>?_) (fun hb=>?_)
   ·replace hp:=bif_t hb hp
    refine bind_ex (ldSl_of (w3.ld (i:=0) rfl rfl)) ?_
    obtain ⟨n4,g4,hp⟩:=bind_some' hp
    obtain ⟨p4,q4,i4,h4,j4⟩:=ROs.ixr (mv.step s3) rfl g4
    refine bind_ex i4 ?_
    obtain ⟨_,_,rfl,rfl,_,_,rfl,rfl,_,_,rfl,rfl,_,_,rfl,rfl,rfl⟩:=h4
    refine bind_ex (ldI_of (j4 0 _ rfl)) ?_
    refine bind_ex (ldI_of (j4 1 _ rfl)) ?_
    refine bind_ex (ldI_of (j4 2 _ rfl)) ?_
    refine bind_ex (ldI_of (j4 3 _ rfl)) ?_
    refine bind_ex (ldI_of (j4 4 _ rfl)) ?_
    obtain ⟨r5,e5,hp⟩:=bind_some' hp
    refine call_ex (a_.P ⟨w3,trivial⟩ e5) ?_
    rintro _ H6 ⟨rfl,w6,s6,_⟩
    refine bind_ex rfl ?_
    refine bif_ex (fun hb=>?_) (fun hb=>?_)
    ·replace hp:=bif_t hb hp
     obtain ⟨w7,s7⟩:=w6.pick' [] 1 rfl rfl rfl
     dsimp only [pk,pks,nth,List.drop] at w7 s7
     obtain rfl:=Option.some.inj hp
     exact ⟨_,_,rfl,rfl,w7,(s0.trans (s3.trans (s6.trans s7))),trivial⟩
    ·replace hp:=bif_f hb hp
     exact ih rfl ⟨w6,(s0.trans (s3.trans s6)),(mv.step (s3.trans s6))⟩ hp
   ·replace hp:=bif_f hb hp
    exact ih rfl ⟨w3,(s0.trans s3),(mv.step s3)⟩ hp
  ·replace hp:=bif_f hb hp
   exact ai.j4_P (@hC13) rfl ⟨w0,s0,mv⟩ hp
def ai.pl13 (F:Nat) :Nat→Int→Bool→List (Int×Int×Int×Int×Int)→Int→Option (Int×Int)
 | 0,_,_,_,_=>none
 | k + 1,bV,fu,jF,fv=>(bif (decide (fv < (jF.length:Int))) then (ai.pl213 F (ai.pl13 F k) F bV fu jF fv 0) else (some ((-1),(-1))))
termination_by structural n=>n
theorem ai.l13_P {F:Nat} {H0:Hp} {Ri R0:List Rs}  :∀ k,ai.S13 H0 Ri R0  (ai.l13 F (aZ.tw F) (a_.tw F)  k) (ai.pl13 F  k):=by
 intro k
 induction k with
 | zero=>
  intro bV tY fv fu pK mq cL pL jF H wy h0 r hp
  exact nomatch (show (none:Option (Int×Int)) = some r from hp)
 | succ k ih=>
  intro bV tY fv fu pK mq cL pL jF H wy h0 r hp
  obtain ⟨w0,s0,Cw⟩:=h0
  subst wy
  unfold ai.pl13 at hp
  unfold ai.l13
  refine bind_ex (ldSl_of (w0.ld (i:=0) rfl rfl)) ?_
  refine bif_ex (fun hb=>?_) (fun hb=>?_)
  ·replace hp:=bif_t hb hp
   exact ai.l213_P (@ih) F rfl ⟨w0,s0,Cw⟩ hp
  ·replace hp:=bif_f hb hp
   obtain ⟨w1,s1⟩:=w0.pick' [] 1 rfl rfl rfl
   dsimp only [pk,pks,nth,List.drop] at w1 s1
   obtain rfl:=Option.some.inj hp
   exact ⟨_,_,rfl,rfl,w1,(s0.trans s1),trivial⟩
def ai.p (F:Nat) (ac:List (Int×Int×Int×Int×Int)) (af:Int) (bJ:Bool):Option (Int×Int):=ai.pl13 F F af bJ ac 0
theorem ai.P {F:Nat} {av:ON} {aj:Nat} {aw:Cap} {ac:List (Int×Int×Int×Int×Int)} {ab af:Int} {bJ:Bool} {H:Hp} {R0:List Rs} (ba:aj = ac.length) (h0:Inn H R0 fun R=>ROs (ePair (eInt .i64) (ePair (eInt .i64) (ePair (eInt .i64) (ePair (eInt .i64) (eInt .i64))))) H R ⟨av,aj,aw⟩ ac) {r:Int×Int} (hp:ai.p F ac af bJ = some r):∃ v H',ai.tw F ⟨av,aj,aw⟩ ab af bJ H = some (v,H')∧ai.Q H R0 R0  r v H':=by
 obtain ⟨w0,aH⟩:=h0
 subst ba
 unfold ai.p at hp
 unfold ai.tw ai.twX
 have s0:=w0.rf
 refine new_k w0 fun H1 w1 s1=>?_
 exact ai.l13_P F rfl ⟨w1,(s0.trans s1),(aH.step s1)⟩ hp
def bn.Q (H0:Hp) (Ri R0:List Rs)  (r:Int) (v:AV) (H':Hp):Prop:=v = (.int .i64 r)∧Out H0 Ri H' (R0) fun R=>True
def bn.p (F:Nat) (ac:List (Int×Int×Int×Int×Int)) (af:Int):Option (Int):=(ix ac (IntKind.i64.wrap (Int.tdiv af 4))).bind fun n2=>(aZ.p F ((gt ac n2).1) ((gt ac n2).2.1) ((gt ac n2).2.2.1) ((gt ac n2).2.2.2.1) (Int.tmod (IntKind.i64.wrap ((Int.tmod af 4) + 1)) 4)).bind fun r9=>(a_.p F ((gt ac n2).2.2.2.2) (Int.tmod (IntKind.i64.wrap ((Int.tmod af 4) + 1)) 4)).bind fun r12=>(ai.p F ac r9 (!r12)).bind fun r15=>some (IntKind.i64.wrap ((IntKind.i64.wrap (4 * r15.1)) + r15.2))
theorem bn.P {F:Nat} {av:ON} {aj:Nat} {aw:Cap} {ac:List (Int×Int×Int×Int×Int)} {ab af:Int} {H:Hp} {R0:List Rs} (ba:aj = ac.length) (h0:Inn H R0 fun R=>ROs (ePair (eInt .i64) (ePair (eInt .i64) (ePair (eInt .i64) (ePair (eInt .i64) (eInt .i64))))) H R ⟨av,aj,aw⟩ ac) {r:Int} (hp:bn.p F ac af = some r):∃ v H',bn.tw F ⟨av,aj,aw⟩ ab af H = some (v,H')∧bn.Q H R0 R0  r v H':=by
 obtain ⟨w0,aH⟩:=h0
 subst ba
 unfold bn.p at hp
 unfold bn.tw bn.twX
 have s0:=w0.rf
 refine new_k w0 fun H1 w1 s1=>?_
 refine bind_ex (ldSl_of (w1.ld (i:=0) rfl rfl)) ?_
 obtain ⟨n2,g2,hp⟩:=bind_some' hp
 obtain ⟨p2,q2,i2,h2,j2⟩:=ROs.ixr (aH.step s1) rfl g2
 refine bind_ex i2 ?_
 obtain ⟨_,_,rfl,rfl,_,_,rfl,rfl,_,_,rfl,rfl,_,_,rfl,rfl,rfl⟩:=h2
 refine bind_ex (ldI_of (j2 0 _ rfl)) ?_
 refine bind_ex (ldI_of (j2 1 _ rfl)) ?_
 refine bind_ex (ldI_of (j2 2 _ rfl)) ?_
 refine bind_ex (ldI_of (j2 3 _ rfl)) ?_
 refine bind_ex (ldI_of (j2 4 _ rfl)) ?_
 refine new_k w1 fun H3 w3 s3=>?_
 refine st_k w3 (i:=0) rfl rfl rfl fun H4 w4 s4=>?_
 dsimp only [List.set] at w4 s4
 refine st_k w4 (i:=0) rfl rfl rfl fun H5 w5 s5=>?_
 dsimp only [List.set] at w5 s5
 refine st_k w5 (i:=0) rfl rfl rfl fun H6 w6 s6=>?_
 dsimp only [List.set] at w6 s6
 refine st_k w6 (i:=0) rfl rfl rfl fun H7 w7 s7=>?_
 dsimp only [List.set] at w7 s7
 refine st_k w7 (i:=0) rfl rfl rfl fun H8 w8 s8=>?_
 dsimp only [List.set] at w8 s8
 refine bind_ex (ldSl_of (w8.ld (i:=1) rfl rfl)) ?_
 refine bind_ex (ldI_of (w8.ld (i:=1) rfl rfl)) ?_
 refine bind_ex (ldI_of (w8.ld (i:=0) rfl rfl)) ?_
 refine bind_ex (ldI_of (w8.ld (i:=0) rfl rfl)) ?_
 refine bind_ex (ldI_of (w8.ld (i:=0) rfl rfl)) ?_
 refine bind_ex (ldI_of (w8.ld (i:=0) rfl rfl)) ?_
 refine bind_ex (ldI_of (w8.ld (i:=0) rfl rfl)) ?_
 obtain ⟨r9,e9,hp⟩:=bind_some' hp
 refine call_ex (aZ.P ⟨w8,trivial⟩ e9) ?_
 rintro _ H10 ⟨rfl,w10,s10,_⟩
 refine bind_ex rfl ?_
 refine ifs_ex (W.cons_of (Rn:=[]) w8 w10 s10) ?_
 refine bind_ex (ldI_of (w10.ld (i:=0) rfl rfl)) ?_
 refine bind_ex (ldI_of (w10.ld (i:=0) rfl rfl)) ?_
 refine bind_ex (ldI_of (w10.ld (i:=0) rfl rfl)) ?_
 refine bind_ex (ldI_of (w10.ld (i:=0) rfl rfl)) ?_
 refine bind_ex (ldI_of (w10.ld (i:=0) rfl rfl)) ?_
 obtain ⟨r12,e12,hp⟩:=bind_some' hp
 refine call_ex (a_.P ⟨w10,trivial⟩ e12) ?_
 rintro _ H13 ⟨rfl,w13,s13,_⟩
 refine bind_ex rfl ?_
 refine ifs_ex (W.cons_of (Rn:=[]) w10 w13 s13) ?_
 obtain ⟨r15,e15,hp⟩:=bind_some' hp
 refine call_ex (ai.P rfl ⟨w13,(aH.step (s1.trans (s3.trans (s4.trans (s5.trans (s6.trans (s7.trans (s8.trans (s10.trans s13)))))))))⟩ e15) ?_
 rintro _ H16 ⟨rfl,w16,s16,_⟩
 refine bind_ex rfl ?_
 refine bind_ex rfl ?_
 refine bind_ex rfl ?_
 refine bind_ex rfl ?_
 refine bind_ex rfl ?_
 obtain ⟨w17,s17⟩:=w16.pick' [] 2 rfl rfl rfl
 dsimp only [pk,pks,nth,List.drop] at w17 s17
 obtain rfl:=Option.some.inj hp
 exact ⟨_,_,rfl,rfl,w17,(s0.trans (s1.trans (s3.trans (s4.trans (s5.trans (s6.trans (s7.trans (s8.trans (s10.trans (s13.trans (s16.trans s17))))))))))),trivial⟩
def ao.Q (H0:Hp) (Ri R0:List Rs)  (r:List (List Int)) (v:AV) (H':Hp):Prop:=∃ o0a:ON,∃ o0n:Nat,∃ o0c:Cap,∃ o0k:List AV,v = (.sl ⟨o0a,o0n,o0c⟩)∧o0n = (r).length∧Out H0 Ri H' (Rs.own ⟨o0a,o0n,o0c⟩ (eSl (eInt .i64)).z o0k :: R0) fun R=>CR (eSl (eInt .i64)) H' R o0k (r)
def ao.S61 (H0:Hp) (Ri R0:List Rs)  (C:Nat→Nat→Sl→Sl→Int→Hp→OA) (pC:List (Int×Int×Int×Int×Int)→List (List Int)→List Bool→Int→Option (List (List Int))):Prop:=∀ {iW pO iX:ON} {io ch mw ip:Nat} {iY pP iZ:Cap} {cF:List (Int×Int×Int×Int×Int)} {kp cp:Int} {jb:List (List Int)} {pQ i_:List AV} {eU:List Bool},∀ {H:Hp},io = cF.length→mw = jb.length→ip = eU.length→(Out H0 Ri H (Rs.blk ch [.sl ⟨iW,io,iY⟩,.int .i64 kp] :: Rs.own ⟨pO,mw,pP⟩ (eSl (eInt .i64)).z pQ :: Rs.own ⟨iX,ip,iZ⟩ eBool.z i_ :: R0) fun R=>ROs (ePair (eInt .i64) (ePair (eInt .i64) (ePair (eInt .i64) (ePair (eInt .i64) (eInt .i64))))) H R ⟨iW,io,iY⟩ cF∧CR (eSl (eInt .i64)) H R pQ jb∧CR eBool H R i_ eU)→∀ {r:List (List Int)},pC cF jb eU cp = some r→∃ v H',C ch 0 ⟨pO,mw,pP⟩ ⟨iX,ip,iZ⟩ cp H = some (v,H')∧ao.Q H0 Ri R0  r v H'
def ao.pj4 (F:Nat) (aJ:List (Int×Int×Int×Int×Int)→List (List Int)→List Bool→Int→Option (List (List Int))) (mx:List (Int×Int×Int×Int×Int)) (mz:List (List Int)) (mA:List Bool) (kT:Int):Option (List (List Int)):=aJ mx mz mA (IntKind.i64.wrap (kT + 1))
theorem ao.j4_P {F:Nat} {H0:Hp} {Ri R0:List Rs}  {C61_:Nat→Nat→Sl→Sl→Int→Hp→OA} {aJ:List (Int×Int×Int×Int×Int)→List (List Int)→List Bool→Int→Option (List (List Int))} (hC61:ao.S61 H0 Ri R0  C61_ aJ) {wz wA wB:ON} {ub pd uc ud:Nat} {wC wD wE:Cap} {mx:List (Int×Int×Int×Int×Int)} {Cx kT:Int} {mz:List (List Int)} {wF wG:List AV} {mA:List Bool} {H:Hp} (Cy:ub = mx.length) (Cz:uc = mz.length) (CA:ud = mA.length) (h0:Out H0 Ri H (Rs.blk pd [.sl ⟨wz,ub,wC⟩,.int .i64 Cx] :: Rs.own ⟨wA,uc,wD⟩ (eSl (eInt .i64)).z wF :: Rs.own ⟨wB,ud,wE⟩ eBool.z wG :: R0) fun R=>ROs (ePair (eInt .i64) (ePair (eInt .i64) (ePair (eInt .i64) (ePair (eInt .i64) (eInt .i64))))) H R ⟨wz,ub,wC⟩ mx∧CR (eSl (eInt .i64)) H R wF mz∧CR eBool H R wG mA) {r:List (List Int)} (hp:ao.pj4 F aJ mx mz mA kT = some r):∃ v H',ao.j4 F (bn.tw F) C61_ pd 0 ⟨wA,uc,wD⟩ ⟨wB,ud,wE⟩ kT H = some (v,H')∧ao.Q H0 Ri R0  r v H':=by
 obtain ⟨w0,s0,CB,CC,CD⟩:=h0
 subst Cy
 subst Cz
 subst CA
 unfold ao.pj4 at hp
 unfold ao.j4
 exact hC61 rfl rfl rfl ⟨w0,s0,CB,CC,CD⟩ hp
def ao.S7853 (H0:Hp) (Ri R0:List Rs)  (C:Nat→Nat→Sl→Sl→Int→Sl→Int→Hp→OA) (pC:List (Int×Int×Int×Int×Int)→List (List Int)→List Bool→Int→List Int→Int→Option (List (List Int))):Prop:=∀ {pR pS pT pU:ON} {mB dX mC mD mE:Nat} {pV pW pX pY:Cap} {jc:List (Int×Int×Int×Int×Int)} {ue eH dv:Int} {jG:List (List Int)} {pZ p_ qd:List AV} {iq:List Bool} {jH:List Int},∀ {H:Hp},mB = jc.length→mC = jG.length→mD = iq.length→mE = jH.length→(Out H0 Ri H (Rs.blk dX [.sl ⟨pR,mB,pV⟩,.int .i64 ue] :: Rs.own ⟨pS,mC,pW⟩ (eSl (eInt .i64)).z pZ :: Rs.own ⟨pT,mD,pX⟩ eBool.z p_ :: Rs.own ⟨pU,mE,pY⟩ (eInt .i64).z qd :: R0) fun R=>ROs (ePair (eInt .i64) (ePair (eInt .i64) (ePair (eInt .i64) (ePair (eInt .i64) (eInt .i64))))) H R ⟨pR,mB,pV⟩ jc∧CR (eSl (eInt .i64)) H R pZ jG∧CR eBool H R p_ iq∧CR (eInt .i64) H R qd jH)→∀ {r:List (List Int)},pC jc jG iq eH jH dv = some r→∃ v H',C dX 0 ⟨pS,mC,pW⟩ ⟨pT,mD,pX⟩ eH ⟨pU,mE,pY⟩ dv H = some (v,H')∧ao.Q H0 Ri R0  r v H'
def ao.pj5 (F:Nat) (aJ:List (Int×Int×Int×Int×Int)→List (List Int)→List Bool→Int→Option (List (List Int))) (mF:List (Int×Int×Int×Int×Int)) (mG:List (List Int)) (mH:List Bool) (kU:Int):Option (List (List Int)):=aJ mF mG mH (IntKind.i64.wrap (kU + 1))
theorem ao.j5_P {F:Nat} {H0:Hp} {Ri R0:List Rs}  {C61_:Nat→Nat→Sl→Sl→Int→Hp→OA} {aJ:List (Int×Int×Int×Int×Int)→List (List Int)→List Bool→Int→Option (List (List Int))} (hC61:ao.S61 H0 Ri R0  C61_ aJ) {wH wI wJ:ON} {ug pe uh ui:Nat} {wK wL wM:Cap} {mF:List (Int×Int×Int×Int×Int)} {CE kU:Int} {mG:List (List Int)} {wN wO:List AV} {mH:List Bool} {H:Hp} (CF:ug = mF.length) (CG:uh = mG.length) (CH:ui = mH.length) (h0:Out H0 Ri H (Rs.blk pe [.sl ⟨wH,ug,wK⟩,.int .i64 CE] :: Rs.own ⟨wI,uh,wL⟩ (eSl (eInt .i64)).z wN :: Rs.own ⟨wJ,ui,wM⟩ eBool.z wO :: R0) fun R=>ROs (ePair (eInt .i64) (ePair (eInt .i64) (ePair (eInt .i64) (ePair (eInt .i64) (eInt .i64))))) H R ⟨wH,ug,wK⟩ mF∧CR (eSl (eInt .i64)) H R wN mG∧CR eBool H R wO mH) {r:List (List Int)} (hp:ao.pj5 F aJ mF mG mH kU = some r):∃ v H',ao.j5 F (bn.tw F) C61_ pe 0 ⟨wI,uh,wL⟩ ⟨wJ,ui,wM⟩ kU H = some (v,H')∧ao.Q H0 Ri R0  r v H':=by
 obtain ⟨w0,s0,CI,CJ,CK⟩:=h0
 subst CF
 subst CG
 subst CH
 unfold ao.pj5 at hp
 unfold ao.j5
 exact hC61 rfl rfl rfl ⟨w0,s0,CI,CJ,CK⟩ hp
def ao.pj6 (F:Nat) (aJ:List (Int×Int×Int×Int×Int)→List (List Int)→List Bool→Int→Option (List (List Int))) (mI:List (Int×Int×Int×Int×Int)) (mJ:List (List Int)) (mK:List Bool) (kV:Int) (kq:List Int):Option (List (List Int)):=(apn mJ ([kq]:List (List Int))).bind fun l3=>ao.pj5 F aJ mI l3 mK kV
theorem ao.j6_P {F:Nat} {H0:Hp} {Ri R0:List Rs}  {C61_:Nat→Nat→Sl→Sl→Int→Hp→OA} {aJ:List (Int×Int×Int×Int×Int)→List (List Int)→List Bool→Int→Option (List (List Int))} (hC61:ao.S61 H0 Ri R0  C61_ aJ) {wP wQ wR wS:ON} {uj pf uk ul um:Nat} {wT wU wV wW:Cap} {mI:List (Int×Int×Int×Int×Int)} {CL kV:Int} {mJ:List (List Int)} {wX wY wZ:List AV} {mK:List Bool} {kq:List Int} {H:Hp} (CN:uj = mI.length) (CO:uk = mJ.length) (CP:ul = mK.length) (CQ:um = kq.length) (h0:Out H0 Ri H (Rs.blk pf [.sl ⟨wP,uj,wT⟩,.int .i64 CL] :: Rs.own ⟨wQ,uk,wU⟩ (eSl (eInt .i64)).z wX :: Rs.own ⟨wR,ul,wV⟩ eBool.z wY :: Rs.own ⟨wS,um,wW⟩ (eInt .i64).z wZ :: R0) fun R=>ROs (ePair (eInt .i64) (ePair (eInt .i64) (ePair (eInt .i64) (ePair (eInt .i64) (eInt .i64))))) H R ⟨wP,uj,wT⟩ mI∧CR (eSl (eInt .i64)) H R wX mJ∧CR eBool H R wY mK∧CR (eInt .i64) H R wZ kq) {r:List (List Int)} (hp:ao.pj6 F aJ mI mJ mK kV kq = some r):∃ v H',ao.j6 F (bn.tw F) C61_ pf 0 ⟨wQ,uk,wU⟩ ⟨wR,ul,wV⟩ kV ⟨wS,um,wW⟩ H = some (v,H')∧ao.Q H0 Ri R0  r v H':=by
 obtain ⟨w0,s0,CS,CT,CU,CV⟩:=h0
 subst CN
 subst CO
 subst CP
 subst CQ
 unfold ao.pj6 at hp
 unfold ao.j6
 obtain ⟨w1,s1,f1⟩:=w0.frz (i:=3) (eInt .i64) rfl CV
 dsimp only [List.eraseIdx] at w1 s1 f1
 refine newS_k (eSl (eInt .i64)) w1 (n:=1) (l:=([kq]:List (List Int))) rfl (CR.cons1 ⟨_,rfl,f1⟩ CR.empty) rfl fun H2 w2 s2 c2=>?_
 refine bind_ex (w2.rowo (i:=0) rfl) ?_
 obtain ⟨l3,e3,hp⟩:=bind_some' hp
 refine app_k (eSl (eInt .i64)) w2 (i:=2) rfl rfl (CT.step (s1.trans s2)) c2 (show 1 = List.length ([kq]:List (List Int)) from rfl) rfl e3 fun a4 d4 H4 w4 s4 c4 x4=>?_
 dsimp only [List.set] at w4 s4 c4
 obtain ⟨w5,s5⟩:=w4.pick' [1,2,3] 4 rfl rfl rfl
 dsimp only [pk,pks,nth,List.drop] at w5 s5
 exact ao.j5_P (@hC61) rfl rfl rfl ⟨w5,(s0.trans (s1.trans (s2.trans (s4.trans s5)))),(CS.step (s1.trans (s2.trans (s4.trans s5)))),(c4.step s5),(CU.step (s1.trans (s2.trans (s4.trans s5))))⟩ hp
def ao.pl7853 (F:Nat) (aJ:List (Int×Int×Int×Int×Int)→List (List Int)→List Bool→Int→Option (List (List Int))):Nat→List (Int×Int×Int×Int×Int)→List (List Int)→List Bool→Int→List Int→Int→Option (List (List Int))
 | 0,_,_,_,_,_,_=>none
 | k + 1,jc,jG,iq,eH,jH,dv=>(ix iq dv).bind fun n1=>(bif (!(gt iq n1)) then ((ix iq dv).bind fun n2=>(some (iq.set n2 true)).bind fun l3=>(apn jH ([dv]:List Int)).bind fun l6=>(bn.p F jc dv).bind fun r8=>ao.pl7853 F aJ k jc jG l3 eH l6 r8) else (ao.pj6 F aJ jc jG iq eH jH))
termination_by structural n=>n
theorem ao.l7853_P {F:Nat} {H0:Hp} {Ri R0:List Rs}  {C61_:Nat→Nat→Sl→Sl→Int→Hp→OA} {aJ:List (Int×Int×Int×Int×Int)→List (List Int)→List Bool→Int→Option (List (List Int))} (hC61:ao.S61 H0 Ri R0  C61_ aJ):∀ k,ao.S7853 H0 Ri R0  (ao.l7853 F (bn.tw F) C61_ k) (ao.pl7853 F aJ k):=by
 intro k
 induction k with
 | zero=>
  intro pR pS pT pU mB dX mC mD mE pV pW pX pY jc ue eH dv jG pZ p_ qd iq jH H w_ xa xb xc h0 r hp
  exact nomatch (show (none:Option (List (List Int))) = some r from hp)
 | succ k ih=>
  intro pR pS pT pU mB dX mC mD mE pV pW pX pY jc ue eH dv jG pZ p_ qd iq jH H w_ xa xb xc h0 r hp
  obtain ⟨w0,s0,un,xd,qe,xe⟩:=h0
  subst w_
  subst xa
  subst xb
  subst xc
  unfold ao.pl7853 at hp
  unfold ao.l7853
  obtain ⟨n1,g1,hp⟩:=bind_some' hp
  obtain ⟨p1,q1,i1,h1,j1⟩:=W.ixo (E:=eBool) w0 (i:=2) rfl rfl qe g1
  refine bind_ex i1 ?_
  have h1:_ = [_]:=h1
  subst h1
  refine bind_ex (ldB_of (j1 0 _ rfl)) ?_
  refine bif_ex (fun hb=>?_) (fun hb=>?_)
  ·replace hp:=bif_t hb hp
   obtain ⟨n2,g2,hp⟩:=bind_some' hp
   obtain ⟨p2,q2,i2,h2,j2⟩:=W.ixo (E:=eBool) w0 (i:=2) rfl rfl qe g2
   refine bind_ex i2 ?_
   obtain ⟨l3,e3,hp⟩:=bind_some' hp
   refine sto_k eBool w0 (i:=2) (j:=0) (p:=p2) rfl rfl qe g2 i2 e3 rfl rfl (fun _ h=>by have h:_ = [_]:=h; subst h; exact rfl) fun H4 k4 w4 s4 c4=>?_
   dsimp only [List.set] at w4 s4 c4
   refine newS_k (eInt .i64) w4 (n:=1) (l:=([dv]:List Int)) rfl (CR.cons1 rfl CR.empty) rfl fun H5 w5 s5 c5=>?_
   refine bind_ex (w5.rowo (i:=0) rfl) ?_
   obtain ⟨l6,e6,hp⟩:=bind_some' hp
   refine app_k (eInt .i64) w5 (i:=4) rfl rfl (xe.step (s4.trans s5)) c5 (show 1 = List.length ([dv]:List Int) from rfl) rfl e6 fun a7 d7 H7 w7 s7 c7 x7=>?_
   dsimp only [List.set] at w7 s7 c7
   refine bind_ex (ldSl_of (w7.ld (i:=1) rfl rfl)) ?_
   refine bind_ex (ldI_of (w7.ld (i:=1) rfl rfl)) ?_
   obtain ⟨r8,e8,hp⟩:=bind_some' hp
   refine call_ex (bn.P rfl ⟨w7,(un.step (s4.trans (s5.trans s7)))⟩ e8) ?_
   rintro _ H9 ⟨rfl,w9,s9,_⟩
   refine bind_ex rfl ?_
   obtain ⟨w10,s10⟩:=w9.pick' [1,2,3,4] 5 rfl rfl rfl
   dsimp only [pk,pks,nth,List.drop] at w10 s10
   exact ih rfl rfl ((st_len e3).symm) rfl ⟨w10,(s0.trans (s4.trans (s5.trans (s7.trans (s9.trans s10))))),(un.step (s4.trans (s5.trans (s7.trans (s9.trans s10))))),(xd.step (s4.trans (s5.trans (s7.trans (s9.trans s10))))),(c4.step (s5.trans (s7.trans (s9.trans s10)))),(c7.step (s9.trans s10))⟩ hp
  ·replace hp:=bif_f hb hp
   exact ao.j6_P (@hC61) rfl rfl rfl rfl ⟨w0,s0,un,xd,qe,xe⟩ hp
def ao.pl61 (F:Nat) :Nat→List (Int×Int×Int×Int×Int)→List (List Int)→List Bool→Int→Option (List (List Int))
 | 0,_,_,_,_=>none
 | k + 1,cF,jb,eU,cp=>(bif (decide (cp < (eU.length:Int))) then ((ix eU cp).bind fun n1=>(bif (gt eU n1) then (ao.pj4 F (ao.pl61 F k) cF jb eU cp) else (ao.pl7853 F (ao.pl61 F k) F cF jb eU cp ([]:List Int) cp))) else (some jb))
termination_by structural n=>n
theorem ao.l61_P {F:Nat} {H0:Hp} {Ri R0:List Rs}  :∀ k,ao.S61 H0 Ri R0  (ao.l61 F (bn.tw F)  k) (ao.pl61 F  k):=by
 intro k
 induction k with
 | zero=>
  intro iW pO iX io ch mw ip iY pP iZ cF kp cp jb pQ i_ eU H mo xf mp h0 r hp
  exact nomatch (show (none:Option (List (List Int))) = some r from hp)
 | succ k ih=>
  intro iW pO iX io ch mw ip iY pP iZ cF kp cp jb pQ i_ eU H mo xf mp h0 r hp
  obtain ⟨w0,s0,lP,uo,lQ⟩:=h0
  subst mo
  subst xf
  subst mp
  unfold ao.pl61 at hp
  unfold ao.l61
  refine bif_ex (fun hb=>?_) (fun hb=>?_)
  ·replace hp:=bif_t hb hp
   obtain ⟨n1,g1,hp⟩:=bind_some' hp
   obtain ⟨p1,q1,i1,h1,j1⟩:=W.ixo (E:=eBool) w0 (i:=2) rfl rfl lQ g1
   refine bind_ex i1 ?_
   have h1:_ = [_]:=h1
   subst h1
   refine bind_ex (ldB_of (j1 0 _ rfl)) ?_
   refine bif_ex (fun hb=>?_) (fun hb=>?_)
   ·replace hp:=bif_t hb hp
    exact ao.j4_P (@ih) rfl rfl rfl ⟨w0,s0,lP,uo,lQ⟩ hp
   ·replace hp:=bif_f hb hp
    refine newS_k (eInt .i64) w0 (n:=0) (l:=([]:List Int)) rfl CR.empty rfl fun H2 w2 s2 c2=>?_
    obtain ⟨w3,s3⟩:=w2.pick' [1,2,3,0] 4 rfl rfl rfl
    dsimp only [pk,pks,nth,List.drop] at w3 s3
    exact ao.l7853_P (@ih) F rfl rfl rfl (show 0 = List.length ([]:List Int) from rfl) ⟨w3,(s0.trans (s2.trans s3)),(lP.step (s2.trans s3)),(uo.step (s2.trans s3)),(lQ.step (s2.trans s3)),(c2.step s3)⟩ hp
  ·replace hp:=bif_f hb hp
   obtain ⟨w4,s4⟩:=w0.pick' [1] 3 rfl rfl rfl
   dsimp only [pk,pks,nth,List.drop] at w4 s4
   obtain rfl:=Option.some.inj hp
   exact ⟨_,_,rfl,_,_,_,_,rfl,rfl,w4,(s0.trans s4),(uo.step s4)⟩
def ao.p (F:Nat) (ac:List (Int×Int×Int×Int×Int)):Option (List (List Int)):=(mkn (IntKind.i64.wrap (4 * (ac.length:Int))) false).bind fun l3=>ao.pl61 F F ac ([]:List (List Int)) l3 0
theorem ao.P {F:Nat} {av:ON} {aj:Nat} {aw:Cap} {ac:List (Int×Int×Int×Int×Int)} {ab:Int} {H:Hp} {R0:List Rs} (ba:aj = ac.length) (h0:Inn H R0 fun R=>ROs (ePair (eInt .i64) (ePair (eInt .i64) (ePair (eInt .i64) (ePair (eInt .i64) (eInt .i64))))) H R ⟨av,aj,aw⟩ ac) {r:List (List Int)} (hp:ao.p F ac = some r):∃ v H',ao.tw F ⟨av,aj,aw⟩ ab H = some (v,H')∧ao.Q H R0 R0  r v H':=by
 obtain ⟨w0,aH⟩:=h0
 subst ba
 unfold ao.p at hp
 unfold ao.tw ao.twX
 have s0:=w0.rf
 refine new_k w0 fun H1 w1 s1=>?_
 refine newS_k (eSl (eInt .i64)) w1 (n:=0) (l:=([]:List (List Int))) rfl CR.empty rfl fun H2 w2 s2 c2=>?_
 refine bind_ex (ldSl_of (w2.ld (i:=1) rfl rfl)) ?_
 obtain ⟨l3,e3,hp⟩:=bind_some' hp
 refine mk_k eBool false w2 rfl rfl rfl e3 fun H4 k4 w4 s4 c4=>?_
 obtain ⟨w5,s5⟩:=w4.pick' [2,1,0] 3 rfl rfl rfl
 dsimp only [pk,pks,nth,List.drop] at w5 s5
 exact ao.l61_P F rfl (show 0 = List.length ([]:List (List Int)) from rfl) rfl ⟨w5,(s0.trans (s1.trans (s2.trans (s4.trans s5)))),(aH.step (s1.trans (s2.trans (s4.trans s5)))),(c2.step (s4.trans s5)),(c4.step s5)⟩ hp
def ag.Q (H0:Hp) (Ri R0:List Rs)  (r:List Int) (v:AV) (H':Hp):Prop:=∃ o0a:ON,∃ o0n:Nat,∃ o0c:Cap,∃ o0k:List AV,v = (.sl ⟨o0a,o0n,o0c⟩)∧o0n = (r).length∧Out H0 Ri H' (Rs.own ⟨o0a,o0n,o0c⟩ (eInt .i64).z o0k :: R0) fun R=>CR (eInt .i64) H' R o0k (r)
def ag.S29 (H0:Hp) (Ri R0:List Rs)  (C:Nat→Nat→Sl→Int→Hp→OA) (pC:List (Int×Int×Int×Int×Int)→List Int→Int→Option (List Int)):Prop:=∀ {jd qf:ON} {ir cl mL:Nat} {je qg:Cap} {fq:List (Int×Int×Int×Int×Int)} {iu cv:Int} {jI:List Int} {qh:List AV},∀ {H:Hp},ir = fq.length→mL = jI.length→(Out H0 Ri H (Rs.blk cl [.sl ⟨jd,ir,je⟩,.int .i64 iu] :: Rs.own ⟨qf,mL,qg⟩ (eInt .i64).z qh :: R0) fun R=>ROs (ePair (eInt .i64) (ePair (eInt .i64) (ePair (eInt .i64) (ePair (eInt .i64) (eInt .i64))))) H R ⟨jd,ir,je⟩ fq∧CR (eInt .i64) H R qh jI)→∀ {r:List Int},pC fq jI cv = some r→∃ v H',C cl 0 ⟨qf,mL,qg⟩ cv H = some (v,H')∧ag.Q H0 Ri R0  r v H'
def ag.S61 (H0:Hp) (Ri R0:List Rs)  (C:Nat→Nat→Sl→Int→Hp→OA) (pC:List (Int×Int×Int×Int×Int)→List Int→Int→Option (List Int)):Prop:=∀ {jf qi:ON} {iv cd mM:Nat} {jg qj:Cap} {eA:List (Int×Int×Int×Int×Int)} {kr bS:Int} {g_:List Int} {qk:List AV},∀ {H:Hp},iv = eA.length→mM = g_.length→(Out H0 Ri H (Rs.blk cd [.sl ⟨jf,iv,jg⟩,.int .i64 kr] :: Rs.own ⟨qi,mM,qj⟩ (eInt .i64).z qk :: R0) fun R=>ROs (ePair (eInt .i64) (ePair (eInt .i64) (ePair (eInt .i64) (ePair (eInt .i64) (eInt .i64))))) H R ⟨jf,iv,jg⟩ eA∧CR (eInt .i64) H R qk g_)→∀ {r:List Int},pC eA g_ bS = some r→∃ v H',C cd 0 ⟨qi,mM,qj⟩ bS H = some (v,H')∧ag.Q H0 Ri R0  r v H'
def ag.S7855 (H0:Hp) (Ri R0:List Rs)  (C:Nat→Nat→Sl→Int→Int→Int→Int→Hp→OA) (pC:List (Int×Int×Int×Int×Int)→List Int→Int→Int→Int→Int→Option (List Int)):Prop:=∀ {ql qn:ON} {mN eC mO:Nat} {qo qp:Cap} {jh:List (Int×Int×Int×Int×Int)} {uq dL cM cX dw:Int} {gM:List Int} {qq:List AV},∀ {H:Hp},mN = jh.length→mO = gM.length→(Out H0 Ri H (Rs.blk eC [.sl ⟨ql,mN,qo⟩,.int .i64 uq] :: Rs.own ⟨qn,mO,qp⟩ (eInt .i64).z qq :: R0) fun R=>ROs (ePair (eInt .i64) (ePair (eInt .i64) (ePair (eInt .i64) (ePair (eInt .i64) (eInt .i64))))) H R ⟨ql,mN,qo⟩ jh∧CR (eInt .i64) H R qq gM)→∀ {r:List Int},pC jh gM dL cM cX dw = some r→∃ v H',C eC 0 ⟨qn,mO,qp⟩ dL cM cX dw H = some (v,H')∧ag.Q H0 Ri R0  r v H'
def ag.pj8 (F:Nat) (qr:List (Int×Int×Int×Int×Int)→List Int→Int→Int→Int→Int→Option (List Int)) (mP:List (Int×Int×Int×Int×Int)) (mQ:List Int) (kY:Int) (kZ:Int) (k_:Int) (lf:Int):Option (List Int):=qr mP mQ kY kZ k_ (IntKind.i64.wrap (lf + 1))
theorem ag.j8_P {F:Nat} {H0:Hp} {Ri R0:List Rs}  {C7855_:Nat→Nat→Sl→Int→Int→Int→Int→Hp→OA} {qr:List (Int×Int×Int×Int×Int)→List Int→Int→Int→Int→Int→Option (List Int)} (hC7855:ag.S7855 H0 Ri R0  C7855_ qr) {xg xh:ON} {ur pi ut:Nat} {xi xj:Cap} {mP:List (Int×Int×Int×Int×Int)} {CW kY kZ k_ lf:Int} {mQ:List Int} {xk:List AV} {H:Hp} (CX:ur = mP.length) (CY:ut = mQ.length) (h0:Out H0 Ri H (Rs.blk pi [.sl ⟨xg,ur,xi⟩,.int .i64 CW] :: Rs.own ⟨xh,ut,xj⟩ (eInt .i64).z xk :: R0) fun R=>ROs (ePair (eInt .i64) (ePair (eInt .i64) (ePair (eInt .i64) (ePair (eInt .i64) (eInt .i64))))) H R ⟨xg,ur,xi⟩ mP∧CR (eInt .i64) H R xk mQ) {r:List Int} (hp:ag.pj8 F qr mP mQ kY kZ k_ lf = some r):∃ v H',ag.j8 F (ai.tw F) C7855_ pi 0 ⟨xh,ut,xj⟩ kY kZ k_ lf H = some (v,H')∧ag.Q H0 Ri R0  r v H':=by
 obtain ⟨w0,s0,CZ,C_⟩:=h0
 subst CX
 subst CY
 unfold ag.pj8 at hp
 unfold ag.j8
 exact hC7855 rfl rfl ⟨w0,s0,CZ,C_⟩ hp
def ag.pj6 (F:Nat) (aJ:List (Int×Int×Int×Int×Int)→List Int→Int→Option (List Int)) (mR:List (Int×Int×Int×Int×Int)) (mS:List Int) (kW:Int):Option (List Int):=aJ mR mS (IntKind.i64.wrap (kW + 1))
theorem ag.j6_P {F:Nat} {H0:Hp} {Ri R0:List Rs}  {C61_:Nat→Nat→Sl→Int→Hp→OA} {aJ:List (Int×Int×Int×Int×Int)→List Int→Int→Option (List Int)} (hC61:ag.S61 H0 Ri R0  C61_ aJ) {xl xm:ON} {uu pg uv:Nat} {xn xo:Cap} {mR:List (Int×Int×Int×Int×Int)} {Da kW:Int} {mS:List Int} {xp:List AV} {H:Hp} (Db:uu = mR.length) (Dc:uv = mS.length) (h0:Out H0 Ri H (Rs.blk pg [.sl ⟨xl,uu,xn⟩,.int .i64 Da] :: Rs.own ⟨xm,uv,xo⟩ (eInt .i64).z xp :: R0) fun R=>ROs (ePair (eInt .i64) (ePair (eInt .i64) (ePair (eInt .i64) (ePair (eInt .i64) (eInt .i64))))) H R ⟨xl,uu,xn⟩ mR∧CR (eInt .i64) H R xp mS) {r:List Int} (hp:ag.pj6 F aJ mR mS kW = some r):∃ v H',ag.j6 F (ai.tw F) C61_ pg 0 ⟨xm,uv,xo⟩ kW H = some (v,H')∧ag.Q H0 Ri R0  r v H':=by
 obtain ⟨w0,s0,Dd,De⟩:=h0
 subst Db
 subst Dc
 unfold ag.pj6 at hp
 unfold ag.j6
 exact hC61 rfl rfl ⟨w0,s0,Dd,De⟩ hp
def ag.pj7 (F:Nat) (aJ:List (Int×Int×Int×Int×Int)→List Int→Int→Option (List Int)) (mT:List (Int×Int×Int×Int×Int)) (mU:List Int) (jv:Int):Option (List Int):=ag.pj6 F aJ mT mU jv
theorem ag.j7_P {F:Nat} {H0:Hp} {Ri R0:List Rs}  {C61_:Nat→Nat→Sl→Int→Hp→OA} {aJ:List (Int×Int×Int×Int×Int)→List Int→Int→Option (List Int)} (hC61:ag.S61 H0 Ri R0  C61_ aJ) {xq xr:ON} {uw ph ux:Nat} {xt xu:Cap} {mT:List (Int×Int×Int×Int×Int)} {Df jv:Int} {mU:List Int} {xv:List AV} {H:Hp} (Dg:uw = mT.length) (Dh:ux = mU.length) (h0:Out H0 Ri H (Rs.blk ph [.sl ⟨xq,uw,xt⟩,.int .i64 Df] :: Rs.own ⟨xr,ux,xu⟩ (eInt .i64).z xv :: R0) fun R=>ROs (ePair (eInt .i64) (ePair (eInt .i64) (ePair (eInt .i64) (ePair (eInt .i64) (eInt .i64))))) H R ⟨xq,uw,xt⟩ mT∧CR (eInt .i64) H R xv mU) {r:List Int} (hp:ag.pj7 F aJ mT mU jv = some r):∃ v H',ag.j7 F (ai.tw F) C61_ ph 0 ⟨xr,ux,xu⟩ jv H = some (v,H')∧ag.Q H0 Ri R0  r v H':=by
 obtain ⟨w0,s0,Di,Dj⟩:=h0
 subst Dg
 subst Dh
 unfold ag.pj7 at hp
 unfold ag.j7
 exact ag.j6_P (@hC61) rfl rfl ⟨w0,s0,Di,Dj⟩ hp
def ag.pl7855 (F:Nat) (aJ:List (Int×Int×Int×Int×Int)→List Int→Int→Option (List Int)):Nat→List (Int×Int×Int×Int×Int)→List Int→Int→Int→Int→Int→Option (List Int)
 | 0,_,_,_,_,_,_=>none
 | k + 1,jh,gM,dL,cM,cX,dw=>(bif (decide (dw < (gM.length:Int))) then ((ix gM dw).bind fun n1=>(bif ((gt gM n1) == (if cX > cM then cX else cM)) then ((ix gM dw).bind fun n2=>(some (gM.set n2 (if cX < cM then cX else cM))).bind fun l3=>ag.pj8 F (ag.pl7855 F aJ k) jh l3 dL cM cX dw) else (ag.pj8 F (ag.pl7855 F aJ k) jh gM dL cM cX dw))) else (ag.pj7 F aJ jh gM dL))
termination_by structural n=>n
theorem ag.l7855_P {F:Nat} {H0:Hp} {Ri R0:List Rs}  {C61_:Nat→Nat→Sl→Int→Hp→OA} {aJ:List (Int×Int×Int×Int×Int)→List Int→Int→Option (List Int)} (hC61:ag.S61 H0 Ri R0  C61_ aJ):∀ k,ag.S7855 H0 Ri R0  (ag.l7855 F (ai.tw F) C61_ k) (ag.pl7855 F aJ k):=by
 intro k
 induction k with
 | zero=>
  intro ql qn mN eC mO qo qp jh uq dL cM cX dw gM qq H xw xx h0 r hp
  exact nomatch (show (none:Option (List Int)) = some r from hp)
 | succ k ih=>
  intro ql qn mN eC mO qo qp jh uq dL cM cX dw gM qq H xw xx h0 r hp
  obtain ⟨w0,s0,uy,mV⟩:=h0
  subst xw
  subst xx
  unfold ag.pl7855 at hp
  unfold ag.l7855
  refine bif_ex (fun hb=>?_) (fun hb=>?_)
  ·replace hp:=bif_t hb hp
   obtain ⟨n1,g1,hp⟩:=bind_some' hp
   obtain ⟨p1,q1,i1,h1,j1⟩:=W.ixo (E:=(eInt .i64)) w0 (i:=1) rfl rfl mV g1
   refine bind_ex i1 ?_
   have h1:_ = [_]:=h1
   subst h1
   refine bind_ex (ldI_of (j1 0 _ rfl)) ?_
   refine bif_ex (fun hb=>?_) (fun hb=>?_)
   ·replace hp:=bif_t hb hp
    obtain ⟨n2,g2,hp⟩:=bind_some' hp
    obtain ⟨p2,q2,i2,h2,j2⟩:=W.ixo (E:=(eInt .i64)) w0 (i:=1) rfl rfl mV g2
    refine bind_ex i2 ?_
    obtain ⟨l3,e3,hp⟩:=bind_some' hp
    refine sto_k (eInt .i64) w0 (i:=1) (j:=0) (p:=p2) rfl rfl mV g2 i2 e3 rfl rfl (fun _ h=>by have h:_ = [_]:=h; subst h; exact rfl) fun H4 k4 w4 s4 c4=>?_
    dsimp only [List.set] at w4 s4 c4
    exact ag.j8_P (@ih) rfl ((st_len e3).symm) ⟨w4,(s0.trans s4),(uy.step s4),c4⟩ hp
   ·replace hp:=bif_f hb hp
    exact ag.j8_P (@ih) rfl rfl ⟨w0,s0,uy,mV⟩ hp
  ·replace hp:=bif_f hb hp
   exact ag.j7_P (@hC61) rfl rfl ⟨w0,s0,uy,mV⟩ hp
def ag.pl61 (F:Nat) :Nat→List (Int×Int×Int×Int×Int)→List Int→Int→Option (List Int)
 | 0,_,_,_=>none
 | k + 1,eA,g_,bS=>(bif (decide (bS < (IntKind.i64.wrap (2 * (eA.length:Int))))) then ((ai.p F eA bS true).bind fun r1=>(ai.p F eA bS false).bind fun r3=>(ix g_ r1.1).bind fun n5=>(ix g_ r3.1).bind fun n6=>ag.pl7855 F (ag.pl61 F k) F eA g_ bS (gt g_ n5) (gt g_ n6) 0) else (some g_))
termination_by structural n=>n
theorem ag.l61_P {F:Nat} {H0:Hp} {Ri R0:List Rs}  :∀ k,ag.S61 H0 Ri R0  (ag.l61 F (ai.tw F)  k) (ag.pl61 F  k):=by
 intro k
 induction k with
 | zero=>
  intro jf qi iv cd mM jg qj eA kr bS g_ qk H mW xy h0 r hp
  exact nomatch (show (none:Option (List Int)) = some r from hp)
 | succ k ih=>
  intro jf qi iv cd mM jg qj eA kr bS g_ qk H mW xy h0 r hp
  obtain ⟨w0,s0,lR,qs⟩:=h0
  subst mW
  subst xy
  unfold ag.pl61 at hp
  unfold ag.l61
  refine bind_ex (ldSl_of (w0.ld (i:=0) rfl rfl)) ?_
  refine bif_ex (fun hb=>?_) (fun hb=>?_)
  ·replace hp:=bif_t hb hp
   refine bind_ex (ldSl_of (w0.ld (i:=0) rfl rfl)) ?_
   refine bind_ex (ldI_of (w0.ld (i:=0) rfl rfl)) ?_
   obtain ⟨r1,e1,hp⟩:=bind_some' hp
   refine call_ex (ai.P rfl ⟨w0,lR⟩ e1) ?_
   rintro _ H2 ⟨rfl,w2,s2,_⟩
   refine bind_ex rfl ?_
   refine bind_ex rfl ?_
   refine bind_ex rfl ?_
   refine bind_ex rfl ?_
   refine bind_ex rfl ?_
   refine bind_ex (ldSl_of (w2.ld (i:=0) rfl rfl)) ?_
   refine bind_ex (ldI_of (w2.ld (i:=0) rfl rfl)) ?_
   obtain ⟨r3,e3,hp⟩:=bind_some' hp
   refine call_ex (ai.P rfl ⟨w2,(lR.step s2)⟩ e3) ?_
   rintro _ H4 ⟨rfl,w4,s4,_⟩
   refine bind_ex rfl ?_
   refine bind_ex rfl ?_
   refine bind_ex rfl ?_
   refine bind_ex rfl ?_
   refine bind_ex rfl ?_
   obtain ⟨n5,g5,hp⟩:=bind_some' hp
   obtain ⟨p5,q5,i5,h5,j5⟩:=W.ixo (E:=(eInt .i64)) w4 (i:=1) rfl rfl (qs.step (s2.trans s4)) g5
   refine bind_ex i5 ?_
   have h5:_ = [_]:=h5
   subst h5
   refine bind_ex (ldI_of (j5 0 _ rfl)) ?_
   obtain ⟨n6,g6,hp⟩:=bind_some' hp
   obtain ⟨p6,q6,i6,h6,j6⟩:=W.ixo (E:=(eInt .i64)) w4 (i:=1) rfl rfl (qs.step (s2.trans s4)) g6
   refine bind_ex i6 ?_
   have h6:_ = [_]:=h6
   subst h6
   refine bind_ex (ldI_of (j6 0 _ rfl)) ?_
   exact ag.l7855_P (@ih) F rfl rfl ⟨w4,(s0.trans (s2.trans s4)),(lR.step (s2.trans s4)),(qs.step (s2.trans s4))⟩ hp
  ·replace hp:=bif_f hb hp
   obtain ⟨w7,s7⟩:=w0.pick' [1] 2 rfl rfl rfl
   dsimp only [pk,pks,nth,List.drop] at w7 s7
   obtain rfl:=Option.some.inj hp
   exact ⟨_,_,rfl,_,_,_,_,rfl,rfl,w7,(s0.trans s7),(qs.step s7)⟩
def ag.pj9 (F:Nat)  (mX:List (Int×Int×Int×Int×Int)) (mY:List Int):Option (List Int):=ag.pl61 F F mX mY 0
theorem ag.j9_P {F:Nat} {H0:Hp} {Ri R0:List Rs}   {xz xA:ON} {uz pj uA:Nat} {xB xC:Cap} {mX:List (Int×Int×Int×Int×Int)} {Dk:Int} {mY:List Int} {xD:List AV} {H:Hp} (Dl:uz = mX.length) (Dm:uA = mY.length) (h0:Out H0 Ri H (Rs.blk pj [.sl ⟨xz,uz,xB⟩,.int .i64 Dk] :: Rs.own ⟨xA,uA,xC⟩ (eInt .i64).z xD :: R0) fun R=>ROs (ePair (eInt .i64) (ePair (eInt .i64) (ePair (eInt .i64) (ePair (eInt .i64) (eInt .i64))))) H R ⟨xz,uz,xB⟩ mX∧CR (eInt .i64) H R xD mY) {r:List Int} (hp:ag.pj9 F  mX mY = some r):∃ v H',ag.j9 F (ai.tw F)  pj 0 ⟨xA,uA,xC⟩ H = some (v,H')∧ag.Q H0 Ri R0  r v H':=by
 obtain ⟨w0,s0,Dn,Do⟩:=h0
 subst Dl
 subst Dm
 unfold ag.pj9 at hp
 unfold ag.j9
 exact ag.l61_P F rfl rfl ⟨w0,s0,Dn,Do⟩ hp
def ag.pl29 (F:Nat) :Nat→List (Int×Int×Int×Int×Int)→List Int→Int→Option (List Int)
 | 0,_,_,_=>none
 | k + 1,fq,jI,cv=>(bif (decide (cv < (fq.length:Int))) then ((apn jI ([cv]:List Int)).bind fun l2=>ag.pl29 F k fq l2 (IntKind.i64.wrap (cv + 1))) else (ag.pj9 F fq jI))
termination_by structural n=>n
theorem ag.l29_P {F:Nat} {H0:Hp} {Ri R0:List Rs}  :∀ k,ag.S29 H0 Ri R0  (ag.l29 F (ai.tw F)  k) (ag.pl29 F  k):=by
 intro k
 induction k with
 | zero=>
  intro jd qf ir cl mL je qg fq iu cv jI qh H mZ xE h0 r hp
  exact nomatch (show (none:Option (List Int)) = some r from hp)
 | succ k ih=>
  intro jd qf ir cl mL je qg fq iu cv jI qh H mZ xE h0 r hp
  obtain ⟨w0,s0,m_,xF⟩:=h0
  subst mZ
  subst xE
  unfold ag.pl29 at hp
  unfold ag.l29
  refine bind_ex (ldSl_of (w0.ld (i:=0) rfl rfl)) ?_
  refine bif_ex (fun hb=>?_) (fun hb=>?_)
  ·replace hp:=bif_t hb hp
   refine newS_k (eInt .i64) w0 (n:=1) (l:=([cv]:List Int)) rfl (CR.cons1 rfl CR.empty) rfl fun H1 w1 s1 c1=>?_
   refine bind_ex (w1.rowo (i:=0) rfl) ?_
   obtain ⟨l2,e2,hp⟩:=bind_some' hp
   refine app_k (eInt .i64) w1 (i:=2) rfl rfl (xF.step s1) c1 (show 1 = List.length ([cv]:List Int) from rfl) rfl e2 fun a3 d3 H3 w3 s3 c3 x3=>?_
   dsimp only [List.set] at w3 s3 c3
   obtain ⟨w4,s4⟩:=w3.pick' [1,2] 3 rfl rfl rfl
   dsimp only [pk,pks,nth,List.drop] at w4 s4
   exact ih rfl rfl ⟨w4,(s0.trans (s1.trans (s3.trans s4))),(m_.step (s1.trans (s3.trans s4))),(c3.step s4)⟩ hp
  ·replace hp:=bif_f hb hp
   exact ag.j9_P rfl rfl ⟨w0,s0,m_,xF⟩ hp
def ag.p (F:Nat) (ac:List (Int×Int×Int×Int×Int)):Option (List Int):=ag.pl29 F F ac ([]:List Int) 0
theorem ag.P {F:Nat} {av:ON} {aj:Nat} {aw:Cap} {ac:List (Int×Int×Int×Int×Int)} {ab:Int} {H:Hp} {R0:List Rs} (ba:aj = ac.length) (h0:Inn H R0 fun R=>ROs (ePair (eInt .i64) (ePair (eInt .i64) (ePair (eInt .i64) (ePair (eInt .i64) (eInt .i64))))) H R ⟨av,aj,aw⟩ ac) {r:List Int} (hp:ag.p F ac = some r):∃ v H',ag.tw F ⟨av,aj,aw⟩ ab H = some (v,H')∧ag.Q H R0 R0  r v H':=by
 obtain ⟨w0,aH⟩:=h0
 subst ba
 unfold ag.p at hp
 unfold ag.tw ag.twX
 have s0:=w0.rf
 refine new_k w0 fun H1 w1 s1=>?_
 refine newS_k (eInt .i64) w1 (n:=0) (l:=([]:List Int)) rfl CR.empty rfl fun H2 w2 s2 c2=>?_
 obtain ⟨w3,s3⟩:=w2.pick' [1,0] 2 rfl rfl rfl
 dsimp only [pk,pks,nth,List.drop] at w3 s3
 exact ag.l29_P F rfl (show 0 = List.length ([]:List Int) from rfl) ⟨w3,(s0.trans (s1.trans (s2.trans s3))),(aH.step (s1.trans (s2.trans s3))),(c2.step s3)⟩ hp
def aA.Q (H0:Hp) (Ri R0:List Rs)  (r:Int) (v:AV) (H':Hp):Prop:=v = (.int .i64 r)∧Out H0 Ri H' (R0) fun R=>True
def aA.S61 (H0:Hp) (Ri R0:List Rs)  (C:Int→Sl→Int→Hp→OA) (pC:Int→List Int→Int→Option (Int)):Prop:=∀ {bt dx:Int} {qt:ON} {na:Nat} {qu:Cap} {iw:List Int} {qv:List AV},∀ {H:Hp},na = iw.length→(Out H0 Ri H (Rs.own ⟨qt,na,qu⟩ (eInt .i64).z qv :: R0) fun R=>CR (eInt .i64) H R qv iw)→∀ {r:Int},pC bt iw dx = some r→∃ v H',C bt ⟨qt,na,qu⟩ dx H = some (v,H')∧aA.Q H0 Ri R0  r v H'
def aA.pj2 (F:Nat) (aJ:Int→List Int→Int→Option (Int)) (li:Int) (nb:List Int) (lj:Int):Option (Int):=aJ li nb (IntKind.i64.wrap (lj + 1))
theorem aA.j2_P {F:Nat} {H0:Hp} {Ri R0:List Rs}  {C61_:Int→Sl→Int→Hp→OA} {aJ:Int→List Int→Int→Option (Int)} (hC61:aA.S61 H0 Ri R0  C61_ aJ) {li lj:Int} {xG:ON} {uB:Nat} {xH:Cap} {nb:List Int} {xI:List AV} {H:Hp} (Dp:uB = nb.length) (h0:Out H0 Ri H (Rs.own ⟨xG,uB,xH⟩ (eInt .i64).z xI :: R0) fun R=>CR (eInt .i64) H R xI nb) {r:Int} (hp:aA.pj2 F aJ li nb lj = some r):∃ v H',aA.j2 F (ag.tw F) C61_ li ⟨xG,uB,xH⟩ lj H = some (v,H')∧aA.Q H0 Ri R0  r v H':=by
 obtain ⟨w0,s0,Dq⟩:=h0
 subst Dp
 unfold aA.pj2 at hp
 unfold aA.j2
 exact hC61 rfl ⟨w0,s0,Dq⟩ hp
def aA.pl61 (F:Nat) :Nat→Int→List Int→Int→Option (Int)
 | 0,_,_,_=>none
 | k + 1,bt,iw,dx=>(bif (decide (dx < (iw.length:Int))) then ((ix iw dx).bind fun n1=>(bif ((gt iw n1) == dx) then (aA.pj2 F (aA.pl61 F k) (IntKind.i64.wrap (bt + 1)) iw dx) else (aA.pj2 F (aA.pl61 F k) bt iw dx))) else (some bt))
termination_by structural n=>n
theorem aA.l61_P {F:Nat} {H0:Hp} {Ri R0:List Rs}  :∀ k,aA.S61 H0 Ri R0  (aA.l61 F (ag.tw F)  k) (aA.pl61 F  k):=by
 intro k
 induction k with
 | zero=>
  intro bt dx qt na qu iw qv H xJ h0 r hp
  exact nomatch (show (none:Option (Int)) = some r from hp)
 | succ k ih=>
  intro bt dx qt na qu iw qv H xJ h0 r hp
  obtain ⟨w0,s0,uC⟩:=h0
  subst xJ
  unfold aA.pl61 at hp
  unfold aA.l61
  refine bif_ex (fun hb=>?_) (fun hb=>?_)
  ·replace hp:=bif_t hb hp
   obtain ⟨n1,g1,hp⟩:=bind_some' hp
   obtain ⟨p1,q1,i1,h1,j1⟩:=W.ixo (E:=(eInt .i64)) w0 (i:=0) rfl rfl uC g1
   refine bind_ex i1 ?_
   have h1:_ = [_]:=h1
   subst h1
   refine bind_ex (ldI_of (j1 0 _ rfl)) ?_
   refine bif_ex (fun hb=>?_) (fun hb=>?_)
   ·replace hp:=bif_t hb hp
    exact aA.j2_P (@ih) rfl ⟨w0,s0,uC⟩ hp
   ·replace hp:=bif_f hb hp
    exact aA.j2_P (@ih) rfl ⟨w0,s0,uC⟩ hp
  ·replace hp:=bif_f hb hp
   obtain ⟨w2,s2⟩:=w0.pick' [] 1 rfl rfl rfl
   dsimp only [pk,pks,nth,List.drop] at w2 s2
   obtain rfl:=Option.some.inj hp
   exact ⟨_,_,rfl,rfl,w2,(s0.trans s2),trivial⟩
def aA.p (F:Nat) (ac:List (Int×Int×Int×Int×Int)):Option (Int):=(ag.p F ac).bind fun r2=>aA.pl61 F F 0 r2 0
theorem aA.P {F:Nat} {av:ON} {aj:Nat} {aw:Cap} {ac:List (Int×Int×Int×Int×Int)} {ab:Int} {H:Hp} {R0:List Rs} (ba:aj = ac.length) (h0:Inn H R0 fun R=>ROs (ePair (eInt .i64) (ePair (eInt .i64) (ePair (eInt .i64) (ePair (eInt .i64) (eInt .i64))))) H R ⟨av,aj,aw⟩ ac) {r:Int} (hp:aA.p F ac = some r):∃ v H',aA.tw F ⟨av,aj,aw⟩ ab H = some (v,H')∧aA.Q H R0 R0  r v H':=by
 obtain ⟨w0,aH⟩:=h0
 subst ba
 unfold aA.p at hp
 unfold aA.tw aA.twX
 have s0:=w0.rf
 refine new_k w0 fun H1 w1 s1=>?_
 refine bind_ex (ldSl_of (w1.ld (i:=0) rfl rfl)) ?_
 refine bind_ex (ldI_of (w1.ld (i:=0) rfl rfl)) ?_
 obtain ⟨r2,e2,hp⟩:=bind_some' hp
 refine call_ex (ag.P rfl ⟨w1,(aH.step s1)⟩ e2) ?_
 rintro _ H3 ⟨o0a_3,o0n_3,o0c_3,o0k_3,rfl,rfl,w3,s3,f3_0⟩
 refine bind_ex rfl ?_
 obtain ⟨w4,s4⟩:=w3.pick' [0] 2 rfl rfl rfl
 dsimp only [pk,pks,nth,List.drop] at w4 s4
 exact aA.l61_P F rfl ⟨w4,(s0.trans (s1.trans (s3.trans s4))),(f3_0.step s4)⟩ hp
def bo.Q (H0:Hp) (Ri R0:List Rs)  (r:Bool) (v:AV) (H':Hp):Prop:=v = (.bool r)∧Out H0 Ri H' (R0) fun R=>True
def bo.p (F:Nat) (ac:List (Int×Int×Int×Int×Int)) (ab:Int):Option (Bool):=(bif (decide ((ac.length:Int) > 10)) then (some false) else ((aY.p F ab 0 8).bind fun r3=>(bif (!r3) then (some false) else ((ap.p F ac).bind fun r6=>(bif (!r6) then (some false) else ((ao.p F ac).bind fun r9=>(aA.p F ac).bind fun r12=>some ((r9.length:Int) == (IntKind.i64.wrap ((ac.length:Int) + (IntKind.i64.wrap (2 * r12)))))))))))
theorem bo.P {F:Nat} {av:ON} {aj:Nat} {aw:Cap} {ac:List (Int×Int×Int×Int×Int)} {ab:Int} {H:Hp} {R0:List Rs} (ba:aj = ac.length) (h0:Inn H R0 fun R=>ROs (ePair (eInt .i64) (ePair (eInt .i64) (ePair (eInt .i64) (ePair (eInt .i64) (eInt .i64))))) H R ⟨av,aj,aw⟩ ac) {r:Bool} (hp:bo.p F ac ab = some r):∃ v H',bo.tw F ⟨av,aj,aw⟩ ab H = some (v,H')∧bo.Q H R0 R0  r v H':=by
 obtain ⟨w0,aH⟩:=h0
 subst ba
 unfold bo.p at hp
 unfold bo.tw bo.twX
 have s0:=w0.rf
 refine new_k w0 fun H1 w1 s1=>?_
 refine bind_ex (ldSl_of (w1.ld (i:=0) rfl rfl)) ?_
 refine bif_ex (fun hb=>?_) (fun hb=>?_)
 ·replace hp:=bif_t hb hp
  obtain ⟨w2,s2⟩:=w1.pick' [] 1 rfl rfl rfl
  dsimp only [pk,pks,nth,List.drop] at w2 s2
  obtain rfl:=Option.some.inj hp
  exact ⟨_,_,rfl,rfl,w2,(s0.trans (s1.trans s2)),trivial⟩
 ·replace hp:=bif_f hb hp
  refine bind_ex (ldI_of (w1.ld (i:=0) rfl rfl)) ?_
  obtain ⟨r3,e3,hp⟩:=bind_some' hp
  refine call_ex (aY.P ⟨w1,trivial⟩ e3) ?_
  rintro _ H4 ⟨rfl,w4,s4,_⟩
  refine bind_ex rfl ?_
  refine bif_ex (fun hb=>?_) (fun hb=>?_)
  ·replace hp:=bif_t hb hp
   obtain ⟨w5,s5⟩:=w4.pick' [] 1 rfl rfl rfl
   dsimp only [pk,pks,nth,List.drop] at w5 s5
   obtain rfl:=Option.some.inj hp
   exact ⟨_,_,rfl,rfl,w5,(s0.trans (s1.trans (s4.trans s5))),trivial⟩
  ·replace hp:=bif_f hb hp
   refine bind_ex (ldSl_of (w4.ld (i:=0) rfl rfl)) ?_
   refine bind_ex (ldI_of (w4.ld (i:=0) rfl rfl)) ?_
   obtain ⟨r6,e6,hp⟩:=bind_some' hp
   refine call_ex (ap.P rfl ⟨w4,(aH.step (s1.trans s4))⟩ e6) ?_
   rintro _ H7 ⟨rfl,w7,s7,_⟩
   refine bind_ex rfl ?_
   refine bif_ex (fun hb=>?_) (fun hb=>?_)
   ·replace hp:=bif_t hb hp
    obtain ⟨w8,s8⟩:=w7.pick' [] 1 rfl rfl rfl
    dsimp only [pk,pks,nth,List.drop] at w8 s8
    obtain rfl:=Option.some.inj hp
    exact ⟨_,_,rfl,rfl,w8,(s0.trans (s1.trans (s4.trans (s7.trans s8)))),trivial⟩
   ·replace hp:=bif_f hb hp
    refine bind_ex (ldSl_of (w7.ld (i:=0) rfl rfl)) ?_
    refine bind_ex (ldI_of (w7.ld (i:=0) rfl rfl)) ?_
    obtain ⟨r9,e9,hp⟩:=bind_some' hp
    refine call_ex (ao.P rfl ⟨w7,(aH.step (s1.trans (s4.trans s7)))⟩ e9) ?_
    rintro _ H10 ⟨o0a_10,o0n_10,o0c_10,o0k_10,rfl,rfl,w10,s10,f10_0⟩
    refine bind_ex rfl ?_
    refine ifs_ex (W.cons_of (Rn:=[_]) w7 w10 s10) ?_
    refine bind_ex (ldSl_of (w10.ld (i:=1) rfl rfl)) ?_
    refine bind_ex (ldSl_of (w10.ld (i:=1) rfl rfl)) ?_
    refine bind_ex (ldI_of (w10.ld (i:=1) rfl rfl)) ?_
    obtain ⟨r12,e12,hp⟩:=bind_some' hp
    refine call_ex (aA.P rfl ⟨w10,(aH.step (s1.trans (s4.trans (s7.trans s10))))⟩ e12) ?_
    rintro _ H13 ⟨rfl,w13,s13,_⟩
    refine bind_ex rfl ?_
    refine ifs_ex (W.cons_of (Rn:=[]) w10 w13 s13) ?_
    obtain ⟨w15,s15⟩:=w13.pick' [] 2 rfl rfl rfl
    dsimp only [pk,pks,nth,List.drop] at w15 s15
    obtain rfl:=Option.some.inj hp
    exact ⟨_,_,rfl,rfl,w15,(s0.trans (s1.trans (s4.trans (s7.trans (s10.trans (s13.trans s15)))))),trivial⟩
def ae.Q (H0:Hp) (Ri R0:List Rs)  (r:List Int×Int) (v:AV) (H':Hp):Prop:=∃ o0a:ON,∃ o0n:Nat,∃ o0c:Cap,∃ o0k:List AV,v = (.tup [(.sl ⟨o0a,o0n,o0c⟩),(.int .i64 r.2)])∧o0n = (r.1).length∧Out H0 Ri H' (Rs.own ⟨o0a,o0n,o0c⟩ (eInt .i64).z o0k :: R0) fun R=>CR (eInt .i64) H' R o0k (r.1)
def ae.S29 (H0:Hp) (Ri R0:List Rs)  (C:Nat→Nat→Sl→Int→Hp→OA) (pC:List (Int×Int×Int×Int×Int)→Int→List Int→Int→Option (List Int×Int)):Prop:=∀ {jd qw:ON} {ir cl nc:Nat} {je qx:Cap} {fq:List (Int×Int×Int×Int×Int)} {iu dZ:Int} {jJ:List Int} {qy:List AV},∀ {H:Hp},ir = fq.length→nc = jJ.length→(Out H0 Ri H (Rs.blk cl [.sl ⟨jd,ir,je⟩,.int .i64 iu] :: Rs.own ⟨qw,nc,qx⟩ (eInt .i64).z qy :: R0) fun R=>ROs (ePair (eInt .i64) (ePair (eInt .i64) (ePair (eInt .i64) (ePair (eInt .i64) (eInt .i64))))) H R ⟨jd,ir,je⟩ fq∧CR (eInt .i64) H R qy jJ)→∀ {r:List Int×Int},pC fq iu jJ dZ = some r→∃ v H',C cl 0 ⟨qw,nc,qx⟩ dZ H = some (v,H')∧ae.Q H0 Ri R0  r v H'
def ae.S61 (H0:Hp) (Ri R0:List Rs)  (C:Nat→Nat→Sl→Int→Hp→OA) (pC:List (Int×Int×Int×Int×Int)→Int→List Int→Int→Option (List Int×Int)):Prop:=∀ {qz qA:ON} {nd eJ ng:Nat} {qB qC:Cap} {ho:List (Int×Int×Int×Int×Int)} {kt dY:Int} {hB:List Int} {qD:List AV},∀ {H:Hp},nd = ho.length→ng = hB.length→(Out H0 Ri H (Rs.blk eJ [.sl ⟨qz,nd,qB⟩,.int .i64 kt] :: Rs.own ⟨qA,ng,qC⟩ (eInt .i64).z qD :: R0) fun R=>ROs (ePair (eInt .i64) (ePair (eInt .i64) (ePair (eInt .i64) (ePair (eInt .i64) (eInt .i64))))) H R ⟨qz,nd,qB⟩ ho∧CR (eInt .i64) H R qD hB)→∀ {r:List Int×Int},pC ho kt hB dY = some r→∃ v H',C eJ 0 ⟨qA,ng,qC⟩ dY H = some (v,H')∧ae.Q H0 Ri R0  r v H'
def ae.S1963 (H0:Hp) (Ri R0:List Rs)  (C:Nat→Nat→Sl→Int→Int→Int→Int→Hp→OA) (pC:List (Int×Int×Int×Int×Int)→Int→List Int→Int→Int→Int→Int→Option (List Int×Int)):Prop:=∀ {qE qF:ON} {nh eD ni:Nat} {qG qH:Cap} {ji:List (Int×Int×Int×Int×Int)} {jK dM cN cY dy:Int} {gN:List Int} {qI:List AV},∀ {H:Hp},nh = ji.length→ni = gN.length→(Out H0 Ri H (Rs.blk eD [.sl ⟨qE,nh,qG⟩,.int .i64 jK] :: Rs.own ⟨qF,ni,qH⟩ (eInt .i64).z qI :: R0) fun R=>ROs (ePair (eInt .i64) (ePair (eInt .i64) (ePair (eInt .i64) (ePair (eInt .i64) (eInt .i64))))) H R ⟨qE,nh,qG⟩ ji∧CR (eInt .i64) H R qI gN)→∀ {r:List Int×Int},pC ji jK gN dM cN cY dy = some r→∃ v H',C eD 0 ⟨qF,ni,qH⟩ dM cN cY dy H = some (v,H')∧ae.Q H0 Ri R0  r v H'
def ae.pj12 (F:Nat) (qJ:List (Int×Int×Int×Int×Int)→Int→List Int→Int→Int→Int→Int→Option (List Int×Int)) (nj:List (Int×Int×Int×Int×Int)) (qK:Int) (nk:List Int) (lq:Int) (lr:Int) (lu:Int) (lv:Int):Option (List Int×Int):=qJ nj qK nk lq lr lu (IntKind.i64.wrap (lv + 1))
theorem ae.j12_P {F:Nat} {H0:Hp} {Ri R0:List Rs}  {C1963_:Nat→Nat→Sl→Int→Int→Int→Int→Hp→OA} {qJ:List (Int×Int×Int×Int×Int)→Int→List Int→Int→Int→Int→Int→Option (List Int×Int)} (hC1963:ae.S1963 H0 Ri R0  C1963_ qJ) {xK xL:ON} {uD pr uE:Nat} {xM xN:Cap} {nj:List (Int×Int×Int×Int×Int)} {qK lq lr lu lv:Int} {nk:List Int} {xO:List AV} {H:Hp} (Dr:uD = nj.length) (Ds:uE = nk.length) (h0:Out H0 Ri H (Rs.blk pr [.sl ⟨xK,uD,xM⟩,.int .i64 qK] :: Rs.own ⟨xL,uE,xN⟩ (eInt .i64).z xO :: R0) fun R=>ROs (ePair (eInt .i64) (ePair (eInt .i64) (ePair (eInt .i64) (ePair (eInt .i64) (eInt .i64))))) H R ⟨xK,uD,xM⟩ nj∧CR (eInt .i64) H R xO nk) {r:List Int×Int} (hp:ae.pj12 F qJ nj qK nk lq lr lu lv = some r):∃ v H',ae.j12 F  C1963_ pr 0 ⟨xL,uE,xN⟩ lq lr lu lv H = some (v,H')∧ae.Q H0 Ri R0  r v H':=by
 obtain ⟨w0,s0,Dt,Du⟩:=h0
 subst Dr
 subst Ds
 unfold ae.pj12 at hp
 unfold ae.j12
 exact hC1963 rfl rfl ⟨w0,s0,Dt,Du⟩ hp
def ae.pj10 (F:Nat) (aJ:List (Int×Int×Int×Int×Int)→Int→List Int→Int→Option (List Int×Int)) (nl:List (Int×Int×Int×Int×Int)) (qL:Int) (nm:List Int) (ln:Int):Option (List Int×Int):=aJ nl qL nm (IntKind.i64.wrap (ln + 1))
theorem ae.j10_P {F:Nat} {H0:Hp} {Ri R0:List Rs}  {C61_:Nat→Nat→Sl→Int→Hp→OA} {aJ:List (Int×Int×Int×Int×Int)→Int→List Int→Int→Option (List Int×Int)} (hC61:ae.S61 H0 Ri R0  C61_ aJ) {xP xQ:ON} {uF pp uG:Nat} {xR xS:Cap} {nl:List (Int×Int×Int×Int×Int)} {qL ln:Int} {nm:List Int} {xT:List AV} {H:Hp} (Dv:uF = nl.length) (Dw:uG = nm.length) (h0:Out H0 Ri H (Rs.blk pp [.sl ⟨xP,uF,xR⟩,.int .i64 qL] :: Rs.own ⟨xQ,uG,xS⟩ (eInt .i64).z xT :: R0) fun R=>ROs (ePair (eInt .i64) (ePair (eInt .i64) (ePair (eInt .i64) (ePair (eInt .i64) (eInt .i64))))) H R ⟨xP,uF,xR⟩ nl∧CR (eInt .i64) H R xT nm) {r:List Int×Int} (hp:ae.pj10 F aJ nl qL nm ln = some r):∃ v H',ae.j10 F  C61_ pp 0 ⟨xQ,uG,xS⟩ ln H = some (v,H')∧ae.Q H0 Ri R0  r v H':=by
 obtain ⟨w0,s0,Dx,Dy⟩:=h0
 subst Dv
 subst Dw
 unfold ae.pj10 at hp
 unfold ae.j10
 exact hC61 rfl rfl ⟨w0,s0,Dx,Dy⟩ hp
def ae.pj11 (F:Nat) (aJ:List (Int×Int×Int×Int×Int)→Int→List Int→Int→Option (List Int×Int)) (nn:List (Int×Int×Int×Int×Int)) (qM:Int) (np:List Int) (lp:Int):Option (List Int×Int):=ae.pj10 F aJ nn qM np lp
theorem ae.j11_P {F:Nat} {H0:Hp} {Ri R0:List Rs}  {C61_:Nat→Nat→Sl→Int→Hp→OA} {aJ:List (Int×Int×Int×Int×Int)→Int→List Int→Int→Option (List Int×Int)} (hC61:ae.S61 H0 Ri R0  C61_ aJ) {xU xV:ON} {uH pq uI:Nat} {xW xX:Cap} {nn:List (Int×Int×Int×Int×Int)} {qM lp:Int} {np:List Int} {xY:List AV} {H:Hp} (Dz:uH = nn.length) (DA:uI = np.length) (h0:Out H0 Ri H (Rs.blk pq [.sl ⟨xU,uH,xW⟩,.int .i64 qM] :: Rs.own ⟨xV,uI,xX⟩ (eInt .i64).z xY :: R0) fun R=>ROs (ePair (eInt .i64) (ePair (eInt .i64) (ePair (eInt .i64) (ePair (eInt .i64) (eInt .i64))))) H R ⟨xU,uH,xW⟩ nn∧CR (eInt .i64) H R xY np) {r:List Int×Int} (hp:ae.pj11 F aJ nn qM np lp = some r):∃ v H',ae.j11 F  C61_ pq 0 ⟨xV,uI,xX⟩ lp H = some (v,H')∧ae.Q H0 Ri R0  r v H':=by
 obtain ⟨w0,s0,DB,DC⟩:=h0
 subst Dz
 subst DA
 unfold ae.pj11 at hp
 unfold ae.j11
 exact ae.j10_P (@hC61) rfl rfl ⟨w0,s0,DB,DC⟩ hp
def ae.pl1963 (F:Nat) (aJ:List (Int×Int×Int×Int×Int)→Int→List Int→Int→Option (List Int×Int)):Nat→List (Int×Int×Int×Int×Int)→Int→List Int→Int→Int→Int→Int→Option (List Int×Int)
 | 0,_,_,_,_,_,_,_=>none
 | k + 1,ji,jK,gN,dM,cN,cY,dy=>(bif (decide (dy < (gN.length:Int))) then ((ix gN dy).bind fun n1=>(bif ((gt gN n1) == (if cY > cN then cY else cN)) then ((ix gN dy).bind fun n2=>(some (gN.set n2 (if cY < cN then cY else cN))).bind fun l3=>ae.pj12 F (ae.pl1963 F aJ k) ji jK l3 dM cN cY dy) else (ae.pj12 F (ae.pl1963 F aJ k) ji jK gN dM cN cY dy))) else (ae.pj11 F aJ ji jK gN dM))
termination_by structural n=>n
theorem ae.l1963_P {F:Nat} {H0:Hp} {Ri R0:List Rs}  {C61_:Nat→Nat→Sl→Int→Hp→OA} {aJ:List (Int×Int×Int×Int×Int)→Int→List Int→Int→Option (List Int×Int)} (hC61:ae.S61 H0 Ri R0  C61_ aJ):∀ k,ae.S1963 H0 Ri R0  (ae.l1963 F  C61_ k) (ae.pl1963 F aJ k):=by
 intro k
 induction k with
 | zero=>
  intro qE qF nh eD ni qG qH ji jK dM cN cY dy gN qI H xZ x_ h0 r hp
  exact nomatch (show (none:Option (List Int×Int)) = some r from hp)
 | succ k ih=>
  intro qE qF nh eD ni qG qH ji jK dM cN cY dy gN qI H xZ x_ h0 r hp
  obtain ⟨w0,s0,uJ,nq⟩:=h0
  subst xZ
  subst x_
  unfold ae.pl1963 at hp
  unfold ae.l1963
  refine bif_ex (fun hb=>?_) (fun hb=>?_)
  ·replace hp:=bif_t hb hp
   obtain ⟨n1,g1,hp⟩:=bind_some' hp
   obtain ⟨p1,q1,i1,h1,j1⟩:=W.ixo (E:=(eInt .i64)) w0 (i:=1) rfl rfl nq g1
   refine bind_ex i1 ?_
   have h1:_ = [_]:=h1
   subst h1
   refine bind_ex (ldI_of (j1 0 _ rfl)) ?_
   refine bif_ex (fun hb=>?_) (fun hb=>?_)
   ·replace hp:=bif_t hb hp
    obtain ⟨n2,g2,hp⟩:=bind_some' hp
    obtain ⟨p2,q2,i2,h2,j2⟩:=W.ixo (E:=(eInt .i64)) w0 (i:=1) rfl rfl nq g2
    refine bind_ex i2 ?_
    obtain ⟨l3,e3,hp⟩:=bind_some' hp
    refine sto_k (eInt .i64) w0 (i:=1) (j:=0) (p:=p2) rfl rfl nq g2 i2 e3 rfl rfl (fun _ h=>by have h:_ = [_]:=h; subst h; exact rfl) fun H4 k4 w4 s4 c4=>?_
    dsimp only [List.set] at w4 s4 c4
    exact ae.j12_P (@ih) rfl ((st_len e3).symm) ⟨w4,(s0.trans s4),(uJ.step s4),c4⟩ hp
   ·replace hp:=bif_f hb hp
    exact ae.j12_P (@ih) rfl rfl ⟨w0,s0,uJ,nq⟩ hp
  ·replace hp:=bif_f hb hp
   exact ae.j11_P (@hC61) rfl rfl ⟨w0,s0,uJ,nq⟩ hp
def ae.S509 (H0:Hp) (Ri R0:List Rs)  (C:Nat→Nat→Sl→Sl→Int→Int→Hp→OA) (pC:Int→List Int→List Int→Int→Int→Option (List Int×Int)):Prop:=∀ {qN qO qP:ON} {nr eI ns nt:Nat} {qQ qR qS:Cap} {qT:List (Int×Int×Int×Int×Int)} {jL dl de:Int} {gO gP:List Int} {qU qV:List AV},∀ {H:Hp},nr = qT.length→ns = gO.length→nt = gP.length→(Out H0 Ri H (Rs.blk eI [.sl ⟨qN,nr,qQ⟩,.int .i64 jL] :: Rs.own ⟨qO,ns,qR⟩ (eInt .i64).z qU :: Rs.own ⟨qP,nt,qS⟩ (eInt .i64).z qV :: R0) fun R=>ROs (ePair (eInt .i64) (ePair (eInt .i64) (ePair (eInt .i64) (ePair (eInt .i64) (eInt .i64))))) H R ⟨qN,nr,qQ⟩ qT∧CR (eInt .i64) H R qU gO∧CR (eInt .i64) H R qV gP)→∀ {r:List Int×Int},pC jL gO gP dl de = some r→∃ v H',C eI 0 ⟨qO,ns,qR⟩ ⟨qP,nt,qS⟩ dl de H = some (v,H')∧ae.Q H0 Ri R0  r v H'
def ae.pj7 (F:Nat) (qW:Int→List Int→List Int→Int→Int→Option (List Int×Int)) (qX:Int) (nu:List Int) (nv:List Int) (ll:Int) (lm:Int):Option (List Int×Int):=qW qX nu nv ll (IntKind.i64.wrap (lm + 1))
theorem ae.j7_P {F:Nat} {H0:Hp} {Ri R0:List Rs}  {C509_:Nat→Nat→Sl→Sl→Int→Int→Hp→OA} {qW:Int→List Int→List Int→Int→Int→Option (List Int×Int)} (hC509:ae.S509 H0 Ri R0  C509_ qW) {ya yb yc:ON} {uK pm uL uM:Nat} {yd ye yf:Cap} {yg:List (Int×Int×Int×Int×Int)} {qX ll lm:Int} {nu nv:List Int} {yh yi:List AV} {H:Hp} (DD:uK = yg.length) (DE:uL = nu.length) (DF:uM = nv.length) (h0:Out H0 Ri H (Rs.blk pm [.sl ⟨ya,uK,yd⟩,.int .i64 qX] :: Rs.own ⟨yb,uL,ye⟩ (eInt .i64).z yh :: Rs.own ⟨yc,uM,yf⟩ (eInt .i64).z yi :: R0) fun R=>ROs (ePair (eInt .i64) (ePair (eInt .i64) (ePair (eInt .i64) (ePair (eInt .i64) (eInt .i64))))) H R ⟨ya,uK,yd⟩ yg∧CR (eInt .i64) H R yh nu∧CR (eInt .i64) H R yi nv) {r:List Int×Int} (hp:ae.pj7 F qW qX nu nv ll lm = some r):∃ v H',ae.j7 F  C509_ pm 0 ⟨yb,uL,ye⟩ ⟨yc,uM,yf⟩ ll lm H = some (v,H')∧ae.Q H0 Ri R0  r v H':=by
 obtain ⟨w0,s0,DH,DI,DJ⟩:=h0
 subst DD
 subst DE
 subst DF
 unfold ae.pj7 at hp
 unfold ae.j7
 exact hC509 rfl rfl rfl ⟨w0,s0,DH,DI,DJ⟩ hp
def ae.pj6 (F:Nat)  (qY:Int) (nw:List Int) (lk:Int):Option (List Int×Int):=some (nw,(IntKind.i64.wrap (lk + qY)))
theorem ae.j6_P {F:Nat} {H0:Hp} {Ri R0:List Rs}   {yj yk:ON} {uN pl uO:Nat} {yl ym:Cap} {yn:List (Int×Int×Int×Int×Int)} {qY lk:Int} {nw:List Int} {yo:List AV} {H:Hp} (DK:uN = yn.length) (DL:uO = nw.length) (h0:Out H0 Ri H (Rs.blk pl [.sl ⟨yj,uN,yl⟩,.int .i64 qY] :: Rs.own ⟨yk,uO,ym⟩ (eInt .i64).z yo :: R0) fun R=>ROs (ePair (eInt .i64) (ePair (eInt .i64) (ePair (eInt .i64) (ePair (eInt .i64) (eInt .i64))))) H R ⟨yj,uN,yl⟩ yn∧CR (eInt .i64) H R yo nw) {r:List Int×Int} (hp:ae.pj6 F  qY nw lk = some r):∃ v H',ae.j6 F   pl 0 ⟨yk,uO,ym⟩ lk H = some (v,H')∧ae.Q H0 Ri R0  r v H':=by
 obtain ⟨w0,s0,Fk,DM⟩:=h0
 subst DK
 subst DL
 unfold ae.pj6 at hp
 unfold ae.j6
 refine bind_ex (ldI_of (w0.ld (i:=0) rfl rfl)) ?_
 obtain ⟨w1,s1⟩:=w0.pick' [1] 2 rfl rfl rfl
 dsimp only [pk,pks,nth,List.drop] at w1 s1
 obtain rfl:=Option.some.inj hp
 exact ⟨_,_,rfl,_,_,_,_,rfl,rfl,w1,(s0.trans s1),(DM.step s1)⟩
def ae.pl509 (F:Nat) :Nat→Int→List Int→List Int→Int→Int→Option (List Int×Int)
 | 0,_,_,_,_,_=>none
 | k + 1,jL,gO,gP,dl,de=>(bif (decide (de < (gO.length:Int))) then ((ix gO de).bind fun n1=>(bif ((gt gO n1) == de) then ((apn gP ([dl]:List Int)).bind fun l3=>ae.pj7 F (ae.pl509 F k) jL gO l3 (IntKind.i64.wrap (dl + 1)) de) else ((ix gO de).bind fun n6=>(ix gP (gt gO n6)).bind fun n7=>(apn gP ([(gt gP n7)]:List Int)).bind fun l9=>ae.pj7 F (ae.pl509 F k) jL gO l9 dl de))) else (ae.pj6 F jL gP dl))
termination_by structural n=>n
theorem ae.l509_P {F:Nat} {H0:Hp} {Ri R0:List Rs}  :∀ k,ae.S509 H0 Ri R0  (ae.l509 F   k) (ae.pl509 F  k):=by
 intro k
 induction k with
 | zero=>
  intro qN qO qP nr eI ns nt qQ qR qS qT jL dl de gO gP qU qV H yp yq yr h0 r hp
  exact nomatch (show (none:Option (List Int×Int)) = some r from hp)
 | succ k ih=>
  intro qN qO qP nr eI ns nt qQ qR qS qT jL dl de gO gP qU qV H yp yq yr h0 r hp
  obtain ⟨w0,s0,uP,qZ,q_⟩:=h0
  subst yp
  subst yq
  subst yr
  unfold ae.pl509 at hp
  unfold ae.l509
  refine bif_ex (fun hb=>?_) (fun hb=>?_)
  ·replace hp:=bif_t hb hp
   obtain ⟨n1,g1,hp⟩:=bind_some' hp
   obtain ⟨p1,q1,i1,h1,j1⟩:=W.ixo (E:=(eInt .i64)) w0 (i:=1) rfl rfl qZ g1
   refine bind_ex i1 ?_
   have h1:_ = [_]:=h1
   subst h1
   refine bind_ex (ldI_of (j1 0 _ rfl)) ?_
   refine bif_ex (fun hb=>?_) (fun hb=>?_)
   ·replace hp:=bif_t hb hp
    refine newS_k (eInt .i64) w0 (n:=1) (l:=([dl]:List Int)) rfl (CR.cons1 rfl CR.empty) rfl fun H2 w2 s2 c2=>?_
    refine bind_ex (w2.rowo (i:=0) rfl) ?_
    obtain ⟨l3,e3,hp⟩:=bind_some' hp
    refine app_k (eInt .i64) w2 (i:=3) rfl rfl (q_.step s2) c2 (show 1 = List.length ([dl]:List Int) from rfl) rfl e3 fun a4 d4 H4 w4 s4 c4 x4=>?_
    dsimp only [List.set] at w4 s4 c4
    obtain ⟨w5,s5⟩:=w4.pick' [1,2,3] 4 rfl rfl rfl
    dsimp only [pk,pks,nth,List.drop] at w5 s5
    exact ae.j7_P (@ih) rfl rfl rfl ⟨w5,(s0.trans (s2.trans (s4.trans s5))),(uP.step (s2.trans (s4.trans s5))),(qZ.step (s2.trans (s4.trans s5))),(c4.step s5)⟩ hp
   ·replace hp:=bif_f hb hp
    obtain ⟨n6,g6,hp⟩:=bind_some' hp
    obtain ⟨p6,q6,i6,h6,j6⟩:=W.ixo (E:=(eInt .i64)) w0 (i:=1) rfl rfl qZ g6
    refine bind_ex i6 ?_
    have h6:_ = [_]:=h6
    subst h6
    refine bind_ex (ldI_of (j6 0 _ rfl)) ?_
    obtain ⟨n7,g7,hp⟩:=bind_some' hp
    obtain ⟨p7,q7,i7,h7,j7⟩:=W.ixo (E:=(eInt .i64)) w0 (i:=2) rfl rfl q_ g7
    refine bind_ex i7 ?_
    have h7:_ = [_]:=h7
    subst h7
    refine bind_ex (ldI_of (j7 0 _ rfl)) ?_
    refine newS_k (eInt .i64) w0 (n:=1) (l:=([(gt gP n7)]:List Int)) rfl (CR.cons1 rfl CR.empty) rfl fun H8 w8 s8 c8=>?_
    refine bind_ex (w8.rowo (i:=0) rfl) ?_
    obtain ⟨l9,e9,hp⟩:=bind_some' hp
    refine app_k (eInt .i64) w8 (i:=3) rfl rfl (q_.step s8) c8 (show 1 = List.length ([(gt gP n7)]:List Int) from rfl) rfl e9 fun a10 d10 H10 w10 s10 c10 x10=>?_
    dsimp only [List.set] at w10 s10 c10
    obtain ⟨w11,s11⟩:=w10.pick' [1,2,3] 4 rfl rfl rfl
    dsimp only [pk,pks,nth,List.drop] at w11 s11
    exact ae.j7_P (@ih) rfl rfl rfl ⟨w11,(s0.trans (s8.trans (s10.trans s11))),(uP.step (s8.trans (s10.trans s11))),(qZ.step (s8.trans (s10.trans s11))),(c10.step s11)⟩ hp
  ·replace hp:=bif_f hb hp
   obtain ⟨w12,s12⟩:=w0.pick' [0,2] 3 rfl rfl rfl
   dsimp only [pk,pks,nth,List.drop] at w12 s12
   exact ae.j6_P rfl rfl ⟨w12,(s0.trans s12),(uP.step s12),(q_.step s12)⟩ hp
def ae.pj8 (F:Nat)  (ra:Int) (nx:List Int):Option (List Int×Int):=ae.pl509 F F ra nx ([]:List Int) 0 0
theorem ae.j8_P {F:Nat} {H0:Hp} {Ri R0:List Rs}   {yt yu:ON} {uQ po uR:Nat} {yv yw:Cap} {yx:List (Int×Int×Int×Int×Int)} {ra:Int} {nx:List Int} {yy:List AV} {H:Hp} (DN:uQ = yx.length) (DO:uR = nx.length) (h0:Out H0 Ri H (Rs.blk po [.sl ⟨yt,uQ,yv⟩,.int .i64 ra] :: Rs.own ⟨yu,uR,yw⟩ (eInt .i64).z yy :: R0) fun R=>ROs (ePair (eInt .i64) (ePair (eInt .i64) (ePair (eInt .i64) (ePair (eInt .i64) (eInt .i64))))) H R ⟨yt,uQ,yv⟩ yx∧CR (eInt .i64) H R yy nx) {r:List Int×Int} (hp:ae.pj8 F  ra nx = some r):∃ v H',ae.j8 F   po 0 ⟨yu,uR,yw⟩ H = some (v,H')∧ae.Q H0 Ri R0  r v H':=by
 obtain ⟨w0,s0,DP,DQ⟩:=h0
 subst DN
 subst DO
 unfold ae.pj8 at hp
 unfold ae.j8
 refine newS_k (eInt .i64) w0 (n:=0) (l:=([]:List Int)) rfl CR.empty rfl fun H1 w1 s1 c1=>?_
 obtain ⟨w2,s2⟩:=w1.pick' [1,2,0] 3 rfl rfl rfl
 dsimp only [pk,pks,nth,List.drop] at w2 s2
 exact ae.l509_P F rfl rfl (show 0 = List.length ([]:List Int) from rfl) ⟨w2,(s0.trans (s1.trans s2)),(DP.step (s1.trans s2)),(DQ.step (s1.trans s2)),(c1.step s2)⟩ hp
def ae.pl61 (F:Nat) :Nat→List (Int×Int×Int×Int×Int)→Int→List Int→Int→Option (List Int×Int)
 | 0,_,_,_,_=>none
 | k + 1,ho,kt,hB,dY=>(bif (decide (dY < (ho.length:Int))) then ((ix ho dY).bind fun n1=>(ix hB ((gt ho n1).2.1)).bind fun n2=>(ix ho dY).bind fun n3=>(ix hB ((gt ho n3).2.2.2.1)).bind fun n4=>ae.pl1963 F (ae.pl61 F k) F ho kt hB dY (gt hB n2) (gt hB n4) 0) else (ae.pj8 F kt hB))
termination_by structural n=>n
theorem ae.l61_P {F:Nat} {H0:Hp} {Ri R0:List Rs}  :∀ k,ae.S61 H0 Ri R0  (ae.l61 F   k) (ae.pl61 F  k):=by
 intro k
 induction k with
 | zero=>
  intro qz qA nd eJ ng qB qC ho kt dY hB qD H yz yA h0 r hp
  exact nomatch (show (none:Option (List Int×Int)) = some r from hp)
 | succ k ih=>
  intro qz qA nd eJ ng qB qC ho kt dY hB qD H yz yA h0 r hp
  obtain ⟨w0,s0,rb,rc⟩:=h0
  subst yz
  subst yA
  unfold ae.pl61 at hp
  unfold ae.l61
  refine bind_ex (ldSl_of (w0.ld (i:=0) rfl rfl)) ?_
  refine bif_ex (fun hb=>?_) (fun hb=>?_)
  ·replace hp:=bif_t hb hp
   refine bind_ex (ldSl_of (w0.ld (i:=0) rfl rfl)) ?_
   obtain ⟨n1,g1,hp⟩:=bind_some' hp
   obtain ⟨p1,q1,i1,h1,j1⟩:=ROs.ixr rb rfl g1
   refine bind_ex i1 ?_
   obtain ⟨_,_,rfl,rfl,_,_,rfl,rfl,_,_,rfl,rfl,_,_,rfl,rfl,rfl⟩:=h1
   refine bind_ex (ldI_of (j1 1 _ rfl)) ?_
   obtain ⟨n2,g2,hp⟩:=bind_some' hp
   obtain ⟨p2,q2,i2,h2,j2⟩:=W.ixo (E:=(eInt .i64)) w0 (i:=1) rfl rfl rc g2
   refine bind_ex i2 ?_
   have h2:_ = [_]:=h2
   subst h2
   refine bind_ex (ldI_of (j2 0 _ rfl)) ?_
   refine bind_ex (ldSl_of (w0.ld (i:=0) rfl rfl)) ?_
   obtain ⟨n3,g3,hp⟩:=bind_some' hp
   obtain ⟨p3,q3,i3,h3,j3⟩:=ROs.ixr rb rfl g3
   refine bind_ex i3 ?_
   obtain ⟨_,_,rfl,rfl,_,_,rfl,rfl,_,_,rfl,rfl,_,_,rfl,rfl,rfl⟩:=h3
   refine bind_ex (ldI_of (j3 3 _ rfl)) ?_
   obtain ⟨n4,g4,hp⟩:=bind_some' hp
   obtain ⟨p4,q4,i4,h4,j4⟩:=W.ixo (E:=(eInt .i64)) w0 (i:=1) rfl rfl rc g4
   refine bind_ex i4 ?_
   have h4:_ = [_]:=h4
   subst h4
   refine bind_ex (ldI_of (j4 0 _ rfl)) ?_
   exact ae.l1963_P (@ih) F rfl rfl ⟨w0,s0,rb,rc⟩ hp
  ·replace hp:=bif_f hb hp
   exact ae.j8_P rfl rfl ⟨w0,s0,rb,rc⟩ hp
def ae.pj13 (F:Nat)  (ny:List (Int×Int×Int×Int×Int)) (rd:Int) (nz:List Int):Option (List Int×Int):=ae.pl61 F F ny rd nz 0
theorem ae.j13_P {F:Nat} {H0:Hp} {Ri R0:List Rs}   {yB yC:ON} {uS lg uT:Nat} {yD yE:Cap} {ny:List (Int×Int×Int×Int×Int)} {rd:Int} {nz:List Int} {yF:List AV} {H:Hp} (DR:uS = ny.length) (DS:uT = nz.length) (h0:Out H0 Ri H (Rs.blk lg [.sl ⟨yB,uS,yD⟩,.int .i64 rd] :: Rs.own ⟨yC,uT,yE⟩ (eInt .i64).z yF :: R0) fun R=>ROs (ePair (eInt .i64) (ePair (eInt .i64) (ePair (eInt .i64) (ePair (eInt .i64) (eInt .i64))))) H R ⟨yB,uS,yD⟩ ny∧CR (eInt .i64) H R yF nz) {r:List Int×Int} (hp:ae.pj13 F  ny rd nz = some r):∃ v H',ae.j13 F   lg 0 ⟨yC,uT,yE⟩ H = some (v,H')∧ae.Q H0 Ri R0  r v H':=by
 obtain ⟨w0,s0,DT,DU⟩:=h0
 subst DR
 subst DS
 unfold ae.pj13 at hp
 unfold ae.j13
 exact ae.l61_P F rfl rfl ⟨w0,s0,DT,DU⟩ hp
def ae.pl29 (F:Nat) :Nat→List (Int×Int×Int×Int×Int)→Int→List Int→Int→Option (List Int×Int)
 | 0,_,_,_,_=>none
 | k + 1,fq,iu,jJ,dZ=>(bif (decide (dZ < (IntKind.i64.wrap (2 * (fq.length:Int))))) then ((apn jJ ([dZ]:List Int)).bind fun l2=>ae.pl29 F k fq iu l2 (IntKind.i64.wrap (dZ + 1))) else (ae.pj13 F fq iu jJ))
termination_by structural n=>n
theorem ae.l29_P {F:Nat} {H0:Hp} {Ri R0:List Rs}  :∀ k,ae.S29 H0 Ri R0  (ae.l29 F   k) (ae.pl29 F  k):=by
 intro k
 induction k with
 | zero=>
  intro jd qw ir cl nc je qx fq iu dZ jJ qy H mZ yG h0 r hp
  exact nomatch (show (none:Option (List Int×Int)) = some r from hp)
 | succ k ih=>
  intro jd qw ir cl nc je qx fq iu dZ jJ qy H mZ yG h0 r hp
  obtain ⟨w0,s0,m_,yH⟩:=h0
  subst mZ
  subst yG
  unfold ae.pl29 at hp
  unfold ae.l29
  refine bind_ex (ldSl_of (w0.ld (i:=0) rfl rfl)) ?_
  refine bif_ex (fun hb=>?_) (fun hb=>?_)
  ·replace hp:=bif_t hb hp
   refine newS_k (eInt .i64) w0 (n:=1) (l:=([dZ]:List Int)) rfl (CR.cons1 rfl CR.empty) rfl fun H1 w1 s1 c1=>?_
   refine bind_ex (w1.rowo (i:=0) rfl) ?_
   obtain ⟨l2,e2,hp⟩:=bind_some' hp
   refine app_k (eInt .i64) w1 (i:=2) rfl rfl (yH.step s1) c1 (show 1 = List.length ([dZ]:List Int) from rfl) rfl e2 fun a3 d3 H3 w3 s3 c3 x3=>?_
   dsimp only [List.set] at w3 s3 c3
   obtain ⟨w4,s4⟩:=w3.pick' [1,2] 3 rfl rfl rfl
   dsimp only [pk,pks,nth,List.drop] at w4 s4
   exact ih rfl rfl ⟨w4,(s0.trans (s1.trans (s3.trans s4))),(m_.step (s1.trans (s3.trans s4))),(c3.step s4)⟩ hp
  ·replace hp:=bif_f hb hp
   exact ae.j13_P rfl rfl ⟨w0,s0,m_,yH⟩ hp
def ae.p (F:Nat) (ac:List (Int×Int×Int×Int×Int)) (ab:Int):Option (List Int×Int):=ae.pl29 F F ac ab ([]:List Int) 0
theorem ae.P {F:Nat} {av:ON} {aj:Nat} {aw:Cap} {ac:List (Int×Int×Int×Int×Int)} {ab:Int} {H:Hp} {R0:List Rs} (ba:aj = ac.length) (h0:Inn H R0 fun R=>ROs (ePair (eInt .i64) (ePair (eInt .i64) (ePair (eInt .i64) (ePair (eInt .i64) (eInt .i64))))) H R ⟨av,aj,aw⟩ ac) {r:List Int×Int} (hp:ae.p F ac ab = some r):∃ v H',ae.tw F ⟨av,aj,aw⟩ ab H = some (v,H')∧ae.Q H R0 R0  r v H':=by
 obtain ⟨w0,aH⟩:=h0
 subst ba
 unfold ae.p at hp
 unfold ae.tw ae.twX
 have s0:=w0.rf
 refine new_k w0 fun H1 w1 s1=>?_
 refine newS_k (eInt .i64) w1 (n:=0) (l:=([]:List Int)) rfl CR.empty rfl fun H2 w2 s2 c2=>?_
 obtain ⟨w3,s3⟩:=w2.pick' [1,0] 2 rfl rfl rfl
 dsimp only [pk,pks,nth,List.drop] at w3 s3
 exact ae.l29_P F rfl (show 0 = List.length ([]:List Int) from rfl) ⟨w3,(s0.trans (s1.trans (s2.trans s3))),(aH.step (s1.trans (s2.trans s3))),(c2.step s3)⟩ hp
def bE.Q (H0:Hp) (Ri R0:List Rs)  (r:Int×Int×List Int) (v:AV) (H':Hp):Prop:=∃ o2a:ON,∃ o2n:Nat,∃ o2k:List AV,v = (.agg [(.int .i64 r.1),(.int .i64 r.2.1),(.sl ⟨o2a,o2n,.ex o2n⟩)])∧o2n = (r.2.2).length∧Out H0 Ri H' (Rs.own ⟨o2a,o2n,.ex o2n⟩ (eInt .i64).z o2k :: R0) fun R=>CR (eInt .i64) H' R o2k (r.2.2)
def bE.p (F:Nat) (aa:Int) (ad:Int):Option (Int×Int×List Int):=(mkn (IntKind.i64.wrap (aa * ad)) (0:Int)).bind fun l2=>some (aa,ad,l2)
theorem bE.P {F:Nat} {aa ad:Int} {H:Hp} {R0:List Rs}  (h0:Inn H R0 fun R=>True) {r:Int×Int×List Int} (hp:bE.p F aa ad = some r):∃ v H',bE.tw F aa ad H = some (v,H')∧bE.Q H R0 R0  r v H':=by
 obtain ⟨w0,_⟩:=h0
 unfold bE.p at hp
 unfold bE.tw bE.twX
 have s0:=w0.rf
 refine new_k w0 fun H1 w1 s1=>?_
 obtain ⟨l2,e2,hp⟩:=bind_some' hp
 refine mk_k (eInt .i64) (0:Int) w1 rfl rfl rfl e2 fun H3 k3 w3 s3 c3=>?_
 refine st_k w3 (i:=1) rfl rfl rfl fun H4 w4 s4=>?_
 dsimp only [List.set] at w4 s4
 refine st_k w4 (i:=1) rfl rfl rfl fun H5 w5 s5=>?_
 dsimp only [List.set] at w5 s5
 refine st_k w5 (i:=1) rfl rfl rfl fun H6 w6 s6=>?_
 dsimp only [List.set] at w6 s6
 refine bind_ex (ldI_of (w6.ld (i:=1) rfl rfl)) ?_
 refine bind_ex (ldI_of (w6.ld (i:=1) rfl rfl)) ?_
 refine bind_ex (ldSl_of (w6.ld (i:=1) rfl rfl)) ?_
 obtain ⟨w7,s7⟩:=w6.pick' [0] 2 rfl rfl rfl
 dsimp only [pk,pks,nth,List.drop] at w7 s7
 obtain rfl:=Option.some.inj hp
 exact ⟨_,_,rfl,_,_,_,rfl,rfl,w7,(s0.trans (s1.trans (s3.trans (s4.trans (s5.trans (s6.trans s7)))))),(c3.step (s4.trans (s5.trans (s6.trans s7))))⟩
def aK.Q (H0:Hp) (Ri R0:List Rs)  (r:Int×Int×List Int) (v:AV) (H':Hp):Prop:=∃ o2a:ON,∃ o2n:Nat,∃ o2c:Cap,∃ o2k:List AV,v = (.agg [(.int .i64 r.1),(.int .i64 r.2.1),(.sl ⟨o2a,o2n,o2c⟩)])∧o2n = (r.2.2).length∧Out H0 Ri H' (Rs.own ⟨o2a,o2n,o2c⟩ (eInt .i64).z o2k :: R0) fun R=>CR (eInt .i64) H' R o2k (r.2.2)
def aK.S61 (H0:Hp) (Ri R0:List Rs)  (C:Nat→Nat→Nat→Nat→Sl→Int→Nat→Nat→Int→Hp→OA) (pC:List (Int×Int×Int×Int×Int)→List Int→Int→Int→Int→List Int→Int→Option (Int×Int×List Int)):Prop:=∀ {jf rh ri rj:ON} {iv cd nA dz nB nC bS:Nat} {jg rl rm rn:Cap} {eA:List (Int×Int×Int×Int×Int)} {kr uU uV cG jM ku cD:Int} {ro fX iy:List Int} {rp rq rr:List AV},∀ {H:Hp},iv = eA.length→nA = ro.length→nB = fX.length→nC = iy.length→(Out H0 Ri H (Rs.blk cd [.sl ⟨jf,iv,jg⟩,.int .i64 kr] :: Rs.own ⟨rh,nA,rl⟩ (eInt .i64).z rp :: Rs.blk dz [.int .i64 uU,.int .i64 uV,.sl ⟨rh,nA,rl⟩] :: Rs.own ⟨ri,nB,rm⟩ (eInt .i64).z rq :: Rs.own ⟨rj,nC,rn⟩ (eInt .i64).z rr :: Rs.blk bS [.int .i64 jM,.int .i64 ku,.sl ⟨rj,nC,rn⟩] :: R0) fun R=>ROs (ePair (eInt .i64) (ePair (eInt .i64) (ePair (eInt .i64) (ePair (eInt .i64) (eInt .i64))))) H R ⟨jf,iv,jg⟩ eA∧CR (eInt .i64) H R rp ro∧CR (eInt .i64) H R rq fX∧CR (eInt .i64) H R rr iy)→∀ {r:Int×Int×List Int},pC eA fX cG jM ku iy cD = some r→∃ v H',C cd 0 dz 0 ⟨ri,nB,rm⟩ cG bS 0 cD H = some (v,H')∧aK.Q H0 Ri R0  r v H'
def aK.pl61 (F:Nat) :Nat→List (Int×Int×Int×Int×Int)→List Int→Int→Int→Int→List Int→Int→Option (Int×Int×List Int)
 | 0,_,_,_,_,_,_,_=>none
 | k + 1,eA,fX,cG,jM,ku,iy,cD=>(bif (decide (cD < jM)) then ((ix eA cD).bind fun n1=>(ix fX ((gt eA n1).1)).bind fun n8=>(ix fX ((gt eA n1).2.2.1)).bind fun n9=>(ix fX ((gt eA n1).2.1)).bind fun n10=>(ix iy (IntKind.i64.wrap ((IntKind.i64.wrap (cD * cG)) + (gt fX n8)))).bind fun n11=>(ix iy (IntKind.i64.wrap ((IntKind.i64.wrap (cD * cG)) + (gt fX n8)))).bind fun n12=>(some (iy.set n12 (IntKind.i64.wrap ((gt iy n11) - 1)))).bind fun l13=>(ix l13 (IntKind.i64.wrap ((IntKind.i64.wrap (cD * cG)) + (gt fX n9)))).bind fun n15=>(ix l13 (IntKind.i64.wrap ((IntKind.i64.wrap (cD * cG)) + (gt fX n9)))).bind fun n16=>(some (l13.set n16 (IntKind.i64.wrap ((gt l13 n15) - 1)))).bind fun l17=>(ix l17 (IntKind.i64.wrap ((IntKind.i64.wrap (cD * cG)) + (gt fX n10)))).bind fun n19=>(ix l17 (IntKind.i64.wrap ((IntKind.i64.wrap (cD * cG)) + (gt fX n10)))).bind fun n20=>(some (l17.set n20 (IntKind.i64.wrap ((gt l17 n19) + 2)))).bind fun l21=>aK.pl61 F k eA fX cG jM ku l21 (IntKind.i64.wrap (cD + 1))) else (some (jM,ku,iy)))
termination_by structural n=>n
theorem aK.l61_P {F:Nat} {H0:Hp} {Ri R0:List Rs}  :∀ k,aK.S61 H0 Ri R0  (aK.l61 F (ae.tw F) (bE.tw F)  k) (aK.pl61 F  k):=by
 intro k
 induction k with
 | zero=>
  intro jf rh ri rj iv cd nA dz nB nC bS jg rl rm rn eA kr uU uV cG jM ku cD ro fX iy rp rq rr H mW yI yJ yK h0 r hp
  exact nomatch (show (none:Option (Int×Int×List Int)) = some r from hp)
 | succ k ih=>
  intro jf rh ri rj iv cd nA dz nB nC bS jg rl rm rn eA kr uU uV cG jM ku cD ro fX iy rp rq rr H mW yI yJ yK h0 r hp
  obtain ⟨w0,s0,lR,DV,rs,rt⟩:=h0
  subst mW
  subst yI
  subst yJ
  subst yK
  unfold aK.pl61 at hp
  unfold aK.l61
  refine bind_ex (ldI_of (w0.ld (i:=5) rfl rfl)) ?_
  refine bif_ex (fun hb=>?_) (fun hb=>?_)
  ·replace hp:=bif_t hb hp
   refine bind_ex (ldSl_of (w0.ld (i:=0) rfl rfl)) ?_
   obtain ⟨n1,g1,hp⟩:=bind_some' hp
   obtain ⟨p1,q1,i1,h1,j1⟩:=ROs.ixr lR rfl g1
   refine bind_ex i1 ?_
   obtain ⟨_,_,rfl,rfl,_,_,rfl,rfl,_,_,rfl,rfl,_,_,rfl,rfl,rfl⟩:=h1
   refine bind_ex (ldI_of (j1 0 _ rfl)) ?_
   refine bind_ex (ldI_of (j1 1 _ rfl)) ?_
   refine bind_ex (ldI_of (j1 2 _ rfl)) ?_
   refine bind_ex (ldI_of (j1 3 _ rfl)) ?_
   refine bind_ex (ldI_of (j1 4 _ rfl)) ?_
   refine new_k w0 fun H2 w2 s2=>?_
   refine st_k w2 (i:=0) rfl rfl rfl fun H3 w3 s3=>?_
   dsimp only [List.set] at w3 s3
   refine st_k w3 (i:=0) rfl rfl rfl fun H4 w4 s4=>?_
   dsimp only [List.set] at w4 s4
   refine st_k w4 (i:=0) rfl rfl rfl fun H5 w5 s5=>?_
   dsimp only [List.set] at w5 s5
   refine st_k w5 (i:=0) rfl rfl rfl fun H6 w6 s6=>?_
   dsimp only [List.set] at w6 s6
   refine st_k w6 (i:=0) rfl rfl rfl fun H7 w7 s7=>?_
   dsimp only [List.set] at w7 s7
   refine bind_ex (ldI_of (w7.ld (i:=0) rfl rfl)) ?_
   obtain ⟨n8,g8,hp⟩:=bind_some' hp
   obtain ⟨p8,q8,i8,h8,j8⟩:=W.ixo (E:=(eInt .i64)) w7 (i:=4) rfl rfl (rs.step (s2.trans (s3.trans (s4.trans (s5.trans (s6.trans s7)))))) g8
   refine bind_ex i8 ?_
   have h8:_ = [_]:=h8
   subst h8
   refine bind_ex (ldI_of (j8 0 _ rfl)) ?_
   refine bind_ex (ldI_of (w7.ld (i:=0) rfl rfl)) ?_
   obtain ⟨n9,g9,hp⟩:=bind_some' hp
   obtain ⟨p9,q9,i9,h9,j9⟩:=W.ixo (E:=(eInt .i64)) w7 (i:=4) rfl rfl (rs.step (s2.trans (s3.trans (s4.trans (s5.trans (s6.trans s7)))))) g9
   refine bind_ex i9 ?_
   have h9:_ = [_]:=h9
   subst h9
   refine bind_ex (ldI_of (j9 0 _ rfl)) ?_
   refine bind_ex (ldI_of (w7.ld (i:=0) rfl rfl)) ?_
   obtain ⟨n10,g10,hp⟩:=bind_some' hp
   obtain ⟨p10,q10,i10,h10,j10⟩:=W.ixo (E:=(eInt .i64)) w7 (i:=4) rfl rfl (rs.step (s2.trans (s3.trans (s4.trans (s5.trans (s6.trans s7)))))) g10
   refine bind_ex i10 ?_
   have h10:_ = [_]:=h10
   subst h10
   refine bind_ex (ldI_of (j10 0 _ rfl)) ?_
   refine bind_ex (ldSl_of (w7.ld (i:=6) rfl rfl)) ?_
   refine bind_ex (ldSl_of (w7.ld (i:=6) rfl rfl)) ?_
   obtain ⟨n11,g11,hp⟩:=bind_some' hp
   obtain ⟨p11,q11,i11,h11,j11⟩:=W.ixo (E:=(eInt .i64)) w7 (i:=5) rfl rfl (rt.step (s2.trans (s3.trans (s4.trans (s5.trans (s6.trans s7)))))) g11
   refine bind_ex i11 ?_
   have h11:_ = [_]:=h11
   subst h11
   refine bind_ex (ldI_of (j11 0 _ rfl)) ?_
   obtain ⟨n12,g12,hp⟩:=bind_some' hp
   obtain ⟨p12,q12,i12,h12,j12⟩:=W.ixo (E:=(eInt .i64)) w7 (i:=5) rfl rfl (rt.step (s2.trans (s3.trans (s4.trans (s5.trans (s6.trans s7)))))) g12
   refine bind_ex i12 ?_
   obtain ⟨l13,e13,hp⟩:=bind_some' hp
   refine sto_k (eInt .i64) w7 (i:=5) (j:=0) (p:=p12) rfl rfl (rt.step (s2.trans (s3.trans (s4.trans (s5.trans (s6.trans s7)))))) g12 i12 e13 rfl rfl (fun _ h=>by have h:_ = [_]:=h; subst h; exact rfl) fun H14 k14 w14 s14 c14=>?_
   dsimp only [List.set] at w14 s14 c14
   refine bind_ex (ldSl_of (w14.ld (i:=6) rfl rfl)) ?_
   refine bind_ex (ldSl_of (w14.ld (i:=6) rfl rfl)) ?_
   obtain ⟨n15,g15,hp⟩:=bind_some' hp
   obtain ⟨p15,q15,i15,h15,j15⟩:=W.ixo (E:=(eInt .i64)) w14 (i:=5) rfl rfl c14 g15
   refine bind_ex i15 ?_
   have h15:_ = [_]:=h15
   subst h15
   refine bind_ex (ldI_of (j15 0 _ rfl)) ?_
   obtain ⟨n16,g16,hp⟩:=bind_some' hp
   obtain ⟨p16,q16,i16,h16,j16⟩:=W.ixo (E:=(eInt .i64)) w14 (i:=5) rfl rfl c14 g16
   refine bind_ex i16 ?_
   obtain ⟨l17,e17,hp⟩:=bind_some' hp
   refine sto_k (eInt .i64) w14 (i:=5) (j:=0) (p:=p16) rfl rfl c14 g16 i16 e17 rfl rfl (fun _ h=>by have h:_ = [_]:=h; subst h; exact rfl) fun H18 k18 w18 s18 c18=>?_
   dsimp only [List.set] at w18 s18 c18
   refine bind_ex (ldSl_of (w18.ld (i:=6) rfl rfl)) ?_
   refine bind_ex (ldSl_of (w18.ld (i:=6) rfl rfl)) ?_
   obtain ⟨n19,g19,hp⟩:=bind_some' hp
   obtain ⟨p19,q19,i19,h19,j19⟩:=W.ixo (E:=(eInt .i64)) w18 (i:=5) rfl rfl c18 g19
   refine bind_ex i19 ?_
   have h19:_ = [_]:=h19
   subst h19
   refine bind_ex (ldI_of (j19 0 _ rfl)) ?_
   obtain ⟨n20,g20,hp⟩:=bind_some' hp
   obtain ⟨p20,q20,i20,h20,j20⟩:=W.ixo (E:=(eInt .i64)) w18 (i:=5) rfl rfl c18 g20
   refine bind_ex i20 ?_
   obtain ⟨l21,e21,hp⟩:=bind_some' hp
   refine sto_k (eInt .i64) w18 (i:=5) (j:=0) (p:=p20) rfl rfl c18 g20 i20 e21 rfl rfl (fun _ h=>by have h:_ = [_]:=h; subst h; exact rfl) fun H22 k22 w22 s22 c22=>?_
   dsimp only [List.set] at w22 s22 c22
   obtain ⟨w23,s23⟩:=w22.pick' [1,2,3,4,5,6] 7 rfl rfl rfl
   dsimp only [pk,pks,nth,List.drop] at w23 s23
   exact ih rfl rfl rfl (((st_len e13).symm.trans (st_len e17).symm).trans (st_len e21).symm) ⟨w23,(s0.trans (s2.trans (s3.trans (s4.trans (s5.trans (s6.trans (s7.trans (s14.trans (s18.trans (s22.trans s23)))))))))),(lR.step (s2.trans (s3.trans (s4.trans (s5.trans (s6.trans (s7.trans (s14.trans (s18.trans (s22.trans s23)))))))))),(DV.step (s2.trans (s3.trans (s4.trans (s5.trans (s6.trans (s7.trans (s14.trans (s18.trans (s22.trans s23)))))))))),(rs.step (s2.trans (s3.trans (s4.trans (s5.trans (s6.trans (s7.trans (s14.trans (s18.trans (s22.trans s23)))))))))),(c22.step s23)⟩ hp
  ·replace hp:=bif_f hb hp
   refine bind_ex (ldI_of (w0.ld (i:=5) rfl rfl)) ?_
   refine bind_ex (ldI_of (w0.ld (i:=5) rfl rfl)) ?_
   refine bind_ex (ldSl_of (w0.ld (i:=5) rfl rfl)) ?_
   refine st_k w0 (i:=2) rfl rfl rfl fun H24 w24 s24=>?_
   dsimp only [List.set] at w24 s24
   refine st_k w24 (i:=2) rfl rfl rfl fun H25 w25 s25=>?_
   dsimp only [List.set] at w25 s25
   refine st_k w25 (i:=2) rfl rfl rfl fun H26 w26 s26=>?_
   dsimp only [List.set] at w26 s26
   refine bind_ex (ldI_of (w26.ld (i:=2) rfl rfl)) ?_
   refine bind_ex (ldI_of (w26.ld (i:=2) rfl rfl)) ?_
   refine bind_ex (ldSl_of (w26.ld (i:=2) rfl rfl)) ?_
   obtain ⟨w27,s27⟩:=w26.pick' [4] 6 rfl rfl rfl
   dsimp only [pk,pks,nth,List.drop] at w27 s27
   obtain rfl:=Option.some.inj hp
   exact ⟨_,_,rfl,_,_,_,_,rfl,rfl,w27,(s0.trans (s24.trans (s25.trans (s26.trans s27)))),(rt.step (s24.trans (s25.trans (s26.trans s27))))⟩
def aK.p (F:Nat) (ac:List (Int×Int×Int×Int×Int)) (ab:Int):Option (Int×Int×List Int):=(ae.p F ac ab).bind fun r3=>(bE.p F (ac.length:Int) r3.2).bind fun r5=>aK.pl61 F F ac r3.1 r3.2 r5.1 r5.2.1 r5.2.2 0
theorem aK.P {F:Nat} {av:ON} {aj:Nat} {aw:Cap} {ac:List (Int×Int×Int×Int×Int)} {ab:Int} {H:Hp} {R0:List Rs} (ba:aj = ac.length) (h0:Inn H R0 fun R=>ROs (ePair (eInt .i64) (ePair (eInt .i64) (ePair (eInt .i64) (ePair (eInt .i64) (eInt .i64))))) H R ⟨av,aj,aw⟩ ac) {r:Int×Int×List Int} (hp:aK.p F ac ab = some r):∃ v H',aK.tw F ⟨av,aj,aw⟩ ab H = some (v,H')∧aK.Q H R0 R0  r v H':=by
 obtain ⟨w0,aH⟩:=h0
 subst ba
 unfold aK.p at hp
 unfold aK.tw aK.twX
 have s0:=w0.rf
 refine new_k w0 fun H1 w1 s1=>?_
 refine new_k w1 fun H2 w2 s2=>?_
 refine bind_ex (ldSl_of (w2.ld (i:=1) rfl rfl)) ?_
 refine bind_ex (ldI_of (w2.ld (i:=1) rfl rfl)) ?_
 obtain ⟨r3,e3,hp⟩:=bind_some' hp
 refine call_ex (ae.P rfl ⟨w2,(aH.step (s1.trans s2))⟩ e3) ?_
 rintro _ H4 ⟨o0a_4,o0n_4,o0c_4,o0k_4,rfl,rfl,w4,s4,f4_0⟩
 refine bind_ex rfl ?_
 refine bind_ex rfl ?_
 refine bind_ex rfl ?_
 refine bind_ex rfl ?_
 refine bind_ex rfl ?_
 refine bind_ex (ldSl_of (w4.ld (i:=2) rfl rfl)) ?_
 obtain ⟨r5,e5,hp⟩:=bind_some' hp
 refine call_ex (bE.P ⟨w4,trivial⟩ e5) ?_
 rintro _ H6 ⟨o2a_6,o2n_6,o2k_6,rfl,rfl,w6,s6,f6_0⟩
 refine bind_ex rfl ?_
 refine bind_ex rfl ?_
 refine bind_ex rfl ?_
 refine bind_ex rfl ?_
 refine bind_ex rfl ?_
 refine bind_ex rfl ?_
 refine bind_ex rfl ?_
 refine new_k w6 fun H7 w7 s7=>?_
 refine st_k w7 (i:=0) rfl rfl rfl fun H8 w8 s8=>?_
 dsimp only [List.set] at w8 s8
 refine st_k w8 (i:=0) rfl rfl rfl fun H9 w9 s9=>?_
 dsimp only [List.set] at w9 s9
 refine st_k w9 (i:=0) rfl rfl rfl fun H10 w10 s10=>?_
 dsimp only [List.set] at w10 s10
 obtain ⟨w11,s11⟩:=w10.nilS (eInt .i64).z (by decide)
 obtain ⟨w12,s12⟩:=w11.pick' [5,0,4,3,2,1] 6 rfl rfl rfl
 dsimp only [pk,pks,nth,List.drop] at w12 s12
 exact aK.l61_P F rfl rfl rfl rfl ⟨w12,(s0.trans (s1.trans (s2.trans (s4.trans (s6.trans (s7.trans (s8.trans (s9.trans (s10.trans (s11.trans s12)))))))))),(aH.step (s1.trans (s2.trans (s4.trans (s6.trans (s7.trans (s8.trans (s9.trans (s10.trans (s11.trans s12)))))))))),((CR.empty:CR (eInt .i64) _ _ [] []).step s12),(f4_0.step (s6.trans (s7.trans (s8.trans (s9.trans (s10.trans (s11.trans s12))))))),(f6_0.step (s7.trans (s8.trans (s9.trans (s10.trans (s11.trans s12))))))⟩ hp
def bu.Q (H0:Hp) (Ri R0:List Rs)  (r:Int) (v:AV) (H':Hp):Prop:=v = (.int .i64 r)∧Out H0 Ri H' (R0) fun R=>True
def bu.p (F:Nat) (ab:Int) (dJ:List Int) (ar:Int) (bb:Int):Option (Int):=(ix dJ (IntKind.i64.wrap ((IntKind.i64.wrap (ar * ab)) + bb))).bind fun n2=>some (gt dJ n2)
theorem bu.P {F:Nat} {aa ab ar bb:Int} {iz:ON} {gh:Nat} {iA:Cap} {dJ:List Int} {H:Hp} {R0:List Rs} (kv:gh = dJ.length) (h0:Inn H R0 fun R=>ROs (eInt .i64) H R ⟨iz,gh,iA⟩ dJ) {r:Int} (hp:bu.p F ab dJ ar bb = some r):∃ v H',bu.tw F aa ab ⟨iz,gh,iA⟩ ar bb H = some (v,H')∧bu.Q H R0 R0  r v H':=by
 obtain ⟨w0,kw⟩:=h0
 subst kv
 unfold bu.p at hp
 unfold bu.tw bu.twX
 have s0:=w0.rf
 refine new_k w0 fun H1 w1 s1=>?_
 refine bind_ex (ldSl_of (w1.ld (i:=0) rfl rfl)) ?_
 refine bind_ex (ldI_of (w1.ld (i:=0) rfl rfl)) ?_
 obtain ⟨n2,g2,hp⟩:=bind_some' hp
 obtain ⟨p2,q2,i2,h2,j2⟩:=ROs.ixr (kw.step s1) rfl g2
 refine bind_ex i2 ?_
 have h2:_ = [_]:=h2
 subst h2
 refine bind_ex (ldI_of (j2 0 _ rfl)) ?_
 obtain ⟨w3,s3⟩:=w1.pick' [] 1 rfl rfl rfl
 dsimp only [pk,pks,nth,List.drop] at w3 s3
 obtain rfl:=Option.some.inj hp
 exact ⟨_,_,rfl,rfl,w3,(s0.trans (s1.trans s3)),trivial⟩
def aq.Q (H0:Hp) (Ri R0:List Rs)  (r:Bool) (v:AV) (H':Hp):Prop:=v = (.bool r)∧Out H0 Ri H' (R0) fun R=>True
def aq.S29 (H0:Hp) (Ri R0:List Rs)  (C:Int→Sl→Int→Nat→Nat→Int→Int→Hp→OA) (pC:Int→List Int→Int→Int→List Int→Int→Int→Option (Bool)):Prop:=∀ {cJ bt uW iB dm cE:Int} {ru rv:ON} {nD nE cm:Nat} {rx ry:Cap} {gi iC:List Int},∀ {H:Hp},nD = gi.length→nE = iC.length→(Out H0 Ri H (Rs.blk cm [.int .i64 uW,.int .i64 iB,.sl ⟨rv,nE,ry⟩] :: R0) fun R=>ROs (eInt .i64) H R ⟨ru,nD,rx⟩ gi∧ROs (eInt .i64) H R ⟨rv,nE,ry⟩ iC)→∀ {r:Bool},pC cJ gi bt iB iC dm cE = some r→∃ v H',C cJ ⟨ru,nD,rx⟩ bt cm 0 dm cE H = some (v,H')∧aq.Q H0 Ri R0  r v H'
def aq.pj4 (F:Nat) (jj:Int→List Int→Int→Int→List Int→Int→Int→Option (Bool)) (lx:Int) (nF:List Int) (ly:Int) (rz:Int) (nG:List Int) (lz:Int) (lA:Int):Option (Bool):=jj lx nF ly rz nG lz (IntKind.i64.wrap (lA + 1))
theorem aq.j4_P {F:Nat} {H0:Hp} {Ri R0:List Rs}  {C29_:Int→Sl→Int→Nat→Nat→Int→Int→Hp→OA} {jj:Int→List Int→Int→Int→List Int→Int→Int→Option (Bool)} (hC29:aq.S29 H0 Ri R0  C29_ jj) {lx ly DW rz lz lA:Int} {yL yM:ON} {uX uY ps:Nat} {yN yO:Cap} {nF nG:List Int} {H:Hp} (DX:uX = nF.length) (DY:uY = nG.length) (h0:Out H0 Ri H (Rs.blk ps [.int .i64 DW,.int .i64 rz,.sl ⟨yM,uY,yO⟩] :: R0) fun R=>ROs (eInt .i64) H R ⟨yL,uX,yN⟩ nF∧ROs (eInt .i64) H R ⟨yM,uY,yO⟩ nG) {r:Bool} (hp:aq.pj4 F jj lx nF ly rz nG lz lA = some r):∃ v H',aq.j4 F (bu.tw F) C29_ lx ⟨yL,uX,yN⟩ ly ps 0 lz lA H = some (v,H')∧aq.Q H0 Ri R0  r v H':=by
 obtain ⟨w0,s0,DZ,D_⟩:=h0
 subst DX
 subst DY
 unfold aq.pj4 at hp
 unfold aq.j4
 exact hC29 rfl rfl ⟨w0,s0,DZ,D_⟩ hp
def aq.pj5 (F:Nat) (jj:Int→List Int→Int→Int→List Int→Int→Int→Option (Bool)) (lB:Int) (nH:List Int) (lC:Int) (rA:Int) (nI:List Int) (lD:Int) (lE:Int):Option (Bool):=jj lB nH lC rA nI lD (IntKind.i64.wrap (lE + 1))
theorem aq.j5_P {F:Nat} {H0:Hp} {Ri R0:List Rs}  {C29_:Int→Sl→Int→Nat→Nat→Int→Int→Hp→OA} {jj:Int→List Int→Int→Int→List Int→Int→Int→Option (Bool)} (hC29:aq.S29 H0 Ri R0  C29_ jj) {lB lC Ea rA lD lE:Int} {yP yQ:ON} {uZ u_ pt:Nat} {yR yS:Cap} {nH nI:List Int} {H:Hp} (Eb:uZ = nH.length) (Ec:u_ = nI.length) (h0:Out H0 Ri H (Rs.blk pt [.int .i64 Ea,.int .i64 rA,.sl ⟨yQ,u_,yS⟩] :: R0) fun R=>ROs (eInt .i64) H R ⟨yP,uZ,yR⟩ nH∧ROs (eInt .i64) H R ⟨yQ,u_,yS⟩ nI) {r:Bool} (hp:aq.pj5 F jj lB nH lC rA nI lD lE = some r):∃ v H',aq.j5 F (bu.tw F) C29_ lB ⟨yP,uZ,yR⟩ lC pt 0 lD lE H = some (v,H')∧aq.Q H0 Ri R0  r v H':=by
 obtain ⟨w0,s0,Ed,Ee⟩:=h0
 subst Eb
 subst Ec
 unfold aq.pj5 at hp
 unfold aq.j5
 exact hC29 rfl rfl ⟨w0,s0,Ed,Ee⟩ hp
def aq.pj3 (F:Nat)  (jw:Int) (lw:Int):Option (Bool):=(if jw = 0 then none else (some ((Int.tmod lw jw) == 0)))
theorem aq.j3_P {F:Nat} {H0:Hp} {Ri R0:List Rs}   {jw lw:Int} {H:Hp}  (h0:Out H0 Ri H R0 fun R=>True) {r:Bool} (hp:aq.pj3 F  jw lw = some r):∃ v H',aq.j3 F (bu.tw F)  jw lw H = some (v,H')∧aq.Q H0 Ri R0  r v H':=by
 obtain ⟨w0,s0,_⟩:=h0
 unfold aq.pj3 at hp
 unfold aq.j3
 obtain ⟨g1,hp⟩:=ifn_p hp
 refine ifn_ex g1 ?_
 obtain rfl:=Option.some.inj hp
 exact ⟨_,_,rfl,rfl,w0,s0,trivial⟩
def aq.pl29 (F:Nat) :Nat→Int→List Int→Int→Int→List Int→Int→Int→Option (Bool)
 | 0,_,_,_,_,_,_,_=>none
 | k + 1,cJ,gi,bt,iB,iC,dm,cE=>(bif (decide (cE < iB)) then ((bu.p F iB iC cJ cE).bind fun r1=>(bif (r1 != 0) then ((bif (decide (cE ≥ (gi.length:Int))) then (some true) else ((bif (r1 != 0) then ((ix gi cE).bind fun n4=>aq.pj4 F (aq.pl29 F k) cJ gi bt iB iC (IntKind.i64.wrap (dm + (IntKind.i64.wrap (r1 * (gt gi n4))))) cE) else (aq.pj4 F (aq.pl29 F k) cJ gi bt iB iC dm cE))))) else ((bif (r1 != 0) then ((ix gi cE).bind fun n5=>aq.pj5 F (aq.pl29 F k) cJ gi bt iB iC (IntKind.i64.wrap (dm + (IntKind.i64.wrap (r1 * (gt gi n5))))) cE) else (aq.pj5 F (aq.pl29 F k) cJ gi bt iB iC dm cE))))) else (aq.pj3 F bt dm))
termination_by structural n=>n
theorem aq.l29_P {F:Nat} {H0:Hp} {Ri R0:List Rs}  :∀ k,aq.S29 H0 Ri R0  (aq.l29 F (bu.tw F)  k) (aq.pl29 F  k):=by
 intro k
 induction k with
 | zero=>
  intro cJ bt uW iB dm cE ru rv nD nE cm rx ry gi iC H yT yU h0 r hp
  exact nomatch (show (none:Option (Bool)) = some r from hp)
 | succ k ih=>
  intro cJ bt uW iB dm cE ru rv nD nE cm rx ry gi iC H yT yU h0 r hp
  obtain ⟨w0,s0,lS,nJ⟩:=h0
  subst yT
  subst yU
  unfold aq.pl29 at hp
  unfold aq.l29
  refine bind_ex (ldI_of (w0.ld (i:=0) rfl rfl)) ?_
  refine bif_ex (fun hb=>?_) (fun hb=>?_)
  ·replace hp:=bif_t hb hp
   refine bind_ex (ldI_of (w0.ld (i:=0) rfl rfl)) ?_
   refine bind_ex (ldI_of (w0.ld (i:=0) rfl rfl)) ?_
   refine bind_ex (ldSl_of (w0.ld (i:=0) rfl rfl)) ?_
   obtain ⟨r1,e1,hp⟩:=bind_some' hp
   refine call_ex (bu.P rfl ⟨w0,nJ⟩ e1) ?_
   rintro _ H2 ⟨rfl,w2,s2,_⟩
   refine bind_ex rfl ?_
   refine bif_ex (fun hb=>?_) (fun hb=>?_)
   ·replace hp:=bif_t hb hp
    refine bif_ex (fun hb=>?_) (fun hb=>?_)
    ·replace hp:=bif_t hb hp
     obtain ⟨w3,s3⟩:=w2.pick' [] 1 rfl rfl rfl
     dsimp only [pk,pks,nth,List.drop] at w3 s3
     obtain rfl:=Option.some.inj hp
     exact ⟨_,_,rfl,rfl,w3,(s0.trans (s2.trans s3)),trivial⟩
    ·replace hp:=bif_f hb hp
     refine bif_ex (fun hb=>?_) (fun hb=>?_)
     ·replace hp:=bif_t hb hp
      obtain ⟨n4,g4,hp⟩:=bind_some' hp
      obtain ⟨p4,q4,i4,h4,j4⟩:=ROs.ixr (lS.step s2) rfl g4
      refine bind_ex i4 ?_
      have h4:_ = [_]:=h4
      subst h4
      refine bind_ex (ldI_of (j4 0 _ rfl)) ?_
      exact aq.j4_P (@ih) rfl rfl ⟨w2,(s0.trans s2),(lS.step s2),(nJ.step s2)⟩ hp
     ·replace hp:=bif_f hb hp
      exact aq.j4_P (@ih) rfl rfl ⟨w2,(s0.trans s2),(lS.step s2),(nJ.step s2)⟩ hp
   ·replace hp:=bif_f hb hp
    refine bif_ex (fun hb=>?_) (fun hb=>?_)
    ·replace hp:=bif_t hb hp
     obtain ⟨n5,g5,hp⟩:=bind_some' hp
     obtain ⟨p5,q5,i5,h5,j5⟩:=ROs.ixr (lS.step s2) rfl g5
     refine bind_ex i5 ?_
     have h5:_ = [_]:=h5
     subst h5
     refine bind_ex (ldI_of (j5 0 _ rfl)) ?_
     exact aq.j5_P (@ih) rfl rfl ⟨w2,(s0.trans s2),(lS.step s2),(nJ.step s2)⟩ hp
    ·replace hp:=bif_f hb hp
     exact aq.j5_P (@ih) rfl rfl ⟨w2,(s0.trans s2),(lS.step s2),(nJ.step s2)⟩ hp
  ·replace hp:=bif_f hb hp
   obtain ⟨w6,s6⟩:=w0.pick' [] 1 rfl rfl rfl
   dsimp only [pk,pks,nth,List.drop] at w6 s6
   exact aq.j3_P ⟨w6,(s0.trans s6),trivial⟩ hp
def aq.p (F:Nat) (ab:Int) (dJ:List Int) (ar:Int) (nK:List Int) (fI:Int):Option (Bool):=aq.pl29 F F ar nK fI ab dJ 0 0
theorem aq.P {F:Nat} {aa ab ar fI:Int} {iz yV:ON} {gh vd:Nat} {iA yW:Cap} {dJ nK:List Int} {H:Hp} {R0:List Rs} (kv:gh = dJ.length) (Ef:vd = nK.length) (h0:Inn H R0 fun R=>ROs (eInt .i64) H R ⟨iz,gh,iA⟩ dJ∧ROs (eInt .i64) H R ⟨yV,vd,yW⟩ nK) {r:Bool} (hp:aq.p F ab dJ ar nK fI = some r):∃ v H',aq.tw F aa ab ⟨iz,gh,iA⟩ ar ⟨yV,vd,yW⟩ fI H = some (v,H')∧aq.Q H R0 R0  r v H':=by
 obtain ⟨w0,kw,Eg⟩:=h0
 subst kv
 subst Ef
 unfold aq.p at hp
 unfold aq.tw aq.twX
 have s0:=w0.rf
 refine new_k w0 fun H1 w1 s1=>?_
 exact aq.l29_P F rfl rfl ⟨w1,(s0.trans s1),(Eg.step s1),(kw.step s1)⟩ hp
def aL.Q (H0:Hp) (Ri R0:List Rs)  (r:Bool) (v:AV) (H':Hp):Prop:=v = (.bool r)∧Out H0 Ri H' (R0) fun R=>True
def aL.S13 (H0:Hp) (Ri R0:List Rs)  (C:Sl→Int→Nat→Nat→Int→Hp→OA) (pC:List Int→Int→Int→Int→List Int→Int→Option (Bool)):Prop:=∀ {rB rC:ON} {nL nM bN:Nat} {rD rE:Cap} {jN jO:List Int} {eL kx ky eM:Int},∀ {H:Hp},nL = jN.length→nM = jO.length→(Out H0 Ri H (Rs.blk bN [.int .i64 kx,.int .i64 ky,.sl ⟨rC,nM,rE⟩] :: R0) fun R=>ROs (eInt .i64) H R ⟨rB,nL,rD⟩ jN∧ROs (eInt .i64) H R ⟨rC,nM,rE⟩ jO)→∀ {r:Bool},pC jN eL kx ky jO eM = some r→∃ v H',C ⟨rB,nL,rD⟩ eL bN 0 eM H = some (v,H')∧aL.Q H0 Ri R0  r v H'
def aL.pl13 (F:Nat) :Nat→List Int→Int→Int→Int→List Int→Int→Option (Bool)
 | 0,_,_,_,_,_,_=>none
 | k + 1,jN,eL,kx,ky,jO,eM=>(bif (decide (eM < kx)) then ((aq.p F ky jO eM jN eL).bind fun r1=>(bif (!r1) then (some false) else (aL.pl13 F k jN eL kx ky jO (IntKind.i64.wrap (eM + 1))))) else (some true))
termination_by structural n=>n
theorem aL.l13_P {F:Nat} {H0:Hp} {Ri R0:List Rs}  :∀ k,aL.S13 H0 Ri R0  (aL.l13 F (aq.tw F)  k) (aL.pl13 F  k):=by
 intro k
 induction k with
 | zero=>
  intro rB rC nL nM bN rD rE jN jO eL kx ky eM H yX yY h0 r hp
  exact nomatch (show (none:Option (Bool)) = some r from hp)
 | succ k ih=>
  intro rB rC nL nM bN rD rE jN jO eL kx ky eM H yX yY h0 r hp
  obtain ⟨w0,s0,yZ,y_⟩:=h0
  subst yX
  subst yY
  unfold aL.pl13 at hp
  unfold aL.l13
  refine bind_ex (ldI_of (w0.ld (i:=0) rfl rfl)) ?_
  refine bif_ex (fun hb=>?_) (fun hb=>?_)
  ·replace hp:=bif_t hb hp
   refine bind_ex (ldI_of (w0.ld (i:=0) rfl rfl)) ?_
   refine bind_ex (ldI_of (w0.ld (i:=0) rfl rfl)) ?_
   refine bind_ex (ldSl_of (w0.ld (i:=0) rfl rfl)) ?_
   obtain ⟨r1,e1,hp⟩:=bind_some' hp
   refine call_ex (aq.P rfl rfl ⟨w0,y_,yZ⟩ e1) ?_
   rintro _ H2 ⟨rfl,w2,s2,_⟩
   refine bind_ex rfl ?_
   refine bif_ex (fun hb=>?_) (fun hb=>?_)
   ·replace hp:=bif_t hb hp
    obtain ⟨w3,s3⟩:=w2.pick' [] 1 rfl rfl rfl
    dsimp only [pk,pks,nth,List.drop] at w3 s3
    obtain rfl:=Option.some.inj hp
    exact ⟨_,_,rfl,rfl,w3,(s0.trans (s2.trans s3)),trivial⟩
   ·replace hp:=bif_f hb hp
    exact ih rfl rfl ⟨w2,(s0.trans s2),(yZ.step s2),(y_.step s2)⟩ hp
  ·replace hp:=bif_f hb hp
   obtain ⟨w4,s4⟩:=w0.pick' [] 1 rfl rfl rfl
   dsimp only [pk,pks,nth,List.drop] at w4 s4
   obtain rfl:=Option.some.inj hp
   exact ⟨_,_,rfl,rfl,w4,(s0.trans s4),trivial⟩
def aL.p (F:Nat) (aa:Int) (ab:Int) (dJ:List Int) (dr:List Int) (bb:Int):Option (Bool):=aL.pl13 F F dr bb aa ab dJ 0
theorem aL.P {F:Nat} {aa ab bb:Int} {iz iD:ON} {gh gj:Nat} {iA iE:Cap} {dJ dr:List Int} {H:Hp} {R0:List Rs} (kv:gh = dJ.length) (kz:gj = dr.length) (h0:Inn H R0 fun R=>ROs (eInt .i64) H R ⟨iz,gh,iA⟩ dJ∧ROs (eInt .i64) H R ⟨iD,gj,iE⟩ dr) {r:Bool} (hp:aL.p F aa ab dJ dr bb = some r):∃ v H',aL.tw F aa ab ⟨iz,gh,iA⟩ ⟨iD,gj,iE⟩ bb H = some (v,H')∧aL.Q H R0 R0  r v H':=by
 obtain ⟨w0,kw,kA⟩:=h0
 subst kv
 subst kz
 unfold aL.p at hp
 unfold aL.tw aL.twX
 have s0:=w0.rf
 refine new_k w0 fun H1 w1 s1=>?_
 exact aL.l13_P F rfl rfl ⟨w1,(s0.trans s1),(kA.step s1),(kw.step s1)⟩ hp
def aB.Q (H0:Hp) (Ri R0:List Rs)  (r:Bool) (v:AV) (H':Hp):Prop:=v = (.bool r)∧Out H0 Ri H' (R0) fun R=>True
def aB.S29 (H0:Hp) (Ri R0:List Rs)  (C:Int→Sl→Nat→Nat→Int→Hp→OA) (pC:Int→List Int→List (Int×Int×Int×Int×Int)→Int→Int→Option (Bool)):Prop:=∀ {dN kB eN:Int} {rF rG:ON} {nN nO cH:Nat} {rH rI:Cap} {iF:List Int} {jP:List (Int×Int×Int×Int×Int)},∀ {H:Hp},nN = iF.length→nO = jP.length→(Out H0 Ri H (Rs.blk cH [.sl ⟨rG,nO,rI⟩,.int .i64 kB] :: R0) fun R=>ROs (eInt .i64) H R ⟨rF,nN,rH⟩ iF∧ROs (ePair (eInt .i64) (ePair (eInt .i64) (ePair (eInt .i64) (ePair (eInt .i64) (eInt .i64))))) H R ⟨rG,nO,rI⟩ jP)→∀ {r:Bool},pC dN iF jP kB eN = some r→∃ v H',C dN ⟨rF,nN,rH⟩ cH 0 eN H = some (v,H')∧aB.Q H0 Ri R0  r v H'
def aB.pj1 (F:Nat)  (lF:Int) (lT:List Int) (nP:List (Int×Int×Int×Int×Int)) (rJ:Int):Option (Bool):=(aK.p F nP rJ).bind fun r1=>(bif ((lT.length:Int) == r1.2.1) then ((aL.p F r1.1 r1.2.1 r1.2.2 lT lF).bind fun r9=>some r9) else (some false))
theorem aB.j1_P {F:Nat} {H0:Hp} {Ri R0:List Rs}   {lF rJ:Int} {za zb:ON} {ve vf mc:Nat} {zc zd:Cap} {lT:List Int} {nP:List (Int×Int×Int×Int×Int)} {H:Hp} (Eh:ve = lT.length) (Ei:vf = nP.length) (h0:Out H0 Ri H (Rs.blk mc [.sl ⟨zb,vf,zd⟩,.int .i64 rJ] :: R0) fun R=>ROs (eInt .i64) H R ⟨za,ve,zc⟩ lT∧ROs (ePair (eInt .i64) (ePair (eInt .i64) (ePair (eInt .i64) (ePair (eInt .i64) (eInt .i64))))) H R ⟨zb,vf,zd⟩ nP) {r:Bool} (hp:aB.pj1 F  lF lT nP rJ = some r):∃ v H',aB.j1 F (bo.tw F) (aY.tw F) (aK.tw F) (aL.tw F)  lF ⟨za,ve,zc⟩ mc 0 H = some (v,H')∧aB.Q H0 Ri R0  r v H':=by
 obtain ⟨w0,s0,Ej,Ek⟩:=h0
 subst Eh
 subst Ei
 unfold aB.pj1 at hp
 unfold aB.j1
 refine bind_ex (ldSl_of (w0.ld (i:=0) rfl rfl)) ?_
 refine bind_ex (ldI_of (w0.ld (i:=0) rfl rfl)) ?_
 obtain ⟨r1,e1,hp⟩:=bind_some' hp
 refine call_ex (aK.P rfl ⟨w0,Ek⟩ e1) ?_
 rintro _ H2 ⟨o2a_2,o2n_2,o2c_2,o2k_2,rfl,rfl,w2,s2,f2_0⟩
 refine bind_ex rfl ?_
 refine bind_ex rfl ?_
 refine bind_ex rfl ?_
 refine bind_ex rfl ?_
 refine bind_ex rfl ?_
 refine bind_ex rfl ?_
 refine bind_ex rfl ?_
 refine new_k w2 fun H3 w3 s3=>?_
 refine st_k w3 (i:=0) rfl rfl rfl fun H4 w4 s4=>?_
 dsimp only [List.set] at w4 s4
 refine st_k w4 (i:=0) rfl rfl rfl fun H5 w5 s5=>?_
 dsimp only [List.set] at w5 s5
 refine st_k w5 (i:=0) rfl rfl rfl fun H6 w6 s6=>?_
 dsimp only [List.set] at w6 s6
 refine bind_ex (ldI_of (w6.ld (i:=0) rfl rfl)) ?_
 refine bif_ex (fun hb=>?_) (fun hb=>?_)
 ·replace hp:=bif_t hb hp
  refine bind_ex (ldI_of (w6.ld (i:=0) rfl rfl)) ?_
  refine bind_ex (ldI_of (w6.ld (i:=0) rfl rfl)) ?_
  refine bind_ex (ldSl_of (w6.ld (i:=0) rfl rfl)) ?_
  obtain ⟨w7,s7⟩:=w6.pick' [1,0,2] 3 rfl rfl rfl
  dsimp only [pk,pks,nth,List.drop] at w7 s7
  have f8:=W.borrow1 (eInt .i64) w7 (f2_0.step (s3.trans (s4.trans (s5.trans (s6.trans s7)))))
  obtain ⟨w8,s8⟩:=w7.right1
  obtain ⟨r9,e9,hp⟩:=bind_some' hp
  refine call_ex (aL.P rfl rfl ⟨w8,f8,((Ej.step (s2.trans (s3.trans (s4.trans (s5.trans (s6.trans s7)))))).step s8)⟩ e9) ?_
  rintro _ H10 ⟨rfl,w10,s10,_⟩
  obtain ⟨w11,s11⟩:=W.frame1 w7 w10 s10
  refine bind_ex rfl ?_
  obtain ⟨w12,s12⟩:=w11.pick' [] 3 rfl rfl rfl
  dsimp only [pk,pks,nth,List.drop] at w12 s12
  obtain rfl:=Option.some.inj hp
  exact ⟨_,_,rfl,rfl,w12,(s0.trans (s2.trans (s3.trans (s4.trans (s5.trans (s6.trans (s7.trans (s11.trans s12)))))))),trivial⟩
 ·replace hp:=bif_f hb hp
  obtain ⟨w13,s13⟩:=w6.pick' [] 3 rfl rfl rfl
  dsimp only [pk,pks,nth,List.drop] at w13 s13
  obtain rfl:=Option.some.inj hp
  exact ⟨_,_,rfl,rfl,w13,(s0.trans (s2.trans (s3.trans (s4.trans (s5.trans (s6.trans s13)))))),trivial⟩
def aB.pl29 (F:Nat) :Nat→Int→List Int→List (Int×Int×Int×Int×Int)→Int→Int→Option (Bool)
 | 0,_,_,_,_,_=>none
 | k + 1,dN,iF,jP,kB,eN=>(bif (decide (eN < (iF.length:Int))) then ((ix iF eN).bind fun n1=>(aY.p F (gt iF n1) 0 (IntKind.i64.wrap (dN - 1))).bind fun r2=>(bif (!r2) then (some false) else (aB.pl29 F k dN iF jP kB (IntKind.i64.wrap (eN + 1))))) else (aB.pj1 F dN iF jP kB))
termination_by structural n=>n
theorem aB.l29_P {F:Nat} {H0:Hp} {Ri R0:List Rs}  :∀ k,aB.S29 H0 Ri R0  (aB.l29 F (bo.tw F) (aY.tw F) (aK.tw F) (aL.tw F)  k) (aB.pl29 F  k):=by
 intro k
 induction k with
 | zero=>
  intro dN kB eN rF rG nN nO cH rH rI iF jP H ze zf h0 r hp
  exact nomatch (show (none:Option (Bool)) = some r from hp)
 | succ k ih=>
  intro dN kB eN rF rG nN nO cH rH rI iF jP H ze zf h0 r hp
  obtain ⟨w0,s0,vg,zg⟩:=h0
  subst ze
  subst zf
  unfold aB.pl29 at hp
  unfold aB.l29
  refine bif_ex (fun hb=>?_) (fun hb=>?_)
  ·replace hp:=bif_t hb hp
   obtain ⟨n1,g1,hp⟩:=bind_some' hp
   obtain ⟨p1,q1,i1,h1,j1⟩:=ROs.ixr vg rfl g1
   refine bind_ex i1 ?_
   have h1:_ = [_]:=h1
   subst h1
   refine bind_ex (ldI_of (j1 0 _ rfl)) ?_
   obtain ⟨r2,e2,hp⟩:=bind_some' hp
   refine call_ex (aY.P ⟨w0,trivial⟩ e2) ?_
   rintro _ H3 ⟨rfl,w3,s3,_⟩
   refine bind_ex rfl ?_
   refine bif_ex (fun hb=>?_) (fun hb=>?_)
   ·replace hp:=bif_t hb hp
    obtain ⟨w4,s4⟩:=w3.pick' [] 1 rfl rfl rfl
    dsimp only [pk,pks,nth,List.drop] at w4 s4
    obtain rfl:=Option.some.inj hp
    exact ⟨_,_,rfl,rfl,w4,(s0.trans (s3.trans s4)),trivial⟩
   ·replace hp:=bif_f hb hp
    exact ih rfl rfl ⟨w3,(s0.trans s3),(vg.step s3),(zg.step s3)⟩ hp
  ·replace hp:=bif_f hb hp
   exact aB.j1_P rfl rfl ⟨w0,s0,vg,zg⟩ hp
def aB.p (F:Nat) (ac:List (Int×Int×Int×Int×Int)) (ab:Int) (af:Int) (dg:List Int):Option (Bool):=(bo.p F ac ab).bind fun r2=>(bif (!r2) then (some false) else ((aY.p F af 1 30).bind fun r5=>(bif (!r5) then (some false) else (aB.pl29 F F af dg ac ab 0))))
theorem aB.P {F:Nat} {av jQ:ON} {aj iG:Nat} {aw jR:Cap} {ac:List (Int×Int×Int×Int×Int)} {ab af:Int} {dg:List Int} {H:Hp} {R0:List Rs} (ba:aj = ac.length) (nQ:iG = dg.length) (h0:Inn H R0 fun R=>ROs (ePair (eInt .i64) (ePair (eInt .i64) (ePair (eInt .i64) (ePair (eInt .i64) (eInt .i64))))) H R ⟨av,aj,aw⟩ ac∧ROs (eInt .i64) H R ⟨jQ,iG,jR⟩ dg) {r:Bool} (hp:aB.p F ac ab af dg = some r):∃ v H',aB.tw F ⟨av,aj,aw⟩ ab af ⟨jQ,iG,jR⟩ H = some (v,H')∧aB.Q H R0 R0  r v H':=by
 obtain ⟨w0,aH,jk⟩:=h0
 subst ba
 subst nQ
 unfold aB.p at hp
 unfold aB.tw aB.twX
 have s0:=w0.rf
 refine new_k w0 fun H1 w1 s1=>?_
 refine bind_ex (ldSl_of (w1.ld (i:=0) rfl rfl)) ?_
 refine bind_ex (ldI_of (w1.ld (i:=0) rfl rfl)) ?_
 obtain ⟨r2,e2,hp⟩:=bind_some' hp
 refine call_ex (bo.P rfl ⟨w1,(aH.step s1)⟩ e2) ?_
 rintro _ H3 ⟨rfl,w3,s3,_⟩
 refine bind_ex rfl ?_
 refine bif_ex (fun hb=>?_) (fun hb=>?_)
 ·replace hp:=bif_t hb hp
  obtain ⟨w4,s4⟩:=w3.pick' [] 1 rfl rfl rfl
  dsimp only [pk,pks,nth,List.drop] at w4 s4
  obtain rfl:=Option.some.inj hp
  exact ⟨_,_,rfl,rfl,w4,(s0.trans (s1.trans (s3.trans s4))),trivial⟩
 ·replace hp:=bif_f hb hp
  obtain ⟨r5,e5,hp⟩:=bind_some' hp
  refine call_ex (aY.P ⟨w3,trivial⟩ e5) ?_
  rintro _ H6 ⟨rfl,w6,s6,_⟩
  refine bind_ex rfl ?_
  refine bif_ex (fun hb=>?_) (fun hb=>?_)
  ·replace hp:=bif_t hb hp
   obtain ⟨w7,s7⟩:=w6.pick' [] 1 rfl rfl rfl
   dsimp only [pk,pks,nth,List.drop] at w7 s7
   obtain rfl:=Option.some.inj hp
   exact ⟨_,_,rfl,rfl,w7,(s0.trans (s1.trans (s3.trans (s6.trans s7)))),trivial⟩
  ·replace hp:=bif_f hb hp
   exact aB.l29_P F rfl rfl ⟨w6,(s0.trans (s1.trans (s3.trans s6))),(jk.step (s1.trans (s3.trans s6))),(aH.step (s1.trans (s3.trans s6)))⟩ hp
def aG.Q (H0:Hp) (Ri R0:List Rs)  (r:Int) (v:AV) (H':Hp):Prop:=v = (.int .i64 r)∧Out H0 Ri H' (R0) fun R=>True
def aG.p (F:Nat) (ac:List (Int×Int×Int×Int×Int)):Option (Int):=some (ac.length:Int)
theorem aG.P {F:Nat} {av:ON} {aj:Nat} {aw:Cap} {ac:List (Int×Int×Int×Int×Int)} {H:Hp} {R0:List Rs} (ba:aj = ac.length) (h0:Inn H R0 fun R=>ROs (ePair (eInt .i64) (ePair (eInt .i64) (ePair (eInt .i64) (ePair (eInt .i64) (eInt .i64))))) H R ⟨av,aj,aw⟩ ac) {r:Int} (hp:aG.p F ac = some r):∃ v H',aG.tw F ⟨av,aj,aw⟩ H = some (v,H')∧aG.Q H R0 R0  r v H':=by
 obtain ⟨w0,aH⟩:=h0
 subst ba
 unfold aG.p at hp
 unfold aG.tw aG.twX
 have s0:=w0.rf
 obtain rfl:=Option.some.inj hp
 exact ⟨_,_,rfl,rfl,w0,s0,trivial⟩
def aO.Q (H0:Hp) (Ri R0:List Rs)  (r:Bool) (v:AV) (H':Hp):Prop:=v = (.bool r)∧Out H0 Ri H' (R0) fun R=>True
def aO.p (F:Nat) (aa:Int) (ad:Int) (bQ:Int):Option (Bool):=(bif (decide (ad ≤ aa)) then (some (decide (aa ≤ bQ))) else (some false))
theorem aO.P {F:Nat} {aa ad bQ:Int} {H:Hp} {R0:List Rs}  (h0:Inn H R0 fun R=>True) {r:Bool} (hp:aO.p F aa ad bQ = some r):∃ v H',aO.tw F aa ad bQ H = some (v,H')∧aO.Q H R0 R0  r v H':=by
 obtain ⟨w0,_⟩:=h0
 unfold aO.p at hp
 unfold aO.tw aO.twX
 have s0:=w0.rf
 refine bif_ex (fun hb=>?_) (fun hb=>?_)
 ·replace hp:=bif_t hb hp
  obtain rfl:=Option.some.inj hp
  exact ⟨_,_,rfl,rfl,w0,s0,trivial⟩
 ·replace hp:=bif_f hb hp
  obtain rfl:=Option.some.inj hp
  exact ⟨_,_,rfl,rfl,w0,s0,trivial⟩
def bF.Q (H0:Hp) (Ri R0:List Rs)  (r:Bool) (v:AV) (H':Hp):Prop:=v = (.bool r)∧Out H0 Ri H' (R0) fun R=>True
def bF.p (F:Nat) (ax:Int):Option (Bool):=(bif (ax != 1) then (some (ax != (-1))) else (some false))
theorem bF.P {F:Nat} {aa ab ah az ax:Int} {H:Hp} {R0:List Rs}  (h0:Inn H R0 fun R=>True) {r:Bool} (hp:bF.p F ax = some r):∃ v H',bF.tw F aa ab ah az ax H = some (v,H')∧bF.Q H R0 R0  r v H':=by
 obtain ⟨w0,_⟩:=h0
 unfold bF.p at hp
 unfold bF.tw bF.twX
 have s0:=w0.rf
 refine new_k w0 fun H1 w1 s1=>?_
 refine bind_ex (ldI_of (w1.ld (i:=0) rfl rfl)) ?_
 refine bif_ex (fun hb=>?_) (fun hb=>?_)
 ·replace hp:=bif_t hb hp
  refine bind_ex (ldI_of (w1.ld (i:=0) rfl rfl)) ?_
  obtain ⟨w2,s2⟩:=w1.pick' [] 1 rfl rfl rfl
  dsimp only [pk,pks,nth,List.drop] at w2 s2
  obtain rfl:=Option.some.inj hp
  exact ⟨_,_,rfl,rfl,w2,(s0.trans (s1.trans s2)),trivial⟩
 ·replace hp:=bif_f hb hp
  obtain ⟨w3,s3⟩:=w1.pick' [] 1 rfl rfl rfl
  dsimp only [pk,pks,nth,List.drop] at w3 s3
  obtain rfl:=Option.some.inj hp
  exact ⟨_,_,rfl,rfl,w3,(s0.trans (s1.trans s3)),trivial⟩
def aP.Q (H0:Hp) (Ri R0:List Rs)  (r:Int) (v:AV) (H':Hp):Prop:=v = (.int .i64 r)∧Out H0 Ri H' (R0) fun R=>True
def aP.S13 (H0:Hp) (Ri R0:List Rs)  (C:Sl→Int→Int→Hp→OA) (pC:List (Int×Int×Int×Int×Int)→Int→Int→Option (Int)):Prop:=∀ {rK:ON} {nR:Nat} {rL:Cap} {jl:List (Int×Int×Int×Int×Int)} {eX ed:Int},∀ {H:Hp},nR = jl.length→(Out H0 Ri H R0 fun R=>ROs (ePair (eInt .i64) (ePair (eInt .i64) (ePair (eInt .i64) (ePair (eInt .i64) (eInt .i64))))) H R ⟨rK,nR,rL⟩ jl)→∀ {r:Int},pC jl eX ed = some r→∃ v H',C ⟨rK,nR,rL⟩ eX ed H = some (v,H')∧aP.Q H0 Ri R0  r v H'
def aP.pl13 (F:Nat) :Nat→List (Int×Int×Int×Int×Int)→Int→Int→Option (Int)
 | 0,_,_,_=>none
 | k + 1,jl,eX,ed=>(bif (decide (ed < eX)) then ((ix jl ed).bind fun n1=>(bF.p F ((gt jl n1).2.2.2.2)).bind fun r2=>(bif r2 then (some ed) else (aP.pl13 F k jl eX (IntKind.i64.wrap (ed + 1))))) else (some (-1)))
termination_by structural n=>n
theorem aP.l13_P {F:Nat} {H0:Hp} {Ri R0:List Rs}  :∀ k,aP.S13 H0 Ri R0  (aP.l13 F (bF.tw F)  k) (aP.pl13 F  k):=by
 intro k
 induction k with
 | zero=>
  intro rK nR rL jl eX ed H zh h0 r hp
  exact nomatch (show (none:Option (Int)) = some r from hp)
 | succ k ih=>
  intro rK nR rL jl eX ed H zh h0 r hp
  obtain ⟨w0,s0,zi⟩:=h0
  subst zh
  unfold aP.pl13 at hp
  unfold aP.l13
  refine bif_ex (fun hb=>?_) (fun hb=>?_)
  ·replace hp:=bif_t hb hp
   obtain ⟨n1,g1,hp⟩:=bind_some' hp
   obtain ⟨p1,q1,i1,h1,j1⟩:=ROs.ixr zi rfl g1
   refine bind_ex i1 ?_
   obtain ⟨_,_,rfl,rfl,_,_,rfl,rfl,_,_,rfl,rfl,_,_,rfl,rfl,rfl⟩:=h1
   refine bind_ex (ldI_of (j1 0 _ rfl)) ?_
   refine bind_ex (ldI_of (j1 1 _ rfl)) ?_
   refine bind_ex (ldI_of (j1 2 _ rfl)) ?_
   refine bind_ex (ldI_of (j1 3 _ rfl)) ?_
   refine bind_ex (ldI_of (j1 4 _ rfl)) ?_
   obtain ⟨r2,e2,hp⟩:=bind_some' hp
   refine call_ex (bF.P ⟨w0,trivial⟩ e2) ?_
   rintro _ H3 ⟨rfl,w3,s3,_⟩
   refine bind_ex rfl ?_
   refine bif_ex (fun hb=>?_) (fun hb=>?_)
   ·replace hp:=bif_t hb hp
    obtain rfl:=Option.some.inj hp
    exact ⟨_,_,rfl,rfl,w3,(s0.trans s3),trivial⟩
   ·replace hp:=bif_f hb hp
    exact ih rfl ⟨w3,(s0.trans s3),(zi.step s3)⟩ hp
  ·replace hp:=bif_f hb hp
   obtain rfl:=Option.some.inj hp
   exact ⟨_,_,rfl,rfl,w0,s0,trivial⟩
def aP.p (F:Nat) (ac:List (Int×Int×Int×Int×Int)):Option (Int):=aP.pl13 F F ac (ac.length:Int) 0
theorem aP.P {F:Nat} {av:ON} {aj:Nat} {aw:Cap} {ac:List (Int×Int×Int×Int×Int)} {H:Hp} {R0:List Rs} (ba:aj = ac.length) (h0:Inn H R0 fun R=>ROs (ePair (eInt .i64) (ePair (eInt .i64) (ePair (eInt .i64) (ePair (eInt .i64) (eInt .i64))))) H R ⟨av,aj,aw⟩ ac) {r:Int} (hp:aP.p F ac = some r):∃ v H',aP.tw F ⟨av,aj,aw⟩ H = some (v,H')∧aP.Q H R0 R0  r v H':=by
 obtain ⟨w0,aH⟩:=h0
 subst ba
 unfold aP.p at hp
 unfold aP.tw aP.twX
 have s0:=w0.rf
 exact aP.l13_P F rfl ⟨w0,s0,aH⟩ hp
def bv.Q (H0:Hp) (Ri R0:List Rs)  (r:Bool) (v:AV) (H':Hp):Prop:=v = (.bool r)∧Out H0 Ri H' (R0) fun R=>True
def bv.p (F:Nat) (ac:List (Int×Int×Int×Int×Int)):Option (Bool):=(aP.p F ac).bind fun r1=>some (decide (r1 ≥ 0))
theorem bv.P {F:Nat} {av:ON} {aj:Nat} {aw:Cap} {ac:List (Int×Int×Int×Int×Int)} {H:Hp} {R0:List Rs} (ba:aj = ac.length) (h0:Inn H R0 fun R=>ROs (ePair (eInt .i64) (ePair (eInt .i64) (ePair (eInt .i64) (ePair (eInt .i64) (eInt .i64))))) H R ⟨av,aj,aw⟩ ac) {r:Bool} (hp:bv.p F ac = some r):∃ v H',bv.tw F ⟨av,aj,aw⟩ H = some (v,H')∧bv.Q H R0 R0  r v H':=by
 obtain ⟨w0,aH⟩:=h0
 subst ba
 unfold bv.p at hp
 unfold bv.tw bv.twX
 have s0:=w0.rf
 obtain ⟨r1,e1,hp⟩:=bind_some' hp
 refine call_ex (aP.P rfl ⟨w0,aH⟩ e1) ?_
 rintro _ H2 ⟨rfl,w2,s2,_⟩
 refine bind_ex rfl ?_
 obtain rfl:=Option.some.inj hp
 exact ⟨_,_,rfl,rfl,w2,(s0.trans s2),trivial⟩
def bits_Mul64.Q (H0:Hp) (Ri R0:List Rs)  (r:Int×Int) (v:AV) (H':Hp):Prop:=v = (.tup [(.int .u64 r.1),(.int .u64 r.2)])∧Out H0 Ri H' (R0) fun R=>True
def bits_Mul64.p (F:Nat) (aa:Int) (ad:Int):Option (Int×Int):=some ((IntKind.u64.wrap ((IntKind.u64.wrap ((IntKind.u64.wrap ((Int.fdiv aa (2 ^ (min (32:Int).toNat (IntKind.u64).bits))) * (Int.fdiv ad (2 ^ (min (32:Int).toNat (IntKind.u64).bits))))) + (Int.fdiv (IntKind.u64.wrap ((IntKind.u64.wrap ((Int.fdiv aa (2 ^ (min (32:Int).toNat (IntKind.u64).bits))) * (Go.bits .and .u64 ad 4294967295))) + (Int.fdiv (IntKind.u64.wrap ((Go.bits .and .u64 aa 4294967295) * (Go.bits .and .u64 ad 4294967295))) (2 ^ (min (32:Int).toNat (IntKind.u64).bits))))) (2 ^ (min (32:Int).toNat (IntKind.u64).bits))))) + (Int.fdiv (IntKind.u64.wrap ((Go.bits .and .u64 (IntKind.u64.wrap ((IntKind.u64.wrap ((Int.fdiv aa (2 ^ (min (32:Int).toNat (IntKind.u64).bits))) * (Go.bits .and .u64 ad 4294967295))) + (Int.fdiv (IntKind.u64.wrap ((Go.bits .and .u64 aa 4294967295) * (Go.bits .and .u64 ad 4294967295))) (2 ^ (min (32:Int).toNat (IntKind.u64).bits))))) 4294967295) + (IntKind.u64.wrap ((Go.bits .and .u64 aa 4294967295) * (Int.fdiv ad (2 ^ (min (32:Int).toNat (IntKind.u64).bits))))))) (2 ^ (min (32:Int).toNat (IntKind.u64).bits))))),(IntKind.u64.wrap (aa * ad)))
theorem bits_Mul64.P {F:Nat} {aa ad:Int} {H:Hp} {R0:List Rs}  (h0:Inn H R0 fun R=>True) {r:Int×Int} (hp:bits_Mul64.p F aa ad = some r):∃ v H',bits_Mul64.tw F aa ad H = some (v,H')∧bits_Mul64.Q H R0 R0  r v H':=by
 obtain ⟨w0,_⟩:=h0
 unfold bits_Mul64.p at hp
 unfold bits_Mul64.tw bits_Mul64.twX
 have s0:=w0.rf
 obtain rfl:=Option.some.inj hp
 exact ⟨_,_,rfl,rfl,w0,s0,trivial⟩
def bits_Mul.Q (H0:Hp) (Ri R0:List Rs)  (r:Int×Int) (v:AV) (H':Hp):Prop:=v = (.tup [(.int .u64 r.1),(.int .u64 r.2)])∧Out H0 Ri H' (R0) fun R=>True
def bits_Mul.p (F:Nat) (aa:Int) (ad:Int):Option (Int×Int):=(bits_Mul64.p F aa ad).bind fun r1=>some (r1.1,r1.2)
theorem bits_Mul.P {F:Nat} {aa ad:Int} {H:Hp} {R0:List Rs}  (h0:Inn H R0 fun R=>True) {r:Int×Int} (hp:bits_Mul.p F aa ad = some r):∃ v H',bits_Mul.tw F aa ad H = some (v,H')∧bits_Mul.Q H R0 R0  r v H':=by
 obtain ⟨w0,_⟩:=h0
 unfold bits_Mul.p at hp
 unfold bits_Mul.tw bits_Mul.twX
 have s0:=w0.rf
 obtain ⟨r1,e1,hp⟩:=bind_some' hp
 refine call_ex (bits_Mul64.P ⟨w0,trivial⟩ e1) ?_
 rintro _ H2 ⟨rfl,w2,s2,_⟩
 refine bind_ex rfl ?_
 refine bind_ex rfl ?_
 refine bind_ex rfl ?_
 refine bind_ex rfl ?_
 refine bind_ex rfl ?_
 obtain rfl:=Option.some.inj hp
 exact ⟨_,_,rfl,rfl,w2,(s0.trans s2),trivial⟩
def aC.Q (H0:Hp) (Ri R0:List Rs)  (r:(List (Int×Int))) (v:AV) (H':Hp):Prop:=∃ o0a:ON,∃ o0n:Nat,∃ o0k:List AV,v = (.sl ⟨o0a,o0n,.ex o0n⟩)∧o0n = (r).length∧Out H0 Ri H' (Rs.own ⟨o0a,o0n,.ex o0n⟩ (ePair (eInt .i64) (eInt .i64)).z o0k :: R0) fun R=>CR (ePair (eInt .i64) (eInt .i64)) H' R o0k (r)
def aC.pj1 (F:Nat)  (lU:List (Int×Int)) (kn:Int):Option ((List (Int×Int))):=(mkn (IntKind.i64.wrap kn) ((0:Int),(0:Int))).bind fun l1=>(some (cpl l1 lU)).bind fun l3=>(rept F l3 ((min lU.length l1.length:Nat):Int)).bind fun l5=>some l5
theorem aC.j1_P {F:Nat} {H0:Hp} {Ri R0:List Rs}   {zj:ON} {vh:Nat} {zk:Cap} {lU:List (Int×Int)} {kn:Int} {H:Hp} (El:vh = lU.length) (h0:Out H0 Ri H R0 fun R=>ROs (ePair (eInt .i64) (eInt .i64)) H R ⟨zj,vh,zk⟩ lU) {r:(List (Int×Int))} (hp:aC.pj1 F  lU kn = some r):∃ v H',aC.j1 F (bits_Mul.tw F)  ⟨zj,vh,zk⟩ kn H = some (v,H')∧aC.Q H0 Ri R0  r v H':=by
 obtain ⟨w0,s0,Em⟩:=h0
 subst El
 unfold aC.pj1 at hp
 unfold aC.j1
 obtain ⟨l1,e1,hp⟩:=bind_some' hp
 refine mk_k (ePair (eInt .i64) (eInt .i64)) ((0:Int),(0:Int)) w0 ⟨[_],_,rfl,rfl,rfl⟩ rfl rfl e1 fun H2 k2 w2 s2 c2=>?_
 obtain ⟨x3,h3,c3⟩:=(Em.step s2).row (z:=(ePair (eInt .i64) (eInt .i64)).z) rfl
 obtain ⟨l3,e3,hp⟩:=bind_some' hp
 refine cpy_k (ePair (eInt .i64) (eInt .i64)) w2 (i:=0) rfl rfl c2 h3 c3 rfl rfl e3 fun k4 H4 w4 s4 c4=>?_
 dsimp only [List.set] at w4 s4 c4
 obtain ⟨l5,e5,hp⟩:=bind_some' hp
 refine rept_K (ePair (eInt .i64) (eInt .i64)) rfl (L:=aC.l254 F (bits_Mul.tw F)) (fun _ _ _ _=>rfl) w4 (i:=0) rfl c4 e5 fun H6 k6 w6 s6 c6=>?_
 dsimp only [List.set] at w6 s6 c6
 obtain rfl:=Option.some.inj hp
 exact ⟨_,_,rfl,_,_,_,rfl,((cpl_len e3).symm.trans (rept_len e5).symm),w6,(s0.trans (s2.trans (s4.trans s6))),c6⟩
def aC.pj2 (F:Nat)  (lV:List (Int×Int)) (lG:Int):Option ((List (Int×Int))):=(bits_Mul.p F (IntKind.u64.wrap (lV.length:Int)) (IntKind.u64.wrap lG)).bind fun r1=>(bif (decide (r1.1 > 0)) then (none) else ((bif (decide (r1.2 > 9223372036854775807)) then (none) else (aC.pj1 F lV r1.2))))
theorem aC.j2_P {F:Nat} {H0:Hp} {Ri R0:List Rs}   {zl:ON} {vi:Nat} {zm:Cap} {lV:List (Int×Int)} {lG:Int} {H:Hp} (En:vi = lV.length) (h0:Out H0 Ri H R0 fun R=>ROs (ePair (eInt .i64) (eInt .i64)) H R ⟨zl,vi,zm⟩ lV) {r:(List (Int×Int))} (hp:aC.pj2 F  lV lG = some r):∃ v H',aC.j2 F (bits_Mul.tw F)  ⟨zl,vi,zm⟩ lG H = some (v,H')∧aC.Q H0 Ri R0  r v H':=by
 obtain ⟨w0,s0,Er⟩:=h0
 subst En
 unfold aC.pj2 at hp
 unfold aC.j2
 obtain ⟨r1,e1,hp⟩:=bind_some' hp
 refine call_ex (bits_Mul.P ⟨w0,trivial⟩ e1) ?_
 rintro _ H2 ⟨rfl,w2,s2,_⟩
 refine bind_ex rfl ?_
 refine bind_ex rfl ?_
 refine bind_ex rfl ?_
 refine bind_ex rfl ?_
 refine bind_ex rfl ?_
 refine bif_ex (fun hb=>?_) (fun hb=>?_)
 ·replace hp:=bif_t hb hp
  cases hp
 ·replace hp:=bif_f hb hp
  refine bif_ex (fun hb=>?_) (fun hb=>?_)
  ·replace hp:=bif_t hb hp
   cases hp
  ·replace hp:=bif_f hb hp
   exact aC.j1_P rfl ⟨w2,(s0.trans s2),(Er.step s2)⟩ hp
def aC.p (F:Nat) (ac:List (Int×Int)) (ad:Int):Option ((List (Int×Int))):=(bif (decide (ad < 0)) then (none) else (aC.pj2 F ac ad))
theorem aC.P {F:Nat} {av:ON} {aj:Nat} {aw:Cap} {ac:List (Int×Int)} {ad:Int} {H:Hp} {R0:List Rs} (ba:aj = ac.length) (h0:Inn H R0 fun R=>ROs (ePair (eInt .i64) (eInt .i64)) H R ⟨av,aj,aw⟩ ac) {r:(List (Int×Int))} (hp:aC.p F ac ad = some r):∃ v H',aC.tw F ⟨av,aj,aw⟩ ad H = some (v,H')∧aC.Q H R0 R0  r v H':=by
 obtain ⟨w0,aH⟩:=h0
 subst ba
 unfold aC.p at hp
 unfold aC.tw aC.twX
 have s0:=w0.rf
 refine bif_ex (fun hb=>?_) (fun hb=>?_)
 ·replace hp:=bif_t hb hp
  cases hp
 ·replace hp:=bif_f hb hp
  exact aC.j2_P rfl ⟨w0,s0,aH⟩ hp
def bh.Q (H0:Hp) (Ri R0:List Rs)  (r:Int×Int×Int×Int) (v:AV) (H':Hp):Prop:=v = (.agg [(.int .i64 r.1),(.int .i64 r.2.1),(.int .i64 r.2.2.1),(.int .i64 r.2.2.2)])∧Out H0 Ri H' (R0) fun R=>True
def bh.p (F:Nat) (aa:Int) (ab:Int) (ah:Int) (az:Int):Option (Int×Int×Int×Int):=some (aa,ab,ah,az)
theorem bh.P {F:Nat} {aa ab ah az ax:Int} {H:Hp} {R0:List Rs}  (h0:Inn H R0 fun R=>True) {r:Int×Int×Int×Int} (hp:bh.p F aa ab ah az = some r):∃ v H',bh.tw F aa ab ah az ax H = some (v,H')∧bh.Q H R0 R0  r v H':=by
 obtain ⟨w0,_⟩:=h0
 unfold bh.p at hp
 unfold bh.tw bh.twX
 have s0:=w0.rf
 refine new_k w0 fun H1 w1 s1=>?_
 refine new_k w1 fun H2 w2 s2=>?_
 refine bind_ex (ldI_of (w2.ld (i:=1) rfl rfl)) ?_
 refine bind_ex (ldI_of (w2.ld (i:=1) rfl rfl)) ?_
 refine bind_ex (ldI_of (w2.ld (i:=1) rfl rfl)) ?_
 refine bind_ex (ldI_of (w2.ld (i:=1) rfl rfl)) ?_
 refine st_k w2 (i:=0) rfl rfl rfl fun H3 w3 s3=>?_
 dsimp only [List.set] at w3 s3
 refine st_k w3 (i:=0) rfl rfl rfl fun H4 w4 s4=>?_
 dsimp only [List.set] at w4 s4
 refine st_k w4 (i:=0) rfl rfl rfl fun H5 w5 s5=>?_
 dsimp only [List.set] at w5 s5
 refine st_k w5 (i:=0) rfl rfl rfl fun H6 w6 s6=>?_
 dsimp only [List.set] at w6 s6
 refine bind_ex (ldI_of (w6.ld (i:=0) rfl rfl)) ?_
 refine bind_ex (ldI_of (w6.ld (i:=0) rfl rfl)) ?_
 refine bind_ex (ldI_of (w6.ld (i:=0) rfl rfl)) ?_
 refine bind_ex (ldI_of (w6.ld (i:=0) rfl rfl)) ?_
 obtain ⟨w7,s7⟩:=w6.pick' [] 2 rfl rfl rfl
 dsimp only [pk,pks,nth,List.drop] at w7 s7
 obtain rfl:=Option.some.inj hp
 exact ⟨_,_,rfl,rfl,w7,(s0.trans (s1.trans (s2.trans (s3.trans (s4.trans (s5.trans (s6.trans s7))))))),trivial⟩
def bi.Q (H0:Hp) (Ri R0:List Rs)  (r:Bool) (v:AV) (H':Hp):Prop:=v = (.bool r)∧Out H0 Ri H' (R0) fun R=>True
def bi.p (F:Nat) (ax:Int) (bd:Int):Option (Bool):=(bif (bd == 0) then (some true) else (some (bd == (IntKind.i64.wrap (2 + ax)))))
theorem bi.P {F:Nat} {aa ab ah az ax bd:Int} {H:Hp} {R0:List Rs}  (h0:Inn H R0 fun R=>True) {r:Bool} (hp:bi.p F ax bd = some r):∃ v H',bi.tw F aa ab ah az ax bd H = some (v,H')∧bi.Q H R0 R0  r v H':=by
 obtain ⟨w0,_⟩:=h0
 unfold bi.p at hp
 unfold bi.tw bi.twX
 have s0:=w0.rf
 refine new_k w0 fun H1 w1 s1=>?_
 refine bif_ex (fun hb=>?_) (fun hb=>?_)
 ·replace hp:=bif_t hb hp
  obtain ⟨w2,s2⟩:=w1.pick' [] 1 rfl rfl rfl
  dsimp only [pk,pks,nth,List.drop] at w2 s2
  obtain rfl:=Option.some.inj hp
  exact ⟨_,_,rfl,rfl,w2,(s0.trans (s1.trans s2)),trivial⟩
 ·replace hp:=bif_f hb hp
  refine bind_ex (ldI_of (w1.ld (i:=0) rfl rfl)) ?_
  obtain ⟨w3,s3⟩:=w1.pick' [] 1 rfl rfl rfl
  dsimp only [pk,pks,nth,List.drop] at w3 s3
  obtain rfl:=Option.some.inj hp
  exact ⟨_,_,rfl,rfl,w3,(s0.trans (s1.trans s3)),trivial⟩
def bK.Q (H0:Hp) (Ri R0:List Rs)  (r:Int) (v:AV) (H':Hp):Prop:=v = (.int .i64 r)∧Out H0 Ri H' (R0) fun R=>True
def bK.p (F:Nat) (ac:List (Int×Int)):Option (Int):=some (ac.length:Int)
theorem bK.P {F:Nat} {av:ON} {aj:Nat} {aw:Cap} {ac:List (Int×Int)} {H:Hp} {R0:List Rs} (ba:aj = ac.length) (h0:Inn H R0 fun R=>ROs (ePair (eInt .i64) (eInt .i64)) H R ⟨av,aj,aw⟩ ac) {r:Int} (hp:bK.p F ac = some r):∃ v H',bK.tw F ⟨av,aj,aw⟩ H = some (v,H')∧bK.Q H R0 R0  r v H':=by
 obtain ⟨w0,aH⟩:=h0
 subst ba
 unfold bK.p at hp
 unfold bK.tw bK.twX
 have s0:=w0.rf
 obtain rfl:=Option.some.inj hp
 exact ⟨_,_,rfl,rfl,w0,s0,trivial⟩
def bq.Q (H0:Hp) (Ri R0:List Rs)  (r:Bool) (v:AV) (H':Hp):Prop:=v = (.bool r)∧Out H0 Ri H' (R0) fun R=>True
def bq.p (F:Nat) (ac:List (Int×Int)) (ad:Int):Option (Bool):=(bK.p F ac).bind fun r1=>(aO.p F ad 0 (IntKind.i64.wrap (r1 - 1))).bind fun r3=>some r3
theorem bq.P {F:Nat} {av:ON} {aj:Nat} {aw:Cap} {ac:List (Int×Int)} {ad:Int} {H:Hp} {R0:List Rs} (ba:aj = ac.length) (h0:Inn H R0 fun R=>ROs (ePair (eInt .i64) (eInt .i64)) H R ⟨av,aj,aw⟩ ac) {r:Bool} (hp:bq.p F ac ad = some r):∃ v H',bq.tw F ⟨av,aj,aw⟩ ad H = some (v,H')∧bq.Q H R0 R0  r v H':=by
 obtain ⟨w0,aH⟩:=h0
 subst ba
 unfold bq.p at hp
 unfold bq.tw bq.twX
 have s0:=w0.rf
 obtain ⟨r1,e1,hp⟩:=bind_some' hp
 refine call_ex (bK.P rfl ⟨w0,aH⟩ e1) ?_
 rintro _ H2 ⟨rfl,w2,s2,_⟩
 refine bind_ex rfl ?_
 obtain ⟨r3,e3,hp⟩:=bind_some' hp
 refine call_ex (aO.P ⟨w2,trivial⟩ e3) ?_
 rintro _ H4 ⟨rfl,w4,s4,_⟩
 refine bind_ex rfl ?_
 obtain rfl:=Option.some.inj hp
 exact ⟨_,_,rfl,rfl,w4,(s0.trans (s2.trans s4)),trivial⟩
def au.Q (H0:Hp) (Ri R0:List Rs)  (r:(List (Int×Int))×(List (Int×Int))×Bool) (v:AV) (H':Hp):Prop:=∃ o0a:ON,∃ o0n:Nat,∃ o0c:Cap,∃ o0k:List AV,∃ o1a:ON,∃ o1n:Nat,∃ o1c:Cap,∃ o1k:List AV,v = (.tup [(.agg [(.sl ⟨o0a,o0n,o0c⟩),(.sl ⟨o1a,o1n,o1c⟩)]),(.bool r.2.2)])∧o0n = (r.1).length∧o1n = (r.2.1).length∧Out H0 Ri H' (Rs.own ⟨o0a,o0n,o0c⟩ (ePair (eInt .i64) (eInt .i64)).z o0k :: Rs.own ⟨o1a,o1n,o1c⟩ (ePair (eInt .i64) (eInt .i64)).z o1k :: R0) fun R=>CR (ePair (eInt .i64) (eInt .i64)) H' R o0k (r.1)∧CR (ePair (eInt .i64) (eInt .i64)) H' R o1k (r.2.1)
def au.S61 (H0:Hp) (Ri R0:List Rs)  (C:Nat→Nat→Nat→Nat→Sl→Int→Int→Hp→OA) (pC:List (Int×Int)→List (Int×Int)→List (Int×Int×Int×Int×Int)→Int→Int→Option ((List (Int×Int))×(List (Int×Int))×Bool)):Prop:=∀ {rM rN rO rP rQ:ON} {nS nT ef nU nV eY nW:Nat} {rR rS rT rU rV:Cap} {rW rX jS jT:List (Int×Int)} {rY rZ r_ sa:List AV} {gQ:List (Int×Int×Int×Int×Int)} {eZ eg:Int},∀ {H:Hp},nS = rW.length→nT = rX.length→nU = jS.length→nV = jT.length→nW = gQ.length→(Out H0 Ri H (Rs.own ⟨rM,nS,rR⟩ (ePair (eInt .i64) (eInt .i64)).z rY :: Rs.own ⟨rN,nT,rS⟩ (ePair (eInt .i64) (eInt .i64)).z rZ :: Rs.blk ef [.sl ⟨rM,nS,rR⟩,.sl ⟨rN,nT,rS⟩] :: Rs.own ⟨rO,nU,rT⟩ (ePair (eInt .i64) (eInt .i64)).z r_ :: Rs.own ⟨rP,nV,rU⟩ (ePair (eInt .i64) (eInt .i64)).z sa :: Rs.blk eY [.sl ⟨rO,nU,rT⟩,.sl ⟨rP,nV,rU⟩] :: R0) fun R=>CR (ePair (eInt .i64) (eInt .i64)) H R rY rW∧CR (ePair (eInt .i64) (eInt .i64)) H R rZ rX∧CR (ePair (eInt .i64) (eInt .i64)) H R r_ jS∧CR (ePair (eInt .i64) (eInt .i64)) H R sa jT∧ROs (ePair (eInt .i64) (ePair (eInt .i64) (ePair (eInt .i64) (ePair (eInt .i64) (eInt .i64))))) H R ⟨rQ,nW,rV⟩ gQ)→∀ {r:(List (Int×Int))×(List (Int×Int))×Bool},pC jS jT gQ eZ eg = some r→∃ v H',C ef 0 eY 0 ⟨rQ,nW,rV⟩ eZ eg H = some (v,H')∧au.Q H0 Ri R0  r v H'
def au.S3931 (H0:Hp) (Ri R0:List Rs)  (C:Nat→Nat→Nat→Nat→Sl→Int→Int→Nat→Nat→Int→Int→Int→Int→Int→Int→Hp→OA) (pC:List (Int×Int)→List (Int×Int)→List (Int×Int×Int×Int×Int)→Int→Int→Int→Int→Int→Int→Int→Int→Int→Option ((List (Int×Int))×(List (Int×Int))×Bool)):Prop:=∀ {sb sc sd se sf:ON} {nX nY ci nZ n_ cA oa dp:Nat} {sh si sj sk sm:Cap} {sn sp fD fE:List (Int×Int)} {sq ss su sv:List AV} {jm:List (Int×Int×Int×Int×Int)} {dO ee vj vk vl vm jU cP cQ cR cS cT cj:Int},∀ {H:Hp},nX = sn.length→nY = sp.length→nZ = fD.length→n_ = fE.length→oa = jm.length→(Out H0 Ri H (Rs.own ⟨sb,nX,sh⟩ (ePair (eInt .i64) (eInt .i64)).z sq :: Rs.own ⟨sc,nY,si⟩ (ePair (eInt .i64) (eInt .i64)).z ss :: Rs.blk ci [.sl ⟨sb,nX,sh⟩,.sl ⟨sc,nY,si⟩] :: Rs.own ⟨sd,nZ,sj⟩ (ePair (eInt .i64) (eInt .i64)).z su :: Rs.own ⟨se,n_,sk⟩ (ePair (eInt .i64) (eInt .i64)).z sv :: Rs.blk cA [.sl ⟨sd,nZ,sj⟩,.sl ⟨se,n_,sk⟩] :: Rs.blk dp [.int .i64 vj,.int .i64 vk,.int .i64 vl,.int .i64 vm,.int .i64 jU] :: R0) fun R=>CR (ePair (eInt .i64) (eInt .i64)) H R sq sn∧CR (ePair (eInt .i64) (eInt .i64)) H R ss sp∧CR (ePair (eInt .i64) (eInt .i64)) H R su fD∧CR (ePair (eInt .i64) (eInt .i64)) H R sv fE∧ROs (ePair (eInt .i64) (ePair (eInt .i64) (ePair (eInt .i64) (ePair (eInt .i64) (eInt .i64))))) H R ⟨sf,oa,sm⟩ jm)→∀ {r:(List (Int×Int))×(List (Int×Int))×Bool},pC fD fE jm dO ee jU cP cQ cR cS cT cj = some r→∃ v H',C ci 0 cA 0 ⟨sf,oa,sm⟩ dO ee dp 0 cP cQ cR cS cT cj H = some (v,H')∧au.Q H0 Ri R0  r v H'
def au.pl3931 (F:Nat) (aJ:List (Int×Int)→List (Int×Int)→List (Int×Int×Int×Int×Int)→Int→Int→Option ((List (Int×Int))×(List (Int×Int))×Bool)):Nat→List (Int×Int)→List (Int×Int)→List (Int×Int×Int×Int×Int)→Int→Int→Int→Int→Int→Int→Int→Int→Int→Option ((List (Int×Int))×(List (Int×Int))×Bool)
 | 0,_,_,_,_,_,_,_,_,_,_,_,_=>none
 | k + 1,fD,fE,jm,dO,ee,jU,cP,cQ,cR,cS,cT,cj=>(bif (decide (cj < 4)) then ((if 0 ≤ cj∧cj < (4:Int) then ((bi.p F jU cj).bind fun r2=>(bif r2 then ((bq.p F fE (gt ([cQ,cR,cS,cT]:List Int) (cj:Int).toNat)).bind fun r6=>(bif (!r6) then (some (fD,fE,false)) else ((ix fE (gt ([cQ,cR,cS,cT]:List Int) (cj:Int).toNat)).bind fun n12=>(bif (decide (((gt fE n12).1) ≥ 0)) then (some (fD,fE,false)) else ((ix fE (gt ([cQ,cR,cS,cT]:List Int) (cj:Int).toNat)).bind fun n16=>(some (fE.set n16 (cP,(gt fE n16).2))).bind fun l17=>(some (l17.set n16 ((gt l17 n16).1,cj))).bind fun l19=>au.pl3931 F aJ k fD l19 jm dO ee jU cP cQ cR cS cT (IntKind.i64.wrap (cj + 1))))))) else ((bq.p F fD (gt ([cQ,cR,cS,cT]:List Int) (cj:Int).toNat)).bind fun r24=>(bif (!r24) then (some (fD,fE,false)) else ((ix fD (gt ([cQ,cR,cS,cT]:List Int) (cj:Int).toNat)).bind fun n30=>(bif (decide (((gt fD n30).1) ≥ 0)) then (some (fD,fE,false)) else ((ix fD (gt ([cQ,cR,cS,cT]:List Int) (cj:Int).toNat)).bind fun n34=>(some (fD.set n34 (cP,(gt fD n34).2))).bind fun l35=>(some (l35.set n34 ((gt l35 n34).1,cj))).bind fun l37=>au.pl3931 F aJ k l37 fE jm dO ee jU cP cQ cR cS cT (IntKind.i64.wrap (cj + 1))))))))) else none)) else (aJ fD fE jm dO (IntKind.i64.wrap (ee + 1))))
termination_by structural n=>n
theorem au.l3931_P {F:Nat} {H0:Hp} {Ri R0:List Rs}  {C61_:Nat→Nat→Nat→Nat→Sl→Int→Int→Hp→OA} {aJ:List (Int×Int)→List (Int×Int)→List (Int×Int×Int×Int×Int)→Int→Int→Option ((List (Int×Int))×(List (Int×Int))×Bool)} (hC61:au.S61 H0 Ri R0  C61_ aJ):∀ k,au.S3931 H0 Ri R0  (au.l3931 F (aC.tw F) (bh.tw F) (bi.tw F) (bq.tw F) C61_ k) (au.pl3931 F aJ k):=by
 intro k
 induction k with
 | zero=>
  intro sb sc sd se sf nX nY ci nZ n_ cA oa dp sh si sj sk sm sn sp fD fE sq ss su sv jm dO ee vj vk vl vm jU cP cQ cR cS cT cj H zn zo zp zq zr h0 r hp
  exact nomatch (show (none:Option ((List (Int×Int))×(List (Int×Int))×Bool)) = some r from hp)
 | succ k ih=>
  intro sb sc sd se sf nX nY ci nZ n_ cA oa dp sh si sj sk sm sn sp fD fE sq ss su sv jm dO ee vj vk vl vm jU cP cQ cR cS cT cj H zn zo zp zq zr h0 r hp
  obtain ⟨w0,s0,vn,vo,iM,iN,vp⟩:=h0
  subst zn
  subst zo
  subst zp
  subst zq
  subst zr
  unfold au.pl3931 at hp
  unfold au.l3931
  refine bif_ex (fun hb=>?_) (fun hb=>?_)
  ·replace hp:=bif_t hb hp
   obtain ⟨g1,hp⟩:=ifs_p hp
   refine ifs_ex g1 ?_
   refine bind_ex (a:=AV.int .i64 (gt ([cQ,cR,cS,cT]:List Int) (cj:Int).toNat)) (by rw [Nat.mul_one]; exact arr_get (k:=.i64) (l:=[cQ,cR,cS,cT]) rfl (by have:=g1; simp only [List.length_cons,List.length_nil]; omega)) ?_
   refine bind_ex rfl ?_
   refine bind_ex (ldSl_of (w0.ld (i:=5) rfl rfl)) ?_
   refine bind_ex (ldI_of (w0.ld (i:=6) rfl rfl)) ?_
   refine bind_ex (ldI_of (w0.ld (i:=6) rfl rfl)) ?_
   refine bind_ex (ldI_of (w0.ld (i:=6) rfl rfl)) ?_
   refine bind_ex (ldI_of (w0.ld (i:=6) rfl rfl)) ?_
   refine bind_ex (ldI_of (w0.ld (i:=6) rfl rfl)) ?_
   obtain ⟨r2,e2,hp⟩:=bind_some' hp
   refine call_ex (bi.P ⟨w0,trivial⟩ e2) ?_
   rintro _ H3 ⟨rfl,w3,s3,_⟩
   refine bind_ex rfl ?_
   refine bif_ex (fun hb=>?_) (fun hb=>?_)
   ·replace hp:=bif_t hb hp
    refine bind_ex (ldSl_of (w3.ld (i:=5) rfl rfl)) ?_
    obtain ⟨w4,s4⟩:=w3.pick' [4,0,1,2,3,5,6] 7 rfl rfl rfl
    dsimp only [pk,pks,nth,List.drop] at w4 s4
    have f5:=W.borrow1 (ePair (eInt .i64) (eInt .i64)) w4 (iN.step (s3.trans s4))
    obtain ⟨w5,s5⟩:=w4.right1
    obtain ⟨r6,e6,hp⟩:=bind_some' hp
    refine call_ex (bq.P rfl ⟨w5,f5⟩ e6) ?_
    rintro _ H7 ⟨rfl,w7,s7,_⟩
    obtain ⟨w8,s8⟩:=W.frame1 w4 w7 s7
    refine bind_ex rfl ?_
    refine bif_ex (fun hb=>?_) (fun hb=>?_)
    ·replace hp:=bif_t hb hp
     refine bind_ex (ldSl_of (w8.ld (i:=5) rfl rfl)) ?_
     refine bind_ex (ldSl_of (w8.ld (i:=5) rfl rfl)) ?_
     refine st_k w8 (i:=3) rfl rfl rfl fun H9 w9 s9=>?_
     dsimp only [List.set] at w9 s9
     refine st_k w9 (i:=3) rfl rfl rfl fun H10 w10 s10=>?_
     dsimp only [List.set] at w10 s10
     refine bind_ex (ldSl_of (w10.ld (i:=3) rfl rfl)) ?_
     refine bind_ex (ldSl_of (w10.ld (i:=3) rfl rfl)) ?_
     obtain ⟨w11,s11⟩:=w10.pick' [4,0] 7 rfl rfl rfl
     dsimp only [pk,pks,nth,List.drop] at w11 s11
     obtain rfl:=Option.some.inj hp
     exact ⟨_,_,rfl,_,_,_,_,_,_,_,_,rfl,rfl,rfl,w11,(s0.trans (s3.trans (s4.trans (s8.trans (s9.trans (s10.trans s11)))))),(iM.step (s3.trans (s4.trans (s8.trans (s9.trans (s10.trans s11)))))),(iN.step (s3.trans (s4.trans (s8.trans (s9.trans (s10.trans s11))))))⟩
    ·replace hp:=bif_f hb hp
     obtain ⟨n12,g12,hp⟩:=bind_some' hp
     obtain ⟨p12,q12,i12,h12,j12⟩:=W.ixo (E:=(ePair (eInt .i64) (eInt .i64))) w8 (i:=0) rfl rfl (iN.step (s3.trans (s4.trans s8))) g12
     refine bind_ex i12 ?_
     obtain ⟨_,_,rfl,rfl,rfl⟩:=h12
     refine bind_ex (ldI_of (j12 0 _ rfl)) ?_
     refine bif_ex (fun hb=>?_) (fun hb=>?_)
     ·replace hp:=bif_t hb hp
      refine bind_ex (ldSl_of (w8.ld (i:=5) rfl rfl)) ?_
      refine bind_ex (ldSl_of (w8.ld (i:=5) rfl rfl)) ?_
      refine st_k w8 (i:=3) rfl rfl rfl fun H13 w13 s13=>?_
      dsimp only [List.set] at w13 s13
      refine st_k w13 (i:=3) rfl rfl rfl fun H14 w14 s14=>?_
      dsimp only [List.set] at w14 s14
      refine bind_ex (ldSl_of (w14.ld (i:=3) rfl rfl)) ?_
      refine bind_ex (ldSl_of (w14.ld (i:=3) rfl rfl)) ?_
      obtain ⟨w15,s15⟩:=w14.pick' [4,0] 7 rfl rfl rfl
      dsimp only [pk,pks,nth,List.drop] at w15 s15
      obtain rfl:=Option.some.inj hp
      exact ⟨_,_,rfl,_,_,_,_,_,_,_,_,rfl,rfl,rfl,w15,(s0.trans (s3.trans (s4.trans (s8.trans (s13.trans (s14.trans s15)))))),(iM.step (s3.trans (s4.trans (s8.trans (s13.trans (s14.trans s15)))))),(iN.step (s3.trans (s4.trans (s8.trans (s13.trans (s14.trans s15))))))⟩
     ·replace hp:=bif_f hb hp
      obtain ⟨n16,g16,hp⟩:=bind_some' hp
      obtain ⟨p16,q16,i16,h16,j16⟩:=W.ixo (E:=(ePair (eInt .i64) (eInt .i64))) w8 (i:=0) rfl rfl (iN.step (s3.trans (s4.trans s8))) g16
      refine bind_ex i16 ?_
      obtain ⟨l17,e17,hp⟩:=bind_some' hp
      refine sto_k (ePair (eInt .i64) (eInt .i64)) w8 (i:=0) (j:=0) (p:=p16) rfl rfl (iN.step (s3.trans (s4.trans s8))) g16 i16 e17 rfl rfl (fun _ h=>by obtain ⟨_,_,rfl,rfl,rfl⟩:=h; exact ⟨[_],_,rfl,rfl,rfl⟩) fun H18 k18 w18 s18 c18=>?_
      dsimp only [List.set] at w18 s18 c18
      obtain ⟨l19,e19,hp⟩:=bind_some' hp
      refine sto_k (ePair (eInt .i64) (eInt .i64)) w18 (i:=0) (j:=1) (p:=p16) rfl rfl c18 (ix_len g16 (st_len e17)) i16 e19 rfl rfl (fun _ h=>by obtain ⟨_,_,rfl,rfl,rfl⟩:=h; exact ⟨[_],_,rfl,rfl,rfl⟩) fun H20 k20 w20 s20 c20=>?_
      dsimp only [List.set] at w20 s20 c20
      obtain ⟨w21,s21⟩:=w20.pick' [1,2,3,4,0,5,6] 7 rfl rfl rfl
      dsimp only [pk,pks,nth,List.drop] at w21 s21
      exact ih rfl rfl rfl ((st_len e17).symm.trans (st_len e19).symm) rfl ⟨w21,(s0.trans (s3.trans (s4.trans (s8.trans (s18.trans (s20.trans s21)))))),(vn.step (s3.trans (s4.trans (s8.trans (s18.trans (s20.trans s21)))))),(vo.step (s3.trans (s4.trans (s8.trans (s18.trans (s20.trans s21)))))),(iM.step (s3.trans (s4.trans (s8.trans (s18.trans (s20.trans s21)))))),(c20.step s21),(vp.step (s3.trans (s4.trans (s8.trans (s18.trans (s20.trans s21))))))⟩ hp
   ·replace hp:=bif_f hb hp
    obtain ⟨w22,s22⟩:=w3.pick' [3,0,1,2,4,5,6] 7 rfl rfl rfl
    dsimp only [pk,pks,nth,List.drop] at w22 s22
    have f23:=W.borrow1 (ePair (eInt .i64) (eInt .i64)) w22 (iM.step (s3.trans s22))
    obtain ⟨w23,s23⟩:=w22.right1
    obtain ⟨r24,e24,hp⟩:=bind_some' hp
    refine call_ex (bq.P rfl ⟨w23,f23⟩ e24) ?_
    rintro _ H25 ⟨rfl,w25,s25,_⟩
    obtain ⟨w26,s26⟩:=W.frame1 w22 w25 s25
    refine bind_ex rfl ?_
    refine bif_ex (fun hb=>?_) (fun hb=>?_)
    ·replace hp:=bif_t hb hp
     refine bind_ex (ldSl_of (w26.ld (i:=5) rfl rfl)) ?_
     refine bind_ex (ldSl_of (w26.ld (i:=5) rfl rfl)) ?_
     refine st_k w26 (i:=3) rfl rfl rfl fun H27 w27 s27=>?_
     dsimp only [List.set] at w27 s27
     refine st_k w27 (i:=3) rfl rfl rfl fun H28 w28 s28=>?_
     dsimp only [List.set] at w28 s28
     refine bind_ex (ldSl_of (w28.ld (i:=3) rfl rfl)) ?_
     refine bind_ex (ldSl_of (w28.ld (i:=3) rfl rfl)) ?_
     obtain ⟨w29,s29⟩:=w28.pick' [0,4] 7 rfl rfl rfl
     dsimp only [pk,pks,nth,List.drop] at w29 s29
     obtain rfl:=Option.some.inj hp
     exact ⟨_,_,rfl,_,_,_,_,_,_,_,_,rfl,rfl,rfl,w29,(s0.trans (s3.trans (s22.trans (s26.trans (s27.trans (s28.trans s29)))))),(iM.step (s3.trans (s22.trans (s26.trans (s27.trans (s28.trans s29)))))),(iN.step (s3.trans (s22.trans (s26.trans (s27.trans (s28.trans s29))))))⟩
    ·replace hp:=bif_f hb hp
     obtain ⟨n30,g30,hp⟩:=bind_some' hp
     obtain ⟨p30,q30,i30,h30,j30⟩:=W.ixo (E:=(ePair (eInt .i64) (eInt .i64))) w26 (i:=0) rfl rfl (iM.step (s3.trans (s22.trans s26))) g30
     refine bind_ex i30 ?_
     obtain ⟨_,_,rfl,rfl,rfl⟩:=h30
     refine bind_ex (ldI_of (j30 0 _ rfl)) ?_
     refine bif_ex (fun hb=>?_) (fun hb=>?_)
     ·replace hp:=bif_t hb hp
      refine bind_ex (ldSl_of (w26.ld (i:=5) rfl rfl)) ?_
      refine bind_ex (ldSl_of (w26.ld (i:=5) rfl rfl)) ?_
      refine st_k w26 (i:=3) rfl rfl rfl fun H31 w31 s31=>?_
      dsimp only [List.set] at w31 s31
      refine st_k w31 (i:=3) rfl rfl rfl fun H32 w32 s32=>?_
      dsimp only [List.set] at w32 s32
      refine bind_ex (ldSl_of (w32.ld (i:=3) rfl rfl)) ?_
      refine bind_ex (ldSl_of (w32.ld (i:=3) rfl rfl)) ?_
      obtain ⟨w33,s33⟩:=w32.pick' [0,4] 7 rfl rfl rfl
      dsimp only [pk,pks,nth,List.drop] at w33 s33
      obtain rfl:=Option.some.inj hp
      exact ⟨_,_,rfl,_,_,_,_,_,_,_,_,rfl,rfl,rfl,w33,(s0.trans (s3.trans (s22.trans (s26.trans (s31.trans (s32.trans s33)))))),(iM.step (s3.trans (s22.trans (s26.trans (s31.trans (s32.trans s33)))))),(iN.step (s3.trans (s22.trans (s26.trans (s31.trans (s32.trans s33))))))⟩
     ·replace hp:=bif_f hb hp
      obtain ⟨n34,g34,hp⟩:=bind_some' hp
      obtain ⟨p34,q34,i34,h34,j34⟩:=W.ixo (E:=(ePair (eInt .i64) (eInt .i64))) w26 (i:=0) rfl rfl (iM.step (s3.trans (s22.trans s26))) g34
      refine bind_ex i34 ?_
      obtain ⟨l35,e35,hp⟩:=bind_some' hp
      refine sto_k (ePair (eInt .i64) (eInt .i64)) w26 (i:=0) (j:=0) (p:=p34) rfl rfl (iM.step (s3.trans (s22.trans s26))) g34 i34 e35 rfl rfl (fun _ h=>by obtain ⟨_,_,rfl,rfl,rfl⟩:=h; exact ⟨[_],_,rfl,rfl,rfl⟩) fun H36 k36 w36 s36 c36=>?_
      dsimp only [List.set] at w36 s36 c36
      obtain ⟨l37,e37,hp⟩:=bind_some' hp
      refine sto_k (ePair (eInt .i64) (eInt .i64)) w36 (i:=0) (j:=1) (p:=p34) rfl rfl c36 (ix_len g34 (st_len e35)) i34 e37 rfl rfl (fun _ h=>by obtain ⟨_,_,rfl,rfl,rfl⟩:=h; exact ⟨[_],_,rfl,rfl,rfl⟩) fun H38 k38 w38 s38 c38=>?_
      dsimp only [List.set] at w38 s38 c38
      obtain ⟨w39,s39⟩:=w38.pick' [1,2,3,0,4,5,6] 7 rfl rfl rfl
      dsimp only [pk,pks,nth,List.drop] at w39 s39
      exact ih rfl rfl ((st_len e35).symm.trans (st_len e37).symm) rfl rfl ⟨w39,(s0.trans (s3.trans (s22.trans (s26.trans (s36.trans (s38.trans s39)))))),(vn.step (s3.trans (s22.trans (s26.trans (s36.trans (s38.trans s39)))))),(vo.step (s3.trans (s22.trans (s26.trans (s36.trans (s38.trans s39)))))),(c38.step s39),(iN.step (s3.trans (s22.trans (s26.trans (s36.trans (s38.trans s39)))))),(vp.step (s3.trans (s22.trans (s26.trans (s36.trans (s38.trans s39))))))⟩ hp
  ·replace hp:=bif_f hb hp
   obtain ⟨w40,s40⟩:=w0.pick' [0,1,2,3,4,5] 7 rfl rfl rfl
   dsimp only [pk,pks,nth,List.drop] at w40 s40
   exact hC61 rfl rfl rfl rfl rfl ⟨w40,(s0.trans s40),(vn.step s40),(vo.step s40),(iM.step s40),(iN.step s40),(vp.step s40)⟩ hp
def au.pl61 (F:Nat) :Nat→List (Int×Int)→List (Int×Int)→List (Int×Int×Int×Int×Int)→Int→Int→Option ((List (Int×Int))×(List (Int×Int))×Bool)
 | 0,_,_,_,_,_=>none
 | k + 1,jS,jT,gQ,eZ,eg=>(bif (decide (eg < eZ)) then ((ix gQ eg).bind fun n1=>(bh.p F ((gt gQ n1).1) ((gt gQ n1).2.1) ((gt gQ n1).2.2.1) ((gt gQ n1).2.2.2.1)).bind fun r8=>au.pl3931 F (au.pl61 F k) F jS jT gQ eZ eg ((gt gQ n1).2.2.2.2) eg r8.1 r8.2.1 r8.2.2.1 r8.2.2.2 0) else (some (jS,jT,true)))
termination_by structural n=>n
theorem au.l61_P {F:Nat} {H0:Hp} {Ri R0:List Rs}  :∀ k,au.S61 H0 Ri R0  (au.l61 F (aC.tw F) (bh.tw F) (bi.tw F) (bq.tw F)  k) (au.pl61 F  k):=by
 intro k
 induction k with
 | zero=>
  intro rM rN rO rP rQ nS nT ef nU nV eY nW rR rS rT rU rV rW rX jS jT rY rZ r_ sa gQ eZ eg H zt zu zv zw zx h0 r hp
  exact nomatch (show (none:Option ((List (Int×Int))×(List (Int×Int))×Bool)) = some r from hp)
 | succ k ih=>
  intro rM rN rO rP rQ nS nT ef nU nV eY nW rR rS rT rU rV rW rX jS jT rY rZ r_ sa gQ eZ eg H zt zu zv zw zx h0 r hp
  obtain ⟨w0,s0,Es,Et,zy,zz,zA⟩:=h0
  subst zt
  subst zu
  subst zv
  subst zw
  subst zx
  unfold au.pl61 at hp
  unfold au.l61
  refine bif_ex (fun hb=>?_) (fun hb=>?_)
  ·replace hp:=bif_t hb hp
   obtain ⟨n1,g1,hp⟩:=bind_some' hp
   obtain ⟨p1,q1,i1,h1,j1⟩:=ROs.ixr zA rfl g1
   refine bind_ex i1 ?_
   obtain ⟨_,_,rfl,rfl,_,_,rfl,rfl,_,_,rfl,rfl,_,_,rfl,rfl,rfl⟩:=h1
   refine bind_ex (ldI_of (j1 0 _ rfl)) ?_
   refine bind_ex (ldI_of (j1 1 _ rfl)) ?_
   refine bind_ex (ldI_of (j1 2 _ rfl)) ?_
   refine bind_ex (ldI_of (j1 3 _ rfl)) ?_
   refine bind_ex (ldI_of (j1 4 _ rfl)) ?_
   refine new_k w0 fun H2 w2 s2=>?_
   refine st_k w2 (i:=0) rfl rfl rfl fun H3 w3 s3=>?_
   dsimp only [List.set] at w3 s3
   refine st_k w3 (i:=0) rfl rfl rfl fun H4 w4 s4=>?_
   dsimp only [List.set] at w4 s4
   refine st_k w4 (i:=0) rfl rfl rfl fun H5 w5 s5=>?_
   dsimp only [List.set] at w5 s5
   refine st_k w5 (i:=0) rfl rfl rfl fun H6 w6 s6=>?_
   dsimp only [List.set] at w6 s6
   refine st_k w6 (i:=0) rfl rfl rfl fun H7 w7 s7=>?_
   dsimp only [List.set] at w7 s7
   refine bind_ex (ldI_of (w7.ld (i:=0) rfl rfl)) ?_
   refine bind_ex (ldI_of (w7.ld (i:=0) rfl rfl)) ?_
   refine bind_ex (ldI_of (w7.ld (i:=0) rfl rfl)) ?_
   refine bind_ex (ldI_of (w7.ld (i:=0) rfl rfl)) ?_
   refine bind_ex (ldI_of (w7.ld (i:=0) rfl rfl)) ?_
   obtain ⟨r8,e8,hp⟩:=bind_some' hp
   refine call_ex (bh.P ⟨w7,trivial⟩ e8) ?_
   rintro _ H9 ⟨rfl,w9,s9,_⟩
   refine bind_ex rfl ?_
   refine bind_ex rfl ?_
   refine bind_ex rfl ?_
   refine bind_ex rfl ?_
   refine bind_ex rfl ?_
   refine bind_ex rfl ?_
   refine bind_ex rfl ?_
   refine bind_ex rfl ?_
   refine bind_ex rfl ?_
   obtain ⟨w10,s10⟩:=w9.pick' [1,2,3,4,5,6,0] 7 rfl rfl rfl
   dsimp only [pk,pks,nth,List.drop] at w10 s10
   exact au.l3931_P (@ih) F rfl rfl rfl rfl rfl ⟨w10,(s0.trans (s2.trans (s3.trans (s4.trans (s5.trans (s6.trans (s7.trans (s9.trans s10)))))))),(Es.step (s2.trans (s3.trans (s4.trans (s5.trans (s6.trans (s7.trans (s9.trans s10)))))))),(Et.step (s2.trans (s3.trans (s4.trans (s5.trans (s6.trans (s7.trans (s9.trans s10)))))))),(zy.step (s2.trans (s3.trans (s4.trans (s5.trans (s6.trans (s7.trans (s9.trans s10)))))))),(zz.step (s2.trans (s3.trans (s4.trans (s5.trans (s6.trans (s7.trans (s9.trans s10)))))))),(zA.step (s2.trans (s3.trans (s4.trans (s5.trans (s6.trans (s7.trans (s9.trans s10))))))))⟩ hp
  ·replace hp:=bif_f hb hp
   refine bind_ex (ldSl_of (w0.ld (i:=5) rfl rfl)) ?_
   refine bind_ex (ldSl_of (w0.ld (i:=5) rfl rfl)) ?_
   refine st_k w0 (i:=2) rfl rfl rfl fun H11 w11 s11=>?_
   dsimp only [List.set] at w11 s11
   refine st_k w11 (i:=2) rfl rfl rfl fun H12 w12 s12=>?_
   dsimp only [List.set] at w12 s12
   refine bind_ex (ldSl_of (w12.ld (i:=2) rfl rfl)) ?_
   refine bind_ex (ldSl_of (w12.ld (i:=2) rfl rfl)) ?_
   obtain ⟨w13,s13⟩:=w12.pick' [3,4] 6 rfl rfl rfl
   dsimp only [pk,pks,nth,List.drop] at w13 s13
   obtain rfl:=Option.some.inj hp
   exact ⟨_,_,rfl,_,_,_,_,_,_,_,_,rfl,rfl,rfl,w13,(s0.trans (s11.trans (s12.trans s13))),(zy.step (s11.trans (s12.trans s13))),(zz.step (s11.trans (s12.trans s13)))⟩
def au.p (F:Nat) (ac:List (Int×Int×Int×Int×Int)):Option ((List (Int×Int))×(List (Int×Int))×Bool):=(aC.p F ([((-1),0)]:List (Int×Int)) (IntKind.i64.wrap (2 * (ac.length:Int)))).bind fun r5=>(aC.p F ([((-1),0)]:List (Int×Int)) (IntKind.i64.wrap (2 * (ac.length:Int)))).bind fun r10=>au.pl61 F F r5 r10 ac (ac.length:Int) 0
theorem au.P {F:Nat} {av:ON} {aj:Nat} {aw:Cap} {ac:List (Int×Int×Int×Int×Int)} {ab:Int} {H:Hp} {R0:List Rs} (ba:aj = ac.length) (h0:Inn H R0 fun R=>ROs (ePair (eInt .i64) (ePair (eInt .i64) (ePair (eInt .i64) (ePair (eInt .i64) (eInt .i64))))) H R ⟨av,aj,aw⟩ ac) {r:(List (Int×Int))×(List (Int×Int))×Bool} (hp:au.p F ac = some r):∃ v H',au.tw F ⟨av,aj,aw⟩ ab H = some (v,H')∧au.Q H R0 R0  r v H':=by
 obtain ⟨w0,aH⟩:=h0
 subst ba
 unfold au.p at hp
 unfold au.tw au.twX
 have s0:=w0.rf
 refine new_k w0 fun H1 w1 s1=>?_
 refine new_k w1 fun H2 w2 s2=>?_
 refine bind_ex (ldSl_of (w2.ld (i:=1) rfl rfl)) ?_
 refine newS_k (ePair (eInt .i64) (eInt .i64)) w2 (n:=1) (l:=([((-1),0)]:List (Int×Int))) rfl (CR.cons (c:=[_,_]) ⟨[_],_,rfl,rfl,rfl⟩ CR.empty) rfl fun H3 w3 s3 c3=>?_
 have f4:=W.borrow1 (ePair (eInt .i64) (eInt .i64)) w3 c3
 obtain ⟨w4,s4⟩:=w3.right1
 obtain ⟨r5,e5,hp⟩:=bind_some' hp
 refine call_ex (aC.P (show 1 = List.length ([((-1),0)]:List (Int×Int)) from rfl) ⟨w4,f4⟩ e5) ?_
 rintro _ H6 ⟨o0a_6,o0n_6,o0k_6,rfl,rfl,w6,s6,f6_0⟩
 obtain ⟨w7,s7⟩:=W.frame1 w3 w6 s6
 refine bind_ex rfl ?_
 refine newS_k (ePair (eInt .i64) (eInt .i64)) w7 (n:=1) (l:=([((-1),0)]:List (Int×Int))) rfl (CR.cons (c:=[_,_]) ⟨[_],_,rfl,rfl,rfl⟩ CR.empty) rfl fun H8 w8 s8 c8=>?_
 have f9:=W.borrow1 (ePair (eInt .i64) (eInt .i64)) w8 c8
 obtain ⟨w9,s9⟩:=w8.right1
 obtain ⟨r10,e10,hp⟩:=bind_some' hp
 refine call_ex (aC.P (show 1 = List.length ([((-1),0)]:List (Int×Int)) from rfl) ⟨w9,f9⟩ e10) ?_
 rintro _ H11 ⟨o0a_11,o0n_11,o0k_11,rfl,rfl,w11,s11,f11_0⟩
 obtain ⟨w12,s12⟩:=W.frame1 w8 w11 s11
 refine bind_ex rfl ?_
 refine new_k w12 fun H13 w13 s13=>?_
 refine st_k w13 (i:=0) rfl rfl rfl fun H14 w14 s14=>?_
 dsimp only [List.set] at w14 s14
 refine st_k w14 (i:=0) rfl rfl rfl fun H15 w15 s15=>?_
 dsimp only [List.set] at w15 s15
 refine bind_ex (ldSl_of (w15.ld (i:=6) rfl rfl)) ?_
 obtain ⟨w16,s16⟩:=w15.nilS (ePair (eInt .i64) (eInt .i64)).z (by decide)
 obtain ⟨w17,s17⟩:=w16.nilS (ePair (eInt .i64) (eInt .i64)).z (by decide)
 obtain ⟨w18,s18⟩:=w17.pick' [1,0,7,6,4,2] 9 rfl rfl rfl
 dsimp only [pk,pks,nth,List.drop] at w18 s18
 exact au.l61_P F rfl rfl rfl rfl rfl ⟨w18,(s0.trans (s1.trans (s2.trans (s3.trans (s7.trans (s8.trans (s12.trans (s13.trans (s14.trans (s15.trans (s16.trans (s17.trans s18)))))))))))),((CR.empty:CR (ePair (eInt .i64) (eInt .i64)) _ _ [] []).step (s17.trans s18)),((CR.empty:CR (ePair (eInt .i64) (eInt .i64)) _ _ [] []).step s18),((CR.flat (ePair_flat (eInt_flat .i64) (eInt_flat .i64)) f6_0).step (s8.trans (s12.trans (s13.trans (s14.trans (s15.trans (s16.trans (s17.trans s18)))))))),((CR.flat (ePair_flat (eInt_flat .i64) (eInt_flat .i64)) f11_0).step (s13.trans (s14.trans (s15.trans (s16.trans (s17.trans s18)))))),(aH.step (s1.trans (s2.trans (s3.trans (s7.trans (s8.trans (s12.trans (s13.trans (s14.trans (s15.trans (s16.trans (s17.trans s18))))))))))))⟩ hp
def bm.Q (H0:Hp) (Ri R0:List Rs)  (r:Int×Int) (v:AV) (H':Hp):Prop:=v = (.agg [(.int .i64 r.1),(.int .i64 r.2)])∧Out H0 Ri H' (R0) fun R=>True
def bm.p (F:Nat) (ac:List (Int×Int×Int×Int×Int)) (dh:List (Int×Int)) (dr:List (Int×Int)) (bb:Int) (eh:Int):Option (Int×Int):=(ix ac bb).bind fun n5=>(bh.p F ((gt ac n5).1) ((gt ac n5).2.1) ((gt ac n5).2.2.1) ((gt ac n5).2.2.2.1)).bind fun r12=>(if 0 ≤ eh∧eh < (4:Int) then ((bi.p F ((gt ac n5).2.2.2.2) eh).bind fun r16=>(bif r16 then ((ix dh (gt ([r12.1,r12.2.1,r12.2.2.1,r12.2.2.2]:List Int) (eh:Int).toNat)).bind fun n18=>some (((gt dh n18).1),((gt dh n18).2))) else ((ix dr (gt ([r12.1,r12.2.1,r12.2.2.1,r12.2.2.2]:List Int) (eh:Int).toNat)).bind fun n22=>some (((gt dr n22).1),((gt dr n22).2))))) else none)
theorem bm.P {F:Nat} {av iH iD:ON} {aj gk gj:Nat} {aw iI iE:Cap} {ac:List (Int×Int×Int×Int×Int)} {ab bb eh:Int} {dh dr:List (Int×Int)} {H:Hp} {R0:List Rs} (ba:aj = ac.length) (kC:gk = dh.length) (kz:gj = dr.length) (h0:Inn H R0 fun R=>ROs (ePair (eInt .i64) (ePair (eInt .i64) (ePair (eInt .i64) (ePair (eInt .i64) (eInt .i64))))) H R ⟨av,aj,aw⟩ ac∧ROs (ePair (eInt .i64) (eInt .i64)) H R ⟨iH,gk,iI⟩ dh∧ROs (ePair (eInt .i64) (eInt .i64)) H R ⟨iD,gj,iE⟩ dr) {r:Int×Int} (hp:bm.p F ac dh dr bb eh = some r):∃ v H',bm.tw F ⟨av,aj,aw⟩ ab ⟨iH,gk,iI⟩ ⟨iD,gj,iE⟩ bb eh H = some (v,H')∧bm.Q H R0 R0  r v H':=by
 obtain ⟨w0,aH,kD,kA⟩:=h0
 subst ba
 subst kC
 subst kz
 unfold bm.p at hp
 unfold bm.tw bm.twX
 have s0:=w0.rf
 refine new_k w0 fun H1 w1 s1=>?_
 refine new_k w1 fun H2 w2 s2=>?_
 refine new_k w2 fun H3 w3 s3=>?_
 refine new_k w3 fun H4 w4 s4=>?_
 refine bind_ex (ldSl_of (w4.ld (i:=3) rfl rfl)) ?_
 refine bind_ex (ldI_of (w4.ld (i:=1) rfl rfl)) ?_
 obtain ⟨n5,g5,hp⟩:=bind_some' hp
 obtain ⟨p5,q5,i5,h5,j5⟩:=ROs.ixr (aH.step (s1.trans (s2.trans (s3.trans s4)))) rfl g5
 refine bind_ex i5 ?_
 obtain ⟨_,_,rfl,rfl,_,_,rfl,rfl,_,_,rfl,rfl,_,_,rfl,rfl,rfl⟩:=h5
 refine bind_ex (ldI_of (j5 0 _ rfl)) ?_
 refine bind_ex (ldI_of (j5 1 _ rfl)) ?_
 refine bind_ex (ldI_of (j5 2 _ rfl)) ?_
 refine bind_ex (ldI_of (j5 3 _ rfl)) ?_
 refine bind_ex (ldI_of (j5 4 _ rfl)) ?_
 refine new_k w4 fun H6 w6 s6=>?_
 refine st_k w6 (i:=0) rfl rfl rfl fun H7 w7 s7=>?_
 dsimp only [List.set] at w7 s7
 refine st_k w7 (i:=0) rfl rfl rfl fun H8 w8 s8=>?_
 dsimp only [List.set] at w8 s8
 refine st_k w8 (i:=0) rfl rfl rfl fun H9 w9 s9=>?_
 dsimp only [List.set] at w9 s9
 refine st_k w9 (i:=0) rfl rfl rfl fun H10 w10 s10=>?_
 dsimp only [List.set] at w10 s10
 refine st_k w10 (i:=0) rfl rfl rfl fun H11 w11 s11=>?_
 dsimp only [List.set] at w11 s11
 refine bind_ex (ldI_of (w11.ld (i:=0) rfl rfl)) ?_
 refine bind_ex (ldI_of (w11.ld (i:=0) rfl rfl)) ?_
 refine bind_ex (ldI_of (w11.ld (i:=0) rfl rfl)) ?_
 refine bind_ex (ldI_of (w11.ld (i:=0) rfl rfl)) ?_
 refine bind_ex (ldI_of (w11.ld (i:=0) rfl rfl)) ?_
 obtain ⟨r12,e12,hp⟩:=bind_some' hp
 refine call_ex (bh.P ⟨w11,trivial⟩ e12) ?_
 rintro _ H13 ⟨rfl,w13,s13,_⟩
 refine bind_ex rfl ?_
 refine bind_ex rfl ?_
 refine bind_ex rfl ?_
 refine bind_ex rfl ?_
 refine bind_ex rfl ?_
 refine bind_ex rfl ?_
 refine bind_ex rfl ?_
 refine bind_ex rfl ?_
 refine bind_ex rfl ?_
 refine ifs_ex (W.cons_of (Rn:=[]) w11 w13 s13) ?_
 refine bind_ex (ldI_of (w13.ld (i:=2) rfl rfl)) ?_
 obtain ⟨g15,hp⟩:=ifs_p hp
 refine ifs_ex g15 ?_
 refine bind_ex (a:=AV.int .i64 (gt ([r12.1,r12.2.1,r12.2.2.1,r12.2.2.2]:List Int) (eh:Int).toNat)) (by rw [Nat.mul_one]; exact arr_get (k:=.i64) (l:=[r12.1,r12.2.1,r12.2.2.1,r12.2.2.2]) rfl (by have:=g15; simp only [List.length_cons,List.length_nil]; omega)) ?_
 refine bind_ex rfl ?_
 refine bind_ex (ldI_of (w13.ld (i:=0) rfl rfl)) ?_
 refine bind_ex (ldI_of (w13.ld (i:=0) rfl rfl)) ?_
 refine bind_ex (ldI_of (w13.ld (i:=0) rfl rfl)) ?_
 refine bind_ex (ldI_of (w13.ld (i:=0) rfl rfl)) ?_
 refine bind_ex (ldI_of (w13.ld (i:=0) rfl rfl)) ?_
 refine bind_ex (ldI_of (w13.ld (i:=2) rfl rfl)) ?_
 obtain ⟨r16,e16,hp⟩:=bind_some' hp
 refine call_ex (bi.P ⟨w13,trivial⟩ e16) ?_
 rintro _ H17 ⟨rfl,w17,s17,_⟩
 refine bind_ex rfl ?_
 refine bif_ex (fun hb=>?_) (fun hb=>?_)
 ·replace hp:=bif_t hb hp
  refine bind_ex (ldSl_of (w17.ld (i:=3) rfl rfl)) ?_
  obtain ⟨n18,g18,hp⟩:=bind_some' hp
  obtain ⟨p18,q18,i18,h18,j18⟩:=ROs.ixr (kD.step (s1.trans (s2.trans (s3.trans (s4.trans (s6.trans (s7.trans (s8.trans (s9.trans (s10.trans (s11.trans (s13.trans s17)))))))))))) rfl g18
  refine bind_ex i18 ?_
  obtain ⟨_,_,rfl,rfl,rfl⟩:=h18
  refine bind_ex (ldI_of (j18 0 _ rfl)) ?_
  refine bind_ex (ldI_of (j18 1 _ rfl)) ?_
  refine st_k w17 (i:=1) rfl rfl rfl fun H19 w19 s19=>?_
  dsimp only [List.set] at w19 s19
  refine st_k w19 (i:=1) rfl rfl rfl fun H20 w20 s20=>?_
  dsimp only [List.set] at w20 s20
  refine bind_ex (ldI_of (w20.ld (i:=1) rfl rfl)) ?_
  refine bind_ex (ldI_of (w20.ld (i:=1) rfl rfl)) ?_
  obtain ⟨w21,s21⟩:=w20.pick' [] 5 rfl rfl rfl
  dsimp only [pk,pks,nth,List.drop] at w21 s21
  obtain rfl:=Option.some.inj hp
  exact ⟨_,_,rfl,rfl,w21,(s0.trans (s1.trans (s2.trans (s3.trans (s4.trans (s6.trans (s7.trans (s8.trans (s9.trans (s10.trans (s11.trans (s13.trans (s17.trans (s19.trans (s20.trans s21))))))))))))))),trivial⟩
 ·replace hp:=bif_f hb hp
  refine bind_ex (ldSl_of (w17.ld (i:=3) rfl rfl)) ?_
  obtain ⟨n22,g22,hp⟩:=bind_some' hp
  obtain ⟨p22,q22,i22,h22,j22⟩:=ROs.ixr (kA.step (s1.trans (s2.trans (s3.trans (s4.trans (s6.trans (s7.trans (s8.trans (s9.trans (s10.trans (s11.trans (s13.trans s17)))))))))))) rfl g22
  refine bind_ex i22 ?_
  obtain ⟨_,_,rfl,rfl,rfl⟩:=h22
  refine bind_ex (ldI_of (j22 0 _ rfl)) ?_
  refine bind_ex (ldI_of (j22 1 _ rfl)) ?_
  refine st_k w17 (i:=1) rfl rfl rfl fun H23 w23 s23=>?_
  dsimp only [List.set] at w23 s23
  refine st_k w23 (i:=1) rfl rfl rfl fun H24 w24 s24=>?_
  dsimp only [List.set] at w24 s24
  refine bind_ex (ldI_of (w24.ld (i:=1) rfl rfl)) ?_
  refine bind_ex (ldI_of (w24.ld (i:=1) rfl rfl)) ?_
  obtain ⟨w25,s25⟩:=w24.pick' [] 5 rfl rfl rfl
  dsimp only [pk,pks,nth,List.drop] at w25 s25
  obtain rfl:=Option.some.inj hp
  exact ⟨_,_,rfl,rfl,w25,(s0.trans (s1.trans (s2.trans (s3.trans (s4.trans (s6.trans (s7.trans (s8.trans (s9.trans (s10.trans (s11.trans (s13.trans (s17.trans (s23.trans (s24.trans s25))))))))))))))),trivial⟩
def ak.Q (H0:Hp) (Ri R0:List Rs)  (r:List (List Int)) (v:AV) (H':Hp):Prop:=∃ o0a:ON,∃ o0n:Nat,∃ o0c:Cap,∃ o0k:List AV,v = (.sl ⟨o0a,o0n,o0c⟩)∧o0n = (r).length∧Out H0 Ri H' (Rs.own ⟨o0a,o0n,o0c⟩ (eSl (eInt .i64)).z o0k :: R0) fun R=>CR (eSl (eInt .i64)) H' R o0k (r)
def ak.S61 (H0:Hp) (Ri R0:List Rs)  (C:Nat→Nat→Nat→Nat→Sl→Sl→Int→Int→Hp→OA) (pC:List (Int×Int×Int×Int×Int)→List (Int×Int)→List (Int×Int)→List (List Int)→List Bool→Int→Int→Option (List (List Int))):Prop:=∀ {sw sx sy sB sC:ON} {ob fb oc od fB oe og:Nat} {sD sE sF sG sH:Cap} {kE:List (Int×Int×Int×Int×Int)} {vq fc eP:Int} {kF kG:List (Int×Int)} {jV:List (List Int)} {sI sJ:List AV} {kH:List Bool},∀ {H:Hp},ob = kE.length→oc = kF.length→od = kG.length→oe = jV.length→og = kH.length→(Out H0 Ri H (Rs.blk fb [.sl ⟨sw,ob,sD⟩,.int .i64 vq] :: Rs.blk fB [.sl ⟨sx,oc,sE⟩,.sl ⟨sy,od,sF⟩] :: Rs.own ⟨sB,oe,sG⟩ (eSl (eInt .i64)).z sI :: Rs.own ⟨sC,og,sH⟩ eBool.z sJ :: R0) fun R=>ROs (ePair (eInt .i64) (ePair (eInt .i64) (ePair (eInt .i64) (ePair (eInt .i64) (eInt .i64))))) H R ⟨sw,ob,sD⟩ kE∧ROs (ePair (eInt .i64) (eInt .i64)) H R ⟨sx,oc,sE⟩ kF∧ROs (ePair (eInt .i64) (eInt .i64)) H R ⟨sy,od,sF⟩ kG∧CR (eSl (eInt .i64)) H R sI jV∧CR eBool H R sJ kH)→∀ {r:List (List Int)},pC kE kF kG jV kH fc eP = some r→∃ v H',C fb 0 fB 0 ⟨sB,oe,sG⟩ ⟨sC,og,sH⟩ fc eP H = some (v,H')∧ak.Q H0 Ri R0  r v H'
def ak.S15725 (H0:Hp) (Ri R0:List Rs)  (C:Nat→Nat→Nat→Nat→Sl→Sl→Int→Int→Sl→Int→Hp→OA) (pC:List (Int×Int×Int×Int×Int)→List (Int×Int)→List (Int×Int)→List (List Int)→List Bool→Int→Int→List Int→Int→Option (List (List Int))):Prop:=∀ {sK sL sM sO sQ sS:ON} {oh dD oi oj dP ol om oo:Nat} {sT sU sV sW sX sY:Cap} {jn:List (Int×Int×Int×Int×Int)} {vr fa fA cU:Int} {jo jp:List (Int×Int)} {jW:List (List Int)} {sZ s_ ta:List AV} {iJ:List Bool} {jX:List Int},∀ {H:Hp},oh = jn.length→oi = jo.length→oj = jp.length→ol = jW.length→om = iJ.length→oo = jX.length→(Out H0 Ri H (Rs.blk dD [.sl ⟨sK,oh,sT⟩,.int .i64 vr] :: Rs.blk dP [.sl ⟨sL,oi,sU⟩,.sl ⟨sM,oj,sV⟩] :: Rs.own ⟨sO,ol,sW⟩ (eSl (eInt .i64)).z sZ :: Rs.own ⟨sQ,om,sX⟩ eBool.z s_ :: Rs.own ⟨sS,oo,sY⟩ (eInt .i64).z ta :: R0) fun R=>ROs (ePair (eInt .i64) (ePair (eInt .i64) (ePair (eInt .i64) (ePair (eInt .i64) (eInt .i64))))) H R ⟨sK,oh,sT⟩ jn∧ROs (ePair (eInt .i64) (eInt .i64)) H R ⟨sL,oi,sU⟩ jo∧ROs (ePair (eInt .i64) (eInt .i64)) H R ⟨sM,oj,sV⟩ jp∧CR (eSl (eInt .i64)) H R sZ jW∧CR eBool H R s_ iJ∧CR (eInt .i64) H R ta jX)→∀ {r:List (List Int)},pC jn jo jp jW iJ fa fA jX cU = some r→∃ v H',C dD 0 dP 0 ⟨sO,ol,sW⟩ ⟨sQ,om,sX⟩ fa fA ⟨sS,oo,sY⟩ cU H = some (v,H')∧ak.Q H0 Ri R0  r v H'
def ak.pj4 (F:Nat) (aJ:List (Int×Int×Int×Int×Int)→List (Int×Int)→List (Int×Int)→List (List Int)→List Bool→Int→Int→Option (List (List Int))) (oq:List (Int×Int×Int×Int×Int)) (ot:List (Int×Int)) (ou:List (Int×Int)) (ov:List (List Int)) (ox:List Bool) (lH:Int) (lI:Int):Option (List (List Int)):=aJ oq ot ou ov ox lH (IntKind.i64.wrap (lI + 1))
theorem ak.j4_P {F:Nat} {H0:Hp} {Ri R0:List Rs}  {C61_:Nat→Nat→Nat→Nat→Sl→Sl→Int→Int→Hp→OA} {aJ:List (Int×Int×Int×Int×Int)→List (Int×Int)→List (Int×Int)→List (List Int)→List Bool→Int→Int→Option (List (List Int))} (hC61:ak.S61 H0 Ri R0  C61_ aJ) {zB zC zD zE zF:ON} {vs pu vt vu pv vv vw:Nat} {zG zH zI zJ zK:Cap} {oq:List (Int×Int×Int×Int×Int)} {Eu lH lI:Int} {ot ou:List (Int×Int)} {ov:List (List Int)} {zL zM:List AV} {ox:List Bool} {H:Hp} (Ev:vs = oq.length) (Ew:vt = ot.length) (Ex:vu = ou.length) (Ey:vv = ov.length) (Ez:vw = ox.length) (h0:Out H0 Ri H (Rs.blk pu [.sl ⟨zB,vs,zG⟩,.int .i64 Eu] :: Rs.blk pv [.sl ⟨zC,vt,zH⟩,.sl ⟨zD,vu,zI⟩] :: Rs.own ⟨zE,vv,zJ⟩ (eSl (eInt .i64)).z zL :: Rs.own ⟨zF,vw,zK⟩ eBool.z zM :: R0) fun R=>ROs (ePair (eInt .i64) (ePair (eInt .i64) (ePair (eInt .i64) (ePair (eInt .i64) (eInt .i64))))) H R ⟨zB,vs,zG⟩ oq∧ROs (ePair (eInt .i64) (eInt .i64)) H R ⟨zC,vt,zH⟩ ot∧ROs (ePair (eInt .i64) (eInt .i64)) H R ⟨zD,vu,zI⟩ ou∧CR (eSl (eInt .i64)) H R zL ov∧CR eBool H R zM ox) {r:List (List Int)} (hp:ak.pj4 F aJ oq ot ou ov ox lH lI = some r):∃ v H',ak.j4 F (bm.tw F) C61_ pu 0 pv 0 ⟨zE,vv,zJ⟩ ⟨zF,vw,zK⟩ lH lI H = some (v,H')∧ak.Q H0 Ri R0  r v H':=by
 obtain ⟨w0,s0,EA,EB,EC,ED,EE⟩:=h0
 subst Ev
 subst Ew
 subst Ex
 subst Ey
 subst Ez
 unfold ak.pj4 at hp
 unfold ak.j4
 exact hC61 rfl rfl rfl rfl rfl ⟨w0,s0,EA,EB,EC,ED,EE⟩ hp
def ak.pj5 (F:Nat) (aJ:List (Int×Int×Int×Int×Int)→List (Int×Int)→List (Int×Int)→List (List Int)→List Bool→Int→Int→Option (List (List Int))) (oy:List (Int×Int×Int×Int×Int)) (oz:List (Int×Int)) (oA:List (Int×Int)) (oB:List (List Int)) (oC:List Bool) (lJ:Int) (lK:Int):Option (List (List Int)):=ak.pj4 F aJ oy oz oA oB oC lJ lK
theorem ak.j5_P {F:Nat} {H0:Hp} {Ri R0:List Rs}  {C61_:Nat→Nat→Nat→Nat→Sl→Sl→Int→Int→Hp→OA} {aJ:List (Int×Int×Int×Int×Int)→List (Int×Int)→List (Int×Int)→List (List Int)→List Bool→Int→Int→Option (List (List Int))} (hC61:ak.S61 H0 Ri R0  C61_ aJ) {zN zO zP zQ zR:ON} {vx pw vy vz kX vA vB:Nat} {zS zT zU zV zW:Cap} {oy:List (Int×Int×Int×Int×Int)} {EF lJ lK:Int} {oz oA:List (Int×Int)} {oB:List (List Int)} {zX zY:List AV} {oC:List Bool} {H:Hp} (EG:vx = oy.length) (EH:vy = oz.length) (EI:vz = oA.length) (EJ:vA = oB.length) (EK:vB = oC.length) (h0:Out H0 Ri H (Rs.blk pw [.sl ⟨zN,vx,zS⟩,.int .i64 EF] :: Rs.blk kX [.sl ⟨zO,vy,zT⟩,.sl ⟨zP,vz,zU⟩] :: Rs.own ⟨zQ,vA,zV⟩ (eSl (eInt .i64)).z zX :: Rs.own ⟨zR,vB,zW⟩ eBool.z zY :: R0) fun R=>ROs (ePair (eInt .i64) (ePair (eInt .i64) (ePair (eInt .i64) (ePair (eInt .i64) (eInt .i64))))) H R ⟨zN,vx,zS⟩ oy∧ROs (ePair (eInt .i64) (eInt .i64)) H R ⟨zO,vy,zT⟩ oz∧ROs (ePair (eInt .i64) (eInt .i64)) H R ⟨zP,vz,zU⟩ oA∧CR (eSl (eInt .i64)) H R zX oB∧CR eBool H R zY oC) {r:List (List Int)} (hp:ak.pj5 F aJ oy oz oA oB oC lJ lK = some r):∃ v H',ak.j5 F (bm.tw F) C61_ pw 0 kX 0 ⟨zQ,vA,zV⟩ ⟨zR,vB,zW⟩ lJ lK H = some (v,H')∧ak.Q H0 Ri R0  r v H':=by
 obtain ⟨w0,s0,EL,EM,EN,EO,EP⟩:=h0
 subst EG
 subst EH
 subst EI
 subst EJ
 subst EK
 unfold ak.pj5 at hp
 unfold ak.j5
 exact ak.j4_P (@hC61) rfl rfl rfl rfl rfl ⟨w0,s0,EL,EM,EN,EO,EP⟩ hp
def ak.pj6 (F:Nat) (aJ:List (Int×Int×Int×Int×Int)→List (Int×Int)→List (Int×Int)→List (List Int)→List Bool→Int→Int→Option (List (List Int))) (lW:List (Int×Int×Int×Int×Int)) (lX:List (Int×Int)) (lY:List (Int×Int)) (lZ:List (List Int)) (l_:List Bool) (jY:List Int) (jx:Int) (jy:Int):Option (List (List Int)):=(bif (decide ((jY.length:Int) > 0)) then ((apn lZ ([jY]:List (List Int))).bind fun l3=>ak.pj5 F aJ lW lX lY l3 l_ jx jy) else (ak.pj5 F aJ lW lX lY lZ l_ jx jy))
theorem ak.j6_P {F:Nat} {H0:Hp} {Ri R0:List Rs}  {C61_:Nat→Nat→Nat→Nat→Sl→Sl→Int→Int→Hp→OA} {aJ:List (Int×Int×Int×Int×Int)→List (Int×Int)→List (Int×Int)→List (List Int)→List Bool→Int→Int→Option (List (List Int))} (hC61:ak.S61 H0 Ri R0  C61_ aJ) {zZ z_ Aa Ab Ac Ad:ON} {vC md vD vE mf vF vG vH:Nat} {Ae Af Ag Ah Ai Aj:Cap} {lW:List (Int×Int×Int×Int×Int)} {EQ jx jy:Int} {lX lY:List (Int×Int)} {lZ:List (List Int)} {Ak Al Am:List AV} {l_:List Bool} {jY:List Int} {H:Hp} (ER:vC = lW.length) (ES:vD = lX.length) (ET:vE = lY.length) (EU:vF = lZ.length) (EV:vG = l_.length) (EW:vH = jY.length) (h0:Out H0 Ri H (Rs.blk md [.sl ⟨zZ,vC,Ae⟩,.int .i64 EQ] :: Rs.blk mf [.sl ⟨z_,vD,Af⟩,.sl ⟨Aa,vE,Ag⟩] :: Rs.own ⟨Ab,vF,Ah⟩ (eSl (eInt .i64)).z Ak :: Rs.own ⟨Ac,vG,Ai⟩ eBool.z Al :: Rs.own ⟨Ad,vH,Aj⟩ (eInt .i64).z Am :: R0) fun R=>ROs (ePair (eInt .i64) (ePair (eInt .i64) (ePair (eInt .i64) (ePair (eInt .i64) (eInt .i64))))) H R ⟨zZ,vC,Ae⟩ lW∧ROs (ePair (eInt .i64) (eInt .i64)) H R ⟨z_,vD,Af⟩ lX∧ROs (ePair (eInt .i64) (eInt .i64)) H R ⟨Aa,vE,Ag⟩ lY∧CR (eSl (eInt .i64)) H R Ak lZ∧CR eBool H R Al l_∧CR (eInt .i64) H R Am jY) {r:List (List Int)} (hp:ak.pj6 F aJ lW lX lY lZ l_ jY jx jy = some r):∃ v H',ak.j6 F (bm.tw F) C61_ md 0 mf 0 ⟨Ab,vF,Ah⟩ ⟨Ac,vG,Ai⟩ ⟨Ad,vH,Aj⟩ jx jy H = some (v,H')∧ak.Q H0 Ri R0  r v H':=by
 obtain ⟨w0,s0,An,Ao,Ap,Aq,Ar,EX⟩:=h0
 subst ER
 subst ES
 subst ET
 subst EU
 subst EV
 subst EW
 unfold ak.pj6 at hp
 unfold ak.j6
 refine bif_ex (fun hb=>?_) (fun hb=>?_)
 ·replace hp:=bif_t hb hp
  obtain ⟨w1,s1,f1⟩:=w0.frz (i:=4) (eInt .i64) rfl EX
  dsimp only [List.eraseIdx] at w1 s1 f1
  refine newS_k (eSl (eInt .i64)) w1 (n:=1) (l:=([jY]:List (List Int))) rfl (CR.cons1 ⟨_,rfl,f1⟩ CR.empty) rfl fun H2 w2 s2 c2=>?_
  refine bind_ex (w2.rowo (i:=0) rfl) ?_
  obtain ⟨l3,e3,hp⟩:=bind_some' hp
  refine app_k (eSl (eInt .i64)) w2 (i:=3) rfl rfl (Aq.step (s1.trans s2)) c2 (show 1 = List.length ([jY]:List (List Int)) from rfl) rfl e3 fun a4 d4 H4 w4 s4 c4 x4=>?_
  dsimp only [List.set] at w4 s4 c4
  obtain ⟨w5,s5⟩:=w4.pick' [1,2,3,4] 5 rfl rfl rfl
  dsimp only [pk,pks,nth,List.drop] at w5 s5
  exact ak.j5_P (@hC61) rfl rfl rfl rfl rfl ⟨w5,(s0.trans (s1.trans (s2.trans (s4.trans s5)))),(An.step (s1.trans (s2.trans (s4.trans s5)))),(Ao.step (s1.trans (s2.trans (s4.trans s5)))),(Ap.step (s1.trans (s2.trans (s4.trans s5)))),(c4.step s5),(Ar.step (s1.trans (s2.trans (s4.trans s5))))⟩ hp
 ·replace hp:=bif_f hb hp
  obtain ⟨w6,s6⟩:=w0.pick' [0,1,2,3] 5 rfl rfl rfl
  dsimp only [pk,pks,nth,List.drop] at w6 s6
  exact ak.j5_P (@hC61) rfl rfl rfl rfl rfl ⟨w6,(s0.trans s6),(An.step s6),(Ao.step s6),(Ap.step s6),(Aq.step s6),(Ar.step s6)⟩ hp
def ak.pl15725 (F:Nat) (aJ:List (Int×Int×Int×Int×Int)→List (Int×Int)→List (Int×Int)→List (List Int)→List Bool→Int→Int→Option (List (List Int))):Nat→List (Int×Int×Int×Int×Int)→List (Int×Int)→List (Int×Int)→List (List Int)→List Bool→Int→Int→List Int→Int→Option (List (List Int))
 | 0,_,_,_,_,_,_,_,_,_=>none
 | k + 1,jn,jo,jp,jW,iJ,fa,fA,jX,cU=>(ix iJ cU).bind fun n1=>(bif (!(gt iJ n1)) then ((ix iJ cU).bind fun n2=>(some (iJ.set n2 true)).bind fun l3=>(apn jX ([cU]:List Int)).bind fun l6=>(bm.p F jn jo jp (IntKind.i64.wrap (Int.tdiv cU 4)) (Int.tmod (IntKind.i64.wrap (cU + 1)) 4)).bind fun r8=>ak.pl15725 F aJ k jn jo jp jW l3 fa fA l6 (IntKind.i64.wrap ((IntKind.i64.wrap (4 * r8.1)) + r8.2))) else (ak.pj6 F aJ jn jo jp jW iJ jX fa fA))
termination_by structural n=>n
theorem ak.l15725_P {F:Nat} {H0:Hp} {Ri R0:List Rs}  {C61_:Nat→Nat→Nat→Nat→Sl→Sl→Int→Int→Hp→OA} {aJ:List (Int×Int×Int×Int×Int)→List (Int×Int)→List (Int×Int)→List (List Int)→List Bool→Int→Int→Option (List (List Int))} (hC61:ak.S61 H0 Ri R0  C61_ aJ):∀ k,ak.S15725 H0 Ri R0  (ak.l15725 F (bm.tw F) C61_ k) (ak.pl15725 F aJ k):=by
 intro k
 induction k with
 | zero=>
  intro sK sL sM sO sQ sS oh dD oi oj dP ol om oo sT sU sV sW sX sY jn vr fa fA cU jo jp jW sZ s_ ta iJ jX H As At Au Av Aw Ax h0 r hp
  exact nomatch (show (none:Option (List (List Int))) = some r from hp)
 | succ k ih=>
  intro sK sL sM sO sQ sS oh dD oi oj dP ol om oo sT sU sV sW sX sY jn vr fa fA cU jo jp jW sZ s_ ta iJ jX H As At Au Av Aw Ax h0 r hp
  obtain ⟨w0,s0,vI,vJ,vK,Ay,tc,Az⟩:=h0
  subst As
  subst At
  subst Au
  subst Av
  subst Aw
  subst Ax
  unfold ak.pl15725 at hp
  unfold ak.l15725
  obtain ⟨n1,g1,hp⟩:=bind_some' hp
  obtain ⟨p1,q1,i1,h1,j1⟩:=W.ixo (E:=eBool) w0 (i:=3) rfl rfl tc g1
  refine bind_ex i1 ?_
  have h1:_ = [_]:=h1
  subst h1
  refine bind_ex (ldB_of (j1 0 _ rfl)) ?_
  refine bif_ex (fun hb=>?_) (fun hb=>?_)
  ·replace hp:=bif_t hb hp
   obtain ⟨n2,g2,hp⟩:=bind_some' hp
   obtain ⟨p2,q2,i2,h2,j2⟩:=W.ixo (E:=eBool) w0 (i:=3) rfl rfl tc g2
   refine bind_ex i2 ?_
   obtain ⟨l3,e3,hp⟩:=bind_some' hp
   refine sto_k eBool w0 (i:=3) (j:=0) (p:=p2) rfl rfl tc g2 i2 e3 rfl rfl (fun _ h=>by have h:_ = [_]:=h; subst h; exact rfl) fun H4 k4 w4 s4 c4=>?_
   dsimp only [List.set] at w4 s4 c4
   refine newS_k (eInt .i64) w4 (n:=1) (l:=([cU]:List Int)) rfl (CR.cons1 rfl CR.empty) rfl fun H5 w5 s5 c5=>?_
   refine bind_ex (w5.rowo (i:=0) rfl) ?_
   obtain ⟨l6,e6,hp⟩:=bind_some' hp
   refine app_k (eInt .i64) w5 (i:=5) rfl rfl (Az.step (s4.trans s5)) c5 (show 1 = List.length ([cU]:List Int) from rfl) rfl e6 fun a7 d7 H7 w7 s7 c7 x7=>?_
   dsimp only [List.set] at w7 s7 c7
   refine bind_ex (ldSl_of (w7.ld (i:=1) rfl rfl)) ?_
   refine bind_ex (ldI_of (w7.ld (i:=1) rfl rfl)) ?_
   refine bind_ex (ldSl_of (w7.ld (i:=2) rfl rfl)) ?_
   refine bind_ex (ldSl_of (w7.ld (i:=2) rfl rfl)) ?_
   obtain ⟨r8,e8,hp⟩:=bind_some' hp
   refine call_ex (bm.P rfl rfl rfl ⟨w7,(vI.step (s4.trans (s5.trans s7))),(vJ.step (s4.trans (s5.trans s7))),(vK.step (s4.trans (s5.trans s7)))⟩ e8) ?_
   rintro _ H9 ⟨rfl,w9,s9,_⟩
   refine bind_ex rfl ?_
   refine bind_ex rfl ?_
   refine bind_ex rfl ?_
   refine bind_ex rfl ?_
   refine bind_ex rfl ?_
   refine new_k w9 fun H10 w10 s10=>?_
   refine st_k w10 (i:=0) rfl rfl rfl fun H11 w11 s11=>?_
   dsimp only [List.set] at w11 s11
   refine st_k w11 (i:=0) rfl rfl rfl fun H12 w12 s12=>?_
   dsimp only [List.set] at w12 s12
   refine bind_ex (ldI_of (w12.ld (i:=0) rfl rfl)) ?_
   refine bind_ex (ldI_of (w12.ld (i:=0) rfl rfl)) ?_
   obtain ⟨w13,s13⟩:=w12.pick' [2,3,4,5,6] 7 rfl rfl rfl
   dsimp only [pk,pks,nth,List.drop] at w13 s13
   exact ih rfl rfl rfl rfl ((st_len e3).symm) rfl ⟨w13,(s0.trans (s4.trans (s5.trans (s7.trans (s9.trans (s10.trans (s11.trans (s12.trans s13)))))))),(vI.step (s4.trans (s5.trans (s7.trans (s9.trans (s10.trans (s11.trans (s12.trans s13)))))))),(vJ.step (s4.trans (s5.trans (s7.trans (s9.trans (s10.trans (s11.trans (s12.trans s13)))))))),(vK.step (s4.trans (s5.trans (s7.trans (s9.trans (s10.trans (s11.trans (s12.trans s13)))))))),(Ay.step (s4.trans (s5.trans (s7.trans (s9.trans (s10.trans (s11.trans (s12.trans s13)))))))),(c4.step (s5.trans (s7.trans (s9.trans (s10.trans (s11.trans (s12.trans s13))))))),(c7.step (s9.trans (s10.trans (s11.trans (s12.trans s13)))))⟩ hp
  ·replace hp:=bif_f hb hp
   exact ak.j6_P (@hC61) rfl rfl rfl rfl rfl rfl ⟨w0,s0,vI,vJ,vK,Ay,tc,Az⟩ hp
def ak.pl61 (F:Nat) :Nat→List (Int×Int×Int×Int×Int)→List (Int×Int)→List (Int×Int)→List (List Int)→List Bool→Int→Int→Option (List (List Int))
 | 0,_,_,_,_,_,_,_=>none
 | k + 1,kE,kF,kG,jV,kH,fc,eP=>(bif (decide (eP < fc)) then (ak.pl15725 F (ak.pl61 F k) F kE kF kG jV kH fc eP ([]:List Int) eP) else (some jV))
termination_by structural n=>n
theorem ak.l61_P {F:Nat} {H0:Hp} {Ri R0:List Rs}  :∀ k,ak.S61 H0 Ri R0  (ak.l61 F (bm.tw F)  k) (ak.pl61 F  k):=by
 intro k
 induction k with
 | zero=>
  intro sw sx sy sB sC ob fb oc od fB oe og sD sE sF sG sH kE vq fc eP kF kG jV sI sJ kH H AA AB AC AD AF h0 r hp
  exact nomatch (show (none:Option (List (List Int))) = some r from hp)
 | succ k ih=>
  intro sw sx sy sB sC ob fb oc od fB oe og sD sE sF sG sH kE vq fc eP kF kG jV sI sJ kH H AA AB AC AD AF h0 r hp
  obtain ⟨w0,s0,EY,EZ,E_,AG,Fa⟩:=h0
  subst AA
  subst AB
  subst AC
  subst AD
  subst AF
  unfold ak.pl61 at hp
  unfold ak.l61
  refine bif_ex (fun hb=>?_) (fun hb=>?_)
  ·replace hp:=bif_t hb hp
   obtain ⟨w1,s1⟩:=w0.nilS (eInt .i64).z (by decide)
   obtain ⟨w2,s2⟩:=w1.pick' [1,2,3,4,0] 5 rfl rfl rfl
   dsimp only [pk,pks,nth,List.drop] at w2 s2
   exact ak.l15725_P (@ih) F rfl rfl rfl rfl rfl rfl ⟨w2,(s0.trans (s1.trans s2)),(EY.step (s1.trans s2)),(EZ.step (s1.trans s2)),(E_.step (s1.trans s2)),(AG.step (s1.trans s2)),(Fa.step (s1.trans s2)),((CR.empty:CR (eInt .i64) _ _ [] []).step s2)⟩ hp
  ·replace hp:=bif_f hb hp
   obtain ⟨w3,s3⟩:=w0.pick' [2] 4 rfl rfl rfl
   dsimp only [pk,pks,nth,List.drop] at w3 s3
   obtain rfl:=Option.some.inj hp
   exact ⟨_,_,rfl,_,_,_,_,rfl,rfl,w3,(s0.trans s3),(AG.step s3)⟩
def ak.p (F:Nat) (ac:List (Int×Int×Int×Int×Int)) (dh:List (Int×Int)) (dr:List (Int×Int)):Option (List (List Int)):=(mkn (IntKind.i64.wrap (4 * (ac.length:Int))) false).bind fun l3=>ak.pl61 F F ac dh dr ([]:List (List Int)) l3 (l3.length:Int) 0
theorem ak.P {F:Nat} {av iH iD:ON} {aj gk gj:Nat} {aw iI iE:Cap} {ac:List (Int×Int×Int×Int×Int)} {ab:Int} {dh dr:List (Int×Int)} {H:Hp} {R0:List Rs} (ba:aj = ac.length) (kC:gk = dh.length) (kz:gj = dr.length) (h0:Inn H R0 fun R=>ROs (ePair (eInt .i64) (ePair (eInt .i64) (ePair (eInt .i64) (ePair (eInt .i64) (eInt .i64))))) H R ⟨av,aj,aw⟩ ac∧ROs (ePair (eInt .i64) (eInt .i64)) H R ⟨iH,gk,iI⟩ dh∧ROs (ePair (eInt .i64) (eInt .i64)) H R ⟨iD,gj,iE⟩ dr) {r:List (List Int)} (hp:ak.p F ac dh dr = some r):∃ v H',ak.tw F ⟨av,aj,aw⟩ ab ⟨iH,gk,iI⟩ ⟨iD,gj,iE⟩ H = some (v,H')∧ak.Q H R0 R0  r v H':=by
 obtain ⟨w0,aH,kD,kA⟩:=h0
 subst ba
 subst kC
 subst kz
 unfold ak.p at hp
 unfold ak.tw ak.twX
 have s0:=w0.rf
 refine new_k w0 fun H1 w1 s1=>?_
 refine new_k w1 fun H2 w2 s2=>?_
 refine bind_ex (ldSl_of (w2.ld (i:=1) rfl rfl)) ?_
 obtain ⟨l3,e3,hp⟩:=bind_some' hp
 refine mk_k eBool false w2 rfl rfl rfl e3 fun H4 k4 w4 s4 c4=>?_
 obtain ⟨w5,s5⟩:=w4.nilS (eSl (eInt .i64)).z (by decide)
 obtain ⟨w6,s6⟩:=w5.pick' [3,2,0,1] 4 rfl rfl rfl
 dsimp only [pk,pks,nth,List.drop] at w6 s6
 exact ak.l61_P F rfl rfl rfl rfl rfl ⟨w6,(s0.trans (s1.trans (s2.trans (s4.trans (s5.trans s6))))),(aH.step (s1.trans (s2.trans (s4.trans (s5.trans s6))))),(kD.step (s1.trans (s2.trans (s4.trans (s5.trans s6))))),(kA.step (s1.trans (s2.trans (s4.trans (s5.trans s6))))),((CR.empty:CR (eSl (eInt .i64)) _ _ [] []).step s6),(c4.step (s5.trans s6))⟩ hp
def bL.Q (H0:Hp) (Ri R0:List Rs)  (r:Int) (v:AV) (H':Hp):Prop:=v = (.int .i64 r)∧Out H0 Ri H' (R0) fun R=>True
def bL.p (F:Nat) (ac:List (List Int)):Option (Int):=some (ac.length:Int)
theorem bL.P {F:Nat} {av:ON} {aj:Nat} {aw:Cap} {ac:List (List Int)} {H:Hp} {R0:List Rs} (ba:aj = ac.length) (h0:Inn H R0 fun R=>ROs (eSl (eInt .i64)) H R ⟨av,aj,aw⟩ ac) {r:Int} (hp:bL.p F ac = some r):∃ v H',bL.tw F ⟨av,aj,aw⟩ H = some (v,H')∧bL.Q H R0 R0  r v H':=by
 obtain ⟨w0,aH⟩:=h0
 subst ba
 unfold bL.p at hp
 unfold bL.tw bL.twX
 have s0:=w0.rf
 obtain rfl:=Option.some.inj hp
 exact ⟨_,_,rfl,rfl,w0,s0,trivial⟩
def aE.Q (H0:Hp) (Ri R0:List Rs)  (r:List Int) (v:AV) (H':Hp):Prop:=∃ o0a:ON,∃ o0n:Nat,∃ o0c:Cap,∃ o0k:List AV,v = (.sl ⟨o0a,o0n,o0c⟩)∧o0n = (r).length∧Out H0 Ri H' (Rs.own ⟨o0a,o0n,o0c⟩ (eInt .i64).z o0k :: R0) fun R=>CR (eInt .i64) H' R o0k (r)
def aE.S29 (H0:Hp) (Ri R0:List Rs)  (C:Sl→Int→Int→Hp→OA) (pC:List Int→Int→Int→Option (List Int)):Prop:=∀ {td:ON} {oD:Nat} {te:Cap} {jZ:List Int} {tf:List AV} {fd ei:Int},∀ {H:Hp},oD = jZ.length→(Out H0 Ri H (Rs.own ⟨td,oD,te⟩ (eInt .i64).z tf :: R0) fun R=>CR (eInt .i64) H R tf jZ)→∀ {r:List Int},pC jZ fd ei = some r→∃ v H',C ⟨td,oD,te⟩ fd ei H = some (v,H')∧aE.Q H0 Ri R0  r v H'
def aE.pl29 (F:Nat) :Nat→List Int→Int→Int→Option (List Int)
 | 0,_,_,_=>none
 | k + 1,jZ,fd,ei=>(bif (decide (ei < fd)) then ((apn jZ ([ei]:List Int)).bind fun l2=>aE.pl29 F k l2 fd (IntKind.i64.wrap (ei + 1))) else (some jZ))
termination_by structural n=>n
theorem aE.l29_P {F:Nat} {H0:Hp} {Ri R0:List Rs}  :∀ k,aE.S29 H0 Ri R0  (aE.l29 F   k) (aE.pl29 F  k):=by
 intro k
 induction k with
 | zero=>
  intro td oD te jZ tf fd ei H AH h0 r hp
  exact nomatch (show (none:Option (List Int)) = some r from hp)
 | succ k ih=>
  intro td oD te jZ tf fd ei H AH h0 r hp
  obtain ⟨w0,s0,AI⟩:=h0
  subst AH
  unfold aE.pl29 at hp
  unfold aE.l29
  refine bif_ex (fun hb=>?_) (fun hb=>?_)
  ·replace hp:=bif_t hb hp
   refine newS_k (eInt .i64) w0 (n:=1) (l:=([ei]:List Int)) rfl (CR.cons1 rfl CR.empty) rfl fun H1 w1 s1 c1=>?_
   refine bind_ex (w1.rowo (i:=0) rfl) ?_
   obtain ⟨l2,e2,hp⟩:=bind_some' hp
   refine app_k (eInt .i64) w1 (i:=1) rfl rfl (AI.step s1) c1 (show 1 = List.length ([ei]:List Int) from rfl) rfl e2 fun a3 d3 H3 w3 s3 c3 x3=>?_
   dsimp only [List.set] at w3 s3 c3
   obtain ⟨w4,s4⟩:=w3.pick' [1] 2 rfl rfl rfl
   dsimp only [pk,pks,nth,List.drop] at w4 s4
   exact ih rfl ⟨w4,(s0.trans (s1.trans (s3.trans s4))),(c3.step s4)⟩ hp
  ·replace hp:=bif_f hb hp
   obtain rfl:=Option.some.inj hp
   exact ⟨_,_,rfl,_,_,_,_,rfl,rfl,w0,s0,AI⟩
def aE.p (F:Nat) (aa:Int):Option (List Int):=aE.pl29 F F ([]:List Int) aa 0
theorem aE.P {F:Nat} {aa:Int} {H:Hp} {R0:List Rs}  (h0:Inn H R0 fun R=>True) {r:List Int} (hp:aE.p F aa = some r):∃ v H',aE.tw F aa H = some (v,H')∧aE.Q H R0 R0  r v H':=by
 obtain ⟨w0,_⟩:=h0
 unfold aE.p at hp
 unfold aE.tw aE.twX
 have s0:=w0.rf
 obtain ⟨w1,s1⟩:=w0.nilS (eInt .i64).z (by decide)
 exact aE.l29_P F rfl ⟨w1,(s0.trans s1),(CR.empty:CR (eInt .i64) _ _ [] [])⟩ hp
def ay.Q (H0:Hp) (Ri R0:List Rs) (av:ON) (aj:Nat) (aw:Cap) (oE:Bool) (oF oG:List AV) (r:List Int) (v:AV) (H':Hp):Prop:=∃ AJ:List AV,v = (.tup [])∧aj = (r).length∧Out H0 Ri H' (Rs.ow oE ⟨av,aj,aw⟩ (eInt .i64).z oF AJ oG :: R0) fun R=>CR (eInt .i64) H' R AJ (r)
def ay.S7 (H0:Hp) (Ri R0:List Rs) (hC:ON) (gz:Nat) (hG:Cap) (j_:Bool) (ka kb:List AV) (C:Sl→Int→Int→Sl→Int→Int→Hp→OA) (pC:List Int→Int→Int→Int→Int→Option (List Int)):Prop:=∀ {dK:List Int} {tg:List AV} {dE dQ eE dG:Int},∀ {H:Hp},gz = dK.length→(Out H0 Ri H (Rs.ow j_ ⟨hC,gz,hG⟩ (eInt .i64).z ka tg kb :: R0) fun R=>CR (eInt .i64) H R tg dK)→∀ {r:List Int},pC dK dE dQ eE dG = some r→∃ v H',C ⟨hC,gz,hG⟩ dE dQ ⟨hC,gz,hG⟩ eE dG H = some (v,H')∧ay.Q H0 Ri R0 hC gz hG j_ ka kb r v H'
def ay.pj2 (F:Nat) (th:List Int→Int→Int→Int→Int→Option (List Int)) (oH:List Int) (lL:Int) (lM:Int) (lN:Int) (lO:Int):Option (List Int):=th oH lL lM lN (IntKind.i64.wrap (lO + 1))
theorem ay.j2_P {F:Nat} {H0:Hp} {Ri R0:List Rs} {hC:ON} {gz:Nat} {hG:Cap} {j_:Bool} {ka kb:List AV} {C7_:Sl→Int→Int→Sl→Int→Int→Hp→OA} {th:List Int→Int→Int→Int→Int→Option (List Int)} (hC7:ay.S7 H0 Ri R0 hC gz hG j_ ka kb C7_ th) {oH:List Int} {AK:List AV} {lL lM lN lO:Int} {H:Hp} (Fb:gz = oH.length) (h0:Out H0 Ri H (Rs.ow j_ ⟨hC,gz,hG⟩ (eInt .i64).z ka AK kb :: R0) fun R=>CR (eInt .i64) H R AK oH) {r:List Int} (hp:ay.pj2 F th oH lL lM lN lO = some r):∃ v H',ay.j2 F  C7_ ⟨hC,gz,hG⟩ lL lM ⟨hC,gz,hG⟩ lN lO H = some (v,H')∧ay.Q H0 Ri R0 hC gz hG j_ ka kb r v H':=by
 obtain ⟨w0,s0,Fc⟩:=h0
 subst Fb
 unfold ay.pj2 at hp
 unfold ay.j2
 exact hC7 rfl ⟨w0,s0,Fc⟩ hp
def ay.pl7 (F:Nat) :Nat→List Int→Int→Int→Int→Int→Option (List Int)
 | 0,_,_,_,_,_=>none
 | k + 1,dK,dE,dQ,eE,dG=>(bif (decide (dG < eE)) then ((ix dK dG).bind fun n1=>(bif ((gt dK n1) == dE) then ((ix dK dG).bind fun n2=>(some (dK.set n2 dQ)).bind fun l3=>ay.pj2 F (ay.pl7 F k) l3 dE dQ eE dG) else (ay.pj2 F (ay.pl7 F k) dK dE dQ eE dG))) else (some dK))
termination_by structural n=>n
theorem ay.l7_P {F:Nat} {H0:Hp} {Ri R0:List Rs} {hC:ON} {gz:Nat} {hG:Cap} {j_:Bool} {ka kb:List AV} :∀ k,ay.S7 H0 Ri R0 hC gz hG j_ ka kb (ay.l7 F   k) (ay.pl7 F  k):=by
 intro k
 induction k with
 | zero=>
  intro dK tg dE dQ eE dG H oI h0 r hp
  exact nomatch (show (none:Option (List Int)) = some r from hp)
 | succ k ih=>
  intro dK tg dE dQ eE dG H oI h0 r hp
  obtain ⟨w0,s0,kc⟩:=h0
  subst oI
  unfold ay.pl7 at hp
  unfold ay.l7
  refine bif_ex (fun hb=>?_) (fun hb=>?_)
  ·replace hp:=bif_t hb hp
   obtain ⟨n1,g1,hp⟩:=bind_some' hp
   obtain ⟨p1,q1,i1,h1,j1⟩:=W.ixo (E:=(eInt .i64)) w0 (i:=0) rfl rfl kc g1
   refine bind_ex i1 ?_
   have h1:_ = [_]:=h1
   subst h1
   refine bind_ex (ldI_of (j1 0 _ rfl)) ?_
   refine bif_ex (fun hb=>?_) (fun hb=>?_)
   ·replace hp:=bif_t hb hp
    obtain ⟨n2,g2,hp⟩:=bind_some' hp
    obtain ⟨p2,q2,i2,h2,j2⟩:=W.ixo (E:=(eInt .i64)) w0 (i:=0) rfl rfl kc g2
    refine bind_ex i2 ?_
    obtain ⟨l3,e3,hp⟩:=bind_some' hp
    refine sto_k (eInt .i64) w0 (i:=0) (j:=0) (p:=p2) rfl rfl kc g2 i2 e3 rfl rfl (fun _ h=>by have h:_ = [_]:=h; subst h; exact rfl) fun H4 k4 w4 s4 c4=>?_
    dsimp only [List.set] at w4 s4 c4
    exact ay.j2_P (@ih) ((st_len e3).symm) ⟨w4,(s0.trans s4),c4⟩ hp
   ·replace hp:=bif_f hb hp
    exact ay.j2_P (@ih) rfl ⟨w0,s0,kc⟩ hp
  ·replace hp:=bif_f hb hp
   obtain rfl:=Option.some.inj hp
   exact ⟨_,_,rfl,_,rfl,rfl,w0,s0,kc⟩
def ay.p (F:Nat) (ac:List Int) (ad:Int) (bQ:Int):Option (List Int):=(ix ac bQ).bind fun n1=>(ix ac ad).bind fun n2=>ay.pl7 F F ac (gt ac n1) (gt ac n2) (ac.length:Int) 0
theorem ay.P {F:Nat} {av:ON} {aj:Nat} {aw:Cap} {ac:List Int} {oE:Bool} {oF oG vL:List AV} {ad bQ:Int} {H:Hp} {R0:List Rs} (ba:aj = ac.length) (h0:Inn H (Rs.ow oE ⟨av,aj,aw⟩ (eInt .i64).z oF vL oG :: R0) fun R=>CR (eInt .i64) H R vL ac) {r:List Int} (hp:ay.p F ac ad bQ = some r):∃ v H',ay.tw F ⟨av,aj,aw⟩ ad bQ H = some (v,H')∧ay.Q H (Rs.ow oE ⟨av,aj,aw⟩ (eInt .i64).z oF vL oG :: R0) R0 av aj aw oE oF oG r v H':=by
 obtain ⟨w0,aH⟩:=h0
 subst ba
 unfold ay.p at hp
 unfold ay.tw ay.twX
 have s0:=w0.rf
 obtain ⟨n1,g1,hp⟩:=bind_some' hp
 obtain ⟨p1,q1,i1,h1,j1⟩:=W.ixo (E:=(eInt .i64)) w0 (i:=0) rfl rfl aH g1
 refine bind_ex i1 ?_
 have h1:_ = [_]:=h1
 subst h1
 refine bind_ex (ldI_of (j1 0 _ rfl)) ?_
 obtain ⟨n2,g2,hp⟩:=bind_some' hp
 obtain ⟨p2,q2,i2,h2,j2⟩:=W.ixo (E:=(eInt .i64)) w0 (i:=0) rfl rfl aH g2
 refine bind_ex i2 ?_
 have h2:_ = [_]:=h2
 subst h2
 refine bind_ex (ldI_of (j2 0 _ rfl)) ?_
 exact ay.l7_P F rfl ⟨w0,s0,aH⟩ hp
def cg.Q (H0:Hp) (Ri R0:List Rs)  (r:List Int) (v:AV) (H':Hp):Prop:=∃ o0a:ON,∃ o0n:Nat,∃ o0c:Cap,∃ o0k:List AV,v = (.sl ⟨o0a,o0n,o0c⟩)∧o0n = (r).length∧Out H0 Ri H' (Rs.own ⟨o0a,o0n,o0c⟩ (eInt .i64).z o0k :: R0) fun R=>CR (eInt .i64) H' R o0k (r)
def cg.p (F:Nat) (ac:List Int):Option (List Int):=(if ac.length ≤ 4294967296∧wfs ac = true then some (nums ac) else none)
theorem cg.P {F:Nat} {av:ON} {aj:Nat} {aw:Cap} {ac:List Int} {H:Hp} {R0:List Rs} (ba:aj = ac.length) (h0:Inn H R0 fun R=>ROs (eInt .i64) H R ⟨av,aj,aw⟩ ac) {r:List Int} (hp:cg.p F ac = some r):∃ v H',cg.tw F ⟨av,aj,aw⟩ H = some (v,H')∧cg.Q H R0 R0  r v H':=by
 obtain ⟨w0,f0⟩:=h0
 subst ba
 unfold cg.p at hp
 unfold cg.tw numTw
 have s0:=w0.rf
 obtain ⟨hc,hp⟩:=ifs_p hp
 have hp:=Option.some.inj hp
 obtain ⟨xs,hx,cx⟩:=f0.row rfl
 refine bind_ex hx ?_
 obtain rfl:=cx.ints_eq
 refine bind_ex (asInts_map _) ?_
 refine ifs_ex hc ?_
 by_cases hz:ac.length = 0
 ·rw [if_pos hz]
  obtain ⟨w1,s1⟩:=w0.nilS (eInt .i64).z (by decide)
  obtain rfl:r = []:=List.length_eq_zero_iff.1 (by rw [← hp,nums_len,hz])
  exact ⟨_,_,rfl,none,0,.ex 0,[],rfl,rfl,w1,s0.trans s1,CR.empty⟩
 ·rw [if_neg hz]
  obtain ⟨H2,e2,w2,s2⟩:=w0.newF ((nums ac).map (AV.int .i64)) ac.length (eInt .i64).z (by rw [List.length_map,nums_len]; exact (Nat.mul_one _).symm) (by decide)
  subst e2
  subst hp
  exact ⟨_,_,rfl,some (_,0),_,.full 1,_,rfl,(nums_len _).symm,w2,s0.trans s2,CR.ints _ _ _ _⟩
def aM.Q (H0:Hp) (Ri R0:List Rs)  (r:List Int) (v:AV) (H':Hp):Prop:=∃ o0a:ON,∃ o0n:Nat,∃ o0c:Cap,∃ o0k:List AV,v = (.sl ⟨o0a,o0n,o0c⟩)∧o0n = (r).length∧Out H0 Ri H' (Rs.own ⟨o0a,o0n,o0c⟩ (eInt .i64).z o0k :: R0) fun R=>CR (eInt .i64) H' R o0k (r)
def aM.S29 (H0:Hp) (Ri R0:List Rs)  (C:Nat→Nat→Sl→Sl→Int→Int→Hp→OA) (pC:List (Int×Int)→List (Int×Int)→List Int→Int→Int→Option (List Int)):Prop:=∀ {oJ ti tj:ON} {ma oK fe oL:Nat} {oM tk tl:Cap} {jq jr:List (Int×Int)} {kd:List Int} {tn:List AV} {ff ej:Int},∀ {H:Hp},ma = jq.length→oK = jr.length→oL = kd.length→(Out H0 Ri H (Rs.blk fe [.sl ⟨oJ,ma,oM⟩,.sl ⟨ti,oK,tk⟩] :: Rs.own ⟨tj,oL,tl⟩ (eInt .i64).z tn :: R0) fun R=>ROs (ePair (eInt .i64) (eInt .i64)) H R ⟨oJ,ma,oM⟩ jq∧ROs (ePair (eInt .i64) (eInt .i64)) H R ⟨ti,oK,tk⟩ jr∧CR (eInt .i64) H R tn kd)→∀ {r:List Int},pC jq jr kd ff ej = some r→∃ v H',C fe 0 ⟨tj,oL,tl⟩ ⟨oJ,ma,oM⟩ ff ej H = some (v,H')∧aM.Q H0 Ri R0  r v H'
def aM.pl29 (F:Nat) :Nat→List (Int×Int)→List (Int×Int)→List Int→Int→Int→Option (List Int)
 | 0,_,_,_,_,_=>none
 | k + 1,jq,jr,kd,ff,ej=>(bif (decide (ej < ff)) then ((ix jq ej).bind fun n1=>(ix jr ej).bind fun n5=>(ay.p F kd ((gt jq n1).1) ((gt jr n5).1)).bind fun r7=>aM.pl29 F k jq jr r7 ff (IntKind.i64.wrap (ej + 1))) else ((cg.p F kd).bind fun r12=>some r12))
termination_by structural n=>n
theorem aM.l29_P {F:Nat} {H0:Hp} {Ri R0:List Rs}  :∀ k,aM.S29 H0 Ri R0  (aM.l29 F (aG.tw F) (aE.tw F) (ay.tw F) (cg.tw F)  k) (aM.pl29 F  k):=by
 intro k
 induction k with
 | zero=>
  intro oJ ti tj ma oK fe oL oM tk tl jq jr kd tn ff ej H AL AM AN h0 r hp
  exact nomatch (show (none:Option (List Int)) = some r from hp)
 | succ k ih=>
  intro oJ ti tj ma oK fe oL oM tk tl jq jr kd tn ff ej H AL AM AN h0 r hp
  obtain ⟨w0,s0,AO,AP,AQ⟩:=h0
  subst AL
  subst AM
  subst AN
  unfold aM.pl29 at hp
  unfold aM.l29
  refine bif_ex (fun hb=>?_) (fun hb=>?_)
  ·replace hp:=bif_t hb hp
   obtain ⟨n1,g1,hp⟩:=bind_some' hp
   obtain ⟨p1,q1,i1,h1,j1⟩:=ROs.ixr AO rfl g1
   refine bind_ex i1 ?_
   obtain ⟨_,_,rfl,rfl,rfl⟩:=h1
   refine bind_ex (ldI_of (j1 0 _ rfl)) ?_
   refine bind_ex (ldI_of (j1 1 _ rfl)) ?_
   refine new_k w0 fun H2 w2 s2=>?_
   refine st_k w2 (i:=0) rfl rfl rfl fun H3 w3 s3=>?_
   dsimp only [List.set] at w3 s3
   refine st_k w3 (i:=0) rfl rfl rfl fun H4 w4 s4=>?_
   dsimp only [List.set] at w4 s4
   refine bind_ex (ldI_of (w4.ld (i:=0) rfl rfl)) ?_
   refine bind_ex (ldSl_of (w4.ld (i:=1) rfl rfl)) ?_
   obtain ⟨n5,g5,hp⟩:=bind_some' hp
   obtain ⟨p5,q5,i5,h5,j5⟩:=ROs.ixr (AP.step (s2.trans (s3.trans s4))) rfl g5
   refine bind_ex i5 ?_
   obtain ⟨_,_,rfl,rfl,rfl⟩:=h5
   refine bind_ex (ldI_of (j5 0 _ rfl)) ?_
   obtain ⟨w6,s6⟩:=w4.pick' [2,0,1] 3 rfl rfl rfl
   dsimp only [pk,pks,nth,List.drop] at w6 s6
   obtain ⟨r7,e7,hp⟩:=bind_some' hp
   refine call_ex (ay.P rfl ⟨w6,(AQ.step (s2.trans (s3.trans (s4.trans s6))))⟩ e7) ?_
   rintro _ H8 ⟨Fl,rfl,hl8_0,w8,s8,f8_0⟩
   obtain ⟨w9,s9⟩:=w8.pick' [2,0] 3 rfl rfl rfl
   dsimp only [pk,pks,nth,List.drop] at w9 s9
   exact ih rfl rfl hl8_0 ⟨w9,(s0.trans (s2.trans (s3.trans (s4.trans (s6.trans (s8.trans s9)))))),(AO.step (s2.trans (s3.trans (s4.trans (s6.trans (s8.trans s9)))))),(AP.step (s2.trans (s3.trans (s4.trans (s6.trans (s8.trans s9)))))),(f8_0.step s9)⟩ hp
  ·replace hp:=bif_f hb hp
   obtain ⟨w10,s10⟩:=w0.pick' [1,0] 2 rfl rfl rfl
   dsimp only [pk,pks,nth,List.drop] at w10 s10
   have f11:=W.borrow1 (eInt .i64) w10 (AQ.step s10)
   obtain ⟨w11,s11⟩:=w10.right1
   obtain ⟨r12,e12,hp⟩:=bind_some' hp
   refine call_ex (cg.P rfl ⟨w11,f11⟩ e12) ?_
   rintro _ H13 ⟨o0a_13,o0n_13,o0c_13,o0k_13,rfl,rfl,w13,s13,f13_0⟩
   obtain ⟨w14,s14⟩:=W.frame1 w10 w13 s13
   refine bind_ex rfl ?_
   obtain ⟨w15,s15⟩:=w14.pick' [1] 3 rfl rfl rfl
   dsimp only [pk,pks,nth,List.drop] at w15 s15
   obtain rfl:=Option.some.inj hp
   exact ⟨_,_,rfl,_,_,_,_,rfl,rfl,w15,(s0.trans (s10.trans (s14.trans s15))),((CR.flat (eInt_flat .i64) f13_0).step s15)⟩
def aM.p (F:Nat) (ac:List (Int×Int×Int×Int×Int)) (dh:List (Int×Int)) (dr:List (Int×Int)):Option (List Int):=(aG.p F ac).bind fun r3=>(aE.p F r3).bind fun r5=>aM.pl29 F F dh dr r5 (dh.length:Int) 0
theorem aM.P {F:Nat} {av iH iD:ON} {aj gk gj:Nat} {aw iI iE:Cap} {ac:List (Int×Int×Int×Int×Int)} {ab:Int} {dh dr:List (Int×Int)} {H:Hp} {R0:List Rs} (ba:aj = ac.length) (kC:gk = dh.length) (kz:gj = dr.length) (h0:Inn H R0 fun R=>ROs (ePair (eInt .i64) (ePair (eInt .i64) (ePair (eInt .i64) (ePair (eInt .i64) (eInt .i64))))) H R ⟨av,aj,aw⟩ ac∧ROs (ePair (eInt .i64) (eInt .i64)) H R ⟨iH,gk,iI⟩ dh∧ROs (ePair (eInt .i64) (eInt .i64)) H R ⟨iD,gj,iE⟩ dr) {r:List Int} (hp:aM.p F ac dh dr = some r):∃ v H',aM.tw F ⟨av,aj,aw⟩ ab ⟨iH,gk,iI⟩ ⟨iD,gj,iE⟩ H = some (v,H')∧aM.Q H R0 R0  r v H':=by
 obtain ⟨w0,aH,kD,kA⟩:=h0
 subst ba
 subst kC
 subst kz
 unfold aM.p at hp
 unfold aM.tw aM.twX
 have s0:=w0.rf
 refine new_k w0 fun H1 w1 s1=>?_
 refine new_k w1 fun H2 w2 s2=>?_
 refine bind_ex (ldSl_of (w2.ld (i:=1) rfl rfl)) ?_
 obtain ⟨r3,e3,hp⟩:=bind_some' hp
 refine call_ex (aG.P rfl ⟨w2,(aH.step (s1.trans s2))⟩ e3) ?_
 rintro _ H4 ⟨rfl,w4,s4,_⟩
 refine bind_ex rfl ?_
 obtain ⟨r5,e5,hp⟩:=bind_some' hp
 refine call_ex (aE.P ⟨w4,trivial⟩ e5) ?_
 rintro _ H6 ⟨o0a_6,o0n_6,o0c_6,o0k_6,rfl,rfl,w6,s6,f6_0⟩
 refine bind_ex rfl ?_
 refine bind_ex (ldSl_of (w6.ld (i:=1) rfl rfl)) ?_
 obtain ⟨w7,s7⟩:=w6.pick' [1,0] 3 rfl rfl rfl
 dsimp only [pk,pks,nth,List.drop] at w7 s7
 exact aM.l29_P F rfl rfl rfl ⟨w7,(s0.trans (s1.trans (s2.trans (s4.trans (s6.trans s7))))),(kD.step (s1.trans (s2.trans (s4.trans (s6.trans s7))))),(kA.step (s1.trans (s2.trans (s4.trans (s6.trans s7))))),(f6_0.step s7)⟩ hp
def aF.Q (H0:Hp) (Ri R0:List Rs)  (r:Int) (v:AV) (H':Hp):Prop:=v = (.int .i64 r)∧Out H0 Ri H' (R0) fun R=>True
def aF.S61 (H0:Hp) (Ri R0:List Rs)  (C:Sl→Int→Int→Hp→OA) (pC:List Int→Int→Int→Option (Int)):Prop:=∀ {tp:ON} {oN:Nat} {tq:Cap} {dK:List Int} {cw eQ:Int},∀ {H:Hp},oN = dK.length→(Out H0 Ri H R0 fun R=>ROs (eInt .i64) H R ⟨tp,oN,tq⟩ dK)→∀ {r:Int},pC dK cw eQ = some r→∃ v H',C ⟨tp,oN,tq⟩ cw eQ H = some (v,H')∧aF.Q H0 Ri R0  r v H'
def aF.pl61 (F:Nat) :Nat→List Int→Int→Int→Option (Int)
 | 0,_,_,_=>none
 | k + 1,dK,cw,eQ=>(bif (decide (eQ < (dK.length:Int))) then ((ix dK eQ).bind fun n1=>aF.pl61 F k dK (if (gt dK n1) > cw then (gt dK n1) else cw) (IntKind.i64.wrap (eQ + 1))) else (some cw))
termination_by structural n=>n
theorem aF.l61_P {F:Nat} {H0:Hp} {Ri R0:List Rs}  :∀ k,aF.S61 H0 Ri R0  (aF.l61 F   k) (aF.pl61 F  k):=by
 intro k
 induction k with
 | zero=>
  intro tp oN tq dK cw eQ H oI h0 r hp
  exact nomatch (show (none:Option (Int)) = some r from hp)
 | succ k ih=>
  intro tp oN tq dK cw eQ H oI h0 r hp
  obtain ⟨w0,s0,kc⟩:=h0
  subst oI
  unfold aF.pl61 at hp
  unfold aF.l61
  refine bif_ex (fun hb=>?_) (fun hb=>?_)
  ·replace hp:=bif_t hb hp
   obtain ⟨n1,g1,hp⟩:=bind_some' hp
   obtain ⟨p1,q1,i1,h1,j1⟩:=ROs.ixr kc rfl g1
   refine bind_ex i1 ?_
   have h1:_ = [_]:=h1
   subst h1
   refine bind_ex (ldI_of (j1 0 _ rfl)) ?_
   exact ih rfl ⟨w0,s0,kc⟩ hp
  ·replace hp:=bif_f hb hp
   obtain rfl:=Option.some.inj hp
   exact ⟨_,_,rfl,rfl,w0,s0,trivial⟩
def aF.pj1 (F:Nat)  (kI:List Int):Option (Int):=(ix kI 0).bind fun n1=>aF.pl61 F F kI (gt kI n1) 1
theorem aF.j1_P {F:Nat} {H0:Hp} {Ri R0:List Rs}   {AR:ON} {vM:Nat} {AS:Cap} {kI:List Int} {H:Hp} (Fd:vM = kI.length) (h0:Out H0 Ri H R0 fun R=>ROs (eInt .i64) H R ⟨AR,vM,AS⟩ kI) {r:Int} (hp:aF.pj1 F  kI = some r):∃ v H',aF.j1 F   ⟨AR,vM,AS⟩ H = some (v,H')∧aF.Q H0 Ri R0  r v H':=by
 obtain ⟨w0,s0,AT⟩:=h0
 subst Fd
 unfold aF.pj1 at hp
 unfold aF.j1
 obtain ⟨n1,g1,hp⟩:=bind_some' hp
 obtain ⟨p1,q1,i1,h1,j1⟩:=ROs.ixr AT rfl g1
 refine bind_ex i1 ?_
 have h1:_ = [_]:=h1
 subst h1
 refine bind_ex (ldI_of (j1 0 _ rfl)) ?_
 exact aF.l61_P F rfl ⟨w0,s0,AT⟩ hp
def aF.p (F:Nat) (ac:List Int):Option (Int):=(bif (decide ((ac.length:Int) < 1)) then (none) else (aF.pj1 F ac))
theorem aF.P {F:Nat} {av:ON} {aj:Nat} {aw:Cap} {ac:List Int} {H:Hp} {R0:List Rs} (ba:aj = ac.length) (h0:Inn H R0 fun R=>ROs (eInt .i64) H R ⟨av,aj,aw⟩ ac) {r:Int} (hp:aF.p F ac = some r):∃ v H',aF.tw F ⟨av,aj,aw⟩ H = some (v,H')∧aF.Q H R0 R0  r v H':=by
 obtain ⟨w0,aH⟩:=h0
 subst ba
 unfold aF.p at hp
 unfold aF.tw aF.twX
 have s0:=w0.rf
 refine bif_ex (fun hb=>?_) (fun hb=>?_)
 ·replace hp:=bif_t hb hp
  cases hp
 ·replace hp:=bif_f hb hp
  exact aF.j1_P rfl ⟨w0,s0,aH⟩ hp
def bg.Q (H0:Hp) (Ri R0:List Rs)  (r:Int) (v:AV) (H':Hp):Prop:=v = (.int .i64 r)∧Out H0 Ri H' (R0) fun R=>True
def bg.p (F:Nat) (ac:List Int):Option (Int):=(bif ((ac.length:Int) == 0) then (some 0) else ((aF.p F ac).bind fun r1=>some (IntKind.i64.wrap (r1 + 1))))
theorem bg.P {F:Nat} {av:ON} {aj:Nat} {aw:Cap} {ac:List Int} {H:Hp} {R0:List Rs} (ba:aj = ac.length) (h0:Inn H R0 fun R=>ROs (eInt .i64) H R ⟨av,aj,aw⟩ ac) {r:Int} (hp:bg.p F ac = some r):∃ v H',bg.tw F ⟨av,aj,aw⟩ H = some (v,H')∧bg.Q H R0 R0  r v H':=by
 obtain ⟨w0,aH⟩:=h0
 subst ba
 unfold bg.p at hp
 unfold bg.tw bg.twX
 have s0:=w0.rf
 refine bif_ex (fun hb=>?_) (fun hb=>?_)
 ·replace hp:=bif_t hb hp
  obtain rfl:=Option.some.inj hp
  exact ⟨_,_,rfl,rfl,w0,s0,trivial⟩
 ·replace hp:=bif_f hb hp
  obtain ⟨r1,e1,hp⟩:=bind_some' hp
  refine call_ex (aF.P rfl ⟨w0,aH⟩ e1) ?_
  rintro _ H2 ⟨rfl,w2,s2,_⟩
  refine bind_ex rfl ?_
  obtain rfl:=Option.some.inj hp
  exact ⟨_,_,rfl,rfl,w2,(s0.trans s2),trivial⟩
def bk.Q (H0:Hp) (Ri R0:List Rs)  (r:(List (Int×Int))×(List (Int×Int))×Bool) (v:AV) (H':Hp):Prop:=∃ o0a:ON,∃ o0n:Nat,∃ o0c:Cap,∃ o1a:ON,∃ o1n:Nat,∃ o1c:Cap,v = (.tup [(.agg [(.sl ⟨o0a,o0n,o0c⟩),(.sl ⟨o1a,o1n,o1c⟩)]),(.bool r.2.2)])∧o0n = (r.1).length∧o1n = (r.2.1).length∧Out H0 Ri H' (R0) fun R=>ROs (ePair (eInt .i64) (eInt .i64)) H' R ⟨o0a,o0n,o0c⟩ (r.1)∧ROs (ePair (eInt .i64) (eInt .i64)) H' R ⟨o1a,o1n,o1c⟩ (r.2.1)
def bk.p (F:Nat) (ac:List (Int×Int×Int×Int×Int)) (ab:Int):Option ((List (Int×Int))×(List (Int×Int))×Bool):=(aG.p F ac).bind fun r3=>(bif (decide (r3 > 10)) then (some (([]:List (Int×Int)),([]:List (Int×Int)),false)) else ((aO.p F ab 0 8).bind fun r12=>(bif (!r12) then (some (([]:List (Int×Int)),([]:List (Int×Int)),false)) else ((bv.p F ac).bind fun r21=>(bif r21 then (some (([]:List (Int×Int)),([]:List (Int×Int)),false)) else ((au.p F ac).bind fun r30=>(bif (!r30.2.2) then (some (([]:List (Int×Int)),([]:List (Int×Int)),false)) else ((ak.p F ac r30.1 r30.2.1).bind fun r44=>(bL.p F r44).bind fun r48=>(aM.p F ac r30.1 r30.2.1).bind fun r52=>(bg.p F r52).bind fun r55=>(bif (r48 != (IntKind.i64.wrap (r3 + (IntKind.i64.wrap (2 * r55))))) then (some (([]:List (Int×Int)),([]:List (Int×Int)),false)) else (some (r30.1,r30.2.1,true)))))))))))
theorem bk.P {F:Nat} {av:ON} {aj:Nat} {aw:Cap} {ac:List (Int×Int×Int×Int×Int)} {ab:Int} {H:Hp} {R0:List Rs} (ba:aj = ac.length) (h0:Inn H R0 fun R=>ROs (ePair (eInt .i64) (ePair (eInt .i64) (ePair (eInt .i64) (ePair (eInt .i64) (eInt .i64))))) H R ⟨av,aj,aw⟩ ac) {r:(List (Int×Int))×(List (Int×Int))×Bool} (hp:bk.p F ac ab = some r):∃ v H',bk.tw F ⟨av,aj,aw⟩ ab H = some (v,H')∧bk.Q H R0 R0  r v H':=by
 obtain ⟨w0,aH⟩:=h0
 subst ba
 unfold bk.p at hp
 unfold bk.tw bk.twX
 have s0:=w0.rf
 refine new_k w0 fun H1 w1 s1=>?_
 refine new_k w1 fun H2 w2 s2=>?_
 refine bind_ex (ldSl_of (w2.ld (i:=1) rfl rfl)) ?_
 obtain ⟨r3,e3,hp⟩:=bind_some' hp
 refine call_ex (aG.P rfl ⟨w2,(aH.step (s1.trans s2))⟩ e3) ?_
 rintro _ H4 ⟨rfl,w4,s4,_⟩
 refine bind_ex rfl ?_
 refine bif_ex (fun hb=>?_) (fun hb=>?_)
 ·replace hp:=bif_t hb hp
  refine st_k w4 (i:=0) rfl rfl rfl fun H5 w5 s5=>?_
  dsimp only [List.set] at w5 s5
  refine st_k w5 (i:=0) rfl rfl rfl fun H6 w6 s6=>?_
  dsimp only [List.set] at w6 s6
  refine bind_ex (ldSl_of (w6.ld (i:=0) rfl rfl)) ?_
  refine bind_ex (ldSl_of (w6.ld (i:=0) rfl rfl)) ?_
  obtain ⟨w7,s7⟩:=w6.nilS (ePair (eInt .i64) (eInt .i64)).z (by decide)
  obtain ⟨w8,s8⟩:=w7.nilS (ePair (eInt .i64) (eInt .i64)).z (by decide)
  obtain ⟨w9,s9,f9⟩:=w8.frz (i:=1) (ePair (eInt .i64) (eInt .i64)) rfl ((CR.empty:CR (ePair (eInt .i64) (eInt .i64)) _ _ [] []).step s8)
  dsimp only [List.eraseIdx] at w9 s9 f9
  obtain ⟨w10,s10,f10⟩:=w9.frz (i:=0) (ePair (eInt .i64) (eInt .i64)) rfl ((CR.empty:CR (ePair (eInt .i64) (eInt .i64)) _ _ [] []).step s9)
  dsimp only [List.eraseIdx] at w10 s10 f10
  obtain ⟨w11,s11⟩:=w10.pick' [] 2 rfl rfl rfl
  dsimp only [pk,pks,nth,List.drop] at w11 s11
  obtain rfl:=Option.some.inj hp
  exact ⟨_,_,rfl,_,_,_,_,_,_,rfl,rfl,rfl,w11,(s0.trans (s1.trans (s2.trans (s4.trans (s5.trans (s6.trans (s7.trans (s8.trans (s9.trans (s10.trans s11)))))))))),(f9.step (s10.trans s11)),(f10.step s11)⟩
 ·replace hp:=bif_f hb hp
  refine bind_ex (ldI_of (w4.ld (i:=1) rfl rfl)) ?_
  obtain ⟨r12,e12,hp⟩:=bind_some' hp
  refine call_ex (aO.P ⟨w4,trivial⟩ e12) ?_
  rintro _ H13 ⟨rfl,w13,s13,_⟩
  refine bind_ex rfl ?_
  refine bif_ex (fun hb=>?_) (fun hb=>?_)
  ·replace hp:=bif_t hb hp
   refine st_k w13 (i:=0) rfl rfl rfl fun H14 w14 s14=>?_
   dsimp only [List.set] at w14 s14
   refine st_k w14 (i:=0) rfl rfl rfl fun H15 w15 s15=>?_
   dsimp only [List.set] at w15 s15
   refine bind_ex (ldSl_of (w15.ld (i:=0) rfl rfl)) ?_
   refine bind_ex (ldSl_of (w15.ld (i:=0) rfl rfl)) ?_
   obtain ⟨w16,s16⟩:=w15.nilS (ePair (eInt .i64) (eInt .i64)).z (by decide)
   obtain ⟨w17,s17⟩:=w16.nilS (ePair (eInt .i64) (eInt .i64)).z (by decide)
   obtain ⟨w18,s18,f18⟩:=w17.frz (i:=1) (ePair (eInt .i64) (eInt .i64)) rfl ((CR.empty:CR (ePair (eInt .i64) (eInt .i64)) _ _ [] []).step s17)
   dsimp only [List.eraseIdx] at w18 s18 f18
   obtain ⟨w19,s19,f19⟩:=w18.frz (i:=0) (ePair (eInt .i64) (eInt .i64)) rfl ((CR.empty:CR (ePair (eInt .i64) (eInt .i64)) _ _ [] []).step s18)
   dsimp only [List.eraseIdx] at w19 s19 f19
   obtain ⟨w20,s20⟩:=w19.pick' [] 2 rfl rfl rfl
   dsimp only [pk,pks,nth,List.drop] at w20 s20
   obtain rfl:=Option.some.inj hp
   exact ⟨_,_,rfl,_,_,_,_,_,_,rfl,rfl,rfl,w20,(s0.trans (s1.trans (s2.trans (s4.trans (s13.trans (s14.trans (s15.trans (s16.trans (s17.trans (s18.trans (s19.trans s20))))))))))),(f18.step (s19.trans s20)),(f19.step s20)⟩
  ·replace hp:=bif_f hb hp
   refine bind_ex (ldSl_of (w13.ld (i:=1) rfl rfl)) ?_
   obtain ⟨r21,e21,hp⟩:=bind_some' hp
   refine call_ex (bv.P rfl ⟨w13,(aH.step (s1.trans (s2.trans (s4.trans s13))))⟩ e21) ?_
   rintro _ H22 ⟨rfl,w22,s22,_⟩
   refine bind_ex rfl ?_
   refine bif_ex (fun hb=>?_) (fun hb=>?_)
   ·replace hp:=bif_t hb hp
    refine st_k w22 (i:=0) rfl rfl rfl fun H23 w23 s23=>?_
    dsimp only [List.set] at w23 s23
    refine st_k w23 (i:=0) rfl rfl rfl fun H24 w24 s24=>?_
    dsimp only [List.set] at w24 s24
    refine bind_ex (ldSl_of (w24.ld (i:=0) rfl rfl)) ?_
    refine bind_ex (ldSl_of (w24.ld (i:=0) rfl rfl)) ?_
    obtain ⟨w25,s25⟩:=w24.nilS (ePair (eInt .i64) (eInt .i64)).z (by decide)
    obtain ⟨w26,s26⟩:=w25.nilS (ePair (eInt .i64) (eInt .i64)).z (by decide)
    obtain ⟨w27,s27,f27⟩:=w26.frz (i:=1) (ePair (eInt .i64) (eInt .i64)) rfl ((CR.empty:CR (ePair (eInt .i64) (eInt .i64)) _ _ [] []).step s26)
    dsimp only [List.eraseIdx] at w27 s27 f27
    obtain ⟨w28,s28,f28⟩:=w27.frz (i:=0) (ePair (eInt .i64) (eInt .i64)) rfl ((CR.empty:CR (ePair (eInt .i64) (eInt .i64)) _ _ [] []).step s27)
    dsimp only [List.eraseIdx] at w28 s28 f28
    obtain ⟨w29,s29⟩:=w28.pick' [] 2 rfl rfl rfl
    dsimp only [pk,pks,nth,List.drop] at w29 s29
    obtain rfl:=Option.some.inj hp
    exact ⟨_,_,rfl,_,_,_,_,_,_,rfl,rfl,rfl,w29,(s0.trans (s1.trans (s2.trans (s4.trans (s13.trans (s22.trans (s23.trans (s24.trans (s25.trans (s26.trans (s27.trans (s28.trans s29)))))))))))),(f27.step (s28.trans s29)),(f28.step s29)⟩
   ·replace hp:=bif_f hb hp
    refine bind_ex (ldSl_of (w22.ld (i:=1) rfl rfl)) ?_
    refine bind_ex (ldI_of (w22.ld (i:=1) rfl rfl)) ?_
    obtain ⟨r30,e30,hp⟩:=bind_some' hp
    refine call_ex (au.P rfl ⟨w22,(aH.step (s1.trans (s2.trans (s4.trans (s13.trans s22)))))⟩ e30) ?_
    rintro _ H31 ⟨o0a_31,o0n_31,o0c_31,o0k_31,o1a_31,o1n_31,o1c_31,o1k_31,rfl,rfl,rfl,w31,s31,f31_0,f31_1⟩
    refine bind_ex rfl ?_
    refine bind_ex rfl ?_
    refine bind_ex rfl ?_
    refine bind_ex rfl ?_
    refine bind_ex rfl ?_
    refine bind_ex rfl ?_
    refine bind_ex rfl ?_
    refine bind_ex rfl ?_
    refine bind_ex rfl ?_
    refine new_k w31 fun H32 w32 s32=>?_
    refine st_k w32 (i:=0) rfl rfl rfl fun H33 w33 s33=>?_
    dsimp only [List.set] at w33 s33
    refine st_k w33 (i:=0) rfl rfl rfl fun H34 w34 s34=>?_
    dsimp only [List.set] at w34 s34
    refine bif_ex (fun hb=>?_) (fun hb=>?_)
    ·replace hp:=bif_t hb hp
     refine st_k w34 (i:=3) rfl rfl rfl fun H35 w35 s35=>?_
     dsimp only [List.set] at w35 s35
     refine st_k w35 (i:=3) rfl rfl rfl fun H36 w36 s36=>?_
     dsimp only [List.set] at w36 s36
     refine bind_ex (ldSl_of (w36.ld (i:=3) rfl rfl)) ?_
     refine bind_ex (ldSl_of (w36.ld (i:=3) rfl rfl)) ?_
     obtain ⟨w37,s37⟩:=w36.nilS (ePair (eInt .i64) (eInt .i64)).z (by decide)
     obtain ⟨w38,s38⟩:=w37.nilS (ePair (eInt .i64) (eInt .i64)).z (by decide)
     obtain ⟨w39,s39,f39⟩:=w38.frz (i:=1) (ePair (eInt .i64) (eInt .i64)) rfl ((CR.empty:CR (ePair (eInt .i64) (eInt .i64)) _ _ [] []).step s38)
     dsimp only [List.eraseIdx] at w39 s39 f39
     obtain ⟨w40,s40,f40⟩:=w39.frz (i:=0) (ePair (eInt .i64) (eInt .i64)) rfl ((CR.empty:CR (ePair (eInt .i64) (eInt .i64)) _ _ [] []).step s39)
     dsimp only [List.eraseIdx] at w40 s40 f40
     obtain ⟨w41,s41⟩:=w40.pick' [] 5 rfl rfl rfl
     dsimp only [pk,pks,nth,List.drop] at w41 s41
     obtain rfl:=Option.some.inj hp
     exact ⟨_,_,rfl,_,_,_,_,_,_,rfl,rfl,rfl,w41,(s0.trans (s1.trans (s2.trans (s4.trans (s13.trans (s22.trans (s31.trans (s32.trans (s33.trans (s34.trans (s35.trans (s36.trans (s37.trans (s38.trans (s39.trans (s40.trans s41)))))))))))))))),(f39.step (s40.trans s41)),(f40.step s41)⟩
    ·replace hp:=bif_f hb hp
     refine bind_ex (ldSl_of (w34.ld (i:=4) rfl rfl)) ?_
     refine bind_ex (ldI_of (w34.ld (i:=4) rfl rfl)) ?_
     refine bind_ex (ldSl_of (w34.ld (i:=0) rfl rfl)) ?_
     refine bind_ex (ldSl_of (w34.ld (i:=0) rfl rfl)) ?_
     obtain ⟨w42,s42,f42⟩:=w34.frz (i:=1) (ePair (eInt .i64) (eInt .i64)) rfl (f31_0.step (s32.trans (s33.trans s34)))
     dsimp only [List.eraseIdx] at w42 s42 f42
     obtain ⟨w43,s43,f43⟩:=w42.frz (i:=1) (ePair (eInt .i64) (eInt .i64)) rfl (f31_1.step (s32.trans (s33.trans (s34.trans s42))))
     dsimp only [List.eraseIdx] at w43 s43 f43
     obtain ⟨r44,e44,hp⟩:=bind_some' hp
     refine call_ex (ak.P rfl rfl rfl ⟨w43,(aH.step (s1.trans (s2.trans (s4.trans (s13.trans (s22.trans (s31.trans (s32.trans (s33.trans (s34.trans (s42.trans s43))))))))))),(f42.step s43),f43⟩ e44) ?_
     rintro _ H45 ⟨o0a_45,o0n_45,o0c_45,o0k_45,rfl,rfl,w45,s45,f45_0⟩
     refine bind_ex rfl ?_
     refine ifs_ex (Cons.tr (Cons.refl _) s42 (Cons.tr (Cons.refl _) s43 (W.cons_of (Rn:=[_]) w43 w45 s45))) ?_
     have f47:=W.borrow1 (eSl (eInt .i64)) w45 f45_0
     obtain ⟨w47,s47⟩:=w45.right1
     obtain ⟨r48,e48,hp⟩:=bind_some' hp
     refine call_ex (bL.P rfl ⟨w47,f47⟩ e48) ?_
     rintro _ H49 ⟨rfl,w49,s49,_⟩
     obtain ⟨w50,s50⟩:=W.frame1 w45 w49 s49
     refine bind_ex rfl ?_
     refine ifs_ex (W.cons_of (Rn:=[]) w47 w49 s49) ?_
     refine bind_ex (ldSl_of (w50.ld (i:=3) rfl rfl)) ?_
     refine bind_ex (ldI_of (w50.ld (i:=3) rfl rfl)) ?_
     refine bind_ex (ldSl_of (w50.ld (i:=1) rfl rfl)) ?_
     refine bind_ex (ldSl_of (w50.ld (i:=1) rfl rfl)) ?_
     obtain ⟨r52,e52,hp⟩:=bind_some' hp
     refine call_ex (aM.P rfl rfl rfl ⟨w50,(aH.step (s1.trans (s2.trans (s4.trans (s13.trans (s22.trans (s31.trans (s32.trans (s33.trans (s34.trans (s42.trans (s43.trans (s45.trans s50))))))))))))),(f42.step (s43.trans (s45.trans s50))),(f43.step (s45.trans s50))⟩ e52) ?_
     rintro _ H53 ⟨o0a_53,o0n_53,o0c_53,o0k_53,rfl,rfl,w53,s53,f53_0⟩
     refine bind_ex rfl ?_
     have f54:=W.borrow1 (eInt .i64) w53 f53_0
     obtain ⟨w54,s54⟩:=w53.right1
     obtain ⟨r55,e55,hp⟩:=bind_some' hp
     refine call_ex (bg.P rfl ⟨w54,f54⟩ e55) ?_
     rintro _ H56 ⟨rfl,w56,s56,_⟩
     obtain ⟨w57,s57⟩:=W.frame1 w53 w56 s56
     refine bind_ex rfl ?_
     refine bif_ex (fun hb=>?_) (fun hb=>?_)
     ·replace hp:=bif_t hb hp
      refine st_k w57 (i:=3) rfl rfl rfl fun H58 w58 s58=>?_
      dsimp only [List.set] at w58 s58
      refine st_k w58 (i:=3) rfl rfl rfl fun H59 w59 s59=>?_
      dsimp only [List.set] at w59 s59
      refine bind_ex (ldSl_of (w59.ld (i:=3) rfl rfl)) ?_
      refine bind_ex (ldSl_of (w59.ld (i:=3) rfl rfl)) ?_
      obtain ⟨w60,s60⟩:=w59.nilS (ePair (eInt .i64) (eInt .i64)).z (by decide)
      obtain ⟨w61,s61⟩:=w60.nilS (ePair (eInt .i64) (eInt .i64)).z (by decide)
      obtain ⟨w62,s62,f62⟩:=w61.frz (i:=1) (ePair (eInt .i64) (eInt .i64)) rfl ((CR.empty:CR (ePair (eInt .i64) (eInt .i64)) _ _ [] []).step s61)
      dsimp only [List.eraseIdx] at w62 s62 f62
      obtain ⟨w63,s63,f63⟩:=w62.frz (i:=0) (ePair (eInt .i64) (eInt .i64)) rfl ((CR.empty:CR (ePair (eInt .i64) (eInt .i64)) _ _ [] []).step s62)
      dsimp only [List.eraseIdx] at w63 s63 f63
      obtain ⟨w64,s64⟩:=w63.pick' [] 5 rfl rfl rfl
      dsimp only [pk,pks,nth,List.drop] at w64 s64
      obtain rfl:=Option.some.inj hp
      exact ⟨_,_,rfl,_,_,_,_,_,_,rfl,rfl,rfl,w64,(s0.trans (s1.trans (s2.trans (s4.trans (s13.trans (s22.trans (s31.trans (s32.trans (s33.trans (s34.trans (s42.trans (s43.trans (s45.trans (s50.trans (s53.trans (s57.trans (s58.trans (s59.trans (s60.trans (s61.trans (s62.trans (s63.trans s64)))))))))))))))))))))),(f62.step (s63.trans s64)),(f63.step s64)⟩
     ·replace hp:=bif_f hb hp
      refine bind_ex (ldSl_of (w57.ld (i:=2) rfl rfl)) ?_
      refine bind_ex (ldSl_of (w57.ld (i:=2) rfl rfl)) ?_
      refine st_k w57 (i:=3) rfl rfl rfl fun H65 w65 s65=>?_
      dsimp only [List.set] at w65 s65
      refine st_k w65 (i:=3) rfl rfl rfl fun H66 w66 s66=>?_
      dsimp only [List.set] at w66 s66
      refine bind_ex (ldSl_of (w66.ld (i:=3) rfl rfl)) ?_
      refine bind_ex (ldSl_of (w66.ld (i:=3) rfl rfl)) ?_
      obtain ⟨w67,s67⟩:=w66.pick' [] 5 rfl rfl rfl
      dsimp only [pk,pks,nth,List.drop] at w67 s67
      obtain rfl:=Option.some.inj hp
      exact ⟨_,_,rfl,_,_,_,_,_,_,rfl,rfl,rfl,w67,(s0.trans (s1.trans (s2.trans (s4.trans (s13.trans (s22.trans (s31.trans (s32.trans (s33.trans (s34.trans (s42.trans (s43.trans (s45.trans (s50.trans (s53.trans (s57.trans (s65.trans (s66.trans s67)))))))))))))))))),(f42.step (s43.trans (s45.trans (s50.trans (s53.trans (s57.trans (s65.trans (s66.trans s67)))))))),(f43.step (s45.trans (s50.trans (s53.trans (s57.trans (s65.trans (s66.trans s67)))))))⟩
def br.Q (H0:Hp) (Ri R0:List Rs)  (r:Bool) (v:AV) (H':Hp):Prop:=v = (.bool r)∧Out H0 Ri H' (R0) fun R=>True
def br.p (F:Nat) (ac:List (Int×Int×Int×Int×Int)) (ab:Int):Option (Bool):=(bk.p F ac ab).bind fun r2=>some r2.2.2
theorem br.P {F:Nat} {av:ON} {aj:Nat} {aw:Cap} {ac:List (Int×Int×Int×Int×Int)} {ab:Int} {H:Hp} {R0:List Rs} (ba:aj = ac.length) (h0:Inn H R0 fun R=>ROs (ePair (eInt .i64) (ePair (eInt .i64) (ePair (eInt .i64) (ePair (eInt .i64) (eInt .i64))))) H R ⟨av,aj,aw⟩ ac) {r:Bool} (hp:br.p F ac ab = some r):∃ v H',br.tw F ⟨av,aj,aw⟩ ab H = some (v,H')∧br.Q H R0 R0  r v H':=by
 obtain ⟨w0,aH⟩:=h0
 subst ba
 unfold br.p at hp
 unfold br.tw br.twX
 have s0:=w0.rf
 refine new_k w0 fun H1 w1 s1=>?_
 refine bind_ex (ldSl_of (w1.ld (i:=0) rfl rfl)) ?_
 refine bind_ex (ldI_of (w1.ld (i:=0) rfl rfl)) ?_
 obtain ⟨r2,e2,hp⟩:=bind_some' hp
 refine call_ex (bk.P rfl ⟨w1,(aH.step s1)⟩ e2) ?_
 rintro _ H3 ⟨o0a_3,o0n_3,o0c_3,o1a_3,o1n_3,o1c_3,rfl,rfl,rfl,w3,s3,f3_0,f3_1⟩
 refine bind_ex rfl ?_
 refine bind_ex rfl ?_
 refine bind_ex rfl ?_
 refine bind_ex rfl ?_
 refine bind_ex rfl ?_
 refine bind_ex rfl ?_
 refine bind_ex rfl ?_
 refine bind_ex rfl ?_
 refine bind_ex rfl ?_
 refine new_k w3 fun H4 w4 s4=>?_
 refine st_k w4 (i:=0) rfl rfl rfl fun H5 w5 s5=>?_
 dsimp only [List.set] at w5 s5
 refine st_k w5 (i:=0) rfl rfl rfl fun H6 w6 s6=>?_
 dsimp only [List.set] at w6 s6
 obtain ⟨w7,s7⟩:=w6.pick' [] 2 rfl rfl rfl
 dsimp only [pk,pks,nth,List.drop] at w7 s7
 obtain rfl:=Option.some.inj hp
 exact ⟨_,_,rfl,rfl,w7,(s0.trans (s1.trans (s3.trans (s4.trans (s5.trans (s6.trans s7)))))),trivial⟩
def bw.Q (H0:Hp) (Ri R0:List Rs)  (r:Bool) (v:AV) (H':Hp):Prop:=v = (.bool r)∧Out H0 Ri H' (R0) fun R=>True
def bw.p (F:Nat) (aa:Int):Option (Bool):=(aO.p F aa 1 30).bind fun r1=>some r1
theorem bw.P {F:Nat} {aa:Int} {H:Hp} {R0:List Rs}  (h0:Inn H R0 fun R=>True) {r:Bool} (hp:bw.p F aa = some r):∃ v H',bw.tw F aa H = some (v,H')∧bw.Q H R0 R0  r v H':=by
 obtain ⟨w0,_⟩:=h0
 unfold bw.p at hp
 unfold bw.tw bw.twX
 have s0:=w0.rf
 obtain ⟨r1,e1,hp⟩:=bind_some' hp
 refine call_ex (aO.P ⟨w0,trivial⟩ e1) ?_
 rintro _ H2 ⟨rfl,w2,s2,_⟩
 refine bind_ex rfl ?_
 obtain rfl:=Option.some.inj hp
 exact ⟨_,_,rfl,rfl,w2,(s0.trans s2),trivial⟩
def aD.Q (H0:Hp) (Ri R0:List Rs)  (r:List Int×Int) (v:AV) (H':Hp):Prop:=∃ o0a:ON,∃ o0n:Nat,∃ o0c:Cap,∃ o0k:List AV,v = (.tup [(.sl ⟨o0a,o0n,o0c⟩),(.int .i64 r.2)])∧o0n = (r.1).length∧Out H0 Ri H' (Rs.own ⟨o0a,o0n,o0c⟩ (eInt .i64).z o0k :: R0) fun R=>CR (eInt .i64) H' R o0k (r.1)
def aD.S29 (H0:Hp) (Ri R0:List Rs)  (C:Nat→Nat→Sl→Sl→Int→Int→Hp→OA) (pC:List (Int×Int×Int×Int×Int)→Int→List Int→Int→Int→Option (List Int×Int)):Prop:=∀ {oO ts:ON} {mb fh oP:Nat} {oQ tt:Cap} {iO:List (Int×Int×Int×Int×Int)} {kJ fi eR:Int} {ke:List Int} {tu:List AV},∀ {H:Hp},mb = iO.length→oP = ke.length→(Out H0 Ri H (Rs.blk fh [.sl ⟨oO,mb,oQ⟩,.int .i64 kJ] :: Rs.own ⟨ts,oP,tt⟩ (eInt .i64).z tu :: R0) fun R=>ROs (ePair (eInt .i64) (ePair (eInt .i64) (ePair (eInt .i64) (ePair (eInt .i64) (eInt .i64))))) H R ⟨oO,mb,oQ⟩ iO∧CR (eInt .i64) H R tu ke)→∀ {r:List Int×Int},pC iO kJ ke fi eR = some r→∃ v H',C fh 0 ⟨ts,oP,tt⟩ ⟨oO,mb,oQ⟩ fi eR H = some (v,H')∧aD.Q H0 Ri R0  r v H'
def aD.pj1 (F:Nat)  (tv:Int) (oR:List Int):Option (List Int×Int):=(cg.p F oR).bind fun r3=>(bg.p F r3).bind fun r8=>some (r3,(IntKind.i64.wrap (r8 + tv)))
theorem aD.j1_P {F:Nat} {H0:Hp} {Ri R0:List Rs}   {AU AW:ON} {vN px vO:Nat} {AX AY:Cap} {AZ:List (Int×Int×Int×Int×Int)} {tv:Int} {oR:List Int} {A_:List AV} {H:Hp} (Fe:vN = AZ.length) (Ff:vO = oR.length) (h0:Out H0 Ri H (Rs.blk px [.sl ⟨AU,vN,AX⟩,.int .i64 tv] :: Rs.own ⟨AW,vO,AY⟩ (eInt .i64).z A_ :: R0) fun R=>ROs (ePair (eInt .i64) (ePair (eInt .i64) (ePair (eInt .i64) (ePair (eInt .i64) (eInt .i64))))) H R ⟨AU,vN,AX⟩ AZ∧CR (eInt .i64) H R A_ oR) {r:List Int×Int} (hp:aD.pj1 F  tv oR = some r):∃ v H',aD.j1 F (aG.tw F) (aE.tw F) (ay.tw F) (cg.tw F) (bg.tw F)  px 0 ⟨AW,vO,AY⟩ H = some (v,H')∧aD.Q H0 Ri R0  r v H':=by
 obtain ⟨w0,s0,Fm,Fg⟩:=h0
 subst Fe
 subst Ff
 unfold aD.pj1 at hp
 unfold aD.j1
 obtain ⟨w1,s1⟩:=w0.pick' [1,0] 2 rfl rfl rfl
 dsimp only [pk,pks,nth,List.drop] at w1 s1
 have f2:=W.borrow1 (eInt .i64) w1 (Fg.step s1)
 obtain ⟨w2,s2⟩:=w1.right1
 obtain ⟨r3,e3,hp⟩:=bind_some' hp
 refine call_ex (cg.P rfl ⟨w2,f2⟩ e3) ?_
 rintro _ H4 ⟨o0a_4,o0n_4,o0c_4,o0k_4,rfl,rfl,w4,s4,f4_0⟩
 obtain ⟨w5,s5⟩:=W.frame1 w1 w4 s4
 refine bind_ex rfl ?_
 obtain ⟨w6,s6⟩:=w5.pick' [1,0,2] 3 rfl rfl rfl
 dsimp only [pk,pks,nth,List.drop] at w6 s6
 have f7:=W.borrow1 (eInt .i64) w6 ((CR.flat (eInt_flat .i64) f4_0).step s6)
 obtain ⟨w7,s7⟩:=w6.right1
 obtain ⟨r8,e8,hp⟩:=bind_some' hp
 refine call_ex (bg.P rfl ⟨w7,f7⟩ e8) ?_
 rintro _ H9 ⟨rfl,w9,s9,_⟩
 obtain ⟨w10,s10⟩:=W.frame1 w6 w9 s9
 refine bind_ex rfl ?_
 refine ifs_ex (Cons.tr (Cons.refl _) s6 (W.cons_of (Rn:=[]) w7 w9 s9)) ?_
 refine bind_ex (ldI_of (w10.ld (i:=2) rfl rfl)) ?_
 obtain ⟨w12,s12⟩:=w10.pick' [0] 3 rfl rfl rfl
 dsimp only [pk,pks,nth,List.drop] at w12 s12
 obtain rfl:=Option.some.inj hp
 exact ⟨_,_,rfl,_,_,_,_,rfl,rfl,w12,(s0.trans (s1.trans (s5.trans (s6.trans (s10.trans s12))))),((CR.flat (eInt_flat .i64) f4_0).step (s6.trans (s10.trans s12)))⟩
def aD.pl29 (F:Nat) :Nat→List (Int×Int×Int×Int×Int)→Int→List Int→Int→Int→Option (List Int×Int)
 | 0,_,_,_,_,_=>none
 | k + 1,iO,kJ,ke,fi,eR=>(bif (decide (eR < fi)) then ((ix iO eR).bind fun n1=>(ay.p F ke ((gt iO n1).2.1) ((gt iO n1).2.2.2.1)).bind fun r9=>aD.pl29 F k iO kJ r9 fi (IntKind.i64.wrap (eR + 1))) else (aD.pj1 F kJ ke))
termination_by structural n=>n
theorem aD.l29_P {F:Nat} {H0:Hp} {Ri R0:List Rs}  :∀ k,aD.S29 H0 Ri R0  (aD.l29 F (aG.tw F) (aE.tw F) (ay.tw F) (cg.tw F) (bg.tw F)  k) (aD.pl29 F  k):=by
 intro k
 induction k with
 | zero=>
  intro oO ts mb fh oP oQ tt iO kJ fi eR ke tu H Ba Bb h0 r hp
  exact nomatch (show (none:Option (List Int×Int)) = some r from hp)
 | succ k ih=>
  intro oO ts mb fh oP oQ tt iO kJ fi eR ke tu H Ba Bb h0 r hp
  obtain ⟨w0,s0,vP,Bc⟩:=h0
  subst Ba
  subst Bb
  unfold aD.pl29 at hp
  unfold aD.l29
  refine bif_ex (fun hb=>?_) (fun hb=>?_)
  ·replace hp:=bif_t hb hp
   obtain ⟨n1,g1,hp⟩:=bind_some' hp
   obtain ⟨p1,q1,i1,h1,j1⟩:=ROs.ixr vP rfl g1
   refine bind_ex i1 ?_
   obtain ⟨_,_,rfl,rfl,_,_,rfl,rfl,_,_,rfl,rfl,_,_,rfl,rfl,rfl⟩:=h1
   refine bind_ex (ldI_of (j1 0 _ rfl)) ?_
   refine bind_ex (ldI_of (j1 1 _ rfl)) ?_
   refine bind_ex (ldI_of (j1 2 _ rfl)) ?_
   refine bind_ex (ldI_of (j1 3 _ rfl)) ?_
   refine bind_ex (ldI_of (j1 4 _ rfl)) ?_
   refine new_k w0 fun H2 w2 s2=>?_
   refine st_k w2 (i:=0) rfl rfl rfl fun H3 w3 s3=>?_
   dsimp only [List.set] at w3 s3
   refine st_k w3 (i:=0) rfl rfl rfl fun H4 w4 s4=>?_
   dsimp only [List.set] at w4 s4
   refine st_k w4 (i:=0) rfl rfl rfl fun H5 w5 s5=>?_
   dsimp only [List.set] at w5 s5
   refine st_k w5 (i:=0) rfl rfl rfl fun H6 w6 s6=>?_
   dsimp only [List.set] at w6 s6
   refine st_k w6 (i:=0) rfl rfl rfl fun H7 w7 s7=>?_
   dsimp only [List.set] at w7 s7
   refine bind_ex (ldI_of (w7.ld (i:=0) rfl rfl)) ?_
   refine bind_ex (ldI_of (w7.ld (i:=0) rfl rfl)) ?_
   obtain ⟨w8,s8⟩:=w7.pick' [2,0,1] 3 rfl rfl rfl
   dsimp only [pk,pks,nth,List.drop] at w8 s8
   obtain ⟨r9,e9,hp⟩:=bind_some' hp
   refine call_ex (ay.P rfl ⟨w8,(Bc.step (s2.trans (s3.trans (s4.trans (s5.trans (s6.trans (s7.trans s8)))))))⟩ e9) ?_
   rintro _ H10 ⟨Fn,rfl,hl10_0,w10,s10,f10_0⟩
   obtain ⟨w11,s11⟩:=w10.pick' [2,0] 3 rfl rfl rfl
   dsimp only [pk,pks,nth,List.drop] at w11 s11
   exact ih rfl hl10_0 ⟨w11,(s0.trans (s2.trans (s3.trans (s4.trans (s5.trans (s6.trans (s7.trans (s8.trans (s10.trans s11))))))))),(vP.step (s2.trans (s3.trans (s4.trans (s5.trans (s6.trans (s7.trans (s8.trans (s10.trans s11))))))))),(f10_0.step s11)⟩ hp
  ·replace hp:=bif_f hb hp
   exact aD.j1_P rfl rfl ⟨w0,s0,vP,Bc⟩ hp
def aD.p (F:Nat) (ac:List (Int×Int×Int×Int×Int)) (ab:Int):Option (List Int×Int):=(aG.p F ac).bind fun r2=>(aE.p F (IntKind.i64.wrap (2 * r2))).bind fun r4=>aD.pl29 F F ac ab r4 (ac.length:Int) 0
theorem aD.P {F:Nat} {av:ON} {aj:Nat} {aw:Cap} {ac:List (Int×Int×Int×Int×Int)} {ab:Int} {H:Hp} {R0:List Rs} (ba:aj = ac.length) (h0:Inn H R0 fun R=>ROs (ePair (eInt .i64) (ePair (eInt .i64) (ePair (eInt .i64) (ePair (eInt .i64) (eInt .i64))))) H R ⟨av,aj,aw⟩ ac) {r:List Int×Int} (hp:aD.p F ac ab = some r):∃ v H',aD.tw F ⟨av,aj,aw⟩ ab H = some (v,H')∧aD.Q H R0 R0  r v H':=by
 obtain ⟨w0,aH⟩:=h0
 subst ba
 unfold aD.p at hp
 unfold aD.tw aD.twX
 have s0:=w0.rf
 refine new_k w0 fun H1 w1 s1=>?_
 refine bind_ex (ldSl_of (w1.ld (i:=0) rfl rfl)) ?_
 obtain ⟨r2,e2,hp⟩:=bind_some' hp
 refine call_ex (aG.P rfl ⟨w1,(aH.step s1)⟩ e2) ?_
 rintro _ H3 ⟨rfl,w3,s3,_⟩
 refine bind_ex rfl ?_
 obtain ⟨r4,e4,hp⟩:=bind_some' hp
 refine call_ex (aE.P ⟨w3,trivial⟩ e4) ?_
 rintro _ H5 ⟨o0a_5,o0n_5,o0c_5,o0k_5,rfl,rfl,w5,s5,f5_0⟩
 refine bind_ex rfl ?_
 refine bind_ex (ldSl_of (w5.ld (i:=1) rfl rfl)) ?_
 obtain ⟨w6,s6⟩:=w5.pick' [1,0] 2 rfl rfl rfl
 dsimp only [pk,pks,nth,List.drop] at w6 s6
 exact aD.l29_P F rfl rfl ⟨w6,(s0.trans (s1.trans (s3.trans (s5.trans s6)))),(aH.step (s1.trans (s3.trans (s5.trans s6)))),(f5_0.step s6)⟩ hp
def bG.Q (H0:Hp) (Ri R0:List Rs)  (r:Int×Int×List Int) (v:AV) (H':Hp):Prop:=∃ o2a:ON,∃ o2n:Nat,∃ o2k:List AV,v = (.agg [(.int .i64 r.1),(.int .i64 r.2.1),(.sl ⟨o2a,o2n,.ex o2n⟩)])∧o2n = (r.2.2).length∧Out H0 Ri H' (Rs.own ⟨o2a,o2n,.ex o2n⟩ (eInt .i64).z o2k :: R0) fun R=>CR (eInt .i64) H' R o2k (r.2.2)
def bG.p (F:Nat) (aa:Int) (ad:Int):Option (Int×Int×List Int):=(mkn (IntKind.i64.wrap (aa * ad)) (0:Int)).bind fun l2=>some (aa,ad,l2)
theorem bG.P {F:Nat} {aa ad:Int} {H:Hp} {R0:List Rs}  (h0:Inn H R0 fun R=>True) {r:Int×Int×List Int} (hp:bG.p F aa ad = some r):∃ v H',bG.tw F aa ad H = some (v,H')∧bG.Q H R0 R0  r v H':=by
 obtain ⟨w0,_⟩:=h0
 unfold bG.p at hp
 unfold bG.tw bG.twX
 have s0:=w0.rf
 refine new_k w0 fun H1 w1 s1=>?_
 obtain ⟨l2,e2,hp⟩:=bind_some' hp
 refine mk_k (eInt .i64) (0:Int) w1 rfl rfl rfl e2 fun H3 k3 w3 s3 c3=>?_
 refine st_k w3 (i:=1) rfl rfl rfl fun H4 w4 s4=>?_
 dsimp only [List.set] at w4 s4
 refine st_k w4 (i:=1) rfl rfl rfl fun H5 w5 s5=>?_
 dsimp only [List.set] at w5 s5
 refine st_k w5 (i:=1) rfl rfl rfl fun H6 w6 s6=>?_
 dsimp only [List.set] at w6 s6
 refine bind_ex (ldI_of (w6.ld (i:=1) rfl rfl)) ?_
 refine bind_ex (ldI_of (w6.ld (i:=1) rfl rfl)) ?_
 refine bind_ex (ldSl_of (w6.ld (i:=1) rfl rfl)) ?_
 obtain ⟨w7,s7⟩:=w6.pick' [0] 2 rfl rfl rfl
 dsimp only [pk,pks,nth,List.drop] at w7 s7
 obtain rfl:=Option.some.inj hp
 exact ⟨_,_,rfl,_,_,_,rfl,rfl,w7,(s0.trans (s1.trans (s3.trans (s4.trans (s5.trans (s6.trans s7)))))),(c3.step (s4.trans (s5.trans (s6.trans s7))))⟩
def aN.Q (H0:Hp) (Ri R0:List Rs)  (r:Int×Int×List Int) (v:AV) (H':Hp):Prop:=∃ o2a:ON,∃ o2n:Nat,∃ o2c:Cap,∃ o2k:List AV,v = (.agg [(.int .i64 r.1),(.int .i64 r.2.1),(.sl ⟨o2a,o2n,o2c⟩)])∧o2n = (r.2.2).length∧Out H0 Ri H' (Rs.own ⟨o2a,o2n,o2c⟩ (eInt .i64).z o2k :: R0) fun R=>CR (eInt .i64) H' R o2k (r.2.2)
def aN.S61 (H0:Hp) (Ri R0:List Rs)  (C:Nat→Nat→Sl→Nat→Nat→Sl→Int→Int→Hp→OA) (pC:List Int→Int→Int→List Int→List (Int×Int×Int×Int×Int)→Int→Int→Option (Int×Int×List Int)):Prop:=∀ {vQ vR kK iQ fj df:Int} {tx tz tB tC:ON} {oS dq oT oU cK oV:Nat} {tD tE tF tG:Cap} {tH gR iS:List Int} {tI tJ tK:List AV} {iK:List (Int×Int×Int×Int×Int)},∀ {H:Hp},oS = tH.length→oT = gR.length→oU = iS.length→oV = iK.length→(Out H0 Ri H (Rs.own ⟨tx,oS,tD⟩ (eInt .i64).z tI :: Rs.blk dq [.int .i64 vQ,.int .i64 vR,.sl ⟨tx,oS,tD⟩] :: Rs.own ⟨tz,oT,tE⟩ (eInt .i64).z tJ :: Rs.own ⟨tB,oU,tF⟩ (eInt .i64).z tK :: Rs.blk cK [.int .i64 kK,.int .i64 iQ,.sl ⟨tB,oU,tF⟩] :: R0) fun R=>CR (eInt .i64) H R tI tH∧CR (eInt .i64) H R tJ gR∧CR (eInt .i64) H R tK iS∧ROs (ePair (eInt .i64) (ePair (eInt .i64) (ePair (eInt .i64) (ePair (eInt .i64) (eInt .i64))))) H R ⟨tC,oV,tG⟩ iK)→∀ {r:Int×Int×List Int},pC gR kK iQ iS iK fj df = some r→∃ v H',C dq 0 ⟨tz,oT,tE⟩ cK 0 ⟨tC,oV,tG⟩ fj df H = some (v,H')∧aN.Q H0 Ri R0  r v H'
def aN.pl61 (F:Nat) :Nat→List Int→Int→Int→List Int→List (Int×Int×Int×Int×Int)→Int→Int→Option (Int×Int×List Int)
 | 0,_,_,_,_,_,_,_=>none
 | k + 1,gR,kK,iQ,iS,iK,fj,df=>(bif (decide (df < fj)) then ((ix iK df).bind fun n1=>(ix gR ((gt iK n1).2.1)).bind fun n8=>(ix iS (IntKind.i64.wrap ((IntKind.i64.wrap (df * iQ)) + (gt gR n8)))).bind fun n10=>(some (iS.set n10 (IntKind.i64.wrap ((gt iS n10) + 2)))).bind fun l11=>(ix gR ((gt iK n1).1)).bind fun n13=>(ix l11 (IntKind.i64.wrap ((IntKind.i64.wrap (df * iQ)) + (gt gR n13)))).bind fun n15=>(some (l11.set n15 (IntKind.i64.wrap ((gt l11 n15) - 1)))).bind fun l16=>(ix gR ((gt iK n1).2.2.1)).bind fun n18=>(ix l16 (IntKind.i64.wrap ((IntKind.i64.wrap (df * iQ)) + (gt gR n18)))).bind fun n20=>(some (l16.set n20 (IntKind.i64.wrap ((gt l16 n20) - 1)))).bind fun l21=>aN.pl61 F k gR kK iQ l21 iK fj (IntKind.i64.wrap (df + 1))) else (some (kK,iQ,iS)))
termination_by structural n=>n
theorem aN.l61_P {F:Nat} {H0:Hp} {Ri R0:List Rs}  :∀ k,aN.S61 H0 Ri R0  (aN.l61 F (aD.tw F) (aG.tw F) (bG.tw F) (bO.tw F)  k) (aN.pl61 F  k):=by
 intro k
 induction k with
 | zero=>
  intro vQ vR kK iQ fj df tx tz tB tC oS dq oT oU cK oV tD tE tF tG tH gR iS tI tJ tK iK H Bd Be Bf Bg h0 r hp
  exact nomatch (show (none:Option (Int×Int×List Int)) = some r from hp)
 | succ k ih=>
  intro vQ vR kK iQ fj df tx tz tB tC oS dq oT oU cK oV tD tE tF tG tH gR iS tI tJ tK iK H Bd Be Bf Bg h0 r hp
  obtain ⟨w0,s0,Fh,tL,vS,Bh⟩:=h0
  subst Bd
  subst Be
  subst Bf
  subst Bg
  unfold aN.pl61 at hp
  unfold aN.l61
  refine bif_ex (fun hb=>?_) (fun hb=>?_)
  ·replace hp:=bif_t hb hp
   obtain ⟨n1,g1,hp⟩:=bind_some' hp
   obtain ⟨p1,q1,i1,h1,j1⟩:=ROs.ixr Bh rfl g1
   refine bind_ex i1 ?_
   obtain ⟨_,_,rfl,rfl,_,_,rfl,rfl,_,_,rfl,rfl,_,_,rfl,rfl,rfl⟩:=h1
   refine bind_ex (ldI_of (j1 0 _ rfl)) ?_
   refine bind_ex (ldI_of (j1 1 _ rfl)) ?_
   refine bind_ex (ldI_of (j1 2 _ rfl)) ?_
   refine bind_ex (ldI_of (j1 3 _ rfl)) ?_
   refine bind_ex (ldI_of (j1 4 _ rfl)) ?_
   refine new_k w0 fun H2 w2 s2=>?_
   refine st_k w2 (i:=0) rfl rfl rfl fun H3 w3 s3=>?_
   dsimp only [List.set] at w3 s3
   refine st_k w3 (i:=0) rfl rfl rfl fun H4 w4 s4=>?_
   dsimp only [List.set] at w4 s4
   refine st_k w4 (i:=0) rfl rfl rfl fun H5 w5 s5=>?_
   dsimp only [List.set] at w5 s5
   refine st_k w5 (i:=0) rfl rfl rfl fun H6 w6 s6=>?_
   dsimp only [List.set] at w6 s6
   refine st_k w6 (i:=0) rfl rfl rfl fun H7 w7 s7=>?_
   dsimp only [List.set] at w7 s7
   refine bind_ex (ldI_of (w7.ld (i:=5) rfl rfl)) ?_
   refine bind_ex (ldI_of (w7.ld (i:=5) rfl rfl)) ?_
   refine bind_ex (ldSl_of (w7.ld (i:=5) rfl rfl)) ?_
   refine bind_ex (ldI_of (w7.ld (i:=0) rfl rfl)) ?_
   obtain ⟨n8,g8,hp⟩:=bind_some' hp
   obtain ⟨p8,q8,i8,h8,j8⟩:=W.ixo (E:=(eInt .i64)) w7 (i:=3) rfl rfl (tL.step (s2.trans (s3.trans (s4.trans (s5.trans (s6.trans s7)))))) g8
   refine bind_ex i8 ?_
   have h8:_ = [_]:=h8
   subst h8
   refine bind_ex (ldI_of (j8 0 _ rfl)) ?_
   refine bO.inl ?_
   refine new_k w7 fun H9 w9 s9=>?_
   refine bind_ex (ldSl_of (w9.ld (i:=0) rfl rfl)) ?_
   refine bind_ex (ldI_of (w9.ld (i:=0) rfl rfl)) ?_
   obtain ⟨n10,g10,hp⟩:=bind_some' hp
   obtain ⟨p10,q10,i10,h10,j10⟩:=W.ixo (E:=(eInt .i64)) w9 (i:=5) rfl rfl (vS.step (s2.trans (s3.trans (s4.trans (s5.trans (s6.trans (s7.trans s9))))))) g10
   refine bind_ex i10 ?_
   refine ⟨_,_,rfl,?_⟩
   refine bind_ex rfl ?_
   have h10:_ = [_]:=h10
   subst h10
   refine bind_ex (ldI_of (j10 0 _ rfl)) ?_
   obtain ⟨l11,e11,hp⟩:=bind_some' hp
   refine sto_k (eInt .i64) w9 (i:=5) (j:=0) (p:=p10) rfl rfl (vS.step (s2.trans (s3.trans (s4.trans (s5.trans (s6.trans (s7.trans s9))))))) g10 i10 e11 rfl rfl (fun _ h=>by have h:_ = [_]:=h; subst h; exact rfl) fun H12 k12 w12 s12 c12=>?_
   dsimp only [List.set] at w12 s12 c12
   refine bind_ex (ldI_of (w12.ld (i:=6) rfl rfl)) ?_
   refine bind_ex (ldI_of (w12.ld (i:=6) rfl rfl)) ?_
   refine bind_ex (ldSl_of (w12.ld (i:=6) rfl rfl)) ?_
   refine bind_ex (ldI_of (w12.ld (i:=1) rfl rfl)) ?_
   obtain ⟨n13,g13,hp⟩:=bind_some' hp
   obtain ⟨p13,q13,i13,h13,j13⟩:=W.ixo (E:=(eInt .i64)) w12 (i:=4) rfl rfl (tL.step (s2.trans (s3.trans (s4.trans (s5.trans (s6.trans (s7.trans (s9.trans s12)))))))) g13
   refine bind_ex i13 ?_
   have h13:_ = [_]:=h13
   subst h13
   refine bind_ex (ldI_of (j13 0 _ rfl)) ?_
   refine bO.inl ?_
   refine new_k w12 fun H14 w14 s14=>?_
   refine bind_ex (ldSl_of (w14.ld (i:=0) rfl rfl)) ?_
   refine bind_ex (ldI_of (w14.ld (i:=0) rfl rfl)) ?_
   obtain ⟨n15,g15,hp⟩:=bind_some' hp
   obtain ⟨p15,q15,i15,h15,j15⟩:=W.ixo (E:=(eInt .i64)) w14 (i:=6) rfl rfl (c12.step s14) g15
   refine bind_ex i15 ?_
   refine ⟨_,_,rfl,?_⟩
   refine bind_ex rfl ?_
   have h15:_ = [_]:=h15
   subst h15
   refine bind_ex (ldI_of (j15 0 _ rfl)) ?_
   obtain ⟨l16,e16,hp⟩:=bind_some' hp
   refine sto_k (eInt .i64) w14 (i:=6) (j:=0) (p:=p15) rfl rfl (c12.step s14) g15 i15 e16 rfl rfl (fun _ h=>by have h:_ = [_]:=h; subst h; exact rfl) fun H17 k17 w17 s17 c17=>?_
   dsimp only [List.set] at w17 s17 c17
   refine bind_ex (ldI_of (w17.ld (i:=7) rfl rfl)) ?_
   refine bind_ex (ldI_of (w17.ld (i:=7) rfl rfl)) ?_
   refine bind_ex (ldSl_of (w17.ld (i:=7) rfl rfl)) ?_
   refine bind_ex (ldI_of (w17.ld (i:=2) rfl rfl)) ?_
   obtain ⟨n18,g18,hp⟩:=bind_some' hp
   obtain ⟨p18,q18,i18,h18,j18⟩:=W.ixo (E:=(eInt .i64)) w17 (i:=5) rfl rfl (tL.step (s2.trans (s3.trans (s4.trans (s5.trans (s6.trans (s7.trans (s9.trans (s12.trans (s14.trans s17)))))))))) g18
   refine bind_ex i18 ?_
   have h18:_ = [_]:=h18
   subst h18
   refine bind_ex (ldI_of (j18 0 _ rfl)) ?_
   refine bO.inl ?_
   refine new_k w17 fun H19 w19 s19=>?_
   refine bind_ex (ldSl_of (w19.ld (i:=0) rfl rfl)) ?_
   refine bind_ex (ldI_of (w19.ld (i:=0) rfl rfl)) ?_
   obtain ⟨n20,g20,hp⟩:=bind_some' hp
   obtain ⟨p20,q20,i20,h20,j20⟩:=W.ixo (E:=(eInt .i64)) w19 (i:=7) rfl rfl (c17.step s19) g20
   refine bind_ex i20 ?_
   refine ⟨_,_,rfl,?_⟩
   refine bind_ex rfl ?_
   have h20:_ = [_]:=h20
   subst h20
   refine bind_ex (ldI_of (j20 0 _ rfl)) ?_
   obtain ⟨l21,e21,hp⟩:=bind_some' hp
   refine sto_k (eInt .i64) w19 (i:=7) (j:=0) (p:=p20) rfl rfl (c17.step s19) g20 i20 e21 rfl rfl (fun _ h=>by have h:_ = [_]:=h; subst h; exact rfl) fun H22 k22 w22 s22 c22=>?_
   dsimp only [List.set] at w22 s22 c22
   obtain ⟨w23,s23⟩:=w22.pick' [4,5,6,7,8] 9 rfl rfl rfl
   dsimp only [pk,pks,nth,List.drop] at w23 s23
   exact ih rfl rfl (((st_len e11).symm.trans (st_len e16).symm).trans (st_len e21).symm) rfl ⟨w23,(s0.trans (s2.trans (s3.trans (s4.trans (s5.trans (s6.trans (s7.trans (s9.trans (s12.trans (s14.trans (s17.trans (s19.trans (s22.trans s23))))))))))))),(Fh.step (s2.trans (s3.trans (s4.trans (s5.trans (s6.trans (s7.trans (s9.trans (s12.trans (s14.trans (s17.trans (s19.trans (s22.trans s23))))))))))))),(tL.step (s2.trans (s3.trans (s4.trans (s5.trans (s6.trans (s7.trans (s9.trans (s12.trans (s14.trans (s17.trans (s19.trans (s22.trans s23))))))))))))),(c22.step s23),(Bh.step (s2.trans (s3.trans (s4.trans (s5.trans (s6.trans (s7.trans (s9.trans (s12.trans (s14.trans (s17.trans (s19.trans (s22.trans s23)))))))))))))⟩ hp
  ·replace hp:=bif_f hb hp
   refine bind_ex (ldI_of (w0.ld (i:=4) rfl rfl)) ?_
   refine bind_ex (ldI_of (w0.ld (i:=4) rfl rfl)) ?_
   refine bind_ex (ldSl_of (w0.ld (i:=4) rfl rfl)) ?_
   refine st_k w0 (i:=1) rfl rfl rfl fun H24 w24 s24=>?_
   dsimp only [List.set] at w24 s24
   refine st_k w24 (i:=1) rfl rfl rfl fun H25 w25 s25=>?_
   dsimp only [List.set] at w25 s25
   refine st_k w25 (i:=1) rfl rfl rfl fun H26 w26 s26=>?_
   dsimp only [List.set] at w26 s26
   refine bind_ex (ldI_of (w26.ld (i:=1) rfl rfl)) ?_
   refine bind_ex (ldI_of (w26.ld (i:=1) rfl rfl)) ?_
   refine bind_ex (ldSl_of (w26.ld (i:=1) rfl rfl)) ?_
   obtain ⟨w27,s27⟩:=w26.pick' [3] 5 rfl rfl rfl
   dsimp only [pk,pks,nth,List.drop] at w27 s27
   obtain rfl:=Option.some.inj hp
   exact ⟨_,_,rfl,_,_,_,_,rfl,rfl,w27,(s0.trans (s24.trans (s25.trans (s26.trans s27)))),(vS.step (s24.trans (s25.trans (s26.trans s27))))⟩
def aN.p (F:Nat) (ac:List (Int×Int×Int×Int×Int)) (ab:Int):Option (Int×Int×List Int):=(aD.p F ac ab).bind fun r3=>(aG.p F ac).bind fun r5=>(bG.p F r5 r3.2).bind fun r7=>aN.pl61 F F r3.1 r7.1 r7.2.1 r7.2.2 ac (ac.length:Int) 0
theorem aN.P {F:Nat} {av:ON} {aj:Nat} {aw:Cap} {ac:List (Int×Int×Int×Int×Int)} {ab:Int} {H:Hp} {R0:List Rs} (ba:aj = ac.length) (h0:Inn H R0 fun R=>ROs (ePair (eInt .i64) (ePair (eInt .i64) (ePair (eInt .i64) (ePair (eInt .i64) (eInt .i64))))) H R ⟨av,aj,aw⟩ ac) {r:Int×Int×List Int} (hp:aN.p F ac ab = some r):∃ v H',aN.tw F ⟨av,aj,aw⟩ ab H = some (v,H')∧aN.Q H R0 R0  r v H':=by
 obtain ⟨w0,aH⟩:=h0
 subst ba
 unfold aN.p at hp
 unfold aN.tw aN.twX
 have s0:=w0.rf
 refine new_k w0 fun H1 w1 s1=>?_
 refine new_k w1 fun H2 w2 s2=>?_
 refine bind_ex (ldSl_of (w2.ld (i:=1) rfl rfl)) ?_
 refine bind_ex (ldI_of (w2.ld (i:=1) rfl rfl)) ?_
 obtain ⟨r3,e3,hp⟩:=bind_some' hp
 refine call_ex (aD.P rfl ⟨w2,(aH.step (s1.trans s2))⟩ e3) ?_
 rintro _ H4 ⟨o0a_4,o0n_4,o0c_4,o0k_4,rfl,rfl,w4,s4,f4_0⟩
 refine bind_ex rfl ?_
 refine bind_ex rfl ?_
 refine bind_ex rfl ?_
 refine bind_ex rfl ?_
 refine bind_ex rfl ?_
 refine bind_ex (ldSl_of (w4.ld (i:=2) rfl rfl)) ?_
 obtain ⟨r5,e5,hp⟩:=bind_some' hp
 refine call_ex (aG.P rfl ⟨w4,(aH.step (s1.trans (s2.trans s4)))⟩ e5) ?_
 rintro _ H6 ⟨rfl,w6,s6,_⟩
 refine bind_ex rfl ?_
 obtain ⟨r7,e7,hp⟩:=bind_some' hp
 refine call_ex (bG.P ⟨w6,trivial⟩ e7) ?_
 rintro _ H8 ⟨o2a_8,o2n_8,o2k_8,rfl,rfl,w8,s8,f8_0⟩
 refine bind_ex rfl ?_
 refine bind_ex rfl ?_
 refine bind_ex rfl ?_
 refine bind_ex rfl ?_
 refine bind_ex rfl ?_
 refine bind_ex rfl ?_
 refine bind_ex rfl ?_
 refine new_k w8 fun H9 w9 s9=>?_
 refine st_k w9 (i:=0) rfl rfl rfl fun H10 w10 s10=>?_
 dsimp only [List.set] at w10 s10
 refine st_k w10 (i:=0) rfl rfl rfl fun H11 w11 s11=>?_
 dsimp only [List.set] at w11 s11
 refine st_k w11 (i:=0) rfl rfl rfl fun H12 w12 s12=>?_
 dsimp only [List.set] at w12 s12
 refine bind_ex (ldSl_of (w12.ld (i:=4) rfl rfl)) ?_
 obtain ⟨w13,s13⟩:=w12.nilS (eInt .i64).z (by decide)
 obtain ⟨w14,s14⟩:=w13.pick' [0,4,3,2,1] 6 rfl rfl rfl
 dsimp only [pk,pks,nth,List.drop] at w14 s14
 exact aN.l61_P F rfl rfl rfl rfl ⟨w14,(s0.trans (s1.trans (s2.trans (s4.trans (s6.trans (s8.trans (s9.trans (s10.trans (s11.trans (s12.trans (s13.trans s14))))))))))),((CR.empty:CR (eInt .i64) _ _ [] []).step s14),(f4_0.step (s6.trans (s8.trans (s9.trans (s10.trans (s11.trans (s12.trans (s13.trans s14)))))))),(f8_0.step (s9.trans (s10.trans (s11.trans (s12.trans (s13.trans s14)))))),(aH.step (s1.trans (s2.trans (s4.trans (s6.trans (s8.trans (s9.trans (s10.trans (s11.trans (s12.trans (s13.trans s14)))))))))))⟩ hp
def bH.Q (H0:Hp) (Ri R0:List Rs)  (r:Int) (v:AV) (H':Hp):Prop:=v = (.int .i64 r)∧Out H0 Ri H' (R0) fun R=>True
def bH.p (F:Nat) (ac:List Int):Option (Int):=some (ac.length:Int)
theorem bH.P {F:Nat} {av:ON} {aj:Nat} {aw:Cap} {ac:List Int} {H:Hp} {R0:List Rs} (ba:aj = ac.length) (h0:Inn H R0 fun R=>ROs (eInt .i64) H R ⟨av,aj,aw⟩ ac) {r:Int} (hp:bH.p F ac = some r):∃ v H',bH.tw F ⟨av,aj,aw⟩ H = some (v,H')∧bH.Q H R0 R0  r v H':=by
 obtain ⟨w0,aH⟩:=h0
 subst ba
 unfold bH.p at hp
 unfold bH.tw bH.twX
 have s0:=w0.rf
 obtain rfl:=Option.some.inj hp
 exact ⟨_,_,rfl,rfl,w0,s0,trivial⟩
def bA.Q (H0:Hp) (Ri R0:List Rs)  (r:List Int) (v:AV) (H':Hp):Prop:=∃ o0a:ON,∃ o0n:Nat,∃ o0c:Cap,v = (.sl ⟨o0a,o0n,o0c⟩)∧o0n = (r).length∧Out H0 Ri H' (R0) fun R=>ROs (eInt .i64) H' R ⟨o0a,o0n,o0c⟩ (r)
def bA.p (F:Nat) (ab:Int) (dJ:List Int) (ar:Int):Option (List Int):=(cutf dJ (IntKind.i64.wrap (ar * ab)) (IntKind.i64.wrap ((IntKind.i64.wrap (ar + 1)) * ab))).bind fun l2=>some l2
theorem bA.P {F:Nat} {aa ab ar:Int} {iz:ON} {gh:Nat} {iA:Cap} {dJ:List Int} {H:Hp} {R0:List Rs} (kv:gh = dJ.length) (h0:Inn H R0 fun R=>ROs (eInt .i64) H R ⟨iz,gh,iA⟩ dJ) {r:List Int} (hp:bA.p F ab dJ ar = some r):∃ v H',bA.tw F aa ab ⟨iz,gh,iA⟩ ar H = some (v,H')∧bA.Q H R0 R0  r v H':=by
 obtain ⟨w0,kw⟩:=h0
 subst kv
 unfold bA.p at hp
 unfold bA.tw bA.twX
 have s0:=w0.rf
 refine new_k w0 fun H1 w1 s1=>?_
 refine bind_ex (ldSl_of (w1.ld (i:=0) rfl rfl)) ?_
 refine bind_ex (ldI_of (w1.ld (i:=0) rfl rfl)) ?_
 refine bind_ex (ldI_of (w1.ld (i:=0) rfl rfl)) ?_
 obtain ⟨l2,e2,hp⟩:=bind_some' hp
 obtain ⟨a2,d2,h2,f2⟩:=ROs.cutf (kw.step s1) rfl e2
 refine bind_ex h2 ?_
 obtain ⟨w3,s3⟩:=w1.pick' [] 1 rfl rfl rfl
 dsimp only [pk,pks,nth,List.drop] at w3 s3
 obtain rfl:=Option.some.inj hp
 exact ⟨_,_,rfl,_,_,_,rfl,rfl,w3,(s0.trans (s1.trans s3)),(f2.step s3)⟩
def aR.Q (H0:Hp) (Ri R0:List Rs)  (r:Int) (v:AV) (H':Hp):Prop:=v = (.int .i64 r)∧Out H0 Ri H' (R0) fun R=>True
def aR.S29 (H0:Hp) (Ri R0:List Rs)  (C:Sl→Int→Sl→Int→Int→Hp→OA) (pC:List Int→Int→List Int→Int→Int→Option (Int)):Prop:=∀ {gA tM:ON} {fO oW:Nat} {gB tO:Cap} {cB js:List Int} {eF fk ep:Int},∀ {H:Hp},fO = cB.length→oW = js.length→(Out H0 Ri H R0 fun R=>ROs (eInt .i64) H R ⟨gA,fO,gB⟩ cB∧ROs (eInt .i64) H R ⟨tM,oW,tO⟩ js)→∀ {r:Int},pC cB eF js fk ep = some r→∃ v H',C ⟨gA,fO,gB⟩ eF ⟨tM,oW,tO⟩ fk ep H = some (v,H')∧aR.Q H0 Ri R0  r v H'
def aR.pl29 (F:Nat) :Nat→List Int→Int→List Int→Int→Int→Option (Int)
 | 0,_,_,_,_,_=>none
 | k + 1,cB,eF,js,fk,ep=>(bif (decide (ep < fk)) then ((ix js ep).bind fun n1=>(ix cB ep).bind fun n2=>aR.pl29 F k cB (IntKind.i64.wrap (eF + (IntKind.i64.wrap ((gt js n1) * (gt cB n2))))) js fk (IntKind.i64.wrap (ep + 1))) else (some eF))
termination_by structural n=>n
theorem aR.l29_P {F:Nat} {H0:Hp} {Ri R0:List Rs}  :∀ k,aR.S29 H0 Ri R0  (aR.l29 F   k) (aR.pl29 F  k):=by
 intro k
 induction k with
 | zero=>
  intro gA tM fO oW gB tO cB js eF fk ep H kf Bi h0 r hp
  exact nomatch (show (none:Option (Int)) = some r from hp)
 | succ k ih=>
  intro gA tM fO oW gB tO cB js eF fk ep H kf Bi h0 r hp
  obtain ⟨w0,s0,kg,Bj⟩:=h0
  subst kf
  subst Bi
  unfold aR.pl29 at hp
  unfold aR.l29
  refine bif_ex (fun hb=>?_) (fun hb=>?_)
  ·replace hp:=bif_t hb hp
   obtain ⟨n1,g1,hp⟩:=bind_some' hp
   obtain ⟨p1,q1,i1,h1,j1⟩:=ROs.ixr Bj rfl g1
   refine bind_ex i1 ?_
   have h1:_ = [_]:=h1
   subst h1
   refine bind_ex (ldI_of (j1 0 _ rfl)) ?_
   obtain ⟨n2,g2,hp⟩:=bind_some' hp
   obtain ⟨p2,q2,i2,h2,j2⟩:=ROs.ixr kg rfl g2
   refine bind_ex i2 ?_
   have h2:_ = [_]:=h2
   subst h2
   refine bind_ex (ldI_of (j2 0 _ rfl)) ?_
   exact ih rfl rfl ⟨w0,s0,kg,Bj⟩ hp
  ·replace hp:=bif_f hb hp
   obtain rfl:=Option.some.inj hp
   exact ⟨_,_,rfl,rfl,w0,s0,trivial⟩
def aR.p (F:Nat) (ac:List Int) (ft:List Int):Option (Int):=aR.pl29 F F ft 0 ac (ac.length:Int) 0
theorem aR.P {F:Nat} {av kh:ON} {aj iL:Nat} {aw ki:Cap} {ac ft:List Int} {H:Hp} {R0:List Rs} (ba:aj = ac.length) (oX:iL = ft.length) (h0:Inn H R0 fun R=>ROs (eInt .i64) H R ⟨av,aj,aw⟩ ac∧ROs (eInt .i64) H R ⟨kh,iL,ki⟩ ft) {r:Int} (hp:aR.p F ac ft = some r):∃ v H',aR.tw F ⟨av,aj,aw⟩ ⟨kh,iL,ki⟩ H = some (v,H')∧aR.Q H R0 R0  r v H':=by
 obtain ⟨w0,aH,oY⟩:=h0
 subst ba
 subst oX
 unfold aR.p at hp
 unfold aR.tw aR.twX
 have s0:=w0.rf
 exact aR.l29_P F rfl rfl ⟨w0,s0,oY,aH⟩ hp
def bx.Q (H0:Hp) (Ri R0:List Rs) (di:Int) (ad:Nat) (r:Bool) (v:AV) (H':Hp):Prop:=v = (.bool r)∧Out H0 Ri H' (Rs.blk ad [.int .i64 di] :: R0) fun R=>True
def bx.p (F:Nat) (aa:Int) (di:Int):Option (Bool):=(aO.p F aa 0 (IntKind.i64.wrap (di - 1))).bind fun r1=>some (!r1)
theorem bx.P {F:Nat} {aa di:Int} {ad:Nat} {H:Hp} {R0:List Rs}  (h0:Inn H (Rs.blk ad [.int .i64 di] :: R0) fun R=>True) {r:Bool} (hp:bx.p F aa di = some r):∃ v H',bx.tw F aa ad 0 H = some (v,H')∧bx.Q H (Rs.blk ad [.int .i64 di] :: R0) R0 di ad r v H':=by
 obtain ⟨w0,_⟩:=h0
 unfold bx.p at hp
 unfold bx.tw bx.twX
 have s0:=w0.rf
 refine bind_ex (ldI_of (w0.ld (i:=0) rfl rfl)) ?_
 obtain ⟨r1,e1,hp⟩:=bind_some' hp
 refine call_ex (aO.P ⟨w0,trivial⟩ e1) ?_
 rintro _ H2 ⟨rfl,w2,s2,_⟩
 refine bind_ex rfl ?_
 obtain rfl:=Option.some.inj hp
 exact ⟨_,_,rfl,rfl,w2,(s0.trans s2),trivial⟩
def aQ.Q (H0:Hp) (Ri R0:List Rs) (di:Int) (ad:Nat) (r:Int) (v:AV) (H':Hp):Prop:=v = (.int .i64 r)∧Out H0 Ri H' (Rs.blk ad [.int .i64 di] :: R0) fun R=>True
def aQ.S13 (H0:Hp) (Ri R0:List Rs) (kj:Int) (oZ:Nat) (C:Sl→Nat→Nat→Int→Int→Hp→OA) (pC:List Int→Int→Int→Int→Option (Int)):Prop:=∀ {tP:ON} {o_:Nat} {tQ:Cap} {jt:List Int} {fg ct:Int},∀ {H:Hp},o_ = jt.length→(Out H0 Ri H (Rs.blk oZ [.int .i64 kj] :: R0) fun R=>ROs (eInt .i64) H R ⟨tP,o_,tQ⟩ jt)→∀ {r:Int},pC jt kj fg ct = some r→∃ v H',C ⟨tP,o_,tQ⟩ oZ 0 fg ct H = some (v,H')∧aQ.Q H0 Ri R0 kj oZ r v H'
def aQ.pl13 (F:Nat) :Nat→List Int→Int→Int→Int→Option (Int)
 | 0,_,_,_,_=>none
 | k + 1,jt,kj,fg,ct=>(bif (decide (ct < fg)) then ((ix jt ct).bind fun n1=>(bx.p F (gt jt n1) kj).bind fun r2=>(bif r2 then (some ct) else (aQ.pl13 F k jt kj fg (IntKind.i64.wrap (ct + 1))))) else (some (-1)))
termination_by structural n=>n
theorem aQ.l13_P {F:Nat} {H0:Hp} {Ri R0:List Rs} {kj:Int} {oZ:Nat} :∀ k,aQ.S13 H0 Ri R0 kj oZ (aQ.l13 F (bx.tw F)  k) (aQ.pl13 F  k):=by
 intro k
 induction k with
 | zero=>
  intro tP o_ tQ jt fg ct H Bk h0 r hp
  exact nomatch (show (none:Option (Int)) = some r from hp)
 | succ k ih=>
  intro tP o_ tQ jt fg ct H Bk h0 r hp
  obtain ⟨w0,s0,Bl⟩:=h0
  subst Bk
  unfold aQ.pl13 at hp
  unfold aQ.l13
  refine bif_ex (fun hb=>?_) (fun hb=>?_)
  ·replace hp:=bif_t hb hp
   obtain ⟨n1,g1,hp⟩:=bind_some' hp
   obtain ⟨p1,q1,i1,h1,j1⟩:=ROs.ixr Bl rfl g1
   refine bind_ex i1 ?_
   have h1:_ = [_]:=h1
   subst h1
   refine bind_ex (ldI_of (j1 0 _ rfl)) ?_
   obtain ⟨r2,e2,hp⟩:=bind_some' hp
   refine call_ex (bx.P ⟨w0,trivial⟩ e2) ?_
   rintro _ H3 ⟨rfl,w3,s3,_⟩
   refine bind_ex rfl ?_
   refine bif_ex (fun hb=>?_) (fun hb=>?_)
   ·replace hp:=bif_t hb hp
    obtain rfl:=Option.some.inj hp
    exact ⟨_,_,rfl,rfl,w3,(s0.trans s3),trivial⟩
   ·replace hp:=bif_f hb hp
    exact ih rfl ⟨w3,(s0.trans s3),(Bl.step s3)⟩ hp
  ·replace hp:=bif_f hb hp
   obtain rfl:=Option.some.inj hp
   exact ⟨_,_,rfl,rfl,w0,s0,trivial⟩
def aQ.p (F:Nat) (ac:List Int) (di:Int):Option (Int):=aQ.pl13 F F ac di (ac.length:Int) 0
theorem aQ.P {F:Nat} {av:ON} {aj ad:Nat} {aw:Cap} {ac:List Int} {di:Int} {H:Hp} {R0:List Rs} (ba:aj = ac.length) (h0:Inn H (Rs.blk ad [.int .i64 di] :: R0) fun R=>ROs (eInt .i64) H R ⟨av,aj,aw⟩ ac) {r:Int} (hp:aQ.p F ac di = some r):∃ v H',aQ.tw F ⟨av,aj,aw⟩ ad 0 H = some (v,H')∧aQ.Q H (Rs.blk ad [.int .i64 di] :: R0) R0 di ad r v H':=by
 obtain ⟨w0,aH⟩:=h0
 subst ba
 unfold aQ.p at hp
 unfold aQ.tw aQ.twX
 have s0:=w0.rf
 exact aQ.l13_P F rfl ⟨w0,s0,aH⟩ hp
def bz.Q (H0:Hp) (Ri R0:List Rs) (di:Int) (ad:Nat) (r:Bool) (v:AV) (H':Hp):Prop:=v = (.bool r)∧Out H0 Ri H' (Rs.blk ad [.int .i64 di] :: R0) fun R=>True
def bz.p (F:Nat) (ac:List Int) (di:Int):Option (Bool):=(aQ.p F ac di).bind fun r1=>some (decide (r1 ≥ 0))
theorem bz.P {F:Nat} {av:ON} {aj ad:Nat} {aw:Cap} {ac:List Int} {di:Int} {H:Hp} {R0:List Rs} (ba:aj = ac.length) (h0:Inn H (Rs.blk ad [.int .i64 di] :: R0) fun R=>ROs (eInt .i64) H R ⟨av,aj,aw⟩ ac) {r:Bool} (hp:bz.p F ac di = some r):∃ v H',bz.tw F ⟨av,aj,aw⟩ ad 0 H = some (v,H')∧bz.Q H (Rs.blk ad [.int .i64 di] :: R0) R0 di ad r v H':=by
 obtain ⟨w0,aH⟩:=h0
 subst ba
 unfold bz.p at hp
 unfold bz.tw bz.twX
 have s0:=w0.rf
 obtain ⟨r1,e1,hp⟩:=bind_some' hp
 refine call_ex (aQ.P rfl ⟨w0,aH⟩ e1) ?_
 rintro _ H2 ⟨rfl,w2,s2,_⟩
 refine bind_ex rfl ?_
 obtain rfl:=Option.some.inj hp
 exact ⟨_,_,rfl,rfl,w2,(s0.trans s2),trivial⟩
def aS.Q (H0:Hp) (Ri R0:List Rs)  (r:Bool) (v:AV) (H':Hp):Prop:=v = (.bool r)∧Out H0 Ri H' (R0) fun R=>True
def aS.S125 (H0:Hp) (Ri R0:List Rs)  (C:Sl→Nat→Nat→Nat→Nat→Int→Int→Hp→OA) (pC:List Int→Int→Int→List Int→Int→Int→Option (Bool)):Prop:=∀ {tR tS:ON} {pa fC pb fl:Nat} {tT tU:Cap} {kk kl:List Int} {km vT kL fm eT:Int},∀ {H:Hp},pa = kk.length→pb = kl.length→(Out H0 Ri H (Rs.blk fC [.int .i64 km] :: Rs.blk fl [.int .i64 vT,.int .i64 kL,.sl ⟨tS,pb,tU⟩] :: R0) fun R=>ROs (eInt .i64) H R ⟨tR,pa,tT⟩ kk∧ROs (eInt .i64) H R ⟨tS,pb,tU⟩ kl)→∀ {r:Bool},pC kk km kL kl fm eT = some r→∃ v H',C ⟨tR,pa,tT⟩ fC 0 fl 0 fm eT H = some (v,H')∧aS.Q H0 Ri R0  r v H'
def aS.pl125 (F:Nat) :Nat→List Int→Int→Int→List Int→Int→Int→Option (Bool)
 | 0,_,_,_,_,_,_=>none
 | k + 1,kk,km,kL,kl,fm,eT=>(bif (decide (eT < fm)) then ((bA.p F kL kl eT).bind fun r1=>(aR.p F r1 kk).bind fun r4=>(if km = 0 then none else ((bif ((Int.tmod r4 km) != 0) then (some false) else (aS.pl125 F k kk km kL kl fm (IntKind.i64.wrap (eT + 1))))))) else (some true))
termination_by structural n=>n
theorem aS.l125_P {F:Nat} {H0:Hp} {Ri R0:List Rs}  :∀ k,aS.S125 H0 Ri R0  (aS.l125 F (br.tw F) (bw.tw F) (bz.tw F) (aN.tw F) (bH.tw F) (bA.tw F) (aR.tw F)  k) (aS.pl125 F  k):=by
 intro k
 induction k with
 | zero=>
  intro tR tS pa fC pb fl tT tU kk kl km vT kL fm eT H Bm Bn h0 r hp
  exact nomatch (show (none:Option (Bool)) = some r from hp)
 | succ k ih=>
  intro tR tS pa fC pb fl tT tU kk kl km vT kL fm eT H Bm Bn h0 r hp
  obtain ⟨w0,s0,Bo,Bp⟩:=h0
  subst Bm
  subst Bn
  unfold aS.pl125 at hp
  unfold aS.l125
  refine bif_ex (fun hb=>?_) (fun hb=>?_)
  ·replace hp:=bif_t hb hp
   refine bind_ex (ldI_of (w0.ld (i:=1) rfl rfl)) ?_
   refine bind_ex (ldI_of (w0.ld (i:=1) rfl rfl)) ?_
   refine bind_ex (ldSl_of (w0.ld (i:=1) rfl rfl)) ?_
   obtain ⟨r1,e1,hp⟩:=bind_some' hp
   refine call_ex (bA.P rfl ⟨w0,Bp⟩ e1) ?_
   rintro _ H2 ⟨o0a_2,o0n_2,o0c_2,rfl,rfl,w2,s2,f2_0⟩
   refine bind_ex rfl ?_
   refine ifs_ex (W.cons_of (Rn:=[]) w0 w2 s2) ?_
   obtain ⟨r4,e4,hp⟩:=bind_some' hp
   refine call_ex (aR.P rfl rfl ⟨w2,f2_0,(Bo.step s2)⟩ e4) ?_
   rintro _ H5 ⟨rfl,w5,s5,_⟩
   refine bind_ex rfl ?_
   refine ifs_ex (W.cons_of (Rn:=[]) w2 w5 s5) ?_
   refine bind_ex (ldI_of (w5.ld (i:=0) rfl rfl)) ?_
   obtain ⟨g7,hp⟩:=ifn_p hp
   refine ifn_ex g7 ?_
   refine bif_ex (fun hb=>?_) (fun hb=>?_)
   ·replace hp:=bif_t hb hp
    obtain ⟨w8,s8⟩:=w5.pick' [] 2 rfl rfl rfl
    dsimp only [pk,pks,nth,List.drop] at w8 s8
    obtain rfl:=Option.some.inj hp
    exact ⟨_,_,rfl,rfl,w8,(s0.trans (s2.trans (s5.trans s8))),trivial⟩
   ·replace hp:=bif_f hb hp
    exact ih rfl rfl ⟨w5,(s0.trans (s2.trans s5)),(Bo.step (s2.trans s5)),(Bp.step (s2.trans s5))⟩ hp
  ·replace hp:=bif_f hb hp
   obtain ⟨w9,s9⟩:=w0.pick' [] 2 rfl rfl rfl
   dsimp only [pk,pks,nth,List.drop] at w9 s9
   obtain rfl:=Option.some.inj hp
   exact ⟨_,_,rfl,rfl,w9,(s0.trans s9),trivial⟩
def aS.p (F:Nat) (ac:List (Int×Int×Int×Int×Int)) (ab:Int) (af:Int) (dg:List Int):Option (Bool):=(br.p F ac ab).bind fun r3=>(bif (!r3) then (some false) else ((bw.p F af).bind fun r6=>(bif (!r6) then (some false) else ((bz.p F dg af).bind fun r9=>(bif r9 then (some false) else ((aN.p F ac ab).bind fun r12=>(bH.p F dg).bind fun r18=>(bif (r18 != r12.2.1) then (some false) else (aS.pl125 F F dg af r12.2.1 r12.2.2 r12.1 0))))))))
theorem aS.P {F:Nat} {av jQ:ON} {aj iG:Nat} {aw jR:Cap} {ac:List (Int×Int×Int×Int×Int)} {ab af:Int} {dg:List Int} {H:Hp} {R0:List Rs} (ba:aj = ac.length) (nQ:iG = dg.length) (h0:Inn H R0 fun R=>ROs (ePair (eInt .i64) (ePair (eInt .i64) (ePair (eInt .i64) (ePair (eInt .i64) (eInt .i64))))) H R ⟨av,aj,aw⟩ ac∧ROs (eInt .i64) H R ⟨jQ,iG,jR⟩ dg) {r:Bool} (hp:aS.p F ac ab af dg = some r):∃ v H',aS.tw F ⟨av,aj,aw⟩ ab af ⟨jQ,iG,jR⟩ H = some (v,H')∧aS.Q H R0 R0  r v H':=by
 obtain ⟨w0,aH,jk⟩:=h0
 subst ba
 subst nQ
 unfold aS.p at hp
 unfold aS.tw aS.twX
 have s0:=w0.rf
 refine new_k w0 fun H1 w1 s1=>?_
 refine new_k w1 fun H2 w2 s2=>?_
 refine bind_ex (ldSl_of (w2.ld (i:=1) rfl rfl)) ?_
 refine bind_ex (ldI_of (w2.ld (i:=1) rfl rfl)) ?_
 obtain ⟨r3,e3,hp⟩:=bind_some' hp
 refine call_ex (br.P rfl ⟨w2,(aH.step (s1.trans s2))⟩ e3) ?_
 rintro _ H4 ⟨rfl,w4,s4,_⟩
 refine bind_ex rfl ?_
 refine bif_ex (fun hb=>?_) (fun hb=>?_)
 ·replace hp:=bif_t hb hp
  obtain ⟨w5,s5⟩:=w4.pick' [] 2 rfl rfl rfl
  dsimp only [pk,pks,nth,List.drop] at w5 s5
  obtain rfl:=Option.some.inj hp
  exact ⟨_,_,rfl,rfl,w5,(s0.trans (s1.trans (s2.trans (s4.trans s5)))),trivial⟩
 ·replace hp:=bif_f hb hp
  refine bind_ex (ldI_of (w4.ld (i:=0) rfl rfl)) ?_
  obtain ⟨r6,e6,hp⟩:=bind_some' hp
  refine call_ex (bw.P ⟨w4,trivial⟩ e6) ?_
  rintro _ H7 ⟨rfl,w7,s7,_⟩
  refine bind_ex rfl ?_
  refine bif_ex (fun hb=>?_) (fun hb=>?_)
  ·replace hp:=bif_t hb hp
   obtain ⟨w8,s8⟩:=w7.pick' [] 2 rfl rfl rfl
   dsimp only [pk,pks,nth,List.drop] at w8 s8
   obtain rfl:=Option.some.inj hp
   exact ⟨_,_,rfl,rfl,w8,(s0.trans (s1.trans (s2.trans (s4.trans (s7.trans s8))))),trivial⟩
  ·replace hp:=bif_f hb hp
   obtain ⟨r9,e9,hp⟩:=bind_some' hp
   refine call_ex (bz.P rfl ⟨w7,(jk.step (s1.trans (s2.trans (s4.trans s7))))⟩ e9) ?_
   rintro _ H10 ⟨rfl,w10,s10,_⟩
   refine bind_ex rfl ?_
   refine bif_ex (fun hb=>?_) (fun hb=>?_)
   ·replace hp:=bif_t hb hp
    obtain ⟨w11,s11⟩:=w10.pick' [] 2 rfl rfl rfl
    dsimp only [pk,pks,nth,List.drop] at w11 s11
    obtain rfl:=Option.some.inj hp
    exact ⟨_,_,rfl,rfl,w11,(s0.trans (s1.trans (s2.trans (s4.trans (s7.trans (s10.trans s11)))))),trivial⟩
   ·replace hp:=bif_f hb hp
    refine bind_ex (ldSl_of (w10.ld (i:=1) rfl rfl)) ?_
    refine bind_ex (ldI_of (w10.ld (i:=1) rfl rfl)) ?_
    obtain ⟨r12,e12,hp⟩:=bind_some' hp
    refine call_ex (aN.P rfl ⟨w10,(aH.step (s1.trans (s2.trans (s4.trans (s7.trans s10)))))⟩ e12) ?_
    rintro _ H13 ⟨o2a_13,o2n_13,o2c_13,o2k_13,rfl,rfl,w13,s13,f13_0⟩
    refine bind_ex rfl ?_
    refine bind_ex rfl ?_
    refine bind_ex rfl ?_
    refine bind_ex rfl ?_
    refine bind_ex rfl ?_
    refine bind_ex rfl ?_
    refine bind_ex rfl ?_
    refine new_k w13 fun H14 w14 s14=>?_
    refine st_k w14 (i:=0) rfl rfl rfl fun H15 w15 s15=>?_
    dsimp only [List.set] at w15 s15
    refine st_k w15 (i:=0) rfl rfl rfl fun H16 w16 s16=>?_
    dsimp only [List.set] at w16 s16
    refine st_k w16 (i:=0) rfl rfl rfl fun H17 w17 s17=>?_
    dsimp only [List.set] at w17 s17
    obtain ⟨r18,e18,hp⟩:=bind_some' hp
    refine call_ex (bH.P rfl ⟨w17,(jk.step (s1.trans (s2.trans (s4.trans (s7.trans (s10.trans (s13.trans (s14.trans (s15.trans (s16.trans s17))))))))))⟩ e18) ?_
    rintro _ H19 ⟨rfl,w19,s19,_⟩
    refine bind_ex rfl ?_
    refine ifs_ex (W.cons_of (Rn:=[]) w17 w19 s19) ?_
    refine bind_ex (ldI_of (w19.ld (i:=0) rfl rfl)) ?_
    refine bif_ex (fun hb=>?_) (fun hb=>?_)
    ·replace hp:=bif_t hb hp
     obtain ⟨w21,s21⟩:=w19.pick' [] 4 rfl rfl rfl
     dsimp only [pk,pks,nth,List.drop] at w21 s21
     obtain rfl:=Option.some.inj hp
     exact ⟨_,_,rfl,rfl,w21,(s0.trans (s1.trans (s2.trans (s4.trans (s7.trans (s10.trans (s13.trans (s14.trans (s15.trans (s16.trans (s17.trans (s19.trans s21)))))))))))),trivial⟩
    ·replace hp:=bif_f hb hp
     refine bind_ex (ldI_of (w19.ld (i:=0) rfl rfl)) ?_
     obtain ⟨w22,s22,f22⟩:=w19.frz (i:=1) (eInt .i64) rfl (f13_0.step (s14.trans (s15.trans (s16.trans (s17.trans s19)))))
     dsimp only [List.eraseIdx] at w22 s22 f22
     obtain ⟨w23,s23⟩:=w22.pick' [1,0] 3 rfl rfl rfl
     dsimp only [pk,pks,nth,List.drop] at w23 s23
     exact aS.l125_P F rfl rfl ⟨w23,(s0.trans (s1.trans (s2.trans (s4.trans (s7.trans (s10.trans (s13.trans (s14.trans (s15.trans (s16.trans (s17.trans (s19.trans (s22.trans s23))))))))))))),(jk.step (s1.trans (s2.trans (s4.trans (s7.trans (s10.trans (s13.trans (s14.trans (s15.trans (s16.trans (s17.trans (s19.trans (s22.trans s23))))))))))))),(f22.step s23)⟩ hp
def bI.Q (H0:Hp) (Ri R0:List Rs)  (r:Bool) (v:AV) (H':Hp):Prop:=v = (.bool r)∧Out H0 Ri H' (R0) fun R=>True
def bI.p (F:Nat) (aa:Int) (ab:Int) (ah:Int) (az:Int) (ax:Int) (bd:Int) (fK:Int) (fL:Int) (fM:Int) (fN:Int):Option (Bool):=(bif (aa != bd) then (some false) else ((bif (ab != fK) then (some false) else ((bif (ah != fL) then (some false) else ((bif (az != fM) then (some false) else ((bif (ax != fN) then (some false) else (some true))))))))))
theorem bI.P {F:Nat} {aa ab ah az ax bd fK fL fM fN:Int} {H:Hp} {R0:List Rs}  (h0:Inn H R0 fun R=>True) {r:Bool} (hp:bI.p F aa ab ah az ax bd fK fL fM fN = some r):∃ v H',bI.tw F aa ab ah az ax bd fK fL fM fN H = some (v,H')∧bI.Q H R0 R0  r v H':=by
 obtain ⟨w0,_⟩:=h0
 unfold bI.p at hp
 unfold bI.tw bI.twX
 have s0:=w0.rf
 refine new_k w0 fun H1 w1 s1=>?_
 refine new_k w1 fun H2 w2 s2=>?_
 refine bind_ex (ldI_of (w2.ld (i:=1) rfl rfl)) ?_
 refine bind_ex (ldI_of (w2.ld (i:=0) rfl rfl)) ?_
 refine bif_ex (fun hb=>?_) (fun hb=>?_)
 ·replace hp:=bif_t hb hp
  obtain ⟨w3,s3⟩:=w2.pick' [] 2 rfl rfl rfl
  dsimp only [pk,pks,nth,List.drop] at w3 s3
  obtain rfl:=Option.some.inj hp
  exact ⟨_,_,rfl,rfl,w3,(s0.trans (s1.trans (s2.trans s3))),trivial⟩
 ·replace hp:=bif_f hb hp
  refine bind_ex (ldI_of (w2.ld (i:=1) rfl rfl)) ?_
  refine bind_ex (ldI_of (w2.ld (i:=0) rfl rfl)) ?_
  refine bif_ex (fun hb=>?_) (fun hb=>?_)
  ·replace hp:=bif_t hb hp
   obtain ⟨w4,s4⟩:=w2.pick' [] 2 rfl rfl rfl
   dsimp only [pk,pks,nth,List.drop] at w4 s4
   obtain rfl:=Option.some.inj hp
   exact ⟨_,_,rfl,rfl,w4,(s0.trans (s1.trans (s2.trans s4))),trivial⟩
  ·replace hp:=bif_f hb hp
   refine bind_ex (ldI_of (w2.ld (i:=1) rfl rfl)) ?_
   refine bind_ex (ldI_of (w2.ld (i:=0) rfl rfl)) ?_
   refine bif_ex (fun hb=>?_) (fun hb=>?_)
   ·replace hp:=bif_t hb hp
    obtain ⟨w5,s5⟩:=w2.pick' [] 2 rfl rfl rfl
    dsimp only [pk,pks,nth,List.drop] at w5 s5
    obtain rfl:=Option.some.inj hp
    exact ⟨_,_,rfl,rfl,w5,(s0.trans (s1.trans (s2.trans s5))),trivial⟩
   ·replace hp:=bif_f hb hp
    refine bind_ex (ldI_of (w2.ld (i:=1) rfl rfl)) ?_
    refine bind_ex (ldI_of (w2.ld (i:=0) rfl rfl)) ?_
    refine bif_ex (fun hb=>?_) (fun hb=>?_)
    ·replace hp:=bif_t hb hp
     obtain ⟨w6,s6⟩:=w2.pick' [] 2 rfl rfl rfl
     dsimp only [pk,pks,nth,List.drop] at w6 s6
     obtain rfl:=Option.some.inj hp
     exact ⟨_,_,rfl,rfl,w6,(s0.trans (s1.trans (s2.trans s6))),trivial⟩
    ·replace hp:=bif_f hb hp
     refine bind_ex (ldI_of (w2.ld (i:=1) rfl rfl)) ?_
     refine bind_ex (ldI_of (w2.ld (i:=0) rfl rfl)) ?_
     refine bif_ex (fun hb=>?_) (fun hb=>?_)
     ·replace hp:=bif_t hb hp
      obtain ⟨w7,s7⟩:=w2.pick' [] 2 rfl rfl rfl
      dsimp only [pk,pks,nth,List.drop] at w7 s7
      obtain rfl:=Option.some.inj hp
      exact ⟨_,_,rfl,rfl,w7,(s0.trans (s1.trans (s2.trans s7))),trivial⟩
     ·replace hp:=bif_f hb hp
      obtain ⟨w8,s8⟩:=w2.pick' [] 2 rfl rfl rfl
      dsimp only [pk,pks,nth,List.drop] at w8 s8
      obtain rfl:=Option.some.inj hp
      exact ⟨_,_,rfl,rfl,w8,(s0.trans (s1.trans (s2.trans s8))),trivial⟩
def aW.Q (H0:Hp) (Ri R0:List Rs)  (r:Bool) (v:AV) (H':Hp):Prop:=v = (.bool r)∧Out H0 Ri H' (R0) fun R=>True
def aW.S29 (H0:Hp) (Ri R0:List Rs)  (C:Sl→Sl→Int→Hp→OA) (pC:List (Int×Int×Int×Int×Int)→List (Int×Int×Int×Int×Int)→Int→Option (Bool)):Prop:=∀ {fo gA:ON} {dR fO:Nat} {fp gB:Cap} {bR cB:List (Int×Int×Int×Int×Int)} {ca:Int},∀ {H:Hp},dR = bR.length→fO = cB.length→(Out H0 Ri H R0 fun R=>ROs (ePair (eInt .i64) (ePair (eInt .i64) (ePair (eInt .i64) (ePair (eInt .i64) (eInt .i64))))) H R ⟨fo,dR,fp⟩ bR∧ROs (ePair (eInt .i64) (ePair (eInt .i64) (ePair (eInt .i64) (ePair (eInt .i64) (eInt .i64))))) H R ⟨gA,fO,gB⟩ cB)→∀ {r:Bool},pC bR cB ca = some r→∃ v H',C ⟨fo,dR,fp⟩ ⟨gA,fO,gB⟩ ca H = some (v,H')∧aW.Q H0 Ri R0  r v H'
def aW.pl29 (F:Nat) :Nat→List (Int×Int×Int×Int×Int)→List (Int×Int×Int×Int×Int)→Int→Option (Bool)
 | 0,_,_,_=>none
 | k + 1,bR,cB,ca=>(bif (decide (ca < (bR.length:Int))) then ((ix bR ca).bind fun n1=>(ix cB ca).bind fun n2=>(bI.p F ((gt bR n1).1) ((gt bR n1).2.1) ((gt bR n1).2.2.1) ((gt bR n1).2.2.2.1) ((gt bR n1).2.2.2.2) ((gt cB n2).1) ((gt cB n2).2.1) ((gt cB n2).2.2.1) ((gt cB n2).2.2.2.1) ((gt cB n2).2.2.2.2)).bind fun r3=>(bif (!r3) then (some false) else (aW.pl29 F k bR cB (IntKind.i64.wrap (ca + 1))))) else (some true))
termination_by structural n=>n
theorem aW.l29_P {F:Nat} {H0:Hp} {Ri R0:List Rs}  :∀ k,aW.S29 H0 Ri R0  (aW.l29 F (bI.tw F)  k) (aW.pl29 F  k):=by
 intro k
 induction k with
 | zero=>
  intro fo gA dR fO fp gB bR cB ca H il kf h0 r hp
  exact nomatch (show (none:Option (Bool)) = some r from hp)
 | succ k ih=>
  intro fo gA dR fO fp gB bR cB ca H il kf h0 r hp
  obtain ⟨w0,s0,im,kg⟩:=h0
  subst il
  subst kf
  unfold aW.pl29 at hp
  unfold aW.l29
  refine bif_ex (fun hb=>?_) (fun hb=>?_)
  ·replace hp:=bif_t hb hp
   obtain ⟨n1,g1,hp⟩:=bind_some' hp
   obtain ⟨p1,q1,i1,h1,j1⟩:=ROs.ixr im rfl g1
   refine bind_ex i1 ?_
   obtain ⟨_,_,rfl,rfl,_,_,rfl,rfl,_,_,rfl,rfl,_,_,rfl,rfl,rfl⟩:=h1
   refine bind_ex (ldI_of (j1 0 _ rfl)) ?_
   refine bind_ex (ldI_of (j1 1 _ rfl)) ?_
   refine bind_ex (ldI_of (j1 2 _ rfl)) ?_
   refine bind_ex (ldI_of (j1 3 _ rfl)) ?_
   refine bind_ex (ldI_of (j1 4 _ rfl)) ?_
   obtain ⟨n2,g2,hp⟩:=bind_some' hp
   obtain ⟨p2,q2,i2,h2,j2⟩:=ROs.ixr kg rfl g2
   refine bind_ex i2 ?_
   obtain ⟨_,_,rfl,rfl,_,_,rfl,rfl,_,_,rfl,rfl,_,_,rfl,rfl,rfl⟩:=h2
   refine bind_ex (ldI_of (j2 0 _ rfl)) ?_
   refine bind_ex (ldI_of (j2 1 _ rfl)) ?_
   refine bind_ex (ldI_of (j2 2 _ rfl)) ?_
   refine bind_ex (ldI_of (j2 3 _ rfl)) ?_
   refine bind_ex (ldI_of (j2 4 _ rfl)) ?_
   obtain ⟨r3,e3,hp⟩:=bind_some' hp
   refine call_ex (bI.P ⟨w0,trivial⟩ e3) ?_
   rintro _ H4 ⟨rfl,w4,s4,_⟩
   refine bind_ex rfl ?_
   refine bif_ex (fun hb=>?_) (fun hb=>?_)
   ·replace hp:=bif_t hb hp
    obtain rfl:=Option.some.inj hp
    exact ⟨_,_,rfl,rfl,w4,(s0.trans s4),trivial⟩
   ·replace hp:=bif_f hb hp
    exact ih rfl rfl ⟨w4,(s0.trans s4),(im.step s4),(kg.step s4)⟩ hp
  ·replace hp:=bif_f hb hp
   obtain rfl:=Option.some.inj hp
   exact ⟨_,_,rfl,rfl,w0,s0,trivial⟩
def aW.p (F:Nat) (ac:List (Int×Int×Int×Int×Int)) (ft:List (Int×Int×Int×Int×Int)):Option (Bool):=(bif ((ac.length:Int) != (ft.length:Int)) then (some false) else (aW.pl29 F F ac ft 0))
theorem aW.P {F:Nat} {av kh:ON} {aj iL:Nat} {aw ki:Cap} {ac ft:List (Int×Int×Int×Int×Int)} {H:Hp} {R0:List Rs} (ba:aj = ac.length) (oX:iL = ft.length) (h0:Inn H R0 fun R=>ROs (ePair (eInt .i64) (ePair (eInt .i64) (ePair (eInt .i64) (ePair (eInt .i64) (eInt .i64))))) H R ⟨av,aj,aw⟩ ac∧ROs (ePair (eInt .i64) (ePair (eInt .i64) (ePair (eInt .i64) (ePair (eInt .i64) (eInt .i64))))) H R ⟨kh,iL,ki⟩ ft) {r:Bool} (hp:aW.p F ac ft = some r):∃ v H',aW.tw F ⟨av,aj,aw⟩ ⟨kh,iL,ki⟩ H = some (v,H')∧aW.Q H R0 R0  r v H':=by
 obtain ⟨w0,aH,oY⟩:=h0
 subst ba
 subst oX
 unfold aW.p at hp
 unfold aW.tw aW.twX
 have s0:=w0.rf
 refine bif_ex (fun hb=>?_) (fun hb=>?_)
 ·replace hp:=bif_t hb hp
  obtain rfl:=Option.some.inj hp
  exact ⟨_,_,rfl,rfl,w0,s0,trivial⟩
 ·replace hp:=bif_f hb hp
  exact aW.l29_P F rfl rfl ⟨w0,s0,aH,oY⟩ hp
def bB.Q (H0:Hp) (Ri R0:List Rs)  (r:Bool) (v:AV) (H':Hp):Prop:=v = (.bool r)∧Out H0 Ri H' (R0) fun R=>True
def bB.p (F:Nat) (ac:List (Int×Int×Int×Int×Int)) (ab:Int) (dh:List (Int×Int×Int×Int×Int)) (ar:Int):Option (Bool):=(aW.p F ac dh).bind fun r3=>(bif (!r3) then (some false) else ((bif (ab != ar) then (some false) else (some true))))
theorem bB.P {F:Nat} {av iH:ON} {aj gk:Nat} {aw iI:Cap} {ac dh:List (Int×Int×Int×Int×Int)} {ab ar:Int} {H:Hp} {R0:List Rs} (ba:aj = ac.length) (kC:gk = dh.length) (h0:Inn H R0 fun R=>ROs (ePair (eInt .i64) (ePair (eInt .i64) (ePair (eInt .i64) (ePair (eInt .i64) (eInt .i64))))) H R ⟨av,aj,aw⟩ ac∧ROs (ePair (eInt .i64) (ePair (eInt .i64) (ePair (eInt .i64) (ePair (eInt .i64) (eInt .i64))))) H R ⟨iH,gk,iI⟩ dh) {r:Bool} (hp:bB.p F ac ab dh ar = some r):∃ v H',bB.tw F ⟨av,aj,aw⟩ ab ⟨iH,gk,iI⟩ ar H = some (v,H')∧bB.Q H R0 R0  r v H':=by
 obtain ⟨w0,aH,kD⟩:=h0
 subst ba
 subst kC
 unfold bB.p at hp
 unfold bB.tw bB.twX
 have s0:=w0.rf
 refine new_k w0 fun H1 w1 s1=>?_
 refine new_k w1 fun H2 w2 s2=>?_
 refine bind_ex (ldSl_of (w2.ld (i:=1) rfl rfl)) ?_
 refine bind_ex (ldSl_of (w2.ld (i:=0) rfl rfl)) ?_
 obtain ⟨r3,e3,hp⟩:=bind_some' hp
 refine call_ex (aW.P rfl rfl ⟨w2,(aH.step (s1.trans s2)),(kD.step (s1.trans s2))⟩ e3) ?_
 rintro _ H4 ⟨rfl,w4,s4,_⟩
 refine bind_ex rfl ?_
 refine bif_ex (fun hb=>?_) (fun hb=>?_)
 ·replace hp:=bif_t hb hp
  obtain ⟨w5,s5⟩:=w4.pick' [] 2 rfl rfl rfl
  dsimp only [pk,pks,nth,List.drop] at w5 s5
  obtain rfl:=Option.some.inj hp
  exact ⟨_,_,rfl,rfl,w5,(s0.trans (s1.trans (s2.trans (s4.trans s5)))),trivial⟩
 ·replace hp:=bif_f hb hp
  refine bind_ex (ldI_of (w4.ld (i:=1) rfl rfl)) ?_
  refine bind_ex (ldI_of (w4.ld (i:=0) rfl rfl)) ?_
  refine bif_ex (fun hb=>?_) (fun hb=>?_)
  ·replace hp:=bif_t hb hp
   obtain ⟨w6,s6⟩:=w4.pick' [] 2 rfl rfl rfl
   dsimp only [pk,pks,nth,List.drop] at w6 s6
   obtain rfl:=Option.some.inj hp
   exact ⟨_,_,rfl,rfl,w6,(s0.trans (s1.trans (s2.trans (s4.trans s6)))),trivial⟩
  ·replace hp:=bif_f hb hp
   obtain ⟨w7,s7⟩:=w4.pick' [] 2 rfl rfl rfl
   dsimp only [pk,pks,nth,List.drop] at w7 s7
   obtain rfl:=Option.some.inj hp
   exact ⟨_,_,rfl,rfl,w7,(s0.trans (s1.trans (s2.trans (s4.trans s7)))),trivial⟩
def aX.Q (H0:Hp) (Ri R0:List Rs)  (r:Bool) (v:AV) (H':Hp):Prop:=v = (.bool r)∧Out H0 Ri H' (R0) fun R=>True
end Go.Proofs.Ythfinhmkgdmelaa.AE
