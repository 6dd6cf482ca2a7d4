import Derived.Test.YtppbogklbhfboaaT2
import Derived.Test.YtppbogklbhfboaaE2
set_option linter.unusedVariables false
set_option linter.unusedSimpArgs false
namespace Go.Proofs.Ytppbogklbhfboaa.AE
open Go Go.AE Go.Proofs
set_option linter.unusedVariables false
set_option maxHeartbeats 4000000
set_option maxRecDepth 100000
noncomputable section
theorem ba.inl {F:Nat} {aa:Int} {ab:Int} {ax:Sl} {aB:Int} {aV:Int} {H:Hp} {K:AV×Hp→OA} {Q:AV→Hp→Prop} (h:∃ u H1,((Hp.new H [(.int .i64 aa),(.int .i64 ab),(.sl ax)]).bind fun H6=>(Hp.ldSl H6 H.length 2).bind fun s7=>(Hp.ldI H6 .i64 H.length 1).bind fun n8=>(Sl.idx s7 (IntKind.i64.wrap ((IntKind.i64.wrap (aB * n8)) + aV)) 1).bind fun p9=>some ((.ptr p9.1 p9.2),H6)) = some (u,H1)∧∃ v H',K (u,H1) = some (v,H')∧Q v H'):∃ v H',(ba.tw F aa ab ax aB aV H).bind K = some (v,H')∧Q v H':=inl_ex h
def cc.Q (H0:Hp) (Ri R0:List Rs)  (r:Int) (v:AV) (H':Hp):Prop:=v = (.int .i64 r)∧Out H0 Ri H' (R0) fun R=>True
def cc.p (F:Nat) (af:List (Int×Int×Int×Int×Int)) (ak:Int):Option (Int):=(bif (decide ((IntKind.i64.wrap (ak - (af.length:Int))) < 0)) then (some (-1)) else (some (IntKind.i64.wrap (ak - (af.length:Int)))))
theorem cc.P {F:Nat} {aF:ON} {ay:Nat} {aG:Cap} {af:List (Int×Int×Int×Int×Int)} {ak:Int} {H:Hp} {R0:List Rs} (bm:ay = af.length) (h0:Inn H R0 fun R=>ROs (ePair (eInt .i64) (ePair (eInt .i64) (ePair (eInt .i64) (ePair (eInt .i64) (eInt .i64))))) H R ⟨aF,ay,aG⟩ af) {r:Int} (hp:cc.p F af ak = some r):∃ v H',cc.tw F ⟨aF,ay,aG⟩ ak H = some (v,H')∧cc.Q H R0 R0  r v H':=by
 obtain ⟨w0,aS⟩:=h0
 subst bm
 unfold cc.p at hp
 unfold cc.tw cc.twX
 have s0:=w0.rf
 refine bif_ex (fun hb=>?_) (fun hb=>?_)
 ·replace hp:=bif_t hb hp
  obtain rfl:=Option.some.inj hp
  exact ⟨_,_,rfl,rfl,w0,s0,trivial⟩
 ·replace hp:=bif_f hb hp
  obtain rfl:=Option.some.inj hp
  exact ⟨_,_,rfl,rfl,w0,s0,trivial⟩
def bV.Q (H0:Hp) (Ri R0:List Rs)  (r:Int) (v:AV) (H':Hp):Prop:=v = (.int .i64 r)∧Out H0 Ri H' (R0) fun R=>True
def bV.p (F:Nat) (af:List (Int×Int×Int×Int×Int)) (au:Int):Option (Int):=(cc.p F af au).bind fun r2=>(bif (decide (r2 < 0)) then (some (-1)) else (some r2))
theorem bV.P {F:Nat} {aF:ON} {ay:Nat} {aG:Cap} {af:List (Int×Int×Int×Int×Int)} {ab au:Int} {H:Hp} {R0:List Rs} (bm:ay = af.length) (h0:Inn H R0 fun R=>ROs (ePair (eInt .i64) (ePair (eInt .i64) (ePair (eInt .i64) (ePair (eInt .i64) (eInt .i64))))) H R ⟨aF,ay,aG⟩ af) {r:Int} (hp:bV.p F af au = some r):∃ v H',bV.tw F ⟨aF,ay,aG⟩ ab au H = some (v,H')∧bV.Q H R0 R0  r v H':=by
 obtain ⟨w0,aS⟩:=h0
 subst bm
 unfold bV.p at hp
 unfold bV.tw bV.twX
 have s0:=w0.rf
 refine new_k w0 fun H1 w1 s1=>?_
 refine bind_ex (ldSl_of (w1.ld (i:=0) rfl rfl)) ?_
 obtain ⟨r2,e2,hp⟩:=bind_some' hp
 refine call_ex (cc.P rfl ⟨w1,(aS.step s1)⟩ e2) ?_
 rintro _ H3 ⟨rfl,w3,s3,_⟩
 refine bind_ex rfl ?_
 refine bif_ex (fun hb=>?_) (fun hb=>?_)
 ·replace hp:=bif_t hb hp
  obtain ⟨w4,s4⟩:=w3.pick' [] 1 rfl rfl rfl
  dsimp only [pk,pks,nth,List.drop] at w4 s4
  obtain rfl:=Option.some.inj hp
  exact ⟨_,_,rfl,rfl,w4,(s0.trans (s1.trans (s3.trans s4))),trivial⟩
 ·replace hp:=bif_f hb hp
  obtain ⟨w5,s5⟩:=w3.pick' [] 1 rfl rfl rfl
  dsimp only [pk,pks,nth,List.drop] at w5 s5
  obtain rfl:=Option.some.inj hp
  exact ⟨_,_,rfl,rfl,w5,(s0.trans (s1.trans (s3.trans s5))),trivial⟩
def cd.Q (H0:Hp) (Ri R0:List Rs)  (r:Int×Int×Int×Int×Int) (v:AV) (H':Hp):Prop:=v = (.agg [(.int .i64 r.1),(.int .i64 r.2.1),(.int .i64 r.2.2.1),(.int .i64 r.2.2.2.1),(.int .i64 r.2.2.2.2)])∧Out H0 Ri H' (R0) fun R=>True
def cd.p (F:Nat) (aa:Int) (ab:Int) (ax:Int) (aM:Int) (aJ:Int):Option (Int×Int×Int×Int×Int):=some (aa,ab,ax,aM,aJ)
theorem cd.P {F:Nat} {aa ab ax aM aJ:Int} {H:Hp} {R0:List Rs}  (h0:Inn H R0 fun R=>True) {r:Int×Int×Int×Int×Int} (hp:cd.p F aa ab ax aM aJ = some r):∃ v H',cd.tw F aa ab ax aM aJ H = some (v,H')∧cd.Q H R0 R0  r v H':=by
 obtain ⟨w0,_⟩:=h0
 unfold cd.p at hp
 unfold cd.tw cd.twX
 have s0:=w0.rf
 refine new_k w0 fun H1 w1 s1=>?_
 refine new_k w1 fun H2 w2 s2=>?_
 refine new_k w2 fun H3 w3 s3=>?_
 refine bind_ex (ldI_of (w3.ld (i:=2) rfl rfl)) ?_
 refine st_k w3 (i:=0) rfl rfl rfl fun H4 w4 s4=>?_
 dsimp only [List.set] at w4 s4
 refine bind_ex (ldI_of (w4.ld (i:=2) rfl rfl)) ?_
 refine st_k w4 (i:=0) rfl rfl rfl fun H5 w5 s5=>?_
 dsimp only [List.set] at w5 s5
 refine bind_ex (ldI_of (w5.ld (i:=2) rfl rfl)) ?_
 refine st_k w5 (i:=0) rfl rfl rfl fun H6 w6 s6=>?_
 dsimp only [List.set] at w6 s6
 refine bind_ex (ldI_of (w6.ld (i:=2) rfl rfl)) ?_
 refine st_k w6 (i:=0) rfl rfl rfl fun H7 w7 s7=>?_
 dsimp only [List.set] at w7 s7
 refine bind_ex (ldI_of (w7.ld (i:=2) rfl rfl)) ?_
 refine st_k w7 (i:=0) rfl rfl rfl fun H8 w8 s8=>?_
 dsimp only [List.set] at w8 s8
 refine bind_ex (ldI_of (w8.ld (i:=0) rfl rfl)) ?_
 refine bind_ex (ldI_of (w8.ld (i:=0) rfl rfl)) ?_
 refine bind_ex (ldI_of (w8.ld (i:=0) rfl rfl)) ?_
 refine bind_ex (ldI_of (w8.ld (i:=0) rfl rfl)) ?_
 refine bind_ex (ldI_of (w8.ld (i:=0) rfl rfl)) ?_
 refine st_k w8 (i:=1) rfl rfl rfl fun H9 w9 s9=>?_
 dsimp only [List.set] at w9 s9
 refine st_k w9 (i:=1) rfl rfl rfl fun H10 w10 s10=>?_
 dsimp only [List.set] at w10 s10
 refine st_k w10 (i:=1) rfl rfl rfl fun H11 w11 s11=>?_
 dsimp only [List.set] at w11 s11
 refine st_k w11 (i:=1) rfl rfl rfl fun H12 w12 s12=>?_
 dsimp only [List.set] at w12 s12
 refine st_k w12 (i:=1) rfl rfl rfl fun H13 w13 s13=>?_
 dsimp only [List.set] at w13 s13
 refine bind_ex (ldI_of (w13.ld (i:=1) rfl rfl)) ?_
 refine bind_ex (ldI_of (w13.ld (i:=1) rfl rfl)) ?_
 refine bind_ex (ldI_of (w13.ld (i:=1) rfl rfl)) ?_
 refine bind_ex (ldI_of (w13.ld (i:=1) rfl rfl)) ?_
 refine bind_ex (ldI_of (w13.ld (i:=1) rfl rfl)) ?_
 obtain ⟨w14,s14⟩:=w13.pick' [] 3 rfl rfl rfl
 dsimp only [pk,pks,nth,List.drop] at w14 s14
 obtain rfl:=Option.some.inj hp
 exact ⟨_,_,rfl,rfl,w14,(s0.trans (s1.trans (s2.trans (s3.trans (s4.trans (s5.trans (s6.trans (s7.trans (s8.trans (s9.trans (s10.trans (s11.trans (s12.trans (s13.trans s14)))))))))))))),trivial⟩
def bg.Q (H0:Hp) (Ri R0:List Rs)  (r:(List (Int×Int×Int×Int×Int))) (v:AV) (H':Hp):Prop:=∃ o0a:ON,∃ o0n:Nat,∃ o0c:Cap,∃ o0k:List AV,v = (.sl ⟨o0a,o0n,o0c⟩)∧o0n = (r).length∧Out H0 Ri H' (Rs.own ⟨o0a,o0n,o0c⟩ (ePair (eInt .i64) (ePair (eInt .i64) (ePair (eInt .i64) (ePair (eInt .i64) (eInt .i64))))).z o0k :: R0) fun R=>CR (ePair (eInt .i64) (ePair (eInt .i64) (ePair (eInt .i64) (ePair (eInt .i64) (eInt .i64))))) H' R o0k (r)
def bg.S29 (H0:Hp) (Ri R0:List Rs)  (C:Sl→Sl→Int→Hp→OA) (pC:List (Int×Int×Int×Int×Int)→List (Int×Int×Int×Int×Int)→Int→Option ((List (Int×Int×Int×Int×Int)))):Prop:=∀ {mX A_:ON} {lP uy:Nat} {mY Ba:Cap} {dx kx:List (Int×Int×Int×Int×Int)} {Bb:List AV} {fG:Int},∀ {H:Hp},lP = dx.length→uy = kx.length→(Out H0 Ri H (Rs.own ⟨A_,uy,Ba⟩ (ePair (eInt .i64) (ePair (eInt .i64) (ePair (eInt .i64) (ePair (eInt .i64) (eInt .i64))))).z Bb :: R0) fun R=>ROs (ePair (eInt .i64) (ePair (eInt .i64) (ePair (eInt .i64) (ePair (eInt .i64) (eInt .i64))))) H R ⟨mX,lP,mY⟩ dx∧CR (ePair (eInt .i64) (ePair (eInt .i64) (ePair (eInt .i64) (ePair (eInt .i64) (eInt .i64))))) H R Bb kx)→∀ {r:(List (Int×Int×Int×Int×Int))},pC dx kx fG = some r→∃ v H',C ⟨mX,lP,mY⟩ ⟨A_,uy,Ba⟩ fG H = some (v,H')∧bg.Q H0 Ri R0  r v H'
def bg.pl29 (F:Nat) :Nat→List (Int×Int×Int×Int×Int)→List (Int×Int×Int×Int×Int)→Int→Option ((List (Int×Int×Int×Int×Int)))
 | 0,_,_,_=>none
 | k + 1,dx,kx,fG=>(bif (decide (fG < (dx.length:Int))) then ((ix dx fG).bind fun n1=>(cd.p F ((gt dx n1).1) ((gt dx n1).2.1) ((gt dx n1).2.2.1) ((gt dx n1).2.2.2.1) ((gt dx n1).2.2.2.2)).bind fun r2=>(ix kx fG).bind fun n4=>(some (kx.set n4 (r2.1,(gt kx n4).2.1,(gt kx n4).2.2.1,(gt kx n4).2.2.2.1,(gt kx n4).2.2.2.2))).bind fun l5=>(some (l5.set n4 ((gt l5 n4).1,r2.2.1,(gt l5 n4).2.2.1,(gt l5 n4).2.2.2.1,(gt l5 n4).2.2.2.2))).bind fun l7=>(some (l7.set n4 ((gt l7 n4).1,(gt l7 n4).2.1,r2.2.2.1,(gt l7 n4).2.2.2.1,(gt l7 n4).2.2.2.2))).bind fun l9=>(some (l9.set n4 ((gt l9 n4).1,(gt l9 n4).2.1,(gt l9 n4).2.2.1,r2.2.2.2.1,(gt l9 n4).2.2.2.2))).bind fun l11=>(some (l11.set n4 ((gt l11 n4).1,(gt l11 n4).2.1,(gt l11 n4).2.2.1,(gt l11 n4).2.2.2.1,r2.2.2.2.2))).bind fun l13=>bg.pl29 F k dx l13 (IntKind.i64.wrap (fG + 1))) else (some kx))
termination_by structural n=>n
theorem bg.l29_P {F:Nat} {H0:Hp} {Ri R0:List Rs}  :∀ k,bg.S29 H0 Ri R0  (bg.l29 F (cd.tw F)  k) (bg.pl29 F  k):=by
 intro k
 induction k with
 | zero=>
  intro mX A_ lP uy mY Ba dx kx Bb fG H uz NQ h0 r hp
  exact nomatch (show (none:Option ((List (Int×Int×Int×Int×Int)))) = some r from hp)
 | succ k ih=>
  intro mX A_ lP uy mY Ba dx kx Bb fG H uz NQ h0 r hp
  obtain ⟨w0,s0,uA,In⟩:=h0
  subst uz
  subst NQ
  unfold bg.pl29 at hp
  unfold bg.l29
  refine bif_ex (fun hb=>?_) (fun hb=>?_)
  ·replace hp:=bif_t hb hp
   obtain ⟨n1,g1,hp⟩:=bind_some' hp
   obtain ⟨p1,q1,i1,h1,j1⟩:=ROs.ixr uA rfl g1
   refine bind_ex i1 ?_
   obtain ⟨_,_,rfl,rfl,_,_,rfl,rfl,_,_,rfl,rfl,_,_,rfl,rfl,rfl⟩:=h1
   refine bind_ex (ldI_of (j1 0 _ rfl)) ?_
   refine bind_ex (ldI_of (j1 1 _ rfl)) ?_
   refine bind_ex (ldI_of (j1 2 _ rfl)) ?_
   refine bind_ex (ldI_of (j1 3 _ rfl)) ?_
   refine bind_ex (ldI_of (j1 4 _ rfl)) ?_
   obtain ⟨r2,e2,hp⟩:=bind_some' hp
   refine call_ex (cd.P ⟨w0,trivial⟩ e2) ?_
   rintro _ H3 ⟨rfl,w3,s3,_⟩
   refine bind_ex rfl ?_
   refine bind_ex rfl ?_
   refine bind_ex rfl ?_
   refine bind_ex rfl ?_
   refine bind_ex rfl ?_
   refine bind_ex rfl ?_
   refine bind_ex rfl ?_
   refine bind_ex rfl ?_
   refine bind_ex rfl ?_
   refine bind_ex rfl ?_
   refine bind_ex rfl ?_
   obtain ⟨n4,g4,hp⟩:=bind_some' hp
   obtain ⟨p4,q4,i4,h4,j4⟩:=W.ixo (E:=(ePair (eInt .i64) (ePair (eInt .i64) (ePair (eInt .i64) (ePair (eInt .i64) (eInt .i64)))))) w3 (i:=0) rfl rfl (In.step s3) g4
   refine bind_ex i4 ?_
   obtain ⟨l5,e5,hp⟩:=bind_some' hp
   refine sto_k (ePair (eInt .i64) (ePair (eInt .i64) (ePair (eInt .i64) (ePair (eInt .i64) (eInt .i64))))) w3 (i:=0) (j:=0) (p:=p4) rfl rfl (In.step s3) g4 i4 e5 rfl rfl (fun _ h=>by obtain ⟨_,_,rfl,rfl,_,_,rfl,rfl,_,_,rfl,rfl,_,_,rfl,rfl,rfl⟩:=h; exact ⟨[_],_,rfl,rfl,[_],_,rfl,rfl,[_],_,rfl,rfl,[_],_,rfl,rfl,rfl⟩) fun H6 k6 w6 s6 c6=>?_
   dsimp only [List.set] at w6 s6 c6
   obtain ⟨l7,e7,hp⟩:=bind_some' hp
   refine sto_k (ePair (eInt .i64) (ePair (eInt .i64) (ePair (eInt .i64) (ePair (eInt .i64) (eInt .i64))))) w6 (i:=0) (j:=1) (p:=p4) rfl rfl c6 (ix_len g4 (st_len e5)) i4 e7 rfl rfl (fun _ h=>by obtain ⟨_,_,rfl,rfl,_,_,rfl,rfl,_,_,rfl,rfl,_,_,rfl,rfl,rfl⟩:=h; exact ⟨[_],_,rfl,rfl,[_],_,rfl,rfl,[_],_,rfl,rfl,[_],_,rfl,rfl,rfl⟩) fun H8 k8 w8 s8 c8=>?_
   dsimp only [List.set] at w8 s8 c8
   obtain ⟨l9,e9,hp⟩:=bind_some' hp
   refine sto_k (ePair (eInt .i64) (ePair (eInt .i64) (ePair (eInt .i64) (ePair (eInt .i64) (eInt .i64))))) w8 (i:=0) (j:=2) (p:=p4) rfl rfl c8 (ix_len g4 ((st_len e7).trans (st_len e5))) i4 e9 rfl rfl (fun _ h=>by obtain ⟨_,_,rfl,rfl,_,_,rfl,rfl,_,_,rfl,rfl,_,_,rfl,rfl,rfl⟩:=h; exact ⟨[_],_,rfl,rfl,[_],_,rfl,rfl,[_],_,rfl,rfl,[_],_,rfl,rfl,rfl⟩) fun H10 k10 w10 s10 c10=>?_
   dsimp only [List.set] at w10 s10 c10
   obtain ⟨l11,e11,hp⟩:=bind_some' hp
   refine sto_k (ePair (eInt .i64) (ePair (eInt .i64) (ePair (eInt .i64) (ePair (eInt .i64) (eInt .i64))))) w10 (i:=0) (j:=3) (p:=p4) rfl rfl c10 (ix_len g4 (((st_len e9).trans (st_len e7)).trans (st_len e5))) i4 e11 rfl rfl (fun _ h=>by obtain ⟨_,_,rfl,rfl,_,_,rfl,rfl,_,_,rfl,rfl,_,_,rfl,rfl,rfl⟩:=h; exact ⟨[_],_,rfl,rfl,[_],_,rfl,rfl,[_],_,rfl,rfl,[_],_,rfl,rfl,rfl⟩) fun H12 k12 w12 s12 c12=>?_
   dsimp only [List.set] at w12 s12 c12
   obtain ⟨l13,e13,hp⟩:=bind_some' hp
   refine sto_k (ePair (eInt .i64) (ePair (eInt .i64) (ePair (eInt .i64) (ePair (eInt .i64) (eInt .i64))))) w12 (i:=0) (j:=4) (p:=p4) rfl rfl c12 (ix_len g4 ((((st_len e11).trans (st_len e9)).trans (st_len e7)).trans (st_len e5))) i4 e13 rfl rfl (fun _ h=>by obtain ⟨_,_,rfl,rfl,_,_,rfl,rfl,_,_,rfl,rfl,_,_,rfl,rfl,rfl⟩:=h; exact ⟨[_],_,rfl,rfl,[_],_,rfl,rfl,[_],_,rfl,rfl,[_],_,rfl,rfl,rfl⟩) fun H14 k14 w14 s14 c14=>?_
   dsimp only [List.set] at w14 s14 c14
   exact ih rfl (((((st_len e5).symm.trans (st_len e7).symm).trans (st_len e9).symm).trans (st_len e11).symm).trans (st_len e13).symm) ⟨w14,(s0.trans (s3.trans (s6.trans (s8.trans (s10.trans (s12.trans s14)))))),(uA.step (s3.trans (s6.trans (s8.trans (s10.trans (s12.trans s14)))))),c14⟩ hp
  ·replace hp:=bif_f hb hp
   obtain rfl:=Option.some.inj hp
   exact ⟨_,_,rfl,_,_,_,_,rfl,rfl,w0,s0,In⟩
def bg.p (F:Nat) (af:List (Int×Int×Int×Int×Int)):Option ((List (Int×Int×Int×Int×Int))):=(mkn (af.length:Int) ((0:Int),(0:Int),(0:Int),(0:Int),(0:Int))).bind fun l1=>bg.pl29 F F af l1 0
theorem bg.P {F:Nat} {aF:ON} {ay:Nat} {aG:Cap} {af:List (Int×Int×Int×Int×Int)} {H:Hp} {R0:List Rs} (bm:ay = af.length) (h0:Inn H R0 fun R=>ROs (ePair (eInt .i64) (ePair (eInt .i64) (ePair (eInt .i64) (ePair (eInt .i64) (eInt .i64))))) H R ⟨aF,ay,aG⟩ af) {r:(List (Int×Int×Int×Int×Int))} (hp:bg.p F af = some r):∃ v H',bg.tw F ⟨aF,ay,aG⟩ H = some (v,H')∧bg.Q H R0 R0  r v H':=by
 obtain ⟨w0,aS⟩:=h0
 subst bm
 unfold bg.p at hp
 unfold bg.tw bg.twX
 have s0:=w0.rf
 obtain ⟨l1,e1,hp⟩:=bind_some' hp
 refine mk_k (ePair (eInt .i64) (ePair (eInt .i64) (ePair (eInt .i64) (ePair (eInt .i64) (eInt .i64))))) ((0:Int),(0:Int),(0:Int),(0:Int),(0:Int)) w0 ⟨[_],_,rfl,rfl,⟨[_],_,rfl,rfl,⟨[_],_,rfl,rfl,⟨[_],_,rfl,rfl,rfl⟩⟩⟩⟩ rfl rfl e1 fun H2 k2 w2 s2 c2=>?_
 exact bg.l29_P F rfl rfl ⟨w2,(s0.trans s2),(aS.step s2),c2⟩ hp
def bS.Q (H0:Hp) (Ri R0:List Rs)  (r:(List (Int×Int×Int×Int×Int))×Int) (v:AV) (H':Hp):Prop:=∃ o0a:ON,∃ o0n:Nat,∃ o0c:Cap,∃ o0k:List AV,v = (.agg [(.sl ⟨o0a,o0n,o0c⟩),(.int .i64 r.2)])∧o0n = (r.1).length∧Out H0 Ri H' (Rs.own ⟨o0a,o0n,o0c⟩ (ePair (eInt .i64) (ePair (eInt .i64) (ePair (eInt .i64) (ePair (eInt .i64) (eInt .i64))))).z o0k :: R0) fun R=>CR (ePair (eInt .i64) (ePair (eInt .i64) (ePair (eInt .i64) (ePair (eInt .i64) (eInt .i64))))) H' R o0k (r.1)
def bS.p (F:Nat) (af:List (Int×Int×Int×Int×Int)) (ab:Int):Option ((List (Int×Int×Int×Int×Int))×Int):=(bg.p F af).bind fun r4=>some (r4,ab)
theorem bS.P {F:Nat} {aF:ON} {ay:Nat} {aG:Cap} {af:List (Int×Int×Int×Int×Int)} {ab:Int} {H:Hp} {R0:List Rs} (bm:ay = af.length) (h0:Inn H R0 fun R=>ROs (ePair (eInt .i64) (ePair (eInt .i64) (ePair (eInt .i64) (ePair (eInt .i64) (eInt .i64))))) H R ⟨aF,ay,aG⟩ af) {r:(List (Int×Int×Int×Int×Int))×Int} (hp:bS.p F af ab = some r):∃ v H',bS.tw F ⟨aF,ay,aG⟩ ab H = some (v,H')∧bS.Q H R0 R0  r v H':=by
 obtain ⟨w0,aS⟩:=h0
 subst bm
 unfold bS.p at hp
 unfold bS.tw bS.twX
 have s0:=w0.rf
 refine new_k w0 fun H1 w1 s1=>?_
 refine new_k w1 fun H2 w2 s2=>?_
 refine new_k w2 fun H3 w3 s3=>?_
 refine bind_ex (ldSl_of (w3.ld (i:=2) rfl rfl)) ?_
 obtain ⟨r4,e4,hp⟩:=bind_some' hp
 refine call_ex (bg.P rfl ⟨w3,(aS.step (s1.trans (s2.trans s3)))⟩ e4) ?_
 rintro _ H5 ⟨o0a_5,o0n_5,o0c_5,o0k_5,rfl,rfl,w5,s5,f5_0⟩
 refine bind_ex rfl ?_
 refine st_k w5 (i:=1) rfl rfl rfl fun H6 w6 s6=>?_
 dsimp only [List.set] at w6 s6
 refine bind_ex (ldI_of (w6.ld (i:=3) rfl rfl)) ?_
 refine st_k w6 (i:=1) rfl rfl rfl fun H7 w7 s7=>?_
 dsimp only [List.set] at w7 s7
 refine bind_ex (ldSl_of (w7.ld (i:=1) rfl rfl)) ?_
 refine bind_ex (ldI_of (w7.ld (i:=1) rfl rfl)) ?_
 refine st_k w7 (i:=2) rfl rfl rfl fun H8 w8 s8=>?_
 dsimp only [List.set] at w8 s8
 refine st_k w8 (i:=2) rfl rfl rfl fun H9 w9 s9=>?_
 dsimp only [List.set] at w9 s9
 refine bind_ex (ldSl_of (w9.ld (i:=2) rfl rfl)) ?_
 refine bind_ex (ldI_of (w9.ld (i:=2) rfl rfl)) ?_
 obtain ⟨w10,s10⟩:=w9.pick' [0] 4 rfl rfl rfl
 dsimp only [pk,pks,nth,List.drop] at w10 s10
 obtain rfl:=Option.some.inj hp
 exact ⟨_,_,rfl,_,_,_,_,rfl,rfl,w10,(s0.trans (s1.trans (s2.trans (s3.trans (s5.trans (s6.trans (s7.trans (s8.trans (s9.trans s10))))))))),(f5_0.step (s6.trans (s7.trans (s8.trans (s9.trans s10)))))⟩
def bz.Q (H0:Hp) (Ri R0:List Rs)  (r:Bool) (v:AV) (H':Hp):Prop:=v = (.bool r)∧Out H0 Ri H' (R0) fun R=>True
def bz.p (F:Nat) (aa:Int) (ak:Int) (bF:Int):Option (Bool):=(bif (decide (aa ≥ ak)) then (some (decide (aa ≤ bF))) else (some false))
theorem bz.P {F:Nat} {aa ak bF:Int} {H:Hp} {R0:List Rs}  (h0:Inn H R0 fun R=>True) {r:Bool} (hp:bz.p F aa ak bF = some r):∃ v H',bz.tw F aa ak bF H = some (v,H')∧bz.Q H R0 R0  r v H':=by
 obtain ⟨w0,_⟩:=h0
 unfold bz.p at hp
 unfold bz.tw bz.twX
 have s0:=w0.rf
 refine bif_ex (fun hb=>?_) (fun hb=>?_)
 ·replace hp:=bif_t hb hp
  obtain rfl:=Option.some.inj hp
  exact ⟨_,_,rfl,rfl,w0,s0,trivial⟩
 ·replace hp:=bif_f hb hp
  obtain rfl:=Option.some.inj hp
  exact ⟨_,_,rfl,rfl,w0,s0,trivial⟩
def bn.Q (H0:Hp) (Ri R0:List Rs)  (r:Int) (v:AV) (H':Hp):Prop:=v = (.int .i64 r)∧Out H0 Ri H' (R0) fun R=>True
def bn.p (F:Nat) (aa:Int) (ab:Int) (ax:Int) (aM:Int) (bw:Int):Option (Int):=(ix ([aa,ab,ax,aM]:List Int) bw).bind fun n3=>some (gt ([aa,ab,ax,aM]:List Int) n3)
theorem bn.P {F:Nat} {aa ab ax aM aJ bw:Int} {H:Hp} {R0:List Rs}  (h0:Inn H R0 fun R=>True) {r:Int} (hp:bn.p F aa ab ax aM bw = some r):∃ v H',bn.tw F aa ab ax aM aJ bw H = some (v,H')∧bn.Q H R0 R0  r v H':=by
 obtain ⟨w0,_⟩:=h0
 unfold bn.p at hp
 unfold bn.tw bn.twX
 have s0:=w0.rf
 refine new_k w0 fun H1 w1 s1=>?_
 refine bind_ex (ldI_of (w1.ld (i:=0) rfl rfl)) ?_
 refine bind_ex (ldI_of (w1.ld (i:=0) rfl rfl)) ?_
 refine bind_ex (ldI_of (w1.ld (i:=0) rfl rfl)) ?_
 refine bind_ex (ldI_of (w1.ld (i:=0) rfl rfl)) ?_
 refine newS_k (eInt .i64) w1 (n:=4) (l:=([aa,ab,ax,aM]:List Int)) rfl (CR.cons1 rfl (CR.cons1 rfl (CR.cons1 rfl (CR.cons1 rfl CR.empty)))) rfl fun H2 w2 s2 c2=>?_
 obtain ⟨n3,g3,hp⟩:=bind_some' hp
 obtain ⟨p3,q3,i3,h3,j3⟩:=W.ixo (E:=(eInt .i64)) w2 (i:=0) rfl rfl c2 g3
 refine bind_ex i3 ?_
 have h3:_ = [_]:=h3
 subst h3
 refine bind_ex (ldI_of (j3 0 _ rfl)) ?_
 obtain ⟨w4,s4⟩:=w2.pick' [] 2 rfl rfl rfl
 dsimp only [pk,pks,nth,List.drop] at w4 s4
 obtain rfl:=Option.some.inj hp
 exact ⟨_,_,rfl,rfl,w4,(s0.trans (s1.trans (s2.trans s4))),trivial⟩
def bo.Q (H0:Hp) (Ri R0:List Rs)  (r:Bool) (v:AV) (H':Hp):Prop:=v = (.bool r)∧Out H0 Ri H' (R0) fun R=>True
def bo.p (F:Nat) (aJ:Int) (bw:Int):Option (Bool):=(bif (bw == 0) then (some true) else ((bif (bw == 3) then ((bif (aJ == 1) then (some true) else ((bif (bw == 1) then (some (aJ == (-1))) else (some false))))) else ((bif (bw == 1) then (some (aJ == (-1))) else (some false))))))
theorem bo.P {F:Nat} {aa ab ax aM aJ bw:Int} {H:Hp} {R0:List Rs}  (h0:Inn H R0 fun R=>True) {r:Bool} (hp:bo.p F aJ bw = some r):∃ v H',bo.tw F aa ab ax aM aJ bw H = some (v,H')∧bo.Q H R0 R0  r v H':=by
 obtain ⟨w0,_⟩:=h0
 unfold bo.p at hp
 unfold bo.tw bo.twX
 have s0:=w0.rf
 refine new_k w0 fun H1 w1 s1=>?_
 refine bif_ex (fun hb=>?_) (fun hb=>?_)
 ·replace hp:=bif_t hb hp
  obtain ⟨w2,s2⟩:=w1.pick' [] 1 rfl rfl rfl
  dsimp only [pk,pks,nth,List.drop] at w2 s2
  obtain rfl:=Option.some.inj hp
  exact ⟨_,_,rfl,rfl,w2,(s0.trans (s1.trans s2)),trivial⟩
 ·replace hp:=bif_f hb hp
  refine bif_ex (fun hb=>?_) (fun hb=>?_)
  ·replace hp:=bif_t hb hp
   refine bind_ex (ldI_of (w1.ld (i:=0) rfl rfl)) ?_
   refine bif_ex (fun hb=>?_) (fun hb=>?_)
   ·replace hp:=bif_t hb hp
    obtain ⟨w3,s3⟩:=w1.pick' [] 1 rfl rfl rfl
    dsimp only [pk,pks,nth,List.drop] at w3 s3
    obtain rfl:=Option.some.inj hp
    exact ⟨_,_,rfl,rfl,w3,(s0.trans (s1.trans s3)),trivial⟩
   ·replace hp:=bif_f hb hp
    refine bif_ex (fun hb=>?_) (fun hb=>?_)
    ·replace hp:=bif_t hb hp
     refine bind_ex (ldI_of (w1.ld (i:=0) rfl rfl)) ?_
     obtain ⟨w4,s4⟩:=w1.pick' [] 1 rfl rfl rfl
     dsimp only [pk,pks,nth,List.drop] at w4 s4
     obtain rfl:=Option.some.inj hp
     exact ⟨_,_,rfl,rfl,w4,(s0.trans (s1.trans s4)),trivial⟩
    ·replace hp:=bif_f hb hp
     obtain ⟨w5,s5⟩:=w1.pick' [] 1 rfl rfl rfl
     dsimp only [pk,pks,nth,List.drop] at w5 s5
     obtain rfl:=Option.some.inj hp
     exact ⟨_,_,rfl,rfl,w5,(s0.trans (s1.trans s5)),trivial⟩
  ·replace hp:=bif_f hb hp
   refine bif_ex (fun hb=>?_) (fun hb=>?_)
   ·replace hp:=bif_t hb hp
    refine bind_ex (ldI_of (w1.ld (i:=0) rfl rfl)) ?_
    obtain ⟨w6,s6⟩:=w1.pick' [] 1 rfl rfl rfl
    dsimp only [pk,pks,nth,List.drop] at w6 s6
    obtain rfl:=Option.some.inj hp
    exact ⟨_,_,rfl,rfl,w6,(s0.trans (s1.trans s6)),trivial⟩
   ·replace hp:=bif_f hb hp
    obtain ⟨w7,s7⟩:=w1.pick' [] 1 rfl rfl rfl
    dsimp only [pk,pks,nth,List.drop] at w7 s7
    obtain rfl:=Option.some.inj hp
    exact ⟨_,_,rfl,rfl,w7,(s0.trans (s1.trans s7)),trivial⟩
def aD.Q (H0:Hp) (Ri R0:List Rs)  (r:Bool) (v:AV) (H':Hp):Prop:=v = (.bool r)∧Out H0 Ri H' (R0) fun R=>True
def aD.S61 (H0:Hp) (Ri R0:List Rs)  (C:Nat→Nat→Int→Sl→Sl→Int→Hp→OA) (pC:List (Int×Int×Int×Int×Int)→Int→List Bool→List Bool→Int→Option (Bool)):Prop:=∀ {mZ m_ Bc:ON} {lQ cu lR uB:Nat} {na nb Bd:Cap} {dk:List (Int×Int×Int×Int×Int)} {jZ bp fI:Int} {hJ oF:List Bool} {nc Be:List AV},∀ {H:Hp},lQ = dk.length→lR = hJ.length→uB = oF.length→(Out H0 Ri H (Rs.blk cu [.sl ⟨mZ,lQ,na⟩,.int .i64 jZ] :: Rs.own ⟨m_,lR,nb⟩ eBool.z nc :: Rs.own ⟨Bc,uB,Bd⟩ eBool.z Be :: R0) fun R=>ROs (ePair (eInt .i64) (ePair (eInt .i64) (ePair (eInt .i64) (ePair (eInt .i64) (eInt .i64))))) H R ⟨mZ,lQ,na⟩ dk∧CR eBool H R nc hJ∧CR eBool H R Be oF)→∀ {r:Bool},pC dk bp hJ oF fI = some r→∃ v H',C cu 0 bp ⟨m_,lR,nb⟩ ⟨Bc,uB,Bd⟩ fI H = some (v,H')∧aD.Q H0 Ri R0  r v H'
def aD.S3927 (H0:Hp) (Ri R0:List Rs)  (C:Nat→Nat→Int→Sl→Sl→Int→Nat→Nat→Int→Hp→OA) (pC:List (Int×Int×Int×Int×Int)→Int→List Bool→List Bool→Int→Int→Int→Int→Int→Int→Int→Option (Bool)):Prop:=∀ {Bf Bg Bh:ON} {uC fH uD uE d_:Nat} {Bi Bj Bk:Cap} {nd:List (Int×Int×Int×Int×Int)} {Io dQ c_ oG oH oI oJ oK eH:Int} {kW kX:List Bool} {Bl Bm:List AV},∀ {H:Hp},uC = nd.length→uD = kW.length→uE = kX.length→(Out H0 Ri H (Rs.blk fH [.sl ⟨Bf,uC,Bi⟩,.int .i64 Io] :: Rs.own ⟨Bg,uD,Bj⟩ eBool.z Bl :: Rs.own ⟨Bh,uE,Bk⟩ eBool.z Bm :: Rs.blk d_ [.int .i64 oG,.int .i64 oH,.int .i64 oI,.int .i64 oJ,.int .i64 oK] :: R0) fun R=>ROs (ePair (eInt .i64) (ePair (eInt .i64) (ePair (eInt .i64) (ePair (eInt .i64) (eInt .i64))))) H R ⟨Bf,uC,Bi⟩ nd∧CR eBool H R Bl kW∧CR eBool H R Bm kX)→∀ {r:Bool},pC nd dQ kW kX c_ oG oH oI oJ oK eH = some r→∃ v H',C fH 0 dQ ⟨Bg,uD,Bj⟩ ⟨Bh,uE,Bk⟩ c_ d_ 0 eH H = some (v,H')∧aD.Q H0 Ri R0  r v H'
def aD.pl3927 (F:Nat) (bb:List (Int×Int×Int×Int×Int)→Int→List Bool→List Bool→Int→Option (Bool)):Nat→List (Int×Int×Int×Int×Int)→Int→List Bool→List Bool→Int→Int→Int→Int→Int→Int→Int→Option (Bool)
 | 0,_,_,_,_,_,_,_,_,_,_,_=>none
 | k + 1,nd,dQ,kW,kX,c_,oG,oH,oI,oJ,oK,eH=>(bif (decide (eH < 4)) then ((bn.p F oG oH oI oJ eH).bind fun r1=>(bz.p F r1 0 (IntKind.i64.wrap (dQ - 1))).bind fun r3=>(bif (!r3) then (some false) else ((bo.p F oK eH).bind fun r6=>(bif r6 then ((ix kW r1).bind fun n8=>(bif (gt kW n8) then (some false) else ((ix kW r1).bind fun n10=>(some (kW.set n10 true)).bind fun l11=>aD.pl3927 F bb k nd dQ l11 kX c_ oG oH oI oJ oK (IntKind.i64.wrap (eH + 1))))) else ((ix kX r1).bind fun n13=>(bif (gt kX n13) then (some false) else ((ix kX r1).bind fun n15=>(some (kX.set n15 true)).bind fun l16=>aD.pl3927 F bb k nd dQ kW l16 c_ oG oH oI oJ oK (IntKind.i64.wrap (eH + 1))))))))) else (bb nd dQ kW kX (IntKind.i64.wrap (c_ + 1))))
termination_by structural n=>n
theorem aD.l3927_P {F:Nat} {H0:Hp} {Ri R0:List Rs}  {C61_:Nat→Nat→Int→Sl→Sl→Int→Hp→OA} {bb:List (Int×Int×Int×Int×Int)→Int→List Bool→List Bool→Int→Option (Bool)} (hC61:aD.S61 H0 Ri R0  C61_ bb):∀ k,aD.S3927 H0 Ri R0  (aD.l3927 F (bn.tw F) (bz.tw F) (bo.tw F) C61_ k) (aD.pl3927 F bb k):=by
 intro k
 induction k with
 | zero=>
  intro Bf Bg Bh uC fH uD uE d_ Bi Bj Bk nd Io dQ c_ oG oH oI oJ oK eH kW kX Bl Bm H NR NS NT h0 r hp
  exact nomatch (show (none:Option (Bool)) = some r from hp)
 | succ k ih=>
  intro Bf Bg Bh uC fH uD uE d_ Bi Bj Bk nd Io dQ c_ oG oH oI oJ oK eH kW kX Bl Bm H NR NS NT h0 r hp
  obtain ⟨w0,s0,Ip,uF,uG⟩:=h0
  subst NR
  subst NS
  subst NT
  unfold aD.pl3927 at hp
  unfold aD.l3927
  refine bif_ex (fun hb=>?_) (fun hb=>?_)
  ·replace hp:=bif_t hb hp
   refine bind_ex (ldI_of (w0.ld (i:=3) rfl rfl)) ?_
   refine bind_ex (ldI_of (w0.ld (i:=3) rfl rfl)) ?_
   refine bind_ex (ldI_of (w0.ld (i:=3) rfl rfl)) ?_
   refine bind_ex (ldI_of (w0.ld (i:=3) rfl rfl)) ?_
   refine bind_ex (ldI_of (w0.ld (i:=3) rfl rfl)) ?_
   obtain ⟨r1,e1,hp⟩:=bind_some' hp
   refine call_ex (bn.P ⟨w0,trivial⟩ e1) ?_
   rintro _ H2 ⟨rfl,w2,s2,_⟩
   refine bind_ex rfl ?_
   obtain ⟨r3,e3,hp⟩:=bind_some' hp
   refine call_ex (bz.P ⟨w2,trivial⟩ e3) ?_
   rintro _ H4 ⟨rfl,w4,s4,_⟩
   refine bind_ex rfl ?_
   refine bif_ex (fun hb=>?_) (fun hb=>?_)
   ·replace hp:=bif_t hb hp
    obtain ⟨w5,s5⟩:=w4.pick' [] 4 rfl rfl rfl
    dsimp only [pk,pks,nth,List.drop] at w5 s5
    obtain rfl:=Option.some.inj hp
    exact ⟨_,_,rfl,rfl,w5,(s0.trans (s2.trans (s4.trans s5))),trivial⟩
   ·replace hp:=bif_f hb hp
    refine bind_ex (ldI_of (w4.ld (i:=3) rfl rfl)) ?_
    refine bind_ex (ldI_of (w4.ld (i:=3) rfl rfl)) ?_
    refine bind_ex (ldI_of (w4.ld (i:=3) rfl rfl)) ?_
    refine bind_ex (ldI_of (w4.ld (i:=3) rfl rfl)) ?_
    refine bind_ex (ldI_of (w4.ld (i:=3) rfl rfl)) ?_
    obtain ⟨r6,e6,hp⟩:=bind_some' hp
    refine call_ex (bo.P ⟨w4,trivial⟩ e6) ?_
    rintro _ H7 ⟨rfl,w7,s7,_⟩
    refine bind_ex rfl ?_
    refine bif_ex (fun hb=>?_) (fun hb=>?_)
    ·replace hp:=bif_t hb hp
     obtain ⟨n8,g8,hp⟩:=bind_some' hp
     obtain ⟨p8,q8,i8,h8,j8⟩:=W.ixo (E:=eBool) w7 (i:=1) rfl rfl (uF.step (s2.trans (s4.trans s7))) g8
     refine bind_ex i8 ?_
     have h8:_ = [_]:=h8
     subst h8
     refine bind_ex (ldB_of (j8 0 _ rfl)) ?_
     refine bif_ex (fun hb=>?_) (fun hb=>?_)
     ·replace hp:=bif_t hb hp
      obtain ⟨w9,s9⟩:=w7.pick' [] 4 rfl rfl rfl
      dsimp only [pk,pks,nth,List.drop] at w9 s9
      obtain rfl:=Option.some.inj hp
      exact ⟨_,_,rfl,rfl,w9,(s0.trans (s2.trans (s4.trans (s7.trans s9)))),trivial⟩
     ·replace hp:=bif_f hb hp
      obtain ⟨n10,g10,hp⟩:=bind_some' hp
      obtain ⟨p10,q10,i10,h10,j10⟩:=W.ixo (E:=eBool) w7 (i:=1) rfl rfl (uF.step (s2.trans (s4.trans s7))) g10
      refine bind_ex i10 ?_
      obtain ⟨l11,e11,hp⟩:=bind_some' hp
      refine sto_k eBool w7 (i:=1) (j:=0) (p:=p10) rfl rfl (uF.step (s2.trans (s4.trans s7))) g10 i10 e11 rfl rfl (fun _ h=>by have h:_ = [_]:=h; subst h; exact rfl) fun H12 k12 w12 s12 c12=>?_
      dsimp only [List.set] at w12 s12 c12
      exact ih rfl ((st_len e11).symm) rfl ⟨w12,(s0.trans (s2.trans (s4.trans (s7.trans s12)))),(Ip.step (s2.trans (s4.trans (s7.trans s12)))),c12,(uG.step (s2.trans (s4.trans (s7.trans s12))))⟩ hp
    ·replace hp:=bif_f hb hp
     obtain ⟨n13,g13,hp⟩:=bind_some' hp
     obtain ⟨p13,q13,i13,h13,j13⟩:=W.ixo (E:=eBool) w7 (i:=2) rfl rfl (uG.step (s2.trans (s4.trans s7))) g13
     refine bind_ex i13 ?_
     have h13:_ = [_]:=h13
     subst h13
     refine bind_ex (ldB_of (j13 0 _ rfl)) ?_
     refine bif_ex (fun hb=>?_) (fun hb=>?_)
     ·replace hp:=bif_t hb hp
      obtain ⟨w14,s14⟩:=w7.pick' [] 4 rfl rfl rfl
      dsimp only [pk,pks,nth,List.drop] at w14 s14
      obtain rfl:=Option.some.inj hp
      exact ⟨_,_,rfl,rfl,w14,(s0.trans (s2.trans (s4.trans (s7.trans s14)))),trivial⟩
     ·replace hp:=bif_f hb hp
      obtain ⟨n15,g15,hp⟩:=bind_some' hp
      obtain ⟨p15,q15,i15,h15,j15⟩:=W.ixo (E:=eBool) w7 (i:=2) rfl rfl (uG.step (s2.trans (s4.trans s7))) g15
      refine bind_ex i15 ?_
      obtain ⟨l16,e16,hp⟩:=bind_some' hp
      refine sto_k eBool w7 (i:=2) (j:=0) (p:=p15) rfl rfl (uG.step (s2.trans (s4.trans s7))) g15 i15 e16 rfl rfl (fun _ h=>by have h:_ = [_]:=h; subst h; exact rfl) fun H17 k17 w17 s17 c17=>?_
      dsimp only [List.set] at w17 s17 c17
      exact ih rfl rfl ((st_len e16).symm) ⟨w17,(s0.trans (s2.trans (s4.trans (s7.trans s17)))),(Ip.step (s2.trans (s4.trans (s7.trans s17)))),(uF.step (s2.trans (s4.trans (s7.trans s17)))),c17⟩ hp
  ·replace hp:=bif_f hb hp
   obtain ⟨w18,s18⟩:=w0.pick' [0,1,2] 4 rfl rfl rfl
   dsimp only [pk,pks,nth,List.drop] at w18 s18
   exact hC61 rfl rfl rfl ⟨w18,(s0.trans s18),(Ip.step s18),(uF.step s18),(uG.step s18)⟩ hp
def aD.pl61 (F:Nat) :Nat→List (Int×Int×Int×Int×Int)→Int→List Bool→List Bool→Int→Option (Bool)
 | 0,_,_,_,_,_=>none
 | k + 1,dk,bp,hJ,oF,fI=>(bif (decide (fI < (dk.length:Int))) then ((ix dk fI).bind fun n1=>(bif (((gt dk n1).2.2.2.2) != 1) then ((bif (((gt dk n1).2.2.2.2) != (-1)) then (some false) else (aD.pl3927 F (aD.pl61 F k) F dk bp hJ oF fI ((gt dk n1).1) ((gt dk n1).2.1) ((gt dk n1).2.2.1) ((gt dk n1).2.2.2.1) ((gt dk n1).2.2.2.2) 0))) else (aD.pl3927 F (aD.pl61 F k) F dk bp hJ oF fI ((gt dk n1).1) ((gt dk n1).2.1) ((gt dk n1).2.2.1) ((gt dk n1).2.2.2.1) ((gt dk n1).2.2.2.2) 0))) else (some true))
termination_by structural n=>n
theorem aD.l61_P {F:Nat} {H0:Hp} {Ri R0:List Rs}  :∀ k,aD.S61 H0 Ri R0  (aD.l61 F (bn.tw F) (bz.tw F) (bo.tw F)  k) (aD.pl61 F  k):=by
 intro k
 induction k with
 | zero=>
  intro mZ m_ Bc lQ cu lR uB na nb Bd dk jZ bp fI hJ oF nc Be H uH uI NU h0 r hp
  exact nomatch (show (none:Option (Bool)) = some r from hp)
 | succ k ih=>
  intro mZ m_ Bc lQ cu lR uB na nb Bd dk jZ bp fI hJ oF nc Be H uH uI NU h0 r hp
  obtain ⟨w0,s0,tC,tD,NV⟩:=h0
  subst uH
  subst uI
  subst NU
  unfold aD.pl61 at hp
  unfold aD.l61
  refine bind_ex (ldSl_of (w0.ld (i:=0) rfl rfl)) ?_
  refine bif_ex (fun hb=>?_) (fun hb=>?_)
  ·replace hp:=bif_t hb hp
   refine bind_ex (ldSl_of (w0.ld (i:=0) rfl rfl)) ?_
   obtain ⟨n1,g1,hp⟩:=bind_some' hp
   obtain ⟨p1,q1,i1,h1,j1⟩:=ROs.ixr tC rfl g1
   refine bind_ex i1 ?_
   obtain ⟨_,_,rfl,rfl,_,_,rfl,rfl,_,_,rfl,rfl,_,_,rfl,rfl,rfl⟩:=h1
   refine bind_ex (ldI_of (j1 0 _ rfl)) ?_
   refine bind_ex (ldI_of (j1 1 _ rfl)) ?_
   refine bind_ex (ldI_of (j1 2 _ rfl)) ?_
   refine bind_ex (ldI_of (j1 3 _ rfl)) ?_
   refine bind_ex (ldI_of (j1 4 _ rfl)) ?_
   refine new_k w0 fun H2 w2 s2=>?_
   refine st_k w2 (i:=0) rfl rfl rfl fun H3 w3 s3=>?_
   dsimp only [List.set] at w3 s3
   refine st_k w3 (i:=0) rfl rfl rfl fun H4 w4 s4=>?_
   dsimp only [List.set] at w4 s4
   refine st_k w4 (i:=0) rfl rfl rfl fun H5 w5 s5=>?_
   dsimp only [List.set] at w5 s5
   refine st_k w5 (i:=0) rfl rfl rfl fun H6 w6 s6=>?_
   dsimp only [List.set] at w6 s6
   refine st_k w6 (i:=0) rfl rfl rfl fun H7 w7 s7=>?_
   dsimp only [List.set] at w7 s7
   refine bind_ex (ldI_of (w7.ld (i:=0) rfl rfl)) ?_
   refine bif_ex (fun hb=>?_) (fun hb=>?_)
   ·replace hp:=bif_t hb hp
    refine bind_ex (ldI_of (w7.ld (i:=0) rfl rfl)) ?_
    refine bif_ex (fun hb=>?_) (fun hb=>?_)
    ·replace hp:=bif_t hb hp
     obtain ⟨w8,s8⟩:=w7.pick' [] 4 rfl rfl rfl
     dsimp only [pk,pks,nth,List.drop] at w8 s8
     obtain rfl:=Option.some.inj hp
     exact ⟨_,_,rfl,rfl,w8,(s0.trans (s2.trans (s3.trans (s4.trans (s5.trans (s6.trans (s7.trans s8))))))),trivial⟩
    ·replace hp:=bif_f hb hp
     obtain ⟨w9,s9⟩:=w7.pick' [1,2,3,0] 4 rfl rfl rfl
     dsimp only [pk,pks,nth,List.drop] at w9 s9
     exact aD.l3927_P (@ih) F rfl rfl rfl ⟨w9,(s0.trans (s2.trans (s3.trans (s4.trans (s5.trans (s6.trans (s7.trans s9))))))),(tC.step (s2.trans (s3.trans (s4.trans (s5.trans (s6.trans (s7.trans s9))))))),(tD.step (s2.trans (s3.trans (s4.trans (s5.trans (s6.trans (s7.trans s9))))))),(NV.step (s2.trans (s3.trans (s4.trans (s5.trans (s6.trans (s7.trans s9)))))))⟩ hp
   ·replace hp:=bif_f hb hp
    obtain ⟨w10,s10⟩:=w7.pick' [1,2,3,0] 4 rfl rfl rfl
    dsimp only [pk,pks,nth,List.drop] at w10 s10
    exact aD.l3927_P (@ih) F rfl rfl rfl ⟨w10,(s0.trans (s2.trans (s3.trans (s4.trans (s5.trans (s6.trans (s7.trans s10))))))),(tC.step (s2.trans (s3.trans (s4.trans (s5.trans (s6.trans (s7.trans s10))))))),(tD.step (s2.trans (s3.trans (s4.trans (s5.trans (s6.trans (s7.trans s10))))))),(NV.step (s2.trans (s3.trans (s4.trans (s5.trans (s6.trans (s7.trans s10)))))))⟩ hp
  ·replace hp:=bif_f hb hp
   obtain ⟨w11,s11⟩:=w0.pick' [] 3 rfl rfl rfl
   dsimp only [pk,pks,nth,List.drop] at w11 s11
   obtain rfl:=Option.some.inj hp
   exact ⟨_,_,rfl,rfl,w11,(s0.trans s11),trivial⟩
def aD.p (F:Nat) (af:List (Int×Int×Int×Int×Int)):Option (Bool):=(mkn (IntKind.i64.wrap (2 * (af.length:Int))) false).bind fun l2=>(mkn (IntKind.i64.wrap (2 * (af.length:Int))) false).bind fun l4=>aD.pl61 F F af (IntKind.i64.wrap (2 * (af.length:Int))) l2 l4 0
theorem aD.P {F:Nat} {aF:ON} {ay:Nat} {aG:Cap} {af:List (Int×Int×Int×Int×Int)} {ab:Int} {H:Hp} {R0:List Rs} (bm:ay = af.length) (h0:Inn H R0 fun R=>ROs (ePair (eInt .i64) (ePair (eInt .i64) (ePair (eInt .i64) (ePair (eInt .i64) (eInt .i64))))) H R ⟨aF,ay,aG⟩ af) {r:Bool} (hp:aD.p F af = some r):∃ v H',aD.tw F ⟨aF,ay,aG⟩ ab H = some (v,H')∧aD.Q H R0 R0  r v H':=by
 obtain ⟨w0,aS⟩:=h0
 subst bm
 unfold aD.p at hp
 unfold aD.tw aD.twX
 have s0:=w0.rf
 refine new_k w0 fun H1 w1 s1=>?_
 refine bind_ex (ldSl_of (w1.ld (i:=0) rfl rfl)) ?_
 obtain ⟨l2,e2,hp⟩:=bind_some' hp
 refine mk_k eBool false w1 rfl rfl rfl e2 fun H3 k3 w3 s3 c3=>?_
 obtain ⟨l4,e4,hp⟩:=bind_some' hp
 refine mk_k eBool false w3 rfl rfl rfl e4 fun H5 k5 w5 s5 c5=>?_
 obtain ⟨w6,s6⟩:=w5.pick' [2,1,0] 3 rfl rfl rfl
 dsimp only [pk,pks,nth,List.drop] at w6 s6
 exact aD.l61_P F rfl rfl rfl ⟨w6,(s0.trans (s1.trans (s3.trans (s5.trans s6)))),(aS.step (s1.trans (s3.trans (s5.trans s6)))),(c3.step (s5.trans s6)),(c5.step s6)⟩ hp
def aA.Q (H0:Hp) (Ri R0:List Rs)  (r:Int×Int) (v:AV) (H':Hp):Prop:=v = (.tup [(.int .i64 r.1),(.int .i64 r.2)])∧Out H0 Ri H' (R0) fun R=>True
def aA.S13 (H0:Hp) (Ri R0:List Rs)  (C:Int→Bool→Nat→Nat→Int→Hp→OA) (pC:Int→Bool→List (Int×Int×Int×Int×Int)→Int→Option (Int×Int)):Prop:=∀ {dc Iq iv:Int} {iu:Bool} {Bn:ON} {uJ dy:Nat} {Bo:Cap} {oL:List (Int×Int×Int×Int×Int)},∀ {H:Hp},uJ = oL.length→(Out H0 Ri H (Rs.blk dy [.sl ⟨Bn,uJ,Bo⟩,.int .i64 Iq] :: R0) fun R=>ROs (ePair (eInt .i64) (ePair (eInt .i64) (ePair (eInt .i64) (ePair (eInt .i64) (eInt .i64))))) H R ⟨Bn,uJ,Bo⟩ oL)→∀ {r:Int×Int},pC dc iu oL iv = some r→∃ v H',C dc iu dy 0 iv H = some (v,H')∧aA.Q H0 Ri R0  r v H'
def aA.S213 (H0:Hp) (Ri R0:List Rs)  (C:Int→Bool→Nat→Nat→Int→Int→Hp→OA) (pC:Int→Bool→List (Int×Int×Int×Int×Int)→Int→Int→Option (Int×Int)):Prop:=∀ {ea Ir dR eb:Int} {es:Bool} {Bp:ON} {uK gQ:Nat} {Bq:Cap} {jx:List (Int×Int×Int×Int×Int)},∀ {H:Hp},uK = jx.length→(Out H0 Ri H (Rs.blk gQ [.sl ⟨Bp,uK,Bq⟩,.int .i64 Ir] :: R0) fun R=>ROs (ePair (eInt .i64) (ePair (eInt .i64) (ePair (eInt .i64) (ePair (eInt .i64) (eInt .i64))))) H R ⟨Bp,uK,Bq⟩ jx)→∀ {r:Int×Int},pC ea es jx dR eb = some r→∃ v H',C ea es gQ 0 dR eb H = some (v,H')∧aA.Q H0 Ri R0  r v H'
def aA.pj3 (F:Nat) (jy:Int→Bool→List (Int×Int×Int×Int×Int)→Int→Option (Int×Int)) (nX:Int) (qo:Bool) (uL:List (Int×Int×Int×Int×Int)) (qq:Int):Option (Int×Int):=jy nX qo uL (IntKind.i64.wrap (qq + 1))
theorem aA.j3_P {F:Nat} {H0:Hp} {Ri R0:List Rs}  {C13_:Int→Bool→Nat→Nat→Int→Hp→OA} {jy:Int→Bool→List (Int×Int×Int×Int×Int)→Int→Option (Int×Int)} (hC13:aA.S13 H0 Ri R0  C13_ jy) {nX adE qq:Int} {qo:Bool} {NW:ON} {Is qp:Nat} {NX:Cap} {uL:List (Int×Int×Int×Int×Int)} {H:Hp} (adF:Is = uL.length) (h0:Out H0 Ri H (Rs.blk qp [.sl ⟨NW,Is,NX⟩,.int .i64 adE] :: R0) fun R=>ROs (ePair (eInt .i64) (ePair (eInt .i64) (ePair (eInt .i64) (ePair (eInt .i64) (eInt .i64))))) H R ⟨NW,Is,NX⟩ uL) {r:Int×Int} (hp:aA.pj3 F jy nX qo uL qq = some r):∃ v H',aA.j3 F (bn.tw F) (bo.tw F) C13_ nX qo qp 0 qq H = some (v,H')∧aA.Q H0 Ri R0  r v H':=by
 obtain ⟨w0,s0,adG⟩:=h0
 subst adF
 unfold aA.pj3 at hp
 unfold aA.j3
 exact hC13 rfl ⟨w0,s0,adG⟩ hp
def aA.pj4 (F:Nat) (jy:Int→Bool→List (Int×Int×Int×Int×Int)→Int→Option (Int×Int)) (qr:Int) (qs:Bool) (uM:List (Int×Int×Int×Int×Int)) (qt:Int):Option (Int×Int):=aA.pj3 F jy qr qs uM qt
theorem aA.j4_P {F:Nat} {H0:Hp} {Ri R0:List Rs}  {C13_:Int→Bool→Nat→Nat→Int→Hp→OA} {jy:Int→Bool→List (Int×Int×Int×Int×Int)→Int→Option (Int×Int)} (hC13:aA.S13 H0 Ri R0  C13_ jy) {qr adH qt:Int} {qs:Bool} {NY:ON} {It zY:Nat} {NZ:Cap} {uM:List (Int×Int×Int×Int×Int)} {H:Hp} (adI:It = uM.length) (h0:Out H0 Ri H (Rs.blk zY [.sl ⟨NY,It,NZ⟩,.int .i64 adH] :: R0) fun R=>ROs (ePair (eInt .i64) (ePair (eInt .i64) (ePair (eInt .i64) (ePair (eInt .i64) (eInt .i64))))) H R ⟨NY,It,NZ⟩ uM) {r:Int×Int} (hp:aA.pj4 F jy qr qs uM qt = some r):∃ v H',aA.j4 F (bn.tw F) (bo.tw F) C13_ qr qs zY 0 qt H = some (v,H')∧aA.Q H0 Ri R0  r v H':=by
 obtain ⟨w0,s0,adJ⟩:=h0
 subst adI
 unfold aA.pj4 at hp
 unfold aA.j4
 exact aA.j3_P (@hC13) rfl ⟨w0,s0,adJ⟩ hp
def aA.pl213 (F:Nat) (jy:Int→Bool→List (Int×Int×Int×Int×Int)→Int→Option (Int×Int)):Nat→Int→Bool→List (Int×Int×Int×Int×Int)→Int→Int→Option (Int×Int)
 | 0,_,_,_,_,_=>none
 | k + 1,ea,es,jx,dR,eb=>(bif (decide (eb < 4)) then ((ix jx dR).bind fun n1=>(bn.p F ((gt jx n1).1) ((gt jx n1).2.1) ((gt jx n1).2.2.1) ((gt jx n1).2.2.2.1) eb).bind fun r2=>(bif (r2 == ea) then ((ix jx dR).bind fun n4=>(bo.p F ((gt jx n4).2.2.2.2) eb).bind fun r5=>(bif (r5 == es) then (some (dR,eb)) else (aA.pl213 F jy k ea es jx dR (IntKind.i64.wrap (eb + 1))))) else (aA.pl213 F jy k ea es jx dR (IntKind.i64.wrap (eb + 1))))) else (aA.pj4 F jy ea es jx dR))
termination_by structural n=>n
theorem aA.l213_P {F:Nat} {H0:Hp} {Ri R0:List Rs}  {C13_:Int→Bool→Nat→Nat→Int→Hp→OA} {jy:Int→Bool→List (Int×Int×Int×Int×Int)→Int→Option (Int×Int)} (hC13:aA.S13 H0 Ri R0  C13_ jy):∀ k,aA.S213 H0 Ri R0  (aA.l213 F (bn.tw F) (bo.tw F) C13_ k) (aA.pl213 F jy k):=by
 intro k
 induction k with
 | zero=>
  intro ea Ir dR eb es Bp uK gQ Bq jx H N_ h0 r hp
  exact nomatch (show (none:Option (Int×Int)) = some r from hp)
 | succ k ih=>
  intro ea Ir dR eb es Bp uK gQ Bq jx H N_ h0 r hp
  obtain ⟨w0,s0,uN⟩:=h0
  subst N_
  unfold aA.pl213 at hp
  unfold aA.l213
  refine bif_ex (fun hb=>?_) (fun hb=>?_)
  ·replace hp:=bif_t hb hp
   refine bind_ex (ldSl_of (w0.ld (i:=0) rfl rfl)) ?_
   obtain ⟨n1,g1,hp⟩:=bind_some' hp
   obtain ⟨p1,q1,i1,h1,j1⟩:=ROs.ixr uN rfl g1
   refine bind_ex i1 ?_
   obtain ⟨_,_,rfl,rfl,_,_,rfl,rfl,_,_,rfl,rfl,_,_,rfl,rfl,rfl⟩:=h1
   refine bind_ex (ldI_of (j1 0 _ rfl)) ?_
   refine bind_ex (ldI_of (j1 1 _ rfl)) ?_
   refine bind_ex (ldI_of (j1 2 _ rfl)) ?_
   refine bind_ex (ldI_of (j1 3 _ rfl)) ?_
   refine bind_ex (ldI_of (j1 4 _ rfl)) ?_
   obtain ⟨r2,e2,hp⟩:=bind_some' hp
   refine call_ex (bn.P ⟨w0,trivial⟩ e2) ?_
   rintro _ H3 ⟨rfl,w3,s3,_⟩
   refine bind_ex rfl ?_
   refine bif_ex (fun hb=>?_) (fun hb=>?_)
   ·replace hp:=bif_t hb hp
    refine bind_ex (ldSl_of (w3.ld (i:=0) rfl rfl)) ?_
    obtain ⟨n4,g4,hp⟩:=bind_some' hp
    obtain ⟨p4,q4,i4,h4,j4⟩:=ROs.ixr (uN.step s3) rfl g4
    refine bind_ex i4 ?_
    obtain ⟨_,_,rfl,rfl,_,_,rfl,rfl,_,_,rfl,rfl,_,_,rfl,rfl,rfl⟩:=h4
    refine bind_ex (ldI_of (j4 0 _ rfl)) ?_
    refine bind_ex (ldI_of (j4 1 _ rfl)) ?_
    refine bind_ex (ldI_of (j4 2 _ rfl)) ?_
    refine bind_ex (ldI_of (j4 3 _ rfl)) ?_
    refine bind_ex (ldI_of (j4 4 _ rfl)) ?_
    obtain ⟨r5,e5,hp⟩:=bind_some' hp
    refine call_ex (bo.P ⟨w3,trivial⟩ e5) ?_
    rintro _ H6 ⟨rfl,w6,s6,_⟩
    refine bind_ex rfl ?_
    refine bif_ex (fun hb=>?_) (fun hb=>?_)
    ·replace hp:=bif_t hb hp
     obtain ⟨w7,s7⟩:=w6.pick' [] 1 rfl rfl rfl
     dsimp only [pk,pks,nth,List.drop] at w7 s7
     obtain rfl:=Option.some.inj hp
     exact ⟨_,_,rfl,rfl,w7,(s0.trans (s3.trans (s6.trans s7))),trivial⟩
    ·replace hp:=bif_f hb hp
     exact ih rfl ⟨w6,(s0.trans (s3.trans s6)),(uN.step (s3.trans s6))⟩ hp
   ·replace hp:=bif_f hb hp
    exact ih rfl ⟨w3,(s0.trans s3),(uN.step s3)⟩ hp
  ·replace hp:=bif_f hb hp
   exact aA.j4_P (@hC13) rfl ⟨w0,s0,uN⟩ hp
def aA.pl13 (F:Nat) :Nat→Int→Bool→List (Int×Int×Int×Int×Int)→Int→Option (Int×Int)
 | 0,_,_,_,_=>none
 | k + 1,dc,iu,oL,iv=>(bif (decide (iv < (oL.length:Int))) then (aA.pl213 F (aA.pl13 F k) F dc iu oL iv 0) else (some ((-1),(-1))))
termination_by structural n=>n
theorem aA.l13_P {F:Nat} {H0:Hp} {Ri R0:List Rs}  :∀ k,aA.S13 H0 Ri R0  (aA.l13 F (bn.tw F) (bo.tw F)  k) (aA.pl13 F  k):=by
 intro k
 induction k with
 | zero=>
  intro dc Iq iv iu Bn uJ dy Bo oL H Oa h0 r hp
  exact nomatch (show (none:Option (Int×Int)) = some r from hp)
 | succ k ih=>
  intro dc Iq iv iu Bn uJ dy Bo oL H Oa h0 r hp
  obtain ⟨w0,s0,adK⟩:=h0
  subst Oa
  unfold aA.pl13 at hp
  unfold aA.l13
  refine bind_ex (ldSl_of (w0.ld (i:=0) rfl rfl)) ?_
  refine bif_ex (fun hb=>?_) (fun hb=>?_)
  ·replace hp:=bif_t hb hp
   exact aA.l213_P (@ih) F rfl ⟨w0,s0,adK⟩ hp
  ·replace hp:=bif_f hb hp
   obtain ⟨w1,s1⟩:=w0.pick' [] 1 rfl rfl rfl
   dsimp only [pk,pks,nth,List.drop] at w1 s1
   obtain rfl:=Option.some.inj hp
   exact ⟨_,_,rfl,rfl,w1,(s0.trans s1),trivial⟩
def aA.p (F:Nat) (af:List (Int×Int×Int×Int×Int)) (au:Int) (iW:Bool):Option (Int×Int):=aA.pl13 F F au iW af 0
theorem aA.P {F:Nat} {aF:ON} {ay:Nat} {aG:Cap} {af:List (Int×Int×Int×Int×Int)} {ab au:Int} {iW:Bool} {H:Hp} {R0:List Rs} (bm:ay = af.length) (h0:Inn H R0 fun R=>ROs (ePair (eInt .i64) (ePair (eInt .i64) (ePair (eInt .i64) (ePair (eInt .i64) (eInt .i64))))) H R ⟨aF,ay,aG⟩ af) {r:Int×Int} (hp:aA.p F af au iW = some r):∃ v H',aA.tw F ⟨aF,ay,aG⟩ ab au iW H = some (v,H')∧aA.Q H R0 R0  r v H':=by
 obtain ⟨w0,aS⟩:=h0
 subst bm
 unfold aA.p at hp
 unfold aA.tw aA.twX
 have s0:=w0.rf
 refine new_k w0 fun H1 w1 s1=>?_
 exact aA.l13_P F rfl ⟨w1,(s0.trans s1),(aS.step s1)⟩ hp
def bR.Q (H0:Hp) (Ri R0:List Rs)  (r:Int) (v:AV) (H':Hp):Prop:=v = (.int .i64 r)∧Out H0 Ri H' (R0) fun R=>True
def bR.p (F:Nat) (af:List (Int×Int×Int×Int×Int)) (au:Int):Option (Int):=(ix af (IntKind.i64.wrap (Int.tdiv au 4))).bind fun n2=>(bn.p F ((gt af n2).1) ((gt af n2).2.1) ((gt af n2).2.2.1) ((gt af n2).2.2.2.1) (Int.tmod (IntKind.i64.wrap ((Int.tmod au 4) + 1)) 4)).bind fun r9=>(bo.p F ((gt af n2).2.2.2.2) (Int.tmod (IntKind.i64.wrap ((Int.tmod au 4) + 1)) 4)).bind fun r12=>(aA.p F af r9 (!r12)).bind fun r15=>some (IntKind.i64.wrap ((IntKind.i64.wrap (4 * r15.1)) + r15.2))
theorem bR.P {F:Nat} {aF:ON} {ay:Nat} {aG:Cap} {af:List (Int×Int×Int×Int×Int)} {ab au:Int} {H:Hp} {R0:List Rs} (bm:ay = af.length) (h0:Inn H R0 fun R=>ROs (ePair (eInt .i64) (ePair (eInt .i64) (ePair (eInt .i64) (ePair (eInt .i64) (eInt .i64))))) H R ⟨aF,ay,aG⟩ af) {r:Int} (hp:bR.p F af au = some r):∃ v H',bR.tw F ⟨aF,ay,aG⟩ ab au H = some (v,H')∧bR.Q H R0 R0  r v H':=by
 obtain ⟨w0,aS⟩:=h0
 subst bm
 unfold bR.p at hp
 unfold bR.tw bR.twX
 have s0:=w0.rf
 refine new_k w0 fun H1 w1 s1=>?_
 refine bind_ex (ldSl_of (w1.ld (i:=0) rfl rfl)) ?_
 obtain ⟨n2,g2,hp⟩:=bind_some' hp
 obtain ⟨p2,q2,i2,h2,j2⟩:=ROs.ixr (aS.step s1) rfl g2
 refine bind_ex i2 ?_
 obtain ⟨_,_,rfl,rfl,_,_,rfl,rfl,_,_,rfl,rfl,_,_,rfl,rfl,rfl⟩:=h2
 refine bind_ex (ldI_of (j2 0 _ rfl)) ?_
 refine bind_ex (ldI_of (j2 1 _ rfl)) ?_
 refine bind_ex (ldI_of (j2 2 _ rfl)) ?_
 refine bind_ex (ldI_of (j2 3 _ rfl)) ?_
 refine bind_ex (ldI_of (j2 4 _ rfl)) ?_
 refine new_k w1 fun H3 w3 s3=>?_
 refine st_k w3 (i:=0) rfl rfl rfl fun H4 w4 s4=>?_
 dsimp only [List.set] at w4 s4
 refine st_k w4 (i:=0) rfl rfl rfl fun H5 w5 s5=>?_
 dsimp only [List.set] at w5 s5
 refine st_k w5 (i:=0) rfl rfl rfl fun H6 w6 s6=>?_
 dsimp only [List.set] at w6 s6
 refine st_k w6 (i:=0) rfl rfl rfl fun H7 w7 s7=>?_
 dsimp only [List.set] at w7 s7
 refine st_k w7 (i:=0) rfl rfl rfl fun H8 w8 s8=>?_
 dsimp only [List.set] at w8 s8
 refine bind_ex (ldSl_of (w8.ld (i:=1) rfl rfl)) ?_
 refine bind_ex (ldI_of (w8.ld (i:=1) rfl rfl)) ?_
 refine bind_ex (ldI_of (w8.ld (i:=0) rfl rfl)) ?_
 refine bind_ex (ldI_of (w8.ld (i:=0) rfl rfl)) ?_
 refine bind_ex (ldI_of (w8.ld (i:=0) rfl rfl)) ?_
 refine bind_ex (ldI_of (w8.ld (i:=0) rfl rfl)) ?_
 refine bind_ex (ldI_of (w8.ld (i:=0) rfl rfl)) ?_
 obtain ⟨r9,e9,hp⟩:=bind_some' hp
 refine call_ex (bn.P ⟨w8,trivial⟩ e9) ?_
 rintro _ H10 ⟨rfl,w10,s10,_⟩
 refine bind_ex rfl ?_
 refine ifs_ex (W.cons_of (Rn:=[]) w8 w10 s10) ?_
 refine bind_ex (ldI_of (w10.ld (i:=0) rfl rfl)) ?_
 refine bind_ex (ldI_of (w10.ld (i:=0) rfl rfl)) ?_
 refine bind_ex (ldI_of (w10.ld (i:=0) rfl rfl)) ?_
 refine bind_ex (ldI_of (w10.ld (i:=0) rfl rfl)) ?_
 refine bind_ex (ldI_of (w10.ld (i:=0) rfl rfl)) ?_
 obtain ⟨r12,e12,hp⟩:=bind_some' hp
 refine call_ex (bo.P ⟨w10,trivial⟩ e12) ?_
 rintro _ H13 ⟨rfl,w13,s13,_⟩
 refine bind_ex rfl ?_
 refine ifs_ex (W.cons_of (Rn:=[]) w10 w13 s13) ?_
 obtain ⟨r15,e15,hp⟩:=bind_some' hp
 refine call_ex (aA.P rfl ⟨w13,(aS.step (s1.trans (s3.trans (s4.trans (s5.trans (s6.trans (s7.trans (s8.trans (s10.trans s13)))))))))⟩ e15) ?_
 rintro _ H16 ⟨rfl,w16,s16,_⟩
 refine bind_ex rfl ?_
 refine bind_ex rfl ?_
 refine bind_ex rfl ?_
 refine bind_ex rfl ?_
 refine bind_ex rfl ?_
 obtain ⟨w17,s17⟩:=w16.pick' [] 2 rfl rfl rfl
 dsimp only [pk,pks,nth,List.drop] at w17 s17
 obtain rfl:=Option.some.inj hp
 exact ⟨_,_,rfl,rfl,w17,(s0.trans (s1.trans (s3.trans (s4.trans (s5.trans (s6.trans (s7.trans (s8.trans (s10.trans (s13.trans (s16.trans s17))))))))))),trivial⟩
def ap.Q (H0:Hp) (Ri R0:List Rs)  (r:List (List Int)) (v:AV) (H':Hp):Prop:=∃ o0a:ON,∃ o0n:Nat,∃ o0c:Cap,∃ o0k:List AV,v = (.sl ⟨o0a,o0n,o0c⟩)∧o0n = (r).length∧Out H0 Ri H' (Rs.own ⟨o0a,o0n,o0c⟩ (eSl (eInt .i64)).z o0k :: R0) fun R=>CR (eSl (eInt .i64)) H' R o0k (r)
def ap.S61 (H0:Hp) (Ri R0:List Rs)  (C:Nat→Nat→Sl→Sl→Int→Hp→OA) (pC:List (Int×Int×Int×Int×Int)→List (List Int)→List Bool→Int→Option (List (List Int))):Prop:=∀ {mZ Br m_:ON} {lQ cu uO lR:Nat} {na Bs nb:Cap} {dk:List (Int×Int×Int×Int×Int)} {jZ cW:Int} {ng:List (List Int)} {Bt nc:List AV} {hJ:List Bool},∀ {H:Hp},lQ = dk.length→uO = ng.length→lR = hJ.length→(Out H0 Ri H (Rs.blk cu [.sl ⟨mZ,lQ,na⟩,.int .i64 jZ] :: Rs.own ⟨Br,uO,Bs⟩ (eSl (eInt .i64)).z Bt :: Rs.own ⟨m_,lR,nb⟩ eBool.z nc :: R0) fun R=>ROs (ePair (eInt .i64) (ePair (eInt .i64) (ePair (eInt .i64) (ePair (eInt .i64) (eInt .i64))))) H R ⟨mZ,lQ,na⟩ dk∧CR (eSl (eInt .i64)) H R Bt ng∧CR eBool H R nc hJ)→∀ {r:List (List Int)},pC dk ng hJ cW = some r→∃ v H',C cu 0 ⟨Br,uO,Bs⟩ ⟨m_,lR,nb⟩ cW H = some (v,H')∧ap.Q H0 Ri R0  r v H'
def ap.pj4 (F:Nat) (bb:List (Int×Int×Int×Int×Int)→List (List Int)→List Bool→Int→Option (List (List Int))) (uP:List (Int×Int×Int×Int×Int)) (uQ:List (List Int)) (uR:List Bool) (qu:Int):Option (List (List Int)):=bb uP uQ uR (IntKind.i64.wrap (qu + 1))
theorem ap.j4_P {F:Nat} {H0:Hp} {Ri R0:List Rs}  {C61_:Nat→Nat→Sl→Sl→Int→Hp→OA} {bb:List (Int×Int×Int×Int×Int)→List (List Int)→List Bool→Int→Option (List (List Int))} (hC61:ap.S61 H0 Ri R0  C61_ bb) {Ob Oc Od:ON} {Iu zZ Iv Iw:Nat} {Oe Of Og:Cap} {uP:List (Int×Int×Int×Int×Int)} {adL qu:Int} {uQ:List (List Int)} {Oh Oi:List AV} {uR:List Bool} {H:Hp} (adM:Iu = uP.length) (adN:Iv = uQ.length) (adO:Iw = uR.length) (h0:Out H0 Ri H (Rs.blk zZ [.sl ⟨Ob,Iu,Oe⟩,.int .i64 adL] :: Rs.own ⟨Oc,Iv,Of⟩ (eSl (eInt .i64)).z Oh :: Rs.own ⟨Od,Iw,Og⟩ eBool.z Oi :: R0) fun R=>ROs (ePair (eInt .i64) (ePair (eInt .i64) (ePair (eInt .i64) (ePair (eInt .i64) (eInt .i64))))) H R ⟨Ob,Iu,Oe⟩ uP∧CR (eSl (eInt .i64)) H R Oh uQ∧CR eBool H R Oi uR) {r:List (List Int)} (hp:ap.pj4 F bb uP uQ uR qu = some r):∃ v H',ap.j4 F (bR.tw F) C61_ zZ 0 ⟨Oc,Iv,Of⟩ ⟨Od,Iw,Og⟩ qu H = some (v,H')∧ap.Q H0 Ri R0  r v H':=by
 obtain ⟨w0,s0,adP,adQ,adR⟩:=h0
 subst adM
 subst adN
 subst adO
 unfold ap.pj4 at hp
 unfold ap.j4
 exact hC61 rfl rfl rfl ⟨w0,s0,adP,adQ,adR⟩ hp
def ap.S7853 (H0:Hp) (Ri R0:List Rs)  (C:Nat→Nat→Sl→Sl→Int→Sl→Int→Hp→OA) (pC:List (Int×Int×Int×Int×Int)→List (List Int)→List Bool→Int→List Int→Int→Option (List (List Int))):Prop:=∀ {Bu Bv Bw Bx:ON} {uS fJ uT uU uV:Nat} {By Bz BA BB:Cap} {nh:List (Int×Int×Int×Int×Int)} {Ix gR eI:Int} {oM:List (List Int)} {BC BD BE:List AV} {lS:List Bool} {oN:List Int},∀ {H:Hp},uS = nh.length→uT = oM.length→uU = lS.length→uV = oN.length→(Out H0 Ri H (Rs.blk fJ [.sl ⟨Bu,uS,By⟩,.int .i64 Ix] :: Rs.own ⟨Bv,uT,Bz⟩ (eSl (eInt .i64)).z BC :: Rs.own ⟨Bw,uU,BA⟩ eBool.z BD :: Rs.own ⟨Bx,uV,BB⟩ (eInt .i64).z BE :: R0) fun R=>ROs (ePair (eInt .i64) (ePair (eInt .i64) (ePair (eInt .i64) (ePair (eInt .i64) (eInt .i64))))) H R ⟨Bu,uS,By⟩ nh∧CR (eSl (eInt .i64)) H R BC oM∧CR eBool H R BD lS∧CR (eInt .i64) H R BE oN)→∀ {r:List (List Int)},pC nh oM lS gR oN eI = some r→∃ v H',C fJ 0 ⟨Bv,uT,Bz⟩ ⟨Bw,uU,BA⟩ gR ⟨Bx,uV,BB⟩ eI H = some (v,H')∧ap.Q H0 Ri R0  r v H'
def ap.pj5 (F:Nat) (bb:List (Int×Int×Int×Int×Int)→List (List Int)→List Bool→Int→Option (List (List Int))) (uW:List (Int×Int×Int×Int×Int)) (uX:List (List Int)) (uY:List Bool) (qv:Int):Option (List (List Int)):=bb uW uX uY (IntKind.i64.wrap (qv + 1))
theorem ap.j5_P {F:Nat} {H0:Hp} {Ri R0:List Rs}  {C61_:Nat→Nat→Sl→Sl→Int→Hp→OA} {bb:List (Int×Int×Int×Int×Int)→List (List Int)→List Bool→Int→Option (List (List Int))} (hC61:ap.S61 H0 Ri R0  C61_ bb) {Oj Ok Ol:ON} {Iy z_ Iz IA:Nat} {Om On Oo:Cap} {uW:List (Int×Int×Int×Int×Int)} {adS qv:Int} {uX:List (List Int)} {Op Oq:List AV} {uY:List Bool} {H:Hp} (adT:Iy = uW.length) (adU:Iz = uX.length) (adV:IA = uY.length) (h0:Out H0 Ri H (Rs.blk z_ [.sl ⟨Oj,Iy,Om⟩,.int .i64 adS] :: Rs.own ⟨Ok,Iz,On⟩ (eSl (eInt .i64)).z Op :: Rs.own ⟨Ol,IA,Oo⟩ eBool.z Oq :: R0) fun R=>ROs (ePair (eInt .i64) (ePair (eInt .i64) (ePair (eInt .i64) (ePair (eInt .i64) (eInt .i64))))) H R ⟨Oj,Iy,Om⟩ uW∧CR (eSl (eInt .i64)) H R Op uX∧CR eBool H R Oq uY) {r:List (List Int)} (hp:ap.pj5 F bb uW uX uY qv = some r):∃ v H',ap.j5 F (bR.tw F) C61_ z_ 0 ⟨Ok,Iz,On⟩ ⟨Ol,IA,Oo⟩ qv H = some (v,H')∧ap.Q H0 Ri R0  r v H':=by
 obtain ⟨w0,s0,adW,adX,adY⟩:=h0
 subst adT
 subst adU
 subst adV
 unfold ap.pj5 at hp
 unfold ap.j5
 exact hC61 rfl rfl rfl ⟨w0,s0,adW,adX,adY⟩ hp
def ap.pj6 (F:Nat) (bb:List (Int×Int×Int×Int×Int)→List (List Int)→List Bool→Int→Option (List (List Int))) (uZ:List (Int×Int×Int×Int×Int)) (u_:List (List Int)) (va:List Bool) (qw:Int) (pF:List Int):Option (List (List Int)):=(apn u_ ([pF]:List (List Int))).bind fun l3=>ap.pj5 F bb uZ l3 va qw
theorem ap.j6_P {F:Nat} {H0:Hp} {Ri R0:List Rs}  {C61_:Nat→Nat→Sl→Sl→Int→Hp→OA} {bb:List (Int×Int×Int×Int×Int)→List (List Int)→List Bool→Int→Option (List (List Int))} (hC61:ap.S61 H0 Ri R0  C61_ bb) {Ot Ou Ov Ow:ON} {IB Aa ID IE IF:Nat} {Ox Oy Oz OA:Cap} {uZ:List (Int×Int×Int×Int×Int)} {adZ qw:Int} {u_:List (List Int)} {OB OC OD:List AV} {va:List Bool} {pF:List Int} {H:Hp} (ad0:IB = uZ.length) (ad1:ID = u_.length) (ad2:IE = va.length) (ad3:IF = pF.length) (h0:Out H0 Ri H (Rs.blk Aa [.sl ⟨Ot,IB,Ox⟩,.int .i64 adZ] :: Rs.own ⟨Ou,ID,Oy⟩ (eSl (eInt .i64)).z OB :: Rs.own ⟨Ov,IE,Oz⟩ eBool.z OC :: Rs.own ⟨Ow,IF,OA⟩ (eInt .i64).z OD :: R0) fun R=>ROs (ePair (eInt .i64) (ePair (eInt .i64) (ePair (eInt .i64) (ePair (eInt .i64) (eInt .i64))))) H R ⟨Ot,IB,Ox⟩ uZ∧CR (eSl (eInt .i64)) H R OB u_∧CR eBool H R OC va∧CR (eInt .i64) H R OD pF) {r:List (List Int)} (hp:ap.pj6 F bb uZ u_ va qw pF = some r):∃ v H',ap.j6 F (bR.tw F) C61_ Aa 0 ⟨Ou,ID,Oy⟩ ⟨Ov,IE,Oz⟩ qw ⟨Ow,IF,OA⟩ H = some (v,H')∧ap.Q H0 Ri R0  r v H':=by
 obtain ⟨w0,s0,ad4,ad5,ad6,ad7⟩:=h0
 subst ad0
 subst ad1
 subst ad2
 subst ad3
 unfold ap.pj6 at hp
 unfold ap.j6
 obtain ⟨w1,s1,f1⟩:=w0.frz (i:=3) (eInt .i64) rfl ad7
 dsimp only [List.eraseIdx] at w1 s1 f1
 refine newS_k (eSl (eInt .i64)) w1 (n:=1) (l:=([pF]:List (List Int))) rfl (CR.cons1 ⟨_,rfl,f1⟩ CR.empty) rfl fun H2 w2 s2 c2=>?_
 refine bind_ex (w2.rowo (i:=0) rfl) ?_
 obtain ⟨l3,e3,hp⟩:=bind_some' hp
 refine app_k (eSl (eInt .i64)) w2 (i:=2) rfl rfl (ad5.step (s1.trans s2)) c2 (show 1 = List.length ([pF]:List (List Int)) from rfl) rfl e3 fun a4 d4 H4 w4 s4 c4 x4=>?_
 dsimp only [List.set] at w4 s4 c4
 obtain ⟨w5,s5⟩:=w4.pick' [1,2,3] 4 rfl rfl rfl
 dsimp only [pk,pks,nth,List.drop] at w5 s5
 exact ap.j5_P (@hC61) rfl rfl rfl ⟨w5,(s0.trans (s1.trans (s2.trans (s4.trans s5)))),(ad4.step (s1.trans (s2.trans (s4.trans s5)))),(c4.step s5),(ad6.step (s1.trans (s2.trans (s4.trans s5))))⟩ hp
def ap.pl7853 (F:Nat) (bb:List (Int×Int×Int×Int×Int)→List (List Int)→List Bool→Int→Option (List (List Int))):Nat→List (Int×Int×Int×Int×Int)→List (List Int)→List Bool→Int→List Int→Int→Option (List (List Int))
 | 0,_,_,_,_,_,_=>none
 | k + 1,nh,oM,lS,gR,oN,eI=>(ix lS eI).bind fun n1=>(bif (!(gt lS n1)) then ((ix lS eI).bind fun n2=>(some (lS.set n2 true)).bind fun l3=>(apn oN ([eI]:List Int)).bind fun l6=>(bR.p F nh eI).bind fun r8=>ap.pl7853 F bb k nh oM l3 gR l6 r8) else (ap.pj6 F bb nh oM lS gR oN))
termination_by structural n=>n
theorem ap.l7853_P {F:Nat} {H0:Hp} {Ri R0:List Rs}  {C61_:Nat→Nat→Sl→Sl→Int→Hp→OA} {bb:List (Int×Int×Int×Int×Int)→List (List Int)→List Bool→Int→Option (List (List Int))} (hC61:ap.S61 H0 Ri R0  C61_ bb):∀ k,ap.S7853 H0 Ri R0  (ap.l7853 F (bR.tw F) C61_ k) (ap.pl7853 F bb k):=by
 intro k
 induction k with
 | zero=>
  intro Bu Bv Bw Bx uS fJ uT uU uV By Bz BA BB nh Ix gR eI oM BC BD BE lS oN H OE OF OG OH h0 r hp
  exact nomatch (show (none:Option (List (List Int))) = some r from hp)
 | succ k ih=>
  intro Bu Bv Bw Bx uS fJ uT uU uV By Bz BA BB nh Ix gR eI oM BC BD BE lS oN H OE OF OG OH h0 r hp
  obtain ⟨w0,s0,IG,OI,BF,OJ⟩:=h0
  subst OE
  subst OF
  subst OG
  subst OH
  unfold ap.pl7853 at hp
  unfold ap.l7853
  obtain ⟨n1,g1,hp⟩:=bind_some' hp
  obtain ⟨p1,q1,i1,h1,j1⟩:=W.ixo (E:=eBool) w0 (i:=2) rfl rfl BF g1
  refine bind_ex i1 ?_
  have h1:_ = [_]:=h1
  subst h1
  refine bind_ex (ldB_of (j1 0 _ rfl)) ?_
  refine bif_ex (fun hb=>?_) (fun hb=>?_)
  ·replace hp:=bif_t hb hp
   obtain ⟨n2,g2,hp⟩:=bind_some' hp
   obtain ⟨p2,q2,i2,h2,j2⟩:=W.ixo (E:=eBool) w0 (i:=2) rfl rfl BF g2
   refine bind_ex i2 ?_
   obtain ⟨l3,e3,hp⟩:=bind_some' hp
   refine sto_k eBool w0 (i:=2) (j:=0) (p:=p2) rfl rfl BF g2 i2 e3 rfl rfl (fun _ h=>by have h:_ = [_]:=h; subst h; exact rfl) fun H4 k4 w4 s4 c4=>?_
   dsimp only [List.set] at w4 s4 c4
   refine newS_k (eInt .i64) w4 (n:=1) (l:=([eI]:List Int)) rfl (CR.cons1 rfl CR.empty) rfl fun H5 w5 s5 c5=>?_
   refine bind_ex (w5.rowo (i:=0) rfl) ?_
   obtain ⟨l6,e6,hp⟩:=bind_some' hp
   refine app_k (eInt .i64) w5 (i:=4) rfl rfl (OJ.step (s4.trans s5)) c5 (show 1 = List.length ([eI]:List Int) from rfl) rfl e6 fun a7 d7 H7 w7 s7 c7 x7=>?_
   dsimp only [List.set] at w7 s7 c7
   refine bind_ex (ldSl_of (w7.ld (i:=1) rfl rfl)) ?_
   refine bind_ex (ldI_of (w7.ld (i:=1) rfl rfl)) ?_
   obtain ⟨r8,e8,hp⟩:=bind_some' hp
   refine call_ex (bR.P rfl ⟨w7,(IG.step (s4.trans (s5.trans s7)))⟩ e8) ?_
   rintro _ H9 ⟨rfl,w9,s9,_⟩
   refine bind_ex rfl ?_
   obtain ⟨w10,s10⟩:=w9.pick' [1,2,3,4] 5 rfl rfl rfl
   dsimp only [pk,pks,nth,List.drop] at w10 s10
   exact ih rfl rfl ((st_len e3).symm) rfl ⟨w10,(s0.trans (s4.trans (s5.trans (s7.trans (s9.trans s10))))),(IG.step (s4.trans (s5.trans (s7.trans (s9.trans s10))))),(OI.step (s4.trans (s5.trans (s7.trans (s9.trans s10))))),(c4.step (s5.trans (s7.trans (s9.trans s10)))),(c7.step (s9.trans s10))⟩ hp
  ·replace hp:=bif_f hb hp
   exact ap.j6_P (@hC61) rfl rfl rfl rfl ⟨w0,s0,IG,OI,BF,OJ⟩ hp
def ap.pl61 (F:Nat) :Nat→List (Int×Int×Int×Int×Int)→List (List Int)→List Bool→Int→Option (List (List Int))
 | 0,_,_,_,_=>none
 | k + 1,dk,ng,hJ,cW=>(bif (decide (cW < (hJ.length:Int))) then ((ix hJ cW).bind fun n1=>(bif (gt hJ n1) then (ap.pj4 F (ap.pl61 F k) dk ng hJ cW) else (ap.pl7853 F (ap.pl61 F k) F dk ng hJ cW ([]:List Int) cW))) else (some ng))
termination_by structural n=>n
theorem ap.l61_P {F:Nat} {H0:Hp} {Ri R0:List Rs}  :∀ k,ap.S61 H0 Ri R0  (ap.l61 F (bR.tw F)  k) (ap.pl61 F  k):=by
 intro k
 induction k with
 | zero=>
  intro mZ Br m_ lQ cu uO lR na Bs nb dk jZ cW ng Bt nc hJ H uH OK uI h0 r hp
  exact nomatch (show (none:Option (List (List Int))) = some r from hp)
 | succ k ih=>
  intro mZ Br m_ lQ cu uO lR na Bs nb dk jZ cW ng Bt nc hJ H uH OK uI h0 r hp
  obtain ⟨w0,s0,tC,IH,tD⟩:=h0
  subst uH
  subst OK
  subst uI
  unfold ap.pl61 at hp
  unfold ap.l61
  refine bif_ex (fun hb=>?_) (fun hb=>?_)
  ·replace hp:=bif_t hb hp
   obtain ⟨n1,g1,hp⟩:=bind_some' hp
   obtain ⟨p1,q1,i1,h1,j1⟩:=W.ixo (E:=eBool) w0 (i:=2) rfl rfl tD g1
   refine bind_ex i1 ?_
   have h1:_ = [_]:=h1
   subst h1
   refine bind_ex (ldB_of (j1 0 _ rfl)) ?_
   refine bif_ex (fun hb=>?_) (fun hb=>?_)
   ·replace hp:=bif_t hb hp
    exact ap.j4_P (@ih) rfl rfl rfl ⟨w0,s0,tC,IH,tD⟩ hp
   ·replace hp:=bif_f hb hp
    refine newS_k (eInt .i64) w0 (n:=0) (l:=([]:List Int)) rfl CR.empty rfl fun H2 w2 s2 c2=>?_
    obtain ⟨w3,s3⟩:=w2.pick' [1,2,3,0] 4 rfl rfl rfl
    dsimp only [pk,pks,nth,List.drop] at w3 s3
    exact ap.l7853_P (@ih) F rfl rfl rfl (show 0 = List.length ([]:List Int) from rfl) ⟨w3,(s0.trans (s2.trans s3)),(tC.step (s2.trans s3)),(IH.step (s2.trans s3)),(tD.step (s2.trans s3)),(c2.step s3)⟩ hp
  ·replace hp:=bif_f hb hp
   obtain ⟨w4,s4⟩:=w0.pick' [1] 3 rfl rfl rfl
   dsimp only [pk,pks,nth,List.drop] at w4 s4
   obtain rfl:=Option.some.inj hp
   exact ⟨_,_,rfl,_,_,_,_,rfl,rfl,w4,(s0.trans s4),(IH.step s4)⟩
def ap.p (F:Nat) (af:List (Int×Int×Int×Int×Int)):Option (List (List Int)):=(mkn (IntKind.i64.wrap (4 * (af.length:Int))) false).bind fun l3=>ap.pl61 F F af ([]:List (List Int)) l3 0
theorem ap.P {F:Nat} {aF:ON} {ay:Nat} {aG:Cap} {af:List (Int×Int×Int×Int×Int)} {ab:Int} {H:Hp} {R0:List Rs} (bm:ay = af.length) (h0:Inn H R0 fun R=>ROs (ePair (eInt .i64) (ePair (eInt .i64) (ePair (eInt .i64) (ePair (eInt .i64) (eInt .i64))))) H R ⟨aF,ay,aG⟩ af) {r:List (List Int)} (hp:ap.p F af = some r):∃ v H',ap.tw F ⟨aF,ay,aG⟩ ab H = some (v,H')∧ap.Q H R0 R0  r v H':=by
 obtain ⟨w0,aS⟩:=h0
 subst bm
 unfold ap.p at hp
 unfold ap.tw ap.twX
 have s0:=w0.rf
 refine new_k w0 fun H1 w1 s1=>?_
 refine newS_k (eSl (eInt .i64)) w1 (n:=0) (l:=([]:List (List Int))) rfl CR.empty rfl fun H2 w2 s2 c2=>?_
 refine bind_ex (ldSl_of (w2.ld (i:=1) rfl rfl)) ?_
 obtain ⟨l3,e3,hp⟩:=bind_some' hp
 refine mk_k eBool false w2 rfl rfl rfl e3 fun H4 k4 w4 s4 c4=>?_
 obtain ⟨w5,s5⟩:=w4.pick' [2,1,0] 3 rfl rfl rfl
 dsimp only [pk,pks,nth,List.drop] at w5 s5
 exact ap.l61_P F rfl (show 0 = List.length ([]:List (List Int)) from rfl) rfl ⟨w5,(s0.trans (s1.trans (s2.trans (s4.trans s5)))),(aS.step (s1.trans (s2.trans (s4.trans s5)))),(c2.step (s4.trans s5)),(c4.step s5)⟩ hp
def ao.Q (H0:Hp) (Ri R0:List Rs)  (r:List Int) (v:AV) (H':Hp):Prop:=∃ o0a:ON,∃ o0n:Nat,∃ o0c:Cap,∃ o0k:List AV,v = (.sl ⟨o0a,o0n,o0c⟩)∧o0n = (r).length∧Out H0 Ri H' (Rs.own ⟨o0a,o0n,o0c⟩ (eInt .i64).z o0k :: R0) fun R=>CR (eInt .i64) H' R o0k (r)
def ao.S29 (H0:Hp) (Ri R0:List Rs)  (C:Nat→Nat→Sl→Int→Hp→OA) (pC:List (Int×Int×Int×Int×Int)→List Int→Int→Option (List Int)):Prop:=∀ {BG BH:ON} {vb iy vc:Nat} {BI BJ:Cap} {ni:List (Int×Int×Int×Int×Int)} {II fL:Int} {oO:List Int} {BK:List AV},∀ {H:Hp},vb = ni.length→vc = oO.length→(Out H0 Ri H (Rs.blk iy [.sl ⟨BG,vb,BI⟩,.int .i64 II] :: Rs.own ⟨BH,vc,BJ⟩ (eInt .i64).z BK :: R0) fun R=>ROs (ePair (eInt .i64) (ePair (eInt .i64) (ePair (eInt .i64) (ePair (eInt .i64) (eInt .i64))))) H R ⟨BG,vb,BI⟩ ni∧CR (eInt .i64) H R BK oO)→∀ {r:List Int},pC ni oO fL = some r→∃ v H',C iy 0 ⟨BH,vc,BJ⟩ fL H = some (v,H')∧ao.Q H0 Ri R0  r v H'
def ao.S61 (H0:Hp) (Ri R0:List Rs)  (C:Nat→Nat→Sl→Int→Hp→OA) (pC:List (Int×Int×Int×Int×Int)→List Int→Int→Option (List Int)):Prop:=∀ {BL BM:ON} {vd gA ve:Nat} {BN BO:Cap} {mI:List (Int×Int×Int×Int×Int)} {IJ fK:Int} {kY:List Int} {BP:List AV},∀ {H:Hp},vd = mI.length→ve = kY.length→(Out H0 Ri H (Rs.blk gA [.sl ⟨BL,vd,BN⟩,.int .i64 IJ] :: Rs.own ⟨BM,ve,BO⟩ (eInt .i64).z BP :: R0) fun R=>ROs (ePair (eInt .i64) (ePair (eInt .i64) (ePair (eInt .i64) (ePair (eInt .i64) (eInt .i64))))) H R ⟨BL,vd,BN⟩ mI∧CR (eInt .i64) H R BP kY)→∀ {r:List Int},pC mI kY fK = some r→∃ v H',C gA 0 ⟨BM,ve,BO⟩ fK H = some (v,H')∧ao.Q H0 Ri R0  r v H'
def ao.S7855 (H0:Hp) (Ri R0:List Rs)  (C:Nat→Nat→Sl→Int→Int→Int→Int→Hp→OA) (pC:List (Int×Int×Int×Int×Int)→List Int→Int→Int→Int→Int→Option (List Int)):Prop:=∀ {BQ BR:ON} {vf gz vg:Nat} {BS BT:Cap} {nj:List (Int×Int×Int×Int×Int)} {IK fe dz dS eJ:Int} {ky:List Int} {BU:List AV},∀ {H:Hp},vf = nj.length→vg = ky.length→(Out H0 Ri H (Rs.blk gz [.sl ⟨BQ,vf,BS⟩,.int .i64 IK] :: Rs.own ⟨BR,vg,BT⟩ (eInt .i64).z BU :: R0) fun R=>ROs (ePair (eInt .i64) (ePair (eInt .i64) (ePair (eInt .i64) (ePair (eInt .i64) (eInt .i64))))) H R ⟨BQ,vf,BS⟩ nj∧CR (eInt .i64) H R BU ky)→∀ {r:List Int},pC nj ky fe dz dS eJ = some r→∃ v H',C gz 0 ⟨BR,vg,BT⟩ fe dz dS eJ H = some (v,H')∧ao.Q H0 Ri R0  r v H'
def ao.pj8 (F:Nat) (BV:List (Int×Int×Int×Int×Int)→List Int→Int→Int→Int→Int→Option (List Int)) (vh:List (Int×Int×Int×Int×Int)) (vi:List Int) (qz:Int) (qA:Int) (qB:Int) (qC:Int):Option (List Int):=BV vh vi qz qA qB (IntKind.i64.wrap (qC + 1))
theorem ao.j8_P {F:Nat} {H0:Hp} {Ri R0:List Rs}  {C7855_:Nat→Nat→Sl→Int→Int→Int→Int→Hp→OA} {BV:List (Int×Int×Int×Int×Int)→List Int→Int→Int→Int→Int→Option (List Int)} (hC7855:ao.S7855 H0 Ri R0  C7855_ BV) {OL OM:ON} {IL Ad IM:Nat} {ON OO:Cap} {vh:List (Int×Int×Int×Int×Int)} {ad8 qz qA qB qC:Int} {vi:List Int} {OP:List AV} {H:Hp} (ad9:IL = vh.length) (ad_:IM = vi.length) (h0:Out H0 Ri H (Rs.blk Ad [.sl ⟨OL,IL,ON⟩,.int .i64 ad8] :: Rs.own ⟨OM,IM,OO⟩ (eInt .i64).z OP :: R0) fun R=>ROs (ePair (eInt .i64) (ePair (eInt .i64) (ePair (eInt .i64) (ePair (eInt .i64) (eInt .i64))))) H R ⟨OL,IL,ON⟩ vh∧CR (eInt .i64) H R OP vi) {r:List Int} (hp:ao.pj8 F BV vh vi qz qA qB qC = some r):∃ v H',ao.j8 F (aA.tw F) C7855_ Ad 0 ⟨OM,IM,OO⟩ qz qA qB qC H = some (v,H')∧ao.Q H0 Ri R0  r v H':=by
 obtain ⟨w0,s0,aea,aeb⟩:=h0
 subst ad9
 subst ad_
 unfold ao.pj8 at hp
 unfold ao.j8
 exact hC7855 rfl rfl ⟨w0,s0,aea,aeb⟩ hp
def ao.pj6 (F:Nat) (bb:List (Int×Int×Int×Int×Int)→List Int→Int→Option (List Int)) (vj:List (Int×Int×Int×Int×Int)) (vk:List Int) (qx:Int):Option (List Int):=bb vj vk (IntKind.i64.wrap (qx + 1))
theorem ao.j6_P {F:Nat} {H0:Hp} {Ri R0:List Rs}  {C61_:Nat→Nat→Sl→Int→Hp→OA} {bb:List (Int×Int×Int×Int×Int)→List Int→Int→Option (List Int)} (hC61:ao.S61 H0 Ri R0  C61_ bb) {OQ OR:ON} {IN Ab IP:Nat} {OS OT:Cap} {vj:List (Int×Int×Int×Int×Int)} {aec qx:Int} {vk:List Int} {OU:List AV} {H:Hp} (aed:IN = vj.length) (aee:IP = vk.length) (h0:Out H0 Ri H (Rs.blk Ab [.sl ⟨OQ,IN,OS⟩,.int .i64 aec] :: Rs.own ⟨OR,IP,OT⟩ (eInt .i64).z OU :: R0) fun R=>ROs (ePair (eInt .i64) (ePair (eInt .i64) (ePair (eInt .i64) (ePair (eInt .i64) (eInt .i64))))) H R ⟨OQ,IN,OS⟩ vj∧CR (eInt .i64) H R OU vk) {r:List Int} (hp:ao.pj6 F bb vj vk qx = some r):∃ v H',ao.j6 F (aA.tw F) C61_ Ab 0 ⟨OR,IP,OT⟩ qx H = some (v,H')∧ao.Q H0 Ri R0  r v H':=by
 obtain ⟨w0,s0,aef,aeg⟩:=h0
 subst aed
 subst aee
 unfold ao.pj6 at hp
 unfold ao.j6
 exact hC61 rfl rfl ⟨w0,s0,aef,aeg⟩ hp
def ao.pj7 (F:Nat) (bb:List (Int×Int×Int×Int×Int)→List Int→Int→Option (List Int)) (vl:List (Int×Int×Int×Int×Int)) (vm:List Int) (nY:Int):Option (List Int):=ao.pj6 F bb vl vm nY
theorem ao.j7_P {F:Nat} {H0:Hp} {Ri R0:List Rs}  {C61_:Nat→Nat→Sl→Int→Hp→OA} {bb:List (Int×Int×Int×Int×Int)→List Int→Int→Option (List Int)} (hC61:ao.S61 H0 Ri R0  C61_ bb) {OV OW:ON} {IQ Ac IR:Nat} {OX OY:Cap} {vl:List (Int×Int×Int×Int×Int)} {aeh nY:Int} {vm:List Int} {OZ:List AV} {H:Hp} (aei:IQ = vl.length) (aej:IR = vm.length) (h0:Out H0 Ri H (Rs.blk Ac [.sl ⟨OV,IQ,OX⟩,.int .i64 aeh] :: Rs.own ⟨OW,IR,OY⟩ (eInt .i64).z OZ :: R0) fun R=>ROs (ePair (eInt .i64) (ePair (eInt .i64) (ePair (eInt .i64) (ePair (eInt .i64) (eInt .i64))))) H R ⟨OV,IQ,OX⟩ vl∧CR (eInt .i64) H R OZ vm) {r:List Int} (hp:ao.pj7 F bb vl vm nY = some r):∃ v H',ao.j7 F (aA.tw F) C61_ Ac 0 ⟨OW,IR,OY⟩ nY H = some (v,H')∧ao.Q H0 Ri R0  r v H':=by
 obtain ⟨w0,s0,aek,ael⟩:=h0
 subst aei
 subst aej
 unfold ao.pj7 at hp
 unfold ao.j7
 exact ao.j6_P (@hC61) rfl rfl ⟨w0,s0,aek,ael⟩ hp
def ao.pl7855 (F:Nat) (bb:List (Int×Int×Int×Int×Int)→List Int→Int→Option (List Int)):Nat→List (Int×Int×Int×Int×Int)→List Int→Int→Int→Int→Int→Option (List Int)
 | 0,_,_,_,_,_,_=>none
 | k + 1,nj,ky,fe,dz,dS,eJ=>(bif (decide (eJ < (ky.length:Int))) then ((ix ky eJ).bind fun n1=>(bif ((gt ky n1) == (if dS > dz then dS else dz)) then ((ix ky eJ).bind fun n2=>(some (ky.set n2 (if dS < dz then dS else dz))).bind fun l3=>ao.pj8 F (ao.pl7855 F bb k) nj l3 fe dz dS eJ) else (ao.pj8 F (ao.pl7855 F bb k) nj ky fe dz dS eJ))) else (ao.pj7 F bb nj ky fe))
termination_by structural n=>n
theorem ao.l7855_P {F:Nat} {H0:Hp} {Ri R0:List Rs}  {C61_:Nat→Nat→Sl→Int→Hp→OA} {bb:List (Int×Int×Int×Int×Int)→List Int→Int→Option (List Int)} (hC61:ao.S61 H0 Ri R0  C61_ bb):∀ k,ao.S7855 H0 Ri R0  (ao.l7855 F (aA.tw F) C61_ k) (ao.pl7855 F bb k):=by
 intro k
 induction k with
 | zero=>
  intro BQ BR vf gz vg BS BT nj IK fe dz dS eJ ky BU H O_ Pa h0 r hp
  exact nomatch (show (none:Option (List Int)) = some r from hp)
 | succ k ih=>
  intro BQ BR vf gz vg BS BT nj IK fe dz dS eJ ky BU H O_ Pa h0 r hp
  obtain ⟨w0,s0,IS,vn⟩:=h0
  subst O_
  subst Pa
  unfold ao.pl7855 at hp
  unfold ao.l7855
  refine bif_ex (fun hb=>?_) (fun hb=>?_)
  ·replace hp:=bif_t hb hp
   obtain ⟨n1,g1,hp⟩:=bind_some' hp
   obtain ⟨p1,q1,i1,h1,j1⟩:=W.ixo (E:=(eInt .i64)) w0 (i:=1) rfl rfl vn g1
   refine bind_ex i1 ?_
   have h1:_ = [_]:=h1
   subst h1
   refine bind_ex (ldI_of (j1 0 _ rfl)) ?_
   refine bif_ex (fun hb=>?_) (fun hb=>?_)
   ·replace hp:=bif_t hb hp
    obtain ⟨n2,g2,hp⟩:=bind_some' hp
    obtain ⟨p2,q2,i2,h2,j2⟩:=W.ixo (E:=(eInt .i64)) w0 (i:=1) rfl rfl vn g2
    refine bind_ex i2 ?_
    obtain ⟨l3,e3,hp⟩:=bind_some' hp
    refine sto_k (eInt .i64) w0 (i:=1) (j:=0) (p:=p2) rfl rfl vn g2 i2 e3 rfl rfl (fun _ h=>by have h:_ = [_]:=h; subst h; exact rfl) fun H4 k4 w4 s4 c4=>?_
    dsimp only [List.set] at w4 s4 c4
    exact ao.j8_P (@ih) rfl ((st_len e3).symm) ⟨w4,(s0.trans s4),(IS.step s4),c4⟩ hp
   ·replace hp:=bif_f hb hp
    exact ao.j8_P (@ih) rfl rfl ⟨w0,s0,IS,vn⟩ hp
  ·replace hp:=bif_f hb hp
   exact ao.j7_P (@hC61) rfl rfl ⟨w0,s0,IS,vn⟩ hp
def ao.pl61 (F:Nat) :Nat→List (Int×Int×Int×Int×Int)→List Int→Int→Option (List Int)
 | 0,_,_,_=>none
 | k + 1,mI,kY,fK=>(bif (decide (fK < (IntKind.i64.wrap (2 * (mI.length:Int))))) then ((aA.p F mI fK true).bind fun r1=>(aA.p F mI fK false).bind fun r3=>(ix kY r1.1).bind fun n5=>(ix kY r3.1).bind fun n6=>ao.pl7855 F (ao.pl61 F k) F mI kY fK (gt kY n5) (gt kY n6) 0) else (some kY))
termination_by structural n=>n
theorem ao.l61_P {F:Nat} {H0:Hp} {Ri R0:List Rs}  :∀ k,ao.S61 H0 Ri R0  (ao.l61 F (aA.tw F)  k) (ao.pl61 F  k):=by
 intro k
 induction k with
 | zero=>
  intro BL BM vd gA ve BN BO mI IJ fK kY BP H Pb Pc h0 r hp
  exact nomatch (show (none:Option (List Int)) = some r from hp)
 | succ k ih=>
  intro BL BM vd gA ve BN BO mI IJ fK kY BP H Pb Pc h0 r hp
  obtain ⟨w0,s0,IT,BW⟩:=h0
  subst Pb
  subst Pc
  unfold ao.pl61 at hp
  unfold ao.l61
  refine bind_ex (ldSl_of (w0.ld (i:=0) rfl rfl)) ?_
  refine bif_ex (fun hb=>?_) (fun hb=>?_)
  ·replace hp:=bif_t hb hp
   refine bind_ex (ldSl_of (w0.ld (i:=0) rfl rfl)) ?_
   refine bind_ex (ldI_of (w0.ld (i:=0) rfl rfl)) ?_
   obtain ⟨r1,e1,hp⟩:=bind_some' hp
   refine call_ex (aA.P rfl ⟨w0,IT⟩ e1) ?_
   rintro _ H2 ⟨rfl,w2,s2,_⟩
   refine bind_ex rfl ?_
   refine bind_ex rfl ?_
   refine bind_ex rfl ?_
   refine bind_ex rfl ?_
   refine bind_ex rfl ?_
   refine bind_ex (ldSl_of (w2.ld (i:=0) rfl rfl)) ?_
   refine bind_ex (ldI_of (w2.ld (i:=0) rfl rfl)) ?_
   obtain ⟨r3,e3,hp⟩:=bind_some' hp
   refine call_ex (aA.P rfl ⟨w2,(IT.step s2)⟩ e3) ?_
   rintro _ H4 ⟨rfl,w4,s4,_⟩
   refine bind_ex rfl ?_
   refine bind_ex rfl ?_
   refine bind_ex rfl ?_
   refine bind_ex rfl ?_
   refine bind_ex rfl ?_
   obtain ⟨n5,g5,hp⟩:=bind_some' hp
   obtain ⟨p5,q5,i5,h5,j5⟩:=W.ixo (E:=(eInt .i64)) w4 (i:=1) rfl rfl (BW.step (s2.trans s4)) g5
   refine bind_ex i5 ?_
   have h5:_ = [_]:=h5
   subst h5
   refine bind_ex (ldI_of (j5 0 _ rfl)) ?_
   obtain ⟨n6,g6,hp⟩:=bind_some' hp
   obtain ⟨p6,q6,i6,h6,j6⟩:=W.ixo (E:=(eInt .i64)) w4 (i:=1) rfl rfl (BW.step (s2.trans s4)) g6
   refine bind_ex i6 ?_
   have h6:_ = [_]:=h6
   subst h6
   refine bind_ex (ldI_of (j6 0 _ rfl)) ?_
   exact ao.l7855_P (@ih) F rfl rfl ⟨w4,(s0.trans (s2.trans s4)),(IT.step (s2.trans s4)),(BW.step (s2.trans s4))⟩ hp
  ·replace hp:=bif_f hb hp
   obtain ⟨w7,s7⟩:=w0.pick' [1] 2 rfl rfl rfl
   dsimp only [pk,pks,nth,List.drop] at w7 s7
   obtain rfl:=Option.some.inj hp
   exact ⟨_,_,rfl,_,_,_,_,rfl,rfl,w7,(s0.trans s7),(BW.step s7)⟩
def ao.pj9 (F:Nat)  (vo:List (Int×Int×Int×Int×Int)) (vp:List Int):Option (List Int):=ao.pl61 F F vo vp 0
theorem ao.j9_P {F:Nat} {H0:Hp} {Ri R0:List Rs}   {Pd Pe:ON} {IU Ae IV:Nat} {Pf Pg:Cap} {vo:List (Int×Int×Int×Int×Int)} {aem:Int} {vp:List Int} {Ph:List AV} {H:Hp} (aen:IU = vo.length) (aeo:IV = vp.length) (h0:Out H0 Ri H (Rs.blk Ae [.sl ⟨Pd,IU,Pf⟩,.int .i64 aem] :: Rs.own ⟨Pe,IV,Pg⟩ (eInt .i64).z Ph :: R0) fun R=>ROs (ePair (eInt .i64) (ePair (eInt .i64) (ePair (eInt .i64) (ePair (eInt .i64) (eInt .i64))))) H R ⟨Pd,IU,Pf⟩ vo∧CR (eInt .i64) H R Ph vp) {r:List Int} (hp:ao.pj9 F  vo vp = some r):∃ v H',ao.j9 F (aA.tw F)  Ae 0 ⟨Pe,IV,Pg⟩ H = some (v,H')∧ao.Q H0 Ri R0  r v H':=by
 obtain ⟨w0,s0,aep,aeq⟩:=h0
 subst aen
 subst aeo
 unfold ao.pj9 at hp
 unfold ao.j9
 exact ao.l61_P F rfl rfl ⟨w0,s0,aep,aeq⟩ hp
def ao.pl29 (F:Nat) :Nat→List (Int×Int×Int×Int×Int)→List Int→Int→Option (List Int)
 | 0,_,_,_=>none
 | k + 1,ni,oO,fL=>(bif (decide (fL < (ni.length:Int))) then ((apn oO ([fL]:List Int)).bind fun l2=>ao.pl29 F k ni l2 (IntKind.i64.wrap (fL + 1))) else (ao.pj9 F ni oO))
termination_by structural n=>n
theorem ao.l29_P {F:Nat} {H0:Hp} {Ri R0:List Rs}  :∀ k,ao.S29 H0 Ri R0  (ao.l29 F (aA.tw F)  k) (ao.pl29 F  k):=by
 intro k
 induction k with
 | zero=>
  intro BG BH vb iy vc BI BJ ni II fL oO BK H Pi Pj h0 r hp
  exact nomatch (show (none:Option (List Int)) = some r from hp)
 | succ k ih=>
  intro BG BH vb iy vc BI BJ ni II fL oO BK H Pi Pj h0 r hp
  obtain ⟨w0,s0,Pk,Pl⟩:=h0
  subst Pi
  subst Pj
  unfold ao.pl29 at hp
  unfold ao.l29
  refine bind_ex (ldSl_of (w0.ld (i:=0) rfl rfl)) ?_
  refine bif_ex (fun hb=>?_) (fun hb=>?_)
  ·replace hp:=bif_t hb hp
   refine newS_k (eInt .i64) w0 (n:=1) (l:=([fL]:List Int)) rfl (CR.cons1 rfl CR.empty) rfl fun H1 w1 s1 c1=>?_
   refine bind_ex (w1.rowo (i:=0) rfl) ?_
   obtain ⟨l2,e2,hp⟩:=bind_some' hp
   refine app_k (eInt .i64) w1 (i:=2) rfl rfl (Pl.step s1) c1 (show 1 = List.length ([fL]:List Int) from rfl) rfl e2 fun a3 d3 H3 w3 s3 c3 x3=>?_
   dsimp only [List.set] at w3 s3 c3
   obtain ⟨w4,s4⟩:=w3.pick' [1,2] 3 rfl rfl rfl
   dsimp only [pk,pks,nth,List.drop] at w4 s4
   exact ih rfl rfl ⟨w4,(s0.trans (s1.trans (s3.trans s4))),(Pk.step (s1.trans (s3.trans s4))),(c3.step s4)⟩ hp
  ·replace hp:=bif_f hb hp
   exact ao.j9_P rfl rfl ⟨w0,s0,Pk,Pl⟩ hp
def ao.p (F:Nat) (af:List (Int×Int×Int×Int×Int)):Option (List Int):=ao.pl29 F F af ([]:List Int) 0
theorem ao.P {F:Nat} {aF:ON} {ay:Nat} {aG:Cap} {af:List (Int×Int×Int×Int×Int)} {ab:Int} {H:Hp} {R0:List Rs} (bm:ay = af.length) (h0:Inn H R0 fun R=>ROs (ePair (eInt .i64) (ePair (eInt .i64) (ePair (eInt .i64) (ePair (eInt .i64) (eInt .i64))))) H R ⟨aF,ay,aG⟩ af) {r:List Int} (hp:ao.p F af = some r):∃ v H',ao.tw F ⟨aF,ay,aG⟩ ab H = some (v,H')∧ao.Q H R0 R0  r v H':=by
 obtain ⟨w0,aS⟩:=h0
 subst bm
 unfold ao.p at hp
 unfold ao.tw ao.twX
 have s0:=w0.rf
 refine new_k w0 fun H1 w1 s1=>?_
 refine newS_k (eInt .i64) w1 (n:=0) (l:=([]:List Int)) rfl CR.empty rfl fun H2 w2 s2 c2=>?_
 obtain ⟨w3,s3⟩:=w2.pick' [1,0] 2 rfl rfl rfl
 dsimp only [pk,pks,nth,List.drop] at w3 s3
 exact ao.l29_P F rfl (show 0 = List.length ([]:List Int) from rfl) ⟨w3,(s0.trans (s1.trans (s2.trans s3))),(aS.step (s1.trans (s2.trans s3))),(c2.step s3)⟩ hp
def aL.Q (H0:Hp) (Ri R0:List Rs)  (r:Int) (v:AV) (H':Hp):Prop:=v = (.int .i64 r)∧Out H0 Ri H' (R0) fun R=>True
def aL.S61 (H0:Hp) (Ri R0:List Rs)  (C:Int→Sl→Int→Hp→OA) (pC:Int→List Int→Int→Option (Int)):Prop:=∀ {cL eK:Int} {BX:ON} {vq:Nat} {BY:Cap} {lT:List Int} {BZ:List AV},∀ {H:Hp},vq = lT.length→(Out H0 Ri H (Rs.own ⟨BX,vq,BY⟩ (eInt .i64).z BZ :: R0) fun R=>CR (eInt .i64) H R BZ lT)→∀ {r:Int},pC cL lT eK = some r→∃ v H',C cL ⟨BX,vq,BY⟩ eK H = some (v,H')∧aL.Q H0 Ri R0  r v H'
def aL.pj2 (F:Nat) (bb:Int→List Int→Int→Option (Int)) (qD:Int) (vr:List Int) (qE:Int):Option (Int):=bb qD vr (IntKind.i64.wrap (qE + 1))
theorem aL.j2_P {F:Nat} {H0:Hp} {Ri R0:List Rs}  {C61_:Int→Sl→Int→Hp→OA} {bb:Int→List Int→Int→Option (Int)} (hC61:aL.S61 H0 Ri R0  C61_ bb) {qD qE:Int} {Pm:ON} {IW:Nat} {Pn:Cap} {vr:List Int} {Po:List AV} {H:Hp} (aer:IW = vr.length) (h0:Out H0 Ri H (Rs.own ⟨Pm,IW,Pn⟩ (eInt .i64).z Po :: R0) fun R=>CR (eInt .i64) H R Po vr) {r:Int} (hp:aL.pj2 F bb qD vr qE = some r):∃ v H',aL.j2 F (ao.tw F) C61_ qD ⟨Pm,IW,Pn⟩ qE H = some (v,H')∧aL.Q H0 Ri R0  r v H':=by
 obtain ⟨w0,s0,aes⟩:=h0
 subst aer
 unfold aL.pj2 at hp
 unfold aL.j2
 exact hC61 rfl ⟨w0,s0,aes⟩ hp
def aL.pl61 (F:Nat) :Nat→Int→List Int→Int→Option (Int)
 | 0,_,_,_=>none
 | k + 1,cL,lT,eK=>(bif (decide (eK < (lT.length:Int))) then ((ix lT eK).bind fun n1=>(bif ((gt lT n1) == eK) then (aL.pj2 F (aL.pl61 F k) (IntKind.i64.wrap (cL + 1)) lT eK) else (aL.pj2 F (aL.pl61 F k) cL lT eK))) else (some cL))
termination_by structural n=>n
theorem aL.l61_P {F:Nat} {H0:Hp} {Ri R0:List Rs}  :∀ k,aL.S61 H0 Ri R0  (aL.l61 F (ao.tw F)  k) (aL.pl61 F  k):=by
 intro k
 induction k with
 | zero=>
  intro cL eK BX vq BY lT BZ H Pp h0 r hp
  exact nomatch (show (none:Option (Int)) = some r from hp)
 | succ k ih=>
  intro cL eK BX vq BY lT BZ H Pp h0 r hp
  obtain ⟨w0,s0,IX⟩:=h0
  subst Pp
  unfold aL.pl61 at hp
  unfold aL.l61
  refine bif_ex (fun hb=>?_) (fun hb=>?_)
  ·replace hp:=bif_t hb hp
   obtain ⟨n1,g1,hp⟩:=bind_some' hp
   obtain ⟨p1,q1,i1,h1,j1⟩:=W.ixo (E:=(eInt .i64)) w0 (i:=0) rfl rfl IX g1
   refine bind_ex i1 ?_
   have h1:_ = [_]:=h1
   subst h1
   refine bind_ex (ldI_of (j1 0 _ rfl)) ?_
   refine bif_ex (fun hb=>?_) (fun hb=>?_)
   ·replace hp:=bif_t hb hp
    exact aL.j2_P (@ih) rfl ⟨w0,s0,IX⟩ hp
   ·replace hp:=bif_f hb hp
    exact aL.j2_P (@ih) rfl ⟨w0,s0,IX⟩ hp
  ·replace hp:=bif_f hb hp
   obtain ⟨w2,s2⟩:=w0.pick' [] 1 rfl rfl rfl
   dsimp only [pk,pks,nth,List.drop] at w2 s2
   obtain rfl:=Option.some.inj hp
   exact ⟨_,_,rfl,rfl,w2,(s0.trans s2),trivial⟩
def aL.p (F:Nat) (af:List (Int×Int×Int×Int×Int)):Option (Int):=(ao.p F af).bind fun r2=>aL.pl61 F F 0 r2 0
theorem aL.P {F:Nat} {aF:ON} {ay:Nat} {aG:Cap} {af:List (Int×Int×Int×Int×Int)} {ab:Int} {H:Hp} {R0:List Rs} (bm:ay = af.length) (h0:Inn H R0 fun R=>ROs (ePair (eInt .i64) (ePair (eInt .i64) (ePair (eInt .i64) (ePair (eInt .i64) (eInt .i64))))) H R ⟨aF,ay,aG⟩ af) {r:Int} (hp:aL.p F af = some r):∃ v H',aL.tw F ⟨aF,ay,aG⟩ ab H = some (v,H')∧aL.Q H R0 R0  r v H':=by
 obtain ⟨w0,aS⟩:=h0
 subst bm
 unfold aL.p at hp
 unfold aL.tw aL.twX
 have s0:=w0.rf
 refine new_k w0 fun H1 w1 s1=>?_
 refine bind_ex (ldSl_of (w1.ld (i:=0) rfl rfl)) ?_
 refine bind_ex (ldI_of (w1.ld (i:=0) rfl rfl)) ?_
 obtain ⟨r2,e2,hp⟩:=bind_some' hp
 refine call_ex (ao.P rfl ⟨w1,(aS.step s1)⟩ e2) ?_
 rintro _ H3 ⟨o0a_3,o0n_3,o0c_3,o0k_3,rfl,rfl,w3,s3,f3_0⟩
 refine bind_ex rfl ?_
 obtain ⟨w4,s4⟩:=w3.pick' [0] 2 rfl rfl rfl
 dsimp only [pk,pks,nth,List.drop] at w4 s4
 exact aL.l61_P F rfl ⟨w4,(s0.trans (s1.trans (s3.trans s4))),(f3_0.step s4)⟩ hp
def bU.Q (H0:Hp) (Ri R0:List Rs)  (r:Bool) (v:AV) (H':Hp):Prop:=v = (.bool r)∧Out H0 Ri H' (R0) fun R=>True
def bU.p (F:Nat) (af:List (Int×Int×Int×Int×Int)) (ab:Int):Option (Bool):=(bif (decide ((af.length:Int) > 10)) then (some false) else ((bz.p F ab 0 8).bind fun r3=>(bif (!r3) then (some false) else ((aD.p F af).bind fun r6=>(bif (!r6) then (some false) else ((ap.p F af).bind fun r9=>(aL.p F af).bind fun r12=>some ((r9.length:Int) == (IntKind.i64.wrap ((af.length:Int) + (IntKind.i64.wrap (2 * r12)))))))))))
theorem bU.P {F:Nat} {aF:ON} {ay:Nat} {aG:Cap} {af:List (Int×Int×Int×Int×Int)} {ab:Int} {H:Hp} {R0:List Rs} (bm:ay = af.length) (h0:Inn H R0 fun R=>ROs (ePair (eInt .i64) (ePair (eInt .i64) (ePair (eInt .i64) (ePair (eInt .i64) (eInt .i64))))) H R ⟨aF,ay,aG⟩ af) {r:Bool} (hp:bU.p F af ab = some r):∃ v H',bU.tw F ⟨aF,ay,aG⟩ ab H = some (v,H')∧bU.Q H R0 R0  r v H':=by
 obtain ⟨w0,aS⟩:=h0
 subst bm
 unfold bU.p at hp
 unfold bU.tw bU.twX
 have s0:=w0.rf
 refine new_k w0 fun H1 w1 s1=>?_
 refine bind_ex (ldSl_of (w1.ld (i:=0) rfl rfl)) ?_
 refine bif_ex (fun hb=>?_) (fun hb=>?_)
 ·replace hp:=bif_t hb hp
  obtain ⟨w2,s2⟩:=w1.pick' [] 1 rfl rfl rfl
  dsimp only [pk,pks,nth,List.drop] at w2 s2
  obtain rfl:=Option.some.inj hp
  exact ⟨_,_,rfl,rfl,w2,(s0.trans (s1.trans s2)),trivial⟩
 ·replace hp:=bif_f hb hp
  refine bind_ex (ldI_of (w1.ld (i:=0) rfl rfl)) ?_
  obtain ⟨r3,e3,hp⟩:=bind_some' hp
  refine call_ex (bz.P ⟨w1,trivial⟩ e3) ?_
  rintro _ H4 ⟨rfl,w4,s4,_⟩
  refine bind_ex rfl ?_
  refine bif_ex (fun hb=>?_) (fun hb=>?_)
  ·replace hp:=bif_t hb hp
   obtain ⟨w5,s5⟩:=w4.pick' [] 1 rfl rfl rfl
   dsimp only [pk,pks,nth,List.drop] at w5 s5
   obtain rfl:=Option.some.inj hp
   exact ⟨_,_,rfl,rfl,w5,(s0.trans (s1.trans (s4.trans s5))),trivial⟩
  ·replace hp:=bif_f hb hp
   refine bind_ex (ldSl_of (w4.ld (i:=0) rfl rfl)) ?_
   refine bind_ex (ldI_of (w4.ld (i:=0) rfl rfl)) ?_
   obtain ⟨r6,e6,hp⟩:=bind_some' hp
   refine call_ex (aD.P rfl ⟨w4,(aS.step (s1.trans s4))⟩ e6) ?_
   rintro _ H7 ⟨rfl,w7,s7,_⟩
   refine bind_ex rfl ?_
   refine bif_ex (fun hb=>?_) (fun hb=>?_)
   ·replace hp:=bif_t hb hp
    obtain ⟨w8,s8⟩:=w7.pick' [] 1 rfl rfl rfl
    dsimp only [pk,pks,nth,List.drop] at w8 s8
    obtain rfl:=Option.some.inj hp
    exact ⟨_,_,rfl,rfl,w8,(s0.trans (s1.trans (s4.trans (s7.trans s8)))),trivial⟩
   ·replace hp:=bif_f hb hp
    refine bind_ex (ldSl_of (w7.ld (i:=0) rfl rfl)) ?_
    refine bind_ex (ldI_of (w7.ld (i:=0) rfl rfl)) ?_
    obtain ⟨r9,e9,hp⟩:=bind_some' hp
    refine call_ex (ap.P rfl ⟨w7,(aS.step (s1.trans (s4.trans s7)))⟩ e9) ?_
    rintro _ H10 ⟨o0a_10,o0n_10,o0c_10,o0k_10,rfl,rfl,w10,s10,f10_0⟩
    refine bind_ex rfl ?_
    refine ifs_ex (W.cons_of (Rn:=[_]) w7 w10 s10) ?_
    refine bind_ex (ldSl_of (w10.ld (i:=1) rfl rfl)) ?_
    refine bind_ex (ldSl_of (w10.ld (i:=1) rfl rfl)) ?_
    refine bind_ex (ldI_of (w10.ld (i:=1) rfl rfl)) ?_
    obtain ⟨r12,e12,hp⟩:=bind_some' hp
    refine call_ex (aL.P rfl ⟨w10,(aS.step (s1.trans (s4.trans (s7.trans s10))))⟩ e12) ?_
    rintro _ H13 ⟨rfl,w13,s13,_⟩
    refine bind_ex rfl ?_
    refine ifs_ex (W.cons_of (Rn:=[]) w10 w13 s13) ?_
    obtain ⟨w15,s15⟩:=w13.pick' [] 2 rfl rfl rfl
    dsimp only [pk,pks,nth,List.drop] at w15 s15
    obtain rfl:=Option.some.inj hp
    exact ⟨_,_,rfl,rfl,w15,(s0.trans (s1.trans (s4.trans (s7.trans (s10.trans (s13.trans s15)))))),trivial⟩
def aw.Q (H0:Hp) (Ri R0:List Rs)  (r:List Int) (v:AV) (H':Hp):Prop:=∃ o0a:ON,∃ o0n:Nat,∃ o0c:Cap,∃ o0k:List AV,v = (.sl ⟨o0a,o0n,o0c⟩)∧o0n = (r).length∧Out H0 Ri H' (Rs.own ⟨o0a,o0n,o0c⟩ (eInt .i64).z o0k :: R0) fun R=>CR (eInt .i64) H' R o0k (r)
def aw.S61 (H0:Hp) (Ri R0:List Rs)  (C:Sl→Sl→Int→Hp→OA) (pC:List Int→List (List Int)→Int→Option (List Int)):Prop:=∀ {B_ Ca:ON} {vs vt:Nat} {Cb Cc:Cap} {oP:List Int} {Cd Ce:List AV} {oQ:List (List Int)} {iz:Int},∀ {H:Hp},vs = oP.length→vt = oQ.length→(Out H0 Ri H (Rs.own ⟨B_,vs,Cb⟩ (eInt .i64).z Cd :: Rs.own ⟨Ca,vt,Cc⟩ (eSl (eInt .i64)).z Ce :: R0) fun R=>CR (eInt .i64) H R Cd oP∧CR (eSl (eInt .i64)) H R Ce oQ)→∀ {r:List Int},pC oP oQ iz = some r→∃ v H',C ⟨B_,vs,Cb⟩ ⟨Ca,vt,Cc⟩ iz H = some (v,H')∧aw.Q H0 Ri R0  r v H'
def aw.S981 (H0:Hp) (Ri R0:List Rs)  (C:Sl→Sl→Int→Int→Hp→OA) (pC:List Int→List (List Int)→Int→Int→Option (List Int)):Prop:=∀ {Cf Cg:ON} {vu vv:Nat} {Ch Ci:Cap} {nk:List Int} {Cj Ck:List AV} {kz:List (List Int)} {et gS:Int},∀ {H:Hp},vu = nk.length→vv = kz.length→(Out H0 Ri H (Rs.own ⟨Cf,vu,Ch⟩ (eInt .i64).z Cj :: Rs.own ⟨Cg,vv,Ci⟩ (eSl (eInt .i64)).z Ck :: R0) fun R=>CR (eInt .i64) H R Cj nk∧CR (eSl (eInt .i64)) H R Ck kz)→∀ {r:List Int},pC nk kz et gS = some r→∃ v H',C ⟨Cf,vu,Ch⟩ ⟨Cg,vv,Ci⟩ et gS H = some (v,H')∧aw.Q H0 Ri R0  r v H'
def aw.pj3 (F:Nat) (bb:List Int→List (List Int)→Int→Option (List Int)) (vw:List Int) (vx:List (List Int)) (qF:Int):Option (List Int):=bb vw vx (IntKind.i64.wrap (qF + 1))
theorem aw.j3_P {F:Nat} {H0:Hp} {Ri R0:List Rs}  {C61_:Sl→Sl→Int→Hp→OA} {bb:List Int→List (List Int)→Int→Option (List Int)} (hC61:aw.S61 H0 Ri R0  C61_ bb) {Pq Pr:ON} {IY IZ:Nat} {Pt Pu:Cap} {vw:List Int} {Pv Pw:List AV} {vx:List (List Int)} {qF:Int} {H:Hp} (aet:IY = vw.length) (aeu:IZ = vx.length) (h0:Out H0 Ri H (Rs.own ⟨Pq,IY,Pt⟩ (eInt .i64).z Pv :: Rs.own ⟨Pr,IZ,Pu⟩ (eSl (eInt .i64)).z Pw :: R0) fun R=>CR (eInt .i64) H R Pv vw∧CR (eSl (eInt .i64)) H R Pw vx) {r:List Int} (hp:aw.pj3 F bb vw vx qF = some r):∃ v H',aw.j3 F (ap.tw F) C61_ ⟨Pq,IY,Pt⟩ ⟨Pr,IZ,Pu⟩ qF H = some (v,H')∧aw.Q H0 Ri R0  r v H':=by
 obtain ⟨w0,s0,aev,aew⟩:=h0
 subst aet
 subst aeu
 unfold aw.pj3 at hp
 unfold aw.j3
 exact hC61 rfl rfl ⟨w0,s0,aev,aew⟩ hp
def aw.pj4 (F:Nat) (bb:List Int→List (List Int)→Int→Option (List Int)) (vy:List Int) (vz:List (List Int)) (qG:Int):Option (List Int):=aw.pj3 F bb vy vz qG
theorem aw.j4_P {F:Nat} {H0:Hp} {Ri R0:List Rs}  {C61_:Sl→Sl→Int→Hp→OA} {bb:List Int→List (List Int)→Int→Option (List Int)} (hC61:aw.S61 H0 Ri R0  C61_ bb) {Px Py:ON} {I_ Ja:Nat} {Pz PA:Cap} {vy:List Int} {PB PC:List AV} {vz:List (List Int)} {qG:Int} {H:Hp} (aex:I_ = vy.length) (aey:Ja = vz.length) (h0:Out H0 Ri H (Rs.own ⟨Px,I_,Pz⟩ (eInt .i64).z PB :: Rs.own ⟨Py,Ja,PA⟩ (eSl (eInt .i64)).z PC :: R0) fun R=>CR (eInt .i64) H R PB vy∧CR (eSl (eInt .i64)) H R PC vz) {r:List Int} (hp:aw.pj4 F bb vy vz qG = some r):∃ v H',aw.j4 F (ap.tw F) C61_ ⟨Px,I_,Pz⟩ ⟨Py,Ja,PA⟩ qG H = some (v,H')∧aw.Q H0 Ri R0  r v H':=by
 obtain ⟨w0,s0,aez,aeA⟩:=h0
 subst aex
 subst aey
 unfold aw.pj4 at hp
 unfold aw.j4
 exact aw.j3_P (@hC61) rfl rfl ⟨w0,s0,aez,aeA⟩ hp
def aw.pl981 (F:Nat) (bb:List Int→List (List Int)→Int→Option (List Int)):Nat→List Int→List (List Int)→Int→Int→Option (List Int)
 | 0,_,_,_,_=>none
 | k + 1,nk,kz,et,gS=>(ix kz et).bind fun n1=>(bif (decide (gS < (((gt kz n1).length):Int))) then ((ix kz et).bind fun n2=>(ix (gt kz n2) gS).bind fun n3=>(ix nk (gt (gt kz n2) n3)).bind fun n4=>(some (nk.set n4 et)).bind fun l5=>aw.pl981 F bb k l5 kz et (IntKind.i64.wrap (gS + 1))) else (aw.pj4 F bb nk kz et))
termination_by structural n=>n
theorem aw.l981_P {F:Nat} {H0:Hp} {Ri R0:List Rs}  {C61_:Sl→Sl→Int→Hp→OA} {bb:List Int→List (List Int)→Int→Option (List Int)} (hC61:aw.S61 H0 Ri R0  C61_ bb):∀ k,aw.S981 H0 Ri R0  (aw.l981 F (ap.tw F) C61_ k) (aw.pl981 F bb k):=by
 intro k
 induction k with
 | zero=>
  intro Cf Cg vu vv Ch Ci nk Cj Ck kz et gS H PD PE h0 r hp
  exact nomatch (show (none:Option (List Int)) = some r from hp)
 | succ k ih=>
  intro Cf Cg vu vv Ch Ci nk Cj Ck kz et gS H PD PE h0 r hp
  obtain ⟨w0,s0,Jb,Cl⟩:=h0
  subst PD
  subst PE
  unfold aw.pl981 at hp
  unfold aw.l981
  obtain ⟨n1,g1,hp⟩:=bind_some' hp
  obtain ⟨p1,q1,i1,h1,j1⟩:=W.ixo (E:=(eSl (eInt .i64))) w0 (i:=1) rfl rfl Cl g1
  refine bind_ex i1 ?_
  obtain ⟨⟨aeB,m1_0,c1_0⟩,rfl,f1_0⟩:=h1
  obtain rfl:m1_0 = _:=f1_0.n
  refine bind_ex (ldSl_of (j1 0 _ rfl)) ?_
  refine bif_ex (fun hb=>?_) (fun hb=>?_)
  ·replace hp:=bif_t hb hp
   obtain ⟨n2,g2,hp⟩:=bind_some' hp
   obtain ⟨p2,q2,i2,h2,j2⟩:=W.ixo (E:=(eSl (eInt .i64))) w0 (i:=1) rfl rfl Cl g2
   refine bind_ex i2 ?_
   obtain ⟨⟨akb,m2_0,c2_0⟩,rfl,f2_0⟩:=h2
   obtain rfl:m2_0 = _:=f2_0.n
   refine bind_ex (ldSl_of (j2 0 _ rfl)) ?_
   obtain ⟨n3,g3,hp⟩:=bind_some' hp
   obtain ⟨p3,q3,i3,h3,j3⟩:=ROs.ixr f2_0 rfl g3
   refine bind_ex i3 ?_
   have h3:_ = [_]:=h3
   subst h3
   refine bind_ex (ldI_of (j3 0 _ rfl)) ?_
   obtain ⟨n4,g4,hp⟩:=bind_some' hp
   obtain ⟨p4,q4,i4,h4,j4⟩:=W.ixo (E:=(eInt .i64)) w0 (i:=0) rfl rfl Jb g4
   refine bind_ex i4 ?_
   obtain ⟨l5,e5,hp⟩:=bind_some' hp
   refine sto_k (eInt .i64) w0 (i:=0) (j:=0) (p:=p4) rfl rfl Jb g4 i4 e5 rfl rfl (fun _ h=>by have h:_ = [_]:=h; subst h; exact rfl) fun H6 k6 w6 s6 c6=>?_
   dsimp only [List.set] at w6 s6 c6
   exact ih ((st_len e5).symm) rfl ⟨w6,(s0.trans s6),c6,(Cl.step s6)⟩ hp
  ·replace hp:=bif_f hb hp
   exact aw.j4_P (@hC61) rfl rfl ⟨w0,s0,Jb,Cl⟩ hp
def aw.pl61 (F:Nat) :Nat→List Int→List (List Int)→Int→Option (List Int)
 | 0,_,_,_=>none
 | k + 1,oP,oQ,iz=>(bif (decide (iz < (oQ.length:Int))) then (aw.pl981 F (aw.pl61 F k) F oP oQ iz 0) else (some oP))
termination_by structural n=>n
theorem aw.l61_P {F:Nat} {H0:Hp} {Ri R0:List Rs}  :∀ k,aw.S61 H0 Ri R0  (aw.l61 F (ap.tw F)  k) (aw.pl61 F  k):=by
 intro k
 induction k with
 | zero=>
  intro B_ Ca vs vt Cb Cc oP Cd Ce oQ iz H PF PG h0 r hp
  exact nomatch (show (none:Option (List Int)) = some r from hp)
 | succ k ih=>
  intro B_ Ca vs vt Cb Cc oP Cd Ce oQ iz H PF PG h0 r hp
  obtain ⟨w0,s0,PH,aeC⟩:=h0
  subst PF
  subst PG
  unfold aw.pl61 at hp
  unfold aw.l61
  refine bif_ex (fun hb=>?_) (fun hb=>?_)
  ·replace hp:=bif_t hb hp
   exact aw.l981_P (@ih) F rfl rfl ⟨w0,s0,PH,aeC⟩ hp
  ·replace hp:=bif_f hb hp
   obtain ⟨w1,s1⟩:=w0.pick' [0] 2 rfl rfl rfl
   dsimp only [pk,pks,nth,List.drop] at w1 s1
   obtain rfl:=Option.some.inj hp
   exact ⟨_,_,rfl,_,_,_,_,rfl,rfl,w1,(s0.trans s1),(PH.step s1)⟩
def aw.p (F:Nat) (af:List (Int×Int×Int×Int×Int)):Option (List Int):=(mkn (IntKind.i64.wrap (4 * (af.length:Int))) (0:Int)).bind fun l2=>(ap.p F af).bind fun r4=>aw.pl61 F F l2 r4 0
theorem aw.P {F:Nat} {aF:ON} {ay:Nat} {aG:Cap} {af:List (Int×Int×Int×Int×Int)} {ab:Int} {H:Hp} {R0:List Rs} (bm:ay = af.length) (h0:Inn H R0 fun R=>ROs (ePair (eInt .i64) (ePair (eInt .i64) (ePair (eInt .i64) (ePair (eInt .i64) (eInt .i64))))) H R ⟨aF,ay,aG⟩ af) {r:List Int} (hp:aw.p F af = some r):∃ v H',aw.tw F ⟨aF,ay,aG⟩ ab H = some (v,H')∧aw.Q H R0 R0  r v H':=by
 obtain ⟨w0,aS⟩:=h0
 subst bm
 unfold aw.p at hp
 unfold aw.tw aw.twX
 have s0:=w0.rf
 refine new_k w0 fun H1 w1 s1=>?_
 refine bind_ex (ldSl_of (w1.ld (i:=0) rfl rfl)) ?_
 obtain ⟨l2,e2,hp⟩:=bind_some' hp
 refine mk_k (eInt .i64) (0:Int) w1 rfl rfl rfl e2 fun H3 k3 w3 s3 c3=>?_
 refine bind_ex (ldSl_of (w3.ld (i:=1) rfl rfl)) ?_
 refine bind_ex (ldI_of (w3.ld (i:=1) rfl rfl)) ?_
 obtain ⟨r4,e4,hp⟩:=bind_some' hp
 refine call_ex (ap.P rfl ⟨w3,(aS.step (s1.trans s3))⟩ e4) ?_
 rintro _ H5 ⟨o0a_5,o0n_5,o0c_5,o0k_5,rfl,rfl,w5,s5,f5_0⟩
 refine bind_ex rfl ?_
 obtain ⟨w6,s6⟩:=w5.pick' [1,0] 3 rfl rfl rfl
 dsimp only [pk,pks,nth,List.drop] at w6 s6
 exact aw.l61_P F rfl rfl ⟨w6,(s0.trans (s1.trans (s3.trans (s5.trans s6)))),(c3.step (s5.trans s6)),(f5_0.step s6)⟩ hp
def ac.Q (H0:Hp) (Ri R0:List Rs)  (r:List Int) (v:AV) (H':Hp):Prop:=∃ o0a:ON,∃ o0n:Nat,∃ o0c:Cap,∃ o0k:List AV,v = (.sl ⟨o0a,o0n,o0c⟩)∧o0n = (r).length∧Out H0 Ri H' (Rs.own ⟨o0a,o0n,o0c⟩ (eInt .i64).z o0k :: R0) fun R=>CR (eInt .i64) H' R o0k (r)
def ac.S125 (H0:Hp) (Ri R0:List Rs)  (C:Sl→Sl→Sl→Int→Hp→OA) (pC:List Int→List Int→List Int→Int→Option (List Int)):Prop:=∀ {Cm Cn nl:ON} {vA vB lU:Nat} {Co Cp nm:Cap} {oR oS ip:List Int} {Cq Cs nn:List AV} {gT:Int},∀ {H:Hp},vA = oR.length→vB = oS.length→lU = ip.length→(Out H0 Ri H (Rs.own ⟨Cm,vA,Co⟩ (eInt .i64).z Cq :: Rs.own ⟨Cn,vB,Cp⟩ (eInt .i64).z Cs :: Rs.own ⟨nl,lU,nm⟩ (eInt .i64).z nn :: R0) fun R=>CR (eInt .i64) H R Cq oR∧CR (eInt .i64) H R Cs oS∧CR (eInt .i64) H R nn ip)→∀ {r:List Int},pC oR oS ip gT = some r→∃ v H',C ⟨Cm,vA,Co⟩ ⟨Cn,vB,Cp⟩ ⟨nl,lU,nm⟩ gT H = some (v,H')∧ac.Q H0 Ri R0  r v H'
def ac.S253 (H0:Hp) (Ri R0:List Rs)  (C:Sl→Sl→Sl→Int→Hp→OA) (pC:List Int→List Int→List Int→Int→Option (List Int)):Prop:=∀ {Ct Cu Cv:ON} {vC vD vE:Nat} {Cw Cx Cy:Cap} {lV lW mJ:List Int} {Cz CA CB:List AV} {ec:Int},∀ {H:Hp},vC = lV.length→vD = lW.length→vE = mJ.length→(Out H0 Ri H (Rs.own ⟨Ct,vC,Cw⟩ (eInt .i64).z Cz :: Rs.own ⟨Cu,vD,Cx⟩ (eInt .i64).z CA :: Rs.own ⟨Cv,vE,Cy⟩ (eInt .i64).z CB :: R0) fun R=>CR (eInt .i64) H R Cz lV∧CR (eInt .i64) H R CA lW∧CR (eInt .i64) H R CB mJ)→∀ {r:List Int},pC lV lW mJ ec = some r→∃ v H',C ⟨Ct,vC,Cw⟩ ⟨Cu,vD,Cx⟩ ⟨Cv,vE,Cy⟩ ec H = some (v,H')∧ac.Q H0 Ri R0  r v H'
def ac.pj28 (F:Nat) (j_:List Int→List Int→List Int→Int→Option (List Int)) (vF:List Int) (vG:List Int) (vH:List Int) (qR:Int):Option (List Int):=j_ vF vG vH (IntKind.i64.wrap (qR + 1))
theorem ac.j28_P {F:Nat} {H0:Hp} {Ri R0:List Rs}  {C253_:Sl→Sl→Sl→Int→Hp→OA} {j_:List Int→List Int→List Int→Int→Option (List Int)} (hC253:ac.S253 H0 Ri R0  C253_ j_) {PI PJ PK:ON} {Jc Jd Je:Nat} {PL PM PO:Cap} {vF vG vH:List Int} {PP PQ PR:List AV} {qR:Int} {H:Hp} (aeD:Jc = vF.length) (aeE:Jd = vG.length) (aeF:Je = vH.length) (h0:Out H0 Ri H (Rs.own ⟨PI,Jc,PL⟩ (eInt .i64).z PP :: Rs.own ⟨PJ,Jd,PM⟩ (eInt .i64).z PQ :: Rs.own ⟨PK,Je,PO⟩ (eInt .i64).z PR :: R0) fun R=>CR (eInt .i64) H R PP vF∧CR (eInt .i64) H R PQ vG∧CR (eInt .i64) H R PR vH) {r:List Int} (hp:ac.pj28 F j_ vF vG vH qR = some r):∃ v H',ac.j28 F (aw.tw F) (ao.tw F) (ap.tw F) C253_ ⟨PI,Jc,PL⟩ ⟨PJ,Jd,PM⟩ ⟨PK,Je,PO⟩ qR H = some (v,H')∧ac.Q H0 Ri R0  r v H':=by
 obtain ⟨w0,s0,aeG,aeH,aeI⟩:=h0
 subst aeD
 subst aeE
 subst aeF
 unfold ac.pj28 at hp
 unfold ac.j28
 exact hC253 rfl rfl rfl ⟨w0,s0,aeG,aeH,aeI⟩ hp
def ac.pj29 (F:Nat) (j_:List Int→List Int→List Int→Int→Option (List Int)) (vI:List Int) (vJ:List Int) (vK:List Int) (qS:Int):Option (List Int):=j_ vI vJ vK (IntKind.i64.wrap (qS + 1))
theorem ac.j29_P {F:Nat} {H0:Hp} {Ri R0:List Rs}  {C253_:Sl→Sl→Sl→Int→Hp→OA} {j_:List Int→List Int→List Int→Int→Option (List Int)} (hC253:ac.S253 H0 Ri R0  C253_ j_) {PU PV PW:ON} {Jf Jg Jh:Nat} {PX PY PZ:Cap} {vI vJ vK:List Int} {P_ Qa Qb:List AV} {qS:Int} {H:Hp} (aeJ:Jf = vI.length) (aeK:Jg = vJ.length) (aeL:Jh = vK.length) (h0:Out H0 Ri H (Rs.own ⟨PU,Jf,PX⟩ (eInt .i64).z P_ :: Rs.own ⟨PV,Jg,PY⟩ (eInt .i64).z Qa :: Rs.own ⟨PW,Jh,PZ⟩ (eInt .i64).z Qb :: R0) fun R=>CR (eInt .i64) H R P_ vI∧CR (eInt .i64) H R Qa vJ∧CR (eInt .i64) H R Qb vK) {r:List Int} (hp:ac.pj29 F j_ vI vJ vK qS = some r):∃ v H',ac.j29 F (aw.tw F) (ao.tw F) (ap.tw F) C253_ ⟨PU,Jf,PX⟩ ⟨PV,Jg,PY⟩ ⟨PW,Jh,PZ⟩ qS H = some (v,H')∧ac.Q H0 Ri R0  r v H':=by
 obtain ⟨w0,s0,aeM,aeN,aeO⟩:=h0
 subst aeJ
 subst aeK
 subst aeL
 unfold ac.pj29 at hp
 unfold ac.j29
 exact hC253 rfl rfl rfl ⟨w0,s0,aeM,aeN,aeO⟩ hp
def ac.S509 (H0:Hp) (Ri R0:List Rs)  (C:Sl→Sl→Bool→Hp→OA) (pC:List Int→List Int→Bool→Option (List Int)):Prop:=∀ {CC CD:ON} {vL vM:Nat} {CE CF:Cap} {pG oT:List Int} {CG CH:List AV} {jo:Bool},∀ {H:Hp},vL = pG.length→vM = oT.length→(Out H0 Ri H (Rs.own ⟨CC,vL,CE⟩ (eInt .i64).z CG :: Rs.own ⟨CD,vM,CF⟩ (eInt .i64).z CH :: R0) fun R=>CR (eInt .i64) H R CG pG∧CR (eInt .i64) H R CH oT)→∀ {r:List Int},pC pG oT jo = some r→∃ v H',C ⟨CC,vL,CE⟩ ⟨CD,vM,CF⟩ jo H = some (v,H')∧ac.Q H0 Ri R0  r v H'
def ac.S8151 (H0:Hp) (Ri R0:List Rs)  (C:Sl→Sl→Bool→Int→Hp→OA) (pC:List Int→List Int→Bool→Int→Option (List Int)):Prop:=∀ {CI CJ:ON} {vN vO:Nat} {CK CL:Cap} {dO ej:List Int} {CM CN:List AV} {fh:Bool} {cQ:Int},∀ {H:Hp},vN = dO.length→vO = ej.length→(Out H0 Ri H (Rs.own ⟨CI,vN,CK⟩ (eInt .i64).z CM :: Rs.own ⟨CJ,vO,CL⟩ (eInt .i64).z CN :: R0) fun R=>CR (eInt .i64) H R CM dO∧CR (eInt .i64) H R CN ej)→∀ {r:List Int},pC dO ej fh cQ = some r→∃ v H',C ⟨CI,vN,CK⟩ ⟨CJ,vO,CL⟩ fh cQ H = some (v,H')∧ac.Q H0 Ri R0  r v H'
def ac.pj22 (F:Nat) (ek:List Int→List Int→Bool→Int→Option (List Int)) (vP:List Int) (vQ:List Int) (qJ:Bool) (qK:Int):Option (List Int):=ek vP vQ qJ (IntKind.i64.wrap (qK + 1))
theorem ac.j22_P {F:Nat} {H0:Hp} {Ri R0:List Rs}  {C8151_:Sl→Sl→Bool→Int→Hp→OA} {ek:List Int→List Int→Bool→Int→Option (List Int)} (hC8151:ac.S8151 H0 Ri R0  C8151_ ek) {Qc Qd:ON} {Ji Jj:Nat} {Qe Qf:Cap} {vP vQ:List Int} {Qg Qh:List AV} {qJ:Bool} {qK:Int} {H:Hp} (aeP:Ji = vP.length) (aeQ:Jj = vQ.length) (h0:Out H0 Ri H (Rs.own ⟨Qc,Ji,Qe⟩ (eInt .i64).z Qg :: Rs.own ⟨Qd,Jj,Qf⟩ (eInt .i64).z Qh :: R0) fun R=>CR (eInt .i64) H R Qg vP∧CR (eInt .i64) H R Qh vQ) {r:List Int} (hp:ac.pj22 F ek vP vQ qJ qK = some r):∃ v H',ac.j22 F (aw.tw F) (ao.tw F) (ap.tw F) C8151_ ⟨Qc,Ji,Qe⟩ ⟨Qd,Jj,Qf⟩ qJ qK H = some (v,H')∧ac.Q H0 Ri R0  r v H':=by
 obtain ⟨w0,s0,aeR,aeS⟩:=h0
 subst aeP
 subst aeQ
 unfold ac.pj22 at hp
 unfold ac.j22
 exact hC8151 rfl rfl ⟨w0,s0,aeR,aeS⟩ hp
def ac.pj23 (F:Nat) (ek:List Int→List Int→Bool→Int→Option (List Int)) (vR:List Int) (vS:List Int) (qL:Bool) (qM:Int):Option (List Int):=ek vR vS qL (IntKind.i64.wrap (qM + 1))
theorem ac.j23_P {F:Nat} {H0:Hp} {Ri R0:List Rs}  {C8151_:Sl→Sl→Bool→Int→Hp→OA} {ek:List Int→List Int→Bool→Int→Option (List Int)} (hC8151:ac.S8151 H0 Ri R0  C8151_ ek) {Qi Qj:ON} {Jk Jl:Nat} {Qk Ql:Cap} {vR vS:List Int} {Qm Qn:List AV} {qL:Bool} {qM:Int} {H:Hp} (aeT:Jk = vR.length) (aeU:Jl = vS.length) (h0:Out H0 Ri H (Rs.own ⟨Qi,Jk,Qk⟩ (eInt .i64).z Qm :: Rs.own ⟨Qj,Jl,Ql⟩ (eInt .i64).z Qn :: R0) fun R=>CR (eInt .i64) H R Qm vR∧CR (eInt .i64) H R Qn vS) {r:List Int} (hp:ac.pj23 F ek vR vS qL qM = some r):∃ v H',ac.j23 F (aw.tw F) (ao.tw F) (ap.tw F) C8151_ ⟨Qi,Jk,Qk⟩ ⟨Qj,Jl,Ql⟩ qL qM H = some (v,H')∧ac.Q H0 Ri R0  r v H':=by
 obtain ⟨w0,s0,aeV,aeW⟩:=h0
 subst aeT
 subst aeU
 unfold ac.pj23 at hp
 unfold ac.j23
 exact hC8151 rfl rfl ⟨w0,s0,aeV,aeW⟩ hp
def ac.pj24 (F:Nat) (ek:List Int→List Int→Bool→Int→Option (List Int)) (lX:List Int) (ka:List Int) (nZ:Bool) (jO:Int) (n_:Int):Option (List Int):=(ix ka n_).bind fun n1=>(bif (decide ((gt ka n1) ≥ 0)) then ((ix lX jO).bind fun n2=>(ix ka (gt lX n2)).bind fun n3=>(bif (decide ((gt ka n3) < 0)) then ((ix lX jO).bind fun n4=>(ix ka n_).bind fun n5=>(ix ka (gt lX n4)).bind fun n6=>(some (ka.set n6 (IntKind.i64.wrap (1 - (gt ka n5))))).bind fun l7=>ac.pj22 F ek lX l7 true jO) else (ac.pj23 F ek lX ka nZ jO))) else (ek lX ka nZ (IntKind.i64.wrap (jO + 1))))
theorem ac.j24_P {F:Nat} {H0:Hp} {Ri R0:List Rs}  {C8151_:Sl→Sl→Bool→Int→Hp→OA} {ek:List Int→List Int→Bool→Int→Option (List Int)} (hC8151:ac.S8151 H0 Ri R0  C8151_ ek) {Qo Qp:ON} {Jm Jn:Nat} {Qq Qr:Cap} {lX ka:List Int} {Qs Qt:List AV} {nZ:Bool} {jO n_:Int} {H:Hp} (aeX:Jm = lX.length) (aeY:Jn = ka.length) (h0:Out H0 Ri H (Rs.own ⟨Qo,Jm,Qq⟩ (eInt .i64).z Qs :: Rs.own ⟨Qp,Jn,Qr⟩ (eInt .i64).z Qt :: R0) fun R=>CR (eInt .i64) H R Qs lX∧CR (eInt .i64) H R Qt ka) {r:List Int} (hp:ac.pj24 F ek lX ka nZ jO n_ = some r):∃ v H',ac.j24 F (aw.tw F) (ao.tw F) (ap.tw F) C8151_ ⟨Qo,Jm,Qq⟩ ⟨Qp,Jn,Qr⟩ nZ jO n_ H = some (v,H')∧ac.Q H0 Ri R0  r v H':=by
 obtain ⟨w0,s0,vT,pH⟩:=h0
 subst aeX
 subst aeY
 unfold ac.pj24 at hp
 unfold ac.j24
 obtain ⟨n1,g1,hp⟩:=bind_some' hp
 obtain ⟨p1,q1,i1,h1,j1⟩:=W.ixo (E:=(eInt .i64)) w0 (i:=1) rfl rfl pH g1
 refine bind_ex i1 ?_
 have h1:_ = [_]:=h1
 subst h1
 refine bind_ex (ldI_of (j1 0 _ rfl)) ?_
 refine bif_ex (fun hb=>?_) (fun hb=>?_)
 ·replace hp:=bif_t hb hp
  obtain ⟨n2,g2,hp⟩:=bind_some' hp
  obtain ⟨p2,q2,i2,h2,j2⟩:=W.ixo (E:=(eInt .i64)) w0 (i:=0) rfl rfl vT g2
  refine bind_ex i2 ?_
  have h2:_ = [_]:=h2
  subst h2
  refine bind_ex (ldI_of (j2 0 _ rfl)) ?_
  obtain ⟨n3,g3,hp⟩:=bind_some' hp
  obtain ⟨p3,q3,i3,h3,j3⟩:=W.ixo (E:=(eInt .i64)) w0 (i:=1) rfl rfl pH g3
  refine bind_ex i3 ?_
  have h3:_ = [_]:=h3
  subst h3
  refine bind_ex (ldI_of (j3 0 _ rfl)) ?_
  refine bif_ex (fun hb=>?_) (fun hb=>?_)
  ·replace hp:=bif_t hb hp
   obtain ⟨n4,g4,hp⟩:=bind_some' hp
   obtain ⟨p4,q4,i4,h4,j4⟩:=W.ixo (E:=(eInt .i64)) w0 (i:=0) rfl rfl vT g4
   refine bind_ex i4 ?_
   have h4:_ = [_]:=h4
   subst h4
   refine bind_ex (ldI_of (j4 0 _ rfl)) ?_
   obtain ⟨n5,g5,hp⟩:=bind_some' hp
   obtain ⟨p5,q5,i5,h5,j5⟩:=W.ixo (E:=(eInt .i64)) w0 (i:=1) rfl rfl pH g5
   refine bind_ex i5 ?_
   have h5:_ = [_]:=h5
   subst h5
   refine bind_ex (ldI_of (j5 0 _ rfl)) ?_
   obtain ⟨n6,g6,hp⟩:=bind_some' hp
   obtain ⟨p6,q6,i6,h6,j6⟩:=W.ixo (E:=(eInt .i64)) w0 (i:=1) rfl rfl pH g6
   refine bind_ex i6 ?_
   obtain ⟨l7,e7,hp⟩:=bind_some' hp
   refine sto_k (eInt .i64) w0 (i:=1) (j:=0) (p:=p6) rfl rfl pH g6 i6 e7 rfl rfl (fun _ h=>by have h:_ = [_]:=h; subst h; exact rfl) fun H8 k8 w8 s8 c8=>?_
   dsimp only [List.set] at w8 s8 c8
   exact ac.j22_P (@hC8151) rfl ((st_len e7).symm) ⟨w8,(s0.trans s8),(vT.step s8),c8⟩ hp
  ·replace hp:=bif_f hb hp
   exact ac.j23_P (@hC8151) rfl rfl ⟨w0,s0,vT,pH⟩ hp
 ·replace hp:=bif_f hb hp
  exact hC8151 rfl rfl ⟨w0,s0,vT,pH⟩ hp
def ac.pj25 (F:Nat) (ek:List Int→List Int→Bool→Int→Option (List Int)) (vU:List Int) (vV:List Int) (qN:Bool) (qO:Int):Option (List Int):=ek vU vV qN (IntKind.i64.wrap (qO + 1))
theorem ac.j25_P {F:Nat} {H0:Hp} {Ri R0:List Rs}  {C8151_:Sl→Sl→Bool→Int→Hp→OA} {ek:List Int→List Int→Bool→Int→Option (List Int)} (hC8151:ac.S8151 H0 Ri R0  C8151_ ek) {Qu Qv:ON} {Jo Jp:Nat} {Qw Qx:Cap} {vU vV:List Int} {Qy Qz:List AV} {qN:Bool} {qO:Int} {H:Hp} (aeZ:Jo = vU.length) (ae0:Jp = vV.length) (h0:Out H0 Ri H (Rs.own ⟨Qu,Jo,Qw⟩ (eInt .i64).z Qy :: Rs.own ⟨Qv,Jp,Qx⟩ (eInt .i64).z Qz :: R0) fun R=>CR (eInt .i64) H R Qy vU∧CR (eInt .i64) H R Qz vV) {r:List Int} (hp:ac.pj25 F ek vU vV qN qO = some r):∃ v H',ac.j25 F (aw.tw F) (ao.tw F) (ap.tw F) C8151_ ⟨Qu,Jo,Qw⟩ ⟨Qv,Jp,Qx⟩ qN qO H = some (v,H')∧ac.Q H0 Ri R0  r v H':=by
 obtain ⟨w0,s0,ae1,ae2⟩:=h0
 subst aeZ
 subst ae0
 unfold ac.pj25 at hp
 unfold ac.j25
 exact hC8151 rfl rfl ⟨w0,s0,ae1,ae2⟩ hp
def ac.pj26 (F:Nat) (ek:List Int→List Int→Bool→Int→Option (List Int)) (vW:List Int) (vX:List Int) (qP:Bool) (qQ:Int):Option (List Int):=ek vW vX qP (IntKind.i64.wrap (qQ + 1))
theorem ac.j26_P {F:Nat} {H0:Hp} {Ri R0:List Rs}  {C8151_:Sl→Sl→Bool→Int→Hp→OA} {ek:List Int→List Int→Bool→Int→Option (List Int)} (hC8151:ac.S8151 H0 Ri R0  C8151_ ek) {QA QB:ON} {Jq Jr:Nat} {QC QD:Cap} {vW vX:List Int} {QE QF:List AV} {qP:Bool} {qQ:Int} {H:Hp} (ae3:Jq = vW.length) (ae4:Jr = vX.length) (h0:Out H0 Ri H (Rs.own ⟨QA,Jq,QC⟩ (eInt .i64).z QE :: Rs.own ⟨QB,Jr,QD⟩ (eInt .i64).z QF :: R0) fun R=>CR (eInt .i64) H R QE vW∧CR (eInt .i64) H R QF vX) {r:List Int} (hp:ac.pj26 F ek vW vX qP qQ = some r):∃ v H',ac.j26 F (aw.tw F) (ao.tw F) (ap.tw F) C8151_ ⟨QA,Jq,QC⟩ ⟨QB,Jr,QD⟩ qP qQ H = some (v,H')∧ac.Q H0 Ri R0  r v H':=by
 obtain ⟨w0,s0,ae5,ae6⟩:=h0
 subst ae3
 subst ae4
 unfold ac.pj26 at hp
 unfold ac.j26
 exact hC8151 rfl rfl ⟨w0,s0,ae5,ae6⟩ hp
def ac.pj20 (F:Nat) (aU:List Int→List Int→Bool→Option (List Int)) (vY:List Int) (vZ:List Int) (qH:Bool):Option (List Int):=aU vY vZ qH
theorem ac.j20_P {F:Nat} {H0:Hp} {Ri R0:List Rs}  {C509_:Sl→Sl→Bool→Hp→OA} {aU:List Int→List Int→Bool→Option (List Int)} (hC509:ac.S509 H0 Ri R0  C509_ aU) {QG QH:ON} {Js Jt:Nat} {QI QJ:Cap} {vY vZ:List Int} {QK QL:List AV} {qH:Bool} {H:Hp} (ae7:Js = vY.length) (ae8:Jt = vZ.length) (h0:Out H0 Ri H (Rs.own ⟨QG,Js,QI⟩ (eInt .i64).z QK :: Rs.own ⟨QH,Jt,QJ⟩ (eInt .i64).z QL :: R0) fun R=>CR (eInt .i64) H R QK vY∧CR (eInt .i64) H R QL vZ) {r:List Int} (hp:ac.pj20 F aU vY vZ qH = some r):∃ v H',ac.j20 F (aw.tw F) (ao.tw F) (ap.tw F) C509_ ⟨QG,Js,QI⟩ ⟨QH,Jt,QJ⟩ qH H = some (v,H')∧ac.Q H0 Ri R0  r v H':=by
 obtain ⟨w0,s0,ae9,ae_⟩:=h0
 subst ae7
 subst ae8
 unfold ac.pj20 at hp
 unfold ac.j20
 exact hC509 rfl rfl ⟨w0,s0,ae9,ae_⟩ hp
def ac.pj21 (F:Nat) (aU:List Int→List Int→Bool→Option (List Int)) (v_:List Int) (wa:List Int) (qI:Bool):Option (List Int):=ac.pj20 F aU v_ wa qI
theorem ac.j21_P {F:Nat} {H0:Hp} {Ri R0:List Rs}  {C509_:Sl→Sl→Bool→Hp→OA} {aU:List Int→List Int→Bool→Option (List Int)} (hC509:ac.S509 H0 Ri R0  C509_ aU) {QM QN:ON} {Ju Jv:Nat} {QO QP:Cap} {v_ wa:List Int} {QQ QR:List AV} {qI:Bool} {H:Hp} (afa:Ju = v_.length) (afb:Jv = wa.length) (h0:Out H0 Ri H (Rs.own ⟨QM,Ju,QO⟩ (eInt .i64).z QQ :: Rs.own ⟨QN,Jv,QP⟩ (eInt .i64).z QR :: R0) fun R=>CR (eInt .i64) H R QQ v_∧CR (eInt .i64) H R QR wa) {r:List Int} (hp:ac.pj21 F aU v_ wa qI = some r):∃ v H',ac.j21 F (aw.tw F) (ao.tw F) (ap.tw F) C509_ ⟨QM,Ju,QO⟩ ⟨QN,Jv,QP⟩ qI H = some (v,H')∧ac.Q H0 Ri R0  r v H':=by
 obtain ⟨w0,s0,afc,afd⟩:=h0
 subst afa
 subst afb
 unfold ac.pj21 at hp
 unfold ac.j21
 exact ac.j20_P (@hC509) rfl rfl ⟨w0,s0,afc,afd⟩ hp
def ac.pl8151 (F:Nat) (aU:List Int→List Int→Bool→Option (List Int)):Nat→List Int→List Int→Bool→Int→Option (List Int)
 | 0,_,_,_,_=>none
 | k + 1,dO,ej,fh,cQ=>(bif (decide (cQ < (dO.length:Int))) then ((ix dO (IntKind.i64.wrap ((IntKind.i64.wrap ((IntKind.i64.wrap (Int.tdiv cQ 4)) * 4)) + (Int.tmod (IntKind.i64.wrap (cQ + 1)) 4)))).bind fun n1=>(ix dO cQ).bind fun n2=>(ix ej (gt dO n2)).bind fun n3=>(bif (decide ((gt ej n3) ≥ 0)) then ((ix ej (gt dO n1)).bind fun n4=>(bif (decide ((gt ej n4) < 0)) then ((ix dO cQ).bind fun n5=>(ix ej (gt dO n5)).bind fun n6=>(ix ej (gt dO n1)).bind fun n7=>(some (ej.set n7 (IntKind.i64.wrap (1 - (gt ej n6))))).bind fun l8=>ac.pj24 F (ac.pl8151 F aU k) dO l8 true cQ (gt dO n1)) else (ac.pj24 F (ac.pl8151 F aU k) dO ej fh cQ (gt dO n1)))) else ((ix ej (gt dO n1)).bind fun n10=>(bif (decide ((gt ej n10) ≥ 0)) then ((ix dO cQ).bind fun n11=>(ix ej (gt dO n11)).bind fun n12=>(bif (decide ((gt ej n12) < 0)) then ((ix dO cQ).bind fun n13=>(ix ej (gt dO n1)).bind fun n14=>(ix ej (gt dO n13)).bind fun n15=>(some (ej.set n15 (IntKind.i64.wrap (1 - (gt ej n14))))).bind fun l16=>ac.pj25 F (ac.pl8151 F aU k) dO l16 true cQ) else (ac.pj26 F (ac.pl8151 F aU k) dO ej fh cQ))) else (ac.pl8151 F aU k dO ej fh (IntKind.i64.wrap (cQ + 1))))))) else (ac.pj21 F aU dO ej fh))
termination_by structural n=>n
theorem ac.l8151_P {F:Nat} {H0:Hp} {Ri R0:List Rs}  {C509_:Sl→Sl→Bool→Hp→OA} {aU:List Int→List Int→Bool→Option (List Int)} (hC509:ac.S509 H0 Ri R0  C509_ aU):∀ k,ac.S8151 H0 Ri R0  (ac.l8151 F (aw.tw F) (ao.tw F) (ap.tw F) C509_ k) (ac.pl8151 F aU k):=by
 intro k
 induction k with
 | zero=>
  intro CI CJ vN vO CK CL dO ej CM CN fh cQ H QS QT h0 r hp
  exact nomatch (show (none:Option (List Int)) = some r from hp)
 | succ k ih=>
  intro CI CJ vN vO CK CL dO ej CM CN fh cQ H QS QT h0 r hp
  obtain ⟨w0,s0,lY,kb⟩:=h0
  subst QS
  subst QT
  unfold ac.pl8151 at hp
  unfold ac.l8151
  refine bif_ex (fun hb=>?_) (fun hb=>?_)
  ·replace hp:=bif_t hb hp
   obtain ⟨n1,g1,hp⟩:=bind_some' hp
   obtain ⟨p1,q1,i1,h1,j1⟩:=W.ixo (E:=(eInt .i64)) w0 (i:=0) rfl rfl lY g1
   refine bind_ex i1 ?_
   have h1:_ = [_]:=h1
   subst h1
   refine bind_ex (ldI_of (j1 0 _ rfl)) ?_
   obtain ⟨n2,g2,hp⟩:=bind_some' hp
   obtain ⟨p2,q2,i2,h2,j2⟩:=W.ixo (E:=(eInt .i64)) w0 (i:=0) rfl rfl lY g2
   refine bind_ex i2 ?_
   have h2:_ = [_]:=h2
   subst h2
   refine bind_ex (ldI_of (j2 0 _ rfl)) ?_
   obtain ⟨n3,g3,hp⟩:=bind_some' hp
   obtain ⟨p3,q3,i3,h3,j3⟩:=W.ixo (E:=(eInt .i64)) w0 (i:=1) rfl rfl kb g3
   refine bind_ex i3 ?_
   have h3:_ = [_]:=h3
   subst h3
   refine bind_ex (ldI_of (j3 0 _ rfl)) ?_
   refine bif_ex (fun hb=>?_) (fun hb=>?_)
   ·replace hp:=bif_t hb hp
    obtain ⟨n4,g4,hp⟩:=bind_some' hp
    obtain ⟨p4,q4,i4,h4,j4⟩:=W.ixo (E:=(eInt .i64)) w0 (i:=1) rfl rfl kb g4
    refine bind_ex i4 ?_
    have h4:_ = [_]:=h4
    subst h4
    refine bind_ex (ldI_of (j4 0 _ rfl)) ?_
    refine bif_ex (fun hb=>?_) (fun hb=>?_)
    ·replace hp:=bif_t hb hp
     obtain ⟨n5,g5,hp⟩:=bind_some' hp
     obtain ⟨p5,q5,i5,h5,j5⟩:=W.ixo (E:=(eInt .i64)) w0 (i:=0) rfl rfl lY g5
     refine bind_ex i5 ?_
     have h5:_ = [_]:=h5
     subst h5
     refine bind_ex (ldI_of (j5 0 _ rfl)) ?_
     obtain ⟨n6,g6,hp⟩:=bind_some' hp
     obtain ⟨p6,q6,i6,h6,j6⟩:=W.ixo (E:=(eInt .i64)) w0 (i:=1) rfl rfl kb g6
     refine bind_ex i6 ?_
     have h6:_ = [_]:=h6
     subst h6
     refine bind_ex (ldI_of (j6 0 _ rfl)) ?_
     obtain ⟨n7,g7,hp⟩:=bind_some' hp
     obtain ⟨p7,q7,i7,h7,j7⟩:=W.ixo (E:=(eInt .i64)) w0 (i:=1) rfl rfl kb g7
     refine bind_ex i7 ?_
     obtain ⟨l8,e8,hp⟩:=bind_some' hp
     refine sto_k (eInt .i64) w0 (i:=1) (j:=0) (p:=p7) rfl rfl kb g7 i7 e8 rfl rfl (fun _ h=>by have h:_ = [_]:=h; subst h; exact rfl) fun H9 k9 w9 s9 c9=>?_
     dsimp only [List.set] at w9 s9 c9
     exact ac.j24_P (@ih) rfl ((st_len e8).symm) ⟨w9,(s0.trans s9),(lY.step s9),c9⟩ hp
    ·replace hp:=bif_f hb hp
     exact ac.j24_P (@ih) rfl rfl ⟨w0,s0,lY,kb⟩ hp
   ·replace hp:=bif_f hb hp
    obtain ⟨n10,g10,hp⟩:=bind_some' hp
    obtain ⟨p10,q10,i10,h10,j10⟩:=W.ixo (E:=(eInt .i64)) w0 (i:=1) rfl rfl kb g10
    refine bind_ex i10 ?_
    have h10:_ = [_]:=h10
    subst h10
    refine bind_ex (ldI_of (j10 0 _ rfl)) ?_
    refine bif_ex (fun hb=>?_) (fun hb=>?_)
    ·replace hp:=bif_t hb hp
     obtain ⟨n11,g11,hp⟩:=bind_some' hp
     obtain ⟨p11,q11,i11,h11,j11⟩:=W.ixo (E:=(eInt .i64)) w0 (i:=0) rfl rfl lY g11
     refine bind_ex i11 ?_
     have h11:_ = [_]:=h11
     subst h11
     refine bind_ex (ldI_of (j11 0 _ rfl)) ?_
     obtain ⟨n12,g12,hp⟩:=bind_some' hp
     obtain ⟨p12,q12,i12,h12,j12⟩:=W.ixo (E:=(eInt .i64)) w0 (i:=1) rfl rfl kb g12
     refine bind_ex i12 ?_
     have h12:_ = [_]:=h12
     subst h12
     refine bind_ex (ldI_of (j12 0 _ rfl)) ?_
     refine bif_ex (fun hb=>?_) (fun hb=>?_)
     ·replace hp:=bif_t hb hp
      obtain ⟨n13,g13,hp⟩:=bind_some' hp
      obtain ⟨p13,q13,i13,h13,j13⟩:=W.ixo (E:=(eInt .i64)) w0 (i:=0) rfl rfl lY g13
      refine bind_ex i13 ?_
      have h13:_ = [_]:=h13
      subst h13
      refine bind_ex (ldI_of (j13 0 _ rfl)) ?_
      obtain ⟨n14,g14,hp⟩:=bind_some' hp
      obtain ⟨p14,q14,i14,h14,j14⟩:=W.ixo (E:=(eInt .i64)) w0 (i:=1) rfl rfl kb g14
      refine bind_ex i14 ?_
      have h14:_ = [_]:=h14
      subst h14
      refine bind_ex (ldI_of (j14 0 _ rfl)) ?_
      obtain ⟨n15,g15,hp⟩:=bind_some' hp
      obtain ⟨p15,q15,i15,h15,j15⟩:=W.ixo (E:=(eInt .i64)) w0 (i:=1) rfl rfl kb g15
      refine bind_ex i15 ?_
      obtain ⟨l16,e16,hp⟩:=bind_some' hp
      refine sto_k (eInt .i64) w0 (i:=1) (j:=0) (p:=p15) rfl rfl kb g15 i15 e16 rfl rfl (fun _ h=>by have h:_ = [_]:=h; subst h; exact rfl) fun H17 k17 w17 s17 c17=>?_
      dsimp only [List.set] at w17 s17 c17
      exact ac.j25_P (@ih) rfl ((st_len e16).symm) ⟨w17,(s0.trans s17),(lY.step s17),c17⟩ hp
     ·replace hp:=bif_f hb hp
      exact ac.j26_P (@ih) rfl rfl ⟨w0,s0,lY,kb⟩ hp
    ·replace hp:=bif_f hb hp
     exact ih rfl rfl ⟨w0,s0,lY,kb⟩ hp
  ·replace hp:=bif_f hb hp
   exact ac.j21_P (@hC509) rfl rfl ⟨w0,s0,lY,kb⟩ hp
def ac.pl509 (F:Nat) :Nat→List Int→List Int→Bool→Option (List Int)
 | 0,_,_,_=>none
 | k + 1,pG,oT,jo=>(bif jo then (ac.pl8151 F (ac.pl509 F k) F pG oT false 0) else (some oT))
termination_by structural n=>n
theorem ac.l509_P {F:Nat} {H0:Hp} {Ri R0:List Rs}  :∀ k,ac.S509 H0 Ri R0  (ac.l509 F (aw.tw F) (ao.tw F) (ap.tw F)  k) (ac.pl509 F  k):=by
 intro k
 induction k with
 | zero=>
  intro CC CD vL vM CE CF pG oT CG CH jo H QU QV h0 r hp
  exact nomatch (show (none:Option (List Int)) = some r from hp)
 | succ k ih=>
  intro CC CD vL vM CE CF pG oT CG CH jo H QU QV h0 r hp
  obtain ⟨w0,s0,afe,QW⟩:=h0
  subst QU
  subst QV
  unfold ac.pl509 at hp
  unfold ac.l509
  refine bif_ex (fun hb=>?_) (fun hb=>?_)
  ·replace hp:=bif_t hb hp
   exact ac.l8151_P (@ih) F rfl rfl ⟨w0,s0,afe,QW⟩ hp
  ·replace hp:=bif_f hb hp
   obtain ⟨w1,s1⟩:=w0.pick' [1] 2 rfl rfl rfl
   dsimp only [pk,pks,nth,List.drop] at w1 s1
   obtain rfl:=Option.some.inj hp
   exact ⟨_,_,rfl,_,_,_,_,rfl,rfl,w1,(s0.trans s1),(QW.step s1)⟩
def ac.pj27 (F:Nat)  (wb:List Int) (wc:List Int):Option (List Int):=ac.pl509 F F wb wc true
theorem ac.j27_P {F:Nat} {H0:Hp} {Ri R0:List Rs}   {QX QY:ON} {Jw Jx:Nat} {QZ Q_:Cap} {wb wc:List Int} {Ra Rb:List AV} {H:Hp} (aff:Jw = wb.length) (afg:Jx = wc.length) (h0:Out H0 Ri H (Rs.own ⟨QX,Jw,QZ⟩ (eInt .i64).z Ra :: Rs.own ⟨QY,Jx,Q_⟩ (eInt .i64).z Rb :: R0) fun R=>CR (eInt .i64) H R Ra wb∧CR (eInt .i64) H R Rb wc) {r:List Int} (hp:ac.pj27 F  wb wc = some r):∃ v H',ac.j27 F (aw.tw F) (ao.tw F) (ap.tw F)  ⟨QX,Jw,QZ⟩ ⟨QY,Jx,Q_⟩ H = some (v,H')∧ac.Q H0 Ri R0  r v H':=by
 obtain ⟨w0,s0,afh,afi⟩:=h0
 subst aff
 subst afg
 unfold ac.pj27 at hp
 unfold ac.j27
 exact ac.l509_P F rfl rfl ⟨w0,s0,afh,afi⟩ hp
def ac.pl253 (F:Nat) :Nat→List Int→List Int→List Int→Int→Option (List Int)
 | 0,_,_,_,_=>none
 | k + 1,lV,lW,mJ,ec=>(bif (decide (ec < (lW.length:Int))) then ((ix lW ec).bind fun n1=>(bif ((gt lW n1) == ec) then ((ix lV (IntKind.i64.wrap (4 * ec))).bind fun n2=>(ix mJ (gt lV n2)).bind fun n3=>(some (mJ.set n3 0)).bind fun l4=>ac.pj28 F (ac.pl253 F k) lV lW l4 ec) else (ac.pj29 F (ac.pl253 F k) lV lW mJ ec))) else (ac.pj27 F lV mJ))
termination_by structural n=>n
theorem ac.l253_P {F:Nat} {H0:Hp} {Ri R0:List Rs}  :∀ k,ac.S253 H0 Ri R0  (ac.l253 F (aw.tw F) (ao.tw F) (ap.tw F)  k) (ac.pl253 F  k):=by
 intro k
 induction k with
 | zero=>
  intro Ct Cu Cv vC vD vE Cw Cx Cy lV lW mJ Cz CA CB ec H Rc Rd Re h0 r hp
  exact nomatch (show (none:Option (List Int)) = some r from hp)
 | succ k ih=>
  intro Ct Cu Cv vC vD vE Cw Cx Cy lV lW mJ Cz CA CB ec H Rc Rd Re h0 r hp
  obtain ⟨w0,s0,CO,Jy,CP⟩:=h0
  subst Rc
  subst Rd
  subst Re
  unfold ac.pl253 at hp
  unfold ac.l253
  refine bif_ex (fun hb=>?_) (fun hb=>?_)
  ·replace hp:=bif_t hb hp
   obtain ⟨n1,g1,hp⟩:=bind_some' hp
   obtain ⟨p1,q1,i1,h1,j1⟩:=W.ixo (E:=(eInt .i64)) w0 (i:=1) rfl rfl Jy g1
   refine bind_ex i1 ?_
   have h1:_ = [_]:=h1
   subst h1
   refine bind_ex (ldI_of (j1 0 _ rfl)) ?_
   refine bif_ex (fun hb=>?_) (fun hb=>?_)
   ·replace hp:=bif_t hb hp
    obtain ⟨n2,g2,hp⟩:=bind_some' hp
    obtain ⟨p2,q2,i2,h2,j2⟩:=W.ixo (E:=(eInt .i64)) w0 (i:=0) rfl rfl CO g2
    refine bind_ex i2 ?_
    have h2:_ = [_]:=h2
    subst h2
    refine bind_ex (ldI_of (j2 0 _ rfl)) ?_
    obtain ⟨n3,g3,hp⟩:=bind_some' hp
    obtain ⟨p3,q3,i3,h3,j3⟩:=W.ixo (E:=(eInt .i64)) w0 (i:=2) rfl rfl CP g3
    refine bind_ex i3 ?_
    obtain ⟨l4,e4,hp⟩:=bind_some' hp
    refine sto_k (eInt .i64) w0 (i:=2) (j:=0) (p:=p3) rfl rfl CP g3 i3 e4 rfl rfl (fun _ h=>by have h:_ = [_]:=h; subst h; exact rfl) fun H5 k5 w5 s5 c5=>?_
    dsimp only [List.set] at w5 s5 c5
    exact ac.j28_P (@ih) rfl rfl ((st_len e4).symm) ⟨w5,(s0.trans s5),(CO.step s5),(Jy.step s5),c5⟩ hp
   ·replace hp:=bif_f hb hp
    exact ac.j29_P (@ih) rfl rfl rfl ⟨w0,s0,CO,Jy,CP⟩ hp
  ·replace hp:=bif_f hb hp
   obtain ⟨w6,s6⟩:=w0.pick' [0,2] 3 rfl rfl rfl
   dsimp only [pk,pks,nth,List.drop] at w6 s6
   exact ac.j27_P rfl rfl ⟨w6,(s0.trans s6),(CO.step s6),(CP.step s6)⟩ hp
def ac.pj30 (F:Nat)  (wd:List Int) (wg:List Int) (wh:List Int):Option (List Int):=ac.pl253 F F wd wg wh 0
theorem ac.j30_P {F:Nat} {H0:Hp} {Ri R0:List Rs}   {Rf Rh Rj:ON} {Jz JA JB:Nat} {Rk Rl Rm:Cap} {wd wg wh:List Int} {Rp Rq Rr:List AV} {H:Hp} (afj:Jz = wd.length) (afk:JA = wg.length) (afl:JB = wh.length) (h0:Out H0 Ri H (Rs.own ⟨Rf,Jz,Rk⟩ (eInt .i64).z Rp :: Rs.own ⟨Rh,JA,Rl⟩ (eInt .i64).z Rq :: Rs.own ⟨Rj,JB,Rm⟩ (eInt .i64).z Rr :: R0) fun R=>CR (eInt .i64) H R Rp wd∧CR (eInt .i64) H R Rq wg∧CR (eInt .i64) H R Rr wh) {r:List Int} (hp:ac.pj30 F  wd wg wh = some r):∃ v H',ac.j30 F (aw.tw F) (ao.tw F) (ap.tw F)  ⟨Rf,Jz,Rk⟩ ⟨Rh,JA,Rl⟩ ⟨Rj,JB,Rm⟩ H = some (v,H')∧ac.Q H0 Ri R0  r v H':=by
 obtain ⟨w0,s0,afm,afn,afo⟩:=h0
 subst afj
 subst afk
 subst afl
 unfold ac.pj30 at hp
 unfold ac.j30
 exact ac.l253_P F rfl rfl rfl ⟨w0,s0,afm,afn,afo⟩ hp
def ac.pl125 (F:Nat) :Nat→List Int→List Int→List Int→Int→Option (List Int)
 | 0,_,_,_,_=>none
 | k + 1,oR,oS,ip,gT=>(bif (decide (gT < (ip.length:Int))) then ((ix ip gT).bind fun n1=>(some (ip.set n1 (-1))).bind fun l2=>ac.pl125 F k oR oS l2 (IntKind.i64.wrap (gT + 1))) else (ac.pj30 F oR oS ip))
termination_by structural n=>n
theorem ac.l125_P {F:Nat} {H0:Hp} {Ri R0:List Rs}  :∀ k,ac.S125 H0 Ri R0  (ac.l125 F (aw.tw F) (ao.tw F) (ap.tw F)  k) (ac.pl125 F  k):=by
 intro k
 induction k with
 | zero=>
  intro Cm Cn nl vA vB lU Co Cp nm oR oS ip Cq Cs nn gT H Rt Ru wi h0 r hp
  exact nomatch (show (none:Option (List Int)) = some r from hp)
 | succ k ih=>
  intro Cm Cn nl vA vB lU Co Cp nm oR oS ip Cq Cs nn gT H Rt Ru wi h0 r hp
  obtain ⟨w0,s0,Rv,Rw,tE⟩:=h0
  subst Rt
  subst Ru
  subst wi
  unfold ac.pl125 at hp
  unfold ac.l125
  refine bif_ex (fun hb=>?_) (fun hb=>?_)
  ·replace hp:=bif_t hb hp
   obtain ⟨n1,g1,hp⟩:=bind_some' hp
   obtain ⟨p1,q1,i1,h1,j1⟩:=W.ixo (E:=(eInt .i64)) w0 (i:=2) rfl rfl tE g1
   refine bind_ex i1 ?_
   obtain ⟨l2,e2,hp⟩:=bind_some' hp
   refine sto_k (eInt .i64) w0 (i:=2) (j:=0) (p:=p1) rfl rfl tE g1 i1 e2 rfl rfl (fun _ h=>by have h:_ = [_]:=h; subst h; exact rfl) fun H3 k3 w3 s3 c3=>?_
   dsimp only [List.set] at w3 s3 c3
   exact ih rfl rfl ((st_len e2).symm) ⟨w3,(s0.trans s3),(Rv.step s3),(Rw.step s3),c3⟩ hp
  ·replace hp:=bif_f hb hp
   exact ac.j30_P rfl rfl rfl ⟨w0,s0,Rv,Rw,tE⟩ hp
def ac.p (F:Nat) (af:List (Int×Int×Int×Int×Int)):Option (List Int):=(aw.p F af).bind fun r2=>(ao.p F af).bind fun r4=>(ap.p F af).bind fun r6=>(mkn (r6.length:Int) (0:Int)).bind fun l8=>ac.pl125 F F r2 r4 l8 0
theorem ac.P {F:Nat} {aF:ON} {ay:Nat} {aG:Cap} {af:List (Int×Int×Int×Int×Int)} {ab:Int} {H:Hp} {R0:List Rs} (bm:ay = af.length) (h0:Inn H R0 fun R=>ROs (ePair (eInt .i64) (ePair (eInt .i64) (ePair (eInt .i64) (ePair (eInt .i64) (eInt .i64))))) H R ⟨aF,ay,aG⟩ af) {r:List Int} (hp:ac.p F af = some r):∃ v H',ac.tw F ⟨aF,ay,aG⟩ ab H = some (v,H')∧ac.Q H R0 R0  r v H':=by
 obtain ⟨w0,aS⟩:=h0
 subst bm
 unfold ac.p at hp
 unfold ac.tw ac.twX
 have s0:=w0.rf
 refine new_k w0 fun H1 w1 s1=>?_
 refine bind_ex (ldSl_of (w1.ld (i:=0) rfl rfl)) ?_
 refine bind_ex (ldI_of (w1.ld (i:=0) rfl rfl)) ?_
 obtain ⟨r2,e2,hp⟩:=bind_some' hp
 refine call_ex (aw.P rfl ⟨w1,(aS.step s1)⟩ e2) ?_
 rintro _ H3 ⟨o0a_3,o0n_3,o0c_3,o0k_3,rfl,rfl,w3,s3,f3_0⟩
 refine bind_ex rfl ?_
 refine bind_ex (ldSl_of (w3.ld (i:=1) rfl rfl)) ?_
 refine bind_ex (ldI_of (w3.ld (i:=1) rfl rfl)) ?_
 obtain ⟨r4,e4,hp⟩:=bind_some' hp
 refine call_ex (ao.P rfl ⟨w3,(aS.step (s1.trans s3))⟩ e4) ?_
 rintro _ H5 ⟨o0a_5,o0n_5,o0c_5,o0k_5,rfl,rfl,w5,s5,f5_0⟩
 refine bind_ex rfl ?_
 refine bind_ex (ldSl_of (w5.ld (i:=2) rfl rfl)) ?_
 refine bind_ex (ldI_of (w5.ld (i:=2) rfl rfl)) ?_
 obtain ⟨r6,e6,hp⟩:=bind_some' hp
 refine call_ex (ap.P rfl ⟨w5,(aS.step (s1.trans (s3.trans s5)))⟩ e6) ?_
 rintro _ H7 ⟨o0a_7,o0n_7,o0c_7,o0k_7,rfl,rfl,w7,s7,f7_0⟩
 refine bind_ex rfl ?_
 obtain ⟨l8,e8,hp⟩:=bind_some' hp
 refine mk_k (eInt .i64) (0:Int) w7 rfl rfl rfl e8 fun H9 k9 w9 s9 c9=>?_
 obtain ⟨w10,s10⟩:=w9.pick' [3,2,0] 5 rfl rfl rfl
 dsimp only [pk,pks,nth,List.drop] at w10 s10
 exact ac.l125_P F rfl rfl rfl ⟨w10,(s0.trans (s1.trans (s3.trans (s5.trans (s7.trans (s9.trans s10)))))),(f3_0.step (s5.trans (s7.trans (s9.trans s10)))),(f5_0.step (s7.trans (s9.trans s10))),(c9.step s10)⟩ hp
def bG.Q (H0:Hp) (Ri R0:List Rs)  (r:Int×Int×List Int) (v:AV) (H':Hp):Prop:=∃ o2a:ON,∃ o2n:Nat,∃ o2k:List AV,v = (.agg [(.int .i64 r.1),(.int .i64 r.2.1),(.sl ⟨o2a,o2n,.ex o2n⟩)])∧o2n = (r.2.2).length∧Out H0 Ri H' (Rs.own ⟨o2a,o2n,.ex o2n⟩ (eInt .i64).z o2k :: R0) fun R=>CR (eInt .i64) H' R o2k (r.2.2)
def bG.p (F:Nat) (aa:Int) (ak:Int):Option (Int×Int×List Int):=(mkn (IntKind.i64.wrap (aa * ak)) (0:Int)).bind fun l2=>some (aa,ak,l2)
theorem bG.P {F:Nat} {aa ak:Int} {H:Hp} {R0:List Rs}  (h0:Inn H R0 fun R=>True) {r:Int×Int×List Int} (hp:bG.p F aa ak = some r):∃ v H',bG.tw F aa ak H = some (v,H')∧bG.Q H R0 R0  r v H':=by
 obtain ⟨w0,_⟩:=h0
 unfold bG.p at hp
 unfold bG.tw bG.twX
 have s0:=w0.rf
 refine new_k w0 fun H1 w1 s1=>?_
 obtain ⟨l2,e2,hp⟩:=bind_some' hp
 refine mk_k (eInt .i64) (0:Int) w1 rfl rfl rfl e2 fun H3 k3 w3 s3 c3=>?_
 refine st_k w3 (i:=1) rfl rfl rfl fun H4 w4 s4=>?_
 dsimp only [List.set] at w4 s4
 refine st_k w4 (i:=1) rfl rfl rfl fun H5 w5 s5=>?_
 dsimp only [List.set] at w5 s5
 refine st_k w5 (i:=1) rfl rfl rfl fun H6 w6 s6=>?_
 dsimp only [List.set] at w6 s6
 refine bind_ex (ldI_of (w6.ld (i:=1) rfl rfl)) ?_
 refine bind_ex (ldI_of (w6.ld (i:=1) rfl rfl)) ?_
 refine bind_ex (ldSl_of (w6.ld (i:=1) rfl rfl)) ?_
 obtain ⟨w7,s7⟩:=w6.pick' [0] 2 rfl rfl rfl
 dsimp only [pk,pks,nth,List.drop] at w7 s7
 obtain rfl:=Option.some.inj hp
 exact ⟨_,_,rfl,_,_,_,rfl,rfl,w7,(s0.trans (s1.trans (s3.trans (s4.trans (s5.trans (s6.trans s7)))))),(c3.step (s4.trans (s5.trans (s6.trans s7))))⟩
def bC.Q (H0:Hp) (Ri R0:List Rs)  (r:Int) (v:AV) (H':Hp):Prop:=v = (.int .i64 r)∧Out H0 Ri H' (R0) fun R=>True
def bC.p (F:Nat) (af:List Int) (kA:List Int) (bF:Int) (iY:Int):Option (Int):=(ix af (IntKind.i64.wrap ((IntKind.i64.wrap (4 * bF)) + 1))).bind fun n1=>(ix kA (gt af n1)).bind fun n2=>(bif ((gt kA n2) == iY) then (some 1) else (some (-1)))
theorem bC.P {F:Nat} {aF wj:ON} {ay pI:Nat} {aG wl:Cap} {af kA:List Int} {bF iY:Int} {H:Hp} {R0:List Rs} (bm:ay = af.length) (JC:pI = kA.length) (h0:Inn H R0 fun R=>ROs (eInt .i64) H R ⟨aF,ay,aG⟩ af∧ROs (eInt .i64) H R ⟨wj,pI,wl⟩ kA) {r:Int} (hp:bC.p F af kA bF iY = some r):∃ v H',bC.tw F ⟨aF,ay,aG⟩ ⟨wj,pI,wl⟩ bF iY H = some (v,H')∧bC.Q H R0 R0  r v H':=by
 obtain ⟨w0,aS,JD⟩:=h0
 subst bm
 subst JC
 unfold bC.p at hp
 unfold bC.tw bC.twX
 have s0:=w0.rf
 obtain ⟨n1,g1,hp⟩:=bind_some' hp
 obtain ⟨p1,q1,i1,h1,j1⟩:=ROs.ixr aS rfl g1
 refine bind_ex i1 ?_
 have h1:_ = [_]:=h1
 subst h1
 refine bind_ex (ldI_of (j1 0 _ rfl)) ?_
 obtain ⟨n2,g2,hp⟩:=bind_some' hp
 obtain ⟨p2,q2,i2,h2,j2⟩:=ROs.ixr JD rfl g2
 refine bind_ex i2 ?_
 have h2:_ = [_]:=h2
 subst h2
 refine bind_ex (ldI_of (j2 0 _ rfl)) ?_
 refine bif_ex (fun hb=>?_) (fun hb=>?_)
 ·replace hp:=bif_t hb hp
  obtain rfl:=Option.some.inj hp
  exact ⟨_,_,rfl,rfl,w0,s0,trivial⟩
 ·replace hp:=bif_f hb hp
  obtain rfl:=Option.some.inj hp
  exact ⟨_,_,rfl,rfl,w0,s0,trivial⟩
def ai.Q (H0:Hp) (Ri R0:List Rs)  (r:Int×Int×List Int) (v:AV) (H':Hp):Prop:=∃ o2a:ON,∃ o2n:Nat,∃ o2c:Cap,∃ o2k:List AV,v = (.agg [(.int .i64 r.1),(.int .i64 r.2.1),(.sl ⟨o2a,o2n,o2c⟩)])∧o2n = (r.2.2).length∧Out H0 Ri H' (Rs.own ⟨o2a,o2n,o2c⟩ (eInt .i64).z o2k :: R0) fun R=>CR (eInt .i64) H' R o2k (r.2.2)
def ai.S125 (H0:Hp) (Ri R0:List Rs)  (C:Int→Nat→Nat→Nat→Nat→Sl→Sl→Sl→Int→Int→Hp→OA) (pC:Int→List (Int×Int×Int×Int×Int)→List Int→List Int→List Int→Int→Int→Option (Int×Int×List Int)):Prop:=∀ {du JE JF JG ev fO:Int} {CQ CS np CT CU:ON} {wm fN wo gB lZ wp wq:Nat} {CV CW nq CX CY:Cap} {nr:List (Int×Int×Int×Int×Int)} {CZ iQ kZ ns:List Int} {C_ nu Da Db:List AV},∀ {H:Hp},wm = nr.length→wo = CZ.length→lZ = iQ.length→wp = kZ.length→wq = ns.length→(Out H0 Ri H (Rs.blk fN [.sl ⟨CQ,wm,CV⟩,.int .i64 JE] :: Rs.own ⟨CS,wo,CW⟩ (eInt .i64).z C_ :: Rs.blk gB [.int .i64 JF,.int .i64 JG,.sl ⟨CS,wo,CW⟩] :: Rs.own ⟨np,lZ,nq⟩ (eInt .i64).z nu :: Rs.own ⟨CT,wp,CX⟩ (eInt .i64).z Da :: Rs.own ⟨CU,wq,CY⟩ (eInt .i64).z Db :: R0) fun R=>ROs (ePair (eInt .i64) (ePair (eInt .i64) (ePair (eInt .i64) (ePair (eInt .i64) (eInt .i64))))) H R ⟨CQ,wm,CV⟩ nr∧CR (eInt .i64) H R C_ CZ∧CR (eInt .i64) H R nu iQ∧CR (eInt .i64) H R Da kZ∧CR (eInt .i64) H R Db ns)→∀ {r:Int×Int×List Int},pC du nr iQ kZ ns ev fO = some r→∃ v H',C du fN 0 gB 0 ⟨np,lZ,nq⟩ ⟨CT,wp,CX⟩ ⟨CU,wq,CY⟩ ev fO H = some (v,H')∧ai.Q H0 Ri R0  r v H'
def ai.pj15 (F:Nat) (cF:Int→List (Int×Int×Int×Int×Int)→List Int→List Int→List Int→Int→Int→Option (Int×Int×List Int)) (rj:Int) (wt:List (Int×Int×Int×Int×Int)) (wu:List Int) (wv:List Int) (ww:List Int) (rl:Int) (rm:Int):Option (Int×Int×List Int):=cF rj wt wu wv ww rl (IntKind.i64.wrap (rm + 1))
theorem ai.j15_P {F:Nat} {H0:Hp} {Ri R0:List Rs}  {C125_:Int→Nat→Nat→Nat→Nat→Sl→Sl→Sl→Int→Int→Hp→OA} {cF:Int→List (Int×Int×Int×Int×Int)→List Int→List Int→List Int→Int→Int→Option (Int×Int×List Int)} (hC125:ai.S125 H0 Ri R0  C125_ cF) {rj afp afq afr rl rm:Int} {Rx Ry Rz RA RB:ON} {JH Ar JI As JJ JK JL:Nat} {RC RD RE RF RG:Cap} {wt:List (Int×Int×Int×Int×Int)} {RH wu wv ww:List Int} {RI RJ RK RL:List AV} {H:Hp} (afs:JH = wt.length) (aft:JI = RH.length) (afu:JJ = wu.length) (afv:JK = wv.length) (afw:JL = ww.length) (h0:Out H0 Ri H (Rs.blk Ar [.sl ⟨Rx,JH,RC⟩,.int .i64 afp] :: Rs.own ⟨Ry,JI,RD⟩ (eInt .i64).z RI :: Rs.blk As [.int .i64 afq,.int .i64 afr,.sl ⟨Ry,JI,RD⟩] :: Rs.own ⟨Rz,JJ,RE⟩ (eInt .i64).z RJ :: Rs.own ⟨RA,JK,RF⟩ (eInt .i64).z RK :: Rs.own ⟨RB,JL,RG⟩ (eInt .i64).z RL :: R0) fun R=>ROs (ePair (eInt .i64) (ePair (eInt .i64) (ePair (eInt .i64) (ePair (eInt .i64) (eInt .i64))))) H R ⟨Rx,JH,RC⟩ wt∧CR (eInt .i64) H R RI RH∧CR (eInt .i64) H R RJ wu∧CR (eInt .i64) H R RK wv∧CR (eInt .i64) H R RL ww) {r:Int×Int×List Int} (hp:ai.pj15 F cF rj wt wu wv ww rl rm = some r):∃ v H',ai.j15 F (aw.tw F) (ac.tw F) (bG.tw F) (bC.tw F) C125_ rj Ar 0 As 0 ⟨Rz,JJ,RE⟩ ⟨RA,JK,RF⟩ ⟨RB,JL,RG⟩ rl rm H = some (v,H')∧ai.Q H0 Ri R0  r v H':=by
 obtain ⟨w0,s0,afx,afy,afz,afA,afB⟩:=h0
 subst afs
 subst aft
 subst afu
 subst afv
 subst afw
 unfold ai.pj15 at hp
 unfold ai.j15
 exact hC125 rfl rfl rfl rfl rfl ⟨w0,s0,afx,afy,afz,afA,afB⟩ hp
def ai.S509 (H0:Hp) (Ri R0:List Rs)  (C:Int→Nat→Nat→Nat→Nat→Sl→Sl→Sl→Int→Nat→Nat→Int→Hp→OA) (pC:Int→List (Int×Int×Int×Int×Int)→List Int→List Int→List Int→Int→Int→Int→List Int→Int→Option (Int×Int×List Int)):Prop:=∀ {dm JM JN JO gU oU oV eM:Int} {Dc Dd De Df Dg Dh:ON} {wx fi wy dU wz wA wB wC hM:Nat} {Di Dj Dk Dl Dm Dn:Cap} {nv:List (Int×Int×Int×Int×Int)} {Do l_ ma oW nw:List Int} {Dp Dq Dr Ds Dt:List AV},∀ {H:Hp},wx = nv.length→wy = Do.length→wz = l_.length→wA = ma.length→wB = oW.length→wC = nw.length→(Out H0 Ri H (Rs.blk fi [.sl ⟨Dc,wx,Di⟩,.int .i64 JM] :: Rs.own ⟨Dd,wy,Dj⟩ (eInt .i64).z Dp :: Rs.blk dU [.int .i64 JN,.int .i64 JO,.sl ⟨Dd,wy,Dj⟩] :: Rs.own ⟨De,wz,Dk⟩ (eInt .i64).z Dq :: Rs.own ⟨Df,wA,Dl⟩ (eInt .i64).z Dr :: Rs.own ⟨Dg,wB,Dm⟩ (eInt .i64).z Ds :: Rs.own ⟨Dh,wC,Dn⟩ (eInt .i64).z Dt :: Rs.blk hM [.int .i64 oU,.int .i64 oV,.sl ⟨Dh,wC,Dn⟩] :: R0) fun R=>ROs (ePair (eInt .i64) (ePair (eInt .i64) (ePair (eInt .i64) (ePair (eInt .i64) (eInt .i64))))) H R ⟨Dc,wx,Di⟩ nv∧CR (eInt .i64) H R Dp Do∧CR (eInt .i64) H R Dq l_∧CR (eInt .i64) H R Dr ma∧CR (eInt .i64) H R Ds oW∧CR (eInt .i64) H R Dt nw)→∀ {r:Int×Int×List Int},pC dm nv l_ ma oW gU oU oV nw eM = some r→∃ v H',C dm fi 0 dU 0 ⟨De,wz,Dk⟩ ⟨Df,wA,Dl⟩ ⟨Dg,wB,Dm⟩ gU hM 0 eM H = some (v,H')∧ai.Q H0 Ri R0  r v H'
def ai.pj8 (F:Nat) (aU:Int→List (Int×Int×Int×Int×Int)→List Int→List Int→List Int→Int→Int→Int→List Int→Int→Option (Int×Int×List Int)) (qT:Int) (wD:List (Int×Int×Int×Int×Int)) (wE:List Int) (wF:List Int) (wG:List Int) (qU:Int) (Du:Int) (Dv:Int) (wH:List Int) (qV:Int):Option (Int×Int×List Int):=aU qT wD wE wF wG qU Du Dv wH (IntKind.i64.wrap (qV + 1))
theorem ai.j8_P {F:Nat} {H0:Hp} {Ri R0:List Rs}  {C509_:Int→Nat→Nat→Nat→Nat→Sl→Sl→Sl→Int→Nat→Nat→Int→Hp→OA} {aU:Int→List (Int×Int×Int×Int×Int)→List Int→List Int→List Int→Int→Int→Int→List Int→Int→Option (Int×Int×List Int)} (hC509:ai.S509 H0 Ri R0  C509_ aU) {qT afC afD afE qU Du Dv qV:Int} {RM RN RO RP RQ RR:ON} {JP Af JQ Ag JR JS JT JU Ah:Nat} {RS RT RU RV RW RX:Cap} {wD:List (Int×Int×Int×Int×Int)} {RY wE wF wG wH:List Int} {RZ R_ Sa Sb Sc:List AV} {H:Hp} (afF:JP = wD.length) (afG:JQ = RY.length) (afH:JR = wE.length) (afI:JS = wF.length) (afJ:JT = wG.length) (afK:JU = wH.length) (h0:Out H0 Ri H (Rs.blk Af [.sl ⟨RM,JP,RS⟩,.int .i64 afC] :: Rs.own ⟨RN,JQ,RT⟩ (eInt .i64).z RZ :: Rs.blk Ag [.int .i64 afD,.int .i64 afE,.sl ⟨RN,JQ,RT⟩] :: Rs.own ⟨RO,JR,RU⟩ (eInt .i64).z R_ :: Rs.own ⟨RP,JS,RV⟩ (eInt .i64).z Sa :: Rs.own ⟨RQ,JT,RW⟩ (eInt .i64).z Sb :: Rs.own ⟨RR,JU,RX⟩ (eInt .i64).z Sc :: Rs.blk Ah [.int .i64 Du,.int .i64 Dv,.sl ⟨RR,JU,RX⟩] :: R0) fun R=>ROs (ePair (eInt .i64) (ePair (eInt .i64) (ePair (eInt .i64) (ePair (eInt .i64) (eInt .i64))))) H R ⟨RM,JP,RS⟩ wD∧CR (eInt .i64) H R RZ RY∧CR (eInt .i64) H R R_ wE∧CR (eInt .i64) H R Sa wF∧CR (eInt .i64) H R Sb wG∧CR (eInt .i64) H R Sc wH) {r:Int×Int×List Int} (hp:ai.pj8 F aU qT wD wE wF wG qU Du Dv wH qV = some r):∃ v H',ai.j8 F (aw.tw F) (ac.tw F) (bG.tw F) (bC.tw F) C509_ qT Af 0 Ag 0 ⟨RO,JR,RU⟩ ⟨RP,JS,RV⟩ ⟨RQ,JT,RW⟩ qU Ah 0 qV H = some (v,H')∧ai.Q H0 Ri R0  r v H':=by
 obtain ⟨w0,s0,afL,afM,afN,afO,afP,afQ⟩:=h0
 subst afF
 subst afG
 subst afH
 subst afI
 subst afJ
 subst afK
 unfold ai.pj8 at hp
 unfold ai.j8
 exact hC509 rfl rfl rfl rfl rfl rfl ⟨w0,s0,afL,afM,afN,afO,afP,afQ⟩ hp
def ai.pj9 (F:Nat) (aU:Int→List (Int×Int×Int×Int×Int)→List Int→List Int→List Int→Int→Int→Int→List Int→Int→Option (Int×Int×List Int)) (qW:Int) (wI:List (Int×Int×Int×Int×Int)) (wJ:List Int) (wK:List Int) (wL:List Int) (qX:Int) (Dw:Int) (Dx:Int) (wM:List Int) (qY:Int):Option (Int×Int×List Int):=aU qW wI wJ wK wL qX Dw Dx wM (IntKind.i64.wrap (qY + 1))
theorem ai.j9_P {F:Nat} {H0:Hp} {Ri R0:List Rs}  {C509_:Int→Nat→Nat→Nat→Nat→Sl→Sl→Sl→Int→Nat→Nat→Int→Hp→OA} {aU:Int→List (Int×Int×Int×Int×Int)→List Int→List Int→List Int→Int→Int→Int→List Int→Int→Option (Int×Int×List Int)} (hC509:ai.S509 H0 Ri R0  C509_ aU) {qW afR afS afT qX Dw Dx qY:Int} {Sd Se Sf Sg Sh Si:ON} {JV Ai JW Aj JX JY JZ J_ Ak:Nat} {Sk Sm Sn So Sp Sq:Cap} {wI:List (Int×Int×Int×Int×Int)} {Sr wJ wK wL wM:List Int} {Ss St Su Sv Sw:List AV} {H:Hp} (afU:JV = wI.length) (afV:JW = Sr.length) (afW:JX = wJ.length) (afX:JY = wK.length) (afY:JZ = wL.length) (afZ:J_ = wM.length) (h0:Out H0 Ri H (Rs.blk Ai [.sl ⟨Sd,JV,Sk⟩,.int .i64 afR] :: Rs.own ⟨Se,JW,Sm⟩ (eInt .i64).z Ss :: Rs.blk Aj [.int .i64 afS,.int .i64 afT,.sl ⟨Se,JW,Sm⟩] :: Rs.own ⟨Sf,JX,Sn⟩ (eInt .i64).z St :: Rs.own ⟨Sg,JY,So⟩ (eInt .i64).z Su :: Rs.own ⟨Sh,JZ,Sp⟩ (eInt .i64).z Sv :: Rs.own ⟨Si,J_,Sq⟩ (eInt .i64).z Sw :: Rs.blk Ak [.int .i64 Dw,.int .i64 Dx,.sl ⟨Si,J_,Sq⟩] :: R0) fun R=>ROs (ePair (eInt .i64) (ePair (eInt .i64) (ePair (eInt .i64) (ePair (eInt .i64) (eInt .i64))))) H R ⟨Sd,JV,Sk⟩ wI∧CR (eInt .i64) H R Ss Sr∧CR (eInt .i64) H R St wJ∧CR (eInt .i64) H R Su wK∧CR (eInt .i64) H R Sv wL∧CR (eInt .i64) H R Sw wM) {r:Int×Int×List Int} (hp:ai.pj9 F aU qW wI wJ wK wL qX Dw Dx wM qY = some r):∃ v H',ai.j9 F (aw.tw F) (ac.tw F) (bG.tw F) (bC.tw F) C509_ qW Ai 0 Aj 0 ⟨Sf,JX,Sn⟩ ⟨Sg,JY,So⟩ ⟨Sh,JZ,Sp⟩ qX Ak 0 qY H = some (v,H')∧ai.Q H0 Ri R0  r v H':=by
 obtain ⟨w0,s0,af0,af1,af2,af3,af4,af5⟩:=h0
 subst afU
 subst afV
 subst afW
 subst afX
 subst afY
 subst afZ
 unfold ai.pj9 at hp
 unfold ai.j9
 exact hC509 rfl rfl rfl rfl rfl rfl ⟨w0,s0,af0,af1,af2,af3,af4,af5⟩ hp
def ai.pj10 (F:Nat) (aU:Int→List (Int×Int×Int×Int×Int)→List Int→List Int→List Int→Int→Int→Int→List Int→Int→Option (Int×Int×List Int)) (qZ:Int) (wN:List (Int×Int×Int×Int×Int)) (wO:List Int) (wP:List Int) (wQ:List Int) (q_:Int) (Dy:Int) (Dz:Int) (wR:List Int) (ra:Int):Option (Int×Int×List Int):=ai.pj9 F aU qZ wN wO wP wQ q_ Dy Dz wR ra
theorem ai.j10_P {F:Nat} {H0:Hp} {Ri R0:List Rs}  {C509_:Int→Nat→Nat→Nat→Nat→Sl→Sl→Sl→Int→Nat→Nat→Int→Hp→OA} {aU:Int→List (Int×Int×Int×Int×Int)→List Int→List Int→List Int→Int→Int→Int→List Int→Int→Option (Int×Int×List Int)} (hC509:ai.S509 H0 Ri R0  C509_ aU) {qZ af6 af7 af8 q_ Dy Dz ra:Int} {Sx Sy Sz SA SB SD:ON} {Ka Al Kb Am Kc Kd Ke Kf An:Nat} {SE SF SG SH SI SJ:Cap} {wN:List (Int×Int×Int×Int×Int)} {SK wO wP wQ wR:List Int} {SL SM SN SO SP:List AV} {H:Hp} (af9:Ka = wN.length) (af_:Kb = SK.length) (aga:Kc = wO.length) (agb:Kd = wP.length) (agc:Ke = wQ.length) (agd:Kf = wR.length) (h0:Out H0 Ri H (Rs.blk Al [.sl ⟨Sx,Ka,SE⟩,.int .i64 af6] :: Rs.own ⟨Sy,Kb,SF⟩ (eInt .i64).z SL :: Rs.blk Am [.int .i64 af7,.int .i64 af8,.sl ⟨Sy,Kb,SF⟩] :: Rs.own ⟨Sz,Kc,SG⟩ (eInt .i64).z SM :: Rs.own ⟨SA,Kd,SH⟩ (eInt .i64).z SN :: Rs.own ⟨SB,Ke,SI⟩ (eInt .i64).z SO :: Rs.own ⟨SD,Kf,SJ⟩ (eInt .i64).z SP :: Rs.blk An [.int .i64 Dy,.int .i64 Dz,.sl ⟨SD,Kf,SJ⟩] :: R0) fun R=>ROs (ePair (eInt .i64) (ePair (eInt .i64) (ePair (eInt .i64) (ePair (eInt .i64) (eInt .i64))))) H R ⟨Sx,Ka,SE⟩ wN∧CR (eInt .i64) H R SL SK∧CR (eInt .i64) H R SM wO∧CR (eInt .i64) H R SN wP∧CR (eInt .i64) H R SO wQ∧CR (eInt .i64) H R SP wR) {r:Int×Int×List Int} (hp:ai.pj10 F aU qZ wN wO wP wQ q_ Dy Dz wR ra = some r):∃ v H',ai.j10 F (aw.tw F) (ac.tw F) (bG.tw F) (bC.tw F) C509_ qZ Al 0 Am 0 ⟨Sz,Kc,SG⟩ ⟨SA,Kd,SH⟩ ⟨SB,Ke,SI⟩ q_ An 0 ra H = some (v,H')∧ai.Q H0 Ri R0  r v H':=by
 obtain ⟨w0,s0,age,agf,agh,agi,agj,agk⟩:=h0
 subst af9
 subst af_
 subst aga
 subst agb
 subst agc
 subst agd
 unfold ai.pj10 at hp
 unfold ai.j10
 exact ai.j9_P (@hC509) rfl rfl rfl rfl rfl rfl ⟨w0,s0,age,agf,agh,agi,agj,agk⟩ hp
def ai.pj11 (F:Nat) (aU:Int→List (Int×Int×Int×Int×Int)→List Int→List Int→List Int→Int→Int→Int→List Int→Int→Option (Int×Int×List Int)) (mq:Int) (pJ:List (Int×Int×Int×Int×Int)) (pK:List Int) (pL:List Int) (pM:List Int) (iA:Int) (tF:Int) (tG:Int) (mK:List Int) (ms:Int) (oa:Int) (jQ:Int) (jR:Int):Option (Int×Int×List Int):=(bif (decide (jQ ≥ 0)) then ((bif (decide (jR ≥ 0)) then ((ix mK (IntKind.i64.wrap ((IntKind.i64.wrap (jQ * iA)) + jR))).bind fun n1=>(ix mK (IntKind.i64.wrap ((IntKind.i64.wrap (jQ * iA)) + jR))).bind fun n2=>(some (mK.set n2 (IntKind.i64.wrap ((gt mK n1) - oa)))).bind fun l3=>(ix l3 (IntKind.i64.wrap ((IntKind.i64.wrap (jR * iA)) + jQ))).bind fun n5=>(ix l3 (IntKind.i64.wrap ((IntKind.i64.wrap (jR * iA)) + jQ))).bind fun n6=>(some (l3.set n6 (IntKind.i64.wrap ((gt l3 n5) - oa)))).bind fun l7=>ai.pj10 F aU mq pJ pK pL pM iA tF tG l7 ms) else (ai.pj10 F aU mq pJ pK pL pM iA tF tG mK ms))) else (ai.pj9 F aU mq pJ pK pL pM iA tF tG mK ms))
theorem ai.j11_P {F:Nat} {H0:Hp} {Ri R0:List Rs}  {C509_:Int→Nat→Nat→Nat→Nat→Sl→Sl→Sl→Int→Nat→Nat→Int→Hp→OA} {aU:Int→List (Int×Int×Int×Int×Int)→List Int→List Int→List Int→Int→Int→Int→List Int→Int→Option (Int×Int×List Int)} (hC509:ai.S509 H0 Ri R0  C509_ aU) {mq agl agm agn iA tF tG ms oa jQ jR:Int} {SQ SR SS SU SV SW:ON} {Kg rb Kh rc Ki Kj Kk Kl mr:Nat} {SX SY SZ S_ Ta Tc:Cap} {pJ:List (Int×Int×Int×Int×Int)} {Td pK pL pM mK:List Int} {Te Tf Tg Th Ti:List AV} {H:Hp} (ago:Kg = pJ.length) (agp:Kh = Td.length) (agq:Ki = pK.length) (agr:Kj = pL.length) (ags:Kk = pM.length) (agt:Kl = mK.length) (h0:Out H0 Ri H (Rs.blk rb [.sl ⟨SQ,Kg,SX⟩,.int .i64 agl] :: Rs.own ⟨SR,Kh,SY⟩ (eInt .i64).z Te :: Rs.blk rc [.int .i64 agm,.int .i64 agn,.sl ⟨SR,Kh,SY⟩] :: Rs.own ⟨SS,Ki,SZ⟩ (eInt .i64).z Tf :: Rs.own ⟨SU,Kj,S_⟩ (eInt .i64).z Tg :: Rs.own ⟨SV,Kk,Ta⟩ (eInt .i64).z Th :: Rs.own ⟨SW,Kl,Tc⟩ (eInt .i64).z Ti :: Rs.blk mr [.int .i64 tF,.int .i64 tG,.sl ⟨SW,Kl,Tc⟩] :: R0) fun R=>ROs (ePair (eInt .i64) (ePair (eInt .i64) (ePair (eInt .i64) (ePair (eInt .i64) (eInt .i64))))) H R ⟨SQ,Kg,SX⟩ pJ∧CR (eInt .i64) H R Te Td∧CR (eInt .i64) H R Tf pK∧CR (eInt .i64) H R Tg pL∧CR (eInt .i64) H R Th pM∧CR (eInt .i64) H R Ti mK) {r:Int×Int×List Int} (hp:ai.pj11 F aU mq pJ pK pL pM iA tF tG mK ms oa jQ jR = some r):∃ v H',ai.j11 F (aw.tw F) (ac.tw F) (bG.tw F) (bC.tw F) C509_ mq rb 0 rc 0 ⟨SS,Ki,SZ⟩ ⟨SU,Kj,S_⟩ ⟨SV,Kk,Ta⟩ iA mr 0 ms oa jQ jR H = some (v,H')∧ai.Q H0 Ri R0  r v H':=by
 obtain ⟨w0,s0,Km,Kn,Ko,Kp,Kq,wS⟩:=h0
 subst ago
 subst agp
 subst agq
 subst agr
 subst ags
 subst agt
 unfold ai.pj11 at hp
 unfold ai.j11
 refine bif_ex (fun hb=>?_) (fun hb=>?_)
 ·replace hp:=bif_t hb hp
  refine bif_ex (fun hb=>?_) (fun hb=>?_)
  ·replace hp:=bif_t hb hp
   refine bind_ex (ldSl_of (w0.ld (i:=7) rfl rfl)) ?_
   refine bind_ex (ldSl_of (w0.ld (i:=7) rfl rfl)) ?_
   obtain ⟨n1,g1,hp⟩:=bind_some' hp
   obtain ⟨p1,q1,i1,h1,j1⟩:=W.ixo (E:=(eInt .i64)) w0 (i:=6) rfl rfl wS g1
   refine bind_ex i1 ?_
   have h1:_ = [_]:=h1
   subst h1
   refine bind_ex (ldI_of (j1 0 _ rfl)) ?_
   obtain ⟨n2,g2,hp⟩:=bind_some' hp
   obtain ⟨p2,q2,i2,h2,j2⟩:=W.ixo (E:=(eInt .i64)) w0 (i:=6) rfl rfl wS g2
   refine bind_ex i2 ?_
   obtain ⟨l3,e3,hp⟩:=bind_some' hp
   refine sto_k (eInt .i64) w0 (i:=6) (j:=0) (p:=p2) rfl rfl wS g2 i2 e3 rfl rfl (fun _ h=>by have h:_ = [_]:=h; subst h; exact rfl) fun H4 k4 w4 s4 c4=>?_
   dsimp only [List.set] at w4 s4 c4
   refine bind_ex (ldSl_of (w4.ld (i:=7) rfl rfl)) ?_
   refine bind_ex (ldSl_of (w4.ld (i:=7) rfl rfl)) ?_
   obtain ⟨n5,g5,hp⟩:=bind_some' hp
   obtain ⟨p5,q5,i5,h5,j5⟩:=W.ixo (E:=(eInt .i64)) w4 (i:=6) rfl rfl c4 g5
   refine bind_ex i5 ?_
   have h5:_ = [_]:=h5
   subst h5
   refine bind_ex (ldI_of (j5 0 _ rfl)) ?_
   obtain ⟨n6,g6,hp⟩:=bind_some' hp
   obtain ⟨p6,q6,i6,h6,j6⟩:=W.ixo (E:=(eInt .i64)) w4 (i:=6) rfl rfl c4 g6
   refine bind_ex i6 ?_
   obtain ⟨l7,e7,hp⟩:=bind_some' hp
   refine sto_k (eInt .i64) w4 (i:=6) (j:=0) (p:=p6) rfl rfl c4 g6 i6 e7 rfl rfl (fun _ h=>by have h:_ = [_]:=h; subst h; exact rfl) fun H8 k8 w8 s8 c8=>?_
   dsimp only [List.set] at w8 s8 c8
   exact ai.j10_P (@hC509) rfl rfl rfl rfl rfl ((st_len e3).symm.trans (st_len e7).symm) ⟨w8,(s0.trans (s4.trans s8)),(Km.step (s4.trans s8)),(Kn.step (s4.trans s8)),(Ko.step (s4.trans s8)),(Kp.step (s4.trans s8)),(Kq.step (s4.trans s8)),c8⟩ hp
  ·replace hp:=bif_f hb hp
   exact ai.j10_P (@hC509) rfl rfl rfl rfl rfl rfl ⟨w0,s0,Km,Kn,Ko,Kp,Kq,wS⟩ hp
 ·replace hp:=bif_f hb hp
  exact ai.j9_P (@hC509) rfl rfl rfl rfl rfl rfl ⟨w0,s0,Km,Kn,Ko,Kp,Kq,wS⟩ hp
def ai.pj12 (F:Nat) (aU:Int→List (Int×Int×Int×Int×Int)→List Int→List Int→List Int→Int→Int→Int→List Int→Int→Option (Int×Int×List Int)) (ob:Int) (tH:List (Int×Int×Int×Int×Int)) (tI:List Int) (tJ:List Int) (tK:List Int) (kL:Int) (wT:Int) (wU:Int) (nx:List Int) (oc:Int) (mu:Int) (od:Int) (iB:Int):Option (Int×Int×List Int):=(bif (decide (iB ≥ 0)) then ((ix nx (IntKind.i64.wrap ((IntKind.i64.wrap (iB * kL)) + iB))).bind fun n1=>(ix nx (IntKind.i64.wrap ((IntKind.i64.wrap (iB * kL)) + iB))).bind fun n2=>(some (nx.set n2 (IntKind.i64.wrap ((gt nx n1) + mu)))).bind fun l3=>ai.pj11 F aU ob tH tI tJ tK kL wT wU l3 oc mu od iB) else (ai.pj11 F aU ob tH tI tJ tK kL wT wU nx oc mu od iB))
theorem ai.j12_P {F:Nat} {H0:Hp} {Ri R0:List Rs}  {C509_:Int→Nat→Nat→Nat→Nat→Sl→Sl→Sl→Int→Nat→Nat→Int→Hp→OA} {aU:Int→List (Int×Int×Int×Int×Int)→List Int→List Int→List Int→Int→Int→Int→List Int→Int→Option (Int×Int×List Int)} (hC509:ai.S509 H0 Ri R0  C509_ aU) {ob agu agv agw kL wT wU oc mu od iB:Int} {Tj Tk Tl Tn To Tp:ON} {Kr uj Ks uk Kt Ku Kv Kw pA:Nat} {Tq Tr Ts Tt Tu Tv:Cap} {tH:List (Int×Int×Int×Int×Int)} {Tw tI tJ tK nx:List Int} {Tx Ty Tz TA TC:List AV} {H:Hp} (agx:Kr = tH.length) (agy:Ks = Tw.length) (agz:Kt = tI.length) (agA:Ku = tJ.length) (agB:Kv = tK.length) (agC:Kw = nx.length) (h0:Out H0 Ri H (Rs.blk uj [.sl ⟨Tj,Kr,Tq⟩,.int .i64 agu] :: Rs.own ⟨Tk,Ks,Tr⟩ (eInt .i64).z Tx :: Rs.blk uk [.int .i64 agv,.int .i64 agw,.sl ⟨Tk,Ks,Tr⟩] :: Rs.own ⟨Tl,Kt,Ts⟩ (eInt .i64).z Ty :: Rs.own ⟨Tn,Ku,Tt⟩ (eInt .i64).z Tz :: Rs.own ⟨To,Kv,Tu⟩ (eInt .i64).z TA :: Rs.own ⟨Tp,Kw,Tv⟩ (eInt .i64).z TC :: Rs.blk pA [.int .i64 wT,.int .i64 wU,.sl ⟨Tp,Kw,Tv⟩] :: R0) fun R=>ROs (ePair (eInt .i64) (ePair (eInt .i64) (ePair (eInt .i64) (ePair (eInt .i64) (eInt .i64))))) H R ⟨Tj,Kr,Tq⟩ tH∧CR (eInt .i64) H R Tx Tw∧CR (eInt .i64) H R Ty tI∧CR (eInt .i64) H R Tz tJ∧CR (eInt .i64) H R TA tK∧CR (eInt .i64) H R TC nx) {r:Int×Int×List Int} (hp:ai.pj12 F aU ob tH tI tJ tK kL wT wU nx oc mu od iB = some r):∃ v H',ai.j12 F (aw.tw F) (ac.tw F) (bG.tw F) (bC.tw F) C509_ ob uj 0 uk 0 ⟨Tl,Kt,Ts⟩ ⟨Tn,Ku,Tt⟩ ⟨To,Kv,Tu⟩ kL pA 0 oc mu od iB H = some (v,H')∧ai.Q H0 Ri R0  r v H':=by
 obtain ⟨w0,s0,TD,TE,TF,TG,TH,DA⟩:=h0
 subst agx
 subst agy
 subst agz
 subst agA
 subst agB
 subst agC
 unfold ai.pj12 at hp
 unfold ai.j12
 refine bif_ex (fun hb=>?_) (fun hb=>?_)
 ·replace hp:=bif_t hb hp
  refine bind_ex (ldSl_of (w0.ld (i:=7) rfl rfl)) ?_
  refine bind_ex (ldSl_of (w0.ld (i:=7) rfl rfl)) ?_
  obtain ⟨n1,g1,hp⟩:=bind_some' hp
  obtain ⟨p1,q1,i1,h1,j1⟩:=W.ixo (E:=(eInt .i64)) w0 (i:=6) rfl rfl DA g1
  refine bind_ex i1 ?_
  have h1:_ = [_]:=h1
  subst h1
  refine bind_ex (ldI_of (j1 0 _ rfl)) ?_
  obtain ⟨n2,g2,hp⟩:=bind_some' hp
  obtain ⟨p2,q2,i2,h2,j2⟩:=W.ixo (E:=(eInt .i64)) w0 (i:=6) rfl rfl DA g2
  refine bind_ex i2 ?_
  obtain ⟨l3,e3,hp⟩:=bind_some' hp
  refine sto_k (eInt .i64) w0 (i:=6) (j:=0) (p:=p2) rfl rfl DA g2 i2 e3 rfl rfl (fun _ h=>by have h:_ = [_]:=h; subst h; exact rfl) fun H4 k4 w4 s4 c4=>?_
  dsimp only [List.set] at w4 s4 c4
  exact ai.j11_P (@hC509) rfl rfl rfl rfl rfl ((st_len e3).symm) ⟨w4,(s0.trans s4),(TD.step s4),(TE.step s4),(TF.step s4),(TG.step s4),(TH.step s4),c4⟩ hp
 ·replace hp:=bif_f hb hp
  exact ai.j11_P (@hC509) rfl rfl rfl rfl rfl rfl ⟨w0,s0,TD,TE,TF,TG,TH,DA⟩ hp
def ai.pj13 (F:Nat) (aU:Int→List (Int×Int×Int×Int×Int)→List Int→List Int→List Int→Int→Int→Int→List Int→Int→Option (Int×Int×List Int)) (mv:Int) (pN:List (Int×Int×Int×Int×Int)) (mb:List Int) (pO:List Int) (hK:List Int) (jS:Int) (tL:Int) (tM:Int) (mL:List Int) (jT:Int) (mw:Int) (og:Int):Option (Int×Int×List Int):=(ix mb (IntKind.i64.wrap ((IntKind.i64.wrap (4 * jT)) + og))).bind fun n1=>(ix hK (gt mb n1)).bind fun n2=>(ix mb (IntKind.i64.wrap ((IntKind.i64.wrap ((IntKind.i64.wrap (4 * jT)) + og)) + 2))).bind fun n3=>(ix hK (gt mb n3)).bind fun n4=>(bif ((gt hK n2) == (gt hK n4)) then (ai.pj8 F aU mv pN mb pO hK jS tL tM mL jT) else ((bif (decide ((gt hK n2) ≥ 0)) then ((ix mL (IntKind.i64.wrap ((IntKind.i64.wrap ((gt hK n2) * jS)) + (gt hK n2)))).bind fun n5=>(ix mL (IntKind.i64.wrap ((IntKind.i64.wrap ((gt hK n2) * jS)) + (gt hK n2)))).bind fun n6=>(some (mL.set n6 (IntKind.i64.wrap ((gt mL n5) + mw)))).bind fun l7=>ai.pj12 F aU mv pN mb pO hK jS tL tM l7 jT mw (gt hK n2) (gt hK n4)) else (ai.pj12 F aU mv pN mb pO hK jS tL tM mL jT mw (gt hK n2) (gt hK n4)))))
theorem ai.j13_P {F:Nat} {H0:Hp} {Ri R0:List Rs}  {C509_:Int→Nat→Nat→Nat→Nat→Sl→Sl→Sl→Int→Nat→Nat→Int→Hp→OA} {aU:Int→List (Int×Int×Int×Int×Int)→List Int→List Int→List Int→Int→Int→Int→List Int→Int→Option (Int×Int×List Int)} (hC509:ai.S509 H0 Ri R0  C509_ aU) {mv agD agE agF jS tL tM jT mw og:Int} {TJ TK TL TM TN TO:ON} {Kx rd Ky rh Kz KA KB KC oe:Nat} {TP TQ TR TT TU TV:Cap} {pN:List (Int×Int×Int×Int×Int)} {TW mb pO hK mL:List Int} {TX TY TZ T_ Ua:List AV} {H:Hp} (agG:Kx = pN.length) (agH:Ky = TW.length) (agI:Kz = mb.length) (agJ:KA = pO.length) (agK:KB = hK.length) (agL:KC = mL.length) (h0:Out H0 Ri H (Rs.blk rd [.sl ⟨TJ,Kx,TP⟩,.int .i64 agD] :: Rs.own ⟨TK,Ky,TQ⟩ (eInt .i64).z TX :: Rs.blk rh [.int .i64 agE,.int .i64 agF,.sl ⟨TK,Ky,TQ⟩] :: Rs.own ⟨TL,Kz,TR⟩ (eInt .i64).z TY :: Rs.own ⟨TM,KA,TT⟩ (eInt .i64).z TZ :: Rs.own ⟨TN,KB,TU⟩ (eInt .i64).z T_ :: Rs.own ⟨TO,KC,TV⟩ (eInt .i64).z Ua :: Rs.blk oe [.int .i64 tL,.int .i64 tM,.sl ⟨TO,KC,TV⟩] :: R0) fun R=>ROs (ePair (eInt .i64) (ePair (eInt .i64) (ePair (eInt .i64) (ePair (eInt .i64) (eInt .i64))))) H R ⟨TJ,Kx,TP⟩ pN∧CR (eInt .i64) H R TX TW∧CR (eInt .i64) H R TY mb∧CR (eInt .i64) H R TZ pO∧CR (eInt .i64) H R T_ hK∧CR (eInt .i64) H R Ua mL) {r:Int×Int×List Int} (hp:ai.pj13 F aU mv pN mb pO hK jS tL tM mL jT mw og = some r):∃ v H',ai.j13 F (aw.tw F) (ac.tw F) (bG.tw F) (bC.tw F) C509_ mv rd 0 rh 0 ⟨TL,Kz,TR⟩ ⟨TM,KA,TT⟩ ⟨TN,KB,TU⟩ jS oe 0 jT mw og H = some (v,H')∧ai.Q H0 Ri R0  r v H':=by
 obtain ⟨w0,s0,KD,KE,wV,KF,wW,wX⟩:=h0
 subst agG
 subst agH
 subst agI
 subst agJ
 subst agK
 subst agL
 unfold ai.pj13 at hp
 unfold ai.j13
 obtain ⟨n1,g1,hp⟩:=bind_some' hp
 obtain ⟨p1,q1,i1,h1,j1⟩:=W.ixo (E:=(eInt .i64)) w0 (i:=3) rfl rfl wV g1
 refine bind_ex i1 ?_
 have h1:_ = [_]:=h1
 subst h1
 refine bind_ex (ldI_of (j1 0 _ rfl)) ?_
 obtain ⟨n2,g2,hp⟩:=bind_some' hp
 obtain ⟨p2,q2,i2,h2,j2⟩:=W.ixo (E:=(eInt .i64)) w0 (i:=5) rfl rfl wW g2
 refine bind_ex i2 ?_
 have h2:_ = [_]:=h2
 subst h2
 refine bind_ex (ldI_of (j2 0 _ rfl)) ?_
 obtain ⟨n3,g3,hp⟩:=bind_some' hp
 obtain ⟨p3,q3,i3,h3,j3⟩:=W.ixo (E:=(eInt .i64)) w0 (i:=3) rfl rfl wV g3
 refine bind_ex i3 ?_
 have h3:_ = [_]:=h3
 subst h3
 refine bind_ex (ldI_of (j3 0 _ rfl)) ?_
 obtain ⟨n4,g4,hp⟩:=bind_some' hp
 obtain ⟨p4,q4,i4,h4,j4⟩:=W.ixo (E:=(eInt .i64)) w0 (i:=5) rfl rfl wW g4
 refine bind_ex i4 ?_
 have h4:_ = [_]:=h4
 subst h4
 refine bind_ex (ldI_of (j4 0 _ rfl)) ?_
 refine bif_ex (fun hb=>?_) (fun hb=>?_)
 ·replace hp:=bif_t hb hp
  exact ai.j8_P (@hC509) rfl rfl rfl rfl rfl rfl ⟨w0,s0,KD,KE,wV,KF,wW,wX⟩ hp
 ·replace hp:=bif_f hb hp
  refine bif_ex (fun hb=>?_) (fun hb=>?_)
  ·replace hp:=bif_t hb hp
   refine bind_ex (ldSl_of (w0.ld (i:=7) rfl rfl)) ?_
   refine bind_ex (ldSl_of (w0.ld (i:=7) rfl rfl)) ?_
   obtain ⟨n5,g5,hp⟩:=bind_some' hp
   obtain ⟨p5,q5,i5,h5,j5⟩:=W.ixo (E:=(eInt .i64)) w0 (i:=6) rfl rfl wX g5
   refine bind_ex i5 ?_
   have h5:_ = [_]:=h5
   subst h5
   refine bind_ex (ldI_of (j5 0 _ rfl)) ?_
   obtain ⟨n6,g6,hp⟩:=bind_some' hp
   obtain ⟨p6,q6,i6,h6,j6⟩:=W.ixo (E:=(eInt .i64)) w0 (i:=6) rfl rfl wX g6
   refine bind_ex i6 ?_
   obtain ⟨l7,e7,hp⟩:=bind_some' hp
   refine sto_k (eInt .i64) w0 (i:=6) (j:=0) (p:=p6) rfl rfl wX g6 i6 e7 rfl rfl (fun _ h=>by have h:_ = [_]:=h; subst h; exact rfl) fun H8 k8 w8 s8 c8=>?_
   dsimp only [List.set] at w8 s8 c8
   exact ai.j12_P (@hC509) rfl rfl rfl rfl rfl ((st_len e7).symm) ⟨w8,(s0.trans s8),(KD.step s8),(KE.step s8),(wV.step s8),(KF.step s8),(wW.step s8),c8⟩ hp
  ·replace hp:=bif_f hb hp
   exact ai.j12_P (@hC509) rfl rfl rfl rfl rfl rfl ⟨w0,s0,KD,KE,wV,KF,wW,wX⟩ hp
def ai.pl509 (F:Nat) :Nat→Int→List (Int×Int×Int×Int×Int)→List Int→List Int→List Int→Int→Int→Int→List Int→Int→Option (Int×Int×List Int)
 | 0,_,_,_,_,_,_,_,_,_,_=>none
 | k + 1,dm,nv,l_,ma,oW,gU,oU,oV,nw,eM=>(bif (decide (eM < (nv.length:Int))) then ((bC.p F l_ ma eM dm).bind fun r4=>(ix l_ (IntKind.i64.wrap (4 * eM))).bind fun n8=>(ix ma (gt l_ n8)).bind fun n9=>(bif ((gt ma n9) == dm) then (ai.pj13 F (ai.pl509 F k) dm nv l_ ma oW gU oU oV nw eM r4 1) else (ai.pj13 F (ai.pl509 F k) dm nv l_ ma oW gU oU oV nw eM r4 0))) else (some (oU,oV,nw)))
termination_by structural n=>n
theorem ai.l509_P {F:Nat} {H0:Hp} {Ri R0:List Rs}  :∀ k,ai.S509 H0 Ri R0  (ai.l509 F (aw.tw F) (ac.tw F) (bG.tw F) (bC.tw F)  k) (ai.pl509 F  k):=by
 intro k
 induction k with
 | zero=>
  intro dm JM JN JO gU oU oV eM Dc Dd De Df Dg Dh wx fi wy dU wz wA wB wC hM Di Dj Dk Dl Dm Dn nv Do l_ ma oW nw Dp Dq Dr Ds Dt H Ub Uc Ud Ue Uf Ug h0 r hp
  exact nomatch (show (none:Option (Int×Int×List Int)) = some r from hp)
 | succ k ih=>
  intro dm JM JN JO gU oU oV eM Dc Dd De Df Dg Dh wx fi wy dU wz wA wB wC hM Di Dj Dk Dl Dm Dn nv Do l_ ma oW nw Dp Dq Dr Ds Dt H Ub Uc Ud Ue Uf Ug h0 r hp
  obtain ⟨w0,s0,Uh,Ui,DB,DC,Uj,KG⟩:=h0
  subst Ub
  subst Uc
  subst Ud
  subst Ue
  subst Uf
  subst Ug
  unfold ai.pl509 at hp
  unfold ai.l509
  refine bind_ex (ldSl_of (w0.ld (i:=0) rfl rfl)) ?_
  refine bif_ex (fun hb=>?_) (fun hb=>?_)
  ·replace hp:=bif_t hb hp
   obtain ⟨w1,s1⟩:=w0.pick' [3,4,0,1,2,5,6,7] 8 rfl rfl rfl
   dsimp only [pk,pks,nth,List.drop] at w1 s1
   have f2:=W.borrow1 (eInt .i64) w1 (DB.step s1)
   obtain ⟨w2,s2⟩:=w1.right1
   have f3:=W.borrow1 (eInt .i64) w2 ((DC.step s1).step s2)
   obtain ⟨w3,s3⟩:=w2.right1
   obtain ⟨r4,e4,hp⟩:=bind_some' hp
   refine call_ex (bC.P rfl rfl ⟨w3,(f2.step s3),f3⟩ e4) ?_
   rintro _ H5 ⟨rfl,w5,s5,_⟩
   obtain ⟨w6,s6⟩:=W.frame1 w2 w5 s5
   obtain ⟨w7,s7⟩:=W.frame1 w1 w6 s6
   refine bind_ex rfl ?_
   obtain ⟨n8,g8,hp⟩:=bind_some' hp
   obtain ⟨p8,q8,i8,h8,j8⟩:=W.ixo (E:=(eInt .i64)) w7 (i:=0) rfl rfl (DB.step (s1.trans s7)) g8
   refine bind_ex i8 ?_
   have h8:_ = [_]:=h8
   subst h8
   refine bind_ex (ldI_of (j8 0 _ rfl)) ?_
   obtain ⟨n9,g9,hp⟩:=bind_some' hp
   obtain ⟨p9,q9,i9,h9,j9⟩:=W.ixo (E:=(eInt .i64)) w7 (i:=1) rfl rfl (DC.step (s1.trans s7)) g9
   refine bind_ex i9 ?_
   have h9:_ = [_]:=h9
   subst h9
   refine bind_ex (ldI_of (j9 0 _ rfl)) ?_
   refine bif_ex (fun hb=>?_) (fun hb=>?_)
   ·replace hp:=bif_t hb hp
    obtain ⟨w10,s10⟩:=w7.pick' [2,3,4,0,1,5,6,7] 8 rfl rfl rfl
    dsimp only [pk,pks,nth,List.drop] at w10 s10
    exact ai.j13_P (@ih) rfl rfl rfl rfl rfl rfl ⟨w10,(s0.trans (s1.trans (s7.trans s10))),(Uh.step (s1.trans (s7.trans s10))),(Ui.step (s1.trans (s7.trans s10))),(DB.step (s1.trans (s7.trans s10))),(DC.step (s1.trans (s7.trans s10))),(Uj.step (s1.trans (s7.trans s10))),(KG.step (s1.trans (s7.trans s10)))⟩ hp
   ·replace hp:=bif_f hb hp
    obtain ⟨w11,s11⟩:=w7.pick' [2,3,4,0,1,5,6,7] 8 rfl rfl rfl
    dsimp only [pk,pks,nth,List.drop] at w11 s11
    exact ai.j13_P (@ih) rfl rfl rfl rfl rfl rfl ⟨w11,(s0.trans (s1.trans (s7.trans s11))),(Uh.step (s1.trans (s7.trans s11))),(Ui.step (s1.trans (s7.trans s11))),(DB.step (s1.trans (s7.trans s11))),(DC.step (s1.trans (s7.trans s11))),(Uj.step (s1.trans (s7.trans s11))),(KG.step (s1.trans (s7.trans s11)))⟩ hp
  ·replace hp:=bif_f hb hp
   refine bind_ex (ldI_of (w0.ld (i:=7) rfl rfl)) ?_
   refine bind_ex (ldI_of (w0.ld (i:=7) rfl rfl)) ?_
   refine bind_ex (ldSl_of (w0.ld (i:=7) rfl rfl)) ?_
   refine st_k w0 (i:=2) rfl rfl rfl fun H12 w12 s12=>?_
   dsimp only [List.set] at w12 s12
   refine st_k w12 (i:=2) rfl rfl rfl fun H13 w13 s13=>?_
   dsimp only [List.set] at w13 s13
   refine st_k w13 (i:=2) rfl rfl rfl fun H14 w14 s14=>?_
   dsimp only [List.set] at w14 s14
   refine bind_ex (ldI_of (w14.ld (i:=2) rfl rfl)) ?_
   refine bind_ex (ldI_of (w14.ld (i:=2) rfl rfl)) ?_
   refine bind_ex (ldSl_of (w14.ld (i:=2) rfl rfl)) ?_
   obtain ⟨w15,s15⟩:=w14.pick' [6] 8 rfl rfl rfl
   dsimp only [pk,pks,nth,List.drop] at w15 s15
   obtain rfl:=Option.some.inj hp
   exact ⟨_,_,rfl,_,_,_,_,rfl,rfl,w15,(s0.trans (s12.trans (s13.trans (s14.trans s15)))),(KG.step (s12.trans (s13.trans (s14.trans s15))))⟩
def ai.pj14 (F:Nat)  (ri:Int) (wY:List (Int×Int×Int×Int×Int)) (wZ:List Int) (w_:List Int) (xa:List Int) (mx:Int):Option (Int×Int×List Int):=(bG.p F mx mx).bind fun r1=>ai.pl509 F F ri wY wZ w_ xa mx r1.1 r1.2.1 r1.2.2 0
theorem ai.j14_P {F:Nat} {H0:Hp} {Ri R0:List Rs}   {ri agM agN agO mx:Int} {Uk Ul Um Un Uo:ON} {KH Ap KI Aq KJ KK KL:Nat} {Up Uq Ur Us Ut:Cap} {wY:List (Int×Int×Int×Int×Int)} {Uu wZ w_ xa:List Int} {Uv Uw Ux Uy:List AV} {H:Hp} (agP:KH = wY.length) (agQ:KI = Uu.length) (agR:KJ = wZ.length) (agS:KK = w_.length) (agT:KL = xa.length) (h0:Out H0 Ri H (Rs.blk Ap [.sl ⟨Uk,KH,Up⟩,.int .i64 agM] :: Rs.own ⟨Ul,KI,Uq⟩ (eInt .i64).z Uv :: Rs.blk Aq [.int .i64 agN,.int .i64 agO,.sl ⟨Ul,KI,Uq⟩] :: Rs.own ⟨Um,KJ,Ur⟩ (eInt .i64).z Uw :: Rs.own ⟨Un,KK,Us⟩ (eInt .i64).z Ux :: Rs.own ⟨Uo,KL,Ut⟩ (eInt .i64).z Uy :: R0) fun R=>ROs (ePair (eInt .i64) (ePair (eInt .i64) (ePair (eInt .i64) (ePair (eInt .i64) (eInt .i64))))) H R ⟨Uk,KH,Up⟩ wY∧CR (eInt .i64) H R Uv Uu∧CR (eInt .i64) H R Uw wZ∧CR (eInt .i64) H R Ux w_∧CR (eInt .i64) H R Uy xa) {r:Int×Int×List Int} (hp:ai.pj14 F  ri wY wZ w_ xa mx = some r):∃ v H',ai.j14 F (aw.tw F) (ac.tw F) (bG.tw F) (bC.tw F)  ri Ap 0 Aq 0 ⟨Um,KJ,Ur⟩ ⟨Un,KK,Us⟩ ⟨Uo,KL,Ut⟩ mx H = some (v,H')∧ai.Q H0 Ri R0  r v H':=by
 obtain ⟨w0,s0,agU,agV,agW,agX,agY⟩:=h0
 subst agP
 subst agQ
 subst agR
 subst agS
 subst agT
 unfold ai.pj14 at hp
 unfold ai.j14
 obtain ⟨r1,e1,hp⟩:=bind_some' hp
 refine call_ex (bG.P ⟨w0,trivial⟩ e1) ?_
 rintro _ H2 ⟨o2a_2,o2n_2,o2k_2,rfl,rfl,w2,s2,f2_0⟩
 refine bind_ex rfl ?_
 refine bind_ex rfl ?_
 refine bind_ex rfl ?_
 refine bind_ex rfl ?_
 refine bind_ex rfl ?_
 refine bind_ex rfl ?_
 refine bind_ex rfl ?_
 refine new_k w2 fun H3 w3 s3=>?_
 refine st_k w3 (i:=0) rfl rfl rfl fun H4 w4 s4=>?_
 dsimp only [List.set] at w4 s4
 refine st_k w4 (i:=0) rfl rfl rfl fun H5 w5 s5=>?_
 dsimp only [List.set] at w5 s5
 refine st_k w5 (i:=0) rfl rfl rfl fun H6 w6 s6=>?_
 dsimp only [List.set] at w6 s6
 obtain ⟨w7,s7⟩:=w6.pick' [2,3,4,5,6,7,1,0] 8 rfl rfl rfl
 dsimp only [pk,pks,nth,List.drop] at w7 s7
 exact ai.l509_P F rfl rfl rfl rfl rfl rfl ⟨w7,(s0.trans (s2.trans (s3.trans (s4.trans (s5.trans (s6.trans s7)))))),(agU.step (s2.trans (s3.trans (s4.trans (s5.trans (s6.trans s7)))))),(agV.step (s2.trans (s3.trans (s4.trans (s5.trans (s6.trans s7)))))),(agW.step (s2.trans (s3.trans (s4.trans (s5.trans (s6.trans s7)))))),(agX.step (s2.trans (s3.trans (s4.trans (s5.trans (s6.trans s7)))))),(agY.step (s2.trans (s3.trans (s4.trans (s5.trans (s6.trans s7)))))),(f2_0.step (s3.trans (s4.trans (s5.trans (s6.trans s7)))))⟩ hp
def ai.pl125 (F:Nat) :Nat→Int→List (Int×Int×Int×Int×Int)→List Int→List Int→List Int→Int→Int→Option (Int×Int×List Int)
 | 0,_,_,_,_,_,_,_=>none
 | k + 1,du,nr,iQ,kZ,ns,ev,fO=>(bif (decide (fO < (kZ.length:Int))) then ((ix kZ fO).bind fun n1=>(bif ((gt kZ n1) == du) then ((apn ns ([(-2)]:List Int)).bind fun l3=>ai.pj15 F (ai.pl125 F k) du nr iQ kZ l3 ev fO) else ((apn ns ([ev]:List Int)).bind fun l7=>ai.pj15 F (ai.pl125 F k) du nr iQ kZ l7 (IntKind.i64.wrap (ev + 1)) fO))) else (ai.pj14 F du nr iQ kZ ns ev))
termination_by structural n=>n
theorem ai.l125_P {F:Nat} {H0:Hp} {Ri R0:List Rs}  :∀ k,ai.S125 H0 Ri R0  (ai.l125 F (aw.tw F) (ac.tw F) (bG.tw F) (bC.tw F)  k) (ai.pl125 F  k):=by
 intro k
 induction k with
 | zero=>
  intro du JE JF JG ev fO CQ CS np CT CU wm fN wo gB lZ wp wq CV CW nq CX CY nr CZ iQ kZ ns C_ nu Da Db H Uz UA xb UB UC h0 r hp
  exact nomatch (show (none:Option (Int×Int×List Int)) = some r from hp)
 | succ k ih=>
  intro du JE JF JG ev fO CQ CS np CT CU wm fN wo gB lZ wp wq CV CW nq CX CY nr CZ iQ kZ ns C_ nu Da Db H Uz UA xb UB UC h0 r hp
  obtain ⟨w0,s0,KM,KN,tO,DD,KO⟩:=h0
  subst Uz
  subst UA
  subst xb
  subst UB
  subst UC
  unfold ai.pl125 at hp
  unfold ai.l125
  refine bif_ex (fun hb=>?_) (fun hb=>?_)
  ·replace hp:=bif_t hb hp
   obtain ⟨n1,g1,hp⟩:=bind_some' hp
   obtain ⟨p1,q1,i1,h1,j1⟩:=W.ixo (E:=(eInt .i64)) w0 (i:=4) rfl rfl DD g1
   refine bind_ex i1 ?_
   have h1:_ = [_]:=h1
   subst h1
   refine bind_ex (ldI_of (j1 0 _ rfl)) ?_
   refine bif_ex (fun hb=>?_) (fun hb=>?_)
   ·replace hp:=bif_t hb hp
    refine newS_k (eInt .i64) w0 (n:=1) (l:=([(-2)]:List Int)) rfl (CR.cons1 rfl CR.empty) rfl fun H2 w2 s2 c2=>?_
    refine bind_ex (w2.rowo (i:=0) rfl) ?_
    obtain ⟨l3,e3,hp⟩:=bind_some' hp
    refine app_k (eInt .i64) w2 (i:=6) rfl rfl (KO.step s2) c2 (show 1 = List.length ([(-2)]:List Int) from rfl) rfl e3 fun a4 d4 H4 w4 s4 c4 x4=>?_
    dsimp only [List.set] at w4 s4 c4
    obtain ⟨w5,s5⟩:=w4.pick' [1,2,3,4,5,6] 7 rfl rfl rfl
    dsimp only [pk,pks,nth,List.drop] at w5 s5
    exact ai.j15_P (@ih) rfl rfl rfl rfl rfl ⟨w5,(s0.trans (s2.trans (s4.trans s5))),(KM.step (s2.trans (s4.trans s5))),(KN.step (s2.trans (s4.trans s5))),(tO.step (s2.trans (s4.trans s5))),(DD.step (s2.trans (s4.trans s5))),(c4.step s5)⟩ hp
   ·replace hp:=bif_f hb hp
    refine newS_k (eInt .i64) w0 (n:=1) (l:=([ev]:List Int)) rfl (CR.cons1 rfl CR.empty) rfl fun H6 w6 s6 c6=>?_
    refine bind_ex (w6.rowo (i:=0) rfl) ?_
    obtain ⟨l7,e7,hp⟩:=bind_some' hp
    refine app_k (eInt .i64) w6 (i:=6) rfl rfl (KO.step s6) c6 (show 1 = List.length ([ev]:List Int) from rfl) rfl e7 fun a8 d8 H8 w8 s8 c8 x8=>?_
    dsimp only [List.set] at w8 s8 c8
    obtain ⟨w9,s9⟩:=w8.pick' [1,2,3,4,5,6] 7 rfl rfl rfl
    dsimp only [pk,pks,nth,List.drop] at w9 s9
    exact ai.j15_P (@ih) rfl rfl rfl rfl rfl ⟨w9,(s0.trans (s6.trans (s8.trans s9))),(KM.step (s6.trans (s8.trans s9))),(KN.step (s6.trans (s8.trans s9))),(tO.step (s6.trans (s8.trans s9))),(DD.step (s6.trans (s8.trans s9))),(c8.step s9)⟩ hp
  ·replace hp:=bif_f hb hp
   exact ai.j14_P rfl rfl rfl rfl rfl ⟨w0,s0,KM,KN,tO,DD,KO⟩ hp
def ai.p (F:Nat) (af:List (Int×Int×Int×Int×Int)) (au:Int):Option (Int×Int×List Int):=(aw.p F af).bind fun r3=>(ac.p F af).bind fun r6=>ai.pl125 F F au af r3 r6 ([]:List Int) (-1) 0
theorem ai.P {F:Nat} {aF:ON} {ay:Nat} {aG:Cap} {af:List (Int×Int×Int×Int×Int)} {ab au:Int} {H:Hp} {R0:List Rs} (bm:ay = af.length) (h0:Inn H R0 fun R=>ROs (ePair (eInt .i64) (ePair (eInt .i64) (ePair (eInt .i64) (ePair (eInt .i64) (eInt .i64))))) H R ⟨aF,ay,aG⟩ af) {r:Int×Int×List Int} (hp:ai.p F af au = some r):∃ v H',ai.tw F ⟨aF,ay,aG⟩ ab au H = some (v,H')∧ai.Q H R0 R0  r v H':=by
 obtain ⟨w0,aS⟩:=h0
 subst bm
 unfold ai.p at hp
 unfold ai.tw ai.twX
 have s0:=w0.rf
 refine new_k w0 fun H1 w1 s1=>?_
 refine new_k w1 fun H2 w2 s2=>?_
 refine bind_ex (ldSl_of (w2.ld (i:=1) rfl rfl)) ?_
 refine bind_ex (ldI_of (w2.ld (i:=1) rfl rfl)) ?_
 obtain ⟨r3,e3,hp⟩:=bind_some' hp
 refine call_ex (aw.P rfl ⟨w2,(aS.step (s1.trans s2))⟩ e3) ?_
 rintro _ H4 ⟨o0a_4,o0n_4,o0c_4,o0k_4,rfl,rfl,w4,s4,f4_0⟩
 refine bind_ex rfl ?_
 refine ifs_ex (W.cons_of (Rn:=[_]) w2 w4 s4) ?_
 refine bind_ex (ldSl_of (w4.ld (i:=2) rfl rfl)) ?_
 refine bind_ex (ldI_of (w4.ld (i:=2) rfl rfl)) ?_
 obtain ⟨r6,e6,hp⟩:=bind_some' hp
 refine call_ex (ac.P rfl ⟨w4,(aS.step (s1.trans (s2.trans s4)))⟩ e6) ?_
 rintro _ H7 ⟨o0a_7,o0n_7,o0c_7,o0k_7,rfl,rfl,w7,s7,f7_0⟩
 refine bind_ex rfl ?_
 refine newS_k (eInt .i64) w7 (n:=0) (l:=([]:List Int)) rfl CR.empty rfl fun H8 w8 s8 c8=>?_
 obtain ⟨w9,s9⟩:=w8.nilS (eInt .i64).z (by decide)
 obtain ⟨w10,s10⟩:=w9.pick' [5,0,4,3,2,1] 6 rfl rfl rfl
 dsimp only [pk,pks,nth,List.drop] at w10 s10
 exact ai.l125_P F rfl rfl rfl rfl (show 0 = List.length ([]:List Int) from rfl) ⟨w10,(s0.trans (s1.trans (s2.trans (s4.trans (s7.trans (s8.trans (s9.trans s10))))))),(aS.step (s1.trans (s2.trans (s4.trans (s7.trans (s8.trans (s9.trans s10))))))),((CR.empty:CR (eInt .i64) _ _ [] []).step s10),(f4_0.step (s7.trans (s8.trans (s9.trans s10)))),(f7_0.step (s8.trans (s9.trans s10))),(c8.step (s9.trans s10))⟩ hp
def a_.Q (H0:Hp) (Ri R0:List Rs)  (r:Int) (v:AV) (H':Hp):Prop:=v = (.int .i64 r)∧Out H0 Ri H' (R0) fun R=>True
def a_.p (F:Nat) (ab:Int) (fa:List Int) (aB:Int) (aV:Int):Option (Int):=(ix fa (IntKind.i64.wrap ((IntKind.i64.wrap (aB * ab)) + aV))).bind fun n2=>some (gt fa n2)
theorem a_.P {F:Nat} {aa ab aB aV:Int} {iq:ON} {eG:Nat} {ir:Cap} {fa:List Int} {H:Hp} {R0:List Rs} (pP:eG = fa.length) (h0:Inn H R0 fun R=>ROs (eInt .i64) H R ⟨iq,eG,ir⟩ fa) {r:Int} (hp:a_.p F ab fa aB aV = some r):∃ v H',a_.tw F aa ab ⟨iq,eG,ir⟩ aB aV H = some (v,H')∧a_.Q H R0 R0  r v H':=by
 obtain ⟨w0,pQ⟩:=h0
 subst pP
 unfold a_.p at hp
 unfold a_.tw a_.twX
 have s0:=w0.rf
 refine new_k w0 fun H1 w1 s1=>?_
 refine bind_ex (ldSl_of (w1.ld (i:=0) rfl rfl)) ?_
 refine bind_ex (ldI_of (w1.ld (i:=0) rfl rfl)) ?_
 obtain ⟨n2,g2,hp⟩:=bind_some' hp
 obtain ⟨p2,q2,i2,h2,j2⟩:=ROs.ixr (pQ.step s1) rfl g2
 refine bind_ex i2 ?_
 have h2:_ = [_]:=h2
 subst h2
 refine bind_ex (ldI_of (j2 0 _ rfl)) ?_
 obtain ⟨w3,s3⟩:=w1.pick' [] 1 rfl rfl rfl
 dsimp only [pk,pks,nth,List.drop] at w3 s3
 obtain rfl:=Option.some.inj hp
 exact ⟨_,_,rfl,rfl,w3,(s0.trans (s1.trans s3)),trivial⟩
def aY.Q (H0:Hp) (Ri R0:List Rs) (iq:ON) (eG:Nat) (ir:Cap) (mc:Bool) (md mf:List AV) (r:List Int) (v:AV) (H':Hp):Prop:=∃ xc:List AV,v = (.tup [])∧eG = (r).length∧Out H0 Ri H' (Rs.ow mc ⟨iq,eG,ir⟩ (eInt .i64).z md xc mf :: R0) fun R=>CR (eInt .i64) H' R xc (r)
def aY.S7 (H0:Hp) (Ri R0:List Rs) (bs:ON) (aZ:Nat) (bt:Cap) (bM:Bool) (bN bO:List AV) (C:Int→Int→Nat→Nat→Int→Hp→OA) (pC:Int→Int→Int→List Int→Int→Option (List Int)):Prop:=∀ {bQ fP KP mg ed:Int} {mh:List Int} {DE:List AV} {bp:Nat},∀ {H:Hp},aZ = mh.length→(Out H0 Ri H (Rs.ow bM ⟨bs,aZ,bt⟩ (eInt .i64).z bN DE bO :: Rs.blk bp [.int .i64 KP,.int .i64 mg,.sl ⟨bs,aZ,bt⟩] :: R0) fun R=>CR (eInt .i64) H R DE mh)→∀ {r:List Int},pC bQ fP mg mh ed = some r→∃ v H',C bQ fP bp 0 ed H = some (v,H')∧aY.Q H0 Ri R0 bs aZ bt bM bN bO r v H'
def aY.pl7 (F:Nat) :Nat→Int→Int→Int→List Int→Int→Option (List Int)
 | 0,_,_,_,_,_=>none
 | k + 1,bQ,fP,mg,mh,ed=>(bif (decide (ed < mg)) then ((a_.p F mg mh bQ ed).bind fun r2=>(a_.p F mg mh fP ed).bind fun r6=>(ix mh (IntKind.i64.wrap ((IntKind.i64.wrap (bQ * mg)) + ed))).bind fun n10=>(some (mh.set n10 r6)).bind fun l11=>(ix l11 (IntKind.i64.wrap ((IntKind.i64.wrap (fP * mg)) + ed))).bind fun n13=>(some (l11.set n13 r2)).bind fun l14=>aY.pl7 F k bQ fP mg l14 (IntKind.i64.wrap (ed + 1))) else (some mh))
termination_by structural n=>n
theorem aY.l7_P {F:Nat} {H0:Hp} {Ri R0:List Rs} {bs:ON} {aZ:Nat} {bt:Cap} {bM:Bool} {bN bO:List AV} :∀ k,aY.S7 H0 Ri R0 bs aZ bt bM bN bO (aY.l7 F (a_.tw F)  k) (aY.pl7 F  k):=by
 intro k
 induction k with
 | zero=>
  intro bQ fP KP mg ed mh DE bp H UD h0 r hp
  exact nomatch (show (none:Option (List Int)) = some r from hp)
 | succ k ih=>
  intro bQ fP KP mg ed mh DE bp H UD h0 r hp
  obtain ⟨w0,s0,xd⟩:=h0
  subst UD
  unfold aY.pl7 at hp
  unfold aY.l7
  refine bind_ex (ldI_of (w0.ld (i:=1) rfl rfl)) ?_
  refine bif_ex (fun hb=>?_) (fun hb=>?_)
  ·replace hp:=bif_t hb hp
   refine bind_ex (ldI_of (w0.ld (i:=1) rfl rfl)) ?_
   refine bind_ex (ldI_of (w0.ld (i:=1) rfl rfl)) ?_
   refine bind_ex (ldSl_of (w0.ld (i:=1) rfl rfl)) ?_
   have f1:=W.borrow1 (eInt .i64) w0 xd
   obtain ⟨w1,s1⟩:=w0.right1
   obtain ⟨r2,e2,hp⟩:=bind_some' hp
   refine call_ex (a_.P rfl ⟨w1,f1⟩ e2) ?_
   rintro _ H3 ⟨rfl,w3,s3,_⟩
   obtain ⟨w4,s4⟩:=W.frame1 w0 w3 s3
   refine bind_ex rfl ?_
   refine bind_ex (ldSl_of (w4.ld (i:=1) rfl rfl)) ?_
   refine bind_ex (ldI_of (w4.ld (i:=1) rfl rfl)) ?_
   refine bind_ex (ldI_of (w4.ld (i:=1) rfl rfl)) ?_
   refine bind_ex (ldI_of (w4.ld (i:=1) rfl rfl)) ?_
   refine bind_ex (ldSl_of (w4.ld (i:=1) rfl rfl)) ?_
   have f5:=W.borrow1 (eInt .i64) w4 (xd.step s4)
   obtain ⟨w5,s5⟩:=w4.right1
   obtain ⟨r6,e6,hp⟩:=bind_some' hp
   refine call_ex (a_.P rfl ⟨w5,f5⟩ e6) ?_
   rintro _ H7 ⟨rfl,w7,s7,_⟩
   obtain ⟨w8,s8⟩:=W.frame1 w4 w7 s7
   refine bind_ex rfl ?_
   refine ifs_ex (W.cons_of (Rn:=[]) w5 w7 s7) ?_
   obtain ⟨n10,g10,hp⟩:=bind_some' hp
   obtain ⟨p10,q10,i10,h10,j10⟩:=W.ixo (E:=(eInt .i64)) w8 (i:=0) rfl rfl (xd.step (s4.trans s8)) g10
   refine bind_ex i10 ?_
   obtain ⟨l11,e11,hp⟩:=bind_some' hp
   refine sto_k (eInt .i64) w8 (i:=0) (j:=0) (p:=p10) rfl rfl (xd.step (s4.trans s8)) g10 i10 e11 rfl rfl (fun _ h=>by have h:_ = [_]:=h; subst h; exact rfl) fun H12 k12 w12 s12 c12=>?_
   dsimp only [List.set] at w12 s12 c12
   refine bind_ex (ldSl_of (w12.ld (i:=1) rfl rfl)) ?_
   refine bind_ex (ldI_of (w12.ld (i:=1) rfl rfl)) ?_
   obtain ⟨n13,g13,hp⟩:=bind_some' hp
   obtain ⟨p13,q13,i13,h13,j13⟩:=W.ixo (E:=(eInt .i64)) w12 (i:=0) rfl rfl c12 g13
   refine bind_ex i13 ?_
   obtain ⟨l14,e14,hp⟩:=bind_some' hp
   refine sto_k (eInt .i64) w12 (i:=0) (j:=0) (p:=p13) rfl rfl c12 g13 i13 e14 rfl rfl (fun _ h=>by have h:_ = [_]:=h; subst h; exact rfl) fun H15 k15 w15 s15 c15=>?_
   dsimp only [List.set] at w15 s15 c15
   exact ih ((st_len e11).symm.trans (st_len e14).symm) ⟨w15,(s0.trans (s4.trans (s8.trans (s12.trans s15)))),c15⟩ hp
  ·replace hp:=bif_f hb hp
   obtain ⟨w16,s16⟩:=w0.pick' [0] 2 rfl rfl rfl
   dsimp only [pk,pks,nth,List.drop] at w16 s16
   obtain rfl:=Option.some.inj hp
   exact ⟨_,_,rfl,_,rfl,rfl,w16,(s0.trans s16),(xd.step s16)⟩
def aY.p (F:Nat) (ab:Int) (fa:List Int) (aB:Int) (aV:Int):Option (List Int):=aY.pl7 F F aB aV ab fa 0
theorem aY.P {F:Nat} {aa ab aB aV:Int} {iq:ON} {eG:Nat} {ir:Cap} {fa:List Int} {mc:Bool} {md mf pR:List AV} {H:Hp} {R0:List Rs} (pP:eG = fa.length) (h0:Inn H (Rs.ow mc ⟨iq,eG,ir⟩ (eInt .i64).z md pR mf :: R0) fun R=>CR (eInt .i64) H R pR fa) {r:List Int} (hp:aY.p F ab fa aB aV = some r):∃ v H',aY.tw F aa ab ⟨iq,eG,ir⟩ aB aV H = some (v,H')∧aY.Q H (Rs.ow mc ⟨iq,eG,ir⟩ (eInt .i64).z md pR mf :: R0) R0 iq eG ir mc md mf r v H':=by
 obtain ⟨w0,pQ⟩:=h0
 subst pP
 unfold aY.p at hp
 unfold aY.tw aY.twX
 have s0:=w0.rf
 refine new_k w0 fun H1 w1 s1=>?_
 obtain ⟨w2,s2⟩:=w1.pick' [1,0] 2 rfl rfl rfl
 dsimp only [pk,pks,nth,List.drop] at w2 s2
 exact aY.l7_P F rfl ⟨w2,(s0.trans (s1.trans s2)),(pQ.step (s1.trans s2))⟩ hp
def ah.Q (H0:Hp) (Ri R0:List Rs)  (r:Int) (v:AV) (H':Hp):Prop:=v = (.int .i64 r)∧Out H0 Ri H' (R0) fun R=>True
def ah.S125 (H0:Hp) (Ri R0:List Rs)  (C:Int→Nat→Nat→Int→Int→Int→Hp→OA) (pC:Int→Int→List Int→Int→Int→Int→Option (Int)):Prop:=∀ {cT KQ tP gV hP gW:Int} {DF:ON} {xe da:Nat} {DH:Cap} {pS:List Int} {DJ:List AV},∀ {H:Hp},xe = pS.length→(Out H0 Ri H (Rs.own ⟨DF,xe,DH⟩ (eInt .i64).z DJ :: Rs.blk da [.int .i64 KQ,.int .i64 tP,.sl ⟨DF,xe,DH⟩] :: R0) fun R=>CR (eInt .i64) H R DJ pS)→∀ {r:Int},pC cT tP pS gV hP gW = some r→∃ v H',C cT da 0 gV hP gW H = some (v,H')∧ah.Q H0 Ri R0  r v H'
def ah.S4010 (H0:Hp) (Ri R0:List Rs)  (C:Int→Nat→Nat→Int→Int→Int→Int→Hp→OA) (pC:Int→Int→List Int→Int→Int→Int→Int→Option (Int)):Prop:=∀ {dV KR ny fk fR fm eO:Int} {DK:ON} {xf fj:Nat} {DL:Cap} {mM:List Int} {DM:List AV},∀ {H:Hp},xf = mM.length→(Out H0 Ri H (Rs.own ⟨DK,xf,DL⟩ (eInt .i64).z DM :: Rs.blk fj [.int .i64 KR,.int .i64 ny,.sl ⟨DK,xf,DL⟩] :: R0) fun R=>CR (eInt .i64) H R DM mM)→∀ {r:Int},pC dV ny mM fk fR fm eO = some r→∃ v H',C dV fj 0 fk fR fm eO H = some (v,H')∧ah.Q H0 Ri R0  r v H'
def ah.S64189 (H0:Hp) (Ri R0:List Rs)  (C:Int→Nat→Nat→Int→Int→Int→Int→Hp→OA) (pC:Int→Int→List Int→Int→Int→Int→Int→Option (Int)):Prop:=∀ {ez KS pT gC iD gD iE:Int} {DN:ON} {xg hO:Nat} {DO:Cap} {oX:List Int} {DP:List AV},∀ {H:Hp},xg = oX.length→(Out H0 Ri H (Rs.own ⟨DN,xg,DO⟩ (eInt .i64).z DP :: Rs.blk hO [.int .i64 KS,.int .i64 pT,.sl ⟨DN,xg,DO⟩] :: R0) fun R=>CR (eInt .i64) H R DP oX)→∀ {r:Int},pC ez pT oX gC iD gD iE = some r→∃ v H',C ez hO 0 gC iD gD iE H = some (v,H')∧ah.Q H0 Ri R0  r v H'
def ah.S1027029 (H0:Hp) (Ri R0:List Rs)  (C:Int→Nat→Nat→Int→Int→Int→Int→Int→Hp→OA) (pC:Int→Int→List Int→Int→Int→Int→Int→Int→Option (Int)):Prop:=∀ {dA KT mi fQ ew dC ey eN:Int} {DQ:ON} {xh df:Nat} {DR:Cap} {kB:List Int} {DT:List AV},∀ {H:Hp},xh = kB.length→(Out H0 Ri H (Rs.own ⟨DQ,xh,DR⟩ (eInt .i64).z DT :: Rs.blk df [.int .i64 KT,.int .i64 mi,.sl ⟨DQ,xh,DR⟩] :: R0) fun R=>CR (eInt .i64) H R DT kB)→∀ {r:Int},pC dA mi kB fQ ew dC ey eN = some r→∃ v H',C dA df 0 fQ ew dC ey eN H = some (v,H')∧ah.Q H0 Ri R0  r v H'
def ah.pj14 (F:Nat) (jI:Int→Int→List Int→Int→Int→Int→Int→Option (Int)) (rv:Int) (DU:Int) (xi:List Int) (rx:Int) (ry:Int) (rz:Int) (rA:Int):Option (Int):=jI rv DU xi rx ry rz (IntKind.i64.wrap (rA + 1))
theorem ah.j14_P {F:Nat} {H0:Hp} {Ri R0:List Rs}  {C64189_:Int→Nat→Nat→Int→Int→Int→Int→Hp→OA} {jI:Int→Int→List Int→Int→Int→Int→Int→Option (Int)} (hC64189:ah.S64189 H0 Ri R0  C64189_ jI) {rv agZ DU rx ry rz rA:Int} {UE:ON} {KU Aw:Nat} {UG:Cap} {xi:List Int} {UH:List AV} {H:Hp} (ag0:KU = xi.length) (h0:Out H0 Ri H (Rs.own ⟨UE,KU,UG⟩ (eInt .i64).z UH :: Rs.blk Aw [.int .i64 agZ,.int .i64 DU,.sl ⟨UE,KU,UG⟩] :: R0) fun R=>CR (eInt .i64) H R UH xi) {r:Int} (hp:ah.pj14 F jI rv DU xi rx ry rz rA = some r):∃ v H',ah.j14 F (a_.tw F) (aY.tw F) C64189_ rv Aw 0 rx ry rz rA H = some (v,H')∧ah.Q H0 Ri R0  r v H':=by
 obtain ⟨w0,s0,ag2⟩:=h0
 subst ag0
 unfold ah.pj14 at hp
 unfold ah.j14
 exact hC64189 rfl ⟨w0,s0,ag2⟩ hp
def ah.pj15 (F:Nat) (jI:Int→Int→List Int→Int→Int→Int→Int→Option (Int)) (rB:Int) (DV:Int) (xj:List Int) (rC:Int) (rD:Int) (rE:Int) (rF:Int):Option (Int):=ah.pj14 F jI rB DV xj rC rD rE rF
theorem ah.j15_P {F:Nat} {H0:Hp} {Ri R0:List Rs}  {C64189_:Int→Nat→Nat→Int→Int→Int→Int→Hp→OA} {jI:Int→Int→List Int→Int→Int→Int→Int→Option (Int)} (hC64189:ah.S64189 H0 Ri R0  C64189_ jI) {rB ag3 DV rC rD rE rF:Int} {UI:ON} {KV Ax:Nat} {UJ:Cap} {xj:List Int} {UK:List AV} {H:Hp} (ag4:KV = xj.length) (h0:Out H0 Ri H (Rs.own ⟨UI,KV,UJ⟩ (eInt .i64).z UK :: Rs.blk Ax [.int .i64 ag3,.int .i64 DV,.sl ⟨UI,KV,UJ⟩] :: R0) fun R=>CR (eInt .i64) H R UK xj) {r:Int} (hp:ah.pj15 F jI rB DV xj rC rD rE rF = some r):∃ v H',ah.j15 F (a_.tw F) (aY.tw F) C64189_ rB Ax 0 rC rD rE rF H = some (v,H')∧ah.Q H0 Ri R0  r v H':=by
 obtain ⟨w0,s0,ag5⟩:=h0
 subst ag4
 unfold ah.pj15 at hp
 unfold ah.j15
 exact ah.j14_P (@hC64189) rfl ⟨w0,s0,ag5⟩ hp
def ah.pl1027029 (F:Nat) (cF:Int→Int→List Int→Int→Int→Int→Option (Int)) (jI:Int→Int→List Int→Int→Int→Int→Int→Option (Int)):Nat→Int→Int→List Int→Int→Int→Int→Int→Int→Option (Int)
 | 0,_,_,_,_,_,_,_,_=>none
 | k + 1,dA,mi,kB,fQ,ew,dC,ey,eN=>(bif (decide (eN < dA)) then ((a_.p F mi kB ey eN).bind fun r2=>(a_.p F mi kB dC dC).bind fun r7=>(a_.p F mi kB ey dC).bind fun r12=>(a_.p F mi kB dC eN).bind fun r17=>(if ew = 0 then none else ((ix kB (IntKind.i64.wrap ((IntKind.i64.wrap (ey * dA)) + eN))).bind fun n22=>(some (kB.set n22 (IntKind.i64.wrap (Int.tdiv (IntKind.i64.wrap ((IntKind.i64.wrap (r2 * r7)) - (IntKind.i64.wrap (r12 * r17)))) ew)))).bind fun l23=>ah.pl1027029 F cF jI k dA mi l23 fQ ew dC ey (IntKind.i64.wrap (eN + 1))))) else (ah.pj15 F jI dA mi kB fQ ew dC ey))
termination_by structural n=>n
theorem ah.l1027029_P {F:Nat} {H0:Hp} {Ri R0:List Rs}  {C125_:Int→Nat→Nat→Int→Int→Int→Hp→OA} {cF:Int→Int→List Int→Int→Int→Int→Option (Int)} (hC125:ah.S125 H0 Ri R0  C125_ cF) {C64189_:Int→Nat→Nat→Int→Int→Int→Int→Hp→OA} {jI:Int→Int→List Int→Int→Int→Int→Int→Option (Int)} (hC64189:ah.S64189 H0 Ri R0  C64189_ jI):∀ k,ah.S1027029 H0 Ri R0  (ah.l1027029 F (a_.tw F) (aY.tw F) C125_ C64189_ k) (ah.pl1027029 F cF jI k):=by
 intro k
 induction k with
 | zero=>
  intro dA KT mi fQ ew dC ey eN DQ xh df DR kB DT H UL h0 r hp
  exact nomatch (show (none:Option (Int)) = some r from hp)
 | succ k ih=>
  intro dA KT mi fQ ew dC ey eN DQ xh df DR kB DT H UL h0 r hp
  obtain ⟨w0,s0,pU⟩:=h0
  subst UL
  unfold ah.pl1027029 at hp
  unfold ah.l1027029
  refine bif_ex (fun hb=>?_) (fun hb=>?_)
  ·replace hp:=bif_t hb hp
   refine bind_ex (ldSl_of (w0.ld (i:=1) rfl rfl)) ?_
   refine bind_ex (ldI_of (w0.ld (i:=1) rfl rfl)) ?_
   refine bind_ex (ldI_of (w0.ld (i:=1) rfl rfl)) ?_
   refine bind_ex (ldSl_of (w0.ld (i:=1) rfl rfl)) ?_
   have f1:=W.borrow1 (eInt .i64) w0 pU
   obtain ⟨w1,s1⟩:=w0.right1
   obtain ⟨r2,e2,hp⟩:=bind_some' hp
   refine call_ex (a_.P rfl ⟨w1,f1⟩ e2) ?_
   rintro _ H3 ⟨rfl,w3,s3,_⟩
   obtain ⟨w4,s4⟩:=W.frame1 w0 w3 s3
   refine bind_ex rfl ?_
   refine ifs_ex (W.cons_of (Rn:=[]) w1 w3 s3) ?_
   refine bind_ex (ldI_of (w4.ld (i:=1) rfl rfl)) ?_
   refine bind_ex (ldI_of (w4.ld (i:=1) rfl rfl)) ?_
   refine bind_ex (ldSl_of (w4.ld (i:=1) rfl rfl)) ?_
   have f6:=W.borrow1 (eInt .i64) w4 (pU.step s4)
   obtain ⟨w6,s6⟩:=w4.right1
   obtain ⟨r7,e7,hp⟩:=bind_some' hp
   refine call_ex (a_.P rfl ⟨w6,f6⟩ e7) ?_
   rintro _ H8 ⟨rfl,w8,s8,_⟩
   obtain ⟨w9,s9⟩:=W.frame1 w4 w8 s8
   refine bind_ex rfl ?_
   refine ifs_ex (W.cons_of (Rn:=[]) w6 w8 s8) ?_
   refine bind_ex (ldI_of (w9.ld (i:=1) rfl rfl)) ?_
   refine bind_ex (ldI_of (w9.ld (i:=1) rfl rfl)) ?_
   refine bind_ex (ldSl_of (w9.ld (i:=1) rfl rfl)) ?_
   have f11:=W.borrow1 (eInt .i64) w9 (pU.step (s4.trans s9))
   obtain ⟨w11,s11⟩:=w9.right1
   obtain ⟨r12,e12,hp⟩:=bind_some' hp
   refine call_ex (a_.P rfl ⟨w11,f11⟩ e12) ?_
   rintro _ H13 ⟨rfl,w13,s13,_⟩
   obtain ⟨w14,s14⟩:=W.frame1 w9 w13 s13
   refine bind_ex rfl ?_
   refine ifs_ex (W.cons_of (Rn:=[]) w11 w13 s13) ?_
   refine bind_ex (ldI_of (w14.ld (i:=1) rfl rfl)) ?_
   refine bind_ex (ldI_of (w14.ld (i:=1) rfl rfl)) ?_
   refine bind_ex (ldSl_of (w14.ld (i:=1) rfl rfl)) ?_
   have f16:=W.borrow1 (eInt .i64) w14 (pU.step (s4.trans (s9.trans s14)))
   obtain ⟨w16,s16⟩:=w14.right1
   obtain ⟨r17,e17,hp⟩:=bind_some' hp
   refine call_ex (a_.P rfl ⟨w16,f16⟩ e17) ?_
   rintro _ H18 ⟨rfl,w18,s18,_⟩
   obtain ⟨w19,s19⟩:=W.frame1 w14 w18 s18
   refine bind_ex rfl ?_
   refine ifs_ex (W.cons_of (Rn:=[]) w16 w18 s18) ?_
   obtain ⟨g21,hp⟩:=ifn_p hp
   refine ifn_ex g21 ?_
   obtain ⟨n22,g22,hp⟩:=bind_some' hp
   obtain ⟨p22,q22,i22,h22,j22⟩:=W.ixo (E:=(eInt .i64)) w19 (i:=0) rfl rfl (pU.step (s4.trans (s9.trans (s14.trans s19)))) g22
   refine bind_ex i22 ?_
   obtain ⟨l23,e23,hp⟩:=bind_some' hp
   refine sto_k (eInt .i64) w19 (i:=0) (j:=0) (p:=p22) rfl rfl (pU.step (s4.trans (s9.trans (s14.trans s19)))) g22 i22 e23 rfl rfl (fun _ h=>by have h:_ = [_]:=h; subst h; exact rfl) fun H24 k24 w24 s24 c24=>?_
   dsimp only [List.set] at w24 s24 c24
   exact ih ((st_len e23).symm) ⟨w24,(s0.trans (s4.trans (s9.trans (s14.trans (s19.trans s24))))),c24⟩ hp
  ·replace hp:=bif_f hb hp
   exact ah.j15_P (@hC64189) rfl ⟨w0,s0,pU⟩ hp
def ah.pj12 (F:Nat) (cF:Int→Int→List Int→Int→Int→Int→Option (Int)) (rp:Int) (DW:Int) (xl:List Int) (rq:Int) (rr:Int) (rs:Int):Option (Int):=cF rp DW xl rq rr (IntKind.i64.wrap (rs + 1))
theorem ah.j12_P {F:Nat} {H0:Hp} {Ri R0:List Rs}  {C125_:Int→Nat→Nat→Int→Int→Int→Hp→OA} {cF:Int→Int→List Int→Int→Int→Int→Option (Int)} (hC125:ah.S125 H0 Ri R0  C125_ cF) {rp ag6 DW rq rr rs:Int} {UM:ON} {KW Au:Nat} {UN:Cap} {xl:List Int} {UO:List AV} {H:Hp} (ag7:KW = xl.length) (h0:Out H0 Ri H (Rs.own ⟨UM,KW,UN⟩ (eInt .i64).z UO :: Rs.blk Au [.int .i64 ag6,.int .i64 DW,.sl ⟨UM,KW,UN⟩] :: R0) fun R=>CR (eInt .i64) H R UO xl) {r:Int} (hp:ah.pj12 F cF rp DW xl rq rr rs = some r):∃ v H',ah.j12 F (a_.tw F) (aY.tw F) C125_ rp Au 0 rq rr rs H = some (v,H')∧ah.Q H0 Ri R0  r v H':=by
 obtain ⟨w0,s0,ag8⟩:=h0
 subst ag7
 unfold ah.pj12 at hp
 unfold ah.j12
 exact hC125 rfl ⟨w0,s0,ag8⟩ hp
def ah.pj13 (F:Nat) (cF:Int→Int→List Int→Int→Int→Int→Option (Int)) (rt:Int) (xm:Int) (tQ:List Int) (ru:Int) (mz:Int):Option (Int):=(a_.p F xm tQ mz mz).bind fun r2=>ah.pj12 F cF rt xm tQ ru r2 mz
theorem ah.j13_P {F:Nat} {H0:Hp} {Ri R0:List Rs}  {C125_:Int→Nat→Nat→Int→Int→Int→Hp→OA} {cF:Int→Int→List Int→Int→Int→Int→Option (Int)} (hC125:ah.S125 H0 Ri R0  C125_ cF) {rt ag9 xm ru mz:Int} {UP:ON} {KX pB:Nat} {UQ:Cap} {tQ:List Int} {UR:List AV} {H:Hp} (ag_:KX = tQ.length) (h0:Out H0 Ri H (Rs.own ⟨UP,KX,UQ⟩ (eInt .i64).z UR :: Rs.blk pB [.int .i64 ag9,.int .i64 xm,.sl ⟨UP,KX,UQ⟩] :: R0) fun R=>CR (eInt .i64) H R UR tQ) {r:Int} (hp:ah.pj13 F cF rt xm tQ ru mz = some r):∃ v H',ah.j13 F (a_.tw F) (aY.tw F) C125_ rt pB 0 ru mz H = some (v,H')∧ah.Q H0 Ri R0  r v H':=by
 obtain ⟨w0,s0,US⟩:=h0
 subst ag_
 unfold ah.pj13 at hp
 unfold ah.j13
 refine bind_ex (ldI_of (w0.ld (i:=1) rfl rfl)) ?_
 refine bind_ex (ldI_of (w0.ld (i:=1) rfl rfl)) ?_
 refine bind_ex (ldSl_of (w0.ld (i:=1) rfl rfl)) ?_
 have f1:=W.borrow1 (eInt .i64) w0 US
 obtain ⟨w1,s1⟩:=w0.right1
 obtain ⟨r2,e2,hp⟩:=bind_some' hp
 refine call_ex (a_.P rfl ⟨w1,f1⟩ e2) ?_
 rintro _ H3 ⟨rfl,w3,s3,_⟩
 obtain ⟨w4,s4⟩:=W.frame1 w0 w3 s3
 refine bind_ex rfl ?_
 exact ah.j12_P (@hC125) rfl ⟨w4,(s0.trans s4),(US.step s4)⟩ hp
def ah.pl64189 (F:Nat) (cF:Int→Int→List Int→Int→Int→Int→Option (Int)):Nat→Int→Int→List Int→Int→Int→Int→Int→Option (Int)
 | 0,_,_,_,_,_,_,_=>none
 | k + 1,ez,pT,oX,gC,iD,gD,iE=>(bif (decide (iE < ez)) then (ah.pl1027029 F cF (ah.pl64189 F cF k) F ez pT oX gC iD gD iE (IntKind.i64.wrap (gD + 1))) else (ah.pj13 F cF ez pT oX gC gD))
termination_by structural n=>n
theorem ah.l64189_P {F:Nat} {H0:Hp} {Ri R0:List Rs}  {C125_:Int→Nat→Nat→Int→Int→Int→Hp→OA} {cF:Int→Int→List Int→Int→Int→Int→Option (Int)} (hC125:ah.S125 H0 Ri R0  C125_ cF):∀ k,ah.S64189 H0 Ri R0  (ah.l64189 F (a_.tw F) (aY.tw F) C125_ k) (ah.pl64189 F cF k):=by
 intro k
 induction k with
 | zero=>
  intro ez KS pT gC iD gD iE DN xg hO DO oX DP H UT h0 r hp
  exact nomatch (show (none:Option (Int)) = some r from hp)
 | succ k ih=>
  intro ez KS pT gC iD gD iE DN xg hO DO oX DP H UT h0 r hp
  obtain ⟨w0,s0,UU⟩:=h0
  subst UT
  unfold ah.pl64189 at hp
  unfold ah.l64189
  refine bif_ex (fun hb=>?_) (fun hb=>?_)
  ·replace hp:=bif_t hb hp
   exact ah.l1027029_P (@hC125) (@ih) F rfl ⟨w0,s0,UU⟩ hp
  ·replace hp:=bif_f hb hp
   exact ah.j13_P (@hC125) rfl ⟨w0,s0,UU⟩ hp
def ah.pj16 (F:Nat) (cF:Int→Int→List Int→Int→Int→Int→Option (Int)) (rG:Int) (DX:Int) (xn:List Int) (rH:Int) (rI:Int) (oh:Int):Option (Int):=ah.pl64189 F cF F rG DX xn rH rI oh (IntKind.i64.wrap (oh + 1))
theorem ah.j16_P {F:Nat} {H0:Hp} {Ri R0:List Rs}  {C125_:Int→Nat→Nat→Int→Int→Int→Hp→OA} {cF:Int→Int→List Int→Int→Int→Int→Option (Int)} (hC125:ah.S125 H0 Ri R0  C125_ cF) {rG aha DX rH rI oh:Int} {UV:ON} {KY Ay:Nat} {UW:Cap} {xn:List Int} {UX:List AV} {H:Hp} (ahb:KY = xn.length) (h0:Out H0 Ri H (Rs.own ⟨UV,KY,UW⟩ (eInt .i64).z UX :: Rs.blk Ay [.int .i64 aha,.int .i64 DX,.sl ⟨UV,KY,UW⟩] :: R0) fun R=>CR (eInt .i64) H R UX xn) {r:Int} (hp:ah.pj16 F cF rG DX xn rH rI oh = some r):∃ v H',ah.j16 F (a_.tw F) (aY.tw F) C125_ rG Ay 0 rH rI oh H = some (v,H')∧ah.Q H0 Ri R0  r v H':=by
 obtain ⟨w0,s0,ahc⟩:=h0
 subst ahb
 unfold ah.pj16 at hp
 unfold ah.j16
 exact ah.l64189_P (@hC125) F rfl ⟨w0,s0,ahc⟩ hp
def ah.pj17 (F:Nat) (cF:Int→Int→List Int→Int→Int→Int→Option (Int)) (mA:Int) (tR:Int) (tS:List Int) (oj:Int) (ol:Int) (kM:Int) (mB:Int):Option (Int):=(bif (mB == mA) then (some 0) else ((bif (mB != kM) then ((aY.p F tR tS mB kM).bind fun r2=>ah.pj16 F cF mA tR r2 (IntKind.i64.wrap (0 - oj)) ol kM) else (ah.pj16 F cF mA tR tS oj ol kM))))
theorem ah.j17_P {F:Nat} {H0:Hp} {Ri R0:List Rs}  {C125_:Int→Nat→Nat→Int→Int→Int→Hp→OA} {cF:Int→Int→List Int→Int→Int→Int→Option (Int)} (hC125:ah.S125 H0 Ri R0  C125_ cF) {mA ahd tR oj ol kM mB:Int} {UY:ON} {KZ oi:Nat} {UZ:Cap} {tS:List Int} {U_:List AV} {H:Hp} (ahe:KZ = tS.length) (h0:Out H0 Ri H (Rs.own ⟨UY,KZ,UZ⟩ (eInt .i64).z U_ :: Rs.blk oi [.int .i64 ahd,.int .i64 tR,.sl ⟨UY,KZ,UZ⟩] :: R0) fun R=>CR (eInt .i64) H R U_ tS) {r:Int} (hp:ah.pj17 F cF mA tR tS oj ol kM mB = some r):∃ v H',ah.j17 F (a_.tw F) (aY.tw F) C125_ mA oi 0 oj ol kM mB H = some (v,H')∧ah.Q H0 Ri R0  r v H':=by
 obtain ⟨w0,s0,Va⟩:=h0
 subst ahe
 unfold ah.pj17 at hp
 unfold ah.j17
 refine bif_ex (fun hb=>?_) (fun hb=>?_)
 ·replace hp:=bif_t hb hp
  obtain ⟨w1,s1⟩:=w0.pick' [] 2 rfl rfl rfl
  dsimp only [pk,pks,nth,List.drop] at w1 s1
  obtain rfl:=Option.some.inj hp
  exact ⟨_,_,rfl,rfl,w1,(s0.trans s1),trivial⟩
 ·replace hp:=bif_f hb hp
  refine bif_ex (fun hb=>?_) (fun hb=>?_)
  ·replace hp:=bif_t hb hp
   refine bind_ex (ldI_of (w0.ld (i:=1) rfl rfl)) ?_
   refine bind_ex (ldI_of (w0.ld (i:=1) rfl rfl)) ?_
   refine bind_ex (ldSl_of (w0.ld (i:=1) rfl rfl)) ?_
   obtain ⟨r2,e2,hp⟩:=bind_some' hp
   refine call_ex (aY.P rfl ⟨w0,Va⟩ e2) ?_
   rintro _ H3 ⟨akc,rfl,hl3_0,w3,s3,f3_0⟩
   exact ah.j16_P (@hC125) hl3_0 ⟨w3,(s0.trans s3),f3_0⟩ hp
  ·replace hp:=bif_f hb hp
   exact ah.j16_P (@hC125) rfl ⟨w0,s0,Va⟩ hp
def ah.pl4010 (F:Nat) (cF:Int→Int→List Int→Int→Int→Int→Option (Int)):Nat→Int→Int→List Int→Int→Int→Int→Int→Option (Int)
 | 0,_,_,_,_,_,_,_=>none
 | k + 1,dV,ny,mM,fk,fR,fm,eO=>(bif (decide (eO < dV)) then ((a_.p F ny mM eO fm).bind fun r2=>(bif (r2 == 0) then (ah.pl4010 F cF k dV ny mM fk fR fm (IntKind.i64.wrap (eO + 1))) else (ah.pj17 F cF dV ny mM fk fR fm eO))) else (ah.pj17 F cF dV ny mM fk fR fm eO))
termination_by structural n=>n
theorem ah.l4010_P {F:Nat} {H0:Hp} {Ri R0:List Rs}  {C125_:Int→Nat→Nat→Int→Int→Int→Hp→OA} {cF:Int→Int→List Int→Int→Int→Int→Option (Int)} (hC125:ah.S125 H0 Ri R0  C125_ cF):∀ k,ah.S4010 H0 Ri R0  (ah.l4010 F (a_.tw F) (aY.tw F) C125_ k) (ah.pl4010 F cF k):=by
 intro k
 induction k with
 | zero=>
  intro dV KR ny fk fR fm eO DK xf fj DL mM DM H Vb h0 r hp
  exact nomatch (show (none:Option (Int)) = some r from hp)
 | succ k ih=>
  intro dV KR ny fk fR fm eO DK xf fj DL mM DM H Vb h0 r hp
  obtain ⟨w0,s0,DY⟩:=h0
  subst Vb
  unfold ah.pl4010 at hp
  unfold ah.l4010
  refine bif_ex (fun hb=>?_) (fun hb=>?_)
  ·replace hp:=bif_t hb hp
   refine bind_ex (ldI_of (w0.ld (i:=1) rfl rfl)) ?_
   refine bind_ex (ldI_of (w0.ld (i:=1) rfl rfl)) ?_
   refine bind_ex (ldSl_of (w0.ld (i:=1) rfl rfl)) ?_
   have f1:=W.borrow1 (eInt .i64) w0 DY
   obtain ⟨w1,s1⟩:=w0.right1
   obtain ⟨r2,e2,hp⟩:=bind_some' hp
   refine call_ex (a_.P rfl ⟨w1,f1⟩ e2) ?_
   rintro _ H3 ⟨rfl,w3,s3,_⟩
   obtain ⟨w4,s4⟩:=W.frame1 w0 w3 s3
   refine bind_ex rfl ?_
   refine bif_ex (fun hb=>?_) (fun hb=>?_)
   ·replace hp:=bif_t hb hp
    exact ih rfl ⟨w4,(s0.trans s4),(DY.step s4)⟩ hp
   ·replace hp:=bif_f hb hp
    exact ah.j17_P (@hC125) rfl ⟨w4,(s0.trans s4),(DY.step s4)⟩ hp
  ·replace hp:=bif_f hb hp
   exact ah.j17_P (@hC125) rfl ⟨w0,s0,DY⟩ hp
def ah.pj9 (F:Nat)  (rn:Int) (ro:Int):Option (Int):=some (IntKind.i64.wrap (rn * ro))
theorem ah.j9_P {F:Nat} {H0:Hp} {Ri R0:List Rs}   {rn ro:Int} {H:Hp}  (h0:Out H0 Ri H R0 fun R=>True) {r:Int} (hp:ah.pj9 F  rn ro = some r):∃ v H',ah.j9 F (a_.tw F) (aY.tw F)  rn ro H = some (v,H')∧ah.Q H0 Ri R0  r v H':=by
 obtain ⟨w0,s0,_⟩:=h0
 unfold ah.pj9 at hp
 unfold ah.j9
 obtain rfl:=Option.some.inj hp
 exact ⟨_,_,rfl,rfl,w0,s0,trivial⟩
def ah.pl125 (F:Nat) :Nat→Int→Int→List Int→Int→Int→Int→Option (Int)
 | 0,_,_,_,_,_,_=>none
 | k + 1,cT,tP,pS,gV,hP,gW=>(bif (decide (gW < cT)) then (ah.pl4010 F (ah.pl125 F k) F cT tP pS gV hP gW gW) else (ah.pj9 F gV hP))
termination_by structural n=>n
theorem ah.l125_P {F:Nat} {H0:Hp} {Ri R0:List Rs}  :∀ k,ah.S125 H0 Ri R0  (ah.l125 F (a_.tw F) (aY.tw F)  k) (ah.pl125 F  k):=by
 intro k
 induction k with
 | zero=>
  intro cT KQ tP gV hP gW DF xe da DH pS DJ H Vc h0 r hp
  exact nomatch (show (none:Option (Int)) = some r from hp)
 | succ k ih=>
  intro cT KQ tP gV hP gW DF xe da DH pS DJ H Vc h0 r hp
  obtain ⟨w0,s0,ahf⟩:=h0
  subst Vc
  unfold ah.pl125 at hp
  unfold ah.l125
  refine bif_ex (fun hb=>?_) (fun hb=>?_)
  ·replace hp:=bif_t hb hp
   exact ah.l4010_P (@ih) F rfl ⟨w0,s0,ahf⟩ hp
  ·replace hp:=bif_f hb hp
   obtain ⟨w1,s1⟩:=w0.pick' [] 2 rfl rfl rfl
   dsimp only [pk,pks,nth,List.drop] at w1 s1
   exact ah.j9_P ⟨w1,(s0.trans s1),trivial⟩ hp
def ah.p (F:Nat) (aa:Int) (fa:List Int):Option (Int):=(apn ([]:List Int) fa).bind fun l4=>ah.pl125 F F aa aa l4 1 1 0
theorem ah.P {F:Nat} {aa ab:Int} {iq:ON} {eG:Nat} {ir:Cap} {fa:List Int} {H:Hp} {R0:List Rs} (pP:eG = fa.length) (h0:Inn H R0 fun R=>ROs (eInt .i64) H R ⟨iq,eG,ir⟩ fa) {r:Int} (hp:ah.p F aa fa = some r):∃ v H',ah.tw F aa ab ⟨iq,eG,ir⟩ H = some (v,H')∧ah.Q H R0 R0  r v H':=by
 obtain ⟨w0,pQ⟩:=h0
 subst pP
 unfold ah.p at hp
 unfold ah.tw ah.twX
 have s0:=w0.rf
 refine new_k w0 fun H1 w1 s1=>?_
 refine bind_ex (ldI_of (w1.ld (i:=0) rfl rfl)) ?_
 refine newS_k (eInt .i64) w1 (n:=0) (l:=([]:List Int)) rfl CR.empty rfl fun H2 w2 s2 c2=>?_
 refine bind_ex (ldSl_of (w2.ld (i:=1) rfl rfl)) ?_
 obtain ⟨x3,h3,c3⟩:=(pQ.step (s1.trans s2)).row rfl
 refine bind_ex h3 ?_
 obtain ⟨l4,e4,hp⟩:=bind_some' hp
 refine app_k (eInt .i64) w2 (i:=0) rfl rfl c2 c3 rfl rfl e4 fun a5 d5 H5 w5 s5 c5 x5=>?_
 dsimp only [List.set] at w5 s5 c5
 refine new_k w5 fun H6 w6 s6=>?_
 refine st_k w6 (i:=0) rfl rfl rfl fun H7 w7 s7=>?_
 dsimp only [List.set] at w7 s7
 refine st_k w7 (i:=0) rfl rfl rfl fun H8 w8 s8=>?_
 dsimp only [List.set] at w8 s8
 refine st_k w8 (i:=0) rfl rfl rfl fun H9 w9 s9=>?_
 dsimp only [List.set] at w9 s9
 obtain ⟨w10,s10⟩:=w9.pick' [1,0] 3 rfl rfl rfl
 dsimp only [pk,pks,nth,List.drop] at w10 s10
 exact ah.l125_P F rfl ⟨w10,(s0.trans (s1.trans (s2.trans (s5.trans (s6.trans (s7.trans (s8.trans (s9.trans s10)))))))),(c5.step (s6.trans (s7.trans (s8.trans (s9.trans s10)))))⟩ hp
def cf.Q (H0:Hp) (Ri R0:List Rs)  (r:Int) (v:AV) (H':Hp):Prop:=v = (.int .i64 r)∧Out H0 Ri H' (R0) fun R=>True
def cf.p (F:Nat) (aa:Int):Option (Int):=some (if (IntKind.i64.wrap (0 - aa)) > aa then (IntKind.i64.wrap (0 - aa)) else aa)
theorem cf.P {F:Nat} {aa:Int} {H:Hp} {R0:List Rs}  (h0:Inn H R0 fun R=>True) {r:Int} (hp:cf.p F aa = some r):∃ v H',cf.tw F aa H = some (v,H')∧cf.Q H R0 R0  r v H':=by
 obtain ⟨w0,_⟩:=h0
 unfold cf.p at hp
 unfold cf.tw cf.twX
 have s0:=w0.rf
 obtain rfl:=Option.some.inj hp
 exact ⟨_,_,rfl,rfl,w0,s0,trivial⟩
def bX.Q (H0:Hp) (Ri R0:List Rs)  (r:Int×Int) (v:AV) (H':Hp):Prop:=v = (.tup [(.int .i64 r.1),(.int .i64 r.2)])∧Out H0 Ri H' (R0) fun R=>True
def bX.p (F:Nat) (af:List (Int×Int×Int×Int×Int)) (ab:Int):Option (Int×Int):=(bU.p F af ab).bind fun r2=>(bif (!r2) then (some (0,1)) else ((aL.p F af).bind fun r5=>(bif ((IntKind.i64.wrap (r5 + ab)) == 0) then (some (0,5)) else ((bif (decide ((IntKind.i64.wrap (r5 + ab)) > 1)) then (some (0,0)) else ((bif (r5 == 0) then (some (1,0)) else ((ai.p F af 0).bind fun r10=>(ah.p F r10.1 r10.2.2).bind fun r13=>(cf.p F r13).bind fun r16=>some (r16,0)))))))))
theorem bX.P {F:Nat} {aF:ON} {ay:Nat} {aG:Cap} {af:List (Int×Int×Int×Int×Int)} {ab:Int} {H:Hp} {R0:List Rs} (bm:ay = af.length) (h0:Inn H R0 fun R=>ROs (ePair (eInt .i64) (ePair (eInt .i64) (ePair (eInt .i64) (ePair (eInt .i64) (eInt .i64))))) H R ⟨aF,ay,aG⟩ af) {r:Int×Int} (hp:bX.p F af ab = some r):∃ v H',bX.tw F ⟨aF,ay,aG⟩ ab H = some (v,H')∧bX.Q H R0 R0  r v H':=by
 obtain ⟨w0,aS⟩:=h0
 subst bm
 unfold bX.p at hp
 unfold bX.tw bX.twX
 have s0:=w0.rf
 refine new_k w0 fun H1 w1 s1=>?_
 refine bind_ex (ldSl_of (w1.ld (i:=0) rfl rfl)) ?_
 refine bind_ex (ldI_of (w1.ld (i:=0) rfl rfl)) ?_
 obtain ⟨r2,e2,hp⟩:=bind_some' hp
 refine call_ex (bU.P rfl ⟨w1,(aS.step s1)⟩ e2) ?_
 rintro _ H3 ⟨rfl,w3,s3,_⟩
 refine bind_ex rfl ?_
 refine bif_ex (fun hb=>?_) (fun hb=>?_)
 ·replace hp:=bif_t hb hp
  obtain ⟨w4,s4⟩:=w3.pick' [] 1 rfl rfl rfl
  dsimp only [pk,pks,nth,List.drop] at w4 s4
  obtain rfl:=Option.some.inj hp
  exact ⟨_,_,rfl,rfl,w4,(s0.trans (s1.trans (s3.trans s4))),trivial⟩
 ·replace hp:=bif_f hb hp
  refine bind_ex (ldSl_of (w3.ld (i:=0) rfl rfl)) ?_
  refine bind_ex (ldI_of (w3.ld (i:=0) rfl rfl)) ?_
  obtain ⟨r5,e5,hp⟩:=bind_some' hp
  refine call_ex (aL.P rfl ⟨w3,(aS.step (s1.trans s3))⟩ e5) ?_
  rintro _ H6 ⟨rfl,w6,s6,_⟩
  refine bind_ex rfl ?_
  refine bind_ex (ldI_of (w6.ld (i:=0) rfl rfl)) ?_
  refine bif_ex (fun hb=>?_) (fun hb=>?_)
  ·replace hp:=bif_t hb hp
   obtain ⟨w7,s7⟩:=w6.pick' [] 1 rfl rfl rfl
   dsimp only [pk,pks,nth,List.drop] at w7 s7
   obtain rfl:=Option.some.inj hp
   exact ⟨_,_,rfl,rfl,w7,(s0.trans (s1.trans (s3.trans (s6.trans s7)))),trivial⟩
  ·replace hp:=bif_f hb hp
   refine bind_ex (ldI_of (w6.ld (i:=0) rfl rfl)) ?_
   refine bif_ex (fun hb=>?_) (fun hb=>?_)
   ·replace hp:=bif_t hb hp
    obtain ⟨w8,s8⟩:=w6.pick' [] 1 rfl rfl rfl
    dsimp only [pk,pks,nth,List.drop] at w8 s8
    obtain rfl:=Option.some.inj hp
    exact ⟨_,_,rfl,rfl,w8,(s0.trans (s1.trans (s3.trans (s6.trans s8)))),trivial⟩
   ·replace hp:=bif_f hb hp
    refine bif_ex (fun hb=>?_) (fun hb=>?_)
    ·replace hp:=bif_t hb hp
     obtain ⟨w9,s9⟩:=w6.pick' [] 1 rfl rfl rfl
     dsimp only [pk,pks,nth,List.drop] at w9 s9
     obtain rfl:=Option.some.inj hp
     exact ⟨_,_,rfl,rfl,w9,(s0.trans (s1.trans (s3.trans (s6.trans s9)))),trivial⟩
    ·replace hp:=bif_f hb hp
     refine bind_ex (ldSl_of (w6.ld (i:=0) rfl rfl)) ?_
     refine bind_ex (ldI_of (w6.ld (i:=0) rfl rfl)) ?_
     obtain ⟨r10,e10,hp⟩:=bind_some' hp
     refine call_ex (ai.P rfl ⟨w6,(aS.step (s1.trans (s3.trans s6)))⟩ e10) ?_
     rintro _ H11 ⟨o2a_11,o2n_11,o2c_11,o2k_11,rfl,rfl,w11,s11,f11_0⟩
     refine bind_ex rfl ?_
     refine bind_ex rfl ?_
     refine bind_ex rfl ?_
     refine bind_ex rfl ?_
     refine bind_ex rfl ?_
     refine bind_ex rfl ?_
     refine bind_ex rfl ?_
     have f12:=W.borrow1 (eInt .i64) w11 f11_0
     obtain ⟨w12,s12⟩:=w11.right1
     obtain ⟨r13,e13,hp⟩:=bind_some' hp
     refine call_ex (ah.P rfl ⟨w12,f12⟩ e13) ?_
     rintro _ H14 ⟨rfl,w14,s14,_⟩
     obtain ⟨w15,s15⟩:=W.frame1 w11 w14 s14
     refine bind_ex rfl ?_
     obtain ⟨r16,e16,hp⟩:=bind_some' hp
     refine call_ex (cf.P ⟨w15,trivial⟩ e16) ?_
     rintro _ H17 ⟨rfl,w17,s17,_⟩
     refine bind_ex rfl ?_
     obtain ⟨w18,s18⟩:=w17.pick' [] 2 rfl rfl rfl
     dsimp only [pk,pks,nth,List.drop] at w18 s18
     obtain rfl:=Option.some.inj hp
     exact ⟨_,_,rfl,rfl,w18,(s0.trans (s1.trans (s3.trans (s6.trans (s11.trans (s15.trans (s17.trans s18))))))),trivial⟩
def bx.Q (H0:Hp) (Ri R0:List Rs)  (r:Int) (v:AV) (H':Hp):Prop:=v = (.int .i64 r)∧Out H0 Ri H' (R0) fun R=>True
def bx.p (F:Nat) (af:List (Int×Int×Int×Int×Int)):Option (Int):=some (af.length:Int)
theorem bx.P {F:Nat} {aF:ON} {ay:Nat} {aG:Cap} {af:List (Int×Int×Int×Int×Int)} {H:Hp} {R0:List Rs} (bm:ay = af.length) (h0:Inn H R0 fun R=>ROs (ePair (eInt .i64) (ePair (eInt .i64) (ePair (eInt .i64) (ePair (eInt .i64) (eInt .i64))))) H R ⟨aF,ay,aG⟩ af) {r:Int} (hp:bx.p F af = some r):∃ v H',bx.tw F ⟨aF,ay,aG⟩ H = some (v,H')∧bx.Q H R0 R0  r v H':=by
 obtain ⟨w0,aS⟩:=h0
 subst bm
 unfold bx.p at hp
 unfold bx.tw bx.twX
 have s0:=w0.rf
 obtain rfl:=Option.some.inj hp
 exact ⟨_,_,rfl,rfl,w0,s0,trivial⟩
def bD.Q (H0:Hp) (Ri R0:List Rs)  (r:Bool) (v:AV) (H':Hp):Prop:=v = (.bool r)∧Out H0 Ri H' (R0) fun R=>True
def bD.p (F:Nat) (aa:Int) (ak:Int) (bF:Int):Option (Bool):=(bif (decide (ak ≤ aa)) then (some (decide (aa ≤ bF))) else (some false))
theorem bD.P {F:Nat} {aa ak bF:Int} {H:Hp} {R0:List Rs}  (h0:Inn H R0 fun R=>True) {r:Bool} (hp:bD.p F aa ak bF = some r):∃ v H',bD.tw F aa ak bF H = some (v,H')∧bD.Q H R0 R0  r v H':=by
 obtain ⟨w0,_⟩:=h0
 unfold bD.p at hp
 unfold bD.tw bD.twX
 have s0:=w0.rf
 refine bif_ex (fun hb=>?_) (fun hb=>?_)
 ·replace hp:=bif_t hb hp
  obtain rfl:=Option.some.inj hp
  exact ⟨_,_,rfl,rfl,w0,s0,trivial⟩
 ·replace hp:=bif_f hb hp
  obtain rfl:=Option.some.inj hp
  exact ⟨_,_,rfl,rfl,w0,s0,trivial⟩
def cg.Q (H0:Hp) (Ri R0:List Rs)  (r:Bool) (v:AV) (H':Hp):Prop:=v = (.bool r)∧Out H0 Ri H' (R0) fun R=>True
def cg.p (F:Nat) (aJ:Int):Option (Bool):=(bif (aJ != 1) then (some (aJ != (-1))) else (some false))
theorem cg.P {F:Nat} {aa ab ax aM aJ:Int} {H:Hp} {R0:List Rs}  (h0:Inn H R0 fun R=>True) {r:Bool} (hp:cg.p F aJ = some r):∃ v H',cg.tw F aa ab ax aM aJ H = some (v,H')∧cg.Q H R0 R0  r v H':=by
 obtain ⟨w0,_⟩:=h0
 unfold cg.p at hp
 unfold cg.tw cg.twX
 have s0:=w0.rf
 refine new_k w0 fun H1 w1 s1=>?_
 refine bind_ex (ldI_of (w1.ld (i:=0) rfl rfl)) ?_
 refine bif_ex (fun hb=>?_) (fun hb=>?_)
 ·replace hp:=bif_t hb hp
  refine bind_ex (ldI_of (w1.ld (i:=0) rfl rfl)) ?_
  obtain ⟨w2,s2⟩:=w1.pick' [] 1 rfl rfl rfl
  dsimp only [pk,pks,nth,List.drop] at w2 s2
  obtain rfl:=Option.some.inj hp
  exact ⟨_,_,rfl,rfl,w2,(s0.trans (s1.trans s2)),trivial⟩
 ·replace hp:=bif_f hb hp
  obtain ⟨w3,s3⟩:=w1.pick' [] 1 rfl rfl rfl
  dsimp only [pk,pks,nth,List.drop] at w3 s3
  obtain rfl:=Option.some.inj hp
  exact ⟨_,_,rfl,rfl,w3,(s0.trans (s1.trans s3)),trivial⟩
def bd.Q (H0:Hp) (Ri R0:List Rs)  (r:Int) (v:AV) (H':Hp):Prop:=v = (.int .i64 r)∧Out H0 Ri H' (R0) fun R=>True
def bd.S13 (H0:Hp) (Ri R0:List Rs)  (C:Sl→Int→Int→Hp→OA) (pC:List (Int×Int×Int×Int×Int)→Int→Int→Option (Int)):Prop:=∀ {DZ:ON} {xo:Nat} {D_:Cap} {nz:List (Int×Int×Int×Int×Int)} {hQ fT:Int},∀ {H:Hp},xo = nz.length→(Out H0 Ri H R0 fun R=>ROs (ePair (eInt .i64) (ePair (eInt .i64) (ePair (eInt .i64) (ePair (eInt .i64) (eInt .i64))))) H R ⟨DZ,xo,D_⟩ nz)→∀ {r:Int},pC nz hQ fT = some r→∃ v H',C ⟨DZ,xo,D_⟩ hQ fT H = some (v,H')∧bd.Q H0 Ri R0  r v H'
def bd.pl13 (F:Nat) :Nat→List (Int×Int×Int×Int×Int)→Int→Int→Option (Int)
 | 0,_,_,_=>none
 | k + 1,nz,hQ,fT=>(bif (decide (fT < hQ)) then ((ix nz fT).bind fun n1=>(cg.p F ((gt nz n1).2.2.2.2)).bind fun r2=>(bif r2 then (some fT) else (bd.pl13 F k nz hQ (IntKind.i64.wrap (fT + 1))))) else (some (-1)))
termination_by structural n=>n
theorem bd.l13_P {F:Nat} {H0:Hp} {Ri R0:List Rs}  :∀ k,bd.S13 H0 Ri R0  (bd.l13 F (cg.tw F)  k) (bd.pl13 F  k):=by
 intro k
 induction k with
 | zero=>
  intro DZ xo D_ nz hQ fT H Vd h0 r hp
  exact nomatch (show (none:Option (Int)) = some r from hp)
 | succ k ih=>
  intro DZ xo D_ nz hQ fT H Vd h0 r hp
  obtain ⟨w0,s0,Ve⟩:=h0
  subst Vd
  unfold bd.pl13 at hp
  unfold bd.l13
  refine bif_ex (fun hb=>?_) (fun hb=>?_)
  ·replace hp:=bif_t hb hp
   obtain ⟨n1,g1,hp⟩:=bind_some' hp
   obtain ⟨p1,q1,i1,h1,j1⟩:=ROs.ixr Ve rfl g1
   refine bind_ex i1 ?_
   obtain ⟨_,_,rfl,rfl,_,_,rfl,rfl,_,_,rfl,rfl,_,_,rfl,rfl,rfl⟩:=h1
   refine bind_ex (ldI_of (j1 0 _ rfl)) ?_
   refine bind_ex (ldI_of (j1 1 _ rfl)) ?_
   refine bind_ex (ldI_of (j1 2 _ rfl)) ?_
   refine bind_ex (ldI_of (j1 3 _ rfl)) ?_
   refine bind_ex (ldI_of (j1 4 _ rfl)) ?_
   obtain ⟨r2,e2,hp⟩:=bind_some' hp
   refine call_ex (cg.P ⟨w0,trivial⟩ e2) ?_
   rintro _ H3 ⟨rfl,w3,s3,_⟩
   refine bind_ex rfl ?_
   refine bif_ex (fun hb=>?_) (fun hb=>?_)
   ·replace hp:=bif_t hb hp
    obtain rfl:=Option.some.inj hp
    exact ⟨_,_,rfl,rfl,w3,(s0.trans s3),trivial⟩
   ·replace hp:=bif_f hb hp
    exact ih rfl ⟨w3,(s0.trans s3),(Ve.step s3)⟩ hp
  ·replace hp:=bif_f hb hp
   obtain rfl:=Option.some.inj hp
   exact ⟨_,_,rfl,rfl,w0,s0,trivial⟩
def bd.p (F:Nat) (af:List (Int×Int×Int×Int×Int)):Option (Int):=bd.pl13 F F af (af.length:Int) 0
theorem bd.P {F:Nat} {aF:ON} {ay:Nat} {aG:Cap} {af:List (Int×Int×Int×Int×Int)} {H:Hp} {R0:List Rs} (bm:ay = af.length) (h0:Inn H R0 fun R=>ROs (ePair (eInt .i64) (ePair (eInt .i64) (ePair (eInt .i64) (ePair (eInt .i64) (eInt .i64))))) H R ⟨aF,ay,aG⟩ af) {r:Int} (hp:bd.p F af = some r):∃ v H',bd.tw F ⟨aF,ay,aG⟩ H = some (v,H')∧bd.Q H R0 R0  r v H':=by
 obtain ⟨w0,aS⟩:=h0
 subst bm
 unfold bd.p at hp
 unfold bd.tw bd.twX
 have s0:=w0.rf
 exact bd.l13_P F rfl ⟨w0,s0,aS⟩ hp
def bY.Q (H0:Hp) (Ri R0:List Rs)  (r:Bool) (v:AV) (H':Hp):Prop:=v = (.bool r)∧Out H0 Ri H' (R0) fun R=>True
def bY.p (F:Nat) (af:List (Int×Int×Int×Int×Int)):Option (Bool):=(bd.p F af).bind fun r1=>some (decide (r1 ≥ 0))
theorem bY.P {F:Nat} {aF:ON} {ay:Nat} {aG:Cap} {af:List (Int×Int×Int×Int×Int)} {H:Hp} {R0:List Rs} (bm:ay = af.length) (h0:Inn H R0 fun R=>ROs (ePair (eInt .i64) (ePair (eInt .i64) (ePair (eInt .i64) (ePair (eInt .i64) (eInt .i64))))) H R ⟨aF,ay,aG⟩ af) {r:Bool} (hp:bY.p F af = some r):∃ v H',bY.tw F ⟨aF,ay,aG⟩ H = some (v,H')∧bY.Q H R0 R0  r v H':=by
 obtain ⟨w0,aS⟩:=h0
 subst bm
 unfold bY.p at hp
 unfold bY.tw bY.twX
 have s0:=w0.rf
 obtain ⟨r1,e1,hp⟩:=bind_some' hp
 refine call_ex (bd.P rfl ⟨w0,aS⟩ e1) ?_
 rintro _ H2 ⟨rfl,w2,s2,_⟩
 refine bind_ex rfl ?_
 obtain rfl:=Option.some.inj hp
 exact ⟨_,_,rfl,rfl,w2,(s0.trans s2),trivial⟩
def bits_Mul64.Q (H0:Hp) (Ri R0:List Rs)  (r:Int×Int) (v:AV) (H':Hp):Prop:=v = (.tup [(.int .u64 r.1),(.int .u64 r.2)])∧Out H0 Ri H' (R0) fun R=>True
def bits_Mul64.p (F:Nat) (aa:Int) (ak:Int):Option (Int×Int):=some ((IntKind.u64.wrap ((IntKind.u64.wrap ((IntKind.u64.wrap ((Int.fdiv aa (2 ^ (min (32:Int).toNat (IntKind.u64).bits))) * (Int.fdiv ak (2 ^ (min (32:Int).toNat (IntKind.u64).bits))))) + (Int.fdiv (IntKind.u64.wrap ((IntKind.u64.wrap ((Int.fdiv aa (2 ^ (min (32:Int).toNat (IntKind.u64).bits))) * (Go.bits .and .u64 ak 4294967295))) + (Int.fdiv (IntKind.u64.wrap ((Go.bits .and .u64 aa 4294967295) * (Go.bits .and .u64 ak 4294967295))) (2 ^ (min (32:Int).toNat (IntKind.u64).bits))))) (2 ^ (min (32:Int).toNat (IntKind.u64).bits))))) + (Int.fdiv (IntKind.u64.wrap ((Go.bits .and .u64 (IntKind.u64.wrap ((IntKind.u64.wrap ((Int.fdiv aa (2 ^ (min (32:Int).toNat (IntKind.u64).bits))) * (Go.bits .and .u64 ak 4294967295))) + (Int.fdiv (IntKind.u64.wrap ((Go.bits .and .u64 aa 4294967295) * (Go.bits .and .u64 ak 4294967295))) (2 ^ (min (32:Int).toNat (IntKind.u64).bits))))) 4294967295) + (IntKind.u64.wrap ((Go.bits .and .u64 aa 4294967295) * (Int.fdiv ak (2 ^ (min (32:Int).toNat (IntKind.u64).bits))))))) (2 ^ (min (32:Int).toNat (IntKind.u64).bits))))),(IntKind.u64.wrap (aa * ak)))
theorem bits_Mul64.P {F:Nat} {aa ak:Int} {H:Hp} {R0:List Rs}  (h0:Inn H R0 fun R=>True) {r:Int×Int} (hp:bits_Mul64.p F aa ak = some r):∃ v H',bits_Mul64.tw F aa ak H = some (v,H')∧bits_Mul64.Q H R0 R0  r v H':=by
 obtain ⟨w0,_⟩:=h0
 unfold bits_Mul64.p at hp
 unfold bits_Mul64.tw bits_Mul64.twX
 have s0:=w0.rf
 obtain rfl:=Option.some.inj hp
 exact ⟨_,_,rfl,rfl,w0,s0,trivial⟩
def bits_Mul.Q (H0:Hp) (Ri R0:List Rs)  (r:Int×Int) (v:AV) (H':Hp):Prop:=v = (.tup [(.int .u64 r.1),(.int .u64 r.2)])∧Out H0 Ri H' (R0) fun R=>True
def bits_Mul.p (F:Nat) (aa:Int) (ak:Int):Option (Int×Int):=(bits_Mul64.p F aa ak).bind fun r1=>some (r1.1,r1.2)
theorem bits_Mul.P {F:Nat} {aa ak:Int} {H:Hp} {R0:List Rs}  (h0:Inn H R0 fun R=>True) {r:Int×Int} (hp:bits_Mul.p F aa ak = some r):∃ v H',bits_Mul.tw F aa ak H = some (v,H')∧bits_Mul.Q H R0 R0  r v H':=by
 obtain ⟨w0,_⟩:=h0
 unfold bits_Mul.p at hp
 unfold bits_Mul.tw bits_Mul.twX
 have s0:=w0.rf
 obtain ⟨r1,e1,hp⟩:=bind_some' hp
 refine call_ex (bits_Mul64.P ⟨w0,trivial⟩ e1) ?_
 rintro _ H2 ⟨rfl,w2,s2,_⟩
 refine bind_ex rfl ?_
 refine bind_ex rfl ?_
 refine bind_ex rfl ?_
 refine bind_ex rfl ?_
 refine bind_ex rfl ?_
 obtain rfl:=Option.some.inj hp
 exact ⟨_,_,rfl,rfl,w2,(s0.trans s2),trivial⟩
def aT.Q (H0:Hp) (Ri R0:List Rs)  (r:(List (Int×Int))) (v:AV) (H':Hp):Prop:=∃ o0a:ON,∃ o0n:Nat,∃ o0k:List AV,v = (.sl ⟨o0a,o0n,.ex o0n⟩)∧o0n = (r).length∧Out H0 Ri H' (Rs.own ⟨o0a,o0n,.ex o0n⟩ (ePair (eInt .i64) (eInt .i64)).z o0k :: R0) fun R=>CR (ePair (eInt .i64) (eInt .i64)) H' R o0k (r)
def aT.pj1 (F:Nat)  (kC:List (Int×Int)) (jC:Int):Option ((List (Int×Int))):=(mkn (IntKind.i64.wrap jC) ((0:Int),(0:Int))).bind fun l1=>(some (cpl l1 kC)).bind fun l3=>(rept F l3 ((min kC.length l1.length:Nat):Int)).bind fun l5=>some l5
theorem aT.j1_P {F:Nat} {H0:Hp} {Ri R0:List Rs}   {xp:ON} {pV:Nat} {xq:Cap} {kC:List (Int×Int)} {jC:Int} {H:Hp} (K_:pV = kC.length) (h0:Out H0 Ri H R0 fun R=>ROs (ePair (eInt .i64) (eInt .i64)) H R ⟨xp,pV,xq⟩ kC) {r:(List (Int×Int))} (hp:aT.pj1 F  kC jC = some r):∃ v H',aT.j1 F (bits_Mul.tw F)  ⟨xp,pV,xq⟩ jC H = some (v,H')∧aT.Q H0 Ri R0  r v H':=by
 obtain ⟨w0,s0,La⟩:=h0
 subst K_
 unfold aT.pj1 at hp
 unfold aT.j1
 obtain ⟨l1,e1,hp⟩:=bind_some' hp
 refine mk_k (ePair (eInt .i64) (eInt .i64)) ((0:Int),(0:Int)) w0 ⟨[_],_,rfl,rfl,rfl⟩ rfl rfl e1 fun H2 k2 w2 s2 c2=>?_
 obtain ⟨x3,h3,c3⟩:=(La.step s2).row (z:=(ePair (eInt .i64) (eInt .i64)).z) rfl
 obtain ⟨l3,e3,hp⟩:=bind_some' hp
 refine cpy_k (ePair (eInt .i64) (eInt .i64)) w2 (i:=0) rfl rfl c2 h3 c3 rfl rfl e3 fun k4 H4 w4 s4 c4=>?_
 dsimp only [List.set] at w4 s4 c4
 obtain ⟨l5,e5,hp⟩:=bind_some' hp
 refine rept_K (ePair (eInt .i64) (eInt .i64)) rfl (L:=aT.l254 F (bits_Mul.tw F)) (fun _ _ _ _=>rfl) w4 (i:=0) rfl c4 e5 fun H6 k6 w6 s6 c6=>?_
 dsimp only [List.set] at w6 s6 c6
 obtain rfl:=Option.some.inj hp
 exact ⟨_,_,rfl,_,_,_,rfl,((cpl_len e3).symm.trans (rept_len e5).symm),w6,(s0.trans (s2.trans (s4.trans s6))),c6⟩
def aT.pj2 (F:Nat)  (kD:List (Int×Int)) (kl:Int):Option ((List (Int×Int))):=(bits_Mul.p F (IntKind.u64.wrap (kD.length:Int)) (IntKind.u64.wrap kl)).bind fun r1=>(bif (decide (r1.1 > 0)) then (none) else ((bif (decide (r1.2 > 9223372036854775807)) then (none) else (aT.pj1 F kD r1.2))))
theorem aT.j2_P {F:Nat} {H0:Hp} {Ri R0:List Rs}   {xt:ON} {pW:Nat} {xu:Cap} {kD:List (Int×Int)} {kl:Int} {H:Hp} (Lb:pW = kD.length) (h0:Out H0 Ri H R0 fun R=>ROs (ePair (eInt .i64) (eInt .i64)) H R ⟨xt,pW,xu⟩ kD) {r:(List (Int×Int))} (hp:aT.pj2 F  kD kl = some r):∃ v H',aT.j2 F (bits_Mul.tw F)  ⟨xt,pW,xu⟩ kl H = some (v,H')∧aT.Q H0 Ri R0  r v H':=by
 obtain ⟨w0,s0,Lc⟩:=h0
 subst Lb
 unfold aT.pj2 at hp
 unfold aT.j2
 obtain ⟨r1,e1,hp⟩:=bind_some' hp
 refine call_ex (bits_Mul.P ⟨w0,trivial⟩ e1) ?_
 rintro _ H2 ⟨rfl,w2,s2,_⟩
 refine bind_ex rfl ?_
 refine bind_ex rfl ?_
 refine bind_ex rfl ?_
 refine bind_ex rfl ?_
 refine bind_ex rfl ?_
 refine bif_ex (fun hb=>?_) (fun hb=>?_)
 ·replace hp:=bif_t hb hp
  cases hp
 ·replace hp:=bif_f hb hp
  refine bif_ex (fun hb=>?_) (fun hb=>?_)
  ·replace hp:=bif_t hb hp
   cases hp
  ·replace hp:=bif_f hb hp
   exact aT.j1_P rfl ⟨w2,(s0.trans s2),(Lc.step s2)⟩ hp
def aT.p (F:Nat) (af:List (Int×Int)) (ak:Int):Option ((List (Int×Int))):=(bif (decide (ak < 0)) then (none) else (aT.pj2 F af ak))
theorem aT.P {F:Nat} {aF:ON} {ay:Nat} {aG:Cap} {af:List (Int×Int)} {ak:Int} {H:Hp} {R0:List Rs} (bm:ay = af.length) (h0:Inn H R0 fun R=>ROs (ePair (eInt .i64) (eInt .i64)) H R ⟨aF,ay,aG⟩ af) {r:(List (Int×Int))} (hp:aT.p F af ak = some r):∃ v H',aT.tw F ⟨aF,ay,aG⟩ ak H = some (v,H')∧aT.Q H R0 R0  r v H':=by
 obtain ⟨w0,aS⟩:=h0
 subst bm
 unfold aT.p at hp
 unfold aT.tw aT.twX
 have s0:=w0.rf
 refine bif_ex (fun hb=>?_) (fun hb=>?_)
 ·replace hp:=bif_t hb hp
  cases hp
 ·replace hp:=bif_f hb hp
  exact aT.j2_P rfl ⟨w0,s0,aS⟩ hp
def bA.Q (H0:Hp) (Ri R0:List Rs)  (r:Int×Int×Int×Int) (v:AV) (H':Hp):Prop:=v = (.agg [(.int .i64 r.1),(.int .i64 r.2.1),(.int .i64 r.2.2.1),(.int .i64 r.2.2.2)])∧Out H0 Ri H' (R0) fun R=>True
def bA.p (F:Nat) (aa:Int) (ab:Int) (ax:Int) (aM:Int):Option (Int×Int×Int×Int):=some (aa,ab,ax,aM)
theorem bA.P {F:Nat} {aa ab ax aM aJ:Int} {H:Hp} {R0:List Rs}  (h0:Inn H R0 fun R=>True) {r:Int×Int×Int×Int} (hp:bA.p F aa ab ax aM = some r):∃ v H',bA.tw F aa ab ax aM aJ H = some (v,H')∧bA.Q H R0 R0  r v H':=by
 obtain ⟨w0,_⟩:=h0
 unfold bA.p at hp
 unfold bA.tw bA.twX
 have s0:=w0.rf
 refine new_k w0 fun H1 w1 s1=>?_
 refine new_k w1 fun H2 w2 s2=>?_
 refine bind_ex (ldI_of (w2.ld (i:=1) rfl rfl)) ?_
 refine bind_ex (ldI_of (w2.ld (i:=1) rfl rfl)) ?_
 refine bind_ex (ldI_of (w2.ld (i:=1) rfl rfl)) ?_
 refine bind_ex (ldI_of (w2.ld (i:=1) rfl rfl)) ?_
 refine st_k w2 (i:=0) rfl rfl rfl fun H3 w3 s3=>?_
 dsimp only [List.set] at w3 s3
 refine st_k w3 (i:=0) rfl rfl rfl fun H4 w4 s4=>?_
 dsimp only [List.set] at w4 s4
 refine st_k w4 (i:=0) rfl rfl rfl fun H5 w5 s5=>?_
 dsimp only [List.set] at w5 s5
 refine st_k w5 (i:=0) rfl rfl rfl fun H6 w6 s6=>?_
 dsimp only [List.set] at w6 s6
 refine bind_ex (ldI_of (w6.ld (i:=0) rfl rfl)) ?_
 refine bind_ex (ldI_of (w6.ld (i:=0) rfl rfl)) ?_
 refine bind_ex (ldI_of (w6.ld (i:=0) rfl rfl)) ?_
 refine bind_ex (ldI_of (w6.ld (i:=0) rfl rfl)) ?_
 obtain ⟨w7,s7⟩:=w6.pick' [] 2 rfl rfl rfl
 dsimp only [pk,pks,nth,List.drop] at w7 s7
 obtain rfl:=Option.some.inj hp
 exact ⟨_,_,rfl,rfl,w7,(s0.trans (s1.trans (s2.trans (s3.trans (s4.trans (s5.trans (s6.trans s7))))))),trivial⟩
def bB.Q (H0:Hp) (Ri R0:List Rs)  (r:Bool) (v:AV) (H':Hp):Prop:=v = (.bool r)∧Out H0 Ri H' (R0) fun R=>True
def bB.p (F:Nat) (aJ:Int) (bw:Int):Option (Bool):=(bif (bw == 0) then (some true) else (some (bw == (IntKind.i64.wrap (2 + aJ)))))
theorem bB.P {F:Nat} {aa ab ax aM aJ bw:Int} {H:Hp} {R0:List Rs}  (h0:Inn H R0 fun R=>True) {r:Bool} (hp:bB.p F aJ bw = some r):∃ v H',bB.tw F aa ab ax aM aJ bw H = some (v,H')∧bB.Q H R0 R0  r v H':=by
 obtain ⟨w0,_⟩:=h0
 unfold bB.p at hp
 unfold bB.tw bB.twX
 have s0:=w0.rf
 refine new_k w0 fun H1 w1 s1=>?_
 refine bif_ex (fun hb=>?_) (fun hb=>?_)
 ·replace hp:=bif_t hb hp
  obtain ⟨w2,s2⟩:=w1.pick' [] 1 rfl rfl rfl
  dsimp only [pk,pks,nth,List.drop] at w2 s2
  obtain rfl:=Option.some.inj hp
  exact ⟨_,_,rfl,rfl,w2,(s0.trans (s1.trans s2)),trivial⟩
 ·replace hp:=bif_f hb hp
  refine bind_ex (ldI_of (w1.ld (i:=0) rfl rfl)) ?_
  obtain ⟨w3,s3⟩:=w1.pick' [] 1 rfl rfl rfl
  dsimp only [pk,pks,nth,List.drop] at w3 s3
  obtain rfl:=Option.some.inj hp
  exact ⟨_,_,rfl,rfl,w3,(s0.trans (s1.trans s3)),trivial⟩
def co.Q (H0:Hp) (Ri R0:List Rs)  (r:Int) (v:AV) (H':Hp):Prop:=v = (.int .i64 r)∧Out H0 Ri H' (R0) fun R=>True
def co.p (F:Nat) (af:List (Int×Int)):Option (Int):=some (af.length:Int)
theorem co.P {F:Nat} {aF:ON} {ay:Nat} {aG:Cap} {af:List (Int×Int)} {H:Hp} {R0:List Rs} (bm:ay = af.length) (h0:Inn H R0 fun R=>ROs (ePair (eInt .i64) (eInt .i64)) H R ⟨aF,ay,aG⟩ af) {r:Int} (hp:co.p F af = some r):∃ v H',co.tw F ⟨aF,ay,aG⟩ H = some (v,H')∧co.Q H R0 R0  r v H':=by
 obtain ⟨w0,aS⟩:=h0
 subst bm
 unfold co.p at hp
 unfold co.tw co.twX
 have s0:=w0.rf
 obtain rfl:=Option.some.inj hp
 exact ⟨_,_,rfl,rfl,w0,s0,trivial⟩
def bT.Q (H0:Hp) (Ri R0:List Rs)  (r:Bool) (v:AV) (H':Hp):Prop:=v = (.bool r)∧Out H0 Ri H' (R0) fun R=>True
def bT.p (F:Nat) (af:List (Int×Int)) (ak:Int):Option (Bool):=(co.p F af).bind fun r1=>(bD.p F ak 0 (IntKind.i64.wrap (r1 - 1))).bind fun r3=>some r3
theorem bT.P {F:Nat} {aF:ON} {ay:Nat} {aG:Cap} {af:List (Int×Int)} {ak:Int} {H:Hp} {R0:List Rs} (bm:ay = af.length) (h0:Inn H R0 fun R=>ROs (ePair (eInt .i64) (eInt .i64)) H R ⟨aF,ay,aG⟩ af) {r:Bool} (hp:bT.p F af ak = some r):∃ v H',bT.tw F ⟨aF,ay,aG⟩ ak H = some (v,H')∧bT.Q H R0 R0  r v H':=by
 obtain ⟨w0,aS⟩:=h0
 subst bm
 unfold bT.p at hp
 unfold bT.tw bT.twX
 have s0:=w0.rf
 obtain ⟨r1,e1,hp⟩:=bind_some' hp
 refine call_ex (co.P rfl ⟨w0,aS⟩ e1) ?_
 rintro _ H2 ⟨rfl,w2,s2,_⟩
 refine bind_ex rfl ?_
 obtain ⟨r3,e3,hp⟩:=bind_some' hp
 refine call_ex (bD.P ⟨w2,trivial⟩ e3) ?_
 rintro _ H4 ⟨rfl,w4,s4,_⟩
 refine bind_ex rfl ?_
 obtain rfl:=Option.some.inj hp
 exact ⟨_,_,rfl,rfl,w4,(s0.trans (s2.trans s4)),trivial⟩
def aI.Q (H0:Hp) (Ri R0:List Rs)  (r:(List (Int×Int))×(List (Int×Int))×Bool) (v:AV) (H':Hp):Prop:=∃ o0a:ON,∃ o0n:Nat,∃ o0c:Cap,∃ o0k:List AV,∃ o1a:ON,∃ o1n:Nat,∃ o1c:Cap,∃ o1k:List AV,v = (.tup [(.agg [(.sl ⟨o0a,o0n,o0c⟩),(.sl ⟨o1a,o1n,o1c⟩)]),(.bool r.2.2)])∧o0n = (r.1).length∧o1n = (r.2.1).length∧Out H0 Ri H' (Rs.own ⟨o0a,o0n,o0c⟩ (ePair (eInt .i64) (eInt .i64)).z o0k :: Rs.own ⟨o1a,o1n,o1c⟩ (ePair (eInt .i64) (eInt .i64)).z o1k :: R0) fun R=>CR (ePair (eInt .i64) (eInt .i64)) H' R o0k (r.1)∧CR (ePair (eInt .i64) (eInt .i64)) H' R o1k (r.2.1)
def aI.S61 (H0:Hp) (Ri R0:List Rs)  (C:Nat→Nat→Nat→Nat→Sl→Int→Int→Hp→OA) (pC:List (Int×Int)→List (Int×Int)→List (Int×Int×Int×Int×Int)→Int→Int→Option ((List (Int×Int))×(List (Int×Int))×Bool)):Prop:=∀ {Ea Ec Ed Ee Ef:ON} {xv xw fV xx xy cJ xz:Nat} {Eg Eh Ei Ej Ek:Cap} {El Em oY oZ:List (Int×Int)} {En Eo Er Es:List AV} {kE:List (Int×Int×Int×Int×Int)} {hT fW:Int},∀ {H:Hp},xv = El.length→xw = Em.length→xx = oY.length→xy = oZ.length→xz = kE.length→(Out H0 Ri H (Rs.own ⟨Ea,xv,Eg⟩ (ePair (eInt .i64) (eInt .i64)).z En :: Rs.own ⟨Ec,xw,Eh⟩ (ePair (eInt .i64) (eInt .i64)).z Eo :: Rs.blk fV [.sl ⟨Ea,xv,Eg⟩,.sl ⟨Ec,xw,Eh⟩] :: Rs.own ⟨Ed,xx,Ei⟩ (ePair (eInt .i64) (eInt .i64)).z Er :: Rs.own ⟨Ee,xy,Ej⟩ (ePair (eInt .i64) (eInt .i64)).z Es :: Rs.blk cJ [.sl ⟨Ed,xx,Ei⟩,.sl ⟨Ee,xy,Ej⟩] :: R0) fun R=>CR (ePair (eInt .i64) (eInt .i64)) H R En El∧CR (ePair (eInt .i64) (eInt .i64)) H R Eo Em∧CR (ePair (eInt .i64) (eInt .i64)) H R Er oY∧CR (ePair (eInt .i64) (eInt .i64)) H R Es oZ∧ROs (ePair (eInt .i64) (ePair (eInt .i64) (ePair (eInt .i64) (ePair (eInt .i64) (eInt .i64))))) H R ⟨Ef,xz,Ek⟩ kE)→∀ {r:(List (Int×Int))×(List (Int×Int))×Bool},pC oY oZ kE hT fW = some r→∃ v H',C fV 0 cJ 0 ⟨Ef,xz,Ek⟩ hT fW H = some (v,H')∧aI.Q H0 Ri R0  r v H'
def aI.S3931 (H0:Hp) (Ri R0:List Rs)  (C:Nat→Nat→Nat→Nat→Sl→Int→Int→Nat→Nat→Int→Int→Int→Int→Int→Int→Hp→OA) (pC:List (Int×Int)→List (Int×Int)→List (Int×Int×Int×Int×Int)→Int→Int→Int→Int→Int→Int→Int→Int→Int→Option ((List (Int×Int))×(List (Int×Int))×Bool)):Prop:=∀ {Et Eu Ev Ew Ex:ON} {xA xB cO xC xD dg xE eA:Nat} {Ey Ez EA EB EC:Cap} {ED EE iS iT:List (Int×Int)} {EF EG EH EI:List AV} {nA:List (Int×Int×Int×Int×Int)} {fp fU Ld Le Lf Lg o_ dE dG dH dI dJ cR:Int},∀ {H:Hp},xA = ED.length→xB = EE.length→xC = iS.length→xD = iT.length→xE = nA.length→(Out H0 Ri H (Rs.own ⟨Et,xA,Ey⟩ (ePair (eInt .i64) (eInt .i64)).z EF :: Rs.own ⟨Eu,xB,Ez⟩ (ePair (eInt .i64) (eInt .i64)).z EG :: Rs.blk cO [.sl ⟨Et,xA,Ey⟩,.sl ⟨Eu,xB,Ez⟩] :: Rs.own ⟨Ev,xC,EA⟩ (ePair (eInt .i64) (eInt .i64)).z EH :: Rs.own ⟨Ew,xD,EB⟩ (ePair (eInt .i64) (eInt .i64)).z EI :: Rs.blk dg [.sl ⟨Ev,xC,EA⟩,.sl ⟨Ew,xD,EB⟩] :: Rs.blk eA [.int .i64 Ld,.int .i64 Le,.int .i64 Lf,.int .i64 Lg,.int .i64 o_] :: R0) fun R=>CR (ePair (eInt .i64) (eInt .i64)) H R EF ED∧CR (ePair (eInt .i64) (eInt .i64)) H R EG EE∧CR (ePair (eInt .i64) (eInt .i64)) H R EH iS∧CR (ePair (eInt .i64) (eInt .i64)) H R EI iT∧ROs (ePair (eInt .i64) (ePair (eInt .i64) (ePair (eInt .i64) (ePair (eInt .i64) (eInt .i64))))) H R ⟨Ex,xE,EC⟩ nA)→∀ {r:(List (Int×Int))×(List (Int×Int))×Bool},pC iS iT nA fp fU o_ dE dG dH dI dJ cR = some r→∃ v H',C cO 0 dg 0 ⟨Ex,xE,EC⟩ fp fU eA 0 dE dG dH dI dJ cR H = some (v,H')∧aI.Q H0 Ri R0  r v H'
def aI.pl3931 (F:Nat) (bb:List (Int×Int)→List (Int×Int)→List (Int×Int×Int×Int×Int)→Int→Int→Option ((List (Int×Int))×(List (Int×Int))×Bool)):Nat→List (Int×Int)→List (Int×Int)→List (Int×Int×Int×Int×Int)→Int→Int→Int→Int→Int→Int→Int→Int→Int→Option ((List (Int×Int))×(List (Int×Int))×Bool)
 | 0,_,_,_,_,_,_,_,_,_,_,_,_=>none
 | k + 1,iS,iT,nA,fp,fU,o_,dE,dG,dH,dI,dJ,cR=>(bif (decide (cR < 4)) then ((if 0 ≤ cR∧cR < (4:Int) then ((bB.p F o_ cR).bind fun r2=>(bif r2 then ((bT.p F iT (gt ([dG,dH,dI,dJ]:List Int) (cR:Int).toNat)).bind fun r6=>(bif (!r6) then (some (iS,iT,false)) else ((ix iT (gt ([dG,dH,dI,dJ]:List Int) (cR:Int).toNat)).bind fun n12=>(bif (decide (((gt iT n12).1) ≥ 0)) then (some (iS,iT,false)) else ((ix iT (gt ([dG,dH,dI,dJ]:List Int) (cR:Int).toNat)).bind fun n16=>(some (iT.set n16 (dE,(gt iT n16).2))).bind fun l17=>(some (l17.set n16 ((gt l17 n16).1,cR))).bind fun l19=>aI.pl3931 F bb k iS l19 nA fp fU o_ dE dG dH dI dJ (IntKind.i64.wrap (cR + 1))))))) else ((bT.p F iS (gt ([dG,dH,dI,dJ]:List Int) (cR:Int).toNat)).bind fun r24=>(bif (!r24) then (some (iS,iT,false)) else ((ix iS (gt ([dG,dH,dI,dJ]:List Int) (cR:Int).toNat)).bind fun n30=>(bif (decide (((gt iS n30).1) ≥ 0)) then (some (iS,iT,false)) else ((ix iS (gt ([dG,dH,dI,dJ]:List Int) (cR:Int).toNat)).bind fun n34=>(some (iS.set n34 (dE,(gt iS n34).2))).bind fun l35=>(some (l35.set n34 ((gt l35 n34).1,cR))).bind fun l37=>aI.pl3931 F bb k l37 iT nA fp fU o_ dE dG dH dI dJ (IntKind.i64.wrap (cR + 1))))))))) else none)) else (bb iS iT nA fp (IntKind.i64.wrap (fU + 1))))
termination_by structural n=>n
theorem aI.l3931_P {F:Nat} {H0:Hp} {Ri R0:List Rs}  {C61_:Nat→Nat→Nat→Nat→Sl→Int→Int→Hp→OA} {bb:List (Int×Int)→List (Int×Int)→List (Int×Int×Int×Int×Int)→Int→Int→Option ((List (Int×Int))×(List (Int×Int))×Bool)} (hC61:aI.S61 H0 Ri R0  C61_ bb):∀ k,aI.S3931 H0 Ri R0  (aI.l3931 F (aT.tw F) (bA.tw F) (bB.tw F) (bT.tw F) C61_ k) (aI.pl3931 F bb k):=by
 intro k
 induction k with
 | zero=>
  intro Et Eu Ev Ew Ex xA xB cO xC xD dg xE eA Ey Ez EA EB EC ED EE iS iT EF EG EH EI nA fp fU Ld Le Lf Lg o_ dE dG dH dI dJ cR H Vf Vg Vh Vi Vj h0 r hp
  exact nomatch (show (none:Option ((List (Int×Int))×(List (Int×Int))×Bool)) = some r from hp)
 | succ k ih=>
  intro Et Eu Ev Ew Ex xA xB cO xC xD dg xE eA Ey Ez EA EB EC ED EE iS iT EF EG EH EI nA fp fU Ld Le Lf Lg o_ dE dG dH dI dJ cR H Vf Vg Vh Vi Vj h0 r hp
  obtain ⟨w0,s0,Lh,Li,mN,mO,Lj⟩:=h0
  subst Vf
  subst Vg
  subst Vh
  subst Vi
  subst Vj
  unfold aI.pl3931 at hp
  unfold aI.l3931
  refine bif_ex (fun hb=>?_) (fun hb=>?_)
  ·replace hp:=bif_t hb hp
   obtain ⟨g1,hp⟩:=ifs_p hp
   refine ifs_ex g1 ?_
   refine bind_ex (a:=AV.int .i64 (gt ([dG,dH,dI,dJ]:List Int) (cR:Int).toNat)) (by rw [Nat.mul_one]; exact arr_get (k:=.i64) (l:=[dG,dH,dI,dJ]) rfl (by have:=g1; simp only [List.length_cons,List.length_nil]; omega)) ?_
   refine bind_ex rfl ?_
   refine bind_ex (ldSl_of (w0.ld (i:=5) rfl rfl)) ?_
   refine bind_ex (ldI_of (w0.ld (i:=6) rfl rfl)) ?_
   refine bind_ex (ldI_of (w0.ld (i:=6) rfl rfl)) ?_
   refine bind_ex (ldI_of (w0.ld (i:=6) rfl rfl)) ?_
   refine bind_ex (ldI_of (w0.ld (i:=6) rfl rfl)) ?_
   refine bind_ex (ldI_of (w0.ld (i:=6) rfl rfl)) ?_
   obtain ⟨r2,e2,hp⟩:=bind_some' hp
   refine call_ex (bB.P ⟨w0,trivial⟩ e2) ?_
   rintro _ H3 ⟨rfl,w3,s3,_⟩
   refine bind_ex rfl ?_
   refine bif_ex (fun hb=>?_) (fun hb=>?_)
   ·replace hp:=bif_t hb hp
    refine bind_ex (ldSl_of (w3.ld (i:=5) rfl rfl)) ?_
    obtain ⟨w4,s4⟩:=w3.pick' [4,0,1,2,3,5,6] 7 rfl rfl rfl
    dsimp only [pk,pks,nth,List.drop] at w4 s4
    have f5:=W.borrow1 (ePair (eInt .i64) (eInt .i64)) w4 (mO.step (s3.trans s4))
    obtain ⟨w5,s5⟩:=w4.right1
    obtain ⟨r6,e6,hp⟩:=bind_some' hp
    refine call_ex (bT.P rfl ⟨w5,f5⟩ e6) ?_
    rintro _ H7 ⟨rfl,w7,s7,_⟩
    obtain ⟨w8,s8⟩:=W.frame1 w4 w7 s7
    refine bind_ex rfl ?_
    refine bif_ex (fun hb=>?_) (fun hb=>?_)
    ·replace hp:=bif_t hb hp
     refine bind_ex (ldSl_of (w8.ld (i:=5) rfl rfl)) ?_
     refine bind_ex (ldSl_of (w8.ld (i:=5) rfl rfl)) ?_
     refine st_k w8 (i:=3) rfl rfl rfl fun H9 w9 s9=>?_
     dsimp only [List.set] at w9 s9
     refine st_k w9 (i:=3) rfl rfl rfl fun H10 w10 s10=>?_
     dsimp only [List.set] at w10 s10
     refine bind_ex (ldSl_of (w10.ld (i:=3) rfl rfl)) ?_
     refine bind_ex (ldSl_of (w10.ld (i:=3) rfl rfl)) ?_
     obtain ⟨w11,s11⟩:=w10.pick' [4,0] 7 rfl rfl rfl
     dsimp only [pk,pks,nth,List.drop] at w11 s11
     obtain rfl:=Option.some.inj hp
     exact ⟨_,_,rfl,_,_,_,_,_,_,_,_,rfl,rfl,rfl,w11,(s0.trans (s3.trans (s4.trans (s8.trans (s9.trans (s10.trans s11)))))),(mN.step (s3.trans (s4.trans (s8.trans (s9.trans (s10.trans s11)))))),(mO.step (s3.trans (s4.trans (s8.trans (s9.trans (s10.trans s11))))))⟩
    ·replace hp:=bif_f hb hp
     obtain ⟨n12,g12,hp⟩:=bind_some' hp
     obtain ⟨p12,q12,i12,h12,j12⟩:=W.ixo (E:=(ePair (eInt .i64) (eInt .i64))) w8 (i:=0) rfl rfl (mO.step (s3.trans (s4.trans s8))) g12
     refine bind_ex i12 ?_
     obtain ⟨_,_,rfl,rfl,rfl⟩:=h12
     refine bind_ex (ldI_of (j12 0 _ rfl)) ?_
     refine bif_ex (fun hb=>?_) (fun hb=>?_)
     ·replace hp:=bif_t hb hp
      refine bind_ex (ldSl_of (w8.ld (i:=5) rfl rfl)) ?_
      refine bind_ex (ldSl_of (w8.ld (i:=5) rfl rfl)) ?_
      refine st_k w8 (i:=3) rfl rfl rfl fun H13 w13 s13=>?_
      dsimp only [List.set] at w13 s13
      refine st_k w13 (i:=3) rfl rfl rfl fun H14 w14 s14=>?_
      dsimp only [List.set] at w14 s14
      refine bind_ex (ldSl_of (w14.ld (i:=3) rfl rfl)) ?_
      refine bind_ex (ldSl_of (w14.ld (i:=3) rfl rfl)) ?_
      obtain ⟨w15,s15⟩:=w14.pick' [4,0] 7 rfl rfl rfl
      dsimp only [pk,pks,nth,List.drop] at w15 s15
      obtain rfl:=Option.some.inj hp
      exact ⟨_,_,rfl,_,_,_,_,_,_,_,_,rfl,rfl,rfl,w15,(s0.trans (s3.trans (s4.trans (s8.trans (s13.trans (s14.trans s15)))))),(mN.step (s3.trans (s4.trans (s8.trans (s13.trans (s14.trans s15)))))),(mO.step (s3.trans (s4.trans (s8.trans (s13.trans (s14.trans s15))))))⟩
     ·replace hp:=bif_f hb hp
      obtain ⟨n16,g16,hp⟩:=bind_some' hp
      obtain ⟨p16,q16,i16,h16,j16⟩:=W.ixo (E:=(ePair (eInt .i64) (eInt .i64))) w8 (i:=0) rfl rfl (mO.step (s3.trans (s4.trans s8))) g16
      refine bind_ex i16 ?_
      obtain ⟨l17,e17,hp⟩:=bind_some' hp
      refine sto_k (ePair (eInt .i64) (eInt .i64)) w8 (i:=0) (j:=0) (p:=p16) rfl rfl (mO.step (s3.trans (s4.trans s8))) g16 i16 e17 rfl rfl (fun _ h=>by obtain ⟨_,_,rfl,rfl,rfl⟩:=h; exact ⟨[_],_,rfl,rfl,rfl⟩) fun H18 k18 w18 s18 c18=>?_
      dsimp only [List.set] at w18 s18 c18
      obtain ⟨l19,e19,hp⟩:=bind_some' hp
      refine sto_k (ePair (eInt .i64) (eInt .i64)) w18 (i:=0) (j:=1) (p:=p16) rfl rfl c18 (ix_len g16 (st_len e17)) i16 e19 rfl rfl (fun _ h=>by obtain ⟨_,_,rfl,rfl,rfl⟩:=h; exact ⟨[_],_,rfl,rfl,rfl⟩) fun H20 k20 w20 s20 c20=>?_
      dsimp only [List.set] at w20 s20 c20
      obtain ⟨w21,s21⟩:=w20.pick' [1,2,3,4,0,5,6] 7 rfl rfl rfl
      dsimp only [pk,pks,nth,List.drop] at w21 s21
      exact ih rfl rfl rfl ((st_len e17).symm.trans (st_len e19).symm) rfl ⟨w21,(s0.trans (s3.trans (s4.trans (s8.trans (s18.trans (s20.trans s21)))))),(Lh.step (s3.trans (s4.trans (s8.trans (s18.trans (s20.trans s21)))))),(Li.step (s3.trans (s4.trans (s8.trans (s18.trans (s20.trans s21)))))),(mN.step (s3.trans (s4.trans (s8.trans (s18.trans (s20.trans s21)))))),(c20.step s21),(Lj.step (s3.trans (s4.trans (s8.trans (s18.trans (s20.trans s21))))))⟩ hp
   ·replace hp:=bif_f hb hp
    obtain ⟨w22,s22⟩:=w3.pick' [3,0,1,2,4,5,6] 7 rfl rfl rfl
    dsimp only [pk,pks,nth,List.drop] at w22 s22
    have f23:=W.borrow1 (ePair (eInt .i64) (eInt .i64)) w22 (mN.step (s3.trans s22))
    obtain ⟨w23,s23⟩:=w22.right1
    obtain ⟨r24,e24,hp⟩:=bind_some' hp
    refine call_ex (bT.P rfl ⟨w23,f23⟩ e24) ?_
    rintro _ H25 ⟨rfl,w25,s25,_⟩
    obtain ⟨w26,s26⟩:=W.frame1 w22 w25 s25
    refine bind_ex rfl ?_
    refine bif_ex (fun hb=>?_) (fun hb=>?_)
    ·replace hp:=bif_t hb hp
     refine bind_ex (ldSl_of (w26.ld (i:=5) rfl rfl)) ?_
     refine bind_ex (ldSl_of (w26.ld (i:=5) rfl rfl)) ?_
     refine st_k w26 (i:=3) rfl rfl rfl fun H27 w27 s27=>?_
     dsimp only [List.set] at w27 s27
     refine st_k w27 (i:=3) rfl rfl rfl fun H28 w28 s28=>?_
     dsimp only [List.set] at w28 s28
     refine bind_ex (ldSl_of (w28.ld (i:=3) rfl rfl)) ?_
     refine bind_ex (ldSl_of (w28.ld (i:=3) rfl rfl)) ?_
     obtain ⟨w29,s29⟩:=w28.pick' [0,4] 7 rfl rfl rfl
     dsimp only [pk,pks,nth,List.drop] at w29 s29
     obtain rfl:=Option.some.inj hp
     exact ⟨_,_,rfl,_,_,_,_,_,_,_,_,rfl,rfl,rfl,w29,(s0.trans (s3.trans (s22.trans (s26.trans (s27.trans (s28.trans s29)))))),(mN.step (s3.trans (s22.trans (s26.trans (s27.trans (s28.trans s29)))))),(mO.step (s3.trans (s22.trans (s26.trans (s27.trans (s28.trans s29))))))⟩
    ·replace hp:=bif_f hb hp
     obtain ⟨n30,g30,hp⟩:=bind_some' hp
     obtain ⟨p30,q30,i30,h30,j30⟩:=W.ixo (E:=(ePair (eInt .i64) (eInt .i64))) w26 (i:=0) rfl rfl (mN.step (s3.trans (s22.trans s26))) g30
     refine bind_ex i30 ?_
     obtain ⟨_,_,rfl,rfl,rfl⟩:=h30
     refine bind_ex (ldI_of (j30 0 _ rfl)) ?_
     refine bif_ex (fun hb=>?_) (fun hb=>?_)
     ·replace hp:=bif_t hb hp
      refine bind_ex (ldSl_of (w26.ld (i:=5) rfl rfl)) ?_
      refine bind_ex (ldSl_of (w26.ld (i:=5) rfl rfl)) ?_
      refine st_k w26 (i:=3) rfl rfl rfl fun H31 w31 s31=>?_
      dsimp only [List.set] at w31 s31
      refine st_k w31 (i:=3) rfl rfl rfl fun H32 w32 s32=>?_
      dsimp only [List.set] at w32 s32
      refine bind_ex (ldSl_of (w32.ld (i:=3) rfl rfl)) ?_
      refine bind_ex (ldSl_of (w32.ld (i:=3) rfl rfl)) ?_
      obtain ⟨w33,s33⟩:=w32.pick' [0,4] 7 rfl rfl rfl
      dsimp only [pk,pks,nth,List.drop] at w33 s33
      obtain rfl:=Option.some.inj hp
      exact ⟨_,_,rfl,_,_,_,_,_,_,_,_,rfl,rfl,rfl,w33,(s0.trans (s3.trans (s22.trans (s26.trans (s31.trans (s32.trans s33)))))),(mN.step (s3.trans (s22.trans (s26.trans (s31.trans (s32.trans s33)))))),(mO.step (s3.trans (s22.trans (s26.trans (s31.trans (s32.trans s33))))))⟩
     ·replace hp:=bif_f hb hp
      obtain ⟨n34,g34,hp⟩:=bind_some' hp
      obtain ⟨p34,q34,i34,h34,j34⟩:=W.ixo (E:=(ePair (eInt .i64) (eInt .i64))) w26 (i:=0) rfl rfl (mN.step (s3.trans (s22.trans s26))) g34
      refine bind_ex i34 ?_
      obtain ⟨l35,e35,hp⟩:=bind_some' hp
      refine sto_k (ePair (eInt .i64) (eInt .i64)) w26 (i:=0) (j:=0) (p:=p34) rfl rfl (mN.step (s3.trans (s22.trans s26))) g34 i34 e35 rfl rfl (fun _ h=>by obtain ⟨_,_,rfl,rfl,rfl⟩:=h; exact ⟨[_],_,rfl,rfl,rfl⟩) fun H36 k36 w36 s36 c36=>?_
      dsimp only [List.set] at w36 s36 c36
      obtain ⟨l37,e37,hp⟩:=bind_some' hp
      refine sto_k (ePair (eInt .i64) (eInt .i64)) w36 (i:=0) (j:=1) (p:=p34) rfl rfl c36 (ix_len g34 (st_len e35)) i34 e37 rfl rfl (fun _ h=>by obtain ⟨_,_,rfl,rfl,rfl⟩:=h; exact ⟨[_],_,rfl,rfl,rfl⟩) fun H38 k38 w38 s38 c38=>?_
      dsimp only [List.set] at w38 s38 c38
      obtain ⟨w39,s39⟩:=w38.pick' [1,2,3,0,4,5,6] 7 rfl rfl rfl
      dsimp only [pk,pks,nth,List.drop] at w39 s39
      exact ih rfl rfl ((st_len e35).symm.trans (st_len e37).symm) rfl rfl ⟨w39,(s0.trans (s3.trans (s22.trans (s26.trans (s36.trans (s38.trans s39)))))),(Lh.step (s3.trans (s22.trans (s26.trans (s36.trans (s38.trans s39)))))),(Li.step (s3.trans (s22.trans (s26.trans (s36.trans (s38.trans s39)))))),(c38.step s39),(mO.step (s3.trans (s22.trans (s26.trans (s36.trans (s38.trans s39)))))),(Lj.step (s3.trans (s22.trans (s26.trans (s36.trans (s38.trans s39))))))⟩ hp
  ·replace hp:=bif_f hb hp
   obtain ⟨w40,s40⟩:=w0.pick' [0,1,2,3,4,5] 7 rfl rfl rfl
   dsimp only [pk,pks,nth,List.drop] at w40 s40
   exact hC61 rfl rfl rfl rfl rfl ⟨w40,(s0.trans s40),(Lh.step s40),(Li.step s40),(mN.step s40),(mO.step s40),(Lj.step s40)⟩ hp
def aI.pl61 (F:Nat) :Nat→List (Int×Int)→List (Int×Int)→List (Int×Int×Int×Int×Int)→Int→Int→Option ((List (Int×Int))×(List (Int×Int))×Bool)
 | 0,_,_,_,_,_=>none
 | k + 1,oY,oZ,kE,hT,fW=>(bif (decide (fW < hT)) then ((ix kE fW).bind fun n1=>(bA.p F ((gt kE n1).1) ((gt kE n1).2.1) ((gt kE n1).2.2.1) ((gt kE n1).2.2.2.1)).bind fun r8=>aI.pl3931 F (aI.pl61 F k) F oY oZ kE hT fW ((gt kE n1).2.2.2.2) fW r8.1 r8.2.1 r8.2.2.1 r8.2.2.2 0) else (some (oY,oZ,true)))
termination_by structural n=>n
theorem aI.l61_P {F:Nat} {H0:Hp} {Ri R0:List Rs}  :∀ k,aI.S61 H0 Ri R0  (aI.l61 F (aT.tw F) (bA.tw F) (bB.tw F) (bT.tw F)  k) (aI.pl61 F  k):=by
 intro k
 induction k with
 | zero=>
  intro Ea Ec Ed Ee Ef xv xw fV xx xy cJ xz Eg Eh Ei Ej Ek El Em oY oZ En Eo Er Es kE hT fW H Vk Vl Vm Vn Vo h0 r hp
  exact nomatch (show (none:Option ((List (Int×Int))×(List (Int×Int))×Bool)) = some r from hp)
 | succ k ih=>
  intro Ea Ec Ed Ee Ef xv xw fV xx xy cJ xz Eg Eh Ei Ej Ek El Em oY oZ En Eo Er Es kE hT fW H Vk Vl Vm Vn Vo h0 r hp
  obtain ⟨w0,s0,ahg,ahh,Vp,Vq,Vr⟩:=h0
  subst Vk
  subst Vl
  subst Vm
  subst Vn
  subst Vo
  unfold aI.pl61 at hp
  unfold aI.l61
  refine bif_ex (fun hb=>?_) (fun hb=>?_)
  ·replace hp:=bif_t hb hp
   obtain ⟨n1,g1,hp⟩:=bind_some' hp
   obtain ⟨p1,q1,i1,h1,j1⟩:=ROs.ixr Vr rfl g1
   refine bind_ex i1 ?_
   obtain ⟨_,_,rfl,rfl,_,_,rfl,rfl,_,_,rfl,rfl,_,_,rfl,rfl,rfl⟩:=h1
   refine bind_ex (ldI_of (j1 0 _ rfl)) ?_
   refine bind_ex (ldI_of (j1 1 _ rfl)) ?_
   refine bind_ex (ldI_of (j1 2 _ rfl)) ?_
   refine bind_ex (ldI_of (j1 3 _ rfl)) ?_
   refine bind_ex (ldI_of (j1 4 _ rfl)) ?_
   refine new_k w0 fun H2 w2 s2=>?_
   refine st_k w2 (i:=0) rfl rfl rfl fun H3 w3 s3=>?_
   dsimp only [List.set] at w3 s3
   refine st_k w3 (i:=0) rfl rfl rfl fun H4 w4 s4=>?_
   dsimp only [List.set] at w4 s4
   refine st_k w4 (i:=0) rfl rfl rfl fun H5 w5 s5=>?_
   dsimp only [List.set] at w5 s5
   refine st_k w5 (i:=0) rfl rfl rfl fun H6 w6 s6=>?_
   dsimp only [List.set] at w6 s6
   refine st_k w6 (i:=0) rfl rfl rfl fun H7 w7 s7=>?_
   dsimp only [List.set] at w7 s7
   refine bind_ex (ldI_of (w7.ld (i:=0) rfl rfl)) ?_
   refine bind_ex (ldI_of (w7.ld (i:=0) rfl rfl)) ?_
   refine bind_ex (ldI_of (w7.ld (i:=0) rfl rfl)) ?_
   refine bind_ex (ldI_of (w7.ld (i:=0) rfl rfl)) ?_
   refine bind_ex (ldI_of (w7.ld (i:=0) rfl rfl)) ?_
   obtain ⟨r8,e8,hp⟩:=bind_some' hp
   refine call_ex (bA.P ⟨w7,trivial⟩ e8) ?_
   rintro _ H9 ⟨rfl,w9,s9,_⟩
   refine bind_ex rfl ?_
   refine bind_ex rfl ?_
   refine bind_ex rfl ?_
   refine bind_ex rfl ?_
   refine bind_ex rfl ?_
   refine bind_ex rfl ?_
   refine bind_ex rfl ?_
   refine bind_ex rfl ?_
   refine bind_ex rfl ?_
   obtain ⟨w10,s10⟩:=w9.pick' [1,2,3,4,5,6,0] 7 rfl rfl rfl
   dsimp only [pk,pks,nth,List.drop] at w10 s10
   exact aI.l3931_P (@ih) F rfl rfl rfl rfl rfl ⟨w10,(s0.trans (s2.trans (s3.trans (s4.trans (s5.trans (s6.trans (s7.trans (s9.trans s10)))))))),(ahg.step (s2.trans (s3.trans (s4.trans (s5.trans (s6.trans (s7.trans (s9.trans s10)))))))),(ahh.step (s2.trans (s3.trans (s4.trans (s5.trans (s6.trans (s7.trans (s9.trans s10)))))))),(Vp.step (s2.trans (s3.trans (s4.trans (s5.trans (s6.trans (s7.trans (s9.trans s10)))))))),(Vq.step (s2.trans (s3.trans (s4.trans (s5.trans (s6.trans (s7.trans (s9.trans s10)))))))),(Vr.step (s2.trans (s3.trans (s4.trans (s5.trans (s6.trans (s7.trans (s9.trans s10))))))))⟩ hp
  ·replace hp:=bif_f hb hp
   refine bind_ex (ldSl_of (w0.ld (i:=5) rfl rfl)) ?_
   refine bind_ex (ldSl_of (w0.ld (i:=5) rfl rfl)) ?_
   refine st_k w0 (i:=2) rfl rfl rfl fun H11 w11 s11=>?_
   dsimp only [List.set] at w11 s11
   refine st_k w11 (i:=2) rfl rfl rfl fun H12 w12 s12=>?_
   dsimp only [List.set] at w12 s12
   refine bind_ex (ldSl_of (w12.ld (i:=2) rfl rfl)) ?_
   refine bind_ex (ldSl_of (w12.ld (i:=2) rfl rfl)) ?_
   obtain ⟨w13,s13⟩:=w12.pick' [3,4] 6 rfl rfl rfl
   dsimp only [pk,pks,nth,List.drop] at w13 s13
   obtain rfl:=Option.some.inj hp
   exact ⟨_,_,rfl,_,_,_,_,_,_,_,_,rfl,rfl,rfl,w13,(s0.trans (s11.trans (s12.trans s13))),(Vp.step (s11.trans (s12.trans s13))),(Vq.step (s11.trans (s12.trans s13)))⟩
def aI.p (F:Nat) (af:List (Int×Int×Int×Int×Int)):Option ((List (Int×Int))×(List (Int×Int))×Bool):=(aT.p F ([((-1),0)]:List (Int×Int)) (IntKind.i64.wrap (2 * (af.length:Int)))).bind fun r5=>(aT.p F ([((-1),0)]:List (Int×Int)) (IntKind.i64.wrap (2 * (af.length:Int)))).bind fun r10=>aI.pl61 F F r5 r10 af (af.length:Int) 0
theorem aI.P {F:Nat} {aF:ON} {ay:Nat} {aG:Cap} {af:List (Int×Int×Int×Int×Int)} {ab:Int} {H:Hp} {R0:List Rs} (bm:ay = af.length) (h0:Inn H R0 fun R=>ROs (ePair (eInt .i64) (ePair (eInt .i64) (ePair (eInt .i64) (ePair (eInt .i64) (eInt .i64))))) H R ⟨aF,ay,aG⟩ af) {r:(List (Int×Int))×(List (Int×Int))×Bool} (hp:aI.p F af = some r):∃ v H',aI.tw F ⟨aF,ay,aG⟩ ab H = some (v,H')∧aI.Q H R0 R0  r v H':=by
 obtain ⟨w0,aS⟩:=h0
 subst bm
 unfold aI.p at hp
 unfold aI.tw aI.twX
 have s0:=w0.rf
 refine new_k w0 fun H1 w1 s1=>?_
 refine new_k w1 fun H2 w2 s2=>?_
 refine bind_ex (ldSl_of (w2.ld (i:=1) rfl rfl)) ?_
 refine newS_k (ePair (eInt .i64) (eInt .i64)) w2 (n:=1) (l:=([((-1),0)]:List (Int×Int))) rfl (CR.cons (c:=[_,_]) ⟨[_],_,rfl,rfl,rfl⟩ CR.empty) rfl fun H3 w3 s3 c3=>?_
 have f4:=W.borrow1 (ePair (eInt .i64) (eInt .i64)) w3 c3
 obtain ⟨w4,s4⟩:=w3.right1
 obtain ⟨r5,e5,hp⟩:=bind_some' hp
 refine call_ex (aT.P (show 1 = List.length ([((-1),0)]:List (Int×Int)) from rfl) ⟨w4,f4⟩ e5) ?_
 rintro _ H6 ⟨o0a_6,o0n_6,o0k_6,rfl,rfl,w6,s6,f6_0⟩
 obtain ⟨w7,s7⟩:=W.frame1 w3 w6 s6
 refine bind_ex rfl ?_
 refine newS_k (ePair (eInt .i64) (eInt .i64)) w7 (n:=1) (l:=([((-1),0)]:List (Int×Int))) rfl (CR.cons (c:=[_,_]) ⟨[_],_,rfl,rfl,rfl⟩ CR.empty) rfl fun H8 w8 s8 c8=>?_
 have f9:=W.borrow1 (ePair (eInt .i64) (eInt .i64)) w8 c8
 obtain ⟨w9,s9⟩:=w8.right1
 obtain ⟨r10,e10,hp⟩:=bind_some' hp
 refine call_ex (aT.P (show 1 = List.length ([((-1),0)]:List (Int×Int)) from rfl) ⟨w9,f9⟩ e10) ?_
 rintro _ H11 ⟨o0a_11,o0n_11,o0k_11,rfl,rfl,w11,s11,f11_0⟩
 obtain ⟨w12,s12⟩:=W.frame1 w8 w11 s11
 refine bind_ex rfl ?_
 refine new_k w12 fun H13 w13 s13=>?_
 refine st_k w13 (i:=0) rfl rfl rfl fun H14 w14 s14=>?_
 dsimp only [List.set] at w14 s14
 refine st_k w14 (i:=0) rfl rfl rfl fun H15 w15 s15=>?_
 dsimp only [List.set] at w15 s15
 refine bind_ex (ldSl_of (w15.ld (i:=6) rfl rfl)) ?_
 obtain ⟨w16,s16⟩:=w15.nilS (ePair (eInt .i64) (eInt .i64)).z (by decide)
 obtain ⟨w17,s17⟩:=w16.nilS (ePair (eInt .i64) (eInt .i64)).z (by decide)
 obtain ⟨w18,s18⟩:=w17.pick' [1,0,7,6,4,2] 9 rfl rfl rfl
 dsimp only [pk,pks,nth,List.drop] at w18 s18
 exact aI.l61_P F rfl rfl rfl rfl rfl ⟨w18,(s0.trans (s1.trans (s2.trans (s3.trans (s7.trans (s8.trans (s12.trans (s13.trans (s14.trans (s15.trans (s16.trans (s17.trans s18)))))))))))),((CR.empty:CR (ePair (eInt .i64) (eInt .i64)) _ _ [] []).step (s17.trans s18)),((CR.empty:CR (ePair (eInt .i64) (eInt .i64)) _ _ [] []).step s18),((CR.flat (ePair_flat (eInt_flat .i64) (eInt_flat .i64)) f6_0).step (s8.trans (s12.trans (s13.trans (s14.trans (s15.trans (s16.trans (s17.trans s18)))))))),((CR.flat (ePair_flat (eInt_flat .i64) (eInt_flat .i64)) f11_0).step (s13.trans (s14.trans (s15.trans (s16.trans (s17.trans s18)))))),(aS.step (s1.trans (s2.trans (s3.trans (s7.trans (s8.trans (s12.trans (s13.trans (s14.trans (s15.trans (s16.trans (s17.trans s18))))))))))))⟩ hp
def bL.Q (H0:Hp) (Ri R0:List Rs)  (r:Int×Int) (v:AV) (H':Hp):Prop:=v = (.agg [(.int .i64 r.1),(.int .i64 r.2)])∧Out H0 Ri H' (R0) fun R=>True
def bL.p (F:Nat) (af:List (Int×Int×Int×Int×Int)) (cr:List (Int×Int)) (cD:List (Int×Int)) (aV:Int) (fX:Int):Option (Int×Int):=(ix af aV).bind fun n5=>(bA.p F ((gt af n5).1) ((gt af n5).2.1) ((gt af n5).2.2.1) ((gt af n5).2.2.2.1)).bind fun r12=>(if 0 ≤ fX∧fX < (4:Int) then ((bB.p F ((gt af n5).2.2.2.2) fX).bind fun r16=>(bif r16 then ((ix cr (gt ([r12.1,r12.2.1,r12.2.2.1,r12.2.2.2]:List Int) (fX:Int).toNat)).bind fun n18=>some (((gt cr n18).1),((gt cr n18).2))) else ((ix cD (gt ([r12.1,r12.2.1,r12.2.2.1,r12.2.2.2]:List Int) (fX:Int).toNat)).bind fun n22=>some (((gt cD n22).1),((gt cD n22).2))))) else none)
theorem bL.P {F:Nat} {aF eo fD:ON} {ay cZ dl:Nat} {aG ep fE:Cap} {af:List (Int×Int×Int×Int×Int)} {ab aV fX:Int} {cr cD:List (Int×Int)} {H:Hp} {R0:List Rs} (bm:ay = af.length) (jj:cZ = cr.length) (jJ:dl = cD.length) (h0:Inn H R0 fun R=>ROs (ePair (eInt .i64) (ePair (eInt .i64) (ePair (eInt .i64) (ePair (eInt .i64) (eInt .i64))))) H R ⟨aF,ay,aG⟩ af∧ROs (ePair (eInt .i64) (eInt .i64)) H R ⟨eo,cZ,ep⟩ cr∧ROs (ePair (eInt .i64) (eInt .i64)) H R ⟨fD,dl,fE⟩ cD) {r:Int×Int} (hp:bL.p F af cr cD aV fX = some r):∃ v H',bL.tw F ⟨aF,ay,aG⟩ ab ⟨eo,cZ,ep⟩ ⟨fD,dl,fE⟩ aV fX H = some (v,H')∧bL.Q H R0 R0  r v H':=by
 obtain ⟨w0,aS,gx,hL⟩:=h0
 subst bm
 subst jj
 subst jJ
 unfold bL.p at hp
 unfold bL.tw bL.twX
 have s0:=w0.rf
 refine new_k w0 fun H1 w1 s1=>?_
 refine new_k w1 fun H2 w2 s2=>?_
 refine new_k w2 fun H3 w3 s3=>?_
 refine new_k w3 fun H4 w4 s4=>?_
 refine bind_ex (ldSl_of (w4.ld (i:=3) rfl rfl)) ?_
 refine bind_ex (ldI_of (w4.ld (i:=1) rfl rfl)) ?_
 obtain ⟨n5,g5,hp⟩:=bind_some' hp
 obtain ⟨p5,q5,i5,h5,j5⟩:=ROs.ixr (aS.step (s1.trans (s2.trans (s3.trans s4)))) rfl g5
 refine bind_ex i5 ?_
 obtain ⟨_,_,rfl,rfl,_,_,rfl,rfl,_,_,rfl,rfl,_,_,rfl,rfl,rfl⟩:=h5
 refine bind_ex (ldI_of (j5 0 _ rfl)) ?_
 refine bind_ex (ldI_of (j5 1 _ rfl)) ?_
 refine bind_ex (ldI_of (j5 2 _ rfl)) ?_
 refine bind_ex (ldI_of (j5 3 _ rfl)) ?_
 refine bind_ex (ldI_of (j5 4 _ rfl)) ?_
 refine new_k w4 fun H6 w6 s6=>?_
 refine st_k w6 (i:=0) rfl rfl rfl fun H7 w7 s7=>?_
 dsimp only [List.set] at w7 s7
 refine st_k w7 (i:=0) rfl rfl rfl fun H8 w8 s8=>?_
 dsimp only [List.set] at w8 s8
 refine st_k w8 (i:=0) rfl rfl rfl fun H9 w9 s9=>?_
 dsimp only [List.set] at w9 s9
 refine st_k w9 (i:=0) rfl rfl rfl fun H10 w10 s10=>?_
 dsimp only [List.set] at w10 s10
 refine st_k w10 (i:=0) rfl rfl rfl fun H11 w11 s11=>?_
 dsimp only [List.set] at w11 s11
 refine bind_ex (ldI_of (w11.ld (i:=0) rfl rfl)) ?_
 refine bind_ex (ldI_of (w11.ld (i:=0) rfl rfl)) ?_
 refine bind_ex (ldI_of (w11.ld (i:=0) rfl rfl)) ?_
 refine bind_ex (ldI_of (w11.ld (i:=0) rfl rfl)) ?_
 refine bind_ex (ldI_of (w11.ld (i:=0) rfl rfl)) ?_
 obtain ⟨r12,e12,hp⟩:=bind_some' hp
 refine call_ex (bA.P ⟨w11,trivial⟩ e12) ?_
 rintro _ H13 ⟨rfl,w13,s13,_⟩
 refine bind_ex rfl ?_
 refine bind_ex rfl ?_
 refine bind_ex rfl ?_
 refine bind_ex rfl ?_
 refine bind_ex rfl ?_
 refine bind_ex rfl ?_
 refine bind_ex rfl ?_
 refine bind_ex rfl ?_
 refine bind_ex rfl ?_
 refine ifs_ex (W.cons_of (Rn:=[]) w11 w13 s13) ?_
 refine bind_ex (ldI_of (w13.ld (i:=2) rfl rfl)) ?_
 obtain ⟨g15,hp⟩:=ifs_p hp
 refine ifs_ex g15 ?_
 refine bind_ex (a:=AV.int .i64 (gt ([r12.1,r12.2.1,r12.2.2.1,r12.2.2.2]:List Int) (fX:Int).toNat)) (by rw [Nat.mul_one]; exact arr_get (k:=.i64) (l:=[r12.1,r12.2.1,r12.2.2.1,r12.2.2.2]) rfl (by have:=g15; simp only [List.length_cons,List.length_nil]; omega)) ?_
 refine bind_ex rfl ?_
 refine bind_ex (ldI_of (w13.ld (i:=0) rfl rfl)) ?_
 refine bind_ex (ldI_of (w13.ld (i:=0) rfl rfl)) ?_
 refine bind_ex (ldI_of (w13.ld (i:=0) rfl rfl)) ?_
 refine bind_ex (ldI_of (w13.ld (i:=0) rfl rfl)) ?_
 refine bind_ex (ldI_of (w13.ld (i:=0) rfl rfl)) ?_
 refine bind_ex (ldI_of (w13.ld (i:=2) rfl rfl)) ?_
 obtain ⟨r16,e16,hp⟩:=bind_some' hp
 refine call_ex (bB.P ⟨w13,trivial⟩ e16) ?_
 rintro _ H17 ⟨rfl,w17,s17,_⟩
 refine bind_ex rfl ?_
 refine bif_ex (fun hb=>?_) (fun hb=>?_)
 ·replace hp:=bif_t hb hp
  refine bind_ex (ldSl_of (w17.ld (i:=3) rfl rfl)) ?_
  obtain ⟨n18,g18,hp⟩:=bind_some' hp
  obtain ⟨p18,q18,i18,h18,j18⟩:=ROs.ixr (gx.step (s1.trans (s2.trans (s3.trans (s4.trans (s6.trans (s7.trans (s8.trans (s9.trans (s10.trans (s11.trans (s13.trans s17)))))))))))) rfl g18
  refine bind_ex i18 ?_
  obtain ⟨_,_,rfl,rfl,rfl⟩:=h18
  refine bind_ex (ldI_of (j18 0 _ rfl)) ?_
  refine bind_ex (ldI_of (j18 1 _ rfl)) ?_
  refine st_k w17 (i:=1) rfl rfl rfl fun H19 w19 s19=>?_
  dsimp only [List.set] at w19 s19
  refine st_k w19 (i:=1) rfl rfl rfl fun H20 w20 s20=>?_
  dsimp only [List.set] at w20 s20
  refine bind_ex (ldI_of (w20.ld (i:=1) rfl rfl)) ?_
  refine bind_ex (ldI_of (w20.ld (i:=1) rfl rfl)) ?_
  obtain ⟨w21,s21⟩:=w20.pick' [] 5 rfl rfl rfl
  dsimp only [pk,pks,nth,List.drop] at w21 s21
  obtain rfl:=Option.some.inj hp
  exact ⟨_,_,rfl,rfl,w21,(s0.trans (s1.trans (s2.trans (s3.trans (s4.trans (s6.trans (s7.trans (s8.trans (s9.trans (s10.trans (s11.trans (s13.trans (s17.trans (s19.trans (s20.trans s21))))))))))))))),trivial⟩
 ·replace hp:=bif_f hb hp
  refine bind_ex (ldSl_of (w17.ld (i:=3) rfl rfl)) ?_
  obtain ⟨n22,g22,hp⟩:=bind_some' hp
  obtain ⟨p22,q22,i22,h22,j22⟩:=ROs.ixr (hL.step (s1.trans (s2.trans (s3.trans (s4.trans (s6.trans (s7.trans (s8.trans (s9.trans (s10.trans (s11.trans (s13.trans s17)))))))))))) rfl g22
  refine bind_ex i22 ?_
  obtain ⟨_,_,rfl,rfl,rfl⟩:=h22
  refine bind_ex (ldI_of (j22 0 _ rfl)) ?_
  refine bind_ex (ldI_of (j22 1 _ rfl)) ?_
  refine st_k w17 (i:=1) rfl rfl rfl fun H23 w23 s23=>?_
  dsimp only [List.set] at w23 s23
  refine st_k w23 (i:=1) rfl rfl rfl fun H24 w24 s24=>?_
  dsimp only [List.set] at w24 s24
  refine bind_ex (ldI_of (w24.ld (i:=1) rfl rfl)) ?_
  refine bind_ex (ldI_of (w24.ld (i:=1) rfl rfl)) ?_
  obtain ⟨w25,s25⟩:=w24.pick' [] 5 rfl rfl rfl
  dsimp only [pk,pks,nth,List.drop] at w25 s25
  obtain rfl:=Option.some.inj hp
  exact ⟨_,_,rfl,rfl,w25,(s0.trans (s1.trans (s2.trans (s3.trans (s4.trans (s6.trans (s7.trans (s8.trans (s9.trans (s10.trans (s11.trans (s13.trans (s17.trans (s23.trans (s24.trans s25))))))))))))))),trivial⟩
def aq.Q (H0:Hp) (Ri R0:List Rs)  (r:List (List Int)) (v:AV) (H':Hp):Prop:=∃ o0a:ON,∃ o0n:Nat,∃ o0c:Cap,∃ o0k:List AV,v = (.sl ⟨o0a,o0n,o0c⟩)∧o0n = (r).length∧Out H0 Ri H' (Rs.own ⟨o0a,o0n,o0c⟩ (eSl (eInt .i64)).z o0k :: R0) fun R=>CR (eSl (eInt .i64)) H' R o0k (r)
def aq.S61 (H0:Hp) (Ri R0:List Rs)  (C:Nat→Nat→Nat→Nat→Sl→Sl→Int→Int→Hp→OA) (pC:List (Int×Int×Int×Int×Int)→List (Int×Int)→List (Int×Int)→List (List Int)→List Bool→Int→Int→Option (List (List Int))):Prop:=∀ {EJ EK EL EM EN:ON} {xF hY xG xH di xI xJ:Nat} {EO EP EQ ER ES:Cap} {pX:List (Int×Int×Int×Int×Int)} {Lk hZ gY:Int} {pY pZ:List (Int×Int)} {pa:List (List Int)} {ET EU:List AV} {p_:List Bool},∀ {H:Hp},xF = pX.length→xG = pY.length→xH = pZ.length→xI = pa.length→xJ = p_.length→(Out H0 Ri H (Rs.blk hY [.sl ⟨EJ,xF,EO⟩,.int .i64 Lk] :: Rs.blk di [.sl ⟨EK,xG,EP⟩,.sl ⟨EL,xH,EQ⟩] :: Rs.own ⟨EM,xI,ER⟩ (eSl (eInt .i64)).z ET :: Rs.own ⟨EN,xJ,ES⟩ eBool.z EU :: R0) fun R=>ROs (ePair (eInt .i64) (ePair (eInt .i64) (ePair (eInt .i64) (ePair (eInt .i64) (eInt .i64))))) H R ⟨EJ,xF,EO⟩ pX∧ROs (ePair (eInt .i64) (eInt .i64)) H R ⟨EK,xG,EP⟩ pY∧ROs (ePair (eInt .i64) (eInt .i64)) H R ⟨EL,xH,EQ⟩ pZ∧CR (eSl (eInt .i64)) H R ET pa∧CR eBool H R EU p_)→∀ {r:List (List Int)},pC pX pY pZ pa p_ hZ gY = some r→∃ v H',C hY 0 di 0 ⟨EM,xI,ER⟩ ⟨EN,xJ,ES⟩ hZ gY H = some (v,H')∧aq.Q H0 Ri R0  r v H'
def aq.S15725 (H0:Hp) (Ri R0:List Rs)  (C:Nat→Nat→Nat→Nat→Sl→Sl→Int→Int→Sl→Int→Hp→OA) (pC:List (Int×Int×Int×Int×Int)→List (Int×Int)→List (Int×Int)→List (List Int)→List Bool→Int→Int→List Int→Int→Option (List (List Int))):Prop:=∀ {EV EW EX EY EZ E_:ON} {xK eP xL xM fq xN xO xP:Nat} {Fa Fb Fc Fd Fe Ff:Cap} {nB:List (Int×Int×Int×Int×Int)} {Ll hX iH dK:Int} {nC nD:List (Int×Int)} {pb:List (List Int)} {Fg Fh Fi:List AV} {mj:List Bool} {pc:List Int},∀ {H:Hp},xK = nB.length→xL = nC.length→xM = nD.length→xN = pb.length→xO = mj.length→xP = pc.length→(Out H0 Ri H (Rs.blk eP [.sl ⟨EV,xK,Fa⟩,.int .i64 Ll] :: Rs.blk fq [.sl ⟨EW,xL,Fb⟩,.sl ⟨EX,xM,Fc⟩] :: Rs.own ⟨EY,xN,Fd⟩ (eSl (eInt .i64)).z Fg :: Rs.own ⟨EZ,xO,Fe⟩ eBool.z Fh :: Rs.own ⟨E_,xP,Ff⟩ (eInt .i64).z Fi :: R0) fun R=>ROs (ePair (eInt .i64) (ePair (eInt .i64) (ePair (eInt .i64) (ePair (eInt .i64) (eInt .i64))))) H R ⟨EV,xK,Fa⟩ nB∧ROs (ePair (eInt .i64) (eInt .i64)) H R ⟨EW,xL,Fb⟩ nC∧ROs (ePair (eInt .i64) (eInt .i64)) H R ⟨EX,xM,Fc⟩ nD∧CR (eSl (eInt .i64)) H R Fg pb∧CR eBool H R Fh mj∧CR (eInt .i64) H R Fi pc)→∀ {r:List (List Int)},pC nB nC nD pb mj hX iH pc dK = some r→∃ v H',C eP 0 fq 0 ⟨EY,xN,Fd⟩ ⟨EZ,xO,Fe⟩ hX iH ⟨E_,xP,Ff⟩ dK H = some (v,H')∧aq.Q H0 Ri R0  r v H'
def aq.pj4 (F:Nat) (bb:List (Int×Int×Int×Int×Int)→List (Int×Int)→List (Int×Int)→List (List Int)→List Bool→Int→Int→Option (List (List Int))) (xQ:List (Int×Int×Int×Int×Int)) (xR:List (Int×Int)) (xS:List (Int×Int)) (xT:List (List Int)) (xU:List Bool) (rJ:Int) (rK:Int):Option (List (List Int)):=bb xQ xR xS xT xU rJ (IntKind.i64.wrap (rK + 1))
theorem aq.j4_P {F:Nat} {H0:Hp} {Ri R0:List Rs}  {C61_:Nat→Nat→Nat→Nat→Sl→Sl→Int→Int→Hp→OA} {bb:List (Int×Int×Int×Int×Int)→List (Int×Int)→List (Int×Int)→List (List Int)→List Bool→Int→Int→Option (List (List Int))} (hC61:aq.S61 H0 Ri R0  C61_ bb) {Vs Vt Vu Vv Vw:ON} {Lm Az Ln Lo AA Lp Lq:Nat} {Vx Vy Vz VA VB:Cap} {xQ:List (Int×Int×Int×Int×Int)} {ahi rJ rK:Int} {xR xS:List (Int×Int)} {xT:List (List Int)} {VD VE:List AV} {xU:List Bool} {H:Hp} (ahj:Lm = xQ.length) (ahk:Ln = xR.length) (ahl:Lo = xS.length) (ahm:Lp = xT.length) (ahn:Lq = xU.length) (h0:Out H0 Ri H (Rs.blk Az [.sl ⟨Vs,Lm,Vx⟩,.int .i64 ahi] :: Rs.blk AA [.sl ⟨Vt,Ln,Vy⟩,.sl ⟨Vu,Lo,Vz⟩] :: Rs.own ⟨Vv,Lp,VA⟩ (eSl (eInt .i64)).z VD :: Rs.own ⟨Vw,Lq,VB⟩ eBool.z VE :: R0) fun R=>ROs (ePair (eInt .i64) (ePair (eInt .i64) (ePair (eInt .i64) (ePair (eInt .i64) (eInt .i64))))) H R ⟨Vs,Lm,Vx⟩ xQ∧ROs (ePair (eInt .i64) (eInt .i64)) H R ⟨Vt,Ln,Vy⟩ xR∧ROs (ePair (eInt .i64) (eInt .i64)) H R ⟨Vu,Lo,Vz⟩ xS∧CR (eSl (eInt .i64)) H R VD xT∧CR eBool H R VE xU) {r:List (List Int)} (hp:aq.pj4 F bb xQ xR xS xT xU rJ rK = some r):∃ v H',aq.j4 F (bL.tw F) C61_ Az 0 AA 0 ⟨Vv,Lp,VA⟩ ⟨Vw,Lq,VB⟩ rJ rK H = some (v,H')∧aq.Q H0 Ri R0  r v H':=by
 obtain ⟨w0,s0,aho,ahp,ahq,ahr,ahs⟩:=h0
 subst ahj
 subst ahk
 subst ahl
 subst ahm
 subst ahn
 unfold aq.pj4 at hp
 unfold aq.j4
 exact hC61 rfl rfl rfl rfl rfl ⟨w0,s0,aho,ahp,ahq,ahr,ahs⟩ hp
def aq.pj5 (F:Nat) (bb:List (Int×Int×Int×Int×Int)→List (Int×Int)→List (Int×Int)→List (List Int)→List Bool→Int→Int→Option (List (List Int))) (xV:List (Int×Int×Int×Int×Int)) (xW:List (Int×Int)) (xX:List (Int×Int)) (xY:List (List Int)) (xZ:List Bool) (rL:Int) (rM:Int):Option (List (List Int)):=aq.pj4 F bb xV xW xX xY xZ rL rM
theorem aq.j5_P {F:Nat} {H0:Hp} {Ri R0:List Rs}  {C61_:Nat→Nat→Nat→Nat→Sl→Sl→Int→Int→Hp→OA} {bb:List (Int×Int×Int×Int×Int)→List (Int×Int)→List (Int×Int)→List (List Int)→List Bool→Int→Int→Option (List (List Int))} (hC61:aq.S61 H0 Ri R0  C61_ bb) {VF VG VH VI VJ:ON} {Lr AB Ls Lt qy Lu Lv:Nat} {VK VL VM VN VO:Cap} {xV:List (Int×Int×Int×Int×Int)} {aht rL rM:Int} {xW xX:List (Int×Int)} {xY:List (List Int)} {VP VQ:List AV} {xZ:List Bool} {H:Hp} (ahu:Lr = xV.length) (ahv:Ls = xW.length) (ahw:Lt = xX.length) (ahx:Lu = xY.length) (ahy:Lv = xZ.length) (h0:Out H0 Ri H (Rs.blk AB [.sl ⟨VF,Lr,VK⟩,.int .i64 aht] :: Rs.blk qy [.sl ⟨VG,Ls,VL⟩,.sl ⟨VH,Lt,VM⟩] :: Rs.own ⟨VI,Lu,VN⟩ (eSl (eInt .i64)).z VP :: Rs.own ⟨VJ,Lv,VO⟩ eBool.z VQ :: R0) fun R=>ROs (ePair (eInt .i64) (ePair (eInt .i64) (ePair (eInt .i64) (ePair (eInt .i64) (eInt .i64))))) H R ⟨VF,Lr,VK⟩ xV∧ROs (ePair (eInt .i64) (eInt .i64)) H R ⟨VG,Ls,VL⟩ xW∧ROs (ePair (eInt .i64) (eInt .i64)) H R ⟨VH,Lt,VM⟩ xX∧CR (eSl (eInt .i64)) H R VP xY∧CR eBool H R VQ xZ) {r:List (List Int)} (hp:aq.pj5 F bb xV xW xX xY xZ rL rM = some r):∃ v H',aq.j5 F (bL.tw F) C61_ AB 0 qy 0 ⟨VI,Lu,VN⟩ ⟨VJ,Lv,VO⟩ rL rM H = some (v,H')∧aq.Q H0 Ri R0  r v H':=by
 obtain ⟨w0,s0,ahz,ahA,ahB,ahC,ahD⟩:=h0
 subst ahu
 subst ahv
 subst ahw
 subst ahx
 subst ahy
 unfold aq.pj5 at hp
 unfold aq.j5
 exact aq.j4_P (@hC61) rfl rfl rfl rfl rfl ⟨w0,s0,ahz,ahA,ahB,ahC,ahD⟩ hp
def aq.pj6 (F:Nat) (bb:List (Int×Int×Int×Int×Int)→List (Int×Int)→List (Int×Int)→List (List Int)→List Bool→Int→Int→Option (List (List Int))) (tT:List (Int×Int×Int×Int×Int)) (tU:List (Int×Int)) (tV:List (Int×Int)) (tW:List (List Int)) (tX:List Bool) (pd:List Int) (om:Int) (oo:Int):Option (List (List Int)):=(bif (decide ((pd.length:Int) > 0)) then ((apn tW ([pd]:List (List Int))).bind fun l3=>aq.pj5 F bb tT tU tV l3 tX om oo) else (aq.pj5 F bb tT tU tV tW tX om oo))
theorem aq.j6_P {F:Nat} {H0:Hp} {Ri R0:List Rs}  {C61_:Nat→Nat→Nat→Nat→Sl→Sl→Int→Int→Hp→OA} {bb:List (Int×Int×Int×Int×Int)→List (Int×Int)→List (Int×Int)→List (List Int)→List Bool→Int→Int→Option (List (List Int))} (hC61:aq.S61 H0 Ri R0  C61_ bb) {VR VS VT VU VV VW:ON} {Lw ur Lx Ly ut Lz LA LB:Nat} {VX VY VZ V_ Wa Wb:Cap} {tT:List (Int×Int×Int×Int×Int)} {ahE om oo:Int} {tU tV:List (Int×Int)} {tW:List (List Int)} {Wc Wd We:List AV} {tX:List Bool} {pd:List Int} {H:Hp} (ahF:Lw = tT.length) (ahG:Lx = tU.length) (ahH:Ly = tV.length) (ahI:Lz = tW.length) (ahJ:LA = tX.length) (ahK:LB = pd.length) (h0:Out H0 Ri H (Rs.blk ur [.sl ⟨VR,Lw,VX⟩,.int .i64 ahE] :: Rs.blk ut [.sl ⟨VS,Lx,VY⟩,.sl ⟨VT,Ly,VZ⟩] :: Rs.own ⟨VU,Lz,V_⟩ (eSl (eInt .i64)).z Wc :: Rs.own ⟨VV,LA,Wa⟩ eBool.z Wd :: Rs.own ⟨VW,LB,Wb⟩ (eInt .i64).z We :: R0) fun R=>ROs (ePair (eInt .i64) (ePair (eInt .i64) (ePair (eInt .i64) (ePair (eInt .i64) (eInt .i64))))) H R ⟨VR,Lw,VX⟩ tT∧ROs (ePair (eInt .i64) (eInt .i64)) H R ⟨VS,Lx,VY⟩ tU∧ROs (ePair (eInt .i64) (eInt .i64)) H R ⟨VT,Ly,VZ⟩ tV∧CR (eSl (eInt .i64)) H R Wc tW∧CR eBool H R Wd tX∧CR (eInt .i64) H R We pd) {r:List (List Int)} (hp:aq.pj6 F bb tT tU tV tW tX pd om oo = some r):∃ v H',aq.j6 F (bL.tw F) C61_ ur 0 ut 0 ⟨VU,Lz,V_⟩ ⟨VV,LA,Wa⟩ ⟨VW,LB,Wb⟩ om oo H = some (v,H')∧aq.Q H0 Ri R0  r v H':=by
 obtain ⟨w0,s0,Wf,Wg,Wh,Wi,Wj,ahL⟩:=h0
 subst ahF
 subst ahG
 subst ahH
 subst ahI
 subst ahJ
 subst ahK
 unfold aq.pj6 at hp
 unfold aq.j6
 refine bif_ex (fun hb=>?_) (fun hb=>?_)
 ·replace hp:=bif_t hb hp
  obtain ⟨w1,s1,f1⟩:=w0.frz (i:=4) (eInt .i64) rfl ahL
  dsimp only [List.eraseIdx] at w1 s1 f1
  refine newS_k (eSl (eInt .i64)) w1 (n:=1) (l:=([pd]:List (List Int))) rfl (CR.cons1 ⟨_,rfl,f1⟩ CR.empty) rfl fun H2 w2 s2 c2=>?_
  refine bind_ex (w2.rowo (i:=0) rfl) ?_
  obtain ⟨l3,e3,hp⟩:=bind_some' hp
  refine app_k (eSl (eInt .i64)) w2 (i:=3) rfl rfl (Wi.step (s1.trans s2)) c2 (show 1 = List.length ([pd]:List (List Int)) from rfl) rfl e3 fun a4 d4 H4 w4 s4 c4 x4=>?_
  dsimp only [List.set] at w4 s4 c4
  obtain ⟨w5,s5⟩:=w4.pick' [1,2,3,4] 5 rfl rfl rfl
  dsimp only [pk,pks,nth,List.drop] at w5 s5
  exact aq.j5_P (@hC61) rfl rfl rfl rfl rfl ⟨w5,(s0.trans (s1.trans (s2.trans (s4.trans s5)))),(Wf.step (s1.trans (s2.trans (s4.trans s5)))),(Wg.step (s1.trans (s2.trans (s4.trans s5)))),(Wh.step (s1.trans (s2.trans (s4.trans s5)))),(c4.step s5),(Wj.step (s1.trans (s2.trans (s4.trans s5))))⟩ hp
 ·replace hp:=bif_f hb hp
  obtain ⟨w6,s6⟩:=w0.pick' [0,1,2,3] 5 rfl rfl rfl
  dsimp only [pk,pks,nth,List.drop] at w6 s6
  exact aq.j5_P (@hC61) rfl rfl rfl rfl rfl ⟨w6,(s0.trans s6),(Wf.step s6),(Wg.step s6),(Wh.step s6),(Wi.step s6),(Wj.step s6)⟩ hp
def aq.pl15725 (F:Nat) (bb:List (Int×Int×Int×Int×Int)→List (Int×Int)→List (Int×Int)→List (List Int)→List Bool→Int→Int→Option (List (List Int))):Nat→List (Int×Int×Int×Int×Int)→List (Int×Int)→List (Int×Int)→List (List Int)→List Bool→Int→Int→List Int→Int→Option (List (List Int))
 | 0,_,_,_,_,_,_,_,_,_=>none
 | k + 1,nB,nC,nD,pb,mj,hX,iH,pc,dK=>(ix mj dK).bind fun n1=>(bif (!(gt mj n1)) then ((ix mj dK).bind fun n2=>(some (mj.set n2 true)).bind fun l3=>(apn pc ([dK]:List Int)).bind fun l6=>(bL.p F nB nC nD (IntKind.i64.wrap (Int.tdiv dK 4)) (Int.tmod (IntKind.i64.wrap (dK + 1)) 4)).bind fun r8=>aq.pl15725 F bb k nB nC nD pb l3 hX iH l6 (IntKind.i64.wrap ((IntKind.i64.wrap (4 * r8.1)) + r8.2))) else (aq.pj6 F bb nB nC nD pb mj pc hX iH))
termination_by structural n=>n
theorem aq.l15725_P {F:Nat} {H0:Hp} {Ri R0:List Rs}  {C61_:Nat→Nat→Nat→Nat→Sl→Sl→Int→Int→Hp→OA} {bb:List (Int×Int×Int×Int×Int)→List (Int×Int)→List (Int×Int)→List (List Int)→List Bool→Int→Int→Option (List (List Int))} (hC61:aq.S61 H0 Ri R0  C61_ bb):∀ k,aq.S15725 H0 Ri R0  (aq.l15725 F (bL.tw F) C61_ k) (aq.pl15725 F bb k):=by
 intro k
 induction k with
 | zero=>
  intro EV EW EX EY EZ E_ xK eP xL xM fq xN xO xP Fa Fb Fc Fd Fe Ff nB Ll hX iH dK nC nD pb Fg Fh Fi mj pc H Wk Wl Wm Wn Wo Wp h0 r hp
  exact nomatch (show (none:Option (List (List Int))) = some r from hp)
 | succ k ih=>
  intro EV EW EX EY EZ E_ xK eP xL xM fq xN xO xP Fa Fb Fc Fd Fe Ff nB Ll hX iH dK nC nD pb Fg Fh Fi mj pc H Wk Wl Wm Wn Wo Wp h0 r hp
  obtain ⟨w0,s0,LC,LD,LE,Wq,Fj,Wr⟩:=h0
  subst Wk
  subst Wl
  subst Wm
  subst Wn
  subst Wo
  subst Wp
  unfold aq.pl15725 at hp
  unfold aq.l15725
  obtain ⟨n1,g1,hp⟩:=bind_some' hp
  obtain ⟨p1,q1,i1,h1,j1⟩:=W.ixo (E:=eBool) w0 (i:=3) rfl rfl Fj g1
  refine bind_ex i1 ?_
  have h1:_ = [_]:=h1
  subst h1
  refine bind_ex (ldB_of (j1 0 _ rfl)) ?_
  refine bif_ex (fun hb=>?_) (fun hb=>?_)
  ·replace hp:=bif_t hb hp
   obtain ⟨n2,g2,hp⟩:=bind_some' hp
   obtain ⟨p2,q2,i2,h2,j2⟩:=W.ixo (E:=eBool) w0 (i:=3) rfl rfl Fj g2
   refine bind_ex i2 ?_
   obtain ⟨l3,e3,hp⟩:=bind_some' hp
   refine sto_k eBool w0 (i:=3) (j:=0) (p:=p2) rfl rfl Fj g2 i2 e3 rfl rfl (fun _ h=>by have h:_ = [_]:=h; subst h; exact rfl) fun H4 k4 w4 s4 c4=>?_
   dsimp only [List.set] at w4 s4 c4
   refine newS_k (eInt .i64) w4 (n:=1) (l:=([dK]:List Int)) rfl (CR.cons1 rfl CR.empty) rfl fun H5 w5 s5 c5=>?_
   refine bind_ex (w5.rowo (i:=0) rfl) ?_
   obtain ⟨l6,e6,hp⟩:=bind_some' hp
   refine app_k (eInt .i64) w5 (i:=5) rfl rfl (Wr.step (s4.trans s5)) c5 (show 1 = List.length ([dK]:List Int) from rfl) rfl e6 fun a7 d7 H7 w7 s7 c7 x7=>?_
   dsimp only [List.set] at w7 s7 c7
   refine bind_ex (ldSl_of (w7.ld (i:=1) rfl rfl)) ?_
   refine bind_ex (ldI_of (w7.ld (i:=1) rfl rfl)) ?_
   refine bind_ex (ldSl_of (w7.ld (i:=2) rfl rfl)) ?_
   refine bind_ex (ldSl_of (w7.ld (i:=2) rfl rfl)) ?_
   obtain ⟨r8,e8,hp⟩:=bind_some' hp
   refine call_ex (bL.P rfl rfl rfl ⟨w7,(LC.step (s4.trans (s5.trans s7))),(LD.step (s4.trans (s5.trans s7))),(LE.step (s4.trans (s5.trans s7)))⟩ e8) ?_
   rintro _ H9 ⟨rfl,w9,s9,_⟩
   refine bind_ex rfl ?_
   refine bind_ex rfl ?_
   refine bind_ex rfl ?_
   refine bind_ex rfl ?_
   refine bind_ex rfl ?_
   refine new_k w9 fun H10 w10 s10=>?_
   refine st_k w10 (i:=0) rfl rfl rfl fun H11 w11 s11=>?_
   dsimp only [List.set] at w11 s11
   refine st_k w11 (i:=0) rfl rfl rfl fun H12 w12 s12=>?_
   dsimp only [List.set] at w12 s12
   refine bind_ex (ldI_of (w12.ld (i:=0) rfl rfl)) ?_
   refine bind_ex (ldI_of (w12.ld (i:=0) rfl rfl)) ?_
   obtain ⟨w13,s13⟩:=w12.pick' [2,3,4,5,6] 7 rfl rfl rfl
   dsimp only [pk,pks,nth,List.drop] at w13 s13
   exact ih rfl rfl rfl rfl ((st_len e3).symm) rfl ⟨w13,(s0.trans (s4.trans (s5.trans (s7.trans (s9.trans (s10.trans (s11.trans (s12.trans s13)))))))),(LC.step (s4.trans (s5.trans (s7.trans (s9.trans (s10.trans (s11.trans (s12.trans s13)))))))),(LD.step (s4.trans (s5.trans (s7.trans (s9.trans (s10.trans (s11.trans (s12.trans s13)))))))),(LE.step (s4.trans (s5.trans (s7.trans (s9.trans (s10.trans (s11.trans (s12.trans s13)))))))),(Wq.step (s4.trans (s5.trans (s7.trans (s9.trans (s10.trans (s11.trans (s12.trans s13)))))))),(c4.step (s5.trans (s7.trans (s9.trans (s10.trans (s11.trans (s12.trans s13))))))),(c7.step (s9.trans (s10.trans (s11.trans (s12.trans s13)))))⟩ hp
  ·replace hp:=bif_f hb hp
   exact aq.j6_P (@hC61) rfl rfl rfl rfl rfl rfl ⟨w0,s0,LC,LD,LE,Wq,Fj,Wr⟩ hp
def aq.pl61 (F:Nat) :Nat→List (Int×Int×Int×Int×Int)→List (Int×Int)→List (Int×Int)→List (List Int)→List Bool→Int→Int→Option (List (List Int))
 | 0,_,_,_,_,_,_,_=>none
 | k + 1,pX,pY,pZ,pa,p_,hZ,gY=>(bif (decide (gY < hZ)) then (aq.pl15725 F (aq.pl61 F k) F pX pY pZ pa p_ hZ gY ([]:List Int) gY) else (some pa))
termination_by structural n=>n
theorem aq.l61_P {F:Nat} {H0:Hp} {Ri R0:List Rs}  :∀ k,aq.S61 H0 Ri R0  (aq.l61 F (bL.tw F)  k) (aq.pl61 F  k):=by
 intro k
 induction k with
 | zero=>
  intro EJ EK EL EM EN xF hY xG xH di xI xJ EO EP EQ ER ES pX Lk hZ gY pY pZ pa ET EU p_ H Ws Wt Wu Wv Ww h0 r hp
  exact nomatch (show (none:Option (List (List Int))) = some r from hp)
 | succ k ih=>
  intro EJ EK EL EM EN xF hY xG xH di xI xJ EO EP EQ ER ES pX Lk hZ gY pY pZ pa ET EU p_ H Ws Wt Wu Wv Ww h0 r hp
  obtain ⟨w0,s0,ahM,ahN,ahO,Wx,ahP⟩:=h0
  subst Ws
  subst Wt
  subst Wu
  subst Wv
  subst Ww
  unfold aq.pl61 at hp
  unfold aq.l61
  refine bif_ex (fun hb=>?_) (fun hb=>?_)
  ·replace hp:=bif_t hb hp
   obtain ⟨w1,s1⟩:=w0.nilS (eInt .i64).z (by decide)
   obtain ⟨w2,s2⟩:=w1.pick' [1,2,3,4,0] 5 rfl rfl rfl
   dsimp only [pk,pks,nth,List.drop] at w2 s2
   exact aq.l15725_P (@ih) F rfl rfl rfl rfl rfl rfl ⟨w2,(s0.trans (s1.trans s2)),(ahM.step (s1.trans s2)),(ahN.step (s1.trans s2)),(ahO.step (s1.trans s2)),(Wx.step (s1.trans s2)),(ahP.step (s1.trans s2)),((CR.empty:CR (eInt .i64) _ _ [] []).step s2)⟩ hp
  ·replace hp:=bif_f hb hp
   obtain ⟨w3,s3⟩:=w0.pick' [2] 4 rfl rfl rfl
   dsimp only [pk,pks,nth,List.drop] at w3 s3
   obtain rfl:=Option.some.inj hp
   exact ⟨_,_,rfl,_,_,_,_,rfl,rfl,w3,(s0.trans s3),(Wx.step s3)⟩
def aq.p (F:Nat) (af:List (Int×Int×Int×Int×Int)) (cr:List (Int×Int)) (cD:List (Int×Int)):Option (List (List Int)):=(mkn (IntKind.i64.wrap (4 * (af.length:Int))) false).bind fun l3=>aq.pl61 F F af cr cD ([]:List (List Int)) l3 (l3.length:Int) 0
theorem aq.P {F:Nat} {aF eo fD:ON} {ay cZ dl:Nat} {aG ep fE:Cap} {af:List (Int×Int×Int×Int×Int)} {ab:Int} {cr cD:List (Int×Int)} {H:Hp} {R0:List Rs} (bm:ay = af.length) (jj:cZ = cr.length) (jJ:dl = cD.length) (h0:Inn H R0 fun R=>ROs (ePair (eInt .i64) (ePair (eInt .i64) (ePair (eInt .i64) (ePair (eInt .i64) (eInt .i64))))) H R ⟨aF,ay,aG⟩ af∧ROs (ePair (eInt .i64) (eInt .i64)) H R ⟨eo,cZ,ep⟩ cr∧ROs (ePair (eInt .i64) (eInt .i64)) H R ⟨fD,dl,fE⟩ cD) {r:List (List Int)} (hp:aq.p F af cr cD = some r):∃ v H',aq.tw F ⟨aF,ay,aG⟩ ab ⟨eo,cZ,ep⟩ ⟨fD,dl,fE⟩ H = some (v,H')∧aq.Q H R0 R0  r v H':=by
 obtain ⟨w0,aS,gx,hL⟩:=h0
 subst bm
 subst jj
 subst jJ
 unfold aq.p at hp
 unfold aq.tw aq.twX
 have s0:=w0.rf
 refine new_k w0 fun H1 w1 s1=>?_
 refine new_k w1 fun H2 w2 s2=>?_
 refine bind_ex (ldSl_of (w2.ld (i:=1) rfl rfl)) ?_
 obtain ⟨l3,e3,hp⟩:=bind_some' hp
 refine mk_k eBool false w2 rfl rfl rfl e3 fun H4 k4 w4 s4 c4=>?_
 obtain ⟨w5,s5⟩:=w4.nilS (eSl (eInt .i64)).z (by decide)
 obtain ⟨w6,s6⟩:=w5.pick' [3,2,0,1] 4 rfl rfl rfl
 dsimp only [pk,pks,nth,List.drop] at w6 s6
 exact aq.l61_P F rfl rfl rfl rfl rfl ⟨w6,(s0.trans (s1.trans (s2.trans (s4.trans (s5.trans s6))))),(aS.step (s1.trans (s2.trans (s4.trans (s5.trans s6))))),(gx.step (s1.trans (s2.trans (s4.trans (s5.trans s6))))),(hL.step (s1.trans (s2.trans (s4.trans (s5.trans s6))))),((CR.empty:CR (eSl (eInt .i64)) _ _ [] []).step s6),(c4.step (s5.trans s6))⟩ hp
def cp.Q (H0:Hp) (Ri R0:List Rs)  (r:Int) (v:AV) (H':Hp):Prop:=v = (.int .i64 r)∧Out H0 Ri H' (R0) fun R=>True
def cp.p (F:Nat) (af:List (List Int)):Option (Int):=some (af.length:Int)
theorem cp.P {F:Nat} {aF:ON} {ay:Nat} {aG:Cap} {af:List (List Int)} {H:Hp} {R0:List Rs} (bm:ay = af.length) (h0:Inn H R0 fun R=>ROs (eSl (eInt .i64)) H R ⟨aF,ay,aG⟩ af) {r:Int} (hp:cp.p F af = some r):∃ v H',cp.tw F ⟨aF,ay,aG⟩ H = some (v,H')∧cp.Q H R0 R0  r v H':=by
 obtain ⟨w0,aS⟩:=h0
 subst bm
 unfold cp.p at hp
 unfold cp.tw cp.twX
 have s0:=w0.rf
 obtain rfl:=Option.some.inj hp
 exact ⟨_,_,rfl,rfl,w0,s0,trivial⟩
def bf.Q (H0:Hp) (Ri R0:List Rs)  (r:List Int) (v:AV) (H':Hp):Prop:=∃ o0a:ON,∃ o0n:Nat,∃ o0c:Cap,∃ o0k:List AV,v = (.sl ⟨o0a,o0n,o0c⟩)∧o0n = (r).length∧Out H0 Ri H' (Rs.own ⟨o0a,o0n,o0c⟩ (eInt .i64).z o0k :: R0) fun R=>CR (eInt .i64) H' R o0k (r)
def bf.S29 (H0:Hp) (Ri R0:List Rs)  (C:Sl→Int→Int→Hp→OA) (pC:List Int→Int→Int→Option (List Int)):Prop:=∀ {Fk:ON} {x_:Nat} {Fl:Cap} {pe:List Int} {Fm:List AV} {h_ fY:Int},∀ {H:Hp},x_ = pe.length→(Out H0 Ri H (Rs.own ⟨Fk,x_,Fl⟩ (eInt .i64).z Fm :: R0) fun R=>CR (eInt .i64) H R Fm pe)→∀ {r:List Int},pC pe h_ fY = some r→∃ v H',C ⟨Fk,x_,Fl⟩ h_ fY H = some (v,H')∧bf.Q H0 Ri R0  r v H'
def bf.pl29 (F:Nat) :Nat→List Int→Int→Int→Option (List Int)
 | 0,_,_,_=>none
 | k + 1,pe,h_,fY=>(bif (decide (fY < h_)) then ((apn pe ([fY]:List Int)).bind fun l2=>bf.pl29 F k l2 h_ (IntKind.i64.wrap (fY + 1))) else (some pe))
termination_by structural n=>n
theorem bf.l29_P {F:Nat} {H0:Hp} {Ri R0:List Rs}  :∀ k,bf.S29 H0 Ri R0  (bf.l29 F   k) (bf.pl29 F  k):=by
 intro k
 induction k with
 | zero=>
  intro Fk x_ Fl pe Fm h_ fY H Wy h0 r hp
  exact nomatch (show (none:Option (List Int)) = some r from hp)
 | succ k ih=>
  intro Fk x_ Fl pe Fm h_ fY H Wy h0 r hp
  obtain ⟨w0,s0,Wz⟩:=h0
  subst Wy
  unfold bf.pl29 at hp
  unfold bf.l29
  refine bif_ex (fun hb=>?_) (fun hb=>?_)
  ·replace hp:=bif_t hb hp
   refine newS_k (eInt .i64) w0 (n:=1) (l:=([fY]:List Int)) rfl (CR.cons1 rfl CR.empty) rfl fun H1 w1 s1 c1=>?_
   refine bind_ex (w1.rowo (i:=0) rfl) ?_
   obtain ⟨l2,e2,hp⟩:=bind_some' hp
   refine app_k (eInt .i64) w1 (i:=1) rfl rfl (Wz.step s1) c1 (show 1 = List.length ([fY]:List Int) from rfl) rfl e2 fun a3 d3 H3 w3 s3 c3 x3=>?_
   dsimp only [List.set] at w3 s3 c3
   obtain ⟨w4,s4⟩:=w3.pick' [1] 2 rfl rfl rfl
   dsimp only [pk,pks,nth,List.drop] at w4 s4
   exact ih rfl ⟨w4,(s0.trans (s1.trans (s3.trans s4))),(c3.step s4)⟩ hp
  ·replace hp:=bif_f hb hp
   obtain rfl:=Option.some.inj hp
   exact ⟨_,_,rfl,_,_,_,_,rfl,rfl,w0,s0,Wz⟩
def bf.p (F:Nat) (aa:Int):Option (List Int):=bf.pl29 F F ([]:List Int) aa 0
theorem bf.P {F:Nat} {aa:Int} {H:Hp} {R0:List Rs}  (h0:Inn H R0 fun R=>True) {r:List Int} (hp:bf.p F aa = some r):∃ v H',bf.tw F aa H = some (v,H')∧bf.Q H R0 R0  r v H':=by
 obtain ⟨w0,_⟩:=h0
 unfold bf.p at hp
 unfold bf.tw bf.twX
 have s0:=w0.rf
 obtain ⟨w1,s1⟩:=w0.nilS (eInt .i64).z (by decide)
 exact bf.l29_P F rfl ⟨w1,(s0.trans s1),(CR.empty:CR (eInt .i64) _ _ [] [])⟩ hp
def aQ.Q (H0:Hp) (Ri R0:List Rs) (aF:ON) (ay:Nat) (aG:Cap) (ya:Bool) (yb yc:List AV) (r:List Int) (v:AV) (H':Hp):Prop:=∃ WA:List AV,v = (.tup [])∧ay = (r).length∧Out H0 Ri H' (Rs.ow ya ⟨aF,ay,aG⟩ (eInt .i64).z yb WA yc :: R0) fun R=>CR (eInt .i64) H' R WA (r)
def aQ.S7 (H0:Hp) (Ri R0:List Rs) (k_:ON) (kd:Nat) (la:Cap) (pf:Bool) (pg ph:List AV) (C:Sl→Int→Int→Sl→Int→Int→Hp→OA) (pC:List Int→Int→Int→Int→Int→Option (List Int)):Prop:=∀ {fb:List Int} {Fn:List AV} {eQ ft gE eR:Int},∀ {H:Hp},kd = fb.length→(Out H0 Ri H (Rs.ow pf ⟨k_,kd,la⟩ (eInt .i64).z pg Fn ph :: R0) fun R=>CR (eInt .i64) H R Fn fb)→∀ {r:List Int},pC fb eQ ft gE eR = some r→∃ v H',C ⟨k_,kd,la⟩ eQ ft ⟨k_,kd,la⟩ gE eR H = some (v,H')∧aQ.Q H0 Ri R0 k_ kd la pf pg ph r v H'
def aQ.pj2 (F:Nat) (Fo:List Int→Int→Int→Int→Int→Option (List Int)) (yd:List Int) (rN:Int) (rO:Int) (rP:Int) (rQ:Int):Option (List Int):=Fo yd rN rO rP (IntKind.i64.wrap (rQ + 1))
theorem aQ.j2_P {F:Nat} {H0:Hp} {Ri R0:List Rs} {k_:ON} {kd:Nat} {la:Cap} {pf:Bool} {pg ph:List AV} {C7_:Sl→Int→Int→Sl→Int→Int→Hp→OA} {Fo:List Int→Int→Int→Int→Int→Option (List Int)} (hC7:aQ.S7 H0 Ri R0 k_ kd la pf pg ph C7_ Fo) {yd:List Int} {WB:List AV} {rN rO rP rQ:Int} {H:Hp} (ahQ:kd = yd.length) (h0:Out H0 Ri H (Rs.ow pf ⟨k_,kd,la⟩ (eInt .i64).z pg WB ph :: R0) fun R=>CR (eInt .i64) H R WB yd) {r:List Int} (hp:aQ.pj2 F Fo yd rN rO rP rQ = some r):∃ v H',aQ.j2 F  C7_ ⟨k_,kd,la⟩ rN rO ⟨k_,kd,la⟩ rP rQ H = some (v,H')∧aQ.Q H0 Ri R0 k_ kd la pf pg ph r v H':=by
 obtain ⟨w0,s0,ahR⟩:=h0
 subst ahQ
 unfold aQ.pj2 at hp
 unfold aQ.j2
 exact hC7 rfl ⟨w0,s0,ahR⟩ hp
def aQ.pl7 (F:Nat) :Nat→List Int→Int→Int→Int→Int→Option (List Int)
 | 0,_,_,_,_,_=>none
 | k + 1,fb,eQ,ft,gE,eR=>(bif (decide (eR < gE)) then ((ix fb eR).bind fun n1=>(bif ((gt fb n1) == eQ) then ((ix fb eR).bind fun n2=>(some (fb.set n2 ft)).bind fun l3=>aQ.pj2 F (aQ.pl7 F k) l3 eQ ft gE eR) else (aQ.pj2 F (aQ.pl7 F k) fb eQ ft gE eR))) else (some fb))
termination_by structural n=>n
theorem aQ.l7_P {F:Nat} {H0:Hp} {Ri R0:List Rs} {k_:ON} {kd:Nat} {la:Cap} {pf:Bool} {pg ph:List AV} :∀ k,aQ.S7 H0 Ri R0 k_ kd la pf pg ph (aQ.l7 F   k) (aQ.pl7 F  k):=by
 intro k
 induction k with
 | zero=>
  intro fb Fn eQ ft gE eR H ye h0 r hp
  exact nomatch (show (none:Option (List Int)) = some r from hp)
 | succ k ih=>
  intro fb Fn eQ ft gE eR H ye h0 r hp
  obtain ⟨w0,s0,pi⟩:=h0
  subst ye
  unfold aQ.pl7 at hp
  unfold aQ.l7
  refine bif_ex (fun hb=>?_) (fun hb=>?_)
  ·replace hp:=bif_t hb hp
   obtain ⟨n1,g1,hp⟩:=bind_some' hp
   obtain ⟨p1,q1,i1,h1,j1⟩:=W.ixo (E:=(eInt .i64)) w0 (i:=0) rfl rfl pi g1
   refine bind_ex i1 ?_
   have h1:_ = [_]:=h1
   subst h1
   refine bind_ex (ldI_of (j1 0 _ rfl)) ?_
   refine bif_ex (fun hb=>?_) (fun hb=>?_)
   ·replace hp:=bif_t hb hp
    obtain ⟨n2,g2,hp⟩:=bind_some' hp
    obtain ⟨p2,q2,i2,h2,j2⟩:=W.ixo (E:=(eInt .i64)) w0 (i:=0) rfl rfl pi g2
    refine bind_ex i2 ?_
    obtain ⟨l3,e3,hp⟩:=bind_some' hp
    refine sto_k (eInt .i64) w0 (i:=0) (j:=0) (p:=p2) rfl rfl pi g2 i2 e3 rfl rfl (fun _ h=>by have h:_ = [_]:=h; subst h; exact rfl) fun H4 k4 w4 s4 c4=>?_
    dsimp only [List.set] at w4 s4 c4
    exact aQ.j2_P (@ih) ((st_len e3).symm) ⟨w4,(s0.trans s4),c4⟩ hp
   ·replace hp:=bif_f hb hp
    exact aQ.j2_P (@ih) rfl ⟨w0,s0,pi⟩ hp
  ·replace hp:=bif_f hb hp
   obtain rfl:=Option.some.inj hp
   exact ⟨_,_,rfl,_,rfl,rfl,w0,s0,pi⟩
def aQ.p (F:Nat) (af:List Int) (ak:Int) (bF:Int):Option (List Int):=(ix af bF).bind fun n1=>(ix af ak).bind fun n2=>aQ.pl7 F F af (gt af n1) (gt af n2) (af.length:Int) 0
theorem aQ.P {F:Nat} {aF:ON} {ay:Nat} {aG:Cap} {af:List Int} {ya:Bool} {yb yc LF:List AV} {ak bF:Int} {H:Hp} {R0:List Rs} (bm:ay = af.length) (h0:Inn H (Rs.ow ya ⟨aF,ay,aG⟩ (eInt .i64).z yb LF yc :: R0) fun R=>CR (eInt .i64) H R LF af) {r:List Int} (hp:aQ.p F af ak bF = some r):∃ v H',aQ.tw F ⟨aF,ay,aG⟩ ak bF H = some (v,H')∧aQ.Q H (Rs.ow ya ⟨aF,ay,aG⟩ (eInt .i64).z yb LF yc :: R0) R0 aF ay aG ya yb yc r v H':=by
 obtain ⟨w0,aS⟩:=h0
 subst bm
 unfold aQ.p at hp
 unfold aQ.tw aQ.twX
 have s0:=w0.rf
 obtain ⟨n1,g1,hp⟩:=bind_some' hp
 obtain ⟨p1,q1,i1,h1,j1⟩:=W.ixo (E:=(eInt .i64)) w0 (i:=0) rfl rfl aS g1
 refine bind_ex i1 ?_
 have h1:_ = [_]:=h1
 subst h1
 refine bind_ex (ldI_of (j1 0 _ rfl)) ?_
 obtain ⟨n2,g2,hp⟩:=bind_some' hp
 obtain ⟨p2,q2,i2,h2,j2⟩:=W.ixo (E:=(eInt .i64)) w0 (i:=0) rfl rfl aS g2
 refine bind_ex i2 ?_
 have h2:_ = [_]:=h2
 subst h2
 refine bind_ex (ldI_of (j2 0 _ rfl)) ?_
 exact aQ.l7_P F rfl ⟨w0,s0,aS⟩ hp
def dv.Q (H0:Hp) (Ri R0:List Rs)  (r:List Int) (v:AV) (H':Hp):Prop:=∃ o0a:ON,∃ o0n:Nat,∃ o0c:Cap,∃ o0k:List AV,v = (.sl ⟨o0a,o0n,o0c⟩)∧o0n = (r).length∧Out H0 Ri H' (Rs.own ⟨o0a,o0n,o0c⟩ (eInt .i64).z o0k :: R0) fun R=>CR (eInt .i64) H' R o0k (r)
def dv.p (F:Nat) (af:List Int):Option (List Int):=(if af.length ≤ 4294967296∧wfs af = true then some (nums af) else none)
theorem dv.P {F:Nat} {aF:ON} {ay:Nat} {aG:Cap} {af:List Int} {H:Hp} {R0:List Rs} (bm:ay = af.length) (h0:Inn H R0 fun R=>ROs (eInt .i64) H R ⟨aF,ay,aG⟩ af) {r:List Int} (hp:dv.p F af = some r):∃ v H',dv.tw F ⟨aF,ay,aG⟩ H = some (v,H')∧dv.Q H R0 R0  r v H':=by
 obtain ⟨w0,f0⟩:=h0
 subst bm
 unfold dv.p at hp
 unfold dv.tw numTw
 have s0:=w0.rf
 obtain ⟨hc,hp⟩:=ifs_p hp
 have hp:=Option.some.inj hp
 obtain ⟨xs,hx,cx⟩:=f0.row rfl
 refine bind_ex hx ?_
 obtain rfl:=cx.ints_eq
 refine bind_ex (asInts_map _) ?_
 refine ifs_ex hc ?_
 by_cases hz:af.length = 0
 ·rw [if_pos hz]
  obtain ⟨w1,s1⟩:=w0.nilS (eInt .i64).z (by decide)
  obtain rfl:r = []:=List.length_eq_zero_iff.1 (by rw [← hp,nums_len,hz])
  exact ⟨_,_,rfl,none,0,.ex 0,[],rfl,rfl,w1,s0.trans s1,CR.empty⟩
 ·rw [if_neg hz]
  obtain ⟨H2,e2,w2,s2⟩:=w0.newF ((nums af).map (AV.int .i64)) af.length (eInt .i64).z (by rw [List.length_map,nums_len]; exact (Nat.mul_one _).symm) (by decide)
  subst e2
  subst hp
  exact ⟨_,_,rfl,some (_,0),_,.full 1,_,rfl,(nums_len _).symm,w2,s0.trans s2,CR.ints _ _ _ _⟩
def aK.Q (H0:Hp) (Ri R0:List Rs)  (r:List Int) (v:AV) (H':Hp):Prop:=∃ o0a:ON,∃ o0n:Nat,∃ o0c:Cap,∃ o0k:List AV,v = (.sl ⟨o0a,o0n,o0c⟩)∧o0n = (r).length∧Out H0 Ri H' (Rs.own ⟨o0a,o0n,o0c⟩ (eInt .i64).z o0k :: R0) fun R=>CR (eInt .i64) H' R o0k (r)
def aK.S29 (H0:Hp) (Ri R0:List Rs)  (C:Nat→Nat→Sl→Sl→Int→Int→Hp→OA) (pC:List (Int×Int)→List (Int×Int)→List Int→Int→Int→Option (List Int)):Prop:=∀ {yf Fp np:ON} {tY yg ia lZ:Nat} {yh Fq nq:Cap} {nE nF:List (Int×Int)} {iQ:List Int} {nu:List AV} {ib gb:Int},∀ {H:Hp},tY = nE.length→yg = nF.length→lZ = iQ.length→(Out H0 Ri H (Rs.blk ia [.sl ⟨yf,tY,yh⟩,.sl ⟨Fp,yg,Fq⟩] :: Rs.own ⟨np,lZ,nq⟩ (eInt .i64).z nu :: R0) fun R=>ROs (ePair (eInt .i64) (eInt .i64)) H R ⟨yf,tY,yh⟩ nE∧ROs (ePair (eInt .i64) (eInt .i64)) H R ⟨Fp,yg,Fq⟩ nF∧CR (eInt .i64) H R nu iQ)→∀ {r:List Int},pC nE nF iQ ib gb = some r→∃ v H',C ia 0 ⟨np,lZ,nq⟩ ⟨yf,tY,yh⟩ ib gb H = some (v,H')∧aK.Q H0 Ri R0  r v H'
def aK.pl29 (F:Nat) :Nat→List (Int×Int)→List (Int×Int)→List Int→Int→Int→Option (List Int)
 | 0,_,_,_,_,_=>none
 | k + 1,nE,nF,iQ,ib,gb=>(bif (decide (gb < ib)) then ((ix nE gb).bind fun n1=>(ix nF gb).bind fun n5=>(aQ.p F iQ ((gt nE n1).1) ((gt nF n5).1)).bind fun r7=>aK.pl29 F k nE nF r7 ib (IntKind.i64.wrap (gb + 1))) else ((dv.p F iQ).bind fun r12=>some r12))
termination_by structural n=>n
theorem aK.l29_P {F:Nat} {H0:Hp} {Ri R0:List Rs}  :∀ k,aK.S29 H0 Ri R0  (aK.l29 F (bx.tw F) (bf.tw F) (aQ.tw F) (dv.tw F)  k) (aK.pl29 F  k):=by
 intro k
 induction k with
 | zero=>
  intro yf Fp np tY yg ia lZ yh Fq nq nE nF iQ nu ib gb H WC WD xb h0 r hp
  exact nomatch (show (none:Option (List Int)) = some r from hp)
 | succ k ih=>
  intro yf Fp np tY yg ia lZ yh Fq nq nE nF iQ nu ib gb H WC WD xb h0 r hp
  obtain ⟨w0,s0,WE,WF,tO⟩:=h0
  subst WC
  subst WD
  subst xb
  unfold aK.pl29 at hp
  unfold aK.l29
  refine bif_ex (fun hb=>?_) (fun hb=>?_)
  ·replace hp:=bif_t hb hp
   obtain ⟨n1,g1,hp⟩:=bind_some' hp
   obtain ⟨p1,q1,i1,h1,j1⟩:=ROs.ixr WE rfl g1
   refine bind_ex i1 ?_
   obtain ⟨_,_,rfl,rfl,rfl⟩:=h1
   refine bind_ex (ldI_of (j1 0 _ rfl)) ?_
   refine bind_ex (ldI_of (j1 1 _ rfl)) ?_
   refine new_k w0 fun H2 w2 s2=>?_
   refine st_k w2 (i:=0) rfl rfl rfl fun H3 w3 s3=>?_
   dsimp only [List.set] at w3 s3
   refine st_k w3 (i:=0) rfl rfl rfl fun H4 w4 s4=>?_
   dsimp only [List.set] at w4 s4
   refine bind_ex (ldI_of (w4.ld (i:=0) rfl rfl)) ?_
   refine bind_ex (ldSl_of (w4.ld (i:=1) rfl rfl)) ?_
   obtain ⟨n5,g5,hp⟩:=bind_some' hp
   obtain ⟨p5,q5,i5,h5,j5⟩:=ROs.ixr (WF.step (s2.trans (s3.trans s4))) rfl g5
   refine bind_ex i5 ?_
   obtain ⟨_,_,rfl,rfl,rfl⟩:=h5
   refine bind_ex (ldI_of (j5 0 _ rfl)) ?_
   obtain ⟨w6,s6⟩:=w4.pick' [2,0,1] 3 rfl rfl rfl
   dsimp only [pk,pks,nth,List.drop] at w6 s6
   obtain ⟨r7,e7,hp⟩:=bind_some' hp
   refine call_ex (aQ.P rfl ⟨w6,(tO.step (s2.trans (s3.trans (s4.trans s6))))⟩ e7) ?_
   rintro _ H8 ⟨akd,rfl,hl8_0,w8,s8,f8_0⟩
   obtain ⟨w9,s9⟩:=w8.pick' [2,0] 3 rfl rfl rfl
   dsimp only [pk,pks,nth,List.drop] at w9 s9
   exact ih rfl rfl hl8_0 ⟨w9,(s0.trans (s2.trans (s3.trans (s4.trans (s6.trans (s8.trans s9)))))),(WE.step (s2.trans (s3.trans (s4.trans (s6.trans (s8.trans s9)))))),(WF.step (s2.trans (s3.trans (s4.trans (s6.trans (s8.trans s9)))))),(f8_0.step s9)⟩ hp
  ·replace hp:=bif_f hb hp
   obtain ⟨w10,s10⟩:=w0.pick' [1,0] 2 rfl rfl rfl
   dsimp only [pk,pks,nth,List.drop] at w10 s10
   have f11:=W.borrow1 (eInt .i64) w10 (tO.step s10)
   obtain ⟨w11,s11⟩:=w10.right1
   obtain ⟨r12,e12,hp⟩:=bind_some' hp
   refine call_ex (dv.P rfl ⟨w11,f11⟩ e12) ?_
   rintro _ H13 ⟨o0a_13,o0n_13,o0c_13,o0k_13,rfl,rfl,w13,s13,f13_0⟩
   obtain ⟨w14,s14⟩:=W.frame1 w10 w13 s13
   refine bind_ex rfl ?_
   obtain ⟨w15,s15⟩:=w14.pick' [1] 3 rfl rfl rfl
   dsimp only [pk,pks,nth,List.drop] at w15 s15
   obtain rfl:=Option.some.inj hp
   exact ⟨_,_,rfl,_,_,_,_,rfl,rfl,w15,(s0.trans (s10.trans (s14.trans s15))),((CR.flat (eInt_flat .i64) f13_0).step s15)⟩
def aK.p (F:Nat) (af:List (Int×Int×Int×Int×Int)) (cr:List (Int×Int)) (cD:List (Int×Int)):Option (List Int):=(bx.p F af).bind fun r3=>(bf.p F r3).bind fun r5=>aK.pl29 F F cr cD r5 (cr.length:Int) 0
theorem aK.P {F:Nat} {aF eo fD:ON} {ay cZ dl:Nat} {aG ep fE:Cap} {af:List (Int×Int×Int×Int×Int)} {ab:Int} {cr cD:List (Int×Int)} {H:Hp} {R0:List Rs} (bm:ay = af.length) (jj:cZ = cr.length) (jJ:dl = cD.length) (h0:Inn H R0 fun R=>ROs (ePair (eInt .i64) (ePair (eInt .i64) (ePair (eInt .i64) (ePair (eInt .i64) (eInt .i64))))) H R ⟨aF,ay,aG⟩ af∧ROs (ePair (eInt .i64) (eInt .i64)) H R ⟨eo,cZ,ep⟩ cr∧ROs (ePair (eInt .i64) (eInt .i64)) H R ⟨fD,dl,fE⟩ cD) {r:List Int} (hp:aK.p F af cr cD = some r):∃ v H',aK.tw F ⟨aF,ay,aG⟩ ab ⟨eo,cZ,ep⟩ ⟨fD,dl,fE⟩ H = some (v,H')∧aK.Q H R0 R0  r v H':=by
 obtain ⟨w0,aS,gx,hL⟩:=h0
 subst bm
 subst jj
 subst jJ
 unfold aK.p at hp
 unfold aK.tw aK.twX
 have s0:=w0.rf
 refine new_k w0 fun H1 w1 s1=>?_
 refine new_k w1 fun H2 w2 s2=>?_
 refine bind_ex (ldSl_of (w2.ld (i:=1) rfl rfl)) ?_
 obtain ⟨r3,e3,hp⟩:=bind_some' hp
 refine call_ex (bx.P rfl ⟨w2,(aS.step (s1.trans s2))⟩ e3) ?_
 rintro _ H4 ⟨rfl,w4,s4,_⟩
 refine bind_ex rfl ?_
 obtain ⟨r5,e5,hp⟩:=bind_some' hp
 refine call_ex (bf.P ⟨w4,trivial⟩ e5) ?_
 rintro _ H6 ⟨o0a_6,o0n_6,o0c_6,o0k_6,rfl,rfl,w6,s6,f6_0⟩
 refine bind_ex rfl ?_
 refine bind_ex (ldSl_of (w6.ld (i:=1) rfl rfl)) ?_
 obtain ⟨w7,s7⟩:=w6.pick' [1,0] 3 rfl rfl rfl
 dsimp only [pk,pks,nth,List.drop] at w7 s7
 exact aK.l29_P F rfl rfl rfl ⟨w7,(s0.trans (s1.trans (s2.trans (s4.trans (s6.trans s7))))),(gx.step (s1.trans (s2.trans (s4.trans (s6.trans s7))))),(hL.step (s1.trans (s2.trans (s4.trans (s6.trans s7))))),(f6_0.step s7)⟩ hp
def aX.Q (H0:Hp) (Ri R0:List Rs)  (r:Int) (v:AV) (H':Hp):Prop:=v = (.int .i64 r)∧Out H0 Ri H' (R0) fun R=>True
def aX.S61 (H0:Hp) (Ri R0:List Rs)  (C:Sl→Int→Int→Hp→OA) (pC:List Int→Int→Int→Option (Int)):Prop:=∀ {Fr:ON} {yi:Nat} {Fs:Cap} {fb:List Int} {dd gZ:Int},∀ {H:Hp},yi = fb.length→(Out H0 Ri H R0 fun R=>ROs (eInt .i64) H R ⟨Fr,yi,Fs⟩ fb)→∀ {r:Int},pC fb dd gZ = some r→∃ v H',C ⟨Fr,yi,Fs⟩ dd gZ H = some (v,H')∧aX.Q H0 Ri R0  r v H'
def aX.pl61 (F:Nat) :Nat→List Int→Int→Int→Option (Int)
 | 0,_,_,_=>none
 | k + 1,fb,dd,gZ=>(bif (decide (gZ < (fb.length:Int))) then ((ix fb gZ).bind fun n1=>aX.pl61 F k fb (if (gt fb n1) > dd then (gt fb n1) else dd) (IntKind.i64.wrap (gZ + 1))) else (some dd))
termination_by structural n=>n
theorem aX.l61_P {F:Nat} {H0:Hp} {Ri R0:List Rs}  :∀ k,aX.S61 H0 Ri R0  (aX.l61 F   k) (aX.pl61 F  k):=by
 intro k
 induction k with
 | zero=>
  intro Fr yi Fs fb dd gZ H ye h0 r hp
  exact nomatch (show (none:Option (Int)) = some r from hp)
 | succ k ih=>
  intro Fr yi Fs fb dd gZ H ye h0 r hp
  obtain ⟨w0,s0,pi⟩:=h0
  subst ye
  unfold aX.pl61 at hp
  unfold aX.l61
  refine bif_ex (fun hb=>?_) (fun hb=>?_)
  ·replace hp:=bif_t hb hp
   obtain ⟨n1,g1,hp⟩:=bind_some' hp
   obtain ⟨p1,q1,i1,h1,j1⟩:=ROs.ixr pi rfl g1
   refine bind_ex i1 ?_
   have h1:_ = [_]:=h1
   subst h1
   refine bind_ex (ldI_of (j1 0 _ rfl)) ?_
   exact ih rfl ⟨w0,s0,pi⟩ hp
  ·replace hp:=bif_f hb hp
   obtain rfl:=Option.some.inj hp
   exact ⟨_,_,rfl,rfl,w0,s0,trivial⟩
def aX.pj1 (F:Nat)  (qd:List Int):Option (Int):=(ix qd 0).bind fun n1=>aX.pl61 F F qd (gt qd n1) 1
theorem aX.j1_P {F:Nat} {H0:Hp} {Ri R0:List Rs}   {WG:ON} {LG:Nat} {WH:Cap} {qd:List Int} {H:Hp} (ahS:LG = qd.length) (h0:Out H0 Ri H R0 fun R=>ROs (eInt .i64) H R ⟨WG,LG,WH⟩ qd) {r:Int} (hp:aX.pj1 F  qd = some r):∃ v H',aX.j1 F   ⟨WG,LG,WH⟩ H = some (v,H')∧aX.Q H0 Ri R0  r v H':=by
 obtain ⟨w0,s0,WI⟩:=h0
 subst ahS
 unfold aX.pj1 at hp
 unfold aX.j1
 obtain ⟨n1,g1,hp⟩:=bind_some' hp
 obtain ⟨p1,q1,i1,h1,j1⟩:=ROs.ixr WI rfl g1
 refine bind_ex i1 ?_
 have h1:_ = [_]:=h1
 subst h1
 refine bind_ex (ldI_of (j1 0 _ rfl)) ?_
 exact aX.l61_P F rfl ⟨w0,s0,WI⟩ hp
def aX.p (F:Nat) (af:List Int):Option (Int):=(bif (decide ((af.length:Int) < 1)) then (none) else (aX.pj1 F af))
theorem aX.P {F:Nat} {aF:ON} {ay:Nat} {aG:Cap} {af:List Int} {H:Hp} {R0:List Rs} (bm:ay = af.length) (h0:Inn H R0 fun R=>ROs (eInt .i64) H R ⟨aF,ay,aG⟩ af) {r:Int} (hp:aX.p F af = some r):∃ v H',aX.tw F ⟨aF,ay,aG⟩ H = some (v,H')∧aX.Q H R0 R0  r v H':=by
 obtain ⟨w0,aS⟩:=h0
 subst bm
 unfold aX.p at hp
 unfold aX.tw aX.twX
 have s0:=w0.rf
 refine bif_ex (fun hb=>?_) (fun hb=>?_)
 ·replace hp:=bif_t hb hp
  cases hp
 ·replace hp:=bif_f hb hp
  exact aX.j1_P rfl ⟨w0,s0,aS⟩ hp
def bj.Q (H0:Hp) (Ri R0:List Rs)  (r:Int) (v:AV) (H':Hp):Prop:=v = (.int .i64 r)∧Out H0 Ri H' (R0) fun R=>True
def bj.p (F:Nat) (af:List Int):Option (Int):=(bif ((af.length:Int) == 0) then (some 0) else ((aX.p F af).bind fun r1=>some (IntKind.i64.wrap (r1 + 1))))
theorem bj.P {F:Nat} {aF:ON} {ay:Nat} {aG:Cap} {af:List Int} {H:Hp} {R0:List Rs} (bm:ay = af.length) (h0:Inn H R0 fun R=>ROs (eInt .i64) H R ⟨aF,ay,aG⟩ af) {r:Int} (hp:bj.p F af = some r):∃ v H',bj.tw F ⟨aF,ay,aG⟩ H = some (v,H')∧bj.Q H R0 R0  r v H':=by
 obtain ⟨w0,aS⟩:=h0
 subst bm
 unfold bj.p at hp
 unfold bj.tw bj.twX
 have s0:=w0.rf
 refine bif_ex (fun hb=>?_) (fun hb=>?_)
 ·replace hp:=bif_t hb hp
  obtain rfl:=Option.some.inj hp
  exact ⟨_,_,rfl,rfl,w0,s0,trivial⟩
 ·replace hp:=bif_f hb hp
  obtain ⟨r1,e1,hp⟩:=bind_some' hp
  refine call_ex (aX.P rfl ⟨w0,aS⟩ e1) ?_
  rintro _ H2 ⟨rfl,w2,s2,_⟩
  refine bind_ex rfl ?_
  obtain rfl:=Option.some.inj hp
  exact ⟨_,_,rfl,rfl,w2,(s0.trans s2),trivial⟩
def bv.Q (H0:Hp) (Ri R0:List Rs)  (r:(List (Int×Int))×(List (Int×Int))×Bool) (v:AV) (H':Hp):Prop:=∃ o0a:ON,∃ o0n:Nat,∃ o0c:Cap,∃ o1a:ON,∃ o1n:Nat,∃ o1c:Cap,v = (.tup [(.agg [(.sl ⟨o0a,o0n,o0c⟩),(.sl ⟨o1a,o1n,o1c⟩)]),(.bool r.2.2)])∧o0n = (r.1).length∧o1n = (r.2.1).length∧Out H0 Ri H' (R0) fun R=>ROs (ePair (eInt .i64) (eInt .i64)) H' R ⟨o0a,o0n,o0c⟩ (r.1)∧ROs (ePair (eInt .i64) (eInt .i64)) H' R ⟨o1a,o1n,o1c⟩ (r.2.1)
def bv.p (F:Nat) (af:List (Int×Int×Int×Int×Int)) (ab:Int):Option ((List (Int×Int))×(List (Int×Int))×Bool):=(bx.p F af).bind fun r3=>(bif (decide (r3 > 10)) then (some (([]:List (Int×Int)),([]:List (Int×Int)),false)) else ((bD.p F ab 0 8).bind fun r12=>(bif (!r12) then (some (([]:List (Int×Int)),([]:List (Int×Int)),false)) else ((bY.p F af).bind fun r21=>(bif r21 then (some (([]:List (Int×Int)),([]:List (Int×Int)),false)) else ((aI.p F af).bind fun r30=>(bif (!r30.2.2) then (some (([]:List (Int×Int)),([]:List (Int×Int)),false)) else ((aq.p F af r30.1 r30.2.1).bind fun r44=>(cp.p F r44).bind fun r48=>(aK.p F af r30.1 r30.2.1).bind fun r52=>(bj.p F r52).bind fun r55=>(bif (r48 != (IntKind.i64.wrap (r3 + (IntKind.i64.wrap (2 * r55))))) then (some (([]:List (Int×Int)),([]:List (Int×Int)),false)) else (some (r30.1,r30.2.1,true)))))))))))
end
end Go.Proofs.Ytppbogklbhfboaa.AE
