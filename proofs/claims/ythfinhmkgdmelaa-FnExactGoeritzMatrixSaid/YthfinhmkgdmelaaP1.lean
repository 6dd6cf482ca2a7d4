import Derived.Test.YthfinhmkgdmelaaT2
import Derived.Test.YthfinhmkgdmelaaE2
set_option linter.unusedVariables false
set_option linter.unusedSimpArgs false
namespace Go.Proofs.Ythfinhmkgdmelaa.AE
open Go Go.AE Go.Proofs
set_option linter.unusedVariables false
set_option maxHeartbeats 4000000
set_option maxRecDepth 100000
theorem bO.inl {F:Nat} {aa:Int} {ab:Int} {ay:Sl} {av:Int} {bH:Int} {H:Hp} {K:AV×Hp→OA} {Q:AV→Hp→Prop} (h:∃ u H1,((Hp.new H [(.int .i64 aa),(.int .i64 ab),(.sl ay)]).bind fun H6=>(Hp.ldSl H6 H.length 2).bind fun s7=>(Hp.ldI H6 .i64 H.length 1).bind fun n8=>(Sl.idx s7 (IntKind.i64.wrap ((IntKind.i64.wrap (av * n8)) + bH)) 1).bind fun p9=>some ((.ptr p9.1 p9.2),H6)) = some (u,H1)∧∃ v H',K (u,H1) = some (v,H')∧Q v H'):∃ v H',(bO.tw F aa ab ay av bH H).bind K = some (v,H')∧Q v H':=inl_ex h
def bW.Q (H0:Hp) (Ri R0:List Rs)  (r:Int) (v:AV) (H':Hp):Prop:=v = (.int .i64 r)∧Out H0 Ri H' (R0) fun R=>True
def bW.p (F:Nat) (ae:List (Int×Int×Int×Int×Int)) (af:Int):Option (Int):=(bif (decide ((IntKind.i64.wrap (af - (ae.length:Int))) < 0)) then (some (-1)) else (some (IntKind.i64.wrap (af - (ae.length:Int)))))
theorem bW.P {F:Nat} {az:ON} {ap:Nat} {aA:Cap} {ae:List (Int×Int×Int×Int×Int)} {af:Int} {H:Hp} {R0:List Rs} (aW:ap = ae.length) (h0:Inn H R0 fun R=>ROs (ePair (eInt .i64) (ePair (eInt .i64) (ePair (eInt .i64) (ePair (eInt .i64) (eInt .i64))))) H R ⟨az,ap,aA⟩ ae) {r:Int} (hp:bW.p F ae af = some r):∃ v H',bW.tw F ⟨az,ap,aA⟩ af H = some (v,H')∧bW.Q H R0 R0  r v H':=by
 obtain ⟨w0,aK⟩:=h0
 subst aW
 unfold bW.p at hp
 unfold bW.tw bW.twX
 have s0:=w0.rf
 refine bif_ex (fun hb=>?_) (fun hb=>?_)
 ·replace hp:=bif_t hb hp
  obtain rfl:=Option.some.inj hp
  exact ⟨_,_,rfl,rfl,w0,s0,trivial⟩
 ·replace hp:=bif_f hb hp
  obtain rfl:=Option.some.inj hp
  exact ⟨_,_,rfl,rfl,w0,s0,trivial⟩
def bN.Q (H0:Hp) (Ri R0:List Rs)  (r:Int) (v:AV) (H':Hp):Prop:=v = (.int .i64 r)∧Out H0 Ri H' (R0) fun R=>True
def bN.p (F:Nat) (ae:List (Int×Int×Int×Int×Int)) (ah:Int):Option (Int):=(bW.p F ae ah).bind fun r2=>(bif (decide (r2 < 0)) then (some (-1)) else (some r2))
theorem bN.P {F:Nat} {az:ON} {ap:Nat} {aA:Cap} {ae:List (Int×Int×Int×Int×Int)} {ab ah:Int} {H:Hp} {R0:List Rs} (aW:ap = ae.length) (h0:Inn H R0 fun R=>ROs (ePair (eInt .i64) (ePair (eInt .i64) (ePair (eInt .i64) (ePair (eInt .i64) (eInt .i64))))) H R ⟨az,ap,aA⟩ ae) {r:Int} (hp:bN.p F ae ah = some r):∃ v H',bN.tw F ⟨az,ap,aA⟩ ab ah H = some (v,H')∧bN.Q H R0 R0  r v H':=by
 obtain ⟨w0,aK⟩:=h0
 subst aW
 unfold bN.p at hp
 unfold bN.tw bN.twX
 have s0:=w0.rf
 refine new_k w0 fun H1 w1 s1=>?_
 refine bind_ex (ldSl_of (w1.ld (i:=0) rfl rfl)) ?_
 obtain ⟨r2,e2,hp⟩:=bind_some' hp
 refine call_ex (bW.P rfl ⟨w1,(aK.step s1)⟩ e2) ?_
 rintro _ H3 ⟨rfl,w3,s3,_⟩
 refine bind_ex rfl ?_
 refine bif_ex (fun hb=>?_) (fun hb=>?_)
 ·replace hp:=bif_t hb hp
  obtain ⟨w4,s4⟩:=w3.pick' [] 1 rfl rfl rfl
  dsimp only [pk,pks,nth,List.drop] at w4 s4
  obtain rfl:=Option.some.inj hp
  exact ⟨_,_,rfl,rfl,w4,(s0.trans (s1.trans (s3.trans s4))),trivial⟩
 ·replace hp:=bif_f hb hp
  obtain ⟨w5,s5⟩:=w3.pick' [] 1 rfl rfl rfl
  dsimp only [pk,pks,nth,List.drop] at w5 s5
  obtain rfl:=Option.some.inj hp
  exact ⟨_,_,rfl,rfl,w5,(s0.trans (s1.trans (s3.trans s5))),trivial⟩
def bX.Q (H0:Hp) (Ri R0:List Rs)  (r:Int×Int×Int×Int×Int) (v:AV) (H':Hp):Prop:=v = (.agg [(.int .i64 r.1),(.int .i64 r.2.1),(.int .i64 r.2.2.1),(.int .i64 r.2.2.2.1),(.int .i64 r.2.2.2.2)])∧Out H0 Ri H' (R0) fun R=>True
def bX.p (F:Nat) (aa:Int) (ab:Int) (ay:Int) (aJ:Int) (aG:Int):Option (Int×Int×Int×Int×Int):=some (aa,ab,ay,aJ,aG)
theorem bX.P {F:Nat} {aa ab ay aJ aG:Int} {H:Hp} {R0:List Rs}  (h0:Inn H R0 fun R=>True) {r:Int×Int×Int×Int×Int} (hp:bX.p F aa ab ay aJ aG = some r):∃ v H',bX.tw F aa ab ay aJ aG H = some (v,H')∧bX.Q H R0 R0  r v H':=by
 obtain ⟨w0,_⟩:=h0
 unfold bX.p at hp
 unfold bX.tw bX.twX
 have s0:=w0.rf
 refine new_k w0 fun H1 w1 s1=>?_
 refine new_k w1 fun H2 w2 s2=>?_
 refine new_k w2 fun H3 w3 s3=>?_
 refine bind_ex (ldI_of (w3.ld (i:=2) rfl rfl)) ?_
 refine st_k w3 (i:=0) rfl rfl rfl fun H4 w4 s4=>?_
 dsimp only [List.set] at w4 s4
 refine bind_ex (ldI_of (w4.ld (i:=2) rfl rfl)) ?_
 refine st_k w4 (i:=0) rfl rfl rfl fun H5 w5 s5=>?_
 dsimp only [List.set] at w5 s5
 refine bind_ex (ldI_of (w5.ld (i:=2) rfl rfl)) ?_
 refine st_k w5 (i:=0) rfl rfl rfl fun H6 w6 s6=>?_
 dsimp only [List.set] at w6 s6
 refine bind_ex (ldI_of (w6.ld (i:=2) rfl rfl)) ?_
 refine st_k w6 (i:=0) rfl rfl rfl fun H7 w7 s7=>?_
 dsimp only [List.set] at w7 s7
 refine bind_ex (ldI_of (w7.ld (i:=2) rfl rfl)) ?_
 refine st_k w7 (i:=0) rfl rfl rfl fun H8 w8 s8=>?_
 dsimp only [List.set] at w8 s8
 refine bind_ex (ldI_of (w8.ld (i:=0) rfl rfl)) ?_
 refine bind_ex (ldI_of (w8.ld (i:=0) rfl rfl)) ?_
 refine bind_ex (ldI_of (w8.ld (i:=0) rfl rfl)) ?_
 refine bind_ex (ldI_of (w8.ld (i:=0) rfl rfl)) ?_
 refine bind_ex (ldI_of (w8.ld (i:=0) rfl rfl)) ?_
 refine st_k w8 (i:=1) rfl rfl rfl fun H9 w9 s9=>?_
 dsimp only [List.set] at w9 s9
 refine st_k w9 (i:=1) rfl rfl rfl fun H10 w10 s10=>?_
 dsimp only [List.set] at w10 s10
 refine st_k w10 (i:=1) rfl rfl rfl fun H11 w11 s11=>?_
 dsimp only [List.set] at w11 s11
 refine st_k w11 (i:=1) rfl rfl rfl fun H12 w12 s12=>?_
 dsimp only [List.set] at w12 s12
 refine st_k w12 (i:=1) rfl rfl rfl fun H13 w13 s13=>?_
 dsimp only [List.set] at w13 s13
 refine bind_ex (ldI_of (w13.ld (i:=1) rfl rfl)) ?_
 refine bind_ex (ldI_of (w13.ld (i:=1) rfl rfl)) ?_
 refine bind_ex (ldI_of (w13.ld (i:=1) rfl rfl)) ?_
 refine bind_ex (ldI_of (w13.ld (i:=1) rfl rfl)) ?_
 refine bind_ex (ldI_of (w13.ld (i:=1) rfl rfl)) ?_
 obtain ⟨w14,s14⟩:=w13.pick' [] 3 rfl rfl rfl
 dsimp only [pk,pks,nth,List.drop] at w14 s14
 obtain rfl:=Option.some.inj hp
 exact ⟨_,_,rfl,rfl,w14,(s0.trans (s1.trans (s2.trans (s3.trans (s4.trans (s5.trans (s6.trans (s7.trans (s8.trans (s9.trans (s10.trans (s11.trans (s12.trans (s13.trans s14)))))))))))))),trivial⟩
def ba.Q (H0:Hp) (Ri R0:List Rs)  (r:(List (Int×Int×Int×Int×Int))) (v:AV) (H':Hp):Prop:=∃ o0a:ON,∃ o0n:Nat,∃ o0c:Cap,∃ o0k:List AV,v = (.sl ⟨o0a,o0n,o0c⟩)∧o0n = (r).length∧Out H0 Ri H' (Rs.own ⟨o0a,o0n,o0c⟩ (ePair (eInt .i64) (ePair (eInt .i64) (ePair (eInt .i64) (ePair (eInt .i64) (eInt .i64))))).z o0k :: R0) fun R=>CR (ePair (eInt .i64) (ePair (eInt .i64) (ePair (eInt .i64) (ePair (eInt .i64) (eInt .i64))))) H' R o0k (r)
def ba.S29 (H0:Hp) (Ri R0:List Rs)  (C:Sl→Sl→Int→Hp→OA) (pC:List (Int×Int×Int×Int×Int)→List (Int×Int×Int×Int×Int)→Int→Option ((List (Int×Int×Int×Int×Int)))):Prop:=∀ {gu wX:ON} {eG qD:Nat} {gv wY:Cap} {br jo:List (Int×Int×Int×Int×Int)} {wZ:List AV} {eO:Int},∀ {H:Hp},eG = br.length→qD = jo.length→(Out H0 Ri H (Rs.own ⟨wX,qD,wY⟩ (ePair (eInt .i64) (ePair (eInt .i64) (ePair (eInt .i64) (ePair (eInt .i64) (eInt .i64))))).z wZ :: R0) fun R=>ROs (ePair (eInt .i64) (ePair (eInt .i64) (ePair (eInt .i64) (ePair (eInt .i64) (eInt .i64))))) H R ⟨gu,eG,gv⟩ br∧CR (ePair (eInt .i64) (ePair (eInt .i64) (ePair (eInt .i64) (ePair (eInt .i64) (eInt .i64))))) H R wZ jo)→∀ {r:(List (Int×Int×Int×Int×Int))},pC br jo eO = some r→∃ v H',C ⟨gu,eG,gv⟩ ⟨wX,qD,wY⟩ eO H = some (v,H')∧ba.Q H0 Ri R0  r v H'
def ba.pl29 (F:Nat) :Nat→List (Int×Int×Int×Int×Int)→List (Int×Int×Int×Int×Int)→Int→Option ((List (Int×Int×Int×Int×Int)))
 | 0,_,_,_=>none
 | k + 1,br,jo,eO=>(bif (decide (eO < (br.length:Int))) then ((ix br eO).bind fun n1=>(bX.p F ((gt br n1).1) ((gt br n1).2.1) ((gt br n1).2.2.1) ((gt br n1).2.2.2.1) ((gt br n1).2.2.2.2)).bind fun r2=>(ix jo eO).bind fun n4=>(some (jo.set n4 (r2.1,(gt jo n4).2.1,(gt jo n4).2.2.1,(gt jo n4).2.2.2.1,(gt jo n4).2.2.2.2))).bind fun l5=>(some (l5.set n4 ((gt l5 n4).1,r2.2.1,(gt l5 n4).2.2.1,(gt l5 n4).2.2.2.1,(gt l5 n4).2.2.2.2))).bind fun l7=>(some (l7.set n4 ((gt l7 n4).1,(gt l7 n4).2.1,r2.2.2.1,(gt l7 n4).2.2.2.1,(gt l7 n4).2.2.2.2))).bind fun l9=>(some (l9.set n4 ((gt l9 n4).1,(gt l9 n4).2.1,(gt l9 n4).2.2.1,r2.2.2.2.1,(gt l9 n4).2.2.2.2))).bind fun l11=>(some (l11.set n4 ((gt l11 n4).1,(gt l11 n4).2.1,(gt l11 n4).2.2.1,(gt l11 n4).2.2.2.1,r2.2.2.2.2))).bind fun l13=>ba.pl29 F k br l13 (IntKind.i64.wrap (eO + 1))) else (some jo))
termination_by structural n=>n
theorem ba.l29_P {F:Nat} {H0:Hp} {Ri R0:List Rs}  :∀ k,ba.S29 H0 Ri R0  (ba.l29 F (bX.tw F)  k) (ba.pl29 F  k):=by
 intro k
 induction k with
 | zero=>
  intro gu wX eG qD gv wY br jo wZ eO H hM IS h0 r hp
  exact nomatch (show (none:Option ((List (Int×Int×Int×Int×Int)))) = some r from hp)
 | succ k ih=>
  intro gu wX eG qD gv wY br jo wZ eO H hM IS h0 r hp
  obtain ⟨w0,s0,gw,Dz⟩:=h0
  subst hM
  subst IS
  unfold ba.pl29 at hp
  unfold ba.l29
  refine bif_ex (fun hb=>?_) (fun hb=>?_)
  ·replace hp:=bif_t hb hp
   obtain ⟨n1,g1,hp⟩:=bind_some' hp
   obtain ⟨p1,q1,i1,h1,j1⟩:=ROs.ixr gw rfl g1
   refine bind_ex i1 ?_
   obtain ⟨_,_,rfl,rfl,_,_,rfl,rfl,_,_,rfl,rfl,_,_,rfl,rfl,rfl⟩:=h1
   refine bind_ex (ldI_of (j1 0 _ rfl)) ?_
   refine bind_ex (ldI_of (j1 1 _ rfl)) ?_
   refine bind_ex (ldI_of (j1 2 _ rfl)) ?_
   refine bind_ex (ldI_of (j1 3 _ rfl)) ?_
   refine bind_ex (ldI_of (j1 4 _ rfl)) ?_
   obtain ⟨r2,e2,hp⟩:=bind_some' hp
   refine call_ex (bX.P ⟨w0,trivial⟩ e2) ?_
   rintro _ H3 ⟨rfl,w3,s3,_⟩
   refine bind_ex rfl ?_
   refine bind_ex rfl ?_
   refine bind_ex rfl ?_
   refine bind_ex rfl ?_
   refine bind_ex rfl ?_
   refine bind_ex rfl ?_
   refine bind_ex rfl ?_
   refine bind_ex rfl ?_
   refine bind_ex rfl ?_
   refine bind_ex rfl ?_
   refine bind_ex rfl ?_
   obtain ⟨n4,g4,hp⟩:=bind_some' hp
   obtain ⟨p4,q4,i4,h4,j4⟩:=W.ixo (E:=(ePair (eInt .i64) (ePair (eInt .i64) (ePair (eInt .i64) (ePair (eInt .i64) (eInt .i64)))))) w3 (i:=0) rfl rfl (Dz.step s3) g4
   refine bind_ex i4 ?_
   obtain ⟨l5,e5,hp⟩:=bind_some' hp
   refine sto_k (ePair (eInt .i64) (ePair (eInt .i64) (ePair (eInt .i64) (ePair (eInt .i64) (eInt .i64))))) w3 (i:=0) (j:=0) (p:=p4) rfl rfl (Dz.step s3) g4 i4 e5 rfl rfl (fun _ h=>by obtain ⟨_,_,rfl,rfl,_,_,rfl,rfl,_,_,rfl,rfl,_,_,rfl,rfl,rfl⟩:=h; exact ⟨[_],_,rfl,rfl,[_],_,rfl,rfl,[_],_,rfl,rfl,[_],_,rfl,rfl,rfl⟩) fun H6 k6 w6 s6 c6=>?_
   dsimp only [List.set] at w6 s6 c6
   obtain ⟨l7,e7,hp⟩:=bind_some' hp
   refine sto_k (ePair (eInt .i64) (ePair (eInt .i64) (ePair (eInt .i64) (ePair (eInt .i64) (eInt .i64))))) w6 (i:=0) (j:=1) (p:=p4) rfl rfl c6 (ix_len g4 (st_len e5)) i4 e7 rfl rfl (fun _ h=>by obtain ⟨_,_,rfl,rfl,_,_,rfl,rfl,_,_,rfl,rfl,_,_,rfl,rfl,rfl⟩:=h; exact ⟨[_],_,rfl,rfl,[_],_,rfl,rfl,[_],_,rfl,rfl,[_],_,rfl,rfl,rfl⟩) fun H8 k8 w8 s8 c8=>?_
   dsimp only [List.set] at w8 s8 c8
   obtain ⟨l9,e9,hp⟩:=bind_some' hp
   refine sto_k (ePair (eInt .i64) (ePair (eInt .i64) (ePair (eInt .i64) (ePair (eInt .i64) (eInt .i64))))) w8 (i:=0) (j:=2) (p:=p4) rfl rfl c8 (ix_len g4 ((st_len e7).trans (st_len e5))) i4 e9 rfl rfl (fun _ h=>by obtain ⟨_,_,rfl,rfl,_,_,rfl,rfl,_,_,rfl,rfl,_,_,rfl,rfl,rfl⟩:=h; exact ⟨[_],_,rfl,rfl,[_],_,rfl,rfl,[_],_,rfl,rfl,[_],_,rfl,rfl,rfl⟩) fun H10 k10 w10 s10 c10=>?_
   dsimp only [List.set] at w10 s10 c10
   obtain ⟨l11,e11,hp⟩:=bind_some' hp
   refine sto_k (ePair (eInt .i64) (ePair (eInt .i64) (ePair (eInt .i64) (ePair (eInt .i64) (eInt .i64))))) w10 (i:=0) (j:=3) (p:=p4) rfl rfl c10 (ix_len g4 (((st_len e9).trans (st_len e7)).trans (st_len e5))) i4 e11 rfl rfl (fun _ h=>by obtain ⟨_,_,rfl,rfl,_,_,rfl,rfl,_,_,rfl,rfl,_,_,rfl,rfl,rfl⟩:=h; exact ⟨[_],_,rfl,rfl,[_],_,rfl,rfl,[_],_,rfl,rfl,[_],_,rfl,rfl,rfl⟩) fun H12 k12 w12 s12 c12=>?_
   dsimp only [List.set] at w12 s12 c12
   obtain ⟨l13,e13,hp⟩:=bind_some' hp
   refine sto_k (ePair (eInt .i64) (ePair (eInt .i64) (ePair (eInt .i64) (ePair (eInt .i64) (eInt .i64))))) w12 (i:=0) (j:=4) (p:=p4) rfl rfl c12 (ix_len g4 ((((st_len e11).trans (st_len e9)).trans (st_len e7)).trans (st_len e5))) i4 e13 rfl rfl (fun _ h=>by obtain ⟨_,_,rfl,rfl,_,_,rfl,rfl,_,_,rfl,rfl,_,_,rfl,rfl,rfl⟩:=h; exact ⟨[_],_,rfl,rfl,[_],_,rfl,rfl,[_],_,rfl,rfl,[_],_,rfl,rfl,rfl⟩) fun H14 k14 w14 s14 c14=>?_
   dsimp only [List.set] at w14 s14 c14
   exact ih rfl (((((st_len e5).symm.trans (st_len e7).symm).trans (st_len e9).symm).trans (st_len e11).symm).trans (st_len e13).symm) ⟨w14,(s0.trans (s3.trans (s6.trans (s8.trans (s10.trans (s12.trans s14)))))),(gw.step (s3.trans (s6.trans (s8.trans (s10.trans (s12.trans s14)))))),c14⟩ hp
  ·replace hp:=bif_f hb hp
   obtain rfl:=Option.some.inj hp
   exact ⟨_,_,rfl,_,_,_,_,rfl,rfl,w0,s0,Dz⟩
def ba.p (F:Nat) (ae:List (Int×Int×Int×Int×Int)):Option ((List (Int×Int×Int×Int×Int))):=(mkn (ae.length:Int) ((0:Int),(0:Int),(0:Int),(0:Int),(0:Int))).bind fun l1=>ba.pl29 F F ae l1 0
theorem ba.P {F:Nat} {az:ON} {ap:Nat} {aA:Cap} {ae:List (Int×Int×Int×Int×Int)} {H:Hp} {R0:List Rs} (aW:ap = ae.length) (h0:Inn H R0 fun R=>ROs (ePair (eInt .i64) (ePair (eInt .i64) (ePair (eInt .i64) (ePair (eInt .i64) (eInt .i64))))) H R ⟨az,ap,aA⟩ ae) {r:(List (Int×Int×Int×Int×Int))} (hp:ba.p F ae = some r):∃ v H',ba.tw F ⟨az,ap,aA⟩ H = some (v,H')∧ba.Q H R0 R0  r v H':=by
 obtain ⟨w0,aK⟩:=h0
 subst aW
 unfold ba.p at hp
 unfold ba.tw ba.twX
 have s0:=w0.rf
 obtain ⟨l1,e1,hp⟩:=bind_some' hp
 refine mk_k (ePair (eInt .i64) (ePair (eInt .i64) (ePair (eInt .i64) (ePair (eInt .i64) (eInt .i64))))) ((0:Int),(0:Int),(0:Int),(0:Int),(0:Int)) w0 ⟨[_],_,rfl,rfl,⟨[_],_,rfl,rfl,⟨[_],_,rfl,rfl,⟨[_],_,rfl,rfl,rfl⟩⟩⟩⟩ rfl rfl e1 fun H2 k2 w2 s2 c2=>?_
 exact ba.l29_P F rfl rfl ⟨w2,(s0.trans s2),(aK.step s2),c2⟩ hp
def bE.Q (H0:Hp) (Ri R0:List Rs)  (r:(List (Int×Int×Int×Int×Int))×Int) (v:AV) (H':Hp):Prop:=∃ o0a:ON,∃ o0n:Nat,∃ o0c:Cap,∃ o0k:List AV,v = (.agg [(.sl ⟨o0a,o0n,o0c⟩),(.int .i64 r.2)])∧o0n = (r.1).length∧Out H0 Ri H' (Rs.own ⟨o0a,o0n,o0c⟩ (ePair (eInt .i64) (ePair (eInt .i64) (ePair (eInt .i64) (ePair (eInt .i64) (eInt .i64))))).z o0k :: R0) fun R=>CR (ePair (eInt .i64) (ePair (eInt .i64) (ePair (eInt .i64) (ePair (eInt .i64) (eInt .i64))))) H' R o0k (r.1)
def bE.p (F:Nat) (ae:List (Int×Int×Int×Int×Int)) (ab:Int):Option ((List (Int×Int×Int×Int×Int))×Int):=(ba.p F ae).bind fun r4=>some (r4,ab)
theorem bE.P {F:Nat} {az:ON} {ap:Nat} {aA:Cap} {ae:List (Int×Int×Int×Int×Int)} {ab:Int} {H:Hp} {R0:List Rs} (aW:ap = ae.length) (h0:Inn H R0 fun R=>ROs (ePair (eInt .i64) (ePair (eInt .i64) (ePair (eInt .i64) (ePair (eInt .i64) (eInt .i64))))) H R ⟨az,ap,aA⟩ ae) {r:(List (Int×Int×Int×Int×Int))×Int} (hp:bE.p F ae ab = some r):∃ v H',bE.tw F ⟨az,ap,aA⟩ ab H = some (v,H')∧bE.Q H R0 R0  r v H':=by
 obtain ⟨w0,aK⟩:=h0
 subst aW
 unfold bE.p at hp
 unfold bE.tw bE.twX
 have s0:=w0.rf
 refine new_k w0 fun H1 w1 s1=>?_
 refine new_k w1 fun H2 w2 s2=>?_
 refine new_k w2 fun H3 w3 s3=>?_
 refine bind_ex (ldSl_of (w3.ld (i:=2) rfl rfl)) ?_
 obtain ⟨r4,e4,hp⟩:=bind_some' hp
 refine call_ex (ba.P rfl ⟨w3,(aK.step (s1.trans (s2.trans s3)))⟩ e4) ?_
 rintro _ H5 ⟨o0a_5,o0n_5,o0c_5,o0k_5,rfl,rfl,w5,s5,f5_0⟩
 refine bind_ex rfl ?_
 refine st_k w5 (i:=1) rfl rfl rfl fun H6 w6 s6=>?_
 dsimp only [List.set] at w6 s6
 refine bind_ex (ldI_of (w6.ld (i:=3) rfl rfl)) ?_
 refine st_k w6 (i:=1) rfl rfl rfl fun H7 w7 s7=>?_
 dsimp only [List.set] at w7 s7
 refine bind_ex (ldSl_of (w7.ld (i:=1) rfl rfl)) ?_
 refine bind_ex (ldI_of (w7.ld (i:=1) rfl rfl)) ?_
 refine st_k w7 (i:=2) rfl rfl rfl fun H8 w8 s8=>?_
 dsimp only [List.set] at w8 s8
 refine st_k w8 (i:=2) rfl rfl rfl fun H9 w9 s9=>?_
 dsimp only [List.set] at w9 s9
 refine bind_ex (ldSl_of (w9.ld (i:=2) rfl rfl)) ?_
 refine bind_ex (ldI_of (w9.ld (i:=2) rfl rfl)) ?_
 obtain ⟨w10,s10⟩:=w9.pick' [0] 4 rfl rfl rfl
 dsimp only [pk,pks,nth,List.drop] at w10 s10
 obtain rfl:=Option.some.inj hp
 exact ⟨_,_,rfl,_,_,_,_,rfl,rfl,w10,(s0.trans (s1.trans (s2.trans (s3.trans (s5.trans (s6.trans (s7.trans (s8.trans (s9.trans s10))))))))),(f5_0.step (s6.trans (s7.trans (s8.trans (s9.trans s10)))))⟩
def bn.Q (H0:Hp) (Ri R0:List Rs)  (r:Bool) (v:AV) (H':Hp):Prop:=v = (.bool r)∧Out H0 Ri H' (R0) fun R=>True
def bn.p (F:Nat) (aa:Int) (af:Int) (bz:Int):Option (Bool):=(bif (decide (aa ≥ af)) then (some (decide (aa ≤ bz))) else (some false))
theorem bn.P {F:Nat} {aa af bz:Int} {H:Hp} {R0:List Rs}  (h0:Inn H R0 fun R=>True) {r:Bool} (hp:bn.p F aa af bz = some r):∃ v H',bn.tw F aa af bz H = some (v,H')∧bn.Q H R0 R0  r v H':=by
 obtain ⟨w0,_⟩:=h0
 unfold bn.p at hp
 unfold bn.tw bn.twX
 have s0:=w0.rf
 refine bif_ex (fun hb=>?_) (fun hb=>?_)
 ·replace hp:=bif_t hb hp
  obtain rfl:=Option.some.inj hp
  exact ⟨_,_,rfl,rfl,w0,s0,trivial⟩
 ·replace hp:=bif_f hb hp
  obtain rfl:=Option.some.inj hp
  exact ⟨_,_,rfl,rfl,w0,s0,trivial⟩
def bj.Q (H0:Hp) (Ri R0:List Rs)  (r:Int) (v:AV) (H':Hp):Prop:=v = (.int .i64 r)∧Out H0 Ri H' (R0) fun R=>True
def bj.p (F:Nat) (aa:Int) (ab:Int) (ay:Int) (aJ:Int) (aX:Int):Option (Int):=(ix ([aa,ab,ay,aJ]:List Int) aX).bind fun n3=>some (gt ([aa,ab,ay,aJ]:List Int) n3)
theorem bj.P {F:Nat} {aa ab ay aJ aG aX:Int} {H:Hp} {R0:List Rs}  (h0:Inn H R0 fun R=>True) {r:Int} (hp:bj.p F aa ab ay aJ aX = some r):∃ v H',bj.tw F aa ab ay aJ aG aX H = some (v,H')∧bj.Q H R0 R0  r v H':=by
 obtain ⟨w0,_⟩:=h0
 unfold bj.p at hp
 unfold bj.tw bj.twX
 have s0:=w0.rf
 refine new_k w0 fun H1 w1 s1=>?_
 refine bind_ex (ldI_of (w1.ld (i:=0) rfl rfl)) ?_
 refine bind_ex (ldI_of (w1.ld (i:=0) rfl rfl)) ?_
 refine bind_ex (ldI_of (w1.ld (i:=0) rfl rfl)) ?_
 refine bind_ex (ldI_of (w1.ld (i:=0) rfl rfl)) ?_
 refine newS_k (eInt .i64) w1 (n:=4) (l:=([aa,ab,ay,aJ]:List Int)) rfl (CR.cons1 rfl (CR.cons1 rfl (CR.cons1 rfl (CR.cons1 rfl CR.empty)))) rfl fun H2 w2 s2 c2=>?_
 obtain ⟨n3,g3,hp⟩:=bind_some' hp
 obtain ⟨p3,q3,i3,h3,j3⟩:=W.ixo (E:=(eInt .i64)) w2 (i:=0) rfl rfl c2 g3
 refine bind_ex i3 ?_
 have h3:_ = [_]:=h3
 subst h3
 refine bind_ex (ldI_of (j3 0 _ rfl)) ?_
 obtain ⟨w4,s4⟩:=w2.pick' [] 2 rfl rfl rfl
 dsimp only [pk,pks,nth,List.drop] at w4 s4
 obtain rfl:=Option.some.inj hp
 exact ⟨_,_,rfl,rfl,w4,(s0.trans (s1.trans (s2.trans s4))),trivial⟩
def bk.Q (H0:Hp) (Ri R0:List Rs)  (r:Bool) (v:AV) (H':Hp):Prop:=v = (.bool r)∧Out H0 Ri H' (R0) fun R=>True
def bk.p (F:Nat) (aG:Int) (aX:Int):Option (Bool):=(bif (aX == 0) then (some true) else ((bif (aX == 3) then ((bif (aG == 1) then (some true) else ((bif (aX == 1) then (some (aG == (-1))) else (some false))))) else ((bif (aX == 1) then (some (aG == (-1))) else (some false))))))
theorem bk.P {F:Nat} {aa ab ay aJ aG aX:Int} {H:Hp} {R0:List Rs}  (h0:Inn H R0 fun R=>True) {r:Bool} (hp:bk.p F aG aX = some r):∃ v H',bk.tw F aa ab ay aJ aG aX H = some (v,H')∧bk.Q H R0 R0  r v H':=by
 obtain ⟨w0,_⟩:=h0
 unfold bk.p at hp
 unfold bk.tw bk.twX
 have s0:=w0.rf
 refine new_k w0 fun H1 w1 s1=>?_
 refine bif_ex (fun hb=>?_) (fun hb=>?_)
 ·replace hp:=bif_t hb hp
  obtain ⟨w2,s2⟩:=w1.pick' [] 1 rfl rfl rfl
  dsimp only [pk,pks,nth,List.drop] at w2 s2
  obtain rfl:=Option.some.inj hp
  exact ⟨_,_,rfl,rfl,w2,(s0.trans (s1.trans s2)),trivial⟩
 ·replace hp:=bif_f hb hp
  refine bif_ex (fun hb=>?_) (fun hb=>?_)
  ·replace hp:=bif_t hb hp
   refine bind_ex (ldI_of (w1.ld (i:=0) rfl rfl)) ?_
   refine bif_ex (fun hb=>?_) (fun hb=>?_)
   ·replace hp:=bif_t hb hp
    obtain ⟨w3,s3⟩:=w1.pick' [] 1 rfl rfl rfl
    dsimp only [pk,pks,nth,List.drop] at w3 s3
    obtain rfl:=Option.some.inj hp
    exact ⟨_,_,rfl,rfl,w3,(s0.trans (s1.trans s3)),trivial⟩
   ·replace hp:=bif_f hb hp
    refine bif_ex (fun hb=>?_) (fun hb=>?_)
    ·replace hp:=bif_t hb hp
     refine bind_ex (ldI_of (w1.ld (i:=0) rfl rfl)) ?_
     obtain ⟨w4,s4⟩:=w1.pick' [] 1 rfl rfl rfl
     dsimp only [pk,pks,nth,List.drop] at w4 s4
     obtain rfl:=Option.some.inj hp
     exact ⟨_,_,rfl,rfl,w4,(s0.trans (s1.trans s4)),trivial⟩
    ·replace hp:=bif_f hb hp
     obtain ⟨w5,s5⟩:=w1.pick' [] 1 rfl rfl rfl
     dsimp only [pk,pks,nth,List.drop] at w5 s5
     obtain rfl:=Option.some.inj hp
     exact ⟨_,_,rfl,rfl,w5,(s0.trans (s1.trans s5)),trivial⟩
  ·replace hp:=bif_f hb hp
   refine bif_ex (fun hb=>?_) (fun hb=>?_)
   ·replace hp:=bif_t hb hp
    refine bind_ex (ldI_of (w1.ld (i:=0) rfl rfl)) ?_
    obtain ⟨w6,s6⟩:=w1.pick' [] 1 rfl rfl rfl
    dsimp only [pk,pks,nth,List.drop] at w6 s6
    obtain rfl:=Option.some.inj hp
    exact ⟨_,_,rfl,rfl,w6,(s0.trans (s1.trans s6)),trivial⟩
   ·replace hp:=bif_f hb hp
    obtain ⟨w7,s7⟩:=w1.pick' [] 1 rfl rfl rfl
    dsimp only [pk,pks,nth,List.drop] at w7 s7
    obtain rfl:=Option.some.inj hp
    exact ⟨_,_,rfl,rfl,w7,(s0.trans (s1.trans s7)),trivial⟩
def aC.Q (H0:Hp) (Ri R0:List Rs)  (r:Bool) (v:AV) (H':Hp):Prop:=v = (.bool r)∧Out H0 Ri H' (R0) fun R=>True
def aC.S61 (H0:Hp) (Ri R0:List Rs)  (C:Nat→Nat→Int→Sl→Sl→Int→Hp→OA) (pC:List (Int×Int×Int×Int×Int)→Int→List Bool→List Bool→Int→Option (Bool)):Prop:=∀ {lq lr w_:ON} {kv cD kw qE:Nat} {lu lv xa:Cap} {cW:List (Int×Int×Int×Int×Int)} {nB cL eQ:Int} {fV mH:List Bool} {lw xb:List AV},∀ {H:Hp},kv = cW.length→kw = fV.length→qE = mH.length→(Out H0 Ri H (Rs.blk cD [.sl ⟨lq,kv,lu⟩,.int .i64 nB] :: Rs.own ⟨lr,kw,lv⟩ eBool.z lw :: Rs.own ⟨w_,qE,xa⟩ eBool.z xb :: R0) fun R=>ROs (ePair (eInt .i64) (ePair (eInt .i64) (ePair (eInt .i64) (ePair (eInt .i64) (eInt .i64))))) H R ⟨lq,kv,lu⟩ cW∧CR eBool H R lw fV∧CR eBool H R xb mH)→∀ {r:Bool},pC cW cL fV mH eQ = some r→∃ v H',C cD 0 cL ⟨lr,kw,lv⟩ ⟨w_,qE,xa⟩ eQ H = some (v,H')∧aC.Q H0 Ri R0  r v H'
def aC.S3927 (H0:Hp) (Ri R0:List Rs)  (C:Nat→Nat→Int→Sl→Sl→Int→Nat→Nat→Int→Hp→OA) (pC:List (Int×Int×Int×Int×Int)→Int→List Bool→List Bool→Int→Int→Int→Int→Int→Int→Int→Option (Bool)):Prop:=∀ {xc xd xe:ON} {qF eP qG qH dB:Nat} {xf xg xh:Cap} {lx:List (Int×Int×Int×Int×Int)} {DA dv cO mI mJ mK mL mM dS:Int} {jJ jK:List Bool} {xi xj:List AV},∀ {H:Hp},qF = lx.length→qG = jJ.length→qH = jK.length→(Out H0 Ri H (Rs.blk eP [.sl ⟨xc,qF,xf⟩,.int .i64 DA] :: Rs.own ⟨xd,qG,xg⟩ eBool.z xi :: Rs.own ⟨xe,qH,xh⟩ eBool.z xj :: Rs.blk dB [.int .i64 mI,.int .i64 mJ,.int .i64 mK,.int .i64 mL,.int .i64 mM] :: R0) fun R=>ROs (ePair (eInt .i64) (ePair (eInt .i64) (ePair (eInt .i64) (ePair (eInt .i64) (eInt .i64))))) H R ⟨xc,qF,xf⟩ lx∧CR eBool H R xi jJ∧CR eBool H R xj jK)→∀ {r:Bool},pC lx dv jJ jK cO mI mJ mK mL mM dS = some r→∃ v H',C eP 0 dv ⟨xd,qG,xg⟩ ⟨xe,qH,xh⟩ cO dB 0 dS H = some (v,H')∧aC.Q H0 Ri R0  r v H'
def aC.pl3927 (F:Nat) (aU:List (Int×Int×Int×Int×Int)→Int→List Bool→List Bool→Int→Option (Bool)):Nat→List (Int×Int×Int×Int×Int)→Int→List Bool→List Bool→Int→Int→Int→Int→Int→Int→Int→Option (Bool)
 | 0,_,_,_,_,_,_,_,_,_,_,_=>none
 | k + 1,lx,dv,jJ,jK,cO,mI,mJ,mK,mL,mM,dS=>(bif (decide (dS < 4)) then ((bj.p F mI mJ mK mL dS).bind fun r1=>(bn.p F r1 0 (IntKind.i64.wrap (dv - 1))).bind fun r3=>(bif (!r3) then (some false) else ((bk.p F mM dS).bind fun r6=>(bif r6 then ((ix jJ r1).bind fun n8=>(bif (gt jJ n8) then (some false) else ((ix jJ r1).bind fun n10=>(some (jJ.set n10 true)).bind fun l11=>aC.pl3927 F aU k lx dv l11 jK cO mI mJ mK mL mM (IntKind.i64.wrap (dS + 1))))) else ((ix jK r1).bind fun n13=>(bif (gt jK n13) then (some false) else ((ix jK r1).bind fun n15=>(some (jK.set n15 true)).bind fun l16=>aC.pl3927 F aU k lx dv jJ l16 cO mI mJ mK mL mM (IntKind.i64.wrap (dS + 1))))))))) else (aU lx dv jJ jK (IntKind.i64.wrap (cO + 1))))
termination_by structural n=>n
theorem aC.l3927_P {F:Nat} {H0:Hp} {Ri R0:List Rs}  {C61_:Nat→Nat→Int→Sl→Sl→Int→Hp→OA} {aU:List (Int×Int×Int×Int×Int)→Int→List Bool→List Bool→Int→Option (Bool)} (hC61:aC.S61 H0 Ri R0  C61_ aU):∀ k,aC.S3927 H0 Ri R0  (aC.l3927 F (bj.tw F) (bn.tw F) (bk.tw F) C61_ k) (aC.pl3927 F aU k):=by
 intro k
 induction k with
 | zero=>
  intro xc xd xe qF eP qG qH dB xf xg xh lx DA dv cO mI mJ mK mL mM dS jJ jK xi xj H IT IU IV h0 r hp
  exact nomatch (show (none:Option (Bool)) = some r from hp)
 | succ k ih=>
  intro xc xd xe qF eP qG qH dB xf xg xh lx DA dv cO mI mJ mK mL mM dS jJ jK xi xj H IT IU IV h0 r hp
  obtain ⟨w0,s0,DB,qI,qJ⟩:=h0
  subst IT
  subst IU
  subst IV
  unfold aC.pl3927 at hp
  unfold aC.l3927
  refine bif_ex (fun hb=>?_) (fun hb=>?_)
  ·replace hp:=bif_t hb hp
   refine bind_ex (ldI_of (w0.ld (i:=3) rfl rfl)) ?_
   refine bind_ex (ldI_of (w0.ld (i:=3) rfl rfl)) ?_
   refine bind_ex (ldI_of (w0.ld (i:=3) rfl rfl)) ?_
   refine bind_ex (ldI_of (w0.ld (i:=3) rfl rfl)) ?_
   refine bind_ex (ldI_of (w0.ld (i:=3) rfl rfl)) ?_
   obtain ⟨r1,e1,hp⟩:=bind_some' hp
   refine call_ex (bj.P ⟨w0,trivial⟩ e1) ?_
   rintro _ H2 ⟨rfl,w2,s2,_⟩
   refine bind_ex rfl ?_
   obtain ⟨r3,e3,hp⟩:=bind_some' hp
   refine call_ex (bn.P ⟨w2,trivial⟩ e3) ?_
   rintro _ H4 ⟨rfl,w4,s4,_⟩
   refine bind_ex rfl ?_
   refine bif_ex (fun hb=>?_) (fun hb=>?_)
   ·replace hp:=bif_t hb hp
    obtain ⟨w5,s5⟩:=w4.pick' [] 4 rfl rfl rfl
    dsimp only [pk,pks,nth,List.drop] at w5 s5
    obtain rfl:=Option.some.inj hp
    exact ⟨_,_,rfl,rfl,w5,(s0.trans (s2.trans (s4.trans s5))),trivial⟩
   ·replace hp:=bif_f hb hp
    refine bind_ex (ldI_of (w4.ld (i:=3) rfl rfl)) ?_
    refine bind_ex (ldI_of (w4.ld (i:=3) rfl rfl)) ?_
    refine bind_ex (ldI_of (w4.ld (i:=3) rfl rfl)) ?_
    refine bind_ex (ldI_of (w4.ld (i:=3) rfl rfl)) ?_
    refine bind_ex (ldI_of (w4.ld (i:=3) rfl rfl)) ?_
    obtain ⟨r6,e6,hp⟩:=bind_some' hp
    refine call_ex (bk.P ⟨w4,trivial⟩ e6) ?_
    rintro _ H7 ⟨rfl,w7,s7,_⟩
    refine bind_ex rfl ?_
    refine bif_ex (fun hb=>?_) (fun hb=>?_)
    ·replace hp:=bif_t hb hp
     obtain ⟨n8,g8,hp⟩:=bind_some' hp
     obtain ⟨p8,q8,i8,h8,j8⟩:=W.ixo (E:=eBool) w7 (i:=1) rfl rfl (qI.step (s2.trans (s4.trans s7))) g8
     refine bind_ex i8 ?_
     have h8:_ = [_]:=h8
     subst h8
     refine bind_ex (ldB_of (j8 0 _ rfl)) ?_
     refine bif_ex (fun hb=>?_) (fun hb=>?_)
     ·replace hp:=bif_t hb hp
      obtain ⟨w9,s9⟩:=w7.pick' [] 4 rfl rfl rfl
      dsimp only [pk,pks,nth,List.drop] at w9 s9
      obtain rfl:=Option.some.inj hp
      exact ⟨_,_,rfl,rfl,w9,(s0.trans (s2.trans (s4.trans (s7.trans s9)))),trivial⟩
     ·replace hp:=bif_f hb hp
      obtain ⟨n10,g10,hp⟩:=bind_some' hp
      obtain ⟨p10,q10,i10,h10,j10⟩:=W.ixo (E:=eBool) w7 (i:=1) rfl rfl (qI.step (s2.trans (s4.trans s7))) g10
      refine bind_ex i10 ?_
      obtain ⟨l11,e11,hp⟩:=bind_some' hp
      refine sto_k eBool w7 (i:=1) (j:=0) (p:=p10) rfl rfl (qI.step (s2.trans (s4.trans s7))) g10 i10 e11 rfl rfl (fun _ h=>by have h:_ = [_]:=h; subst h; exact rfl) fun H12 k12 w12 s12 c12=>?_
      dsimp only [List.set] at w12 s12 c12
      exact ih rfl ((st_len e11).symm) rfl ⟨w12,(s0.trans (s2.trans (s4.trans (s7.trans s12)))),(DB.step (s2.trans (s4.trans (s7.trans s12)))),c12,(qJ.step (s2.trans (s4.trans (s7.trans s12))))⟩ hp
    ·replace hp:=bif_f hb hp
     obtain ⟨n13,g13,hp⟩:=bind_some' hp
     obtain ⟨p13,q13,i13,h13,j13⟩:=W.ixo (E:=eBool) w7 (i:=2) rfl rfl (qJ.step (s2.trans (s4.trans s7))) g13
     refine bind_ex i13 ?_
     have h13:_ = [_]:=h13
     subst h13
     refine bind_ex (ldB_of (j13 0 _ rfl)) ?_
     refine bif_ex (fun hb=>?_) (fun hb=>?_)
     ·replace hp:=bif_t hb hp
      obtain ⟨w14,s14⟩:=w7.pick' [] 4 rfl rfl rfl
      dsimp only [pk,pks,nth,List.drop] at w14 s14
      obtain rfl:=Option.some.inj hp
      exact ⟨_,_,rfl,rfl,w14,(s0.trans (s2.trans (s4.trans (s7.trans s14)))),trivial⟩
     ·replace hp:=bif_f hb hp
      obtain ⟨n15,g15,hp⟩:=bind_some' hp
      obtain ⟨p15,q15,i15,h15,j15⟩:=W.ixo (E:=eBool) w7 (i:=2) rfl rfl (qJ.step (s2.trans (s4.trans s7))) g15
      refine bind_ex i15 ?_
      obtain ⟨l16,e16,hp⟩:=bind_some' hp
      refine sto_k eBool w7 (i:=2) (j:=0) (p:=p15) rfl rfl (qJ.step (s2.trans (s4.trans s7))) g15 i15 e16 rfl rfl (fun _ h=>by have h:_ = [_]:=h; subst h; exact rfl) fun H17 k17 w17 s17 c17=>?_
      dsimp only [List.set] at w17 s17 c17
      exact ih rfl rfl ((st_len e16).symm) ⟨w17,(s0.trans (s2.trans (s4.trans (s7.trans s17)))),(DB.step (s2.trans (s4.trans (s7.trans s17)))),(qI.step (s2.trans (s4.trans (s7.trans s17)))),c17⟩ hp
  ·replace hp:=bif_f hb hp
   obtain ⟨w18,s18⟩:=w0.pick' [0,1,2] 4 rfl rfl rfl
   dsimp only [pk,pks,nth,List.drop] at w18 s18
   exact hC61 rfl rfl rfl ⟨w18,(s0.trans s18),(DB.step s18),(qI.step s18),(qJ.step s18)⟩ hp
def aC.pl61 (F:Nat) :Nat→List (Int×Int×Int×Int×Int)→Int→List Bool→List Bool→Int→Option (Bool)
 | 0,_,_,_,_,_=>none
 | k + 1,cW,cL,fV,mH,eQ=>(bif (decide (eQ < (cW.length:Int))) then ((ix cW eQ).bind fun n1=>(bif (((gt cW n1).2.2.2.2) != 1) then ((bif (((gt cW n1).2.2.2.2) != (-1)) then (some false) else (aC.pl3927 F (aC.pl61 F k) F cW cL fV mH eQ ((gt cW n1).1) ((gt cW n1).2.1) ((gt cW n1).2.2.1) ((gt cW n1).2.2.2.1) ((gt cW n1).2.2.2.2) 0))) else (aC.pl3927 F (aC.pl61 F k) F cW cL fV mH eQ ((gt cW n1).1) ((gt cW n1).2.1) ((gt cW n1).2.2.1) ((gt cW n1).2.2.2.1) ((gt cW n1).2.2.2.2) 0))) else (some true))
termination_by structural n=>n
theorem aC.l61_P {F:Nat} {H0:Hp} {Ri R0:List Rs}  :∀ k,aC.S61 H0 Ri R0  (aC.l61 F (bj.tw F) (bn.tw F) (bk.tw F)  k) (aC.pl61 F  k):=by
 intro k
 induction k with
 | zero=>
  intro lq lr w_ kv cD kw qE lu lv xa cW nB cL eQ fV mH lw xb H qK qL IW h0 r hp
  exact nomatch (show (none:Option (Bool)) = some r from hp)
 | succ k ih=>
  intro lq lr w_ kv cD kw qE lu lv xa cW nB cL eQ fV mH lw xb H qK qL IW h0 r hp
  obtain ⟨w0,s0,pP,pQ,IX⟩:=h0
  subst qK
  subst qL
  subst IW
  unfold aC.pl61 at hp
  unfold aC.l61
  refine bind_ex (ldSl_of (w0.ld (i:=0) rfl rfl)) ?_
  refine bif_ex (fun hb=>?_) (fun hb=>?_)
  ·replace hp:=bif_t hb hp
   refine bind_ex (ldSl_of (w0.ld (i:=0) rfl rfl)) ?_
   obtain ⟨n1,g1,hp⟩:=bind_some' hp
   obtain ⟨p1,q1,i1,h1,j1⟩:=ROs.ixr pP rfl g1
   refine bind_ex i1 ?_
   obtain ⟨_,_,rfl,rfl,_,_,rfl,rfl,_,_,rfl,rfl,_,_,rfl,rfl,rfl⟩:=h1
   refine bind_ex (ldI_of (j1 0 _ rfl)) ?_
   refine bind_ex (ldI_of (j1 1 _ rfl)) ?_
   refine bind_ex (ldI_of (j1 2 _ rfl)) ?_
   refine bind_ex (ldI_of (j1 3 _ rfl)) ?_
   refine bind_ex (ldI_of (j1 4 _ rfl)) ?_
   refine new_k w0 fun H2 w2 s2=>?_
   refine st_k w2 (i:=0) rfl rfl rfl fun H3 w3 s3=>?_
   dsimp only [List.set] at w3 s3
   refine st_k w3 (i:=0) rfl rfl rfl fun H4 w4 s4=>?_
   dsimp only [List.set] at w4 s4
   refine st_k w4 (i:=0) rfl rfl rfl fun H5 w5 s5=>?_
   dsimp only [List.set] at w5 s5
   refine st_k w5 (i:=0) rfl rfl rfl fun H6 w6 s6=>?_
   dsimp only [List.set] at w6 s6
   refine st_k w6 (i:=0) rfl rfl rfl fun H7 w7 s7=>?_
   dsimp only [List.set] at w7 s7
   refine bind_ex (ldI_of (w7.ld (i:=0) rfl rfl)) ?_
   refine bif_ex (fun hb=>?_) (fun hb=>?_)
   ·replace hp:=bif_t hb hp
    refine bind_ex (ldI_of (w7.ld (i:=0) rfl rfl)) ?_
    refine bif_ex (fun hb=>?_) (fun hb=>?_)
    ·replace hp:=bif_t hb hp
     obtain ⟨w8,s8⟩:=w7.pick' [] 4 rfl rfl rfl
     dsimp only [pk,pks,nth,List.drop] at w8 s8
     obtain rfl:=Option.some.inj hp
     exact ⟨_,_,rfl,rfl,w8,(s0.trans (s2.trans (s3.trans (s4.trans (s5.trans (s6.trans (s7.trans s8))))))),trivial⟩
    ·replace hp:=bif_f hb hp
     obtain ⟨w9,s9⟩:=w7.pick' [1,2,3,0] 4 rfl rfl rfl
     dsimp only [pk,pks,nth,List.drop] at w9 s9
     exact aC.l3927_P (@ih) F rfl rfl rfl ⟨w9,(s0.trans (s2.trans (s3.trans (s4.trans (s5.trans (s6.trans (s7.trans s9))))))),(pP.step (s2.trans (s3.trans (s4.trans (s5.trans (s6.trans (s7.trans s9))))))),(pQ.step (s2.trans (s3.trans (s4.trans (s5.trans (s6.trans (s7.trans s9))))))),(IX.step (s2.trans (s3.trans (s4.trans (s5.trans (s6.trans (s7.trans s9)))))))⟩ hp
   ·replace hp:=bif_f hb hp
    obtain ⟨w10,s10⟩:=w7.pick' [1,2,3,0] 4 rfl rfl rfl
    dsimp only [pk,pks,nth,List.drop] at w10 s10
    exact aC.l3927_P (@ih) F rfl rfl rfl ⟨w10,(s0.trans (s2.trans (s3.trans (s4.trans (s5.trans (s6.trans (s7.trans s10))))))),(pP.step (s2.trans (s3.trans (s4.trans (s5.trans (s6.trans (s7.trans s10))))))),(pQ.step (s2.trans (s3.trans (s4.trans (s5.trans (s6.trans (s7.trans s10))))))),(IX.step (s2.trans (s3.trans (s4.trans (s5.trans (s6.trans (s7.trans s10)))))))⟩ hp
  ·replace hp:=bif_f hb hp
   obtain ⟨w11,s11⟩:=w0.pick' [] 3 rfl rfl rfl
   dsimp only [pk,pks,nth,List.drop] at w11 s11
   obtain rfl:=Option.some.inj hp
   exact ⟨_,_,rfl,rfl,w11,(s0.trans s11),trivial⟩
def aC.p (F:Nat) (ae:List (Int×Int×Int×Int×Int)):Option (Bool):=(mkn (IntKind.i64.wrap (2 * (ae.length:Int))) false).bind fun l2=>(mkn (IntKind.i64.wrap (2 * (ae.length:Int))) false).bind fun l4=>aC.pl61 F F ae (IntKind.i64.wrap (2 * (ae.length:Int))) l2 l4 0
theorem aC.P {F:Nat} {az:ON} {ap:Nat} {aA:Cap} {ae:List (Int×Int×Int×Int×Int)} {ab:Int} {H:Hp} {R0:List Rs} (aW:ap = ae.length) (h0:Inn H R0 fun R=>ROs (ePair (eInt .i64) (ePair (eInt .i64) (ePair (eInt .i64) (ePair (eInt .i64) (eInt .i64))))) H R ⟨az,ap,aA⟩ ae) {r:Bool} (hp:aC.p F ae = some r):∃ v H',aC.tw F ⟨az,ap,aA⟩ ab H = some (v,H')∧aC.Q H R0 R0  r v H':=by
 obtain ⟨w0,aK⟩:=h0
 subst aW
 unfold aC.p at hp
 unfold aC.tw aC.twX
 have s0:=w0.rf
 refine new_k w0 fun H1 w1 s1=>?_
 refine bind_ex (ldSl_of (w1.ld (i:=0) rfl rfl)) ?_
 obtain ⟨l2,e2,hp⟩:=bind_some' hp
 refine mk_k eBool false w1 rfl rfl rfl e2 fun H3 k3 w3 s3 c3=>?_
 obtain ⟨l4,e4,hp⟩:=bind_some' hp
 refine mk_k eBool false w3 rfl rfl rfl e4 fun H5 k5 w5 s5 c5=>?_
 obtain ⟨w6,s6⟩:=w5.pick' [2,1,0] 3 rfl rfl rfl
 dsimp only [pk,pks,nth,List.drop] at w6 s6
 exact aC.l61_P F rfl rfl rfl ⟨w6,(s0.trans (s1.trans (s3.trans (s5.trans s6)))),(aK.step (s1.trans (s3.trans (s5.trans s6)))),(c3.step (s5.trans s6)),(c5.step s6)⟩ hp
def ax.Q (H0:Hp) (Ri R0:List Rs)  (r:Int×Int) (v:AV) (H':Hp):Prop:=v = (.tup [(.int .i64 r.1),(.int .i64 r.2)])∧Out H0 Ri H' (R0) fun R=>True
def ax.S13 (H0:Hp) (Ri R0:List Rs)  (C:Int→Bool→Nat→Nat→Int→Hp→OA) (pC:Int→Bool→List (Int×Int×Int×Int×Int)→Int→Option (Int×Int)):Prop:=∀ {cQ DC gz:Int} {gy:Bool} {xl:ON} {qM de:Nat} {xm:Cap} {mN:List (Int×Int×Int×Int×Int)},∀ {H:Hp},qM = mN.length→(Out H0 Ri H (Rs.blk de [.sl ⟨xl,qM,xm⟩,.int .i64 DC] :: R0) fun R=>ROs (ePair (eInt .i64) (ePair (eInt .i64) (ePair (eInt .i64) (ePair (eInt .i64) (eInt .i64))))) H R ⟨xl,qM,xm⟩ mN)→∀ {r:Int×Int},pC cQ gy mN gz = some r→∃ v H',C cQ gy de 0 gz H = some (v,H')∧ax.Q H0 Ri R0  r v H'
def ax.S213 (H0:Hp) (Ri R0:List Rs)  (C:Int→Bool→Nat→Nat→Int→Int→Hp→OA) (pC:Int→Bool→List (Int×Int×Int×Int×Int)→Int→Int→Option (Int×Int)):Prop:=∀ {dD DD dw dE:Int} {dN:Bool} {xn:ON} {qN fL:Nat} {xo:Cap} {ij:List (Int×Int×Int×Int×Int)},∀ {H:Hp},qN = ij.length→(Out H0 Ri H (Rs.blk fL [.sl ⟨xn,qN,xo⟩,.int .i64 DD] :: R0) fun R=>ROs (ePair (eInt .i64) (ePair (eInt .i64) (ePair (eInt .i64) (ePair (eInt .i64) (eInt .i64))))) H R ⟨xn,qN,xo⟩ ij)→∀ {r:Int×Int},pC dD dN ij dw dE = some r→∃ v H',C dD dN fL 0 dw dE H = some (v,H')∧ax.Q H0 Ri R0  r v H'
def ax.pj3 (F:Nat) (ik:Int→Bool→List (Int×Int×Int×Int×Int)→Int→Option (Int×Int)) (mo:Int) (nV:Bool) (qO:List (Int×Int×Int×Int×Int)) (nX:Int):Option (Int×Int):=ik mo nV qO (IntKind.i64.wrap (nX + 1))
theorem ax.j3_P {F:Nat} {H0:Hp} {Ri R0:List Rs}  {C13_:Int→Bool→Nat→Nat→Int→Hp→OA} {ik:Int→Bool→List (Int×Int×Int×Int×Int)→Int→Option (Int×Int)} (hC13:ax.S13 H0 Ri R0  C13_ ik) {mo Yg nX:Int} {nV:Bool} {IY:ON} {DE nW:Nat} {IZ:Cap} {qO:List (Int×Int×Int×Int×Int)} {H:Hp} (Yh:DE = qO.length) (h0:Out H0 Ri H (Rs.blk nW [.sl ⟨IY,DE,IZ⟩,.int .i64 Yg] :: R0) fun R=>ROs (ePair (eInt .i64) (ePair (eInt .i64) (ePair (eInt .i64) (ePair (eInt .i64) (eInt .i64))))) H R ⟨IY,DE,IZ⟩ qO) {r:Int×Int} (hp:ax.pj3 F ik mo nV qO nX = some r):∃ v H',ax.j3 F (bj.tw F) (bk.tw F) C13_ mo nV nW 0 nX H = some (v,H')∧ax.Q H0 Ri R0  r v H':=by
 obtain ⟨w0,s0,Yi⟩:=h0
 subst Yh
 unfold ax.pj3 at hp
 unfold ax.j3
 exact hC13 rfl ⟨w0,s0,Yi⟩ hp
def ax.pj4 (F:Nat) (ik:Int→Bool→List (Int×Int×Int×Int×Int)→Int→Option (Int×Int)) (nY:Int) (nZ:Bool) (qP:List (Int×Int×Int×Int×Int)) (n_:Int):Option (Int×Int):=ax.pj3 F ik nY nZ qP n_
theorem ax.j4_P {F:Nat} {H0:Hp} {Ri R0:List Rs}  {C13_:Int→Bool→Nat→Nat→Int→Hp→OA} {ik:Int→Bool→List (Int×Int×Int×Int×Int)→Int→Option (Int×Int)} (hC13:ax.S13 H0 Ri R0  C13_ ik) {nY Yj n_:Int} {nZ:Bool} {I_:ON} {DF wg:Nat} {Ja:Cap} {qP:List (Int×Int×Int×Int×Int)} {H:Hp} (Yk:DF = qP.length) (h0:Out H0 Ri H (Rs.blk wg [.sl ⟨I_,DF,Ja⟩,.int .i64 Yj] :: R0) fun R=>ROs (ePair (eInt .i64) (ePair (eInt .i64) (ePair (eInt .i64) (ePair (eInt .i64) (eInt .i64))))) H R ⟨I_,DF,Ja⟩ qP) {r:Int×Int} (hp:ax.pj4 F ik nY nZ qP n_ = some r):∃ v H',ax.j4 F (bj.tw F) (bk.tw F) C13_ nY nZ wg 0 n_ H = some (v,H')∧ax.Q H0 Ri R0  r v H':=by
 obtain ⟨w0,s0,Yl⟩:=h0
 subst Yk
 unfold ax.pj4 at hp
 unfold ax.j4
 exact ax.j3_P (@hC13) rfl ⟨w0,s0,Yl⟩ hp
def ax.pl213 (F:Nat) (ik:Int→Bool→List (Int×Int×Int×Int×Int)→Int→Option (Int×Int)):Nat→Int→Bool→List (Int×Int×Int×Int×Int)→Int→Int→Option (Int×Int)
 | 0,_,_,_,_,_=>none
 | k + 1,dD,dN,ij,dw,dE=>(bif (decide (dE < 4)) then ((ix ij dw).bind fun n1=>(bj.p F ((gt ij n1).1) ((gt ij n1).2.1) ((gt ij n1).2.2.1) ((gt ij n1).2.2.2.1) dE).bind fun r2=>(bif (r2 == dD) then ((ix ij dw).bind fun n4=>(bk.p F ((gt ij n4).2.2.2.2) dE).bind fun r5=>(bif (r5 == dN) then (some (dw,dE)) else (ax.pl213 F ik k dD dN ij dw (IntKind.i64.wrap (dE + 1))))) else (ax.pl213 F ik k dD dN ij dw (IntKind.i64.wrap (dE + 1))))) else (ax.pj4 F ik dD dN ij dw))
termination_by structural n=>n
theorem ax.l213_P {F:Nat} {H0:Hp} {Ri R0:List Rs}  {C13_:Int→Bool→Nat→Nat→Int→Hp→OA} {ik:Int→Bool→List (Int×Int×Int×Int×Int)→Int→Option (Int×Int)} (hC13:ax.S13 H0 Ri R0  C13_ ik):∀ k,ax.S213 H0 Ri R0  (ax.l213 F (bj.tw F) (bk.tw F) C13_ k) (ax.pl213 F ik k):=by
 intro k
 induction k with
 | zero=>
  intro dD DD dw dE dN xn qN fL xo ij H Jb h0 r hp
  exact nomatch (show (none:Option (Int×Int)) = some r from hp)
 | succ k ih=>
  intro dD DD dw dE dN xn qN fL xo ij H Jb h0 r hp
  obtain ⟨w0,s0,qQ⟩:=h0
  subst Jb
  unfold ax.pl213 at hp
  unfold ax.l213
  refine bif_ex (fun hb=>?_) (fun hb=>?_)
  ·replace hp:=bif_t hb hp
   refine bind_ex (ldSl_of (w0.ld (i:=0) rfl rfl)) ?_
   obtain ⟨n1,g1,hp⟩:=bind_some' hp
   obtain ⟨p1,q1,i1,h1,j1⟩:=ROs.ixr qQ rfl g1
   refine bind_ex i1 ?_
   obtain ⟨_,_,rfl,rfl,_,_,rfl,rfl,_,_,rfl,rfl,_,_,rfl,rfl,rfl⟩:=h1
   refine bind_ex (ldI_of (j1 0 _ rfl)) ?_
   refine bind_ex (ldI_of (j1 1 _ rfl)) ?_
   refine bind_ex (ldI_of (j1 2 _ rfl)) ?_
   refine bind_ex (ldI_of (j1 3 _ rfl)) ?_
   refine bind_ex (ldI_of (j1 4 _ rfl)) ?_
   obtain ⟨r2,e2,hp⟩:=bind_some' hp
   refine call_ex (bj.P ⟨w0,trivial⟩ e2) ?_
   rintro _ H3 ⟨rfl,w3,s3,_⟩
   refine bind_ex rfl ?_
   refine bif_ex (fun hb=>?_) (fun hb=>?_)
   ·replace hp:=bif_t hb hp
    refine bind_ex (ldSl_of (w3.ld (i:=0) rfl rfl)) ?_
    obtain ⟨n4,g4,hp⟩:=bind_some' hp
    obtain ⟨p4,q4,i4,h4,j4⟩:=ROs.ixr (qQ.step s3) rfl g4
    refine bind_ex i4 ?_
    obtain ⟨_,_,rfl,rfl,_,_,rfl,rfl,_,_,rfl,rfl,_,_,rfl,rfl,rfl⟩:=h4
    refine bind_ex (ldI_of (j4 0 _ rfl)) ?_
    refine bind_ex (ldI_of (j4 1 _ rfl)) ?_
    refine bind_ex (ldI_of (j4 2 _ rfl)) ?_
    refine bind_ex (ldI_of (j4 3 _ rfl)) ?_
    refine bind_ex (ldI_of (j4 4 _ rfl)) ?_
    obtain ⟨r5,e5,hp⟩:=bind_some' hp
    refine call_ex (bk.P ⟨w3,trivial⟩ e5) ?_
    rintro _ H6 ⟨rfl,w6,s6,_⟩
    refine bind_ex rfl ?_
    refine bif_ex (fun hb=>?_) (fun hb=>?_)
    ·replace hp:=bif_t hb hp
     obtain ⟨w7,s7⟩:=w6.pick' [] 1 rfl rfl rfl
     dsimp only [pk,pks,nth,List.drop] at w7 s7
     obtain rfl:=Option.some.inj hp
     exact ⟨_,_,rfl,rfl,w7,(s0.trans (s3.trans (s6.trans s7))),trivial⟩
    ·replace hp:=bif_f hb hp
     exact ih rfl ⟨w6,(s0.trans (s3.trans s6)),(qQ.step (s3.trans s6))⟩ hp
   ·replace hp:=bif_f hb hp
    exact ih rfl ⟨w3,(s0.trans s3),(qQ.step s3)⟩ hp
  ·replace hp:=bif_f hb hp
   exact ax.j4_P (@hC13) rfl ⟨w0,s0,qQ⟩ hp
def ax.pl13 (F:Nat) :Nat→Int→Bool→List (Int×Int×Int×Int×Int)→Int→Option (Int×Int)
 | 0,_,_,_,_=>none
 | k + 1,cQ,gy,mN,gz=>(bif (decide (gz < (mN.length:Int))) then (ax.pl213 F (ax.pl13 F k) F cQ gy mN gz 0) else (some ((-1),(-1))))
termination_by structural n=>n
theorem ax.l13_P {F:Nat} {H0:Hp} {Ri R0:List Rs}  :∀ k,ax.S13 H0 Ri R0  (ax.l13 F (bj.tw F) (bk.tw F)  k) (ax.pl13 F  k):=by
 intro k
 induction k with
 | zero=>
  intro cQ DC gz gy xl qM de xm mN H Jc h0 r hp
  exact nomatch (show (none:Option (Int×Int)) = some r from hp)
 | succ k ih=>
  intro cQ DC gz gy xl qM de xm mN H Jc h0 r hp
  obtain ⟨w0,s0,Ym⟩:=h0
  subst Jc
  unfold ax.pl13 at hp
  unfold ax.l13
  refine bind_ex (ldSl_of (w0.ld (i:=0) rfl rfl)) ?_
  refine bif_ex (fun hb=>?_) (fun hb=>?_)
  ·replace hp:=bif_t hb hp
   exact ax.l213_P (@ih) F rfl ⟨w0,s0,Ym⟩ hp
  ·replace hp:=bif_f hb hp
   obtain ⟨w1,s1⟩:=w0.pick' [] 1 rfl rfl rfl
   dsimp only [pk,pks,nth,List.drop] at w1 s1
   obtain rfl:=Option.some.inj hp
   exact ⟨_,_,rfl,rfl,w1,(s0.trans s1),trivial⟩
def ax.p (F:Nat) (ae:List (Int×Int×Int×Int×Int)) (ah:Int) (gV:Bool):Option (Int×Int):=ax.pl13 F F ah gV ae 0
theorem ax.P {F:Nat} {az:ON} {ap:Nat} {aA:Cap} {ae:List (Int×Int×Int×Int×Int)} {ab ah:Int} {gV:Bool} {H:Hp} {R0:List Rs} (aW:ap = ae.length) (h0:Inn H R0 fun R=>ROs (ePair (eInt .i64) (ePair (eInt .i64) (ePair (eInt .i64) (ePair (eInt .i64) (eInt .i64))))) H R ⟨az,ap,aA⟩ ae) {r:Int×Int} (hp:ax.p F ae ah gV = some r):∃ v H',ax.tw F ⟨az,ap,aA⟩ ab ah gV H = some (v,H')∧ax.Q H R0 R0  r v H':=by
 obtain ⟨w0,aK⟩:=h0
 subst aW
 unfold ax.p at hp
 unfold ax.tw ax.twX
 have s0:=w0.rf
 refine new_k w0 fun H1 w1 s1=>?_
 exact ax.l13_P F rfl ⟨w1,(s0.trans s1),(aK.step s1)⟩ hp
def bK.Q (H0:Hp) (Ri R0:List Rs)  (r:Int) (v:AV) (H':Hp):Prop:=v = (.int .i64 r)∧Out H0 Ri H' (R0) fun R=>True
def bK.p (F:Nat) (ae:List (Int×Int×Int×Int×Int)) (ah:Int):Option (Int):=(ix ae (IntKind.i64.wrap (Int.tdiv ah 4))).bind fun n2=>(bj.p F ((gt ae n2).1) ((gt ae n2).2.1) ((gt ae n2).2.2.1) ((gt ae n2).2.2.2.1) (Int.tmod (IntKind.i64.wrap ((Int.tmod ah 4) + 1)) 4)).bind fun r9=>(bk.p F ((gt ae n2).2.2.2.2) (Int.tmod (IntKind.i64.wrap ((Int.tmod ah 4) + 1)) 4)).bind fun r12=>(ax.p F ae r9 (!r12)).bind fun r15=>some (IntKind.i64.wrap ((IntKind.i64.wrap (4 * r15.1)) + r15.2))
theorem bK.P {F:Nat} {az:ON} {ap:Nat} {aA:Cap} {ae:List (Int×Int×Int×Int×Int)} {ab ah:Int} {H:Hp} {R0:List Rs} (aW:ap = ae.length) (h0:Inn H R0 fun R=>ROs (ePair (eInt .i64) (ePair (eInt .i64) (ePair (eInt .i64) (ePair (eInt .i64) (eInt .i64))))) H R ⟨az,ap,aA⟩ ae) {r:Int} (hp:bK.p F ae ah = some r):∃ v H',bK.tw F ⟨az,ap,aA⟩ ab ah H = some (v,H')∧bK.Q H R0 R0  r v H':=by
 obtain ⟨w0,aK⟩:=h0
 subst aW
 unfold bK.p at hp
 unfold bK.tw bK.twX
 have s0:=w0.rf
 refine new_k w0 fun H1 w1 s1=>?_
 refine bind_ex (ldSl_of (w1.ld (i:=0) rfl rfl)) ?_
 obtain ⟨n2,g2,hp⟩:=bind_some' hp
 obtain ⟨p2,q2,i2,h2,j2⟩:=ROs.ixr (aK.step s1) rfl g2
 refine bind_ex i2 ?_
 obtain ⟨_,_,rfl,rfl,_,_,rfl,rfl,_,_,rfl,rfl,_,_,rfl,rfl,rfl⟩:=h2
 refine bind_ex (ldI_of (j2 0 _ rfl)) ?_
 refine bind_ex (ldI_of (j2 1 _ rfl)) ?_
 refine bind_ex (ldI_of (j2 2 _ rfl)) ?_
 refine bind_ex (ldI_of (j2 3 _ rfl)) ?_
 refine bind_ex (ldI_of (j2 4 _ rfl)) ?_
 refine new_k w1 fun H3 w3 s3=>?_
 refine st_k w3 (i:=0) rfl rfl rfl fun H4 w4 s4=>?_
 dsimp only [List.set] at w4 s4
 refine st_k w4 (i:=0) rfl rfl rfl fun H5 w5 s5=>?_
 dsimp only [List.set] at w5 s5
 refine st_k w5 (i:=0) rfl rfl rfl fun H6 w6 s6=>?_
 dsimp only [List.set] at w6 s6
 refine st_k w6 (i:=0) rfl rfl rfl fun H7 w7 s7=>?_
 dsimp only [List.set] at w7 s7
 refine st_k w7 (i:=0) rfl rfl rfl fun H8 w8 s8=>?_
 dsimp only [List.set] at w8 s8
 refine bind_ex (ldSl_of (w8.ld (i:=1) rfl rfl)) ?_
 refine bind_ex (ldI_of (w8.ld (i:=1) rfl rfl)) ?_
 refine bind_ex (ldI_of (w8.ld (i:=0) rfl rfl)) ?_
 refine bind_ex (ldI_of (w8.ld (i:=0) rfl rfl)) ?_
 refine bind_ex (ldI_of (w8.ld (i:=0) rfl rfl)) ?_
 refine bind_ex (ldI_of (w8.ld (i:=0) rfl rfl)) ?_
 refine bind_ex (ldI_of (w8.ld (i:=0) rfl rfl)) ?_
 obtain ⟨r9,e9,hp⟩:=bind_some' hp
 refine call_ex (bj.P ⟨w8,trivial⟩ e9) ?_
 rintro _ H10 ⟨rfl,w10,s10,_⟩
 refine bind_ex rfl ?_
 refine ifs_ex (W.cons_of (Rn:=[]) w8 w10 s10) ?_
 refine bind_ex (ldI_of (w10.ld (i:=0) rfl rfl)) ?_
 refine bind_ex (ldI_of (w10.ld (i:=0) rfl rfl)) ?_
 refine bind_ex (ldI_of (w10.ld (i:=0) rfl rfl)) ?_
 refine bind_ex (ldI_of (w10.ld (i:=0) rfl rfl)) ?_
 refine bind_ex (ldI_of (w10.ld (i:=0) rfl rfl)) ?_
 obtain ⟨r12,e12,hp⟩:=bind_some' hp
 refine call_ex (bk.P ⟨w10,trivial⟩ e12) ?_
 rintro _ H13 ⟨rfl,w13,s13,_⟩
 refine bind_ex rfl ?_
 refine ifs_ex (W.cons_of (Rn:=[]) w10 w13 s13) ?_
 obtain ⟨r15,e15,hp⟩:=bind_some' hp
 refine call_ex (ax.P rfl ⟨w13,(aK.step (s1.trans (s3.trans (s4.trans (s5.trans (s6.trans (s7.trans (s8.trans (s10.trans s13)))))))))⟩ e15) ?_
 rintro _ H16 ⟨rfl,w16,s16,_⟩
 refine bind_ex rfl ?_
 refine bind_ex rfl ?_
 refine bind_ex rfl ?_
 refine bind_ex rfl ?_
 refine bind_ex rfl ?_
 obtain ⟨w17,s17⟩:=w16.pick' [] 2 rfl rfl rfl
 dsimp only [pk,pks,nth,List.drop] at w17 s17
 obtain rfl:=Option.some.inj hp
 exact ⟨_,_,rfl,rfl,w17,(s0.trans (s1.trans (s3.trans (s4.trans (s5.trans (s6.trans (s7.trans (s8.trans (s10.trans (s13.trans (s16.trans s17))))))))))),trivial⟩
def ao.Q (H0:Hp) (Ri R0:List Rs)  (r:List (List Int)) (v:AV) (H':Hp):Prop:=∃ o0a:ON,∃ o0n:Nat,∃ o0c:Cap,∃ o0k:List AV,v = (.sl ⟨o0a,o0n,o0c⟩)∧o0n = (r).length∧Out H0 Ri H' (Rs.own ⟨o0a,o0n,o0c⟩ (eSl (eInt .i64)).z o0k :: R0) fun R=>CR (eSl (eInt .i64)) H' R o0k (r)
def ao.S61 (H0:Hp) (Ri R0:List Rs)  (C:Nat→Nat→Sl→Sl→Int→Hp→OA) (pC:List (Int×Int×Int×Int×Int)→List (List Int)→List Bool→Int→Option (List (List Int))):Prop:=∀ {lq xp lr:ON} {kv cD qR kw:Nat} {lu xq lv:Cap} {cW:List (Int×Int×Int×Int×Int)} {nB cK:Int} {ly:List (List Int)} {xt lw:List AV} {fV:List Bool},∀ {H:Hp},kv = cW.length→qR = ly.length→kw = fV.length→(Out H0 Ri H (Rs.blk cD [.sl ⟨lq,kv,lu⟩,.int .i64 nB] :: Rs.own ⟨xp,qR,xq⟩ (eSl (eInt .i64)).z xt :: Rs.own ⟨lr,kw,lv⟩ eBool.z lw :: R0) fun R=>ROs (ePair (eInt .i64) (ePair (eInt .i64) (ePair (eInt .i64) (ePair (eInt .i64) (eInt .i64))))) H R ⟨lq,kv,lu⟩ cW∧CR (eSl (eInt .i64)) H R xt ly∧CR eBool H R lw fV)→∀ {r:List (List Int)},pC cW ly fV cK = some r→∃ v H',C cD 0 ⟨xp,qR,xq⟩ ⟨lr,kw,lv⟩ cK H = some (v,H')∧ao.Q H0 Ri R0  r v H'
def ao.pj4 (F:Nat) (aU:List (Int×Int×Int×Int×Int)→List (List Int)→List Bool→Int→Option (List (List Int))) (qS:List (Int×Int×Int×Int×Int)) (qT:List (List Int)) (qU:List Bool) (oa:Int):Option (List (List Int)):=aU qS qT qU (IntKind.i64.wrap (oa + 1))
theorem ao.j4_P {F:Nat} {H0:Hp} {Ri R0:List Rs}  {C61_:Nat→Nat→Sl→Sl→Int→Hp→OA} {aU:List (Int×Int×Int×Int×Int)→List (List Int)→List Bool→Int→Option (List (List Int))} (hC61:ao.S61 H0 Ri R0  C61_ aU) {Jd Je Jf:ON} {DH wh DI DJ:Nat} {Jg Jh Ji:Cap} {qS:List (Int×Int×Int×Int×Int)} {Yn oa:Int} {qT:List (List Int)} {Jj Jk:List AV} {qU:List Bool} {H:Hp} (Yo:DH = qS.length) (Yp:DI = qT.length) (Yq:DJ = qU.length) (h0:Out H0 Ri H (Rs.blk wh [.sl ⟨Jd,DH,Jg⟩,.int .i64 Yn] :: Rs.own ⟨Je,DI,Jh⟩ (eSl (eInt .i64)).z Jj :: Rs.own ⟨Jf,DJ,Ji⟩ eBool.z Jk :: R0) fun R=>ROs (ePair (eInt .i64) (ePair (eInt .i64) (ePair (eInt .i64) (ePair (eInt .i64) (eInt .i64))))) H R ⟨Jd,DH,Jg⟩ qS∧CR (eSl (eInt .i64)) H R Jj qT∧CR eBool H R Jk qU) {r:List (List Int)} (hp:ao.pj4 F aU qS qT qU oa = some r):∃ v H',ao.j4 F (bK.tw F) C61_ wh 0 ⟨Je,DI,Jh⟩ ⟨Jf,DJ,Ji⟩ oa H = some (v,H')∧ao.Q H0 Ri R0  r v H':=by
 obtain ⟨w0,s0,Yr,Ys,Yt⟩:=h0
 subst Yo
 subst Yp
 subst Yq
 unfold ao.pj4 at hp
 unfold ao.j4
 exact hC61 rfl rfl rfl ⟨w0,s0,Yr,Ys,Yt⟩ hp
def ao.S7853 (H0:Hp) (Ri R0:List Rs)  (C:Nat→Nat→Sl→Sl→Int→Sl→Int→Hp→OA) (pC:List (Int×Int×Int×Int×Int)→List (List Int)→List Bool→Int→List Int→Int→Option (List (List Int))):Prop:=∀ {xu xv xw xx:ON} {qV eR qW qX qY:Nat} {xy xz xA xB:Cap} {lz:List (Int×Int×Int×Int×Int)} {DK fM dU:Int} {mO:List (List Int)} {xC xD xE:List AV} {kx:List Bool} {mP:List Int},∀ {H:Hp},qV = lz.length→qW = mO.length→qX = kx.length→qY = mP.length→(Out H0 Ri H (Rs.blk eR [.sl ⟨xu,qV,xy⟩,.int .i64 DK] :: Rs.own ⟨xv,qW,xz⟩ (eSl (eInt .i64)).z xC :: Rs.own ⟨xw,qX,xA⟩ eBool.z xD :: Rs.own ⟨xx,qY,xB⟩ (eInt .i64).z xE :: R0) fun R=>ROs (ePair (eInt .i64) (ePair (eInt .i64) (ePair (eInt .i64) (ePair (eInt .i64) (eInt .i64))))) H R ⟨xu,qV,xy⟩ lz∧CR (eSl (eInt .i64)) H R xC mO∧CR eBool H R xD kx∧CR (eInt .i64) H R xE mP)→∀ {r:List (List Int)},pC lz mO kx fM mP dU = some r→∃ v H',C eR 0 ⟨xv,qW,xz⟩ ⟨xw,qX,xA⟩ fM ⟨xx,qY,xB⟩ dU H = some (v,H')∧ao.Q H0 Ri R0  r v H'
def ao.pj5 (F:Nat) (aU:List (Int×Int×Int×Int×Int)→List (List Int)→List Bool→Int→Option (List (List Int))) (qZ:List (Int×Int×Int×Int×Int)) (q_:List (List Int)) (ra:List Bool) (ob:Int):Option (List (List Int)):=aU qZ q_ ra (IntKind.i64.wrap (ob + 1))
theorem ao.j5_P {F:Nat} {H0:Hp} {Ri R0:List Rs}  {C61_:Nat→Nat→Sl→Sl→Int→Hp→OA} {aU:List (Int×Int×Int×Int×Int)→List (List Int)→List Bool→Int→Option (List (List Int))} (hC61:ao.S61 H0 Ri R0  C61_ aU) {Jl Jm Jn:ON} {DL wi DM DN:Nat} {Jo Jp Jq:Cap} {qZ:List (Int×Int×Int×Int×Int)} {Yu ob:Int} {q_:List (List Int)} {Jr Js:List AV} {ra:List Bool} {H:Hp} (Yv:DL = qZ.length) (Yw:DM = q_.length) (Yx:DN = ra.length) (h0:Out H0 Ri H (Rs.blk wi [.sl ⟨Jl,DL,Jo⟩,.int .i64 Yu] :: Rs.own ⟨Jm,DM,Jp⟩ (eSl (eInt .i64)).z Jr :: Rs.own ⟨Jn,DN,Jq⟩ eBool.z Js :: R0) fun R=>ROs (ePair (eInt .i64) (ePair (eInt .i64) (ePair (eInt .i64) (ePair (eInt .i64) (eInt .i64))))) H R ⟨Jl,DL,Jo⟩ qZ∧CR (eSl (eInt .i64)) H R Jr q_∧CR eBool H R Js ra) {r:List (List Int)} (hp:ao.pj5 F aU qZ q_ ra ob = some r):∃ v H',ao.j5 F (bK.tw F) C61_ wi 0 ⟨Jm,DM,Jp⟩ ⟨Jn,DN,Jq⟩ ob H = some (v,H')∧ao.Q H0 Ri R0  r v H':=by
 obtain ⟨w0,s0,Yy,Yz,YA⟩:=h0
 subst Yv
 subst Yw
 subst Yx
 unfold ao.pj5 at hp
 unfold ao.j5
 exact hC61 rfl rfl rfl ⟨w0,s0,Yy,Yz,YA⟩ hp
def ao.pj6 (F:Nat) (aU:List (Int×Int×Int×Int×Int)→List (List Int)→List Bool→Int→Option (List (List Int))) (rb:List (Int×Int×Int×Int×Int)) (rc:List (List Int)) (rd:List Bool) (oc:Int) (nC:List Int):Option (List (List Int)):=(apn rc ([nC]:List (List Int))).bind fun l3=>ao.pj5 F aU rb l3 rd oc
theorem ao.j6_P {F:Nat} {H0:Hp} {Ri R0:List Rs}  {C61_:Nat→Nat→Sl→Sl→Int→Hp→OA} {aU:List (Int×Int×Int×Int×Int)→List (List Int)→List Bool→Int→Option (List (List Int))} (hC61:ao.S61 H0 Ri R0  C61_ aU) {Jt Ju Jv Jw:ON} {DO wj DP DQ DR:Nat} {Jx Jy Jz JA:Cap} {rb:List (Int×Int×Int×Int×Int)} {YB oc:Int} {rc:List (List Int)} {JB JC JD:List AV} {rd:List Bool} {nC:List Int} {H:Hp} (YC:DO = rb.length) (YD:DP = rc.length) (YE:DQ = rd.length) (YF:DR = nC.length) (h0:Out H0 Ri H (Rs.blk wj [.sl ⟨Jt,DO,Jx⟩,.int .i64 YB] :: Rs.own ⟨Ju,DP,Jy⟩ (eSl (eInt .i64)).z JB :: Rs.own ⟨Jv,DQ,Jz⟩ eBool.z JC :: Rs.own ⟨Jw,DR,JA⟩ (eInt .i64).z JD :: R0) fun R=>ROs (ePair (eInt .i64) (ePair (eInt .i64) (ePair (eInt .i64) (ePair (eInt .i64) (eInt .i64))))) H R ⟨Jt,DO,Jx⟩ rb∧CR (eSl (eInt .i64)) H R JB rc∧CR eBool H R JC rd∧CR (eInt .i64) H R JD nC) {r:List (List Int)} (hp:ao.pj6 F aU rb rc rd oc nC = some r):∃ v H',ao.j6 F (bK.tw F) C61_ wj 0 ⟨Ju,DP,Jy⟩ ⟨Jv,DQ,Jz⟩ oc ⟨Jw,DR,JA⟩ H = some (v,H')∧ao.Q H0 Ri R0  r v H':=by
 obtain ⟨w0,s0,YG,YH,YI,YJ⟩:=h0
 subst YC
 subst YD
 subst YE
 subst YF
 unfold ao.pj6 at hp
 unfold ao.j6
 obtain ⟨w1,s1,f1⟩:=w0.frz (i:=3) (eInt .i64) rfl YJ
 dsimp only [List.eraseIdx] at w1 s1 f1
 refine newS_k (eSl (eInt .i64)) w1 (n:=1) (l:=([nC]:List (List Int))) rfl (CR.cons1 ⟨_,rfl,f1⟩ CR.empty) rfl fun H2 w2 s2 c2=>?_
 refine bind_ex (w2.rowo (i:=0) rfl) ?_
 obtain ⟨l3,e3,hp⟩:=bind_some' hp
 refine app_k (eSl (eInt .i64)) w2 (i:=2) rfl rfl (YH.step (s1.trans s2)) c2 (show 1 = List.length ([nC]:List (List Int)) from rfl) rfl e3 fun a4 d4 H4 w4 s4 c4 x4=>?_
 dsimp only [List.set] at w4 s4 c4
 obtain ⟨w5,s5⟩:=w4.pick' [1,2,3] 4 rfl rfl rfl
 dsimp only [pk,pks,nth,List.drop] at w5 s5
 exact ao.j5_P (@hC61) rfl rfl rfl ⟨w5,(s0.trans (s1.trans (s2.trans (s4.trans s5)))),(YG.step (s1.trans (s2.trans (s4.trans s5)))),(c4.step s5),(YI.step (s1.trans (s2.trans (s4.trans s5))))⟩ hp
def ao.pl7853 (F:Nat) (aU:List (Int×Int×Int×Int×Int)→List (List Int)→List Bool→Int→Option (List (List Int))):Nat→List (Int×Int×Int×Int×Int)→List (List Int)→List Bool→Int→List Int→Int→Option (List (List Int))
 | 0,_,_,_,_,_,_=>none
 | k + 1,lz,mO,kx,fM,mP,dU=>(ix kx dU).bind fun n1=>(bif (!(gt kx n1)) then ((ix kx dU).bind fun n2=>(some (kx.set n2 true)).bind fun l3=>(apn mP ([dU]:List Int)).bind fun l6=>(bK.p F lz dU).bind fun r8=>ao.pl7853 F aU k lz mO l3 fM l6 r8) else (ao.pj6 F aU lz mO kx fM mP))
termination_by structural n=>n
theorem ao.l7853_P {F:Nat} {H0:Hp} {Ri R0:List Rs}  {C61_:Nat→Nat→Sl→Sl→Int→Hp→OA} {aU:List (Int×Int×Int×Int×Int)→List (List Int)→List Bool→Int→Option (List (List Int))} (hC61:ao.S61 H0 Ri R0  C61_ aU):∀ k,ao.S7853 H0 Ri R0  (ao.l7853 F (bK.tw F) C61_ k) (ao.pl7853 F aU k):=by
 intro k
 induction k with
 | zero=>
  intro xu xv xw xx qV eR qW qX qY xy xz xA xB lz DK fM dU mO xC xD xE kx mP H JE JF JG JH h0 r hp
  exact nomatch (show (none:Option (List (List Int))) = some r from hp)
 | succ k ih=>
  intro xu xv xw xx qV eR qW qX qY xy xz xA xB lz DK fM dU mO xC xD xE kx mP H JE JF JG JH h0 r hp
  obtain ⟨w0,s0,DS,JI,xF,JJ⟩:=h0
  subst JE
  subst JF
  subst JG
  subst JH
  unfold ao.pl7853 at hp
  unfold ao.l7853
  obtain ⟨n1,g1,hp⟩:=bind_some' hp
  obtain ⟨p1,q1,i1,h1,j1⟩:=W.ixo (E:=eBool) w0 (i:=2) rfl rfl xF g1
  refine bind_ex i1 ?_
  have h1:_ = [_]:=h1
  subst h1
  refine bind_ex (ldB_of (j1 0 _ rfl)) ?_
  refine bif_ex (fun hb=>?_) (fun hb=>?_)
  ·replace hp:=bif_t hb hp
   obtain ⟨n2,g2,hp⟩:=bind_some' hp
   obtain ⟨p2,q2,i2,h2,j2⟩:=W.ixo (E:=eBool) w0 (i:=2) rfl rfl xF g2
   refine bind_ex i2 ?_
   obtain ⟨l3,e3,hp⟩:=bind_some' hp
   refine sto_k eBool w0 (i:=2) (j:=0) (p:=p2) rfl rfl xF g2 i2 e3 rfl rfl (fun _ h=>by have h:_ = [_]:=h; subst h; exact rfl) fun H4 k4 w4 s4 c4=>?_
   dsimp only [List.set] at w4 s4 c4
   refine newS_k (eInt .i64) w4 (n:=1) (l:=([dU]:List Int)) rfl (CR.cons1 rfl CR.empty) rfl fun H5 w5 s5 c5=>?_
   refine bind_ex (w5.rowo (i:=0) rfl) ?_
   obtain ⟨l6,e6,hp⟩:=bind_some' hp
   refine app_k (eInt .i64) w5 (i:=4) rfl rfl (JJ.step (s4.trans s5)) c5 (show 1 = List.length ([dU]:List Int) from rfl) rfl e6 fun a7 d7 H7 w7 s7 c7 x7=>?_
   dsimp only [List.set] at w7 s7 c7
   refine bind_ex (ldSl_of (w7.ld (i:=1) rfl rfl)) ?_
   refine bind_ex (ldI_of (w7.ld (i:=1) rfl rfl)) ?_
   obtain ⟨r8,e8,hp⟩:=bind_some' hp
   refine call_ex (bK.P rfl ⟨w7,(DS.step (s4.trans (s5.trans s7)))⟩ e8) ?_
   rintro _ H9 ⟨rfl,w9,s9,_⟩
   refine bind_ex rfl ?_
   obtain ⟨w10,s10⟩:=w9.pick' [1,2,3,4] 5 rfl rfl rfl
   dsimp only [pk,pks,nth,List.drop] at w10 s10
   exact ih rfl rfl ((st_len e3).symm) rfl ⟨w10,(s0.trans (s4.trans (s5.trans (s7.trans (s9.trans s10))))),(DS.step (s4.trans (s5.trans (s7.trans (s9.trans s10))))),(JI.step (s4.trans (s5.trans (s7.trans (s9.trans s10))))),(c4.step (s5.trans (s7.trans (s9.trans s10)))),(c7.step (s9.trans s10))⟩ hp
  ·replace hp:=bif_f hb hp
   exact ao.j6_P (@hC61) rfl rfl rfl rfl ⟨w0,s0,DS,JI,xF,JJ⟩ hp
def ao.pl61 (F:Nat) :Nat→List (Int×Int×Int×Int×Int)→List (List Int)→List Bool→Int→Option (List (List Int))
 | 0,_,_,_,_=>none
 | k + 1,cW,ly,fV,cK=>(bif (decide (cK < (fV.length:Int))) then ((ix fV cK).bind fun n1=>(bif (gt fV n1) then (ao.pj4 F (ao.pl61 F k) cW ly fV cK) else (ao.pl7853 F (ao.pl61 F k) F cW ly fV cK ([]:List Int) cK))) else (some ly))
termination_by structural n=>n
theorem ao.l61_P {F:Nat} {H0:Hp} {Ri R0:List Rs}  :∀ k,ao.S61 H0 Ri R0  (ao.l61 F (bK.tw F)  k) (ao.pl61 F  k):=by
 intro k
 induction k with
 | zero=>
  intro lq xp lr kv cD qR kw lu xq lv cW nB cK ly xt lw fV H qK JK qL h0 r hp
  exact nomatch (show (none:Option (List (List Int))) = some r from hp)
 | succ k ih=>
  intro lq xp lr kv cD qR kw lu xq lv cW nB cK ly xt lw fV H qK JK qL h0 r hp
  obtain ⟨w0,s0,pP,DT,pQ⟩:=h0
  subst qK
  subst JK
  subst qL
  unfold ao.pl61 at hp
  unfold ao.l61
  refine bif_ex (fun hb=>?_) (fun hb=>?_)
  ·replace hp:=bif_t hb hp
   obtain ⟨n1,g1,hp⟩:=bind_some' hp
   obtain ⟨p1,q1,i1,h1,j1⟩:=W.ixo (E:=eBool) w0 (i:=2) rfl rfl pQ g1
   refine bind_ex i1 ?_
   have h1:_ = [_]:=h1
   subst h1
   refine bind_ex (ldB_of (j1 0 _ rfl)) ?_
   refine bif_ex (fun hb=>?_) (fun hb=>?_)
   ·replace hp:=bif_t hb hp
    exact ao.j4_P (@ih) rfl rfl rfl ⟨w0,s0,pP,DT,pQ⟩ hp
   ·replace hp:=bif_f hb hp
    refine newS_k (eInt .i64) w0 (n:=0) (l:=([]:List Int)) rfl CR.empty rfl fun H2 w2 s2 c2=>?_
    obtain ⟨w3,s3⟩:=w2.pick' [1,2,3,0] 4 rfl rfl rfl
    dsimp only [pk,pks,nth,List.drop] at w3 s3
    exact ao.l7853_P (@ih) F rfl rfl rfl (show 0 = List.length ([]:List Int) from rfl) ⟨w3,(s0.trans (s2.trans s3)),(pP.step (s2.trans s3)),(DT.step (s2.trans s3)),(pQ.step (s2.trans s3)),(c2.step s3)⟩ hp
  ·replace hp:=bif_f hb hp
   obtain ⟨w4,s4⟩:=w0.pick' [1] 3 rfl rfl rfl
   dsimp only [pk,pks,nth,List.drop] at w4 s4
   obtain rfl:=Option.some.inj hp
   exact ⟨_,_,rfl,_,_,_,_,rfl,rfl,w4,(s0.trans s4),(DT.step s4)⟩
def ao.p (F:Nat) (ae:List (Int×Int×Int×Int×Int)):Option (List (List Int)):=(mkn (IntKind.i64.wrap (4 * (ae.length:Int))) false).bind fun l3=>ao.pl61 F F ae ([]:List (List Int)) l3 0
theorem ao.P {F:Nat} {az:ON} {ap:Nat} {aA:Cap} {ae:List (Int×Int×Int×Int×Int)} {ab:Int} {H:Hp} {R0:List Rs} (aW:ap = ae.length) (h0:Inn H R0 fun R=>ROs (ePair (eInt .i64) (ePair (eInt .i64) (ePair (eInt .i64) (ePair (eInt .i64) (eInt .i64))))) H R ⟨az,ap,aA⟩ ae) {r:List (List Int)} (hp:ao.p F ae = some r):∃ v H',ao.tw F ⟨az,ap,aA⟩ ab H = some (v,H')∧ao.Q H R0 R0  r v H':=by
 obtain ⟨w0,aK⟩:=h0
 subst aW
 unfold ao.p at hp
 unfold ao.tw ao.twX
 have s0:=w0.rf
 refine new_k w0 fun H1 w1 s1=>?_
 refine newS_k (eSl (eInt .i64)) w1 (n:=0) (l:=([]:List (List Int))) rfl CR.empty rfl fun H2 w2 s2 c2=>?_
 refine bind_ex (ldSl_of (w2.ld (i:=1) rfl rfl)) ?_
 obtain ⟨l3,e3,hp⟩:=bind_some' hp
 refine mk_k eBool false w2 rfl rfl rfl e3 fun H4 k4 w4 s4 c4=>?_
 obtain ⟨w5,s5⟩:=w4.pick' [2,1,0] 3 rfl rfl rfl
 dsimp only [pk,pks,nth,List.drop] at w5 s5
 exact ao.l61_P F rfl (show 0 = List.length ([]:List (List Int)) from rfl) rfl ⟨w5,(s0.trans (s1.trans (s2.trans (s4.trans s5)))),(aK.step (s1.trans (s2.trans (s4.trans s5)))),(c2.step (s4.trans s5)),(c4.step s5)⟩ hp
def ak.Q (H0:Hp) (Ri R0:List Rs)  (r:List Int) (v:AV) (H':Hp):Prop:=∃ o0a:ON,∃ o0n:Nat,∃ o0c:Cap,∃ o0k:List AV,v = (.sl ⟨o0a,o0n,o0c⟩)∧o0n = (r).length∧Out H0 Ri H' (Rs.own ⟨o0a,o0n,o0c⟩ (eInt .i64).z o0k :: R0) fun R=>CR (eInt .i64) H' R o0k (r)
def ak.S29 (H0:Hp) (Ri R0:List Rs)  (C:Nat→Nat→Sl→Int→Hp→OA) (pC:List (Int×Int×Int×Int×Int)→List Int→Int→Option (List Int)):Prop:=∀ {xG xH:ON} {rh gB ri:Nat} {xI xJ:Cap} {lA:List (Int×Int×Int×Int×Int)} {DU eT:Int} {mQ:List Int} {xK:List AV},∀ {H:Hp},rh = lA.length→ri = mQ.length→(Out H0 Ri H (Rs.blk gB [.sl ⟨xG,rh,xI⟩,.int .i64 DU] :: Rs.own ⟨xH,ri,xJ⟩ (eInt .i64).z xK :: R0) fun R=>ROs (ePair (eInt .i64) (ePair (eInt .i64) (ePair (eInt .i64) (ePair (eInt .i64) (eInt .i64))))) H R ⟨xG,rh,xI⟩ lA∧CR (eInt .i64) H R xK mQ)→∀ {r:List Int},pC lA mQ eT = some r→∃ v H',C gB 0 ⟨xH,ri,xJ⟩ eT H = some (v,H')∧ak.Q H0 Ri R0  r v H'
def ak.S61 (H0:Hp) (Ri R0:List Rs)  (C:Nat→Nat→Sl→Int→Hp→OA) (pC:List (Int×Int×Int×Int×Int)→List Int→Int→Option (List Int)):Prop:=∀ {xL xM:ON} {rj fA rl:Nat} {xN xO:Cap} {la:List (Int×Int×Int×Int×Int)} {DV eS:Int} {jL:List Int} {xP:List AV},∀ {H:Hp},rj = la.length→rl = jL.length→(Out H0 Ri H (Rs.blk fA [.sl ⟨xL,rj,xN⟩,.int .i64 DV] :: Rs.own ⟨xM,rl,xO⟩ (eInt .i64).z xP :: R0) fun R=>ROs (ePair (eInt .i64) (ePair (eInt .i64) (ePair (eInt .i64) (ePair (eInt .i64) (eInt .i64))))) H R ⟨xL,rj,xN⟩ la∧CR (eInt .i64) H R xP jL)→∀ {r:List Int},pC la jL eS = some r→∃ v H',C fA 0 ⟨xM,rl,xO⟩ eS H = some (v,H')∧ak.Q H0 Ri R0  r v H'
def ak.S7855 (H0:Hp) (Ri R0:List Rs)  (C:Nat→Nat→Sl→Int→Int→Int→Int→Hp→OA) (pC:List (Int×Int×Int×Int×Int)→List Int→Int→Int→Int→Int→Option (List Int)):Prop:=∀ {xQ xR:ON} {rm fz rn:Nat} {xS xT:Cap} {lB:List (Int×Int×Int×Int×Int)} {DW ek df dx dV:Int} {jp:List Int} {xU:List AV},∀ {H:Hp},rm = lB.length→rn = jp.length→(Out H0 Ri H (Rs.blk fz [.sl ⟨xQ,rm,xS⟩,.int .i64 DW] :: Rs.own ⟨xR,rn,xT⟩ (eInt .i64).z xU :: R0) fun R=>ROs (ePair (eInt .i64) (ePair (eInt .i64) (ePair (eInt .i64) (ePair (eInt .i64) (eInt .i64))))) H R ⟨xQ,rm,xS⟩ lB∧CR (eInt .i64) H R xU jp)→∀ {r:List Int},pC lB jp ek df dx dV = some r→∃ v H',C fz 0 ⟨xR,rn,xT⟩ ek df dx dV H = some (v,H')∧ak.Q H0 Ri R0  r v H'
def ak.pj8 (F:Nat) (xV:List (Int×Int×Int×Int×Int)→List Int→Int→Int→Int→Int→Option (List Int)) (ro:List (Int×Int×Int×Int×Int)) (rp:List Int) (og:Int) (oh:Int) (oi:Int) (oj:Int):Option (List Int):=xV ro rp og oh oi (IntKind.i64.wrap (oj + 1))
theorem ak.j8_P {F:Nat} {H0:Hp} {Ri R0:List Rs}  {C7855_:Nat→Nat→Sl→Int→Int→Int→Int→Hp→OA} {xV:List (Int×Int×Int×Int×Int)→List Int→Int→Int→Int→Int→Option (List Int)} (hC7855:ak.S7855 H0 Ri R0  C7855_ xV) {JL JM:ON} {DX wo DY:Nat} {JN JO:Cap} {ro:List (Int×Int×Int×Int×Int)} {YK og oh oi oj:Int} {rp:List Int} {JP:List AV} {H:Hp} (YL:DX = ro.length) (YM:DY = rp.length) (h0:Out H0 Ri H (Rs.blk wo [.sl ⟨JL,DX,JN⟩,.int .i64 YK] :: Rs.own ⟨JM,DY,JO⟩ (eInt .i64).z JP :: R0) fun R=>ROs (ePair (eInt .i64) (ePair (eInt .i64) (ePair (eInt .i64) (ePair (eInt .i64) (eInt .i64))))) H R ⟨JL,DX,JN⟩ ro∧CR (eInt .i64) H R JP rp) {r:List Int} (hp:ak.pj8 F xV ro rp og oh oi oj = some r):∃ v H',ak.j8 F (ax.tw F) C7855_ wo 0 ⟨JM,DY,JO⟩ og oh oi oj H = some (v,H')∧ak.Q H0 Ri R0  r v H':=by
 obtain ⟨w0,s0,YN,YO⟩:=h0
 subst YL
 subst YM
 unfold ak.pj8 at hp
 unfold ak.j8
 exact hC7855 rfl rfl ⟨w0,s0,YN,YO⟩ hp
def ak.pj6 (F:Nat) (aU:List (Int×Int×Int×Int×Int)→List Int→Int→Option (List Int)) (rq:List (Int×Int×Int×Int×Int)) (rr:List Int) (od:Int):Option (List Int):=aU rq rr (IntKind.i64.wrap (od + 1))
theorem ak.j6_P {F:Nat} {H0:Hp} {Ri R0:List Rs}  {C61_:Nat→Nat→Sl→Int→Hp→OA} {aU:List (Int×Int×Int×Int×Int)→List Int→Int→Option (List Int)} (hC61:ak.S61 H0 Ri R0  C61_ aU) {JQ JR:ON} {DZ wl D_:Nat} {JS JT:Cap} {rq:List (Int×Int×Int×Int×Int)} {YP od:Int} {rr:List Int} {JU:List AV} {H:Hp} (YQ:DZ = rq.length) (YR:D_ = rr.length) (h0:Out H0 Ri H (Rs.blk wl [.sl ⟨JQ,DZ,JS⟩,.int .i64 YP] :: Rs.own ⟨JR,D_,JT⟩ (eInt .i64).z JU :: R0) fun R=>ROs (ePair (eInt .i64) (ePair (eInt .i64) (ePair (eInt .i64) (ePair (eInt .i64) (eInt .i64))))) H R ⟨JQ,DZ,JS⟩ rq∧CR (eInt .i64) H R JU rr) {r:List Int} (hp:ak.pj6 F aU rq rr od = some r):∃ v H',ak.j6 F (ax.tw F) C61_ wl 0 ⟨JR,D_,JT⟩ od H = some (v,H')∧ak.Q H0 Ri R0  r v H':=by
 obtain ⟨w0,s0,YS,YT⟩:=h0
 subst YQ
 subst YR
 unfold ak.pj6 at hp
 unfold ak.j6
 exact hC61 rfl rfl ⟨w0,s0,YS,YT⟩ hp
def ak.pj7 (F:Nat) (aU:List (Int×Int×Int×Int×Int)→List Int→Int→Option (List Int)) (rs:List (Int×Int×Int×Int×Int)) (rt:List Int) (mp:Int):Option (List Int):=ak.pj6 F aU rs rt mp
theorem ak.j7_P {F:Nat} {H0:Hp} {Ri R0:List Rs}  {C61_:Nat→Nat→Sl→Int→Hp→OA} {aU:List (Int×Int×Int×Int×Int)→List Int→Int→Option (List Int)} (hC61:ak.S61 H0 Ri R0  C61_ aU) {JV JW:ON} {Ea wm Ec:Nat} {JX JY:Cap} {rs:List (Int×Int×Int×Int×Int)} {YU mp:Int} {rt:List Int} {JZ:List AV} {H:Hp} (YV:Ea = rs.length) (YW:Ec = rt.length) (h0:Out H0 Ri H (Rs.blk wm [.sl ⟨JV,Ea,JX⟩,.int .i64 YU] :: Rs.own ⟨JW,Ec,JY⟩ (eInt .i64).z JZ :: R0) fun R=>ROs (ePair (eInt .i64) (ePair (eInt .i64) (ePair (eInt .i64) (ePair (eInt .i64) (eInt .i64))))) H R ⟨JV,Ea,JX⟩ rs∧CR (eInt .i64) H R JZ rt) {r:List Int} (hp:ak.pj7 F aU rs rt mp = some r):∃ v H',ak.j7 F (ax.tw F) C61_ wm 0 ⟨JW,Ec,JY⟩ mp H = some (v,H')∧ak.Q H0 Ri R0  r v H':=by
 obtain ⟨w0,s0,YX,YY⟩:=h0
 subst YV
 subst YW
 unfold ak.pj7 at hp
 unfold ak.j7
 exact ak.j6_P (@hC61) rfl rfl ⟨w0,s0,YX,YY⟩ hp
def ak.pl7855 (F:Nat) (aU:List (Int×Int×Int×Int×Int)→List Int→Int→Option (List Int)):Nat→List (Int×Int×Int×Int×Int)→List Int→Int→Int→Int→Int→Option (List Int)
 | 0,_,_,_,_,_,_=>none
 | k + 1,lB,jp,ek,df,dx,dV=>(bif (decide (dV < (jp.length:Int))) then ((ix jp dV).bind fun n1=>(bif ((gt jp n1) == (if dx > df then dx else df)) then ((ix jp dV).bind fun n2=>(some (jp.set n2 (if dx < df then dx else df))).bind fun l3=>ak.pj8 F (ak.pl7855 F aU k) lB l3 ek df dx dV) else (ak.pj8 F (ak.pl7855 F aU k) lB jp ek df dx dV))) else (ak.pj7 F aU lB jp ek))
termination_by structural n=>n
theorem ak.l7855_P {F:Nat} {H0:Hp} {Ri R0:List Rs}  {C61_:Nat→Nat→Sl→Int→Hp→OA} {aU:List (Int×Int×Int×Int×Int)→List Int→Int→Option (List Int)} (hC61:ak.S61 H0 Ri R0  C61_ aU):∀ k,ak.S7855 H0 Ri R0  (ak.l7855 F (ax.tw F) C61_ k) (ak.pl7855 F aU k):=by
 intro k
 induction k with
 | zero=>
  intro xQ xR rm fz rn xS xT lB DW ek df dx dV jp xU H J_ Ka h0 r hp
  exact nomatch (show (none:Option (List Int)) = some r from hp)
 | succ k ih=>
  intro xQ xR rm fz rn xS xT lB DW ek df dx dV jp xU H J_ Ka h0 r hp
  obtain ⟨w0,s0,Ed,ru⟩:=h0
  subst J_
  subst Ka
  unfold ak.pl7855 at hp
  unfold ak.l7855
  refine bif_ex (fun hb=>?_) (fun hb=>?_)
  ·replace hp:=bif_t hb hp
   obtain ⟨n1,g1,hp⟩:=bind_some' hp
   obtain ⟨p1,q1,i1,h1,j1⟩:=W.ixo (E:=(eInt .i64)) w0 (i:=1) rfl rfl ru g1
   refine bind_ex i1 ?_
   have h1:_ = [_]:=h1
   subst h1
   refine bind_ex (ldI_of (j1 0 _ rfl)) ?_
   refine bif_ex (fun hb=>?_) (fun hb=>?_)
   ·replace hp:=bif_t hb hp
    obtain ⟨n2,g2,hp⟩:=bind_some' hp
    obtain ⟨p2,q2,i2,h2,j2⟩:=W.ixo (E:=(eInt .i64)) w0 (i:=1) rfl rfl ru g2
    refine bind_ex i2 ?_
    obtain ⟨l3,e3,hp⟩:=bind_some' hp
    refine sto_k (eInt .i64) w0 (i:=1) (j:=0) (p:=p2) rfl rfl ru g2 i2 e3 rfl rfl (fun _ h=>by have h:_ = [_]:=h; subst h; exact rfl) fun H4 k4 w4 s4 c4=>?_
    dsimp only [List.set] at w4 s4 c4
    exact ak.j8_P (@ih) rfl ((st_len e3).symm) ⟨w4,(s0.trans s4),(Ed.step s4),c4⟩ hp
   ·replace hp:=bif_f hb hp
    exact ak.j8_P (@ih) rfl rfl ⟨w0,s0,Ed,ru⟩ hp
  ·replace hp:=bif_f hb hp
   exact ak.j7_P (@hC61) rfl rfl ⟨w0,s0,Ed,ru⟩ hp
def ak.pl61 (F:Nat) :Nat→List (Int×Int×Int×Int×Int)→List Int→Int→Option (List Int)
 | 0,_,_,_=>none
 | k + 1,la,jL,eS=>(bif (decide (eS < (IntKind.i64.wrap (2 * (la.length:Int))))) then ((ax.p F la eS true).bind fun r1=>(ax.p F la eS false).bind fun r3=>(ix jL r1.1).bind fun n5=>(ix jL r3.1).bind fun n6=>ak.pl7855 F (ak.pl61 F k) F la jL eS (gt jL n5) (gt jL n6) 0) else (some jL))
termination_by structural n=>n
theorem ak.l61_P {F:Nat} {H0:Hp} {Ri R0:List Rs}  :∀ k,ak.S61 H0 Ri R0  (ak.l61 F (ax.tw F)  k) (ak.pl61 F  k):=by
 intro k
 induction k with
 | zero=>
  intro xL xM rj fA rl xN xO la DV eS jL xP H Kb Kc h0 r hp
  exact nomatch (show (none:Option (List Int)) = some r from hp)
 | succ k ih=>
  intro xL xM rj fA rl xN xO la DV eS jL xP H Kb Kc h0 r hp
  obtain ⟨w0,s0,Ee,xW⟩:=h0
  subst Kb
  subst Kc
  unfold ak.pl61 at hp
  unfold ak.l61
  refine bind_ex (ldSl_of (w0.ld (i:=0) rfl rfl)) ?_
  refine bif_ex (fun hb=>?_) (fun hb=>?_)
  ·replace hp:=bif_t hb hp
   refine bind_ex (ldSl_of (w0.ld (i:=0) rfl rfl)) ?_
   refine bind_ex (ldI_of (w0.ld (i:=0) rfl rfl)) ?_
   obtain ⟨r1,e1,hp⟩:=bind_some' hp
   refine call_ex (ax.P rfl ⟨w0,Ee⟩ e1) ?_
   rintro _ H2 ⟨rfl,w2,s2,_⟩
   refine bind_ex rfl ?_
   refine bind_ex rfl ?_
   refine bind_ex rfl ?_
   refine bind_ex rfl ?_
   refine bind_ex rfl ?_
   refine bind_ex (ldSl_of (w2.ld (i:=0) rfl rfl)) ?_
   refine bind_ex (ldI_of (w2.ld (i:=0) rfl rfl)) ?_
   obtain ⟨r3,e3,hp⟩:=bind_some' hp
   refine call_ex (ax.P rfl ⟨w2,(Ee.step s2)⟩ e3) ?_
   rintro _ H4 ⟨rfl,w4,s4,_⟩
   refine bind_ex rfl ?_
   refine bind_ex rfl ?_
   refine bind_ex rfl ?_
   refine bind_ex rfl ?_
   refine bind_ex rfl ?_
   obtain ⟨n5,g5,hp⟩:=bind_some' hp
   obtain ⟨p5,q5,i5,h5,j5⟩:=W.ixo (E:=(eInt .i64)) w4 (i:=1) rfl rfl (xW.step (s2.trans s4)) g5
   refine bind_ex i5 ?_
   have h5:_ = [_]:=h5
   subst h5
   refine bind_ex (ldI_of (j5 0 _ rfl)) ?_
   obtain ⟨n6,g6,hp⟩:=bind_some' hp
   obtain ⟨p6,q6,i6,h6,j6⟩:=W.ixo (E:=(eInt .i64)) w4 (i:=1) rfl rfl (xW.step (s2.trans s4)) g6
   refine bind_ex i6 ?_
   have h6:_ = [_]:=h6
   subst h6
   refine bind_ex (ldI_of (j6 0 _ rfl)) ?_
   exact ak.l7855_P (@ih) F rfl rfl ⟨w4,(s0.trans (s2.trans s4)),(Ee.step (s2.trans s4)),(xW.step (s2.trans s4))⟩ hp
  ·replace hp:=bif_f hb hp
   obtain ⟨w7,s7⟩:=w0.pick' [1] 2 rfl rfl rfl
   dsimp only [pk,pks,nth,List.drop] at w7 s7
   obtain rfl:=Option.some.inj hp
   exact ⟨_,_,rfl,_,_,_,_,rfl,rfl,w7,(s0.trans s7),(xW.step s7)⟩
def ak.pj9 (F:Nat)  (rv:List (Int×Int×Int×Int×Int)) (rx:List Int):Option (List Int):=ak.pl61 F F rv rx 0
theorem ak.j9_P {F:Nat} {H0:Hp} {Ri R0:List Rs}   {Kd Ke:ON} {Ef wp Eg:Nat} {Kf Kg:Cap} {rv:List (Int×Int×Int×Int×Int)} {YZ:Int} {rx:List Int} {Kh:List AV} {H:Hp} (Y_:Ef = rv.length) (Za:Eg = rx.length) (h0:Out H0 Ri H (Rs.blk wp [.sl ⟨Kd,Ef,Kf⟩,.int .i64 YZ] :: Rs.own ⟨Ke,Eg,Kg⟩ (eInt .i64).z Kh :: R0) fun R=>ROs (ePair (eInt .i64) (ePair (eInt .i64) (ePair (eInt .i64) (ePair (eInt .i64) (eInt .i64))))) H R ⟨Kd,Ef,Kf⟩ rv∧CR (eInt .i64) H R Kh rx) {r:List Int} (hp:ak.pj9 F  rv rx = some r):∃ v H',ak.j9 F (ax.tw F)  wp 0 ⟨Ke,Eg,Kg⟩ H = some (v,H')∧ak.Q H0 Ri R0  r v H':=by
 obtain ⟨w0,s0,Zb,Zc⟩:=h0
 subst Y_
 subst Za
 unfold ak.pj9 at hp
 unfold ak.j9
 exact ak.l61_P F rfl rfl ⟨w0,s0,Zb,Zc⟩ hp
def ak.pl29 (F:Nat) :Nat→List (Int×Int×Int×Int×Int)→List Int→Int→Option (List Int)
 | 0,_,_,_=>none
 | k + 1,lA,mQ,eT=>(bif (decide (eT < (lA.length:Int))) then ((apn mQ ([eT]:List Int)).bind fun l2=>ak.pl29 F k lA l2 (IntKind.i64.wrap (eT + 1))) else (ak.pj9 F lA mQ))
termination_by structural n=>n
theorem ak.l29_P {F:Nat} {H0:Hp} {Ri R0:List Rs}  :∀ k,ak.S29 H0 Ri R0  (ak.l29 F (ax.tw F)  k) (ak.pl29 F  k):=by
 intro k
 induction k with
 | zero=>
  intro xG xH rh gB ri xI xJ lA DU eT mQ xK H Ki Kj h0 r hp
  exact nomatch (show (none:Option (List Int)) = some r from hp)
 | succ k ih=>
  intro xG xH rh gB ri xI xJ lA DU eT mQ xK H Ki Kj h0 r hp
  obtain ⟨w0,s0,Kk,Kl⟩:=h0
  subst Ki
  subst Kj
  unfold ak.pl29 at hp
  unfold ak.l29
  refine bind_ex (ldSl_of (w0.ld (i:=0) rfl rfl)) ?_
  refine bif_ex (fun hb=>?_) (fun hb=>?_)
  ·replace hp:=bif_t hb hp
   refine newS_k (eInt .i64) w0 (n:=1) (l:=([eT]:List Int)) rfl (CR.cons1 rfl CR.empty) rfl fun H1 w1 s1 c1=>?_
   refine bind_ex (w1.rowo (i:=0) rfl) ?_
   obtain ⟨l2,e2,hp⟩:=bind_some' hp
   refine app_k (eInt .i64) w1 (i:=2) rfl rfl (Kl.step s1) c1 (show 1 = List.length ([eT]:List Int) from rfl) rfl e2 fun a3 d3 H3 w3 s3 c3 x3=>?_
   dsimp only [List.set] at w3 s3 c3
   obtain ⟨w4,s4⟩:=w3.pick' [1,2] 3 rfl rfl rfl
   dsimp only [pk,pks,nth,List.drop] at w4 s4
   exact ih rfl rfl ⟨w4,(s0.trans (s1.trans (s3.trans s4))),(Kk.step (s1.trans (s3.trans s4))),(c3.step s4)⟩ hp
  ·replace hp:=bif_f hb hp
   exact ak.j9_P rfl rfl ⟨w0,s0,Kk,Kl⟩ hp
def ak.p (F:Nat) (ae:List (Int×Int×Int×Int×Int)):Option (List Int):=ak.pl29 F F ae ([]:List Int) 0
theorem ak.P {F:Nat} {az:ON} {ap:Nat} {aA:Cap} {ae:List (Int×Int×Int×Int×Int)} {ab:Int} {H:Hp} {R0:List Rs} (aW:ap = ae.length) (h0:Inn H R0 fun R=>ROs (ePair (eInt .i64) (ePair (eInt .i64) (ePair (eInt .i64) (ePair (eInt .i64) (eInt .i64))))) H R ⟨az,ap,aA⟩ ae) {r:List Int} (hp:ak.p F ae = some r):∃ v H',ak.tw F ⟨az,ap,aA⟩ ab H = some (v,H')∧ak.Q H R0 R0  r v H':=by
 obtain ⟨w0,aK⟩:=h0
 subst aW
 unfold ak.p at hp
 unfold ak.tw ak.twX
 have s0:=w0.rf
 refine new_k w0 fun H1 w1 s1=>?_
 refine newS_k (eInt .i64) w1 (n:=0) (l:=([]:List Int)) rfl CR.empty rfl fun H2 w2 s2 c2=>?_
 obtain ⟨w3,s3⟩:=w2.pick' [1,0] 2 rfl rfl rfl
 dsimp only [pk,pks,nth,List.drop] at w3 s3
 exact ak.l29_P F rfl (show 0 = List.length ([]:List Int) from rfl) ⟨w3,(s0.trans (s1.trans (s2.trans s3))),(aK.step (s1.trans (s2.trans s3))),(c2.step s3)⟩ hp
def aI.Q (H0:Hp) (Ri R0:List Rs)  (r:Int) (v:AV) (H':Hp):Prop:=v = (.int .i64 r)∧Out H0 Ri H' (R0) fun R=>True
def aI.S61 (H0:Hp) (Ri R0:List Rs)  (C:Int→Sl→Int→Hp→OA) (pC:Int→List Int→Int→Option (Int)):Prop:=∀ {eU dW:Int} {xX:ON} {ry:Nat} {xY:Cap} {ky:List Int} {xZ:List AV},∀ {H:Hp},ry = ky.length→(Out H0 Ri H (Rs.own ⟨xX,ry,xY⟩ (eInt .i64).z xZ :: R0) fun R=>CR (eInt .i64) H R xZ ky)→∀ {r:Int},pC eU ky dW = some r→∃ v H',C eU ⟨xX,ry,xY⟩ dW H = some (v,H')∧aI.Q H0 Ri R0  r v H'
def aI.pj2 (F:Nat) (aU:Int→List Int→Int→Option (Int)) (ol:Int) (rz:List Int) (om:Int):Option (Int):=aU ol rz (IntKind.i64.wrap (om + 1))
theorem aI.j2_P {F:Nat} {H0:Hp} {Ri R0:List Rs}  {C61_:Int→Sl→Int→Hp→OA} {aU:Int→List Int→Int→Option (Int)} (hC61:aI.S61 H0 Ri R0  C61_ aU) {ol om:Int} {Km:ON} {Eh:Nat} {Kn:Cap} {rz:List Int} {Ko:List AV} {H:Hp} (Zd:Eh = rz.length) (h0:Out H0 Ri H (Rs.own ⟨Km,Eh,Kn⟩ (eInt .i64).z Ko :: R0) fun R=>CR (eInt .i64) H R Ko rz) {r:Int} (hp:aI.pj2 F aU ol rz om = some r):∃ v H',aI.j2 F (ak.tw F) C61_ ol ⟨Km,Eh,Kn⟩ om H = some (v,H')∧aI.Q H0 Ri R0  r v H':=by
 obtain ⟨w0,s0,Ze⟩:=h0
 subst Zd
 unfold aI.pj2 at hp
 unfold aI.j2
 exact hC61 rfl ⟨w0,s0,Ze⟩ hp
def aI.pl61 (F:Nat) :Nat→Int→List Int→Int→Option (Int)
 | 0,_,_,_=>none
 | k + 1,eU,ky,dW=>(bif (decide (dW < (ky.length:Int))) then ((ix ky dW).bind fun n1=>(bif ((gt ky n1) == dW) then (aI.pj2 F (aI.pl61 F k) (IntKind.i64.wrap (eU + 1)) ky dW) else (aI.pj2 F (aI.pl61 F k) eU ky dW))) else (some eU))
termination_by structural n=>n
theorem aI.l61_P {F:Nat} {H0:Hp} {Ri R0:List Rs}  :∀ k,aI.S61 H0 Ri R0  (aI.l61 F (ak.tw F)  k) (aI.pl61 F  k):=by
 intro k
 induction k with
 | zero=>
  intro eU dW xX ry xY ky xZ H Kp h0 r hp
  exact nomatch (show (none:Option (Int)) = some r from hp)
 | succ k ih=>
  intro eU dW xX ry xY ky xZ H Kp h0 r hp
  obtain ⟨w0,s0,Ei⟩:=h0
  subst Kp
  unfold aI.pl61 at hp
  unfold aI.l61
  refine bif_ex (fun hb=>?_) (fun hb=>?_)
  ·replace hp:=bif_t hb hp
   obtain ⟨n1,g1,hp⟩:=bind_some' hp
   obtain ⟨p1,q1,i1,h1,j1⟩:=W.ixo (E:=(eInt .i64)) w0 (i:=0) rfl rfl Ei g1
   refine bind_ex i1 ?_
   have h1:_ = [_]:=h1
   subst h1
   refine bind_ex (ldI_of (j1 0 _ rfl)) ?_
   refine bif_ex (fun hb=>?_) (fun hb=>?_)
   ·replace hp:=bif_t hb hp
    exact aI.j2_P (@ih) rfl ⟨w0,s0,Ei⟩ hp
   ·replace hp:=bif_f hb hp
    exact aI.j2_P (@ih) rfl ⟨w0,s0,Ei⟩ hp
  ·replace hp:=bif_f hb hp
   obtain ⟨w2,s2⟩:=w0.pick' [] 1 rfl rfl rfl
   dsimp only [pk,pks,nth,List.drop] at w2 s2
   obtain rfl:=Option.some.inj hp
   exact ⟨_,_,rfl,rfl,w2,(s0.trans s2),trivial⟩
def aI.p (F:Nat) (ae:List (Int×Int×Int×Int×Int)):Option (Int):=(ak.p F ae).bind fun r2=>aI.pl61 F F 0 r2 0
theorem aI.P {F:Nat} {az:ON} {ap:Nat} {aA:Cap} {ae:List (Int×Int×Int×Int×Int)} {ab:Int} {H:Hp} {R0:List Rs} (aW:ap = ae.length) (h0:Inn H R0 fun R=>ROs (ePair (eInt .i64) (ePair (eInt .i64) (ePair (eInt .i64) (ePair (eInt .i64) (eInt .i64))))) H R ⟨az,ap,aA⟩ ae) {r:Int} (hp:aI.p F ae = some r):∃ v H',aI.tw F ⟨az,ap,aA⟩ ab H = some (v,H')∧aI.Q H R0 R0  r v H':=by
 obtain ⟨w0,aK⟩:=h0
 subst aW
 unfold aI.p at hp
 unfold aI.tw aI.twX
 have s0:=w0.rf
 refine new_k w0 fun H1 w1 s1=>?_
 refine bind_ex (ldSl_of (w1.ld (i:=0) rfl rfl)) ?_
 refine bind_ex (ldI_of (w1.ld (i:=0) rfl rfl)) ?_
 obtain ⟨r2,e2,hp⟩:=bind_some' hp
 refine call_ex (ak.P rfl ⟨w1,(aK.step s1)⟩ e2) ?_
 rintro _ H3 ⟨o0a_3,o0n_3,o0c_3,o0k_3,rfl,rfl,w3,s3,f3_0⟩
 refine bind_ex rfl ?_
 obtain ⟨w4,s4⟩:=w3.pick' [0] 2 rfl rfl rfl
 dsimp only [pk,pks,nth,List.drop] at w4 s4
 exact aI.l61_P F rfl ⟨w4,(s0.trans (s1.trans (s3.trans s4))),(f3_0.step s4)⟩ hp
def bQ.Q (H0:Hp) (Ri R0:List Rs)  (r:Bool) (v:AV) (H':Hp):Prop:=v = (.bool r)∧Out H0 Ri H' (R0) fun R=>True
def bQ.p (F:Nat) (ae:List (Int×Int×Int×Int×Int)) (ab:Int):Option (Bool):=(bif (decide ((ae.length:Int) > 10)) then (some false) else ((bn.p F ab 0 8).bind fun r3=>(bif (!r3) then (some false) else ((aC.p F ae).bind fun r6=>(bif (!r6) then (some false) else ((ao.p F ae).bind fun r9=>(aI.p F ae).bind fun r12=>some ((r9.length:Int) == (IntKind.i64.wrap ((ae.length:Int) + (IntKind.i64.wrap (2 * r12)))))))))))
theorem bQ.P {F:Nat} {az:ON} {ap:Nat} {aA:Cap} {ae:List (Int×Int×Int×Int×Int)} {ab:Int} {H:Hp} {R0:List Rs} (aW:ap = ae.length) (h0:Inn H R0 fun R=>ROs (ePair (eInt .i64) (ePair (eInt .i64) (ePair (eInt .i64) (ePair (eInt .i64) (eInt .i64))))) H R ⟨az,ap,aA⟩ ae) {r:Bool} (hp:bQ.p F ae ab = some r):∃ v H',bQ.tw F ⟨az,ap,aA⟩ ab H = some (v,H')∧bQ.Q H R0 R0  r v H':=by
 obtain ⟨w0,aK⟩:=h0
 subst aW
 unfold bQ.p at hp
 unfold bQ.tw bQ.twX
 have s0:=w0.rf
 refine new_k w0 fun H1 w1 s1=>?_
 refine bind_ex (ldSl_of (w1.ld (i:=0) rfl rfl)) ?_
 refine bif_ex (fun hb=>?_) (fun hb=>?_)
 ·replace hp:=bif_t hb hp
  obtain ⟨w2,s2⟩:=w1.pick' [] 1 rfl rfl rfl
  dsimp only [pk,pks,nth,List.drop] at w2 s2
  obtain rfl:=Option.some.inj hp
  exact ⟨_,_,rfl,rfl,w2,(s0.trans (s1.trans s2)),trivial⟩
 ·replace hp:=bif_f hb hp
  refine bind_ex (ldI_of (w1.ld (i:=0) rfl rfl)) ?_
  obtain ⟨r3,e3,hp⟩:=bind_some' hp
  refine call_ex (bn.P ⟨w1,trivial⟩ e3) ?_
  rintro _ H4 ⟨rfl,w4,s4,_⟩
  refine bind_ex rfl ?_
  refine bif_ex (fun hb=>?_) (fun hb=>?_)
  ·replace hp:=bif_t hb hp
   obtain ⟨w5,s5⟩:=w4.pick' [] 1 rfl rfl rfl
   dsimp only [pk,pks,nth,List.drop] at w5 s5
   obtain rfl:=Option.some.inj hp
   exact ⟨_,_,rfl,rfl,w5,(s0.trans (s1.trans (s4.trans s5))),trivial⟩
  ·replace hp:=bif_f hb hp
   refine bind_ex (ldSl_of (w4.ld (i:=0) rfl rfl)) ?_
   refine bind_ex (ldI_of (w4.ld (i:=0) rfl rfl)) ?_
   obtain ⟨r6,e6,hp⟩:=bind_some' hp
   refine call_ex (aC.P rfl ⟨w4,(aK.step (s1.trans s4))⟩ e6) ?_
   rintro _ H7 ⟨rfl,w7,s7,_⟩
   refine bind_ex rfl ?_
   refine bif_ex (fun hb=>?_) (fun hb=>?_)
   ·replace hp:=bif_t hb hp
    obtain ⟨w8,s8⟩:=w7.pick' [] 1 rfl rfl rfl
    dsimp only [pk,pks,nth,List.drop] at w8 s8
    obtain rfl:=Option.some.inj hp
    exact ⟨_,_,rfl,rfl,w8,(s0.trans (s1.trans (s4.trans (s7.trans s8)))),trivial⟩
   ·replace hp:=bif_f hb hp
    refine bind_ex (ldSl_of (w7.ld (i:=0) rfl rfl)) ?_
    refine bind_ex (ldI_of (w7.ld (i:=0) rfl rfl)) ?_
    obtain ⟨r9,e9,hp⟩:=bind_some' hp
    refine call_ex (ao.P rfl ⟨w7,(aK.step (s1.trans (s4.trans s7)))⟩ e9) ?_
    rintro _ H10 ⟨o0a_10,o0n_10,o0c_10,o0k_10,rfl,rfl,w10,s10,f10_0⟩
    refine bind_ex rfl ?_
    refine ifs_ex (W.cons_of (Rn:=[_]) w7 w10 s10) ?_
    refine bind_ex (ldSl_of (w10.ld (i:=1) rfl rfl)) ?_
    refine bind_ex (ldSl_of (w10.ld (i:=1) rfl rfl)) ?_
    refine bind_ex (ldI_of (w10.ld (i:=1) rfl rfl)) ?_
    obtain ⟨r12,e12,hp⟩:=bind_some' hp
    refine call_ex (aI.P rfl ⟨w10,(aK.step (s1.trans (s4.trans (s7.trans s10))))⟩ e12) ?_
    rintro _ H13 ⟨rfl,w13,s13,_⟩
    refine bind_ex rfl ?_
    refine ifs_ex (W.cons_of (Rn:=[]) w10 w13 s13) ?_
    obtain ⟨w15,s15⟩:=w13.pick' [] 2 rfl rfl rfl
    dsimp only [pk,pks,nth,List.drop] at w15 s15
    obtain rfl:=Option.some.inj hp
    exact ⟨_,_,rfl,rfl,w15,(s0.trans (s1.trans (s4.trans (s7.trans (s10.trans (s13.trans s15)))))),trivial⟩
def aw.Q (H0:Hp) (Ri R0:List Rs)  (r:List Int) (v:AV) (H':Hp):Prop:=∃ o0a:ON,∃ o0n:Nat,∃ o0c:Cap,∃ o0k:List AV,v = (.sl ⟨o0a,o0n,o0c⟩)∧o0n = (r).length∧Out H0 Ri H' (Rs.own ⟨o0a,o0n,o0c⟩ (eInt .i64).z o0k :: R0) fun R=>CR (eInt .i64) H' R o0k (r)
def aw.S61 (H0:Hp) (Ri R0:List Rs)  (C:Sl→Sl→Int→Hp→OA) (pC:List Int→List (List Int)→Int→Option (List Int)):Prop:=∀ {x_ ya:ON} {rA rB:Nat} {yb yc:Cap} {mR:List Int} {yd ye:List AV} {mS:List (List Int)} {gC:Int},∀ {H:Hp},rA = mR.length→rB = mS.length→(Out H0 Ri H (Rs.own ⟨x_,rA,yb⟩ (eInt .i64).z yd :: Rs.own ⟨ya,rB,yc⟩ (eSl (eInt .i64)).z ye :: R0) fun R=>CR (eInt .i64) H R yd mR∧CR (eSl (eInt .i64)) H R ye mS)→∀ {r:List Int},pC mR mS gC = some r→∃ v H',C ⟨x_,rA,yb⟩ ⟨ya,rB,yc⟩ gC H = some (v,H')∧aw.Q H0 Ri R0  r v H'
def aw.S981 (H0:Hp) (Ri R0:List Rs)  (C:Sl→Sl→Int→Int→Hp→OA) (pC:List Int→List (List Int)→Int→Int→Option (List Int)):Prop:=∀ {yf yg:ON} {rC rD:Nat} {yh yi:Cap} {lC:List Int} {yj yl:List AV} {jq:List (List Int)} {dO fN:Int},∀ {H:Hp},rC = lC.length→rD = jq.length→(Out H0 Ri H (Rs.own ⟨yf,rC,yh⟩ (eInt .i64).z yj :: Rs.own ⟨yg,rD,yi⟩ (eSl (eInt .i64)).z yl :: R0) fun R=>CR (eInt .i64) H R yj lC∧CR (eSl (eInt .i64)) H R yl jq)→∀ {r:List Int},pC lC jq dO fN = some r→∃ v H',C ⟨yf,rC,yh⟩ ⟨yg,rD,yi⟩ dO fN H = some (v,H')∧aw.Q H0 Ri R0  r v H'
def aw.pj3 (F:Nat) (aU:List Int→List (List Int)→Int→Option (List Int)) (rE:List Int) (rF:List (List Int)) (oo:Int):Option (List Int):=aU rE rF (IntKind.i64.wrap (oo + 1))
theorem aw.j3_P {F:Nat} {H0:Hp} {Ri R0:List Rs}  {C61_:Sl→Sl→Int→Hp→OA} {aU:List Int→List (List Int)→Int→Option (List Int)} (hC61:aw.S61 H0 Ri R0  C61_ aU) {Kq Kr:ON} {Ej Ek:Nat} {Ks Kt:Cap} {rE:List Int} {Ku Kv:List AV} {rF:List (List Int)} {oo:Int} {H:Hp} (Zf:Ej = rE.length) (Zg:Ek = rF.length) (h0:Out H0 Ri H (Rs.own ⟨Kq,Ej,Ks⟩ (eInt .i64).z Ku :: Rs.own ⟨Kr,Ek,Kt⟩ (eSl (eInt .i64)).z Kv :: R0) fun R=>CR (eInt .i64) H R Ku rE∧CR (eSl (eInt .i64)) H R Kv rF) {r:List Int} (hp:aw.pj3 F aU rE rF oo = some r):∃ v H',aw.j3 F (ao.tw F) C61_ ⟨Kq,Ej,Ks⟩ ⟨Kr,Ek,Kt⟩ oo H = some (v,H')∧aw.Q H0 Ri R0  r v H':=by
 obtain ⟨w0,s0,Zh,Zi⟩:=h0
 subst Zf
 subst Zg
 unfold aw.pj3 at hp
 unfold aw.j3
 exact hC61 rfl rfl ⟨w0,s0,Zh,Zi⟩ hp
def aw.pj4 (F:Nat) (aU:List Int→List (List Int)→Int→Option (List Int)) (rG:List Int) (rH:List (List Int)) (oq:Int):Option (List Int):=aw.pj3 F aU rG rH oq
theorem aw.j4_P {F:Nat} {H0:Hp} {Ri R0:List Rs}  {C61_:Sl→Sl→Int→Hp→OA} {aU:List Int→List (List Int)→Int→Option (List Int)} (hC61:aw.S61 H0 Ri R0  C61_ aU) {Kw Kx:ON} {El Em:Nat} {Ky Kz:Cap} {rG:List Int} {KA KB:List AV} {rH:List (List Int)} {oq:Int} {H:Hp} (Zj:El = rG.length) (Zk:Em = rH.length) (h0:Out H0 Ri H (Rs.own ⟨Kw,El,Ky⟩ (eInt .i64).z KA :: Rs.own ⟨Kx,Em,Kz⟩ (eSl (eInt .i64)).z KB :: R0) fun R=>CR (eInt .i64) H R KA rG∧CR (eSl (eInt .i64)) H R KB rH) {r:List Int} (hp:aw.pj4 F aU rG rH oq = some r):∃ v H',aw.j4 F (ao.tw F) C61_ ⟨Kw,El,Ky⟩ ⟨Kx,Em,Kz⟩ oq H = some (v,H')∧aw.Q H0 Ri R0  r v H':=by
 obtain ⟨w0,s0,Zl,Zm⟩:=h0
 subst Zj
 subst Zk
 unfold aw.pj4 at hp
 unfold aw.j4
 exact aw.j3_P (@hC61) rfl rfl ⟨w0,s0,Zl,Zm⟩ hp
def aw.pl981 (F:Nat) (aU:List Int→List (List Int)→Int→Option (List Int)):Nat→List Int→List (List Int)→Int→Int→Option (List Int)
 | 0,_,_,_,_=>none
 | k + 1,lC,jq,dO,fN=>(ix jq dO).bind fun n1=>(bif (decide (fN < (((gt jq n1).length):Int))) then ((ix jq dO).bind fun n2=>(ix (gt jq n2) fN).bind fun n3=>(ix lC (gt (gt jq n2) n3)).bind fun n4=>(some (lC.set n4 dO)).bind fun l5=>aw.pl981 F aU k l5 jq dO (IntKind.i64.wrap (fN + 1))) else (aw.pj4 F aU lC jq dO))
termination_by structural n=>n
theorem aw.l981_P {F:Nat} {H0:Hp} {Ri R0:List Rs}  {C61_:Sl→Sl→Int→Hp→OA} {aU:List Int→List (List Int)→Int→Option (List Int)} (hC61:aw.S61 H0 Ri R0  C61_ aU):∀ k,aw.S981 H0 Ri R0  (aw.l981 F (ao.tw F) C61_ k) (aw.pl981 F aU k):=by
 intro k
 induction k with
 | zero=>
  intro yf yg rC rD yh yi lC yj yl jq dO fN H KC KD h0 r hp
  exact nomatch (show (none:Option (List Int)) = some r from hp)
 | succ k ih=>
  intro yf yg rC rD yh yi lC yj yl jq dO fN H KC KD h0 r hp
  obtain ⟨w0,s0,En,ym⟩:=h0
  subst KC
  subst KD
  unfold aw.pl981 at hp
  unfold aw.l981
  obtain ⟨n1,g1,hp⟩:=bind_some' hp
  obtain ⟨p1,q1,i1,h1,j1⟩:=W.ixo (E:=(eSl (eInt .i64))) w0 (i:=1) rfl rfl ym g1
  refine bind_ex i1 ?_
  obtain ⟨⟨Zn,m1_0,c1_0⟩,rfl,f1_0⟩:=h1
  obtain rfl:m1_0 = _:=f1_0.n
  refine bind_ex (ldSl_of (j1 0 _ rfl)) ?_
  refine bif_ex (fun hb=>?_) (fun hb=>?_)
  ·replace hp:=bif_t hb hp
   obtain ⟨n2,g2,hp⟩:=bind_some' hp
   obtain ⟨p2,q2,i2,h2,j2⟩:=W.ixo (E:=(eSl (eInt .i64))) w0 (i:=1) rfl rfl ym g2
   refine bind_ex i2 ?_
   obtain ⟨⟨aeI,m2_0,c2_0⟩,rfl,f2_0⟩:=h2
   obtain rfl:m2_0 = _:=f2_0.n
   refine bind_ex (ldSl_of (j2 0 _ rfl)) ?_
   obtain ⟨n3,g3,hp⟩:=bind_some' hp
   obtain ⟨p3,q3,i3,h3,j3⟩:=ROs.ixr f2_0 rfl g3
   refine bind_ex i3 ?_
   have h3:_ = [_]:=h3
   subst h3
   refine bind_ex (ldI_of (j3 0 _ rfl)) ?_
   obtain ⟨n4,g4,hp⟩:=bind_some' hp
   obtain ⟨p4,q4,i4,h4,j4⟩:=W.ixo (E:=(eInt .i64)) w0 (i:=0) rfl rfl En g4
   refine bind_ex i4 ?_
   obtain ⟨l5,e5,hp⟩:=bind_some' hp
   refine sto_k (eInt .i64) w0 (i:=0) (j:=0) (p:=p4) rfl rfl En g4 i4 e5 rfl rfl (fun _ h=>by have h:_ = [_]:=h; subst h; exact rfl) fun H6 k6 w6 s6 c6=>?_
   dsimp only [List.set] at w6 s6 c6
   exact ih ((st_len e5).symm) rfl ⟨w6,(s0.trans s6),c6,(ym.step s6)⟩ hp
  ·replace hp:=bif_f hb hp
   exact aw.j4_P (@hC61) rfl rfl ⟨w0,s0,En,ym⟩ hp
def aw.pl61 (F:Nat) :Nat→List Int→List (List Int)→Int→Option (List Int)
 | 0,_,_,_=>none
 | k + 1,mR,mS,gC=>(bif (decide (gC < (mS.length:Int))) then (aw.pl981 F (aw.pl61 F k) F mR mS gC 0) else (some mR))
termination_by structural n=>n
theorem aw.l61_P {F:Nat} {H0:Hp} {Ri R0:List Rs}  :∀ k,aw.S61 H0 Ri R0  (aw.l61 F (ao.tw F)  k) (aw.pl61 F  k):=by
 intro k
 induction k with
 | zero=>
  intro x_ ya rA rB yb yc mR yd ye mS gC H KE KF h0 r hp
  exact nomatch (show (none:Option (List Int)) = some r from hp)
 | succ k ih=>
  intro x_ ya rA rB yb yc mR yd ye mS gC H KE KF h0 r hp
  obtain ⟨w0,s0,KG,Zo⟩:=h0
  subst KE
  subst KF
  unfold aw.pl61 at hp
  unfold aw.l61
  refine bif_ex (fun hb=>?_) (fun hb=>?_)
  ·replace hp:=bif_t hb hp
   exact aw.l981_P (@ih) F rfl rfl ⟨w0,s0,KG,Zo⟩ hp
  ·replace hp:=bif_f hb hp
   obtain ⟨w1,s1⟩:=w0.pick' [0] 2 rfl rfl rfl
   dsimp only [pk,pks,nth,List.drop] at w1 s1
   obtain rfl:=Option.some.inj hp
   exact ⟨_,_,rfl,_,_,_,_,rfl,rfl,w1,(s0.trans s1),(KG.step s1)⟩
def aw.p (F:Nat) (ae:List (Int×Int×Int×Int×Int)):Option (List Int):=(mkn (IntKind.i64.wrap (4 * (ae.length:Int))) (0:Int)).bind fun l2=>(ao.p F ae).bind fun r4=>aw.pl61 F F l2 r4 0
theorem aw.P {F:Nat} {az:ON} {ap:Nat} {aA:Cap} {ae:List (Int×Int×Int×Int×Int)} {ab:Int} {H:Hp} {R0:List Rs} (aW:ap = ae.length) (h0:Inn H R0 fun R=>ROs (ePair (eInt .i64) (ePair (eInt .i64) (ePair (eInt .i64) (ePair (eInt .i64) (eInt .i64))))) H R ⟨az,ap,aA⟩ ae) {r:List Int} (hp:aw.p F ae = some r):∃ v H',aw.tw F ⟨az,ap,aA⟩ ab H = some (v,H')∧aw.Q H R0 R0  r v H':=by
 obtain ⟨w0,aK⟩:=h0
 subst aW
 unfold aw.p at hp
 unfold aw.tw aw.twX
 have s0:=w0.rf
 refine new_k w0 fun H1 w1 s1=>?_
 refine bind_ex (ldSl_of (w1.ld (i:=0) rfl rfl)) ?_
 obtain ⟨l2,e2,hp⟩:=bind_some' hp
 refine mk_k (eInt .i64) (0:Int) w1 rfl rfl rfl e2 fun H3 k3 w3 s3 c3=>?_
 refine bind_ex (ldSl_of (w3.ld (i:=1) rfl rfl)) ?_
 refine bind_ex (ldI_of (w3.ld (i:=1) rfl rfl)) ?_
 obtain ⟨r4,e4,hp⟩:=bind_some' hp
 refine call_ex (ao.P rfl ⟨w3,(aK.step (s1.trans s3))⟩ e4) ?_
 rintro _ H5 ⟨o0a_5,o0n_5,o0c_5,o0k_5,rfl,rfl,w5,s5,f5_0⟩
 refine bind_ex rfl ?_
 obtain ⟨w6,s6⟩:=w5.pick' [1,0] 3 rfl rfl rfl
 dsimp only [pk,pks,nth,List.drop] at w6 s6
 exact aw.l61_P F rfl rfl ⟨w6,(s0.trans (s1.trans (s3.trans (s5.trans s6)))),(c3.step (s5.trans s6)),(f5_0.step s6)⟩ hp
def ac.Q (H0:Hp) (Ri R0:List Rs)  (r:List Int) (v:AV) (H':Hp):Prop:=∃ o0a:ON,∃ o0n:Nat,∃ o0c:Cap,∃ o0k:List AV,v = (.sl ⟨o0a,o0n,o0c⟩)∧o0n = (r).length∧Out H0 Ri H' (Rs.own ⟨o0a,o0n,o0c⟩ (eInt .i64).z o0k :: R0) fun R=>CR (eInt .i64) H' R o0k (r)
def ac.S125 (H0:Hp) (Ri R0:List Rs)  (C:Sl→Sl→Sl→Int→Hp→OA) (pC:List Int→List Int→List Int→Int→Option (List Int)):Prop:=∀ {yn yo lD:ON} {rI rJ kz:Nat} {yp yq lE:Cap} {mT mU gx:List Int} {yt yu lF:List AV} {fO:Int},∀ {H:Hp},rI = mT.length→rJ = mU.length→kz = gx.length→(Out H0 Ri H (Rs.own ⟨yn,rI,yp⟩ (eInt .i64).z yt :: Rs.own ⟨yo,rJ,yq⟩ (eInt .i64).z yu :: Rs.own ⟨lD,kz,lE⟩ (eInt .i64).z lF :: R0) fun R=>CR (eInt .i64) H R yt mT∧CR (eInt .i64) H R yu mU∧CR (eInt .i64) H R lF gx)→∀ {r:List Int},pC mT mU gx fO = some r→∃ v H',C ⟨yn,rI,yp⟩ ⟨yo,rJ,yq⟩ ⟨lD,kz,lE⟩ fO H = some (v,H')∧ac.Q H0 Ri R0  r v H'
def ac.S253 (H0:Hp) (Ri R0:List Rs)  (C:Sl→Sl→Sl→Int→Hp→OA) (pC:List Int→List Int→List Int→Int→Option (List Int)):Prop:=∀ {yv yw yx:ON} {rK rL rM:Nat} {yy yz yA:Cap} {kA kB lb:List Int} {yB yC yD:List AV} {dG:Int},∀ {H:Hp},rK = kA.length→rL = kB.length→rM = lb.length→(Out H0 Ri H (Rs.own ⟨yv,rK,yy⟩ (eInt .i64).z yB :: Rs.own ⟨yw,rL,yz⟩ (eInt .i64).z yC :: Rs.own ⟨yx,rM,yA⟩ (eInt .i64).z yD :: R0) fun R=>CR (eInt .i64) H R yB kA∧CR (eInt .i64) H R yC kB∧CR (eInt .i64) H R yD lb)→∀ {r:List Int},pC kA kB lb dG = some r→∃ v H',C ⟨yv,rK,yy⟩ ⟨yw,rL,yz⟩ ⟨yx,rM,yA⟩ dG H = some (v,H')∧ac.Q H0 Ri R0  r v H'
def ac.pj28 (F:Nat) (iU:List Int→List Int→List Int→Int→Option (List Int)) (rN:List Int) (rO:List Int) (rP:List Int) (oE:Int):Option (List Int):=iU rN rO rP (IntKind.i64.wrap (oE + 1))
theorem ac.j28_P {F:Nat} {H0:Hp} {Ri R0:List Rs}  {C253_:Sl→Sl→Sl→Int→Hp→OA} {iU:List Int→List Int→List Int→Int→Option (List Int)} (hC253:ac.S253 H0 Ri R0  C253_ iU) {KH KI KJ:ON} {Eo Er Es:Nat} {KK KL KM:Cap} {rN rO rP:List Int} {KN KO KP:List AV} {oE:Int} {H:Hp} (Zp:Eo = rN.length) (Zq:Er = rO.length) (Zr:Es = rP.length) (h0:Out H0 Ri H (Rs.own ⟨KH,Eo,KK⟩ (eInt .i64).z KN :: Rs.own ⟨KI,Er,KL⟩ (eInt .i64).z KO :: Rs.own ⟨KJ,Es,KM⟩ (eInt .i64).z KP :: R0) fun R=>CR (eInt .i64) H R KN rN∧CR (eInt .i64) H R KO rO∧CR (eInt .i64) H R KP rP) {r:List Int} (hp:ac.pj28 F iU rN rO rP oE = some r):∃ v H',ac.j28 F (aw.tw F) (ak.tw F) (ao.tw F) C253_ ⟨KH,Eo,KK⟩ ⟨KI,Er,KL⟩ ⟨KJ,Es,KM⟩ oE H = some (v,H')∧ac.Q H0 Ri R0  r v H':=by
 obtain ⟨w0,s0,Zs,Zt,Zu⟩:=h0
 subst Zp
 subst Zq
 subst Zr
 unfold ac.pj28 at hp
 unfold ac.j28
 exact hC253 rfl rfl rfl ⟨w0,s0,Zs,Zt,Zu⟩ hp
def ac.pj29 (F:Nat) (iU:List Int→List Int→List Int→Int→Option (List Int)) (rQ:List Int) (rR:List Int) (rS:List Int) (oF:Int):Option (List Int):=iU rQ rR rS (IntKind.i64.wrap (oF + 1))
theorem ac.j29_P {F:Nat} {H0:Hp} {Ri R0:List Rs}  {C253_:Sl→Sl→Sl→Int→Hp→OA} {iU:List Int→List Int→List Int→Int→Option (List Int)} (hC253:ac.S253 H0 Ri R0  C253_ iU) {KQ KR KS:ON} {Et Eu Ev:Nat} {KT KU KV:Cap} {rQ rR rS:List Int} {KW KX KY:List AV} {oF:Int} {H:Hp} (Zv:Et = rQ.length) (Zw:Eu = rR.length) (Zx:Ev = rS.length) (h0:Out H0 Ri H (Rs.own ⟨KQ,Et,KT⟩ (eInt .i64).z KW :: Rs.own ⟨KR,Eu,KU⟩ (eInt .i64).z KX :: Rs.own ⟨KS,Ev,KV⟩ (eInt .i64).z KY :: R0) fun R=>CR (eInt .i64) H R KW rQ∧CR (eInt .i64) H R KX rR∧CR (eInt .i64) H R KY rS) {r:List Int} (hp:ac.pj29 F iU rQ rR rS oF = some r):∃ v H',ac.j29 F (aw.tw F) (ak.tw F) (ao.tw F) C253_ ⟨KQ,Et,KT⟩ ⟨KR,Eu,KU⟩ ⟨KS,Ev,KV⟩ oF H = some (v,H')∧ac.Q H0 Ri R0  r v H':=by
 obtain ⟨w0,s0,Zy,Zz,ZA⟩:=h0
 subst Zv
 subst Zw
 subst Zx
 unfold ac.pj29 at hp
 unfold ac.j29
 exact hC253 rfl rfl rfl ⟨w0,s0,Zy,Zz,ZA⟩ hp
def ac.S509 (H0:Hp) (Ri R0:List Rs)  (C:Sl→Sl→Bool→Hp→OA) (pC:List Int→List Int→Bool→Option (List Int)):Prop:=∀ {yE yF:ON} {rT rU:Nat} {yG yH:Cap} {nD mV:List Int} {yI yJ:List AV} {hX:Bool},∀ {H:Hp},rT = nD.length→rU = mV.length→(Out H0 Ri H (Rs.own ⟨yE,rT,yG⟩ (eInt .i64).z yI :: Rs.own ⟨yF,rU,yH⟩ (eInt .i64).z yJ :: R0) fun R=>CR (eInt .i64) H R yI nD∧CR (eInt .i64) H R yJ mV)→∀ {r:List Int},pC nD mV hX = some r→∃ v H',C ⟨yE,rT,yG⟩ ⟨yF,rU,yH⟩ hX H = some (v,H')∧ac.Q H0 Ri R0  r v H'
def ac.S8151 (H0:Hp) (Ri R0:List Rs)  (C:Sl→Sl→Bool→Int→Hp→OA) (pC:List Int→List Int→Bool→Int→Option (List Int)):Prop:=∀ {yK yL:ON} {rV rW:Nat} {yM yN:Cap} {dt dJ:List Int} {yO yP:List AV} {es:Bool} {cG:Int},∀ {H:Hp},rV = dt.length→rW = dJ.length→(Out H0 Ri H (Rs.own ⟨yK,rV,yM⟩ (eInt .i64).z yO :: Rs.own ⟨yL,rW,yN⟩ (eInt .i64).z yP :: R0) fun R=>CR (eInt .i64) H R yO dt∧CR (eInt .i64) H R yP dJ)→∀ {r:List Int},pC dt dJ es cG = some r→∃ v H',C ⟨yK,rV,yM⟩ ⟨yL,rW,yN⟩ es cG H = some (v,H')∧ac.Q H0 Ri R0  r v H'
def ac.pj22 (F:Nat) (dK:List Int→List Int→Bool→Int→Option (List Int)) (rX:List Int) (rY:List Int) (ov:Bool) (ox:Int):Option (List Int):=dK rX rY ov (IntKind.i64.wrap (ox + 1))
theorem ac.j22_P {F:Nat} {H0:Hp} {Ri R0:List Rs}  {C8151_:Sl→Sl→Bool→Int→Hp→OA} {dK:List Int→List Int→Bool→Int→Option (List Int)} (hC8151:ac.S8151 H0 Ri R0  C8151_ dK) {KZ K_:ON} {Ew Ex:Nat} {La Lb:Cap} {rX rY:List Int} {Lc Ld:List AV} {ov:Bool} {ox:Int} {H:Hp} (ZB:Ew = rX.length) (ZC:Ex = rY.length) (h0:Out H0 Ri H (Rs.own ⟨KZ,Ew,La⟩ (eInt .i64).z Lc :: Rs.own ⟨K_,Ex,Lb⟩ (eInt .i64).z Ld :: R0) fun R=>CR (eInt .i64) H R Lc rX∧CR (eInt .i64) H R Ld rY) {r:List Int} (hp:ac.pj22 F dK rX rY ov ox = some r):∃ v H',ac.j22 F (aw.tw F) (ak.tw F) (ao.tw F) C8151_ ⟨KZ,Ew,La⟩ ⟨K_,Ex,Lb⟩ ov ox H = some (v,H')∧ac.Q H0 Ri R0  r v H':=by
 obtain ⟨w0,s0,ZD,ZE⟩:=h0
 subst ZB
 subst ZC
 unfold ac.pj22 at hp
 unfold ac.j22
 exact hC8151 rfl rfl ⟨w0,s0,ZD,ZE⟩ hp
def ac.pj23 (F:Nat) (dK:List Int→List Int→Bool→Int→Option (List Int)) (rZ:List Int) (r_:List Int) (oy:Bool) (oz:Int):Option (List Int):=dK rZ r_ oy (IntKind.i64.wrap (oz + 1))
theorem ac.j23_P {F:Nat} {H0:Hp} {Ri R0:List Rs}  {C8151_:Sl→Sl→Bool→Int→Hp→OA} {dK:List Int→List Int→Bool→Int→Option (List Int)} (hC8151:ac.S8151 H0 Ri R0  C8151_ dK) {Le Lf:ON} {Ey Ez:Nat} {Lg Lh:Cap} {rZ r_:List Int} {Li Lj:List AV} {oy:Bool} {oz:Int} {H:Hp} (ZF:Ey = rZ.length) (ZG:Ez = r_.length) (h0:Out H0 Ri H (Rs.own ⟨Le,Ey,Lg⟩ (eInt .i64).z Li :: Rs.own ⟨Lf,Ez,Lh⟩ (eInt .i64).z Lj :: R0) fun R=>CR (eInt .i64) H R Li rZ∧CR (eInt .i64) H R Lj r_) {r:List Int} (hp:ac.pj23 F dK rZ r_ oy oz = some r):∃ v H',ac.j23 F (aw.tw F) (ak.tw F) (ao.tw F) C8151_ ⟨Le,Ey,Lg⟩ ⟨Lf,Ez,Lh⟩ oy oz H = some (v,H')∧ac.Q H0 Ri R0  r v H':=by
 obtain ⟨w0,s0,ZH,ZI⟩:=h0
 subst ZF
 subst ZG
 unfold ac.pj23 at hp
 unfold ac.j23
 exact hC8151 rfl rfl ⟨w0,s0,ZH,ZI⟩ hp
def ac.pj24 (F:Nat) (dK:List Int→List Int→Bool→Int→Option (List Int)) (kC:List Int) (iV:List Int) (mq:Bool) (iF:Int) (mr:Int):Option (List Int):=(ix iV mr).bind fun n1=>(bif (decide ((gt iV n1) ≥ 0)) then ((ix kC iF).bind fun n2=>(ix iV (gt kC n2)).bind fun n3=>(bif (decide ((gt iV n3) < 0)) then ((ix kC iF).bind fun n4=>(ix iV mr).bind fun n5=>(ix iV (gt kC n4)).bind fun n6=>(some (iV.set n6 (IntKind.i64.wrap (1 - (gt iV n5))))).bind fun l7=>ac.pj22 F dK kC l7 true iF) else (ac.pj23 F dK kC iV mq iF))) else (dK kC iV mq (IntKind.i64.wrap (iF + 1))))
theorem ac.j24_P {F:Nat} {H0:Hp} {Ri R0:List Rs}  {C8151_:Sl→Sl→Bool→Int→Hp→OA} {dK:List Int→List Int→Bool→Int→Option (List Int)} (hC8151:ac.S8151 H0 Ri R0  C8151_ dK) {Lk Ll:ON} {EA EB:Nat} {Lm Ln:Cap} {kC iV:List Int} {Lo Lp:List AV} {mq:Bool} {iF mr:Int} {H:Hp} (ZJ:EA = kC.length) (ZK:EB = iV.length) (h0:Out H0 Ri H (Rs.own ⟨Lk,EA,Lm⟩ (eInt .i64).z Lo :: Rs.own ⟨Ll,EB,Ln⟩ (eInt .i64).z Lp :: R0) fun R=>CR (eInt .i64) H R Lo kC∧CR (eInt .i64) H R Lp iV) {r:List Int} (hp:ac.pj24 F dK kC iV mq iF mr = some r):∃ v H',ac.j24 F (aw.tw F) (ak.tw F) (ao.tw F) C8151_ ⟨Lk,EA,Lm⟩ ⟨Ll,EB,Ln⟩ mq iF mr H = some (v,H')∧ac.Q H0 Ri R0  r v H':=by
 obtain ⟨w0,s0,sa,nE⟩:=h0
 subst ZJ
 subst ZK
 unfold ac.pj24 at hp
 unfold ac.j24
 obtain ⟨n1,g1,hp⟩:=bind_some' hp
 obtain ⟨p1,q1,i1,h1,j1⟩:=W.ixo (E:=(eInt .i64)) w0 (i:=1) rfl rfl nE g1
 refine bind_ex i1 ?_
 have h1:_ = [_]:=h1
 subst h1
 refine bind_ex (ldI_of (j1 0 _ rfl)) ?_
 refine bif_ex (fun hb=>?_) (fun hb=>?_)
 ·replace hp:=bif_t hb hp
  obtain ⟨n2,g2,hp⟩:=bind_some' hp
  obtain ⟨p2,q2,i2,h2,j2⟩:=W.ixo (E:=(eInt .i64)) w0 (i:=0) rfl rfl sa g2
  refine bind_ex i2 ?_
  have h2:_ = [_]:=h2
  subst h2
  refine bind_ex (ldI_of (j2 0 _ rfl)) ?_
  obtain ⟨n3,g3,hp⟩:=bind_some' hp
  obtain ⟨p3,q3,i3,h3,j3⟩:=W.ixo (E:=(eInt .i64)) w0 (i:=1) rfl rfl nE g3
  refine bind_ex i3 ?_
  have h3:_ = [_]:=h3
  subst h3
  refine bind_ex (ldI_of (j3 0 _ rfl)) ?_
  refine bif_ex (fun hb=>?_) (fun hb=>?_)
  ·replace hp:=bif_t hb hp
   obtain ⟨n4,g4,hp⟩:=bind_some' hp
   obtain ⟨p4,q4,i4,h4,j4⟩:=W.ixo (E:=(eInt .i64)) w0 (i:=0) rfl rfl sa g4
   refine bind_ex i4 ?_
   have h4:_ = [_]:=h4
   subst h4
   refine bind_ex (ldI_of (j4 0 _ rfl)) ?_
   obtain ⟨n5,g5,hp⟩:=bind_some' hp
   obtain ⟨p5,q5,i5,h5,j5⟩:=W.ixo (E:=(eInt .i64)) w0 (i:=1) rfl rfl nE g5
   refine bind_ex i5 ?_
   have h5:_ = [_]:=h5
   subst h5
   refine bind_ex (ldI_of (j5 0 _ rfl)) ?_
   obtain ⟨n6,g6,hp⟩:=bind_some' hp
   obtain ⟨p6,q6,i6,h6,j6⟩:=W.ixo (E:=(eInt .i64)) w0 (i:=1) rfl rfl nE g6
   refine bind_ex i6 ?_
   obtain ⟨l7,e7,hp⟩:=bind_some' hp
   refine sto_k (eInt .i64) w0 (i:=1) (j:=0) (p:=p6) rfl rfl nE g6 i6 e7 rfl rfl (fun _ h=>by have h:_ = [_]:=h; subst h; exact rfl) fun H8 k8 w8 s8 c8=>?_
   dsimp only [List.set] at w8 s8 c8
   exact ac.j22_P (@hC8151) rfl ((st_len e7).symm) ⟨w8,(s0.trans s8),(sa.step s8),c8⟩ hp
  ·replace hp:=bif_f hb hp
   exact ac.j23_P (@hC8151) rfl rfl ⟨w0,s0,sa,nE⟩ hp
 ·replace hp:=bif_f hb hp
  exact hC8151 rfl rfl ⟨w0,s0,sa,nE⟩ hp
def ac.pj25 (F:Nat) (dK:List Int→List Int→Bool→Int→Option (List Int)) (sd:List Int) (se:List Int) (oA:Bool) (oB:Int):Option (List Int):=dK sd se oA (IntKind.i64.wrap (oB + 1))
theorem ac.j25_P {F:Nat} {H0:Hp} {Ri R0:List Rs}  {C8151_:Sl→Sl→Bool→Int→Hp→OA} {dK:List Int→List Int→Bool→Int→Option (List Int)} (hC8151:ac.S8151 H0 Ri R0  C8151_ dK) {Lq Lr:ON} {EC ED:Nat} {Ls Lt:Cap} {sd se:List Int} {Lu Lv:List AV} {oA:Bool} {oB:Int} {H:Hp} (ZL:EC = sd.length) (ZM:ED = se.length) (h0:Out H0 Ri H (Rs.own ⟨Lq,EC,Ls⟩ (eInt .i64).z Lu :: Rs.own ⟨Lr,ED,Lt⟩ (eInt .i64).z Lv :: R0) fun R=>CR (eInt .i64) H R Lu sd∧CR (eInt .i64) H R Lv se) {r:List Int} (hp:ac.pj25 F dK sd se oA oB = some r):∃ v H',ac.j25 F (aw.tw F) (ak.tw F) (ao.tw F) C8151_ ⟨Lq,EC,Ls⟩ ⟨Lr,ED,Lt⟩ oA oB H = some (v,H')∧ac.Q H0 Ri R0  r v H':=by
 obtain ⟨w0,s0,ZN,ZO⟩:=h0
 subst ZL
 subst ZM
 unfold ac.pj25 at hp
 unfold ac.j25
 exact hC8151 rfl rfl ⟨w0,s0,ZN,ZO⟩ hp
def ac.pj26 (F:Nat) (dK:List Int→List Int→Bool→Int→Option (List Int)) (sf:List Int) (sh:List Int) (oC:Bool) (oD:Int):Option (List Int):=dK sf sh oC (IntKind.i64.wrap (oD + 1))
theorem ac.j26_P {F:Nat} {H0:Hp} {Ri R0:List Rs}  {C8151_:Sl→Sl→Bool→Int→Hp→OA} {dK:List Int→List Int→Bool→Int→Option (List Int)} (hC8151:ac.S8151 H0 Ri R0  C8151_ dK) {Lw Lx:ON} {EE EF:Nat} {Ly Lz:Cap} {sf sh:List Int} {LA LB:List AV} {oC:Bool} {oD:Int} {H:Hp} (ZP:EE = sf.length) (ZQ:EF = sh.length) (h0:Out H0 Ri H (Rs.own ⟨Lw,EE,Ly⟩ (eInt .i64).z LA :: Rs.own ⟨Lx,EF,Lz⟩ (eInt .i64).z LB :: R0) fun R=>CR (eInt .i64) H R LA sf∧CR (eInt .i64) H R LB sh) {r:List Int} (hp:ac.pj26 F dK sf sh oC oD = some r):∃ v H',ac.j26 F (aw.tw F) (ak.tw F) (ao.tw F) C8151_ ⟨Lw,EE,Ly⟩ ⟨Lx,EF,Lz⟩ oC oD H = some (v,H')∧ac.Q H0 Ri R0  r v H':=by
 obtain ⟨w0,s0,ZR,ZS⟩:=h0
 subst ZP
 subst ZQ
 unfold ac.pj26 at hp
 unfold ac.j26
 exact hC8151 rfl rfl ⟨w0,s0,ZR,ZS⟩ hp
def ac.pj20 (F:Nat) (aQ:List Int→List Int→Bool→Option (List Int)) (si:List Int) (sj:List Int) (ot:Bool):Option (List Int):=aQ si sj ot
theorem ac.j20_P {F:Nat} {H0:Hp} {Ri R0:List Rs}  {C509_:Sl→Sl→Bool→Hp→OA} {aQ:List Int→List Int→Bool→Option (List Int)} (hC509:ac.S509 H0 Ri R0  C509_ aQ) {LC LD:ON} {EG EH:Nat} {LE LF:Cap} {si sj:List Int} {LG LI:List AV} {ot:Bool} {H:Hp} (ZT:EG = si.length) (ZU:EH = sj.length) (h0:Out H0 Ri H (Rs.own ⟨LC,EG,LE⟩ (eInt .i64).z LG :: Rs.own ⟨LD,EH,LF⟩ (eInt .i64).z LI :: R0) fun R=>CR (eInt .i64) H R LG si∧CR (eInt .i64) H R LI sj) {r:List Int} (hp:ac.pj20 F aQ si sj ot = some r):∃ v H',ac.j20 F (aw.tw F) (ak.tw F) (ao.tw F) C509_ ⟨LC,EG,LE⟩ ⟨LD,EH,LF⟩ ot H = some (v,H')∧ac.Q H0 Ri R0  r v H':=by
 obtain ⟨w0,s0,ZV,ZW⟩:=h0
 subst ZT
 subst ZU
 unfold ac.pj20 at hp
 unfold ac.j20
 exact hC509 rfl rfl ⟨w0,s0,ZV,ZW⟩ hp
def ac.pj21 (F:Nat) (aQ:List Int→List Int→Bool→Option (List Int)) (sk:List Int) (sm:List Int) (ou:Bool):Option (List Int):=ac.pj20 F aQ sk sm ou
theorem ac.j21_P {F:Nat} {H0:Hp} {Ri R0:List Rs}  {C509_:Sl→Sl→Bool→Hp→OA} {aQ:List Int→List Int→Bool→Option (List Int)} (hC509:ac.S509 H0 Ri R0  C509_ aQ) {LJ LK:ON} {EI EJ:Nat} {LL LM:Cap} {sk sm:List Int} {LN LO:List AV} {ou:Bool} {H:Hp} (ZX:EI = sk.length) (ZY:EJ = sm.length) (h0:Out H0 Ri H (Rs.own ⟨LJ,EI,LL⟩ (eInt .i64).z LN :: Rs.own ⟨LK,EJ,LM⟩ (eInt .i64).z LO :: R0) fun R=>CR (eInt .i64) H R LN sk∧CR (eInt .i64) H R LO sm) {r:List Int} (hp:ac.pj21 F aQ sk sm ou = some r):∃ v H',ac.j21 F (aw.tw F) (ak.tw F) (ao.tw F) C509_ ⟨LJ,EI,LL⟩ ⟨LK,EJ,LM⟩ ou H = some (v,H')∧ac.Q H0 Ri R0  r v H':=by
 obtain ⟨w0,s0,ZZ,Z_⟩:=h0
 subst ZX
 subst ZY
 unfold ac.pj21 at hp
 unfold ac.j21
 exact ac.j20_P (@hC509) rfl rfl ⟨w0,s0,ZZ,Z_⟩ hp
def ac.pl8151 (F:Nat) (aQ:List Int→List Int→Bool→Option (List Int)):Nat→List Int→List Int→Bool→Int→Option (List Int)
 | 0,_,_,_,_=>none
 | k + 1,dt,dJ,es,cG=>(bif (decide (cG < (dt.length:Int))) then ((ix dt (IntKind.i64.wrap ((IntKind.i64.wrap ((IntKind.i64.wrap (Int.tdiv cG 4)) * 4)) + (Int.tmod (IntKind.i64.wrap (cG + 1)) 4)))).bind fun n1=>(ix dt cG).bind fun n2=>(ix dJ (gt dt n2)).bind fun n3=>(bif (decide ((gt dJ n3) ≥ 0)) then ((ix dJ (gt dt n1)).bind fun n4=>(bif (decide ((gt dJ n4) < 0)) then ((ix dt cG).bind fun n5=>(ix dJ (gt dt n5)).bind fun n6=>(ix dJ (gt dt n1)).bind fun n7=>(some (dJ.set n7 (IntKind.i64.wrap (1 - (gt dJ n6))))).bind fun l8=>ac.pj24 F (ac.pl8151 F aQ k) dt l8 true cG (gt dt n1)) else (ac.pj24 F (ac.pl8151 F aQ k) dt dJ es cG (gt dt n1)))) else ((ix dJ (gt dt n1)).bind fun n10=>(bif (decide ((gt dJ n10) ≥ 0)) then ((ix dt cG).bind fun n11=>(ix dJ (gt dt n11)).bind fun n12=>(bif (decide ((gt dJ n12) < 0)) then ((ix dt cG).bind fun n13=>(ix dJ (gt dt n1)).bind fun n14=>(ix dJ (gt dt n13)).bind fun n15=>(some (dJ.set n15 (IntKind.i64.wrap (1 - (gt dJ n14))))).bind fun l16=>ac.pj25 F (ac.pl8151 F aQ k) dt l16 true cG) else (ac.pj26 F (ac.pl8151 F aQ k) dt dJ es cG))) else (ac.pl8151 F aQ k dt dJ es (IntKind.i64.wrap (cG + 1))))))) else (ac.pj21 F aQ dt dJ es))
termination_by structural n=>n
theorem ac.l8151_P {F:Nat} {H0:Hp} {Ri R0:List Rs}  {C509_:Sl→Sl→Bool→Hp→OA} {aQ:List Int→List Int→Bool→Option (List Int)} (hC509:ac.S509 H0 Ri R0  C509_ aQ):∀ k,ac.S8151 H0 Ri R0  (ac.l8151 F (aw.tw F) (ak.tw F) (ao.tw F) C509_ k) (ac.pl8151 F aQ k):=by
 intro k
 induction k with
 | zero=>
  intro yK yL rV rW yM yN dt dJ yO yP es cG H LP LQ h0 r hp
  exact nomatch (show (none:Option (List Int)) = some r from hp)
 | succ k ih=>
  intro yK yL rV rW yM yN dt dJ yO yP es cG H LP LQ h0 r hp
  obtain ⟨w0,s0,kD,iW⟩:=h0
  subst LP
  subst LQ
  unfold ac.pl8151 at hp
  unfold ac.l8151
  refine bif_ex (fun hb=>?_) (fun hb=>?_)
  ·replace hp:=bif_t hb hp
   obtain ⟨n1,g1,hp⟩:=bind_some' hp
   obtain ⟨p1,q1,i1,h1,j1⟩:=W.ixo (E:=(eInt .i64)) w0 (i:=0) rfl rfl kD g1
   refine bind_ex i1 ?_
   have h1:_ = [_]:=h1
   subst h1
   refine bind_ex (ldI_of (j1 0 _ rfl)) ?_
   obtain ⟨n2,g2,hp⟩:=bind_some' hp
   obtain ⟨p2,q2,i2,h2,j2⟩:=W.ixo (E:=(eInt .i64)) w0 (i:=0) rfl rfl kD g2
   refine bind_ex i2 ?_
   have h2:_ = [_]:=h2
   subst h2
   refine bind_ex (ldI_of (j2 0 _ rfl)) ?_
   obtain ⟨n3,g3,hp⟩:=bind_some' hp
   obtain ⟨p3,q3,i3,h3,j3⟩:=W.ixo (E:=(eInt .i64)) w0 (i:=1) rfl rfl iW g3
   refine bind_ex i3 ?_
   have h3:_ = [_]:=h3
   subst h3
   refine bind_ex (ldI_of (j3 0 _ rfl)) ?_
   refine bif_ex (fun hb=>?_) (fun hb=>?_)
   ·replace hp:=bif_t hb hp
    obtain ⟨n4,g4,hp⟩:=bind_some' hp
    obtain ⟨p4,q4,i4,h4,j4⟩:=W.ixo (E:=(eInt .i64)) w0 (i:=1) rfl rfl iW g4
    refine bind_ex i4 ?_
    have h4:_ = [_]:=h4
    subst h4
    refine bind_ex (ldI_of (j4 0 _ rfl)) ?_
    refine bif_ex (fun hb=>?_) (fun hb=>?_)
    ·replace hp:=bif_t hb hp
     obtain ⟨n5,g5,hp⟩:=bind_some' hp
     obtain ⟨p5,q5,i5,h5,j5⟩:=W.ixo (E:=(eInt .i64)) w0 (i:=0) rfl rfl kD g5
     refine bind_ex i5 ?_
     have h5:_ = [_]:=h5
     subst h5
     refine bind_ex (ldI_of (j5 0 _ rfl)) ?_
     obtain ⟨n6,g6,hp⟩:=bind_some' hp
     obtain ⟨p6,q6,i6,h6,j6⟩:=W.ixo (E:=(eInt .i64)) w0 (i:=1) rfl rfl iW g6
     refine bind_ex i6 ?_
     have h6:_ = [_]:=h6
     subst h6
     refine bind_ex (ldI_of (j6 0 _ rfl)) ?_
     obtain ⟨n7,g7,hp⟩:=bind_some' hp
     obtain ⟨p7,q7,i7,h7,j7⟩:=W.ixo (E:=(eInt .i64)) w0 (i:=1) rfl rfl iW g7
     refine bind_ex i7 ?_
     obtain ⟨l8,e8,hp⟩:=bind_some' hp
     refine sto_k (eInt .i64) w0 (i:=1) (j:=0) (p:=p7) rfl rfl iW g7 i7 e8 rfl rfl (fun _ h=>by have h:_ = [_]:=h; subst h; exact rfl) fun H9 k9 w9 s9 c9=>?_
     dsimp only [List.set] at w9 s9 c9
     exact ac.j24_P (@ih) rfl ((st_len e8).symm) ⟨w9,(s0.trans s9),(kD.step s9),c9⟩ hp
    ·replace hp:=bif_f hb hp
     exact ac.j24_P (@ih) rfl rfl ⟨w0,s0,kD,iW⟩ hp
   ·replace hp:=bif_f hb hp
    obtain ⟨n10,g10,hp⟩:=bind_some' hp
    obtain ⟨p10,q10,i10,h10,j10⟩:=W.ixo (E:=(eInt .i64)) w0 (i:=1) rfl rfl iW g10
    refine bind_ex i10 ?_
    have h10:_ = [_]:=h10
    subst h10
    refine bind_ex (ldI_of (j10 0 _ rfl)) ?_
    refine bif_ex (fun hb=>?_) (fun hb=>?_)
    ·replace hp:=bif_t hb hp
     obtain ⟨n11,g11,hp⟩:=bind_some' hp
     obtain ⟨p11,q11,i11,h11,j11⟩:=W.ixo (E:=(eInt .i64)) w0 (i:=0) rfl rfl kD g11
     refine bind_ex i11 ?_
     have h11:_ = [_]:=h11
     subst h11
     refine bind_ex (ldI_of (j11 0 _ rfl)) ?_
     obtain ⟨n12,g12,hp⟩:=bind_some' hp
     obtain ⟨p12,q12,i12,h12,j12⟩:=W.ixo (E:=(eInt .i64)) w0 (i:=1) rfl rfl iW g12
     refine bind_ex i12 ?_
     have h12:_ = [_]:=h12
     subst h12
     refine bind_ex (ldI_of (j12 0 _ rfl)) ?_
     refine bif_ex (fun hb=>?_) (fun hb=>?_)
     ·replace hp:=bif_t hb hp
      obtain ⟨n13,g13,hp⟩:=bind_some' hp
      obtain ⟨p13,q13,i13,h13,j13⟩:=W.ixo (E:=(eInt .i64)) w0 (i:=0) rfl rfl kD g13
      refine bind_ex i13 ?_
      have h13:_ = [_]:=h13
      subst h13
      refine bind_ex (ldI_of (j13 0 _ rfl)) ?_
      obtain ⟨n14,g14,hp⟩:=bind_some' hp
      obtain ⟨p14,q14,i14,h14,j14⟩:=W.ixo (E:=(eInt .i64)) w0 (i:=1) rfl rfl iW g14
      refine bind_ex i14 ?_
      have h14:_ = [_]:=h14
      subst h14
      refine bind_ex (ldI_of (j14 0 _ rfl)) ?_
      obtain ⟨n15,g15,hp⟩:=bind_some' hp
      obtain ⟨p15,q15,i15,h15,j15⟩:=W.ixo (E:=(eInt .i64)) w0 (i:=1) rfl rfl iW g15
      refine bind_ex i15 ?_
      obtain ⟨l16,e16,hp⟩:=bind_some' hp
      refine sto_k (eInt .i64) w0 (i:=1) (j:=0) (p:=p15) rfl rfl iW g15 i15 e16 rfl rfl (fun _ h=>by have h:_ = [_]:=h; subst h; exact rfl) fun H17 k17 w17 s17 c17=>?_
      dsimp only [List.set] at w17 s17 c17
      exact ac.j25_P (@ih) rfl ((st_len e16).symm) ⟨w17,(s0.trans s17),(kD.step s17),c17⟩ hp
     ·replace hp:=bif_f hb hp
      exact ac.j26_P (@ih) rfl rfl ⟨w0,s0,kD,iW⟩ hp
    ·replace hp:=bif_f hb hp
     exact ih rfl rfl ⟨w0,s0,kD,iW⟩ hp
  ·replace hp:=bif_f hb hp
   exact ac.j21_P (@hC509) rfl rfl ⟨w0,s0,kD,iW⟩ hp
def ac.pl509 (F:Nat) :Nat→List Int→List Int→Bool→Option (List Int)
 | 0,_,_,_=>none
 | k + 1,nD,mV,hX=>(bif hX then (ac.pl8151 F (ac.pl509 F k) F nD mV false 0) else (some mV))
termination_by structural n=>n
theorem ac.l509_P {F:Nat} {H0:Hp} {Ri R0:List Rs}  :∀ k,ac.S509 H0 Ri R0  (ac.l509 F (aw.tw F) (ak.tw F) (ao.tw F)  k) (ac.pl509 F  k):=by
 intro k
 induction k with
 | zero=>
  intro yE yF rT rU yG yH nD mV yI yJ hX H LR LS h0 r hp
  exact nomatch (show (none:Option (List Int)) = some r from hp)
 | succ k ih=>
  intro yE yF rT rU yG yH nD mV yI yJ hX H LR LS h0 r hp
  obtain ⟨w0,s0,aaa,LT⟩:=h0
  subst LR
  subst LS
  unfold ac.pl509 at hp
  unfold ac.l509
  refine bif_ex (fun hb=>?_) (fun hb=>?_)
  ·replace hp:=bif_t hb hp
   exact ac.l8151_P (@ih) F rfl rfl ⟨w0,s0,aaa,LT⟩ hp
  ·replace hp:=bif_f hb hp
   obtain ⟨w1,s1⟩:=w0.pick' [1] 2 rfl rfl rfl
   dsimp only [pk,pks,nth,List.drop] at w1 s1
   obtain rfl:=Option.some.inj hp
   exact ⟨_,_,rfl,_,_,_,_,rfl,rfl,w1,(s0.trans s1),(LT.step s1)⟩
def ac.pj27 (F:Nat)  (sn:List Int) (sp:List Int):Option (List Int):=ac.pl509 F F sn sp true
theorem ac.j27_P {F:Nat} {H0:Hp} {Ri R0:List Rs}   {LU LV:ON} {EK EL:Nat} {LW LX:Cap} {sn sp:List Int} {LY LZ:List AV} {H:Hp} (aab:EK = sn.length) (aac:EL = sp.length) (h0:Out H0 Ri H (Rs.own ⟨LU,EK,LW⟩ (eInt .i64).z LY :: Rs.own ⟨LV,EL,LX⟩ (eInt .i64).z LZ :: R0) fun R=>CR (eInt .i64) H R LY sn∧CR (eInt .i64) H R LZ sp) {r:List Int} (hp:ac.pj27 F  sn sp = some r):∃ v H',ac.j27 F (aw.tw F) (ak.tw F) (ao.tw F)  ⟨LU,EK,LW⟩ ⟨LV,EL,LX⟩ H = some (v,H')∧ac.Q H0 Ri R0  r v H':=by
 obtain ⟨w0,s0,aad,aae⟩:=h0
 subst aab
 subst aac
 unfold ac.pj27 at hp
 unfold ac.j27
 exact ac.l509_P F rfl rfl ⟨w0,s0,aad,aae⟩ hp
def ac.pl253 (F:Nat) :Nat→List Int→List Int→List Int→Int→Option (List Int)
 | 0,_,_,_,_=>none
 | k + 1,kA,kB,lb,dG=>(bif (decide (dG < (kB.length:Int))) then ((ix kB dG).bind fun n1=>(bif ((gt kB n1) == dG) then ((ix kA (IntKind.i64.wrap (4 * dG))).bind fun n2=>(ix lb (gt kA n2)).bind fun n3=>(some (lb.set n3 0)).bind fun l4=>ac.pj28 F (ac.pl253 F k) kA kB l4 dG) else (ac.pj29 F (ac.pl253 F k) kA kB lb dG))) else (ac.pj27 F kA lb))
termination_by structural n=>n
theorem ac.l253_P {F:Nat} {H0:Hp} {Ri R0:List Rs}  :∀ k,ac.S253 H0 Ri R0  (ac.l253 F (aw.tw F) (ak.tw F) (ao.tw F)  k) (ac.pl253 F  k):=by
 intro k
 induction k with
 | zero=>
  intro yv yw yx rK rL rM yy yz yA kA kB lb yB yC yD dG H L_ Ma Mb h0 r hp
  exact nomatch (show (none:Option (List Int)) = some r from hp)
 | succ k ih=>
  intro yv yw yx rK rL rM yy yz yA kA kB lb yB yC yD dG H L_ Ma Mb h0 r hp
  obtain ⟨w0,s0,yQ,EM,yR⟩:=h0
  subst L_
  subst Ma
  subst Mb
  unfold ac.pl253 at hp
  unfold ac.l253
  refine bif_ex (fun hb=>?_) (fun hb=>?_)
  ·replace hp:=bif_t hb hp
   obtain ⟨n1,g1,hp⟩:=bind_some' hp
   obtain ⟨p1,q1,i1,h1,j1⟩:=W.ixo (E:=(eInt .i64)) w0 (i:=1) rfl rfl EM g1
   refine bind_ex i1 ?_
   have h1:_ = [_]:=h1
   subst h1
   refine bind_ex (ldI_of (j1 0 _ rfl)) ?_
   refine bif_ex (fun hb=>?_) (fun hb=>?_)
   ·replace hp:=bif_t hb hp
    obtain ⟨n2,g2,hp⟩:=bind_some' hp
    obtain ⟨p2,q2,i2,h2,j2⟩:=W.ixo (E:=(eInt .i64)) w0 (i:=0) rfl rfl yQ g2
    refine bind_ex i2 ?_
    have h2:_ = [_]:=h2
    subst h2
    refine bind_ex (ldI_of (j2 0 _ rfl)) ?_
    obtain ⟨n3,g3,hp⟩:=bind_some' hp
    obtain ⟨p3,q3,i3,h3,j3⟩:=W.ixo (E:=(eInt .i64)) w0 (i:=2) rfl rfl yR g3
    refine bind_ex i3 ?_
    obtain ⟨l4,e4,hp⟩:=bind_some' hp
    refine sto_k (eInt .i64) w0 (i:=2) (j:=0) (p:=p3) rfl rfl yR g3 i3 e4 rfl rfl (fun _ h=>by have h:_ = [_]:=h; subst h; exact rfl) fun H5 k5 w5 s5 c5=>?_
    dsimp only [List.set] at w5 s5 c5
    exact ac.j28_P (@ih) rfl rfl ((st_len e4).symm) ⟨w5,(s0.trans s5),(yQ.step s5),(EM.step s5),c5⟩ hp
   ·replace hp:=bif_f hb hp
    exact ac.j29_P (@ih) rfl rfl rfl ⟨w0,s0,yQ,EM,yR⟩ hp
  ·replace hp:=bif_f hb hp
   obtain ⟨w6,s6⟩:=w0.pick' [0,2] 3 rfl rfl rfl
   dsimp only [pk,pks,nth,List.drop] at w6 s6
   exact ac.j27_P rfl rfl ⟨w6,(s0.trans s6),(yQ.step s6),(yR.step s6)⟩ hp
def ac.pj30 (F:Nat)  (sq:List Int) (ss:List Int) (su:List Int):Option (List Int):=ac.pl253 F F sq ss su 0
theorem ac.j30_P {F:Nat} {H0:Hp} {Ri R0:List Rs}   {Mc Md Me:ON} {EN EO EP:Nat} {Mf Mg Mh:Cap} {sq ss su:List Int} {Mi Mj Ml:List AV} {H:Hp} (aaf:EN = sq.length) (aag:EO = ss.length) (aah:EP = su.length) (h0:Out H0 Ri H (Rs.own ⟨Mc,EN,Mf⟩ (eInt .i64).z Mi :: Rs.own ⟨Md,EO,Mg⟩ (eInt .i64).z Mj :: Rs.own ⟨Me,EP,Mh⟩ (eInt .i64).z Ml :: R0) fun R=>CR (eInt .i64) H R Mi sq∧CR (eInt .i64) H R Mj ss∧CR (eInt .i64) H R Ml su) {r:List Int} (hp:ac.pj30 F  sq ss su = some r):∃ v H',ac.j30 F (aw.tw F) (ak.tw F) (ao.tw F)  ⟨Mc,EN,Mf⟩ ⟨Md,EO,Mg⟩ ⟨Me,EP,Mh⟩ H = some (v,H')∧ac.Q H0 Ri R0  r v H':=by
 obtain ⟨w0,s0,aai,aaj,aak⟩:=h0
 subst aaf
 subst aag
 subst aah
 unfold ac.pj30 at hp
 unfold ac.j30
 exact ac.l253_P F rfl rfl rfl ⟨w0,s0,aai,aaj,aak⟩ hp
def ac.pl125 (F:Nat) :Nat→List Int→List Int→List Int→Int→Option (List Int)
 | 0,_,_,_,_=>none
 | k + 1,mT,mU,gx,fO=>(bif (decide (fO < (gx.length:Int))) then ((ix gx fO).bind fun n1=>(some (gx.set n1 (-1))).bind fun l2=>ac.pl125 F k mT mU l2 (IntKind.i64.wrap (fO + 1))) else (ac.pj30 F mT mU gx))
termination_by structural n=>n
theorem ac.l125_P {F:Nat} {H0:Hp} {Ri R0:List Rs}  :∀ k,ac.S125 H0 Ri R0  (ac.l125 F (aw.tw F) (ak.tw F) (ao.tw F)  k) (ac.pl125 F  k):=by
 intro k
 induction k with
 | zero=>
  intro yn yo lD rI rJ kz yp yq lE mT mU gx yt yu lF fO H Mm Mn sv h0 r hp
  exact nomatch (show (none:Option (List Int)) = some r from hp)
 | succ k ih=>
  intro yn yo lD rI rJ kz yp yq lE mT mU gx yt yu lF fO H Mm Mn sv h0 r hp
  obtain ⟨w0,s0,Mo,Mp,pR⟩:=h0
  subst Mm
  subst Mn
  subst sv
  unfold ac.pl125 at hp
  unfold ac.l125
  refine bif_ex (fun hb=>?_) (fun hb=>?_)
  ·replace hp:=bif_t hb hp
   obtain ⟨n1,g1,hp⟩:=bind_some' hp
   obtain ⟨p1,q1,i1,h1,j1⟩:=W.ixo (E:=(eInt .i64)) w0 (i:=2) rfl rfl pR g1
   refine bind_ex i1 ?_
   obtain ⟨l2,e2,hp⟩:=bind_some' hp
   refine sto_k (eInt .i64) w0 (i:=2) (j:=0) (p:=p1) rfl rfl pR g1 i1 e2 rfl rfl (fun _ h=>by have h:_ = [_]:=h; subst h; exact rfl) fun H3 k3 w3 s3 c3=>?_
   dsimp only [List.set] at w3 s3 c3
   exact ih rfl rfl ((st_len e2).symm) ⟨w3,(s0.trans s3),(Mo.step s3),(Mp.step s3),c3⟩ hp
  ·replace hp:=bif_f hb hp
   exact ac.j30_P rfl rfl rfl ⟨w0,s0,Mo,Mp,pR⟩ hp
def ac.p (F:Nat) (ae:List (Int×Int×Int×Int×Int)):Option (List Int):=(aw.p F ae).bind fun r2=>(ak.p F ae).bind fun r4=>(ao.p F ae).bind fun r6=>(mkn (r6.length:Int) (0:Int)).bind fun l8=>ac.pl125 F F r2 r4 l8 0
theorem ac.P {F:Nat} {az:ON} {ap:Nat} {aA:Cap} {ae:List (Int×Int×Int×Int×Int)} {ab:Int} {H:Hp} {R0:List Rs} (aW:ap = ae.length) (h0:Inn H R0 fun R=>ROs (ePair (eInt .i64) (ePair (eInt .i64) (ePair (eInt .i64) (ePair (eInt .i64) (eInt .i64))))) H R ⟨az,ap,aA⟩ ae) {r:List Int} (hp:ac.p F ae = some r):∃ v H',ac.tw F ⟨az,ap,aA⟩ ab H = some (v,H')∧ac.Q H R0 R0  r v H':=by
 obtain ⟨w0,aK⟩:=h0
 subst aW
 unfold ac.p at hp
 unfold ac.tw ac.twX
 have s0:=w0.rf
 refine new_k w0 fun H1 w1 s1=>?_
 refine bind_ex (ldSl_of (w1.ld (i:=0) rfl rfl)) ?_
 refine bind_ex (ldI_of (w1.ld (i:=0) rfl rfl)) ?_
 obtain ⟨r2,e2,hp⟩:=bind_some' hp
 refine call_ex (aw.P rfl ⟨w1,(aK.step s1)⟩ e2) ?_
 rintro _ H3 ⟨o0a_3,o0n_3,o0c_3,o0k_3,rfl,rfl,w3,s3,f3_0⟩
 refine bind_ex rfl ?_
 refine bind_ex (ldSl_of (w3.ld (i:=1) rfl rfl)) ?_
 refine bind_ex (ldI_of (w3.ld (i:=1) rfl rfl)) ?_
 obtain ⟨r4,e4,hp⟩:=bind_some' hp
 refine call_ex (ak.P rfl ⟨w3,(aK.step (s1.trans s3))⟩ e4) ?_
 rintro _ H5 ⟨o0a_5,o0n_5,o0c_5,o0k_5,rfl,rfl,w5,s5,f5_0⟩
 refine bind_ex rfl ?_
 refine bind_ex (ldSl_of (w5.ld (i:=2) rfl rfl)) ?_
 refine bind_ex (ldI_of (w5.ld (i:=2) rfl rfl)) ?_
 obtain ⟨r6,e6,hp⟩:=bind_some' hp
 refine call_ex (ao.P rfl ⟨w5,(aK.step (s1.trans (s3.trans s5)))⟩ e6) ?_
 rintro _ H7 ⟨o0a_7,o0n_7,o0c_7,o0k_7,rfl,rfl,w7,s7,f7_0⟩
 refine bind_ex rfl ?_
 obtain ⟨l8,e8,hp⟩:=bind_some' hp
 refine mk_k (eInt .i64) (0:Int) w7 rfl rfl rfl e8 fun H9 k9 w9 s9 c9=>?_
 obtain ⟨w10,s10⟩:=w9.pick' [3,2,0] 5 rfl rfl rfl
 dsimp only [pk,pks,nth,List.drop] at w10 s10
 exact ac.l125_P F rfl rfl rfl ⟨w10,(s0.trans (s1.trans (s3.trans (s5.trans (s7.trans (s9.trans s10)))))),(f3_0.step (s5.trans (s7.trans (s9.trans s10)))),(f5_0.step (s7.trans (s9.trans s10))),(c9.step s10)⟩ hp
def bA.Q (H0:Hp) (Ri R0:List Rs)  (r:Int×Int×List Int) (v:AV) (H':Hp):Prop:=∃ o2a:ON,∃ o2n:Nat,∃ o2k:List AV,v = (.agg [(.int .i64 r.1),(.int .i64 r.2.1),(.sl ⟨o2a,o2n,.ex o2n⟩)])∧o2n = (r.2.2).length∧Out H0 Ri H' (Rs.own ⟨o2a,o2n,.ex o2n⟩ (eInt .i64).z o2k :: R0) fun R=>CR (eInt .i64) H' R o2k (r.2.2)
def bA.p (F:Nat) (aa:Int) (af:Int):Option (Int×Int×List Int):=(mkn (IntKind.i64.wrap (aa * af)) (0:Int)).bind fun l2=>some (aa,af,l2)
theorem bA.P {F:Nat} {aa af:Int} {H:Hp} {R0:List Rs}  (h0:Inn H R0 fun R=>True) {r:Int×Int×List Int} (hp:bA.p F aa af = some r):∃ v H',bA.tw F aa af H = some (v,H')∧bA.Q H R0 R0  r v H':=by
 obtain ⟨w0,_⟩:=h0
 unfold bA.p at hp
 unfold bA.tw bA.twX
 have s0:=w0.rf
 refine new_k w0 fun H1 w1 s1=>?_
 obtain ⟨l2,e2,hp⟩:=bind_some' hp
 refine mk_k (eInt .i64) (0:Int) w1 rfl rfl rfl e2 fun H3 k3 w3 s3 c3=>?_
 refine st_k w3 (i:=1) rfl rfl rfl fun H4 w4 s4=>?_
 dsimp only [List.set] at w4 s4
 refine st_k w4 (i:=1) rfl rfl rfl fun H5 w5 s5=>?_
 dsimp only [List.set] at w5 s5
 refine st_k w5 (i:=1) rfl rfl rfl fun H6 w6 s6=>?_
 dsimp only [List.set] at w6 s6
 refine bind_ex (ldI_of (w6.ld (i:=1) rfl rfl)) ?_
 refine bind_ex (ldI_of (w6.ld (i:=1) rfl rfl)) ?_
 refine bind_ex (ldSl_of (w6.ld (i:=1) rfl rfl)) ?_
 obtain ⟨w7,s7⟩:=w6.pick' [0] 2 rfl rfl rfl
 dsimp only [pk,pks,nth,List.drop] at w7 s7
 obtain rfl:=Option.some.inj hp
 exact ⟨_,_,rfl,_,_,_,rfl,rfl,w7,(s0.trans (s1.trans (s3.trans (s4.trans (s5.trans (s6.trans s7)))))),(c3.step (s4.trans (s5.trans (s6.trans s7))))⟩
def bu.Q (H0:Hp) (Ri R0:List Rs)  (r:Int) (v:AV) (H':Hp):Prop:=v = (.int .i64 r)∧Out H0 Ri H' (R0) fun R=>True
def bu.p (F:Nat) (ae:List Int) (fW:List Int) (bz:Int) (gX:Int):Option (Int):=(ix ae (IntKind.i64.wrap ((IntKind.i64.wrap (4 * bz)) + 1))).bind fun n1=>(ix fW (gt ae n1)).bind fun n2=>(bif ((gt fW n2) == gX) then (some 1) else (some (-1)))
theorem bu.P {F:Nat} {az mW:ON} {ap kE:Nat} {aA mX:Cap} {ae fW:List Int} {bz gX:Int} {H:Hp} {R0:List Rs} (aW:ap = ae.length) (sw:kE = fW.length) (h0:Inn H R0 fun R=>ROs (eInt .i64) H R ⟨az,ap,aA⟩ ae∧ROs (eInt .i64) H R ⟨mW,kE,mX⟩ fW) {r:Int} (hp:bu.p F ae fW bz gX = some r):∃ v H',bu.tw F ⟨az,ap,aA⟩ ⟨mW,kE,mX⟩ bz gX H = some (v,H')∧bu.Q H R0 R0  r v H':=by
 obtain ⟨w0,aK,sx⟩:=h0
 subst aW
 subst sw
 unfold bu.p at hp
 unfold bu.tw bu.twX
 have s0:=w0.rf
 obtain ⟨n1,g1,hp⟩:=bind_some' hp
 obtain ⟨p1,q1,i1,h1,j1⟩:=ROs.ixr aK rfl g1
 refine bind_ex i1 ?_
 have h1:_ = [_]:=h1
 subst h1
 refine bind_ex (ldI_of (j1 0 _ rfl)) ?_
 obtain ⟨n2,g2,hp⟩:=bind_some' hp
 obtain ⟨p2,q2,i2,h2,j2⟩:=ROs.ixr sx rfl g2
 refine bind_ex i2 ?_
 have h2:_ = [_]:=h2
 subst h2
 refine bind_ex (ldI_of (j2 0 _ rfl)) ?_
 refine bif_ex (fun hb=>?_) (fun hb=>?_)
 ·replace hp:=bif_t hb hp
  obtain rfl:=Option.some.inj hp
  exact ⟨_,_,rfl,rfl,w0,s0,trivial⟩
 ·replace hp:=bif_f hb hp
  obtain rfl:=Option.some.inj hp
  exact ⟨_,_,rfl,rfl,w0,s0,trivial⟩
def ai.Q (H0:Hp) (Ri R0:List Rs)  (r:Int×Int×List Int) (v:AV) (H':Hp):Prop:=∃ o2a:ON,∃ o2n:Nat,∃ o2c:Cap,∃ o2k:List AV,v = (.agg [(.int .i64 r.1),(.int .i64 r.2.1),(.sl ⟨o2a,o2n,o2c⟩)])∧o2n = (r.2.2).length∧Out H0 Ri H' (Rs.own ⟨o2a,o2n,o2c⟩ (eInt .i64).z o2k :: R0) fun R=>CR (eInt .i64) H' R o2k (r.2.2)
def ai.S125 (H0:Hp) (Ri R0:List Rs)  (C:Int→Nat→Nat→Nat→Nat→Sl→Sl→Sl→Int→Int→Hp→OA) (pC:Int→List (Int×Int×Int×Int×Int)→List Int→List Int→List Int→Int→Int→Option (Int×Int×List Int)):Prop:=∀ {dc EQ ER ES dP eX:Int} {yS yT lG yU yV:ON} {sy eW sB fB kF sC sD:Nat} {yW yX lH yY yZ:Cap} {lI:List (Int×Int×Int×Int×Int)} {y_ gM jM lJ:List Int} {za lK zb zc:List AV},∀ {H:Hp},sy = lI.length→sB = y_.length→kF = gM.length→sC = jM.length→sD = lJ.length→(Out H0 Ri H (Rs.blk eW [.sl ⟨yS,sy,yW⟩,.int .i64 EQ] :: Rs.own ⟨yT,sB,yX⟩ (eInt .i64).z za :: Rs.blk fB [.int .i64 ER,.int .i64 ES,.sl ⟨yT,sB,yX⟩] :: Rs.own ⟨lG,kF,lH⟩ (eInt .i64).z lK :: Rs.own ⟨yU,sC,yY⟩ (eInt .i64).z zb :: Rs.own ⟨yV,sD,yZ⟩ (eInt .i64).z zc :: R0) fun R=>ROs (ePair (eInt .i64) (ePair (eInt .i64) (ePair (eInt .i64) (ePair (eInt .i64) (eInt .i64))))) H R ⟨yS,sy,yW⟩ lI∧CR (eInt .i64) H R za y_∧CR (eInt .i64) H R lK gM∧CR (eInt .i64) H R zb jM∧CR (eInt .i64) H R zc lJ)→∀ {r:Int×Int×List Int},pC dc lI gM jM lJ dP eX = some r→∃ v H',C dc eW 0 fB 0 ⟨lG,kF,lH⟩ ⟨yU,sC,yY⟩ ⟨yV,sD,yZ⟩ dP eX H = some (v,H')∧ai.Q H0 Ri R0  r v H'
def ai.pj15 (F:Nat) (lL:Int→List (Int×Int×Int×Int×Int)→List Int→List Int→List Int→Int→Int→Option (Int×Int×List Int)) (oU:Int) (sE:List (Int×Int×Int×Int×Int)) (sF:List Int) (sG:List Int) (sH:List Int) (oV:Int) (oW:Int):Option (Int×Int×List Int):=lL oU sE sF sG sH oV (IntKind.i64.wrap (oW + 1))
theorem ai.j15_P {F:Nat} {H0:Hp} {Ri R0:List Rs}  {C125_:Int→Nat→Nat→Nat→Nat→Sl→Sl→Sl→Int→Int→Hp→OA} {lL:Int→List (Int×Int×Int×Int×Int)→List Int→List Int→List Int→Int→Int→Option (Int×Int×List Int)} (hC125:ai.S125 H0 Ri R0  C125_ lL) {oU aal aam aan oV oW:Int} {Mq Mr Ms Mt Mu:ON} {ET wE EU wF EV EW EX:Nat} {Mv Mw Mx My Mz:Cap} {sE:List (Int×Int×Int×Int×Int)} {MA sF sG sH:List Int} {MB MC MD ME:List AV} {H:Hp} (aao:ET = sE.length) (aap:EU = MA.length) (aaq:EV = sF.length) (aar:EW = sG.length) (aas:EX = sH.length) (h0:Out H0 Ri H (Rs.blk wE [.sl ⟨Mq,ET,Mv⟩,.int .i64 aal] :: Rs.own ⟨Mr,EU,Mw⟩ (eInt .i64).z MB :: Rs.blk wF [.int .i64 aam,.int .i64 aan,.sl ⟨Mr,EU,Mw⟩] :: Rs.own ⟨Ms,EV,Mx⟩ (eInt .i64).z MC :: Rs.own ⟨Mt,EW,My⟩ (eInt .i64).z MD :: Rs.own ⟨Mu,EX,Mz⟩ (eInt .i64).z ME :: R0) fun R=>ROs (ePair (eInt .i64) (ePair (eInt .i64) (ePair (eInt .i64) (ePair (eInt .i64) (eInt .i64))))) H R ⟨Mq,ET,Mv⟩ sE∧CR (eInt .i64) H R MB MA∧CR (eInt .i64) H R MC sF∧CR (eInt .i64) H R MD sG∧CR (eInt .i64) H R ME sH) {r:Int×Int×List Int} (hp:ai.pj15 F lL oU sE sF sG sH oV oW = some r):∃ v H',ai.j15 F (aw.tw F) (ac.tw F) (bA.tw F) (bu.tw F) C125_ oU wE 0 wF 0 ⟨Ms,EV,Mx⟩ ⟨Mt,EW,My⟩ ⟨Mu,EX,Mz⟩ oV oW H = some (v,H')∧ai.Q H0 Ri R0  r v H':=by
 obtain ⟨w0,s0,aat,aau,aav,aaw,aax⟩:=h0
 subst aao
 subst aap
 subst aaq
 subst aar
 subst aas
 unfold ai.pj15 at hp
 unfold ai.j15
 exact hC125 rfl rfl rfl rfl rfl ⟨w0,s0,aat,aau,aav,aaw,aax⟩ hp
def ai.S509 (H0:Hp) (Ri R0:List Rs)  (C:Int→Nat→Nat→Nat→Nat→Sl→Sl→Sl→Int→Nat→Nat→Int→Hp→OA) (pC:Int→List (Int×Int×Int×Int×Int)→List Int→List Int→List Int→Int→Int→Int→List Int→Int→Option (Int×Int×List Int)):Prop:=∀ {cZ EY EZ E_ fP mY mZ dY:Int} {zd ze zf zg zh zi:ON} {sI et sJ dy sK sL sM sO fZ:Nat} {zj zk zl zm zn zo:Cap} {lM:List (Int×Int×Int×Int×Int)} {zp kG kH m_ lN:List Int} {zq zr zt zu zv:List AV},∀ {H:Hp},sI = lM.length→sJ = zp.length→sK = kG.length→sL = kH.length→sM = m_.length→sO = lN.length→(Out H0 Ri H (Rs.blk et [.sl ⟨zd,sI,zj⟩,.int .i64 EY] :: Rs.own ⟨ze,sJ,zk⟩ (eInt .i64).z zq :: Rs.blk dy [.int .i64 EZ,.int .i64 E_,.sl ⟨ze,sJ,zk⟩] :: Rs.own ⟨zf,sK,zl⟩ (eInt .i64).z zr :: Rs.own ⟨zg,sL,zm⟩ (eInt .i64).z zt :: Rs.own ⟨zh,sM,zn⟩ (eInt .i64).z zu :: Rs.own ⟨zi,sO,zo⟩ (eInt .i64).z zv :: Rs.blk fZ [.int .i64 mY,.int .i64 mZ,.sl ⟨zi,sO,zo⟩] :: R0) fun R=>ROs (ePair (eInt .i64) (ePair (eInt .i64) (ePair (eInt .i64) (ePair (eInt .i64) (eInt .i64))))) H R ⟨zd,sI,zj⟩ lM∧CR (eInt .i64) H R zq zp∧CR (eInt .i64) H R zr kG∧CR (eInt .i64) H R zt kH∧CR (eInt .i64) H R zu m_∧CR (eInt .i64) H R zv lN)→∀ {r:Int×Int×List Int},pC cZ lM kG kH m_ fP mY mZ lN dY = some r→∃ v H',C cZ et 0 dy 0 ⟨zf,sK,zl⟩ ⟨zg,sL,zm⟩ ⟨zh,sM,zn⟩ fP fZ 0 dY H = some (v,H')∧ai.Q H0 Ri R0  r v H'
def ai.pj8 (F:Nat) (aQ:Int→List (Int×Int×Int×Int×Int)→List Int→List Int→List Int→Int→Int→Int→List Int→Int→Option (Int×Int×List Int)) (oG:Int) (sQ:List (Int×Int×Int×Int×Int)) (sS:List Int) (sT:List Int) (sU:List Int) (oH:Int) (zw:Int) (zx:Int) (sV:List Int) (oI:Int):Option (Int×Int×List Int):=aQ oG sQ sS sT sU oH zw zx sV (IntKind.i64.wrap (oI + 1))
theorem ai.j8_P {F:Nat} {H0:Hp} {Ri R0:List Rs}  {C509_:Int→Nat→Nat→Nat→Nat→Sl→Sl→Sl→Int→Nat→Nat→Int→Hp→OA} {aQ:Int→List (Int×Int×Int×Int×Int)→List Int→List Int→List Int→Int→Int→Int→List Int→Int→Option (Int×Int×List Int)} (hC509:ai.S509 H0 Ri R0  C509_ aQ) {oG aay aaz aaA oH zw zx oI:Int} {MF MG MH MI MJ MK:ON} {Fa wq Fb wt Fc Fd Fe Ff wu:Nat} {ML MM MN MO MP MQ:Cap} {sQ:List (Int×Int×Int×Int×Int)} {MR sS sT sU sV:List Int} {MS MT MU MV MW:List AV} {H:Hp} (aaB:Fa = sQ.length) (aaC:Fb = MR.length) (aaD:Fc = sS.length) (aaE:Fd = sT.length) (aaF:Fe = sU.length) (aaG:Ff = sV.length) (h0:Out H0 Ri H (Rs.blk wq [.sl ⟨MF,Fa,ML⟩,.int .i64 aay] :: Rs.own ⟨MG,Fb,MM⟩ (eInt .i64).z MS :: Rs.blk wt [.int .i64 aaz,.int .i64 aaA,.sl ⟨MG,Fb,MM⟩] :: Rs.own ⟨MH,Fc,MN⟩ (eInt .i64).z MT :: Rs.own ⟨MI,Fd,MO⟩ (eInt .i64).z MU :: Rs.own ⟨MJ,Fe,MP⟩ (eInt .i64).z MV :: Rs.own ⟨MK,Ff,MQ⟩ (eInt .i64).z MW :: Rs.blk wu [.int .i64 zw,.int .i64 zx,.sl ⟨MK,Ff,MQ⟩] :: R0) fun R=>ROs (ePair (eInt .i64) (ePair (eInt .i64) (ePair (eInt .i64) (ePair (eInt .i64) (eInt .i64))))) H R ⟨MF,Fa,ML⟩ sQ∧CR (eInt .i64) H R MS MR∧CR (eInt .i64) H R MT sS∧CR (eInt .i64) H R MU sT∧CR (eInt .i64) H R MV sU∧CR (eInt .i64) H R MW sV) {r:Int×Int×List Int} (hp:ai.pj8 F aQ oG sQ sS sT sU oH zw zx sV oI = some r):∃ v H',ai.j8 F (aw.tw F) (ac.tw F) (bA.tw F) (bu.tw F) C509_ oG wq 0 wt 0 ⟨MH,Fc,MN⟩ ⟨MI,Fd,MO⟩ ⟨MJ,Fe,MP⟩ oH wu 0 oI H = some (v,H')∧ai.Q H0 Ri R0  r v H':=by
 obtain ⟨w0,s0,aaH,aaI,aaJ,aaK,aaL,aaM⟩:=h0
 subst aaB
 subst aaC
 subst aaD
 subst aaE
 subst aaF
 subst aaG
 unfold ai.pj8 at hp
 unfold ai.j8
 exact hC509 rfl rfl rfl rfl rfl rfl ⟨w0,s0,aaH,aaI,aaJ,aaK,aaL,aaM⟩ hp
def ai.pj9 (F:Nat) (aQ:Int→List (Int×Int×Int×Int×Int)→List Int→List Int→List Int→Int→Int→Int→List Int→Int→Option (Int×Int×List Int)) (oJ:Int) (sW:List (Int×Int×Int×Int×Int)) (sX:List Int) (sY:List Int) (sZ:List Int) (oK:Int) (zy:Int) (zz:Int) (s_:List Int) (oL:Int):Option (Int×Int×List Int):=aQ oJ sW sX sY sZ oK zy zz s_ (IntKind.i64.wrap (oL + 1))
theorem ai.j9_P {F:Nat} {H0:Hp} {Ri R0:List Rs}  {C509_:Int→Nat→Nat→Nat→Nat→Sl→Sl→Sl→Int→Nat→Nat→Int→Hp→OA} {aQ:Int→List (Int×Int×Int×Int×Int)→List Int→List Int→List Int→Int→Int→Int→List Int→Int→Option (Int×Int×List Int)} (hC509:ai.S509 H0 Ri R0  C509_ aQ) {oJ aaN aaO aaP oK zy zz oL:Int} {MX MY MZ M_ Na Nb:ON} {Fg wv Fh ww Fi Fj Fk Fl wx:Nat} {Nc Nd Nf Ng Nh Ni:Cap} {sW:List (Int×Int×Int×Int×Int)} {Nj sX sY sZ s_:List Int} {Nk Nl Nn No Np:List AV} {H:Hp} (aaQ:Fg = sW.length) (aaR:Fh = Nj.length) (aaS:Fi = sX.length) (aaT:Fj = sY.length) (aaU:Fk = sZ.length) (aaV:Fl = s_.length) (h0:Out H0 Ri H (Rs.blk wv [.sl ⟨MX,Fg,Nc⟩,.int .i64 aaN] :: Rs.own ⟨MY,Fh,Nd⟩ (eInt .i64).z Nk :: Rs.blk ww [.int .i64 aaO,.int .i64 aaP,.sl ⟨MY,Fh,Nd⟩] :: Rs.own ⟨MZ,Fi,Nf⟩ (eInt .i64).z Nl :: Rs.own ⟨M_,Fj,Ng⟩ (eInt .i64).z Nn :: Rs.own ⟨Na,Fk,Nh⟩ (eInt .i64).z No :: Rs.own ⟨Nb,Fl,Ni⟩ (eInt .i64).z Np :: Rs.blk wx [.int .i64 zy,.int .i64 zz,.sl ⟨Nb,Fl,Ni⟩] :: R0) fun R=>ROs (ePair (eInt .i64) (ePair (eInt .i64) (ePair (eInt .i64) (ePair (eInt .i64) (eInt .i64))))) H R ⟨MX,Fg,Nc⟩ sW∧CR (eInt .i64) H R Nk Nj∧CR (eInt .i64) H R Nl sX∧CR (eInt .i64) H R Nn sY∧CR (eInt .i64) H R No sZ∧CR (eInt .i64) H R Np s_) {r:Int×Int×List Int} (hp:ai.pj9 F aQ oJ sW sX sY sZ oK zy zz s_ oL = some r):∃ v H',ai.j9 F (aw.tw F) (ac.tw F) (bA.tw F) (bu.tw F) C509_ oJ wv 0 ww 0 ⟨MZ,Fi,Nf⟩ ⟨M_,Fj,Ng⟩ ⟨Na,Fk,Nh⟩ oK wx 0 oL H = some (v,H')∧ai.Q H0 Ri R0  r v H':=by
 obtain ⟨w0,s0,aaW,aaX,aaY,aaZ,aa0,aa1⟩:=h0
 subst aaQ
 subst aaR
 subst aaS
 subst aaT
 subst aaU
 subst aaV
 unfold ai.pj9 at hp
 unfold ai.j9
 exact hC509 rfl rfl rfl rfl rfl rfl ⟨w0,s0,aaW,aaX,aaY,aaZ,aa0,aa1⟩ hp
def ai.pj10 (F:Nat) (aQ:Int→List (Int×Int×Int×Int×Int)→List Int→List Int→List Int→Int→Int→Int→List Int→Int→Option (Int×Int×List Int)) (oM:Int) (tc:List (Int×Int×Int×Int×Int)) (td:List Int) (te:List Int) (tf:List Int) (oN:Int) (zA:Int) (zB:Int) (tg:List Int) (oO:Int):Option (Int×Int×List Int):=ai.pj9 F aQ oM tc td te tf oN zA zB tg oO
theorem ai.j10_P {F:Nat} {H0:Hp} {Ri R0:List Rs}  {C509_:Int→Nat→Nat→Nat→Nat→Sl→Sl→Sl→Int→Nat→Nat→Int→Hp→OA} {aQ:Int→List (Int×Int×Int×Int×Int)→List Int→List Int→List Int→Int→Int→Int→List Int→Int→Option (Int×Int×List Int)} (hC509:ai.S509 H0 Ri R0  C509_ aQ) {oM aa2 aa3 aa4 oN zA zB oO:Int} {Nq Nr Ns Nt Nu Nv:ON} {Fm wy Fn wz Fo Fp Fq Fr wA:Nat} {Nw Nx Ny Nz NA NB:Cap} {tc:List (Int×Int×Int×Int×Int)} {NC td te tf tg:List Int} {NE NF NG NH NI:List AV} {H:Hp} (aa5:Fm = tc.length) (aa6:Fn = NC.length) (aa7:Fo = td.length) (aa8:Fp = te.length) (aa9:Fq = tf.length) (aa_:Fr = tg.length) (h0:Out H0 Ri H (Rs.blk wy [.sl ⟨Nq,Fm,Nw⟩,.int .i64 aa2] :: Rs.own ⟨Nr,Fn,Nx⟩ (eInt .i64).z NE :: Rs.blk wz [.int .i64 aa3,.int .i64 aa4,.sl ⟨Nr,Fn,Nx⟩] :: Rs.own ⟨Ns,Fo,Ny⟩ (eInt .i64).z NF :: Rs.own ⟨Nt,Fp,Nz⟩ (eInt .i64).z NG :: Rs.own ⟨Nu,Fq,NA⟩ (eInt .i64).z NH :: Rs.own ⟨Nv,Fr,NB⟩ (eInt .i64).z NI :: Rs.blk wA [.int .i64 zA,.int .i64 zB,.sl ⟨Nv,Fr,NB⟩] :: R0) fun R=>ROs (ePair (eInt .i64) (ePair (eInt .i64) (ePair (eInt .i64) (ePair (eInt .i64) (eInt .i64))))) H R ⟨Nq,Fm,Nw⟩ tc∧CR (eInt .i64) H R NE NC∧CR (eInt .i64) H R NF td∧CR (eInt .i64) H R NG te∧CR (eInt .i64) H R NH tf∧CR (eInt .i64) H R NI tg) {r:Int×Int×List Int} (hp:ai.pj10 F aQ oM tc td te tf oN zA zB tg oO = some r):∃ v H',ai.j10 F (aw.tw F) (ac.tw F) (bA.tw F) (bu.tw F) C509_ oM wy 0 wz 0 ⟨Ns,Fo,Ny⟩ ⟨Nt,Fp,Nz⟩ ⟨Nu,Fq,NA⟩ oN wA 0 oO H = some (v,H')∧ai.Q H0 Ri R0  r v H':=by
 obtain ⟨w0,s0,aba,abb,abc,abd,abe,abf⟩:=h0
 subst aa5
 subst aa6
 subst aa7
 subst aa8
 subst aa9
 subst aa_
 unfold ai.pj10 at hp
 unfold ai.j10
 exact ai.j9_P (@hC509) rfl rfl rfl rfl rfl rfl ⟨w0,s0,aba,abb,abc,abd,abe,abf⟩ hp
def ai.pj11 (F:Nat) (aQ:Int→List (Int×Int×Int×Int×Int)→List Int→List Int→List Int→Int→Int→Int→List Int→Int→Option (Int×Int×List Int)) (kQ:Int) (nF:List (Int×Int×Int×Int×Int)) (nG:List Int) (nH:List Int) (nI:List Int) (gD:Int) (pS:Int) (pT:Int) (lc:List Int) (kS:Int) (ms:Int) (iH:Int) (iI:Int):Option (Int×Int×List Int):=(bif (decide (iH ≥ 0)) then ((bif (decide (iI ≥ 0)) then ((ix lc (IntKind.i64.wrap ((IntKind.i64.wrap (iH * gD)) + iI))).bind fun n1=>(ix lc (IntKind.i64.wrap ((IntKind.i64.wrap (iH * gD)) + iI))).bind fun n2=>(some (lc.set n2 (IntKind.i64.wrap ((gt lc n1) - ms)))).bind fun l3=>(ix l3 (IntKind.i64.wrap ((IntKind.i64.wrap (iI * gD)) + iH))).bind fun n5=>(ix l3 (IntKind.i64.wrap ((IntKind.i64.wrap (iI * gD)) + iH))).bind fun n6=>(some (l3.set n6 (IntKind.i64.wrap ((gt l3 n5) - ms)))).bind fun l7=>ai.pj10 F aQ kQ nF nG nH nI gD pS pT l7 kS) else (ai.pj10 F aQ kQ nF nG nH nI gD pS pT lc kS))) else (ai.pj9 F aQ kQ nF nG nH nI gD pS pT lc kS))
theorem ai.j11_P {F:Nat} {H0:Hp} {Ri R0:List Rs}  {C509_:Int→Nat→Nat→Nat→Nat→Sl→Sl→Sl→Int→Nat→Nat→Int→Hp→OA} {aQ:Int→List (Int×Int×Int×Int×Int)→List Int→List Int→List Int→Int→Int→Int→List Int→Int→Option (Int×Int×List Int)} (hC509:ai.S509 H0 Ri R0  C509_ aQ) {kQ abg abh abi gD pS pT kS ms iH iI:Int} {NJ NK NL NM NN NO:ON} {Fs oP Ft oQ Fu Fv Fw Fx kR:Nat} {NP NQ NR NS NT NU:Cap} {nF:List (Int×Int×Int×Int×Int)} {NV nG nH nI lc:List Int} {NW NX NY NZ N_:List AV} {H:Hp} (abj:Fs = nF.length) (abk:Ft = NV.length) (abl:Fu = nG.length) (abm:Fv = nH.length) (abn:Fw = nI.length) (abo:Fx = lc.length) (h0:Out H0 Ri H (Rs.blk oP [.sl ⟨NJ,Fs,NP⟩,.int .i64 abg] :: Rs.own ⟨NK,Ft,NQ⟩ (eInt .i64).z NW :: Rs.blk oQ [.int .i64 abh,.int .i64 abi,.sl ⟨NK,Ft,NQ⟩] :: Rs.own ⟨NL,Fu,NR⟩ (eInt .i64).z NX :: Rs.own ⟨NM,Fv,NS⟩ (eInt .i64).z NY :: Rs.own ⟨NN,Fw,NT⟩ (eInt .i64).z NZ :: Rs.own ⟨NO,Fx,NU⟩ (eInt .i64).z N_ :: Rs.blk kR [.int .i64 pS,.int .i64 pT,.sl ⟨NO,Fx,NU⟩] :: R0) fun R=>ROs (ePair (eInt .i64) (ePair (eInt .i64) (ePair (eInt .i64) (ePair (eInt .i64) (eInt .i64))))) H R ⟨NJ,Fs,NP⟩ nF∧CR (eInt .i64) H R NW NV∧CR (eInt .i64) H R NX nG∧CR (eInt .i64) H R NY nH∧CR (eInt .i64) H R NZ nI∧CR (eInt .i64) H R N_ lc) {r:Int×Int×List Int} (hp:ai.pj11 F aQ kQ nF nG nH nI gD pS pT lc kS ms iH iI = some r):∃ v H',ai.j11 F (aw.tw F) (ac.tw F) (bA.tw F) (bu.tw F) C509_ kQ oP 0 oQ 0 ⟨NL,Fu,NR⟩ ⟨NM,Fv,NS⟩ ⟨NN,Fw,NT⟩ gD kR 0 kS ms iH iI H = some (v,H')∧ai.Q H0 Ri R0  r v H':=by
 obtain ⟨w0,s0,Fy,Fz,FA,FB,FC,th⟩:=h0
 subst abj
 subst abk
 subst abl
 subst abm
 subst abn
 subst abo
 unfold ai.pj11 at hp
 unfold ai.j11
 refine bif_ex (fun hb=>?_) (fun hb=>?_)
 ·replace hp:=bif_t hb hp
  refine bif_ex (fun hb=>?_) (fun hb=>?_)
  ·replace hp:=bif_t hb hp
   refine bind_ex (ldSl_of (w0.ld (i:=7) rfl rfl)) ?_
   refine bind_ex (ldSl_of (w0.ld (i:=7) rfl rfl)) ?_
   obtain ⟨n1,g1,hp⟩:=bind_some' hp
   obtain ⟨p1,q1,i1,h1,j1⟩:=W.ixo (E:=(eInt .i64)) w0 (i:=6) rfl rfl th g1
   refine bind_ex i1 ?_
   have h1:_ = [_]:=h1
   subst h1
   refine bind_ex (ldI_of (j1 0 _ rfl)) ?_
   obtain ⟨n2,g2,hp⟩:=bind_some' hp
   obtain ⟨p2,q2,i2,h2,j2⟩:=W.ixo (E:=(eInt .i64)) w0 (i:=6) rfl rfl th g2
   refine bind_ex i2 ?_
   obtain ⟨l3,e3,hp⟩:=bind_some' hp
   refine sto_k (eInt .i64) w0 (i:=6) (j:=0) (p:=p2) rfl rfl th g2 i2 e3 rfl rfl (fun _ h=>by have h:_ = [_]:=h; subst h; exact rfl) fun H4 k4 w4 s4 c4=>?_
   dsimp only [List.set] at w4 s4 c4
   refine bind_ex (ldSl_of (w4.ld (i:=7) rfl rfl)) ?_
   refine bind_ex (ldSl_of (w4.ld (i:=7) rfl rfl)) ?_
   obtain ⟨n5,g5,hp⟩:=bind_some' hp
   obtain ⟨p5,q5,i5,h5,j5⟩:=W.ixo (E:=(eInt .i64)) w4 (i:=6) rfl rfl c4 g5
   refine bind_ex i5 ?_
   have h5:_ = [_]:=h5
   subst h5
   refine bind_ex (ldI_of (j5 0 _ rfl)) ?_
   obtain ⟨n6,g6,hp⟩:=bind_some' hp
   obtain ⟨p6,q6,i6,h6,j6⟩:=W.ixo (E:=(eInt .i64)) w4 (i:=6) rfl rfl c4 g6
   refine bind_ex i6 ?_
   obtain ⟨l7,e7,hp⟩:=bind_some' hp
   refine sto_k (eInt .i64) w4 (i:=6) (j:=0) (p:=p6) rfl rfl c4 g6 i6 e7 rfl rfl (fun _ h=>by have h:_ = [_]:=h; subst h; exact rfl) fun H8 k8 w8 s8 c8=>?_
   dsimp only [List.set] at w8 s8 c8
   exact ai.j10_P (@hC509) rfl rfl rfl rfl rfl ((st_len e3).symm.trans (st_len e7).symm) ⟨w8,(s0.trans (s4.trans s8)),(Fy.step (s4.trans s8)),(Fz.step (s4.trans s8)),(FA.step (s4.trans s8)),(FB.step (s4.trans s8)),(FC.step (s4.trans s8)),c8⟩ hp
  ·replace hp:=bif_f hb hp
   exact ai.j10_P (@hC509) rfl rfl rfl rfl rfl rfl ⟨w0,s0,Fy,Fz,FA,FB,FC,th⟩ hp
 ·replace hp:=bif_f hb hp
  exact ai.j9_P (@hC509) rfl rfl rfl rfl rfl rfl ⟨w0,s0,Fy,Fz,FA,FB,FC,th⟩ hp
def ai.pj12 (F:Nat) (aQ:Int→List (Int×Int×Int×Int×Int)→List Int→List Int→List Int→Int→Int→Int→List Int→Int→Option (Int×Int×List Int)) (mu:Int) (pU:List (Int×Int×Int×Int×Int)) (pV:List Int) (pW:List Int) (pX:List Int) (jy:Int) (ti:Int) (tj:Int) (lO:List Int) (mv:Int) (kT:Int) (mw:Int) (gE:Int):Option (Int×Int×List Int):=(bif (decide (gE ≥ 0)) then ((ix lO (IntKind.i64.wrap ((IntKind.i64.wrap (gE * jy)) + gE))).bind fun n1=>(ix lO (IntKind.i64.wrap ((IntKind.i64.wrap (gE * jy)) + gE))).bind fun n2=>(some (lO.set n2 (IntKind.i64.wrap ((gt lO n1) + kT)))).bind fun l3=>ai.pj11 F aQ mu pU pV pW pX jy ti tj l3 mv kT mw gE) else (ai.pj11 F aQ mu pU pV pW pX jy ti tj lO mv kT mw gE))
theorem ai.j12_P {F:Nat} {H0:Hp} {Ri R0:List Rs}  {C509_:Int→Nat→Nat→Nat→Nat→Sl→Sl→Sl→Int→Nat→Nat→Int→Hp→OA} {aQ:Int→List (Int×Int×Int×Int×Int)→List Int→List Int→List Int→Int→Int→Int→List Int→Int→Option (Int×Int×List Int)} (hC509:ai.S509 H0 Ri R0  C509_ aQ) {mu abp abq abr jy ti tj mv kT mw gE:Int} {Oa Ob Oc Od Oe Of:ON} {FD qr FE qs FF FG FH FI nA:Nat} {Og Oh Oi Oj Ok Ol:Cap} {pU:List (Int×Int×Int×Int×Int)} {Om pV pW pX lO:List Int} {On Oo Op Oq Ot:List AV} {H:Hp} (abt:FD = pU.length) (abu:FE = Om.length) (abv:FF = pV.length) (abw:FG = pW.length) (abx:FH = pX.length) (aby:FI = lO.length) (h0:Out H0 Ri H (Rs.blk qr [.sl ⟨Oa,FD,Og⟩,.int .i64 abp] :: Rs.own ⟨Ob,FE,Oh⟩ (eInt .i64).z On :: Rs.blk qs [.int .i64 abq,.int .i64 abr,.sl ⟨Ob,FE,Oh⟩] :: Rs.own ⟨Oc,FF,Oi⟩ (eInt .i64).z Oo :: Rs.own ⟨Od,FG,Oj⟩ (eInt .i64).z Op :: Rs.own ⟨Oe,FH,Ok⟩ (eInt .i64).z Oq :: Rs.own ⟨Of,FI,Ol⟩ (eInt .i64).z Ot :: Rs.blk nA [.int .i64 ti,.int .i64 tj,.sl ⟨Of,FI,Ol⟩] :: R0) fun R=>ROs (ePair (eInt .i64) (ePair (eInt .i64) (ePair (eInt .i64) (ePair (eInt .i64) (eInt .i64))))) H R ⟨Oa,FD,Og⟩ pU∧CR (eInt .i64) H R On Om∧CR (eInt .i64) H R Oo pV∧CR (eInt .i64) H R Op pW∧CR (eInt .i64) H R Oq pX∧CR (eInt .i64) H R Ot lO) {r:Int×Int×List Int} (hp:ai.pj12 F aQ mu pU pV pW pX jy ti tj lO mv kT mw gE = some r):∃ v H',ai.j12 F (aw.tw F) (ac.tw F) (bA.tw F) (bu.tw F) C509_ mu qr 0 qs 0 ⟨Oc,FF,Oi⟩ ⟨Od,FG,Oj⟩ ⟨Oe,FH,Ok⟩ jy nA 0 mv kT mw gE H = some (v,H')∧ai.Q H0 Ri R0  r v H':=by
 obtain ⟨w0,s0,Ou,Ov,Ow,Ox,Oy,zC⟩:=h0
 subst abt
 subst abu
 subst abv
 subst abw
 subst abx
 subst aby
 unfold ai.pj12 at hp
 unfold ai.j12
 refine bif_ex (fun hb=>?_) (fun hb=>?_)
 ·replace hp:=bif_t hb hp
  refine bind_ex (ldSl_of (w0.ld (i:=7) rfl rfl)) ?_
  refine bind_ex (ldSl_of (w0.ld (i:=7) rfl rfl)) ?_
  obtain ⟨n1,g1,hp⟩:=bind_some' hp
  obtain ⟨p1,q1,i1,h1,j1⟩:=W.ixo (E:=(eInt .i64)) w0 (i:=6) rfl rfl zC g1
  refine bind_ex i1 ?_
  have h1:_ = [_]:=h1
  subst h1
  refine bind_ex (ldI_of (j1 0 _ rfl)) ?_
  obtain ⟨n2,g2,hp⟩:=bind_some' hp
  obtain ⟨p2,q2,i2,h2,j2⟩:=W.ixo (E:=(eInt .i64)) w0 (i:=6) rfl rfl zC g2
  refine bind_ex i2 ?_
  obtain ⟨l3,e3,hp⟩:=bind_some' hp
  refine sto_k (eInt .i64) w0 (i:=6) (j:=0) (p:=p2) rfl rfl zC g2 i2 e3 rfl rfl (fun _ h=>by have h:_ = [_]:=h; subst h; exact rfl) fun H4 k4 w4 s4 c4=>?_
  dsimp only [List.set] at w4 s4 c4
  exact ai.j11_P (@hC509) rfl rfl rfl rfl rfl ((st_len e3).symm) ⟨w4,(s0.trans s4),(Ou.step s4),(Ov.step s4),(Ow.step s4),(Ox.step s4),(Oy.step s4),c4⟩ hp
 ·replace hp:=bif_f hb hp
  exact ai.j11_P (@hC509) rfl rfl rfl rfl rfl rfl ⟨w0,s0,Ou,Ov,Ow,Ox,Oy,zC⟩ hp
def ai.pj13 (F:Nat) (aQ:Int→List (Int×Int×Int×Int×Int)→List Int→List Int→List Int→Int→Int→Int→List Int→Int→Option (Int×Int×List Int)) (kU:Int) (nJ:List (Int×Int×Int×Int×Int)) (kI:List Int) (nK:List Int) (fX:List Int) (iJ:Int) (pY:Int) (pZ:Int) (lf:List Int) (iK:Int) (kV:Int) (mz:Int):Option (Int×Int×List Int):=(ix kI (IntKind.i64.wrap ((IntKind.i64.wrap (4 * iK)) + mz))).bind fun n1=>(ix fX (gt kI n1)).bind fun n2=>(ix kI (IntKind.i64.wrap ((IntKind.i64.wrap ((IntKind.i64.wrap (4 * iK)) + mz)) + 2))).bind fun n3=>(ix fX (gt kI n3)).bind fun n4=>(bif ((gt fX n2) == (gt fX n4)) then (ai.pj8 F aQ kU nJ kI nK fX iJ pY pZ lf iK) else ((bif (decide ((gt fX n2) ≥ 0)) then ((ix lf (IntKind.i64.wrap ((IntKind.i64.wrap ((gt fX n2) * iJ)) + (gt fX n2)))).bind fun n5=>(ix lf (IntKind.i64.wrap ((IntKind.i64.wrap ((gt fX n2) * iJ)) + (gt fX n2)))).bind fun n6=>(some (lf.set n6 (IntKind.i64.wrap ((gt lf n5) + kV)))).bind fun l7=>ai.pj12 F aQ kU nJ kI nK fX iJ pY pZ l7 iK kV (gt fX n2) (gt fX n4)) else (ai.pj12 F aQ kU nJ kI nK fX iJ pY pZ lf iK kV (gt fX n2) (gt fX n4)))))
theorem ai.j13_P {F:Nat} {H0:Hp} {Ri R0:List Rs}  {C509_:Int→Nat→Nat→Nat→Nat→Sl→Sl→Sl→Int→Nat→Nat→Int→Hp→OA} {aQ:Int→List (Int×Int×Int×Int×Int)→List Int→List Int→List Int→Int→Int→Int→List Int→Int→Option (Int×Int×List Int)} (hC509:ai.S509 H0 Ri R0  C509_ aQ) {kU abz abA abB iJ pY pZ iK kV mz:Int} {Oz OA OB OC OD OE:ON} {FJ oR FK oS FL FM FN FO mx:Nat} {OF OG OH OI OJ OK:Cap} {nJ:List (Int×Int×Int×Int×Int)} {OL kI nK fX lf:List Int} {OM ON OO OP OQ:List AV} {H:Hp} (abC:FJ = nJ.length) (abD:FK = OL.length) (abE:FL = kI.length) (abF:FM = nK.length) (abG:FN = fX.length) (abH:FO = lf.length) (h0:Out H0 Ri H (Rs.blk oR [.sl ⟨Oz,FJ,OF⟩,.int .i64 abz] :: Rs.own ⟨OA,FK,OG⟩ (eInt .i64).z OM :: Rs.blk oS [.int .i64 abA,.int .i64 abB,.sl ⟨OA,FK,OG⟩] :: Rs.own ⟨OB,FL,OH⟩ (eInt .i64).z ON :: Rs.own ⟨OC,FM,OI⟩ (eInt .i64).z OO :: Rs.own ⟨OD,FN,OJ⟩ (eInt .i64).z OP :: Rs.own ⟨OE,FO,OK⟩ (eInt .i64).z OQ :: Rs.blk mx [.int .i64 pY,.int .i64 pZ,.sl ⟨OE,FO,OK⟩] :: R0) fun R=>ROs (ePair (eInt .i64) (ePair (eInt .i64) (ePair (eInt .i64) (ePair (eInt .i64) (eInt .i64))))) H R ⟨Oz,FJ,OF⟩ nJ∧CR (eInt .i64) H R OM OL∧CR (eInt .i64) H R ON kI∧CR (eInt .i64) H R OO nK∧CR (eInt .i64) H R OP fX∧CR (eInt .i64) H R OQ lf) {r:Int×Int×List Int} (hp:ai.pj13 F aQ kU nJ kI nK fX iJ pY pZ lf iK kV mz = some r):∃ v H',ai.j13 F (aw.tw F) (ac.tw F) (bA.tw F) (bu.tw F) C509_ kU oR 0 oS 0 ⟨OB,FL,OH⟩ ⟨OC,FM,OI⟩ ⟨OD,FN,OJ⟩ iJ mx 0 iK kV mz H = some (v,H')∧ai.Q H0 Ri R0  r v H':=by
 obtain ⟨w0,s0,FP,FQ,tk,FR,tp,tq⟩:=h0
 subst abC
 subst abD
 subst abE
 subst abF
 subst abG
 subst abH
 unfold ai.pj13 at hp
 unfold ai.j13
 obtain ⟨n1,g1,hp⟩:=bind_some' hp
 obtain ⟨p1,q1,i1,h1,j1⟩:=W.ixo (E:=(eInt .i64)) w0 (i:=3) rfl rfl tk g1
 refine bind_ex i1 ?_
 have h1:_ = [_]:=h1
 subst h1
 refine bind_ex (ldI_of (j1 0 _ rfl)) ?_
 obtain ⟨n2,g2,hp⟩:=bind_some' hp
 obtain ⟨p2,q2,i2,h2,j2⟩:=W.ixo (E:=(eInt .i64)) w0 (i:=5) rfl rfl tp g2
 refine bind_ex i2 ?_
 have h2:_ = [_]:=h2
 subst h2
 refine bind_ex (ldI_of (j2 0 _ rfl)) ?_
 obtain ⟨n3,g3,hp⟩:=bind_some' hp
 obtain ⟨p3,q3,i3,h3,j3⟩:=W.ixo (E:=(eInt .i64)) w0 (i:=3) rfl rfl tk g3
 refine bind_ex i3 ?_
 have h3:_ = [_]:=h3
 subst h3
 refine bind_ex (ldI_of (j3 0 _ rfl)) ?_
 obtain ⟨n4,g4,hp⟩:=bind_some' hp
 obtain ⟨p4,q4,i4,h4,j4⟩:=W.ixo (E:=(eInt .i64)) w0 (i:=5) rfl rfl tp g4
 refine bind_ex i4 ?_
 have h4:_ = [_]:=h4
 subst h4
 refine bind_ex (ldI_of (j4 0 _ rfl)) ?_
 refine bif_ex (fun hb=>?_) (fun hb=>?_)
 ·replace hp:=bif_t hb hp
  exact ai.j8_P (@hC509) rfl rfl rfl rfl rfl rfl ⟨w0,s0,FP,FQ,tk,FR,tp,tq⟩ hp
 ·replace hp:=bif_f hb hp
  refine bif_ex (fun hb=>?_) (fun hb=>?_)
  ·replace hp:=bif_t hb hp
   refine bind_ex (ldSl_of (w0.ld (i:=7) rfl rfl)) ?_
   refine bind_ex (ldSl_of (w0.ld (i:=7) rfl rfl)) ?_
   obtain ⟨n5,g5,hp⟩:=bind_some' hp
   obtain ⟨p5,q5,i5,h5,j5⟩:=W.ixo (E:=(eInt .i64)) w0 (i:=6) rfl rfl tq g5
   refine bind_ex i5 ?_
   have h5:_ = [_]:=h5
   subst h5
   refine bind_ex (ldI_of (j5 0 _ rfl)) ?_
   obtain ⟨n6,g6,hp⟩:=bind_some' hp
   obtain ⟨p6,q6,i6,h6,j6⟩:=W.ixo (E:=(eInt .i64)) w0 (i:=6) rfl rfl tq g6
   refine bind_ex i6 ?_
   obtain ⟨l7,e7,hp⟩:=bind_some' hp
   refine sto_k (eInt .i64) w0 (i:=6) (j:=0) (p:=p6) rfl rfl tq g6 i6 e7 rfl rfl (fun _ h=>by have h:_ = [_]:=h; subst h; exact rfl) fun H8 k8 w8 s8 c8=>?_
   dsimp only [List.set] at w8 s8 c8
   exact ai.j12_P (@hC509) rfl rfl rfl rfl rfl ((st_len e7).symm) ⟨w8,(s0.trans s8),(FP.step s8),(FQ.step s8),(tk.step s8),(FR.step s8),(tp.step s8),c8⟩ hp
  ·replace hp:=bif_f hb hp
   exact ai.j12_P (@hC509) rfl rfl rfl rfl rfl rfl ⟨w0,s0,FP,FQ,tk,FR,tp,tq⟩ hp
def ai.pl509 (F:Nat) :Nat→Int→List (Int×Int×Int×Int×Int)→List Int→List Int→List Int→Int→Int→Int→List Int→Int→Option (Int×Int×List Int)
 | 0,_,_,_,_,_,_,_,_,_,_=>none
 | k + 1,cZ,lM,kG,kH,m_,fP,mY,mZ,lN,dY=>(bif (decide (dY < (lM.length:Int))) then ((bu.p F kG kH dY cZ).bind fun r4=>(ix kG (IntKind.i64.wrap (4 * dY))).bind fun n8=>(ix kH (gt kG n8)).bind fun n9=>(bif ((gt kH n9) == cZ) then (ai.pj13 F (ai.pl509 F k) cZ lM kG kH m_ fP mY mZ lN dY r4 1) else (ai.pj13 F (ai.pl509 F k) cZ lM kG kH m_ fP mY mZ lN dY r4 0))) else (some (mY,mZ,lN)))
termination_by structural n=>n
theorem ai.l509_P {F:Nat} {H0:Hp} {Ri R0:List Rs}  :∀ k,ai.S509 H0 Ri R0  (ai.l509 F (aw.tw F) (ac.tw F) (bA.tw F) (bu.tw F)  k) (ai.pl509 F  k):=by
 intro k
 induction k with
 | zero=>
  intro cZ EY EZ E_ fP mY mZ dY zd ze zf zg zh zi sI et sJ dy sK sL sM sO fZ zj zk zl zm zn zo lM zp kG kH m_ lN zq zr zt zu zv H OR OS OT OU OV OW h0 r hp
  exact nomatch (show (none:Option (Int×Int×List Int)) = some r from hp)
 | succ k ih=>
  intro cZ EY EZ E_ fP mY mZ dY zd ze zf zg zh zi sI et sJ dy sK sL sM sO fZ zj zk zl zm zn zo lM zp kG kH m_ lN zq zr zt zu zv H OR OS OT OU OV OW h0 r hp
  obtain ⟨w0,s0,OX,OY,zD,zE,OZ,FS⟩:=h0
  subst OR
  subst OS
  subst OT
  subst OU
  subst OV
  subst OW
  unfold ai.pl509 at hp
  unfold ai.l509
  refine bind_ex (ldSl_of (w0.ld (i:=0) rfl rfl)) ?_
  refine bif_ex (fun hb=>?_) (fun hb=>?_)
  ·replace hp:=bif_t hb hp
   obtain ⟨w1,s1⟩:=w0.pick' [3,4,0,1,2,5,6,7] 8 rfl rfl rfl
   dsimp only [pk,pks,nth,List.drop] at w1 s1
   have f2:=W.borrow1 (eInt .i64) w1 (zD.step s1)
   obtain ⟨w2,s2⟩:=w1.right1
   have f3:=W.borrow1 (eInt .i64) w2 ((zE.step s1).step s2)
   obtain ⟨w3,s3⟩:=w2.right1
   obtain ⟨r4,e4,hp⟩:=bind_some' hp
   refine call_ex (bu.P rfl rfl ⟨w3,(f2.step s3),f3⟩ e4) ?_
   rintro _ H5 ⟨rfl,w5,s5,_⟩
   obtain ⟨w6,s6⟩:=W.frame1 w2 w5 s5
   obtain ⟨w7,s7⟩:=W.frame1 w1 w6 s6
   refine bind_ex rfl ?_
   obtain ⟨n8,g8,hp⟩:=bind_some' hp
   obtain ⟨p8,q8,i8,h8,j8⟩:=W.ixo (E:=(eInt .i64)) w7 (i:=0) rfl rfl (zD.step (s1.trans s7)) g8
   refine bind_ex i8 ?_
   have h8:_ = [_]:=h8
   subst h8
   refine bind_ex (ldI_of (j8 0 _ rfl)) ?_
   obtain ⟨n9,g9,hp⟩:=bind_some' hp
   obtain ⟨p9,q9,i9,h9,j9⟩:=W.ixo (E:=(eInt .i64)) w7 (i:=1) rfl rfl (zE.step (s1.trans s7)) g9
   refine bind_ex i9 ?_
   have h9:_ = [_]:=h9
   subst h9
   refine bind_ex (ldI_of (j9 0 _ rfl)) ?_
   refine bif_ex (fun hb=>?_) (fun hb=>?_)
   ·replace hp:=bif_t hb hp
    obtain ⟨w10,s10⟩:=w7.pick' [2,3,4,0,1,5,6,7] 8 rfl rfl rfl
    dsimp only [pk,pks,nth,List.drop] at w10 s10
    exact ai.j13_P (@ih) rfl rfl rfl rfl rfl rfl ⟨w10,(s0.trans (s1.trans (s7.trans s10))),(OX.step (s1.trans (s7.trans s10))),(OY.step (s1.trans (s7.trans s10))),(zD.step (s1.trans (s7.trans s10))),(zE.step (s1.trans (s7.trans s10))),(OZ.step (s1.trans (s7.trans s10))),(FS.step (s1.trans (s7.trans s10)))⟩ hp
   ·replace hp:=bif_f hb hp
    obtain ⟨w11,s11⟩:=w7.pick' [2,3,4,0,1,5,6,7] 8 rfl rfl rfl
    dsimp only [pk,pks,nth,List.drop] at w11 s11
    exact ai.j13_P (@ih) rfl rfl rfl rfl rfl rfl ⟨w11,(s0.trans (s1.trans (s7.trans s11))),(OX.step (s1.trans (s7.trans s11))),(OY.step (s1.trans (s7.trans s11))),(zD.step (s1.trans (s7.trans s11))),(zE.step (s1.trans (s7.trans s11))),(OZ.step (s1.trans (s7.trans s11))),(FS.step (s1.trans (s7.trans s11)))⟩ hp
  ·replace hp:=bif_f hb hp
   refine bind_ex (ldI_of (w0.ld (i:=7) rfl rfl)) ?_
   refine bind_ex (ldI_of (w0.ld (i:=7) rfl rfl)) ?_
   refine bind_ex (ldSl_of (w0.ld (i:=7) rfl rfl)) ?_
   refine st_k w0 (i:=2) rfl rfl rfl fun H12 w12 s12=>?_
   dsimp only [List.set] at w12 s12
   refine st_k w12 (i:=2) rfl rfl rfl fun H13 w13 s13=>?_
   dsimp only [List.set] at w13 s13
   refine st_k w13 (i:=2) rfl rfl rfl fun H14 w14 s14=>?_
   dsimp only [List.set] at w14 s14
   refine bind_ex (ldI_of (w14.ld (i:=2) rfl rfl)) ?_
   refine bind_ex (ldI_of (w14.ld (i:=2) rfl rfl)) ?_
   refine bind_ex (ldSl_of (w14.ld (i:=2) rfl rfl)) ?_
   obtain ⟨w15,s15⟩:=w14.pick' [6] 8 rfl rfl rfl
   dsimp only [pk,pks,nth,List.drop] at w15 s15
   obtain rfl:=Option.some.inj hp
   exact ⟨_,_,rfl,_,_,_,_,rfl,rfl,w15,(s0.trans (s12.trans (s13.trans (s14.trans s15)))),(FS.step (s12.trans (s13.trans (s14.trans s15))))⟩
def ai.pj14 (F:Nat)  (oT:Int) (ts:List (Int×Int×Int×Int×Int)) (tt:List Int) (tu:List Int) (tx:List Int) (kW:Int):Option (Int×Int×List Int):=(bA.p F kW kW).bind fun r1=>ai.pl509 F F oT ts tt tu tx kW r1.1 r1.2.1 r1.2.2 0
theorem ai.j14_P {F:Nat} {H0:Hp} {Ri R0:List Rs}   {oT abI abJ abK kW:Int} {O_ Pa Pb Pc Pd:ON} {FT wC FU wD FV FW FX:Nat} {Pe Pf Pg Ph Pi:Cap} {ts:List (Int×Int×Int×Int×Int)} {Pj tt tu tx:List Int} {Pk Pl Pm Pn:List AV} {H:Hp} (abL:FT = ts.length) (abM:FU = Pj.length) (abN:FV = tt.length) (abO:FW = tu.length) (abP:FX = tx.length) (h0:Out H0 Ri H (Rs.blk wC [.sl ⟨O_,FT,Pe⟩,.int .i64 abI] :: Rs.own ⟨Pa,FU,Pf⟩ (eInt .i64).z Pk :: Rs.blk wD [.int .i64 abJ,.int .i64 abK,.sl ⟨Pa,FU,Pf⟩] :: Rs.own ⟨Pb,FV,Pg⟩ (eInt .i64).z Pl :: Rs.own ⟨Pc,FW,Ph⟩ (eInt .i64).z Pm :: Rs.own ⟨Pd,FX,Pi⟩ (eInt .i64).z Pn :: R0) fun R=>ROs (ePair (eInt .i64) (ePair (eInt .i64) (ePair (eInt .i64) (ePair (eInt .i64) (eInt .i64))))) H R ⟨O_,FT,Pe⟩ ts∧CR (eInt .i64) H R Pk Pj∧CR (eInt .i64) H R Pl tt∧CR (eInt .i64) H R Pm tu∧CR (eInt .i64) H R Pn tx) {r:Int×Int×List Int} (hp:ai.pj14 F  oT ts tt tu tx kW = some r):∃ v H',ai.j14 F (aw.tw F) (ac.tw F) (bA.tw F) (bu.tw F)  oT wC 0 wD 0 ⟨Pb,FV,Pg⟩ ⟨Pc,FW,Ph⟩ ⟨Pd,FX,Pi⟩ kW H = some (v,H')∧ai.Q H0 Ri R0  r v H':=by
 obtain ⟨w0,s0,abQ,abR,abS,abT,abU⟩:=h0
 subst abL
 subst abM
 subst abN
 subst abO
 subst abP
 unfold ai.pj14 at hp
 unfold ai.j14
 obtain ⟨r1,e1,hp⟩:=bind_some' hp
 refine call_ex (bA.P ⟨w0,trivial⟩ e1) ?_
 rintro _ H2 ⟨o2a_2,o2n_2,o2k_2,rfl,rfl,w2,s2,f2_0⟩
 refine bind_ex rfl ?_
 refine bind_ex rfl ?_
 refine bind_ex rfl ?_
 refine bind_ex rfl ?_
 refine bind_ex rfl ?_
 refine bind_ex rfl ?_
 refine bind_ex rfl ?_
 refine new_k w2 fun H3 w3 s3=>?_
 refine st_k w3 (i:=0) rfl rfl rfl fun H4 w4 s4=>?_
 dsimp only [List.set] at w4 s4
 refine st_k w4 (i:=0) rfl rfl rfl fun H5 w5 s5=>?_
 dsimp only [List.set] at w5 s5
 refine st_k w5 (i:=0) rfl rfl rfl fun H6 w6 s6=>?_
 dsimp only [List.set] at w6 s6
 obtain ⟨w7,s7⟩:=w6.pick' [2,3,4,5,6,7,1,0] 8 rfl rfl rfl
 dsimp only [pk,pks,nth,List.drop] at w7 s7
 exact ai.l509_P F rfl rfl rfl rfl rfl rfl ⟨w7,(s0.trans (s2.trans (s3.trans (s4.trans (s5.trans (s6.trans s7)))))),(abQ.step (s2.trans (s3.trans (s4.trans (s5.trans (s6.trans s7)))))),(abR.step (s2.trans (s3.trans (s4.trans (s5.trans (s6.trans s7)))))),(abS.step (s2.trans (s3.trans (s4.trans (s5.trans (s6.trans s7)))))),(abT.step (s2.trans (s3.trans (s4.trans (s5.trans (s6.trans s7)))))),(abU.step (s2.trans (s3.trans (s4.trans (s5.trans (s6.trans s7)))))),(f2_0.step (s3.trans (s4.trans (s5.trans (s6.trans s7)))))⟩ hp
def ai.pl125 (F:Nat) :Nat→Int→List (Int×Int×Int×Int×Int)→List Int→List Int→List Int→Int→Int→Option (Int×Int×List Int)
 | 0,_,_,_,_,_,_,_=>none
 | k + 1,dc,lI,gM,jM,lJ,dP,eX=>(bif (decide (eX < (jM.length:Int))) then ((ix jM eX).bind fun n1=>(bif ((gt jM n1) == dc) then ((apn lJ ([(-2)]:List Int)).bind fun l3=>ai.pj15 F (ai.pl125 F k) dc lI gM jM l3 dP eX) else ((apn lJ ([dP]:List Int)).bind fun l7=>ai.pj15 F (ai.pl125 F k) dc lI gM jM l7 (IntKind.i64.wrap (dP + 1)) eX))) else (ai.pj14 F dc lI gM jM lJ dP))
termination_by structural n=>n
theorem ai.l125_P {F:Nat} {H0:Hp} {Ri R0:List Rs}  :∀ k,ai.S125 H0 Ri R0  (ai.l125 F (aw.tw F) (ac.tw F) (bA.tw F) (bu.tw F)  k) (ai.pl125 F  k):=by
 intro k
 induction k with
 | zero=>
  intro dc EQ ER ES dP eX yS yT lG yU yV sy eW sB fB kF sC sD yW yX lH yY yZ lI y_ gM jM lJ za lK zb zc H Po Pp tz Pq Pr h0 r hp
  exact nomatch (show (none:Option (Int×Int×List Int)) = some r from hp)
 | succ k ih=>
  intro dc EQ ER ES dP eX yS yT lG yU yV sy eW sB fB kF sC sD yW yX lH yY yZ lI y_ gM jM lJ za lK zb zc H Po Pp tz Pq Pr h0 r hp
  obtain ⟨w0,s0,FY,FZ,p_,zF,F_⟩:=h0
  subst Po
  subst Pp
  subst tz
  subst Pq
  subst Pr
  unfold ai.pl125 at hp
  unfold ai.l125
  refine bif_ex (fun hb=>?_) (fun hb=>?_)
  ·replace hp:=bif_t hb hp
   obtain ⟨n1,g1,hp⟩:=bind_some' hp
   obtain ⟨p1,q1,i1,h1,j1⟩:=W.ixo (E:=(eInt .i64)) w0 (i:=4) rfl rfl zF g1
   refine bind_ex i1 ?_
   have h1:_ = [_]:=h1
   subst h1
   refine bind_ex (ldI_of (j1 0 _ rfl)) ?_
   refine bif_ex (fun hb=>?_) (fun hb=>?_)
   ·replace hp:=bif_t hb hp
    refine newS_k (eInt .i64) w0 (n:=1) (l:=([(-2)]:List Int)) rfl (CR.cons1 rfl CR.empty) rfl fun H2 w2 s2 c2=>?_
    refine bind_ex (w2.rowo (i:=0) rfl) ?_
    obtain ⟨l3,e3,hp⟩:=bind_some' hp
    refine app_k (eInt .i64) w2 (i:=6) rfl rfl (F_.step s2) c2 (show 1 = List.length ([(-2)]:List Int) from rfl) rfl e3 fun a4 d4 H4 w4 s4 c4 x4=>?_
    dsimp only [List.set] at w4 s4 c4
    obtain ⟨w5,s5⟩:=w4.pick' [1,2,3,4,5,6] 7 rfl rfl rfl
    dsimp only [pk,pks,nth,List.drop] at w5 s5
    exact ai.j15_P (@ih) rfl rfl rfl rfl rfl ⟨w5,(s0.trans (s2.trans (s4.trans s5))),(FY.step (s2.trans (s4.trans s5))),(FZ.step (s2.trans (s4.trans s5))),(p_.step (s2.trans (s4.trans s5))),(zF.step (s2.trans (s4.trans s5))),(c4.step s5)⟩ hp
   ·replace hp:=bif_f hb hp
    refine newS_k (eInt .i64) w0 (n:=1) (l:=([dP]:List Int)) rfl (CR.cons1 rfl CR.empty) rfl fun H6 w6 s6 c6=>?_
    refine bind_ex (w6.rowo (i:=0) rfl) ?_
    obtain ⟨l7,e7,hp⟩:=bind_some' hp
    refine app_k (eInt .i64) w6 (i:=6) rfl rfl (F_.step s6) c6 (show 1 = List.length ([dP]:List Int) from rfl) rfl e7 fun a8 d8 H8 w8 s8 c8 x8=>?_
    dsimp only [List.set] at w8 s8 c8
    obtain ⟨w9,s9⟩:=w8.pick' [1,2,3,4,5,6] 7 rfl rfl rfl
    dsimp only [pk,pks,nth,List.drop] at w9 s9
    exact ai.j15_P (@ih) rfl rfl rfl rfl rfl ⟨w9,(s0.trans (s6.trans (s8.trans s9))),(FY.step (s6.trans (s8.trans s9))),(FZ.step (s6.trans (s8.trans s9))),(p_.step (s6.trans (s8.trans s9))),(zF.step (s6.trans (s8.trans s9))),(c8.step s9)⟩ hp
  ·replace hp:=bif_f hb hp
   exact ai.j14_P rfl rfl rfl rfl rfl ⟨w0,s0,FY,FZ,p_,zF,F_⟩ hp
def ai.p (F:Nat) (ae:List (Int×Int×Int×Int×Int)) (ah:Int):Option (Int×Int×List Int):=(aw.p F ae).bind fun r3=>(ac.p F ae).bind fun r6=>ai.pl125 F F ah ae r3 r6 ([]:List Int) (-1) 0
theorem ai.P {F:Nat} {az:ON} {ap:Nat} {aA:Cap} {ae:List (Int×Int×Int×Int×Int)} {ab ah:Int} {H:Hp} {R0:List Rs} (aW:ap = ae.length) (h0:Inn H R0 fun R=>ROs (ePair (eInt .i64) (ePair (eInt .i64) (ePair (eInt .i64) (ePair (eInt .i64) (eInt .i64))))) H R ⟨az,ap,aA⟩ ae) {r:Int×Int×List Int} (hp:ai.p F ae ah = some r):∃ v H',ai.tw F ⟨az,ap,aA⟩ ab ah H = some (v,H')∧ai.Q H R0 R0  r v H':=by
 obtain ⟨w0,aK⟩:=h0
 subst aW
 unfold ai.p at hp
 unfold ai.tw ai.twX
 have s0:=w0.rf
 refine new_k w0 fun H1 w1 s1=>?_
 refine new_k w1 fun H2 w2 s2=>?_
 refine bind_ex (ldSl_of (w2.ld (i:=1) rfl rfl)) ?_
 refine bind_ex (ldI_of (w2.ld (i:=1) rfl rfl)) ?_
 obtain ⟨r3,e3,hp⟩:=bind_some' hp
 refine call_ex (aw.P rfl ⟨w2,(aK.step (s1.trans s2))⟩ e3) ?_
 rintro _ H4 ⟨o0a_4,o0n_4,o0c_4,o0k_4,rfl,rfl,w4,s4,f4_0⟩
 refine bind_ex rfl ?_
 refine ifs_ex (W.cons_of (Rn:=[_]) w2 w4 s4) ?_
 refine bind_ex (ldSl_of (w4.ld (i:=2) rfl rfl)) ?_
 refine bind_ex (ldI_of (w4.ld (i:=2) rfl rfl)) ?_
 obtain ⟨r6,e6,hp⟩:=bind_some' hp
 refine call_ex (ac.P rfl ⟨w4,(aK.step (s1.trans (s2.trans s4)))⟩ e6) ?_
 rintro _ H7 ⟨o0a_7,o0n_7,o0c_7,o0k_7,rfl,rfl,w7,s7,f7_0⟩
 refine bind_ex rfl ?_
 refine newS_k (eInt .i64) w7 (n:=0) (l:=([]:List Int)) rfl CR.empty rfl fun H8 w8 s8 c8=>?_
 obtain ⟨w9,s9⟩:=w8.nilS (eInt .i64).z (by decide)
 obtain ⟨w10,s10⟩:=w9.pick' [5,0,4,3,2,1] 6 rfl rfl rfl
 dsimp only [pk,pks,nth,List.drop] at w10 s10
 exact ai.l125_P F rfl rfl rfl rfl (show 0 = List.length ([]:List Int) from rfl) ⟨w10,(s0.trans (s1.trans (s2.trans (s4.trans (s7.trans (s8.trans (s9.trans s10))))))),(aK.step (s1.trans (s2.trans (s4.trans (s7.trans (s8.trans (s9.trans s10))))))),((CR.empty:CR (eInt .i64) _ _ [] []).step s10),(f4_0.step (s7.trans (s8.trans (s9.trans s10)))),(f7_0.step (s8.trans (s9.trans s10))),(c8.step (s9.trans s10))⟩ hp
def bS.Q (H0:Hp) (Ri R0:List Rs)  (r:Int×Int×List Int×Int) (v:AV) (H':Hp):Prop:=∃ o2a:ON,∃ o2n:Nat,∃ o2c:Cap,∃ o2k:List AV,v = (.tup [(.agg [(.int .i64 r.1),(.int .i64 r.2.1),(.sl ⟨o2a,o2n,o2c⟩)]),(.int .i64 r.2.2.2)])∧o2n = (r.2.2.1).length∧Out H0 Ri H' (Rs.own ⟨o2a,o2n,o2c⟩ (eInt .i64).z o2k :: R0) fun R=>CR (eInt .i64) H' R o2k (r.2.2.1)
def bS.p (F:Nat) (ae:List (Int×Int×Int×Int×Int)) (ab:Int) (ah:Int):Option (Int×Int×List Int×Int):=(bQ.p F ae ab).bind fun r3=>(bif (!r3) then (some (0,0,([]:List Int),1)) else ((bn.p F ah 0 1).bind fun r10=>(bif (!r10) then (some (0,0,([]:List Int),2)) else ((aI.p F ae).bind fun r17=>(bif (r17 != 1) then (some (0,0,([]:List Int),5)) else ((bif (decide (ab > 0)) then (some (0,0,([]:List Int),5)) else ((ai.p F ae ah).bind fun r29=>some (r29.1,r29.2.1,r29.2.2,0)))))))))
theorem bS.P {F:Nat} {az:ON} {ap:Nat} {aA:Cap} {ae:List (Int×Int×Int×Int×Int)} {ab ah:Int} {H:Hp} {R0:List Rs} (aW:ap = ae.length) (h0:Inn H R0 fun R=>ROs (ePair (eInt .i64) (ePair (eInt .i64) (ePair (eInt .i64) (ePair (eInt .i64) (eInt .i64))))) H R ⟨az,ap,aA⟩ ae) {r:Int×Int×List Int×Int} (hp:bS.p F ae ab ah = some r):∃ v H',bS.tw F ⟨az,ap,aA⟩ ab ah H = some (v,H')∧bS.Q H R0 R0  r v H':=by
 obtain ⟨w0,aK⟩:=h0
 subst aW
 unfold bS.p at hp
 unfold bS.tw bS.twX
 have s0:=w0.rf
 refine new_k w0 fun H1 w1 s1=>?_
 refine new_k w1 fun H2 w2 s2=>?_
 refine bind_ex (ldSl_of (w2.ld (i:=1) rfl rfl)) ?_
 refine bind_ex (ldI_of (w2.ld (i:=1) rfl rfl)) ?_
 obtain ⟨r3,e3,hp⟩:=bind_some' hp
 refine call_ex (bQ.P rfl ⟨w2,(aK.step (s1.trans s2))⟩ e3) ?_
 rintro _ H4 ⟨rfl,w4,s4,_⟩
 refine bind_ex rfl ?_
 refine bif_ex (fun hb=>?_) (fun hb=>?_)
 ·replace hp:=bif_t hb hp
  refine st_k w4 (i:=0) rfl rfl rfl fun H5 w5 s5=>?_
  dsimp only [List.set] at w5 s5
  refine st_k w5 (i:=0) rfl rfl rfl fun H6 w6 s6=>?_
  dsimp only [List.set] at w6 s6
  refine st_k w6 (i:=0) rfl rfl rfl fun H7 w7 s7=>?_
  dsimp only [List.set] at w7 s7
  refine bind_ex (ldI_of (w7.ld (i:=0) rfl rfl)) ?_
  refine bind_ex (ldI_of (w7.ld (i:=0) rfl rfl)) ?_
  refine bind_ex (ldSl_of (w7.ld (i:=0) rfl rfl)) ?_
  obtain ⟨w8,s8⟩:=w7.nilS (eInt .i64).z (by decide)
  obtain ⟨w9,s9⟩:=w8.pick' [0] 3 rfl rfl rfl
  dsimp only [pk,pks,nth,List.drop] at w9 s9
  obtain rfl:=Option.some.inj hp
  exact ⟨_,_,rfl,_,_,_,_,rfl,rfl,w9,(s0.trans (s1.trans (s2.trans (s4.trans (s5.trans (s6.trans (s7.trans (s8.trans s9)))))))),((CR.empty:CR (eInt .i64) _ _ [] []).step s9)⟩
 ·replace hp:=bif_f hb hp
  obtain ⟨r10,e10,hp⟩:=bind_some' hp
  refine call_ex (bn.P ⟨w4,trivial⟩ e10) ?_
  rintro _ H11 ⟨rfl,w11,s11,_⟩
  refine bind_ex rfl ?_
  refine bif_ex (fun hb=>?_) (fun hb=>?_)
  ·replace hp:=bif_t hb hp
   refine st_k w11 (i:=0) rfl rfl rfl fun H12 w12 s12=>?_
   dsimp only [List.set] at w12 s12
   refine st_k w12 (i:=0) rfl rfl rfl fun H13 w13 s13=>?_
   dsimp only [List.set] at w13 s13
   refine st_k w13 (i:=0) rfl rfl rfl fun H14 w14 s14=>?_
   dsimp only [List.set] at w14 s14
   refine bind_ex (ldI_of (w14.ld (i:=0) rfl rfl)) ?_
   refine bind_ex (ldI_of (w14.ld (i:=0) rfl rfl)) ?_
   refine bind_ex (ldSl_of (w14.ld (i:=0) rfl rfl)) ?_
   obtain ⟨w15,s15⟩:=w14.nilS (eInt .i64).z (by decide)
   obtain ⟨w16,s16⟩:=w15.pick' [0] 3 rfl rfl rfl
   dsimp only [pk,pks,nth,List.drop] at w16 s16
   obtain rfl:=Option.some.inj hp
   exact ⟨_,_,rfl,_,_,_,_,rfl,rfl,w16,(s0.trans (s1.trans (s2.trans (s4.trans (s11.trans (s12.trans (s13.trans (s14.trans (s15.trans s16))))))))),((CR.empty:CR (eInt .i64) _ _ [] []).step s16)⟩
  ·replace hp:=bif_f hb hp
   refine bind_ex (ldSl_of (w11.ld (i:=1) rfl rfl)) ?_
   refine bind_ex (ldI_of (w11.ld (i:=1) rfl rfl)) ?_
   obtain ⟨r17,e17,hp⟩:=bind_some' hp
   refine call_ex (aI.P rfl ⟨w11,(aK.step (s1.trans (s2.trans (s4.trans s11))))⟩ e17) ?_
   rintro _ H18 ⟨rfl,w18,s18,_⟩
   refine bind_ex rfl ?_
   refine bif_ex (fun hb=>?_) (fun hb=>?_)
   ·replace hp:=bif_t hb hp
    refine st_k w18 (i:=0) rfl rfl rfl fun H19 w19 s19=>?_
    dsimp only [List.set] at w19 s19
    refine st_k w19 (i:=0) rfl rfl rfl fun H20 w20 s20=>?_
    dsimp only [List.set] at w20 s20
    refine st_k w20 (i:=0) rfl rfl rfl fun H21 w21 s21=>?_
    dsimp only [List.set] at w21 s21
    refine bind_ex (ldI_of (w21.ld (i:=0) rfl rfl)) ?_
    refine bind_ex (ldI_of (w21.ld (i:=0) rfl rfl)) ?_
    refine bind_ex (ldSl_of (w21.ld (i:=0) rfl rfl)) ?_
    obtain ⟨w22,s22⟩:=w21.nilS (eInt .i64).z (by decide)
    obtain ⟨w23,s23⟩:=w22.pick' [0] 3 rfl rfl rfl
    dsimp only [pk,pks,nth,List.drop] at w23 s23
    obtain rfl:=Option.some.inj hp
    exact ⟨_,_,rfl,_,_,_,_,rfl,rfl,w23,(s0.trans (s1.trans (s2.trans (s4.trans (s11.trans (s18.trans (s19.trans (s20.trans (s21.trans (s22.trans s23)))))))))),((CR.empty:CR (eInt .i64) _ _ [] []).step s23)⟩
   ·replace hp:=bif_f hb hp
    refine bind_ex (ldI_of (w18.ld (i:=1) rfl rfl)) ?_
    refine bif_ex (fun hb=>?_) (fun hb=>?_)
    ·replace hp:=bif_t hb hp
     refine st_k w18 (i:=0) rfl rfl rfl fun H24 w24 s24=>?_
     dsimp only [List.set] at w24 s24
     refine st_k w24 (i:=0) rfl rfl rfl fun H25 w25 s25=>?_
     dsimp only [List.set] at w25 s25
     refine st_k w25 (i:=0) rfl rfl rfl fun H26 w26 s26=>?_
     dsimp only [List.set] at w26 s26
     refine bind_ex (ldI_of (w26.ld (i:=0) rfl rfl)) ?_
     refine bind_ex (ldI_of (w26.ld (i:=0) rfl rfl)) ?_
     refine bind_ex (ldSl_of (w26.ld (i:=0) rfl rfl)) ?_
     obtain ⟨w27,s27⟩:=w26.nilS (eInt .i64).z (by decide)
     obtain ⟨w28,s28⟩:=w27.pick' [0] 3 rfl rfl rfl
     dsimp only [pk,pks,nth,List.drop] at w28 s28
     obtain rfl:=Option.some.inj hp
     exact ⟨_,_,rfl,_,_,_,_,rfl,rfl,w28,(s0.trans (s1.trans (s2.trans (s4.trans (s11.trans (s18.trans (s24.trans (s25.trans (s26.trans (s27.trans s28)))))))))),((CR.empty:CR (eInt .i64) _ _ [] []).step s28)⟩
    ·replace hp:=bif_f hb hp
     refine bind_ex (ldSl_of (w18.ld (i:=1) rfl rfl)) ?_
     refine bind_ex (ldI_of (w18.ld (i:=1) rfl rfl)) ?_
     obtain ⟨r29,e29,hp⟩:=bind_some' hp
     refine call_ex (ai.P rfl ⟨w18,(aK.step (s1.trans (s2.trans (s4.trans (s11.trans s18)))))⟩ e29) ?_
     rintro _ H30 ⟨o2a_30,o2n_30,o2c_30,o2k_30,rfl,rfl,w30,s30,f30_0⟩
     refine bind_ex rfl ?_
     refine bind_ex rfl ?_
     refine bind_ex rfl ?_
     refine bind_ex rfl ?_
     refine bind_ex rfl ?_
     refine bind_ex rfl ?_
     refine bind_ex rfl ?_
     refine st_k w30 (i:=1) rfl rfl rfl fun H31 w31 s31=>?_
     dsimp only [List.set] at w31 s31
     refine st_k w31 (i:=1) rfl rfl rfl fun H32 w32 s32=>?_
     dsimp only [List.set] at w32 s32
     refine st_k w32 (i:=1) rfl rfl rfl fun H33 w33 s33=>?_
     dsimp only [List.set] at w33 s33
     refine bind_ex (ldI_of (w33.ld (i:=1) rfl rfl)) ?_
     refine bind_ex (ldI_of (w33.ld (i:=1) rfl rfl)) ?_
     refine bind_ex (ldSl_of (w33.ld (i:=1) rfl rfl)) ?_
     obtain ⟨w34,s34⟩:=w33.pick' [0] 3 rfl rfl rfl
     dsimp only [pk,pks,nth,List.drop] at w34 s34
     obtain rfl:=Option.some.inj hp
     exact ⟨_,_,rfl,_,_,_,_,rfl,rfl,w34,(s0.trans (s1.trans (s2.trans (s4.trans (s11.trans (s18.trans (s30.trans (s31.trans (s32.trans (s33.trans s34)))))))))),(f30_0.step (s31.trans (s32.trans (s33.trans s34))))⟩
def bq.Q (H0:Hp) (Ri R0:List Rs)  (r:Int) (v:AV) (H':Hp):Prop:=v = (.int .i64 r)∧Out H0 Ri H' (R0) fun R=>True
def bq.p (F:Nat) (ae:List (Int×Int×Int×Int×Int)):Option (Int):=some (ae.length:Int)
theorem bq.P {F:Nat} {az:ON} {ap:Nat} {aA:Cap} {ae:List (Int×Int×Int×Int×Int)} {H:Hp} {R0:List Rs} (aW:ap = ae.length) (h0:Inn H R0 fun R=>ROs (ePair (eInt .i64) (ePair (eInt .i64) (ePair (eInt .i64) (ePair (eInt .i64) (eInt .i64))))) H R ⟨az,ap,aA⟩ ae) {r:Int} (hp:bq.p F ae = some r):∃ v H',bq.tw F ⟨az,ap,aA⟩ H = some (v,H')∧bq.Q H R0 R0  r v H':=by
 obtain ⟨w0,aK⟩:=h0
 subst aW
 unfold bq.p at hp
 unfold bq.tw bq.twX
 have s0:=w0.rf
 obtain rfl:=Option.some.inj hp
 exact ⟨_,_,rfl,rfl,w0,s0,trivial⟩
def bv.Q (H0:Hp) (Ri R0:List Rs)  (r:Bool) (v:AV) (H':Hp):Prop:=v = (.bool r)∧Out H0 Ri H' (R0) fun R=>True
def bv.p (F:Nat) (aa:Int) (af:Int) (bz:Int):Option (Bool):=(bif (decide (af ≤ aa)) then (some (decide (aa ≤ bz))) else (some false))
theorem bv.P {F:Nat} {aa af bz:Int} {H:Hp} {R0:List Rs}  (h0:Inn H R0 fun R=>True) {r:Bool} (hp:bv.p F aa af bz = some r):∃ v H',bv.tw F aa af bz H = some (v,H')∧bv.Q H R0 R0  r v H':=by
 obtain ⟨w0,_⟩:=h0
 unfold bv.p at hp
 unfold bv.tw bv.twX
 have s0:=w0.rf
 refine bif_ex (fun hb=>?_) (fun hb=>?_)
 ·replace hp:=bif_t hb hp
  obtain rfl:=Option.some.inj hp
  exact ⟨_,_,rfl,rfl,w0,s0,trivial⟩
 ·replace hp:=bif_f hb hp
  obtain rfl:=Option.some.inj hp
  exact ⟨_,_,rfl,rfl,w0,s0,trivial⟩
def bZ.Q (H0:Hp) (Ri R0:List Rs)  (r:Bool) (v:AV) (H':Hp):Prop:=v = (.bool r)∧Out H0 Ri H' (R0) fun R=>True
def bZ.p (F:Nat) (aG:Int):Option (Bool):=(bif (aG != 1) then (some (aG != (-1))) else (some false))
theorem bZ.P {F:Nat} {aa ab ay aJ aG:Int} {H:Hp} {R0:List Rs}  (h0:Inn H R0 fun R=>True) {r:Bool} (hp:bZ.p F aG = some r):∃ v H',bZ.tw F aa ab ay aJ aG H = some (v,H')∧bZ.Q H R0 R0  r v H':=by
 obtain ⟨w0,_⟩:=h0
 unfold bZ.p at hp
 unfold bZ.tw bZ.twX
 have s0:=w0.rf
 refine new_k w0 fun H1 w1 s1=>?_
 refine bind_ex (ldI_of (w1.ld (i:=0) rfl rfl)) ?_
 refine bif_ex (fun hb=>?_) (fun hb=>?_)
 ·replace hp:=bif_t hb hp
  refine bind_ex (ldI_of (w1.ld (i:=0) rfl rfl)) ?_
  obtain ⟨w2,s2⟩:=w1.pick' [] 1 rfl rfl rfl
  dsimp only [pk,pks,nth,List.drop] at w2 s2
  obtain rfl:=Option.some.inj hp
  exact ⟨_,_,rfl,rfl,w2,(s0.trans (s1.trans s2)),trivial⟩
 ·replace hp:=bif_f hb hp
  obtain ⟨w3,s3⟩:=w1.pick' [] 1 rfl rfl rfl
  dsimp only [pk,pks,nth,List.drop] at w3 s3
  obtain rfl:=Option.some.inj hp
  exact ⟨_,_,rfl,rfl,w3,(s0.trans (s1.trans s3)),trivial⟩
def aY.Q (H0:Hp) (Ri R0:List Rs)  (r:Int) (v:AV) (H':Hp):Prop:=v = (.int .i64 r)∧Out H0 Ri H' (R0) fun R=>True
def aY.S13 (H0:Hp) (Ri R0:List Rs)  (C:Sl→Int→Int→Hp→OA) (pC:List (Int×Int×Int×Int×Int)→Int→Int→Option (Int)):Prop:=∀ {zG:ON} {tB:Nat} {zH:Cap} {lP:List (Int×Int×Int×Int×Int)} {f_ eZ:Int},∀ {H:Hp},tB = lP.length→(Out H0 Ri H R0 fun R=>ROs (ePair (eInt .i64) (ePair (eInt .i64) (ePair (eInt .i64) (ePair (eInt .i64) (eInt .i64))))) H R ⟨zG,tB,zH⟩ lP)→∀ {r:Int},pC lP f_ eZ = some r→∃ v H',C ⟨zG,tB,zH⟩ f_ eZ H = some (v,H')∧aY.Q H0 Ri R0  r v H'
def aY.pl13 (F:Nat) :Nat→List (Int×Int×Int×Int×Int)→Int→Int→Option (Int)
 | 0,_,_,_=>none
 | k + 1,lP,f_,eZ=>(bif (decide (eZ < f_)) then ((ix lP eZ).bind fun n1=>(bZ.p F ((gt lP n1).2.2.2.2)).bind fun r2=>(bif r2 then (some eZ) else (aY.pl13 F k lP f_ (IntKind.i64.wrap (eZ + 1))))) else (some (-1)))
termination_by structural n=>n
theorem aY.l13_P {F:Nat} {H0:Hp} {Ri R0:List Rs}  :∀ k,aY.S13 H0 Ri R0  (aY.l13 F (bZ.tw F)  k) (aY.pl13 F  k):=by
 intro k
 induction k with
 | zero=>
  intro zG tB zH lP f_ eZ H Pt h0 r hp
  exact nomatch (show (none:Option (Int)) = some r from hp)
 | succ k ih=>
  intro zG tB zH lP f_ eZ H Pt h0 r hp
  obtain ⟨w0,s0,Pu⟩:=h0
  subst Pt
  unfold aY.pl13 at hp
  unfold aY.l13
  refine bif_ex (fun hb=>?_) (fun hb=>?_)
  ·replace hp:=bif_t hb hp
   obtain ⟨n1,g1,hp⟩:=bind_some' hp
   obtain ⟨p1,q1,i1,h1,j1⟩:=ROs.ixr Pu rfl g1
   refine bind_ex i1 ?_
   obtain ⟨_,_,rfl,rfl,_,_,rfl,rfl,_,_,rfl,rfl,_,_,rfl,rfl,rfl⟩:=h1
   refine bind_ex (ldI_of (j1 0 _ rfl)) ?_
   refine bind_ex (ldI_of (j1 1 _ rfl)) ?_
   refine bind_ex (ldI_of (j1 2 _ rfl)) ?_
   refine bind_ex (ldI_of (j1 3 _ rfl)) ?_
   refine bind_ex (ldI_of (j1 4 _ rfl)) ?_
   obtain ⟨r2,e2,hp⟩:=bind_some' hp
   refine call_ex (bZ.P ⟨w0,trivial⟩ e2) ?_
   rintro _ H3 ⟨rfl,w3,s3,_⟩
   refine bind_ex rfl ?_
   refine bif_ex (fun hb=>?_) (fun hb=>?_)
   ·replace hp:=bif_t hb hp
    obtain rfl:=Option.some.inj hp
    exact ⟨_,_,rfl,rfl,w3,(s0.trans s3),trivial⟩
   ·replace hp:=bif_f hb hp
    exact ih rfl ⟨w3,(s0.trans s3),(Pu.step s3)⟩ hp
  ·replace hp:=bif_f hb hp
   obtain rfl:=Option.some.inj hp
   exact ⟨_,_,rfl,rfl,w0,s0,trivial⟩
def aY.p (F:Nat) (ae:List (Int×Int×Int×Int×Int)):Option (Int):=aY.pl13 F F ae (ae.length:Int) 0
theorem aY.P {F:Nat} {az:ON} {ap:Nat} {aA:Cap} {ae:List (Int×Int×Int×Int×Int)} {H:Hp} {R0:List Rs} (aW:ap = ae.length) (h0:Inn H R0 fun R=>ROs (ePair (eInt .i64) (ePair (eInt .i64) (ePair (eInt .i64) (ePair (eInt .i64) (eInt .i64))))) H R ⟨az,ap,aA⟩ ae) {r:Int} (hp:aY.p F ae = some r):∃ v H',aY.tw F ⟨az,ap,aA⟩ H = some (v,H')∧aY.Q H R0 R0  r v H':=by
 obtain ⟨w0,aK⟩:=h0
 subst aW
 unfold aY.p at hp
 unfold aY.tw aY.twX
 have s0:=w0.rf
 exact aY.l13_P F rfl ⟨w0,s0,aK⟩ hp
def bT.Q (H0:Hp) (Ri R0:List Rs)  (r:Bool) (v:AV) (H':Hp):Prop:=v = (.bool r)∧Out H0 Ri H' (R0) fun R=>True
def bT.p (F:Nat) (ae:List (Int×Int×Int×Int×Int)):Option (Bool):=(aY.p F ae).bind fun r1=>some (decide (r1 ≥ 0))
theorem bT.P {F:Nat} {az:ON} {ap:Nat} {aA:Cap} {ae:List (Int×Int×Int×Int×Int)} {H:Hp} {R0:List Rs} (aW:ap = ae.length) (h0:Inn H R0 fun R=>ROs (ePair (eInt .i64) (ePair (eInt .i64) (ePair (eInt .i64) (ePair (eInt .i64) (eInt .i64))))) H R ⟨az,ap,aA⟩ ae) {r:Bool} (hp:bT.p F ae = some r):∃ v H',bT.tw F ⟨az,ap,aA⟩ H = some (v,H')∧bT.Q H R0 R0  r v H':=by
 obtain ⟨w0,aK⟩:=h0
 subst aW
 unfold bT.p at hp
 unfold bT.tw bT.twX
 have s0:=w0.rf
 obtain ⟨r1,e1,hp⟩:=bind_some' hp
 refine call_ex (aY.P rfl ⟨w0,aK⟩ e1) ?_
 rintro _ H2 ⟨rfl,w2,s2,_⟩
 refine bind_ex rfl ?_
 obtain rfl:=Option.some.inj hp
 exact ⟨_,_,rfl,rfl,w2,(s0.trans s2),trivial⟩
def bits_Mul64.Q (H0:Hp) (Ri R0:List Rs)  (r:Int×Int) (v:AV) (H':Hp):Prop:=v = (.tup [(.int .u64 r.1),(.int .u64 r.2)])∧Out H0 Ri H' (R0) fun R=>True
def bits_Mul64.p (F:Nat) (aa:Int) (af:Int):Option (Int×Int):=some ((IntKind.u64.wrap ((IntKind.u64.wrap ((IntKind.u64.wrap ((Int.fdiv aa (2 ^ (min (32:Int).toNat (IntKind.u64).bits))) * (Int.fdiv af (2 ^ (min (32:Int).toNat (IntKind.u64).bits))))) + (Int.fdiv (IntKind.u64.wrap ((IntKind.u64.wrap ((Int.fdiv aa (2 ^ (min (32:Int).toNat (IntKind.u64).bits))) * (Go.bits .and .u64 af 4294967295))) + (Int.fdiv (IntKind.u64.wrap ((Go.bits .and .u64 aa 4294967295) * (Go.bits .and .u64 af 4294967295))) (2 ^ (min (32:Int).toNat (IntKind.u64).bits))))) (2 ^ (min (32:Int).toNat (IntKind.u64).bits))))) + (Int.fdiv (IntKind.u64.wrap ((Go.bits .and .u64 (IntKind.u64.wrap ((IntKind.u64.wrap ((Int.fdiv aa (2 ^ (min (32:Int).toNat (IntKind.u64).bits))) * (Go.bits .and .u64 af 4294967295))) + (Int.fdiv (IntKind.u64.wrap ((Go.bits .and .u64 aa 4294967295) * (Go.bits .and .u64 af 4294967295))) (2 ^ (min (32:Int).toNat (IntKind.u64).bits))))) 4294967295) + (IntKind.u64.wrap ((Go.bits .and .u64 aa 4294967295) * (Int.fdiv af (2 ^ (min (32:Int).toNat (IntKind.u64).bits))))))) (2 ^ (min (32:Int).toNat (IntKind.u64).bits))))),(IntKind.u64.wrap (aa * af)))
theorem bits_Mul64.P {F:Nat} {aa af:Int} {H:Hp} {R0:List Rs}  (h0:Inn H R0 fun R=>True) {r:Int×Int} (hp:bits_Mul64.p F aa af = some r):∃ v H',bits_Mul64.tw F aa af H = some (v,H')∧bits_Mul64.Q H R0 R0  r v H':=by
 obtain ⟨w0,_⟩:=h0
 unfold bits_Mul64.p at hp
 unfold bits_Mul64.tw bits_Mul64.twX
 have s0:=w0.rf
 obtain rfl:=Option.some.inj hp
 exact ⟨_,_,rfl,rfl,w0,s0,trivial⟩
def bits_Mul.Q (H0:Hp) (Ri R0:List Rs)  (r:Int×Int) (v:AV) (H':Hp):Prop:=v = (.tup [(.int .u64 r.1),(.int .u64 r.2)])∧Out H0 Ri H' (R0) fun R=>True
def bits_Mul.p (F:Nat) (aa:Int) (af:Int):Option (Int×Int):=(bits_Mul64.p F aa af).bind fun r1=>some (r1.1,r1.2)
theorem bits_Mul.P {F:Nat} {aa af:Int} {H:Hp} {R0:List Rs}  (h0:Inn H R0 fun R=>True) {r:Int×Int} (hp:bits_Mul.p F aa af = some r):∃ v H',bits_Mul.tw F aa af H = some (v,H')∧bits_Mul.Q H R0 R0  r v H':=by
 obtain ⟨w0,_⟩:=h0
 unfold bits_Mul.p at hp
 unfold bits_Mul.tw bits_Mul.twX
 have s0:=w0.rf
 obtain ⟨r1,e1,hp⟩:=bind_some' hp
 refine call_ex (bits_Mul64.P ⟨w0,trivial⟩ e1) ?_
 rintro _ H2 ⟨rfl,w2,s2,_⟩
 refine bind_ex rfl ?_
 refine bind_ex rfl ?_
 refine bind_ex rfl ?_
 refine bind_ex rfl ?_
 refine bind_ex rfl ?_
 obtain rfl:=Option.some.inj hp
 exact ⟨_,_,rfl,rfl,w2,(s0.trans s2),trivial⟩
def aP.Q (H0:Hp) (Ri R0:List Rs)  (r:(List (Int×Int))) (v:AV) (H':Hp):Prop:=∃ o0a:ON,∃ o0n:Nat,∃ o0k:List AV,v = (.sl ⟨o0a,o0n,.ex o0n⟩)∧o0n = (r).length∧Out H0 Ri H' (Rs.own ⟨o0a,o0n,.ex o0n⟩ (ePair (eInt .i64) (eInt .i64)).z o0k :: R0) fun R=>CR (ePair (eInt .i64) (eInt .i64)) H' R o0k (r)
def aP.pj1 (F:Nat)  (jr:List (Int×Int)) (iq:Int):Option ((List (Int×Int))):=(mkn (IntKind.i64.wrap iq) ((0:Int),(0:Int))).bind fun l1=>(some (cpl l1 jr)).bind fun l3=>(rept F l3 ((min jr.length l1.length:Nat):Int)).bind fun l5=>some l5
theorem aP.j1_P {F:Nat} {H0:Hp} {Ri R0:List Rs}   {tC:ON} {nL:Nat} {tD:Cap} {jr:List (Int×Int)} {iq:Int} {H:Hp} (Ga:nL = jr.length) (h0:Out H0 Ri H R0 fun R=>ROs (ePair (eInt .i64) (eInt .i64)) H R ⟨tC,nL,tD⟩ jr) {r:(List (Int×Int))} (hp:aP.pj1 F  jr iq = some r):∃ v H',aP.j1 F (bits_Mul.tw F)  ⟨tC,nL,tD⟩ iq H = some (v,H')∧aP.Q H0 Ri R0  r v H':=by
 obtain ⟨w0,s0,Gb⟩:=h0
 subst Ga
 unfold aP.pj1 at hp
 unfold aP.j1
 obtain ⟨l1,e1,hp⟩:=bind_some' hp
 refine mk_k (ePair (eInt .i64) (eInt .i64)) ((0:Int),(0:Int)) w0 ⟨[_],_,rfl,rfl,rfl⟩ rfl rfl e1 fun H2 k2 w2 s2 c2=>?_
 obtain ⟨x3,h3,c3⟩:=(Gb.step s2).row (z:=(ePair (eInt .i64) (eInt .i64)).z) rfl
 obtain ⟨l3,e3,hp⟩:=bind_some' hp
 refine cpy_k (ePair (eInt .i64) (eInt .i64)) w2 (i:=0) rfl rfl c2 h3 c3 rfl rfl e3 fun k4 H4 w4 s4 c4=>?_
 dsimp only [List.set] at w4 s4 c4
 obtain ⟨l5,e5,hp⟩:=bind_some' hp
 refine rept_K (ePair (eInt .i64) (eInt .i64)) rfl (L:=aP.l254 F (bits_Mul.tw F)) (fun _ _ _ _=>rfl) w4 (i:=0) rfl c4 e5 fun H6 k6 w6 s6 c6=>?_
 dsimp only [List.set] at w6 s6 c6
 obtain rfl:=Option.some.inj hp
 exact ⟨_,_,rfl,_,_,_,rfl,((cpl_len e3).symm.trans (rept_len e5).symm),w6,(s0.trans (s2.trans (s4.trans s6))),c6⟩
def aP.pj2 (F:Nat)  (js:List (Int×Int)) (jd:Int):Option ((List (Int×Int))):=(bits_Mul.p F (IntKind.u64.wrap (js.length:Int)) (IntKind.u64.wrap jd)).bind fun r1=>(bif (decide (r1.1 > 0)) then (none) else ((bif (decide (r1.2 > 9223372036854775807)) then (none) else (aP.pj1 F js r1.2))))
theorem aP.j2_P {F:Nat} {H0:Hp} {Ri R0:List Rs}   {tE:ON} {nM:Nat} {tF:Cap} {js:List (Int×Int)} {jd:Int} {H:Hp} (Gc:nM = js.length) (h0:Out H0 Ri H R0 fun R=>ROs (ePair (eInt .i64) (eInt .i64)) H R ⟨tE,nM,tF⟩ js) {r:(List (Int×Int))} (hp:aP.pj2 F  js jd = some r):∃ v H',aP.j2 F (bits_Mul.tw F)  ⟨tE,nM,tF⟩ jd H = some (v,H')∧aP.Q H0 Ri R0  r v H':=by
 obtain ⟨w0,s0,Gd⟩:=h0
 subst Gc
 unfold aP.pj2 at hp
 unfold aP.j2
 obtain ⟨r1,e1,hp⟩:=bind_some' hp
 refine call_ex (bits_Mul.P ⟨w0,trivial⟩ e1) ?_
 rintro _ H2 ⟨rfl,w2,s2,_⟩
 refine bind_ex rfl ?_
 refine bind_ex rfl ?_
 refine bind_ex rfl ?_
 refine bind_ex rfl ?_
 refine bind_ex rfl ?_
 refine bif_ex (fun hb=>?_) (fun hb=>?_)
 ·replace hp:=bif_t hb hp
  cases hp
 ·replace hp:=bif_f hb hp
  refine bif_ex (fun hb=>?_) (fun hb=>?_)
  ·replace hp:=bif_t hb hp
   cases hp
  ·replace hp:=bif_f hb hp
   exact aP.j1_P rfl ⟨w2,(s0.trans s2),(Gd.step s2)⟩ hp
def aP.p (F:Nat) (ae:List (Int×Int)) (af:Int):Option ((List (Int×Int))):=(bif (decide (af < 0)) then (none) else (aP.pj2 F ae af))
theorem aP.P {F:Nat} {az:ON} {ap:Nat} {aA:Cap} {ae:List (Int×Int)} {af:Int} {H:Hp} {R0:List Rs} (aW:ap = ae.length) (h0:Inn H R0 fun R=>ROs (ePair (eInt .i64) (eInt .i64)) H R ⟨az,ap,aA⟩ ae) {r:(List (Int×Int))} (hp:aP.p F ae af = some r):∃ v H',aP.tw F ⟨az,ap,aA⟩ af H = some (v,H')∧aP.Q H R0 R0  r v H':=by
 obtain ⟨w0,aK⟩:=h0
 subst aW
 unfold aP.p at hp
 unfold aP.tw aP.twX
 have s0:=w0.rf
 refine bif_ex (fun hb=>?_) (fun hb=>?_)
 ·replace hp:=bif_t hb hp
  cases hp
 ·replace hp:=bif_f hb hp
  exact aP.j2_P rfl ⟨w0,s0,aK⟩ hp
def bs.Q (H0:Hp) (Ri R0:List Rs)  (r:Int×Int×Int×Int) (v:AV) (H':Hp):Prop:=v = (.agg [(.int .i64 r.1),(.int .i64 r.2.1),(.int .i64 r.2.2.1),(.int .i64 r.2.2.2)])∧Out H0 Ri H' (R0) fun R=>True
def bs.p (F:Nat) (aa:Int) (ab:Int) (ay:Int) (aJ:Int):Option (Int×Int×Int×Int):=some (aa,ab,ay,aJ)
theorem bs.P {F:Nat} {aa ab ay aJ aG:Int} {H:Hp} {R0:List Rs}  (h0:Inn H R0 fun R=>True) {r:Int×Int×Int×Int} (hp:bs.p F aa ab ay aJ = some r):∃ v H',bs.tw F aa ab ay aJ aG H = some (v,H')∧bs.Q H R0 R0  r v H':=by
 obtain ⟨w0,_⟩:=h0
 unfold bs.p at hp
 unfold bs.tw bs.twX
 have s0:=w0.rf
 refine new_k w0 fun H1 w1 s1=>?_
 refine new_k w1 fun H2 w2 s2=>?_
 refine bind_ex (ldI_of (w2.ld (i:=1) rfl rfl)) ?_
 refine bind_ex (ldI_of (w2.ld (i:=1) rfl rfl)) ?_
 refine bind_ex (ldI_of (w2.ld (i:=1) rfl rfl)) ?_
 refine bind_ex (ldI_of (w2.ld (i:=1) rfl rfl)) ?_
 refine st_k w2 (i:=0) rfl rfl rfl fun H3 w3 s3=>?_
 dsimp only [List.set] at w3 s3
 refine st_k w3 (i:=0) rfl rfl rfl fun H4 w4 s4=>?_
 dsimp only [List.set] at w4 s4
 refine st_k w4 (i:=0) rfl rfl rfl fun H5 w5 s5=>?_
 dsimp only [List.set] at w5 s5
 refine st_k w5 (i:=0) rfl rfl rfl fun H6 w6 s6=>?_
 dsimp only [List.set] at w6 s6
 refine bind_ex (ldI_of (w6.ld (i:=0) rfl rfl)) ?_
 refine bind_ex (ldI_of (w6.ld (i:=0) rfl rfl)) ?_
 refine bind_ex (ldI_of (w6.ld (i:=0) rfl rfl)) ?_
 refine bind_ex (ldI_of (w6.ld (i:=0) rfl rfl)) ?_
 obtain ⟨w7,s7⟩:=w6.pick' [] 2 rfl rfl rfl
 dsimp only [pk,pks,nth,List.drop] at w7 s7
 obtain rfl:=Option.some.inj hp
 exact ⟨_,_,rfl,rfl,w7,(s0.trans (s1.trans (s2.trans (s3.trans (s4.trans (s5.trans (s6.trans s7))))))),trivial⟩
def bt.Q (H0:Hp) (Ri R0:List Rs)  (r:Bool) (v:AV) (H':Hp):Prop:=v = (.bool r)∧Out H0 Ri H' (R0) fun R=>True
def bt.p (F:Nat) (aG:Int) (aX:Int):Option (Bool):=(bif (aX == 0) then (some true) else (some (aX == (IntKind.i64.wrap (2 + aG)))))
theorem bt.P {F:Nat} {aa ab ay aJ aG aX:Int} {H:Hp} {R0:List Rs}  (h0:Inn H R0 fun R=>True) {r:Bool} (hp:bt.p F aG aX = some r):∃ v H',bt.tw F aa ab ay aJ aG aX H = some (v,H')∧bt.Q H R0 R0  r v H':=by
 obtain ⟨w0,_⟩:=h0
 unfold bt.p at hp
 unfold bt.tw bt.twX
 have s0:=w0.rf
 refine new_k w0 fun H1 w1 s1=>?_
 refine bif_ex (fun hb=>?_) (fun hb=>?_)
 ·replace hp:=bif_t hb hp
  obtain ⟨w2,s2⟩:=w1.pick' [] 1 rfl rfl rfl
  dsimp only [pk,pks,nth,List.drop] at w2 s2
  obtain rfl:=Option.some.inj hp
  exact ⟨_,_,rfl,rfl,w2,(s0.trans (s1.trans s2)),trivial⟩
 ·replace hp:=bif_f hb hp
  refine bind_ex (ldI_of (w1.ld (i:=0) rfl rfl)) ?_
  obtain ⟨w3,s3⟩:=w1.pick' [] 1 rfl rfl rfl
  dsimp only [pk,pks,nth,List.drop] at w3 s3
  obtain rfl:=Option.some.inj hp
  exact ⟨_,_,rfl,rfl,w3,(s0.trans (s1.trans s3)),trivial⟩
def cj.Q (H0:Hp) (Ri R0:List Rs)  (r:Int) (v:AV) (H':Hp):Prop:=v = (.int .i64 r)∧Out H0 Ri H' (R0) fun R=>True
def cj.p (F:Nat) (ae:List (Int×Int)):Option (Int):=some (ae.length:Int)
theorem cj.P {F:Nat} {az:ON} {ap:Nat} {aA:Cap} {ae:List (Int×Int)} {H:Hp} {R0:List Rs} (aW:ap = ae.length) (h0:Inn H R0 fun R=>ROs (ePair (eInt .i64) (eInt .i64)) H R ⟨az,ap,aA⟩ ae) {r:Int} (hp:cj.p F ae = some r):∃ v H',cj.tw F ⟨az,ap,aA⟩ H = some (v,H')∧cj.Q H R0 R0  r v H':=by
 obtain ⟨w0,aK⟩:=h0
 subst aW
 unfold cj.p at hp
 unfold cj.tw cj.twX
 have s0:=w0.rf
 obtain rfl:=Option.some.inj hp
 exact ⟨_,_,rfl,rfl,w0,s0,trivial⟩
def bL.Q (H0:Hp) (Ri R0:List Rs)  (r:Bool) (v:AV) (H':Hp):Prop:=v = (.bool r)∧Out H0 Ri H' (R0) fun R=>True
def bL.p (F:Nat) (ae:List (Int×Int)) (af:Int):Option (Bool):=(cj.p F ae).bind fun r1=>(bv.p F af 0 (IntKind.i64.wrap (r1 - 1))).bind fun r3=>some r3
theorem bL.P {F:Nat} {az:ON} {ap:Nat} {aA:Cap} {ae:List (Int×Int)} {af:Int} {H:Hp} {R0:List Rs} (aW:ap = ae.length) (h0:Inn H R0 fun R=>ROs (ePair (eInt .i64) (eInt .i64)) H R ⟨az,ap,aA⟩ ae) {r:Bool} (hp:bL.p F ae af = some r):∃ v H',bL.tw F ⟨az,ap,aA⟩ af H = some (v,H')∧bL.Q H R0 R0  r v H':=by
 obtain ⟨w0,aK⟩:=h0
 subst aW
 unfold bL.p at hp
 unfold bL.tw bL.twX
 have s0:=w0.rf
 obtain ⟨r1,e1,hp⟩:=bind_some' hp
 refine call_ex (cj.P rfl ⟨w0,aK⟩ e1) ?_
 rintro _ H2 ⟨rfl,w2,s2,_⟩
 refine bind_ex rfl ?_
 obtain ⟨r3,e3,hp⟩:=bind_some' hp
 refine call_ex (bv.P ⟨w2,trivial⟩ e3) ?_
 rintro _ H4 ⟨rfl,w4,s4,_⟩
 refine bind_ex rfl ?_
 obtain rfl:=Option.some.inj hp
 exact ⟨_,_,rfl,rfl,w4,(s0.trans (s2.trans s4)),trivial⟩
def aF.Q (H0:Hp) (Ri R0:List Rs)  (r:(List (Int×Int))×(List (Int×Int))×Bool) (v:AV) (H':Hp):Prop:=∃ o0a:ON,∃ o0n:Nat,∃ o0c:Cap,∃ o0k:List AV,∃ o1a:ON,∃ o1n:Nat,∃ o1c:Cap,∃ o1k:List AV,v = (.tup [(.agg [(.sl ⟨o0a,o0n,o0c⟩),(.sl ⟨o1a,o1n,o1c⟩)]),(.bool r.2.2)])∧o0n = (r.1).length∧o1n = (r.2.1).length∧Out H0 Ri H' (Rs.own ⟨o0a,o0n,o0c⟩ (ePair (eInt .i64) (eInt .i64)).z o0k :: Rs.own ⟨o1a,o1n,o1c⟩ (ePair (eInt .i64) (eInt .i64)).z o1k :: R0) fun R=>CR (ePair (eInt .i64) (eInt .i64)) H' R o0k (r.1)∧CR (ePair (eInt .i64) (eInt .i64)) H' R o1k (r.2.1)
def aF.S61 (H0:Hp) (Ri R0:List Rs)  (C:Nat→Nat→Nat→Nat→Sl→Int→Int→Hp→OA) (pC:List (Int×Int)→List (Int×Int)→List (Int×Int×Int×Int×Int)→Int→Int→Option ((List (Int×Int))×(List (Int×Int))×Bool)):Prop:=∀ {zI zJ zK zL zM:ON} {tG tH fa tI tJ cv tK:Nat} {zN zO zP zQ zR:Cap} {zS zT na nb:List (Int×Int)} {zU zV zW zX:List AV} {jt:List (Int×Int×Int×Int×Int)} {ga fb:Int},∀ {H:Hp},tG = zS.length→tH = zT.length→tI = na.length→tJ = nb.length→tK = jt.length→(Out H0 Ri H (Rs.own ⟨zI,tG,zN⟩ (ePair (eInt .i64) (eInt .i64)).z zU :: Rs.own ⟨zJ,tH,zO⟩ (ePair (eInt .i64) (eInt .i64)).z zV :: Rs.blk fa [.sl ⟨zI,tG,zN⟩,.sl ⟨zJ,tH,zO⟩] :: Rs.own ⟨zK,tI,zP⟩ (ePair (eInt .i64) (eInt .i64)).z zW :: Rs.own ⟨zL,tJ,zQ⟩ (ePair (eInt .i64) (eInt .i64)).z zX :: Rs.blk cv [.sl ⟨zK,tI,zP⟩,.sl ⟨zL,tJ,zQ⟩] :: R0) fun R=>CR (ePair (eInt .i64) (eInt .i64)) H R zU zS∧CR (ePair (eInt .i64) (eInt .i64)) H R zV zT∧CR (ePair (eInt .i64) (eInt .i64)) H R zW na∧CR (ePair (eInt .i64) (eInt .i64)) H R zX nb∧ROs (ePair (eInt .i64) (ePair (eInt .i64) (ePair (eInt .i64) (ePair (eInt .i64) (eInt .i64))))) H R ⟨zM,tK,zR⟩ jt)→∀ {r:(List (Int×Int))×(List (Int×Int))×Bool},pC na nb jt ga fb = some r→∃ v H',C fa 0 cv 0 ⟨zM,tK,zR⟩ ga fb H = some (v,H')∧aF.Q H0 Ri R0  r v H'
def aF.S3931 (H0:Hp) (Ri R0:List Rs)  (C:Nat→Nat→Nat→Nat→Sl→Int→Int→Nat→Nat→Int→Int→Int→Int→Int→Int→Hp→OA) (pC:List (Int×Int)→List (Int×Int)→List (Int×Int×Int×Int×Int)→Int→Int→Int→Int→Int→Int→Int→Int→Int→Option ((List (Int×Int))×(List (Int×Int))×Bool)):Prop:=∀ {zY zZ z_ Aa Ab:ON} {tL tM cE tO tP cT tQ dQ:Nat} {Ac Ad Ae Af Ag:Cap} {Ah Ai gN gO:List (Int×Int)} {Aj Ak Al Am:List AV} {lQ:List (Int×Int×Int×Int×Int)} {ew e_ Ge Gf Gg Gh nc dh di dj dk dl cH:Int},∀ {H:Hp},tL = Ah.length→tM = Ai.length→tO = gN.length→tP = gO.length→tQ = lQ.length→(Out H0 Ri H (Rs.own ⟨zY,tL,Ac⟩ (ePair (eInt .i64) (eInt .i64)).z Aj :: Rs.own ⟨zZ,tM,Ad⟩ (ePair (eInt .i64) (eInt .i64)).z Ak :: Rs.blk cE [.sl ⟨zY,tL,Ac⟩,.sl ⟨zZ,tM,Ad⟩] :: Rs.own ⟨z_,tO,Ae⟩ (ePair (eInt .i64) (eInt .i64)).z Al :: Rs.own ⟨Aa,tP,Af⟩ (ePair (eInt .i64) (eInt .i64)).z Am :: Rs.blk cT [.sl ⟨z_,tO,Ae⟩,.sl ⟨Aa,tP,Af⟩] :: Rs.blk dQ [.int .i64 Ge,.int .i64 Gf,.int .i64 Gg,.int .i64 Gh,.int .i64 nc] :: R0) fun R=>CR (ePair (eInt .i64) (eInt .i64)) H R Aj Ah∧CR (ePair (eInt .i64) (eInt .i64)) H R Ak Ai∧CR (ePair (eInt .i64) (eInt .i64)) H R Al gN∧CR (ePair (eInt .i64) (eInt .i64)) H R Am gO∧ROs (ePair (eInt .i64) (ePair (eInt .i64) (ePair (eInt .i64) (ePair (eInt .i64) (eInt .i64))))) H R ⟨Ab,tQ,Ag⟩ lQ)→∀ {r:(List (Int×Int))×(List (Int×Int))×Bool},pC gN gO lQ ew e_ nc dh di dj dk dl cH = some r→∃ v H',C cE 0 cT 0 ⟨Ab,tQ,Ag⟩ ew e_ dQ 0 dh di dj dk dl cH H = some (v,H')∧aF.Q H0 Ri R0  r v H'
def aF.pl3931 (F:Nat) (aU:List (Int×Int)→List (Int×Int)→List (Int×Int×Int×Int×Int)→Int→Int→Option ((List (Int×Int))×(List (Int×Int))×Bool)):Nat→List (Int×Int)→List (Int×Int)→List (Int×Int×Int×Int×Int)→Int→Int→Int→Int→Int→Int→Int→Int→Int→Option ((List (Int×Int))×(List (Int×Int))×Bool)
 | 0,_,_,_,_,_,_,_,_,_,_,_,_=>none
 | k + 1,gN,gO,lQ,ew,e_,nc,dh,di,dj,dk,dl,cH=>(bif (decide (cH < 4)) then ((if 0 ≤ cH∧cH < (4:Int) then ((bt.p F nc cH).bind fun r2=>(bif r2 then ((bL.p F gO (gt ([di,dj,dk,dl]:List Int) (cH:Int).toNat)).bind fun r6=>(bif (!r6) then (some (gN,gO,false)) else ((ix gO (gt ([di,dj,dk,dl]:List Int) (cH:Int).toNat)).bind fun n12=>(bif (decide (((gt gO n12).1) ≥ 0)) then (some (gN,gO,false)) else ((ix gO (gt ([di,dj,dk,dl]:List Int) (cH:Int).toNat)).bind fun n16=>(some (gO.set n16 (dh,(gt gO n16).2))).bind fun l17=>(some (l17.set n16 ((gt l17 n16).1,cH))).bind fun l19=>aF.pl3931 F aU k gN l19 lQ ew e_ nc dh di dj dk dl (IntKind.i64.wrap (cH + 1))))))) else ((bL.p F gN (gt ([di,dj,dk,dl]:List Int) (cH:Int).toNat)).bind fun r24=>(bif (!r24) then (some (gN,gO,false)) else ((ix gN (gt ([di,dj,dk,dl]:List Int) (cH:Int).toNat)).bind fun n30=>(bif (decide (((gt gN n30).1) ≥ 0)) then (some (gN,gO,false)) else ((ix gN (gt ([di,dj,dk,dl]:List Int) (cH:Int).toNat)).bind fun n34=>(some (gN.set n34 (dh,(gt gN n34).2))).bind fun l35=>(some (l35.set n34 ((gt l35 n34).1,cH))).bind fun l37=>aF.pl3931 F aU k l37 gO lQ ew e_ nc dh di dj dk dl (IntKind.i64.wrap (cH + 1))))))))) else none)) else (aU gN gO lQ ew (IntKind.i64.wrap (e_ + 1))))
termination_by structural n=>n
theorem aF.l3931_P {F:Nat} {H0:Hp} {Ri R0:List Rs}  {C61_:Nat→Nat→Nat→Nat→Sl→Int→Int→Hp→OA} {aU:List (Int×Int)→List (Int×Int)→List (Int×Int×Int×Int×Int)→Int→Int→Option ((List (Int×Int))×(List (Int×Int))×Bool)} (hC61:aF.S61 H0 Ri R0  C61_ aU):∀ k,aF.S3931 H0 Ri R0  (aF.l3931 F (aP.tw F) (bs.tw F) (bt.tw F) (bL.tw F) C61_ k) (aF.pl3931 F aU k):=by
 intro k
 induction k with
 | zero=>
  intro zY zZ z_ Aa Ab tL tM cE tO tP cT tQ dQ Ac Ad Ae Af Ag Ah Ai gN gO Aj Ak Al Am lQ ew e_ Ge Gf Gg Gh nc dh di dj dk dl cH H Pv Pw Px Py Pz h0 r hp
  exact nomatch (show (none:Option ((List (Int×Int))×(List (Int×Int))×Bool)) = some r from hp)
 | succ k ih=>
  intro zY zZ z_ Aa Ab tL tM cE tO tP cT tQ dQ Ac Ad Ae Af Ag Ah Ai gN gO Aj Ak Al Am lQ ew e_ Ge Gf Gg Gh nc dh di dj dk dl cH H Pv Pw Px Py Pz h0 r hp
  obtain ⟨w0,s0,Gi,Gj,lg,li,Gk⟩:=h0
  subst Pv
  subst Pw
  subst Px
  subst Py
  subst Pz
  unfold aF.pl3931 at hp
  unfold aF.l3931
  refine bif_ex (fun hb=>?_) (fun hb=>?_)
  ·replace hp:=bif_t hb hp
   obtain ⟨g1,hp⟩:=ifs_p hp
   refine ifs_ex g1 ?_
   refine bind_ex (a:=AV.int .i64 (gt ([di,dj,dk,dl]:List Int) (cH:Int).toNat)) (by rw [Nat.mul_one]; exact arr_get (k:=.i64) (l:=[di,dj,dk,dl]) rfl (by have:=g1; simp only [List.length_cons,List.length_nil]; omega)) ?_
   refine bind_ex rfl ?_
   refine bind_ex (ldSl_of (w0.ld (i:=5) rfl rfl)) ?_
   refine bind_ex (ldI_of (w0.ld (i:=6) rfl rfl)) ?_
   refine bind_ex (ldI_of (w0.ld (i:=6) rfl rfl)) ?_
   refine bind_ex (ldI_of (w0.ld (i:=6) rfl rfl)) ?_
   refine bind_ex (ldI_of (w0.ld (i:=6) rfl rfl)) ?_
   refine bind_ex (ldI_of (w0.ld (i:=6) rfl rfl)) ?_
   obtain ⟨r2,e2,hp⟩:=bind_some' hp
   refine call_ex (bt.P ⟨w0,trivial⟩ e2) ?_
   rintro _ H3 ⟨rfl,w3,s3,_⟩
   refine bind_ex rfl ?_
   refine bif_ex (fun hb=>?_) (fun hb=>?_)
   ·replace hp:=bif_t hb hp
    refine bind_ex (ldSl_of (w3.ld (i:=5) rfl rfl)) ?_
    obtain ⟨w4,s4⟩:=w3.pick' [4,0,1,2,3,5,6] 7 rfl rfl rfl
    dsimp only [pk,pks,nth,List.drop] at w4 s4
    have f5:=W.borrow1 (ePair (eInt .i64) (eInt .i64)) w4 (li.step (s3.trans s4))
    obtain ⟨w5,s5⟩:=w4.right1
    obtain ⟨r6,e6,hp⟩:=bind_some' hp
    refine call_ex (bL.P rfl ⟨w5,f5⟩ e6) ?_
    rintro _ H7 ⟨rfl,w7,s7,_⟩
    obtain ⟨w8,s8⟩:=W.frame1 w4 w7 s7
    refine bind_ex rfl ?_
    refine bif_ex (fun hb=>?_) (fun hb=>?_)
    ·replace hp:=bif_t hb hp
     refine bind_ex (ldSl_of (w8.ld (i:=5) rfl rfl)) ?_
     refine bind_ex (ldSl_of (w8.ld (i:=5) rfl rfl)) ?_
     refine st_k w8 (i:=3) rfl rfl rfl fun H9 w9 s9=>?_
     dsimp only [List.set] at w9 s9
     refine st_k w9 (i:=3) rfl rfl rfl fun H10 w10 s10=>?_
     dsimp only [List.set] at w10 s10
     refine bind_ex (ldSl_of (w10.ld (i:=3) rfl rfl)) ?_
     refine bind_ex (ldSl_of (w10.ld (i:=3) rfl rfl)) ?_
     obtain ⟨w11,s11⟩:=w10.pick' [4,0] 7 rfl rfl rfl
     dsimp only [pk,pks,nth,List.drop] at w11 s11
     obtain rfl:=Option.some.inj hp
     exact ⟨_,_,rfl,_,_,_,_,_,_,_,_,rfl,rfl,rfl,w11,(s0.trans (s3.trans (s4.trans (s8.trans (s9.trans (s10.trans s11)))))),(lg.step (s3.trans (s4.trans (s8.trans (s9.trans (s10.trans s11)))))),(li.step (s3.trans (s4.trans (s8.trans (s9.trans (s10.trans s11))))))⟩
    ·replace hp:=bif_f hb hp
     obtain ⟨n12,g12,hp⟩:=bind_some' hp
     obtain ⟨p12,q12,i12,h12,j12⟩:=W.ixo (E:=(ePair (eInt .i64) (eInt .i64))) w8 (i:=0) rfl rfl (li.step (s3.trans (s4.trans s8))) g12
     refine bind_ex i12 ?_
     obtain ⟨_,_,rfl,rfl,rfl⟩:=h12
     refine bind_ex (ldI_of (j12 0 _ rfl)) ?_
     refine bif_ex (fun hb=>?_) (fun hb=>?_)
     ·replace hp:=bif_t hb hp
      refine bind_ex (ldSl_of (w8.ld (i:=5) rfl rfl)) ?_
      refine bind_ex (ldSl_of (w8.ld (i:=5) rfl rfl)) ?_
      refine st_k w8 (i:=3) rfl rfl rfl fun H13 w13 s13=>?_
      dsimp only [List.set] at w13 s13
      refine st_k w13 (i:=3) rfl rfl rfl fun H14 w14 s14=>?_
      dsimp only [List.set] at w14 s14
      refine bind_ex (ldSl_of (w14.ld (i:=3) rfl rfl)) ?_
      refine bind_ex (ldSl_of (w14.ld (i:=3) rfl rfl)) ?_
      obtain ⟨w15,s15⟩:=w14.pick' [4,0] 7 rfl rfl rfl
      dsimp only [pk,pks,nth,List.drop] at w15 s15
      obtain rfl:=Option.some.inj hp
      exact ⟨_,_,rfl,_,_,_,_,_,_,_,_,rfl,rfl,rfl,w15,(s0.trans (s3.trans (s4.trans (s8.trans (s13.trans (s14.trans s15)))))),(lg.step (s3.trans (s4.trans (s8.trans (s13.trans (s14.trans s15)))))),(li.step (s3.trans (s4.trans (s8.trans (s13.trans (s14.trans s15))))))⟩
     ·replace hp:=bif_f hb hp
      obtain ⟨n16,g16,hp⟩:=bind_some' hp
      obtain ⟨p16,q16,i16,h16,j16⟩:=W.ixo (E:=(ePair (eInt .i64) (eInt .i64))) w8 (i:=0) rfl rfl (li.step (s3.trans (s4.trans s8))) g16
      refine bind_ex i16 ?_
      obtain ⟨l17,e17,hp⟩:=bind_some' hp
      refine sto_k (ePair (eInt .i64) (eInt .i64)) w8 (i:=0) (j:=0) (p:=p16) rfl rfl (li.step (s3.trans (s4.trans s8))) g16 i16 e17 rfl rfl (fun _ h=>by obtain ⟨_,_,rfl,rfl,rfl⟩:=h; exact ⟨[_],_,rfl,rfl,rfl⟩) fun H18 k18 w18 s18 c18=>?_
      dsimp only [List.set] at w18 s18 c18
      obtain ⟨l19,e19,hp⟩:=bind_some' hp
      refine sto_k (ePair (eInt .i64) (eInt .i64)) w18 (i:=0) (j:=1) (p:=p16) rfl rfl c18 (ix_len g16 (st_len e17)) i16 e19 rfl rfl (fun _ h=>by obtain ⟨_,_,rfl,rfl,rfl⟩:=h; exact ⟨[_],_,rfl,rfl,rfl⟩) fun H20 k20 w20 s20 c20=>?_
      dsimp only [List.set] at w20 s20 c20
      obtain ⟨w21,s21⟩:=w20.pick' [1,2,3,4,0,5,6] 7 rfl rfl rfl
      dsimp only [pk,pks,nth,List.drop] at w21 s21
      exact ih rfl rfl rfl ((st_len e17).symm.trans (st_len e19).symm) rfl ⟨w21,(s0.trans (s3.trans (s4.trans (s8.trans (s18.trans (s20.trans s21)))))),(Gi.step (s3.trans (s4.trans (s8.trans (s18.trans (s20.trans s21)))))),(Gj.step (s3.trans (s4.trans (s8.trans (s18.trans (s20.trans s21)))))),(lg.step (s3.trans (s4.trans (s8.trans (s18.trans (s20.trans s21)))))),(c20.step s21),(Gk.step (s3.trans (s4.trans (s8.trans (s18.trans (s20.trans s21))))))⟩ hp
   ·replace hp:=bif_f hb hp
    obtain ⟨w22,s22⟩:=w3.pick' [3,0,1,2,4,5,6] 7 rfl rfl rfl
    dsimp only [pk,pks,nth,List.drop] at w22 s22
    have f23:=W.borrow1 (ePair (eInt .i64) (eInt .i64)) w22 (lg.step (s3.trans s22))
    obtain ⟨w23,s23⟩:=w22.right1
    obtain ⟨r24,e24,hp⟩:=bind_some' hp
    refine call_ex (bL.P rfl ⟨w23,f23⟩ e24) ?_
    rintro _ H25 ⟨rfl,w25,s25,_⟩
    obtain ⟨w26,s26⟩:=W.frame1 w22 w25 s25
    refine bind_ex rfl ?_
    refine bif_ex (fun hb=>?_) (fun hb=>?_)
    ·replace hp:=bif_t hb hp
     refine bind_ex (ldSl_of (w26.ld (i:=5) rfl rfl)) ?_
     refine bind_ex (ldSl_of (w26.ld (i:=5) rfl rfl)) ?_
     refine st_k w26 (i:=3) rfl rfl rfl fun H27 w27 s27=>?_
     dsimp only [List.set] at w27 s27
     refine st_k w27 (i:=3) rfl rfl rfl fun H28 w28 s28=>?_
     dsimp only [List.set] at w28 s28
     refine bind_ex (ldSl_of (w28.ld (i:=3) rfl rfl)) ?_
     refine bind_ex (ldSl_of (w28.ld (i:=3) rfl rfl)) ?_
     obtain ⟨w29,s29⟩:=w28.pick' [0,4] 7 rfl rfl rfl
     dsimp only [pk,pks,nth,List.drop] at w29 s29
     obtain rfl:=Option.some.inj hp
     exact ⟨_,_,rfl,_,_,_,_,_,_,_,_,rfl,rfl,rfl,w29,(s0.trans (s3.trans (s22.trans (s26.trans (s27.trans (s28.trans s29)))))),(lg.step (s3.trans (s22.trans (s26.trans (s27.trans (s28.trans s29)))))),(li.step (s3.trans (s22.trans (s26.trans (s27.trans (s28.trans s29))))))⟩
    ·replace hp:=bif_f hb hp
     obtain ⟨n30,g30,hp⟩:=bind_some' hp
     obtain ⟨p30,q30,i30,h30,j30⟩:=W.ixo (E:=(ePair (eInt .i64) (eInt .i64))) w26 (i:=0) rfl rfl (lg.step (s3.trans (s22.trans s26))) g30
     refine bind_ex i30 ?_
     obtain ⟨_,_,rfl,rfl,rfl⟩:=h30
     refine bind_ex (ldI_of (j30 0 _ rfl)) ?_
     refine bif_ex (fun hb=>?_) (fun hb=>?_)
     ·replace hp:=bif_t hb hp
      refine bind_ex (ldSl_of (w26.ld (i:=5) rfl rfl)) ?_
      refine bind_ex (ldSl_of (w26.ld (i:=5) rfl rfl)) ?_
      refine st_k w26 (i:=3) rfl rfl rfl fun H31 w31 s31=>?_
      dsimp only [List.set] at w31 s31
      refine st_k w31 (i:=3) rfl rfl rfl fun H32 w32 s32=>?_
      dsimp only [List.set] at w32 s32
      refine bind_ex (ldSl_of (w32.ld (i:=3) rfl rfl)) ?_
      refine bind_ex (ldSl_of (w32.ld (i:=3) rfl rfl)) ?_
      obtain ⟨w33,s33⟩:=w32.pick' [0,4] 7 rfl rfl rfl
      dsimp only [pk,pks,nth,List.drop] at w33 s33
      obtain rfl:=Option.some.inj hp
      exact ⟨_,_,rfl,_,_,_,_,_,_,_,_,rfl,rfl,rfl,w33,(s0.trans (s3.trans (s22.trans (s26.trans (s31.trans (s32.trans s33)))))),(lg.step (s3.trans (s22.trans (s26.trans (s31.trans (s32.trans s33)))))),(li.step (s3.trans (s22.trans (s26.trans (s31.trans (s32.trans s33))))))⟩
     ·replace hp:=bif_f hb hp
      obtain ⟨n34,g34,hp⟩:=bind_some' hp
      obtain ⟨p34,q34,i34,h34,j34⟩:=W.ixo (E:=(ePair (eInt .i64) (eInt .i64))) w26 (i:=0) rfl rfl (lg.step (s3.trans (s22.trans s26))) g34
      refine bind_ex i34 ?_
      obtain ⟨l35,e35,hp⟩:=bind_some' hp
      refine sto_k (ePair (eInt .i64) (eInt .i64)) w26 (i:=0) (j:=0) (p:=p34) rfl rfl (lg.step (s3.trans (s22.trans s26))) g34 i34 e35 rfl rfl (fun _ h=>by obtain ⟨_,_,rfl,rfl,rfl⟩:=h; exact ⟨[_],_,rfl,rfl,rfl⟩) fun H36 k36 w36 s36 c36=>?_
      dsimp only [List.set] at w36 s36 c36
      obtain ⟨l37,e37,hp⟩:=bind_some' hp
      refine sto_k (ePair (eInt .i64) (eInt .i64)) w36 (i:=0) (j:=1) (p:=p34) rfl rfl c36 (ix_len g34 (st_len e35)) i34 e37 rfl rfl (fun _ h=>by obtain ⟨_,_,rfl,rfl,rfl⟩:=h; exact ⟨[_],_,rfl,rfl,rfl⟩) fun H38 k38 w38 s38 c38=>?_
      dsimp only [List.set] at w38 s38 c38
      obtain ⟨w39,s39⟩:=w38.pick' [1,2,3,0,4,5,6] 7 rfl rfl rfl
      dsimp only [pk,pks,nth,List.drop] at w39 s39
      exact ih rfl rfl ((st_len e35).symm.trans (st_len e37).symm) rfl rfl ⟨w39,(s0.trans (s3.trans (s22.trans (s26.trans (s36.trans (s38.trans s39)))))),(Gi.step (s3.trans (s22.trans (s26.trans (s36.trans (s38.trans s39)))))),(Gj.step (s3.trans (s22.trans (s26.trans (s36.trans (s38.trans s39)))))),(c38.step s39),(li.step (s3.trans (s22.trans (s26.trans (s36.trans (s38.trans s39)))))),(Gk.step (s3.trans (s22.trans (s26.trans (s36.trans (s38.trans s39))))))⟩ hp
  ·replace hp:=bif_f hb hp
   obtain ⟨w40,s40⟩:=w0.pick' [0,1,2,3,4,5] 7 rfl rfl rfl
   dsimp only [pk,pks,nth,List.drop] at w40 s40
   exact hC61 rfl rfl rfl rfl rfl ⟨w40,(s0.trans s40),(Gi.step s40),(Gj.step s40),(lg.step s40),(li.step s40),(Gk.step s40)⟩ hp
def aF.pl61 (F:Nat) :Nat→List (Int×Int)→List (Int×Int)→List (Int×Int×Int×Int×Int)→Int→Int→Option ((List (Int×Int))×(List (Int×Int))×Bool)
 | 0,_,_,_,_,_=>none
 | k + 1,na,nb,jt,ga,fb=>(bif (decide (fb < ga)) then ((ix jt fb).bind fun n1=>(bs.p F ((gt jt n1).1) ((gt jt n1).2.1) ((gt jt n1).2.2.1) ((gt jt n1).2.2.2.1)).bind fun r8=>aF.pl3931 F (aF.pl61 F k) F na nb jt ga fb ((gt jt n1).2.2.2.2) fb r8.1 r8.2.1 r8.2.2.1 r8.2.2.2 0) else (some (na,nb,true)))
termination_by structural n=>n
theorem aF.l61_P {F:Nat} {H0:Hp} {Ri R0:List Rs}  :∀ k,aF.S61 H0 Ri R0  (aF.l61 F (aP.tw F) (bs.tw F) (bt.tw F) (bL.tw F)  k) (aF.pl61 F  k):=by
 intro k
 induction k with
 | zero=>
  intro zI zJ zK zL zM tG tH fa tI tJ cv tK zN zO zP zQ zR zS zT na nb zU zV zW zX jt ga fb H PA PB PC PD PE h0 r hp
  exact nomatch (show (none:Option ((List (Int×Int))×(List (Int×Int))×Bool)) = some r from hp)
 | succ k ih=>
  intro zI zJ zK zL zM tG tH fa tI tJ cv tK zN zO zP zQ zR zS zT na nb zU zV zW zX jt ga fb H PA PB PC PD PE h0 r hp
  obtain ⟨w0,s0,abV,abW,PF,PG,PH⟩:=h0
  subst PA
  subst PB
  subst PC
  subst PD
  subst PE
  unfold aF.pl61 at hp
  unfold aF.l61
  refine bif_ex (fun hb=>?_) (fun hb=>?_)
  ·replace hp:=bif_t hb hp
   obtain ⟨n1,g1,hp⟩:=bind_some' hp
   obtain ⟨p1,q1,i1,h1,j1⟩:=ROs.ixr PH rfl g1
   refine bind_ex i1 ?_
   obtain ⟨_,_,rfl,rfl,_,_,rfl,rfl,_,_,rfl,rfl,_,_,rfl,rfl,rfl⟩:=h1
   refine bind_ex (ldI_of (j1 0 _ rfl)) ?_
   refine bind_ex (ldI_of (j1 1 _ rfl)) ?_
   refine bind_ex (ldI_of (j1 2 _ rfl)) ?_
   refine bind_ex (ldI_of (j1 3 _ rfl)) ?_
   refine bind_ex (ldI_of (j1 4 _ rfl)) ?_
   refine new_k w0 fun H2 w2 s2=>?_
   refine st_k w2 (i:=0) rfl rfl rfl fun H3 w3 s3=>?_
   dsimp only [List.set] at w3 s3
   refine st_k w3 (i:=0) rfl rfl rfl fun H4 w4 s4=>?_
   dsimp only [List.set] at w4 s4
   refine st_k w4 (i:=0) rfl rfl rfl fun H5 w5 s5=>?_
   dsimp only [List.set] at w5 s5
   refine st_k w5 (i:=0) rfl rfl rfl fun H6 w6 s6=>?_
   dsimp only [List.set] at w6 s6
   refine st_k w6 (i:=0) rfl rfl rfl fun H7 w7 s7=>?_
   dsimp only [List.set] at w7 s7
   refine bind_ex (ldI_of (w7.ld (i:=0) rfl rfl)) ?_
   refine bind_ex (ldI_of (w7.ld (i:=0) rfl rfl)) ?_
   refine bind_ex (ldI_of (w7.ld (i:=0) rfl rfl)) ?_
   refine bind_ex (ldI_of (w7.ld (i:=0) rfl rfl)) ?_
   refine bind_ex (ldI_of (w7.ld (i:=0) rfl rfl)) ?_
   obtain ⟨r8,e8,hp⟩:=bind_some' hp
   refine call_ex (bs.P ⟨w7,trivial⟩ e8) ?_
   rintro _ H9 ⟨rfl,w9,s9,_⟩
   refine bind_ex rfl ?_
   refine bind_ex rfl ?_
   refine bind_ex rfl ?_
   refine bind_ex rfl ?_
   refine bind_ex rfl ?_
   refine bind_ex rfl ?_
   refine bind_ex rfl ?_
   refine bind_ex rfl ?_
   refine bind_ex rfl ?_
   obtain ⟨w10,s10⟩:=w9.pick' [1,2,3,4,5,6,0] 7 rfl rfl rfl
   dsimp only [pk,pks,nth,List.drop] at w10 s10
   exact aF.l3931_P (@ih) F rfl rfl rfl rfl rfl ⟨w10,(s0.trans (s2.trans (s3.trans (s4.trans (s5.trans (s6.trans (s7.trans (s9.trans s10)))))))),(abV.step (s2.trans (s3.trans (s4.trans (s5.trans (s6.trans (s7.trans (s9.trans s10)))))))),(abW.step (s2.trans (s3.trans (s4.trans (s5.trans (s6.trans (s7.trans (s9.trans s10)))))))),(PF.step (s2.trans (s3.trans (s4.trans (s5.trans (s6.trans (s7.trans (s9.trans s10)))))))),(PG.step (s2.trans (s3.trans (s4.trans (s5.trans (s6.trans (s7.trans (s9.trans s10)))))))),(PH.step (s2.trans (s3.trans (s4.trans (s5.trans (s6.trans (s7.trans (s9.trans s10))))))))⟩ hp
  ·replace hp:=bif_f hb hp
   refine bind_ex (ldSl_of (w0.ld (i:=5) rfl rfl)) ?_
   refine bind_ex (ldSl_of (w0.ld (i:=5) rfl rfl)) ?_
   refine st_k w0 (i:=2) rfl rfl rfl fun H11 w11 s11=>?_
   dsimp only [List.set] at w11 s11
   refine st_k w11 (i:=2) rfl rfl rfl fun H12 w12 s12=>?_
   dsimp only [List.set] at w12 s12
   refine bind_ex (ldSl_of (w12.ld (i:=2) rfl rfl)) ?_
   refine bind_ex (ldSl_of (w12.ld (i:=2) rfl rfl)) ?_
   obtain ⟨w13,s13⟩:=w12.pick' [3,4] 6 rfl rfl rfl
   dsimp only [pk,pks,nth,List.drop] at w13 s13
   obtain rfl:=Option.some.inj hp
   exact ⟨_,_,rfl,_,_,_,_,_,_,_,_,rfl,rfl,rfl,w13,(s0.trans (s11.trans (s12.trans s13))),(PF.step (s11.trans (s12.trans s13))),(PG.step (s11.trans (s12.trans s13)))⟩
def aF.p (F:Nat) (ae:List (Int×Int×Int×Int×Int)):Option ((List (Int×Int))×(List (Int×Int))×Bool):=(aP.p F ([((-1),0)]:List (Int×Int)) (IntKind.i64.wrap (2 * (ae.length:Int)))).bind fun r5=>(aP.p F ([((-1),0)]:List (Int×Int)) (IntKind.i64.wrap (2 * (ae.length:Int)))).bind fun r10=>aF.pl61 F F r5 r10 ae (ae.length:Int) 0
theorem aF.P {F:Nat} {az:ON} {ap:Nat} {aA:Cap} {ae:List (Int×Int×Int×Int×Int)} {ab:Int} {H:Hp} {R0:List Rs} (aW:ap = ae.length) (h0:Inn H R0 fun R=>ROs (ePair (eInt .i64) (ePair (eInt .i64) (ePair (eInt .i64) (ePair (eInt .i64) (eInt .i64))))) H R ⟨az,ap,aA⟩ ae) {r:(List (Int×Int))×(List (Int×Int))×Bool} (hp:aF.p F ae = some r):∃ v H',aF.tw F ⟨az,ap,aA⟩ ab H = some (v,H')∧aF.Q H R0 R0  r v H':=by
 obtain ⟨w0,aK⟩:=h0
 subst aW
 unfold aF.p at hp
 unfold aF.tw aF.twX
 have s0:=w0.rf
 refine new_k w0 fun H1 w1 s1=>?_
 refine new_k w1 fun H2 w2 s2=>?_
 refine bind_ex (ldSl_of (w2.ld (i:=1) rfl rfl)) ?_
 refine newS_k (ePair (eInt .i64) (eInt .i64)) w2 (n:=1) (l:=([((-1),0)]:List (Int×Int))) rfl (CR.cons (c:=[_,_]) ⟨[_],_,rfl,rfl,rfl⟩ CR.empty) rfl fun H3 w3 s3 c3=>?_
 have f4:=W.borrow1 (ePair (eInt .i64) (eInt .i64)) w3 c3
 obtain ⟨w4,s4⟩:=w3.right1
 obtain ⟨r5,e5,hp⟩:=bind_some' hp
 refine call_ex (aP.P (show 1 = List.length ([((-1),0)]:List (Int×Int)) from rfl) ⟨w4,f4⟩ e5) ?_
 rintro _ H6 ⟨o0a_6,o0n_6,o0k_6,rfl,rfl,w6,s6,f6_0⟩
 obtain ⟨w7,s7⟩:=W.frame1 w3 w6 s6
 refine bind_ex rfl ?_
 refine newS_k (ePair (eInt .i64) (eInt .i64)) w7 (n:=1) (l:=([((-1),0)]:List (Int×Int))) rfl (CR.cons (c:=[_,_]) ⟨[_],_,rfl,rfl,rfl⟩ CR.empty) rfl fun H8 w8 s8 c8=>?_
 have f9:=W.borrow1 (ePair (eInt .i64) (eInt .i64)) w8 c8
 obtain ⟨w9,s9⟩:=w8.right1
 obtain ⟨r10,e10,hp⟩:=bind_some' hp
 refine call_ex (aP.P (show 1 = List.length ([((-1),0)]:List (Int×Int)) from rfl) ⟨w9,f9⟩ e10) ?_
 rintro _ H11 ⟨o0a_11,o0n_11,o0k_11,rfl,rfl,w11,s11,f11_0⟩
 obtain ⟨w12,s12⟩:=W.frame1 w8 w11 s11
 refine bind_ex rfl ?_
 refine new_k w12 fun H13 w13 s13=>?_
 refine st_k w13 (i:=0) rfl rfl rfl fun H14 w14 s14=>?_
 dsimp only [List.set] at w14 s14
 refine st_k w14 (i:=0) rfl rfl rfl fun H15 w15 s15=>?_
 dsimp only [List.set] at w15 s15
 refine bind_ex (ldSl_of (w15.ld (i:=6) rfl rfl)) ?_
 obtain ⟨w16,s16⟩:=w15.nilS (ePair (eInt .i64) (eInt .i64)).z (by decide)
 obtain ⟨w17,s17⟩:=w16.nilS (ePair (eInt .i64) (eInt .i64)).z (by decide)
 obtain ⟨w18,s18⟩:=w17.pick' [1,0,7,6,4,2] 9 rfl rfl rfl
 dsimp only [pk,pks,nth,List.drop] at w18 s18
 exact aF.l61_P F rfl rfl rfl rfl rfl ⟨w18,(s0.trans (s1.trans (s2.trans (s3.trans (s7.trans (s8.trans (s12.trans (s13.trans (s14.trans (s15.trans (s16.trans (s17.trans s18)))))))))))),((CR.empty:CR (ePair (eInt .i64) (eInt .i64)) _ _ [] []).step (s17.trans s18)),((CR.empty:CR (ePair (eInt .i64) (eInt .i64)) _ _ [] []).step s18),((CR.flat (ePair_flat (eInt_flat .i64) (eInt_flat .i64)) f6_0).step (s8.trans (s12.trans (s13.trans (s14.trans (s15.trans (s16.trans (s17.trans s18)))))))),((CR.flat (ePair_flat (eInt_flat .i64) (eInt_flat .i64)) f11_0).step (s13.trans (s14.trans (s15.trans (s16.trans (s17.trans s18)))))),(aK.step (s1.trans (s2.trans (s3.trans (s7.trans (s8.trans (s12.trans (s13.trans (s14.trans (s15.trans (s16.trans (s17.trans s18))))))))))))⟩ hp
def bG.Q (H0:Hp) (Ri R0:List Rs)  (r:Int×Int) (v:AV) (H':Hp):Prop:=v = (.agg [(.int .i64 r.1),(.int .i64 r.2)])∧Out H0 Ri H' (R0) fun R=>True
def bG.p (F:Nat) (ae:List (Int×Int×Int×Int×Int)) (cl:List (Int×Int)) (cr:List (Int×Int)) (bH:Int) (fd:Int):Option (Int×Int):=(ix ae bH).bind fun n5=>(bs.p F ((gt ae n5).1) ((gt ae n5).2.1) ((gt ae n5).2.2.1) ((gt ae n5).2.2.2.1)).bind fun r12=>(if 0 ≤ fd∧fd < (4:Int) then ((bt.p F ((gt ae n5).2.2.2.2) fd).bind fun r16=>(bif r16 then ((ix cl (gt ([r12.1,r12.2.1,r12.2.2.1,r12.2.2.2]:List Int) (fd:Int).toNat)).bind fun n18=>some (((gt cl n18).1),((gt cl n18).2))) else ((ix cr (gt ([r12.1,r12.2.1,r12.2.2.1,r12.2.2.2]:List Int) (fd:Int).toNat)).bind fun n22=>some (((gt cr n22).1),((gt cr n22).2))))) else none)
theorem bG.P {F:Nat} {az dL eH:ON} {ap cN cX:Nat} {aA dM eI:Cap} {ae:List (Int×Int×Int×Int×Int)} {ab bH fd:Int} {cl cr:List (Int×Int)} {H:Hp} {R0:List Rs} (aW:ap = ae.length) (hO:cN = cl.length) (iz:cX = cr.length) (h0:Inn H R0 fun R=>ROs (ePair (eInt .i64) (ePair (eInt .i64) (ePair (eInt .i64) (ePair (eInt .i64) (eInt .i64))))) H R ⟨az,ap,aA⟩ ae∧ROs (ePair (eInt .i64) (eInt .i64)) H R ⟨dL,cN,dM⟩ cl∧ROs (ePair (eInt .i64) (eInt .i64)) H R ⟨eH,cX,eI⟩ cr) {r:Int×Int} (hp:bG.p F ae cl cr bH fd = some r):∃ v H',bG.tw F ⟨az,ap,aA⟩ ab ⟨dL,cN,dM⟩ ⟨eH,cX,eI⟩ bH fd H = some (v,H')∧bG.Q H R0 R0  r v H':=by
 obtain ⟨w0,aK,fw,fY⟩:=h0
 subst aW
 subst hO
 subst iz
 unfold bG.p at hp
 unfold bG.tw bG.twX
 have s0:=w0.rf
 refine new_k w0 fun H1 w1 s1=>?_
 refine new_k w1 fun H2 w2 s2=>?_
 refine new_k w2 fun H3 w3 s3=>?_
 refine new_k w3 fun H4 w4 s4=>?_
 refine bind_ex (ldSl_of (w4.ld (i:=3) rfl rfl)) ?_
 refine bind_ex (ldI_of (w4.ld (i:=1) rfl rfl)) ?_
 obtain ⟨n5,g5,hp⟩:=bind_some' hp
 obtain ⟨p5,q5,i5,h5,j5⟩:=ROs.ixr (aK.step (s1.trans (s2.trans (s3.trans s4)))) rfl g5
 refine bind_ex i5 ?_
 obtain ⟨_,_,rfl,rfl,_,_,rfl,rfl,_,_,rfl,rfl,_,_,rfl,rfl,rfl⟩:=h5
 refine bind_ex (ldI_of (j5 0 _ rfl)) ?_
 refine bind_ex (ldI_of (j5 1 _ rfl)) ?_
 refine bind_ex (ldI_of (j5 2 _ rfl)) ?_
 refine bind_ex (ldI_of (j5 3 _ rfl)) ?_
 refine bind_ex (ldI_of (j5 4 _ rfl)) ?_
 refine new_k w4 fun H6 w6 s6=>?_
 refine st_k w6 (i:=0) rfl rfl rfl fun H7 w7 s7=>?_
 dsimp only [List.set] at w7 s7
 refine st_k w7 (i:=0) rfl rfl rfl fun H8 w8 s8=>?_
 dsimp only [List.set] at w8 s8
 refine st_k w8 (i:=0) rfl rfl rfl fun H9 w9 s9=>?_
 dsimp only [List.set] at w9 s9
 refine st_k w9 (i:=0) rfl rfl rfl fun H10 w10 s10=>?_
 dsimp only [List.set] at w10 s10
 refine st_k w10 (i:=0) rfl rfl rfl fun H11 w11 s11=>?_
 dsimp only [List.set] at w11 s11
 refine bind_ex (ldI_of (w11.ld (i:=0) rfl rfl)) ?_
 refine bind_ex (ldI_of (w11.ld (i:=0) rfl rfl)) ?_
 refine bind_ex (ldI_of (w11.ld (i:=0) rfl rfl)) ?_
 refine bind_ex (ldI_of (w11.ld (i:=0) rfl rfl)) ?_
 refine bind_ex (ldI_of (w11.ld (i:=0) rfl rfl)) ?_
 obtain ⟨r12,e12,hp⟩:=bind_some' hp
 refine call_ex (bs.P ⟨w11,trivial⟩ e12) ?_
 rintro _ H13 ⟨rfl,w13,s13,_⟩
 refine bind_ex rfl ?_
 refine bind_ex rfl ?_
 refine bind_ex rfl ?_
 refine bind_ex rfl ?_
 refine bind_ex rfl ?_
 refine bind_ex rfl ?_
 refine bind_ex rfl ?_
 refine bind_ex rfl ?_
 refine bind_ex rfl ?_
 refine ifs_ex (W.cons_of (Rn:=[]) w11 w13 s13) ?_
 refine bind_ex (ldI_of (w13.ld (i:=2) rfl rfl)) ?_
 obtain ⟨g15,hp⟩:=ifs_p hp
 refine ifs_ex g15 ?_
 refine bind_ex (a:=AV.int .i64 (gt ([r12.1,r12.2.1,r12.2.2.1,r12.2.2.2]:List Int) (fd:Int).toNat)) (by rw [Nat.mul_one]; exact arr_get (k:=.i64) (l:=[r12.1,r12.2.1,r12.2.2.1,r12.2.2.2]) rfl (by have:=g15; simp only [List.length_cons,List.length_nil]; omega)) ?_
 refine bind_ex rfl ?_
 refine bind_ex (ldI_of (w13.ld (i:=0) rfl rfl)) ?_
 refine bind_ex (ldI_of (w13.ld (i:=0) rfl rfl)) ?_
 refine bind_ex (ldI_of (w13.ld (i:=0) rfl rfl)) ?_
 refine bind_ex (ldI_of (w13.ld (i:=0) rfl rfl)) ?_
 refine bind_ex (ldI_of (w13.ld (i:=0) rfl rfl)) ?_
 refine bind_ex (ldI_of (w13.ld (i:=2) rfl rfl)) ?_
 obtain ⟨r16,e16,hp⟩:=bind_some' hp
 refine call_ex (bt.P ⟨w13,trivial⟩ e16) ?_
 rintro _ H17 ⟨rfl,w17,s17,_⟩
 refine bind_ex rfl ?_
 refine bif_ex (fun hb=>?_) (fun hb=>?_)
 ·replace hp:=bif_t hb hp
  refine bind_ex (ldSl_of (w17.ld (i:=3) rfl rfl)) ?_
  obtain ⟨n18,g18,hp⟩:=bind_some' hp
  obtain ⟨p18,q18,i18,h18,j18⟩:=ROs.ixr (fw.step (s1.trans (s2.trans (s3.trans (s4.trans (s6.trans (s7.trans (s8.trans (s9.trans (s10.trans (s11.trans (s13.trans s17)))))))))))) rfl g18
  refine bind_ex i18 ?_
  obtain ⟨_,_,rfl,rfl,rfl⟩:=h18
  refine bind_ex (ldI_of (j18 0 _ rfl)) ?_
  refine bind_ex (ldI_of (j18 1 _ rfl)) ?_
  refine st_k w17 (i:=1) rfl rfl rfl fun H19 w19 s19=>?_
  dsimp only [List.set] at w19 s19
  refine st_k w19 (i:=1) rfl rfl rfl fun H20 w20 s20=>?_
  dsimp only [List.set] at w20 s20
  refine bind_ex (ldI_of (w20.ld (i:=1) rfl rfl)) ?_
  refine bind_ex (ldI_of (w20.ld (i:=1) rfl rfl)) ?_
  obtain ⟨w21,s21⟩:=w20.pick' [] 5 rfl rfl rfl
  dsimp only [pk,pks,nth,List.drop] at w21 s21
  obtain rfl:=Option.some.inj hp
  exact ⟨_,_,rfl,rfl,w21,(s0.trans (s1.trans (s2.trans (s3.trans (s4.trans (s6.trans (s7.trans (s8.trans (s9.trans (s10.trans (s11.trans (s13.trans (s17.trans (s19.trans (s20.trans s21))))))))))))))),trivial⟩
 ·replace hp:=bif_f hb hp
  refine bind_ex (ldSl_of (w17.ld (i:=3) rfl rfl)) ?_
  obtain ⟨n22,g22,hp⟩:=bind_some' hp
  obtain ⟨p22,q22,i22,h22,j22⟩:=ROs.ixr (fY.step (s1.trans (s2.trans (s3.trans (s4.trans (s6.trans (s7.trans (s8.trans (s9.trans (s10.trans (s11.trans (s13.trans s17)))))))))))) rfl g22
  refine bind_ex i22 ?_
  obtain ⟨_,_,rfl,rfl,rfl⟩:=h22
  refine bind_ex (ldI_of (j22 0 _ rfl)) ?_
  refine bind_ex (ldI_of (j22 1 _ rfl)) ?_
  refine st_k w17 (i:=1) rfl rfl rfl fun H23 w23 s23=>?_
  dsimp only [List.set] at w23 s23
  refine st_k w23 (i:=1) rfl rfl rfl fun H24 w24 s24=>?_
  dsimp only [List.set] at w24 s24
  refine bind_ex (ldI_of (w24.ld (i:=1) rfl rfl)) ?_
  refine bind_ex (ldI_of (w24.ld (i:=1) rfl rfl)) ?_
  obtain ⟨w25,s25⟩:=w24.pick' [] 5 rfl rfl rfl
  dsimp only [pk,pks,nth,List.drop] at w25 s25
  obtain rfl:=Option.some.inj hp
  exact ⟨_,_,rfl,rfl,w25,(s0.trans (s1.trans (s2.trans (s3.trans (s4.trans (s6.trans (s7.trans (s8.trans (s9.trans (s10.trans (s11.trans (s13.trans (s17.trans (s23.trans (s24.trans s25))))))))))))))),trivial⟩
def aq.Q (H0:Hp) (Ri R0:List Rs)  (r:List (List Int)) (v:AV) (H':Hp):Prop:=∃ o0a:ON,∃ o0n:Nat,∃ o0c:Cap,∃ o0k:List AV,v = (.sl ⟨o0a,o0n,o0c⟩)∧o0n = (r).length∧Out H0 Ri H' (Rs.own ⟨o0a,o0n,o0c⟩ (eSl (eInt .i64)).z o0k :: R0) fun R=>CR (eSl (eInt .i64)) H' R o0k (r)
def aq.S61 (H0:Hp) (Ri R0:List Rs)  (C:Nat→Nat→Nat→Nat→Sl→Sl→Int→Int→Hp→OA) (pC:List (Int×Int×Int×Int×Int)→List (Int×Int)→List (Int×Int)→List (List Int)→List Bool→Int→Int→Option (List (List Int))):Prop:=∀ {An Ao Ap Aq Ar:ON} {tR gd tS tT cU tU tV:Nat} {As At Au Av Aw:Cap} {nN:List (Int×Int×Int×Int×Int)} {Gl gf fR:Int} {nO nP:List (Int×Int)} {nd:List (List Int)} {Ax Ay:List AV} {nQ:List Bool},∀ {H:Hp},tR = nN.length→tS = nO.length→tT = nP.length→tU = nd.length→tV = nQ.length→(Out H0 Ri H (Rs.blk gd [.sl ⟨An,tR,As⟩,.int .i64 Gl] :: Rs.blk cU [.sl ⟨Ao,tS,At⟩,.sl ⟨Ap,tT,Au⟩] :: Rs.own ⟨Aq,tU,Av⟩ (eSl (eInt .i64)).z Ax :: Rs.own ⟨Ar,tV,Aw⟩ eBool.z Ay :: R0) fun R=>ROs (ePair (eInt .i64) (ePair (eInt .i64) (ePair (eInt .i64) (ePair (eInt .i64) (eInt .i64))))) H R ⟨An,tR,As⟩ nN∧ROs (ePair (eInt .i64) (eInt .i64)) H R ⟨Ao,tS,At⟩ nO∧ROs (ePair (eInt .i64) (eInt .i64)) H R ⟨Ap,tT,Au⟩ nP∧CR (eSl (eInt .i64)) H R Ax nd∧CR eBool H R Ay nQ)→∀ {r:List (List Int)},pC nN nO nP nd nQ gf fR = some r→∃ v H',C gd 0 cU 0 ⟨Aq,tU,Av⟩ ⟨Ar,tV,Aw⟩ gf fR H = some (v,H')∧aq.Q H0 Ri R0  r v H'
def aq.S15725 (H0:Hp) (Ri R0:List Rs)  (C:Nat→Nat→Nat→Nat→Sl→Sl→Int→Int→Sl→Int→Hp→OA) (pC:List (Int×Int×Int×Int×Int)→List (Int×Int)→List (Int×Int)→List (List Int)→List Bool→Int→Int→List Int→Int→Option (List (List Int))):Prop:=∀ {Az AA AB AC AD AF:ON} {tW dZ tX tY ey tZ t_ ua:Nat} {AG AH AI AJ AK AL:Cap} {lR:List (Int×Int×Int×Int×Int)} {Gm gc gH dm:Int} {lS lT:List (Int×Int)} {ng:List (List Int)} {AM AN AO:List AV} {kJ:List Bool} {nh:List Int},∀ {H:Hp},tW = lR.length→tX = lS.length→tY = lT.length→tZ = ng.length→t_ = kJ.length→ua = nh.length→(Out H0 Ri H (Rs.blk dZ [.sl ⟨Az,tW,AG⟩,.int .i64 Gm] :: Rs.blk ey [.sl ⟨AA,tX,AH⟩,.sl ⟨AB,tY,AI⟩] :: Rs.own ⟨AC,tZ,AJ⟩ (eSl (eInt .i64)).z AM :: Rs.own ⟨AD,t_,AK⟩ eBool.z AN :: Rs.own ⟨AF,ua,AL⟩ (eInt .i64).z AO :: R0) fun R=>ROs (ePair (eInt .i64) (ePair (eInt .i64) (ePair (eInt .i64) (ePair (eInt .i64) (eInt .i64))))) H R ⟨Az,tW,AG⟩ lR∧ROs (ePair (eInt .i64) (eInt .i64)) H R ⟨AA,tX,AH⟩ lS∧ROs (ePair (eInt .i64) (eInt .i64)) H R ⟨AB,tY,AI⟩ lT∧CR (eSl (eInt .i64)) H R AM ng∧CR eBool H R AN kJ∧CR (eInt .i64) H R AO nh)→∀ {r:List (List Int)},pC lR lS lT ng kJ gc gH nh dm = some r→∃ v H',C dZ 0 ey 0 ⟨AC,tZ,AJ⟩ ⟨AD,t_,AK⟩ gc gH ⟨AF,ua,AL⟩ dm H = some (v,H')∧aq.Q H0 Ri R0  r v H'
def aq.pj4 (F:Nat) (aU:List (Int×Int×Int×Int×Int)→List (Int×Int)→List (Int×Int)→List (List Int)→List Bool→Int→Int→Option (List (List Int))) (ub:List (Int×Int×Int×Int×Int)) (uc:List (Int×Int)) (ud:List (Int×Int)) (ue:List (List Int)) (ug:List Bool) (oX:Int) (oY:Int):Option (List (List Int)):=aU ub uc ud ue ug oX (IntKind.i64.wrap (oY + 1))
theorem aq.j4_P {F:Nat} {H0:Hp} {Ri R0:List Rs}  {C61_:Nat→Nat→Nat→Nat→Sl→Sl→Int→Int→Hp→OA} {aU:List (Int×Int×Int×Int×Int)→List (Int×Int)→List (Int×Int)→List (List Int)→List Bool→Int→Int→Option (List (List Int))} (hC61:aq.S61 H0 Ri R0  C61_ aU) {PI PJ PK PL PM:ON} {Gn wG Gp Gq wH Gr Gs:Nat} {PO PP PQ PR PU:Cap} {ub:List (Int×Int×Int×Int×Int)} {abX oX oY:Int} {uc ud:List (Int×Int)} {ue:List (List Int)} {PV PW:List AV} {ug:List Bool} {H:Hp} (abY:Gn = ub.length) (abZ:Gp = uc.length) (ab0:Gq = ud.length) (ab1:Gr = ue.length) (ab2:Gs = ug.length) (h0:Out H0 Ri H (Rs.blk wG [.sl ⟨PI,Gn,PO⟩,.int .i64 abX] :: Rs.blk wH [.sl ⟨PJ,Gp,PP⟩,.sl ⟨PK,Gq,PQ⟩] :: Rs.own ⟨PL,Gr,PR⟩ (eSl (eInt .i64)).z PV :: Rs.own ⟨PM,Gs,PU⟩ eBool.z PW :: R0) fun R=>ROs (ePair (eInt .i64) (ePair (eInt .i64) (ePair (eInt .i64) (ePair (eInt .i64) (eInt .i64))))) H R ⟨PI,Gn,PO⟩ ub∧ROs (ePair (eInt .i64) (eInt .i64)) H R ⟨PJ,Gp,PP⟩ uc∧ROs (ePair (eInt .i64) (eInt .i64)) H R ⟨PK,Gq,PQ⟩ ud∧CR (eSl (eInt .i64)) H R PV ue∧CR eBool H R PW ug) {r:List (List Int)} (hp:aq.pj4 F aU ub uc ud ue ug oX oY = some r):∃ v H',aq.j4 F (bG.tw F) C61_ wG 0 wH 0 ⟨PL,Gr,PR⟩ ⟨PM,Gs,PU⟩ oX oY H = some (v,H')∧aq.Q H0 Ri R0  r v H':=by
 obtain ⟨w0,s0,ab3,ab4,ab5,ab6,ab7⟩:=h0
 subst abY
 subst abZ
 subst ab0
 subst ab1
 subst ab2
 unfold aq.pj4 at hp
 unfold aq.j4
 exact hC61 rfl rfl rfl rfl rfl ⟨w0,s0,ab3,ab4,ab5,ab6,ab7⟩ hp
def aq.pj5 (F:Nat) (aU:List (Int×Int×Int×Int×Int)→List (Int×Int)→List (Int×Int)→List (List Int)→List Bool→Int→Int→Option (List (List Int))) (uh:List (Int×Int×Int×Int×Int)) (ui:List (Int×Int)) (uj:List (Int×Int)) (uk:List (List Int)) (ul:List Bool) (oZ:Int) (o_:Int):Option (List (List Int)):=aq.pj4 F aU uh ui uj uk ul oZ o_
theorem aq.j5_P {F:Nat} {H0:Hp} {Ri R0:List Rs}  {C61_:Nat→Nat→Nat→Nat→Sl→Sl→Int→Int→Hp→OA} {aU:List (Int×Int×Int×Int×Int)→List (Int×Int)→List (Int×Int)→List (List Int)→List Bool→Int→Int→Option (List (List Int))} (hC61:aq.S61 H0 Ri R0  C61_ aU) {PX PY PZ P_ Qa:ON} {Gt wI Gu Gv oe Gw Gx:Nat} {Qb Qc Qd Qe Qf:Cap} {uh:List (Int×Int×Int×Int×Int)} {ab8 oZ o_:Int} {ui uj:List (Int×Int)} {uk:List (List Int)} {Qg Qh:List AV} {ul:List Bool} {H:Hp} (ab9:Gt = uh.length) (ab_:Gu = ui.length) (aca:Gv = uj.length) (acb:Gw = uk.length) (acd:Gx = ul.length) (h0:Out H0 Ri H (Rs.blk wI [.sl ⟨PX,Gt,Qb⟩,.int .i64 ab8] :: Rs.blk oe [.sl ⟨PY,Gu,Qc⟩,.sl ⟨PZ,Gv,Qd⟩] :: Rs.own ⟨P_,Gw,Qe⟩ (eSl (eInt .i64)).z Qg :: Rs.own ⟨Qa,Gx,Qf⟩ eBool.z Qh :: R0) fun R=>ROs (ePair (eInt .i64) (ePair (eInt .i64) (ePair (eInt .i64) (ePair (eInt .i64) (eInt .i64))))) H R ⟨PX,Gt,Qb⟩ uh∧ROs (ePair (eInt .i64) (eInt .i64)) H R ⟨PY,Gu,Qc⟩ ui∧ROs (ePair (eInt .i64) (eInt .i64)) H R ⟨PZ,Gv,Qd⟩ uj∧CR (eSl (eInt .i64)) H R Qg uk∧CR eBool H R Qh ul) {r:List (List Int)} (hp:aq.pj5 F aU uh ui uj uk ul oZ o_ = some r):∃ v H',aq.j5 F (bG.tw F) C61_ wI 0 oe 0 ⟨P_,Gw,Qe⟩ ⟨Qa,Gx,Qf⟩ oZ o_ H = some (v,H')∧aq.Q H0 Ri R0  r v H':=by
 obtain ⟨w0,s0,ace,acf,acg,ach,aci⟩:=h0
 subst ab9
 subst ab_
 subst aca
 subst acb
 subst acd
 unfold aq.pj5 at hp
 unfold aq.j5
 exact aq.j4_P (@hC61) rfl rfl rfl rfl rfl ⟨w0,s0,ace,acf,acg,ach,aci⟩ hp
def aq.pj6 (F:Nat) (aU:List (Int×Int×Int×Int×Int)→List (Int×Int)→List (Int×Int)→List (List Int)→List Bool→Int→Int→Option (List (List Int))) (qd:List (Int×Int×Int×Int×Int)) (qe:List (Int×Int)) (qf:List (Int×Int)) (qg:List (List Int)) (qh:List Bool) (ni:List Int) (mA:Int) (mB:Int):Option (List (List Int)):=(bif (decide ((ni.length:Int) > 0)) then ((apn qg ([ni]:List (List Int))).bind fun l3=>aq.pj5 F aU qd qe qf l3 qh mA mB) else (aq.pj5 F aU qd qe qf qg qh mA mB))
theorem aq.j6_P {F:Nat} {H0:Hp} {Ri R0:List Rs}  {C61_:Nat→Nat→Nat→Nat→Sl→Sl→Int→Int→Hp→OA} {aU:List (Int×Int×Int×Int×Int)→List (Int×Int)→List (Int×Int)→List (List Int)→List Bool→Int→Int→Option (List (List Int))} (hC61:aq.S61 H0 Ri R0  C61_ aU) {Qi Qj Qk Ql Qm Qn:ON} {Gy qx Gz GA qy GB GC GD:Nat} {Qo Qp Qq Qr Qs Qt:Cap} {qd:List (Int×Int×Int×Int×Int)} {acj mA mB:Int} {qe qf:List (Int×Int)} {qg:List (List Int)} {Qu Qv Qw:List AV} {qh:List Bool} {ni:List Int} {H:Hp} (ack:Gy = qd.length) (acl:Gz = qe.length) (acm:GA = qf.length) (acn:GB = qg.length) (aco:GC = qh.length) (acp:GD = ni.length) (h0:Out H0 Ri H (Rs.blk qx [.sl ⟨Qi,Gy,Qo⟩,.int .i64 acj] :: Rs.blk qy [.sl ⟨Qj,Gz,Qp⟩,.sl ⟨Qk,GA,Qq⟩] :: Rs.own ⟨Ql,GB,Qr⟩ (eSl (eInt .i64)).z Qu :: Rs.own ⟨Qm,GC,Qs⟩ eBool.z Qv :: Rs.own ⟨Qn,GD,Qt⟩ (eInt .i64).z Qw :: R0) fun R=>ROs (ePair (eInt .i64) (ePair (eInt .i64) (ePair (eInt .i64) (ePair (eInt .i64) (eInt .i64))))) H R ⟨Qi,Gy,Qo⟩ qd∧ROs (ePair (eInt .i64) (eInt .i64)) H R ⟨Qj,Gz,Qp⟩ qe∧ROs (ePair (eInt .i64) (eInt .i64)) H R ⟨Qk,GA,Qq⟩ qf∧CR (eSl (eInt .i64)) H R Qu qg∧CR eBool H R Qv qh∧CR (eInt .i64) H R Qw ni) {r:List (List Int)} (hp:aq.pj6 F aU qd qe qf qg qh ni mA mB = some r):∃ v H',aq.j6 F (bG.tw F) C61_ qx 0 qy 0 ⟨Ql,GB,Qr⟩ ⟨Qm,GC,Qs⟩ ⟨Qn,GD,Qt⟩ mA mB H = some (v,H')∧aq.Q H0 Ri R0  r v H':=by
 obtain ⟨w0,s0,Qx,Qy,Qz,QA,QB,acq⟩:=h0
 subst ack
 subst acl
 subst acm
 subst acn
 subst aco
 subst acp
 unfold aq.pj6 at hp
 unfold aq.j6
 refine bif_ex (fun hb=>?_) (fun hb=>?_)
 ·replace hp:=bif_t hb hp
  obtain ⟨w1,s1,f1⟩:=w0.frz (i:=4) (eInt .i64) rfl acq
  dsimp only [List.eraseIdx] at w1 s1 f1
  refine newS_k (eSl (eInt .i64)) w1 (n:=1) (l:=([ni]:List (List Int))) rfl (CR.cons1 ⟨_,rfl,f1⟩ CR.empty) rfl fun H2 w2 s2 c2=>?_
  refine bind_ex (w2.rowo (i:=0) rfl) ?_
  obtain ⟨l3,e3,hp⟩:=bind_some' hp
  refine app_k (eSl (eInt .i64)) w2 (i:=3) rfl rfl (QA.step (s1.trans s2)) c2 (show 1 = List.length ([ni]:List (List Int)) from rfl) rfl e3 fun a4 d4 H4 w4 s4 c4 x4=>?_
  dsimp only [List.set] at w4 s4 c4
  obtain ⟨w5,s5⟩:=w4.pick' [1,2,3,4] 5 rfl rfl rfl
  dsimp only [pk,pks,nth,List.drop] at w5 s5
  exact aq.j5_P (@hC61) rfl rfl rfl rfl rfl ⟨w5,(s0.trans (s1.trans (s2.trans (s4.trans s5)))),(Qx.step (s1.trans (s2.trans (s4.trans s5)))),(Qy.step (s1.trans (s2.trans (s4.trans s5)))),(Qz.step (s1.trans (s2.trans (s4.trans s5)))),(c4.step s5),(QB.step (s1.trans (s2.trans (s4.trans s5))))⟩ hp
 ·replace hp:=bif_f hb hp
  obtain ⟨w6,s6⟩:=w0.pick' [0,1,2,3] 5 rfl rfl rfl
  dsimp only [pk,pks,nth,List.drop] at w6 s6
  exact aq.j5_P (@hC61) rfl rfl rfl rfl rfl ⟨w6,(s0.trans s6),(Qx.step s6),(Qy.step s6),(Qz.step s6),(QA.step s6),(QB.step s6)⟩ hp
def aq.pl15725 (F:Nat) (aU:List (Int×Int×Int×Int×Int)→List (Int×Int)→List (Int×Int)→List (List Int)→List Bool→Int→Int→Option (List (List Int))):Nat→List (Int×Int×Int×Int×Int)→List (Int×Int)→List (Int×Int)→List (List Int)→List Bool→Int→Int→List Int→Int→Option (List (List Int))
 | 0,_,_,_,_,_,_,_,_,_=>none
 | k + 1,lR,lS,lT,ng,kJ,gc,gH,nh,dm=>(ix kJ dm).bind fun n1=>(bif (!(gt kJ n1)) then ((ix kJ dm).bind fun n2=>(some (kJ.set n2 true)).bind fun l3=>(apn nh ([dm]:List Int)).bind fun l6=>(bG.p F lR lS lT (IntKind.i64.wrap (Int.tdiv dm 4)) (Int.tmod (IntKind.i64.wrap (dm + 1)) 4)).bind fun r8=>aq.pl15725 F aU k lR lS lT ng l3 gc gH l6 (IntKind.i64.wrap ((IntKind.i64.wrap (4 * r8.1)) + r8.2))) else (aq.pj6 F aU lR lS lT ng kJ nh gc gH))
termination_by structural n=>n
theorem aq.l15725_P {F:Nat} {H0:Hp} {Ri R0:List Rs}  {C61_:Nat→Nat→Nat→Nat→Sl→Sl→Int→Int→Hp→OA} {aU:List (Int×Int×Int×Int×Int)→List (Int×Int)→List (Int×Int)→List (List Int)→List Bool→Int→Int→Option (List (List Int))} (hC61:aq.S61 H0 Ri R0  C61_ aU):∀ k,aq.S15725 H0 Ri R0  (aq.l15725 F (bG.tw F) C61_ k) (aq.pl15725 F aU k):=by
 intro k
 induction k with
 | zero=>
  intro Az AA AB AC AD AF tW dZ tX tY ey tZ t_ ua AG AH AI AJ AK AL lR Gm gc gH dm lS lT ng AM AN AO kJ nh H QC QD QE QF QG QH h0 r hp
  exact nomatch (show (none:Option (List (List Int))) = some r from hp)
 | succ k ih=>
  intro Az AA AB AC AD AF tW dZ tX tY ey tZ t_ ua AG AH AI AJ AK AL lR Gm gc gH dm lS lT ng AM AN AO kJ nh H QC QD QE QF QG QH h0 r hp
  obtain ⟨w0,s0,GE,GF,GG,QI,AP,QJ⟩:=h0
  subst QC
  subst QD
  subst QE
  subst QF
  subst QG
  subst QH
  unfold aq.pl15725 at hp
  unfold aq.l15725
  obtain ⟨n1,g1,hp⟩:=bind_some' hp
  obtain ⟨p1,q1,i1,h1,j1⟩:=W.ixo (E:=eBool) w0 (i:=3) rfl rfl AP g1
  refine bind_ex i1 ?_
  have h1:_ = [_]:=h1
  subst h1
  refine bind_ex (ldB_of (j1 0 _ rfl)) ?_
  refine bif_ex (fun hb=>?_) (fun hb=>?_)
  ·replace hp:=bif_t hb hp
   obtain ⟨n2,g2,hp⟩:=bind_some' hp
   obtain ⟨p2,q2,i2,h2,j2⟩:=W.ixo (E:=eBool) w0 (i:=3) rfl rfl AP g2
   refine bind_ex i2 ?_
   obtain ⟨l3,e3,hp⟩:=bind_some' hp
   refine sto_k eBool w0 (i:=3) (j:=0) (p:=p2) rfl rfl AP g2 i2 e3 rfl rfl (fun _ h=>by have h:_ = [_]:=h; subst h; exact rfl) fun H4 k4 w4 s4 c4=>?_
   dsimp only [List.set] at w4 s4 c4
   refine newS_k (eInt .i64) w4 (n:=1) (l:=([dm]:List Int)) rfl (CR.cons1 rfl CR.empty) rfl fun H5 w5 s5 c5=>?_
   refine bind_ex (w5.rowo (i:=0) rfl) ?_
   obtain ⟨l6,e6,hp⟩:=bind_some' hp
   refine app_k (eInt .i64) w5 (i:=5) rfl rfl (QJ.step (s4.trans s5)) c5 (show 1 = List.length ([dm]:List Int) from rfl) rfl e6 fun a7 d7 H7 w7 s7 c7 x7=>?_
   dsimp only [List.set] at w7 s7 c7
   refine bind_ex (ldSl_of (w7.ld (i:=1) rfl rfl)) ?_
   refine bind_ex (ldI_of (w7.ld (i:=1) rfl rfl)) ?_
   refine bind_ex (ldSl_of (w7.ld (i:=2) rfl rfl)) ?_
   refine bind_ex (ldSl_of (w7.ld (i:=2) rfl rfl)) ?_
   obtain ⟨r8,e8,hp⟩:=bind_some' hp
   refine call_ex (bG.P rfl rfl rfl ⟨w7,(GE.step (s4.trans (s5.trans s7))),(GF.step (s4.trans (s5.trans s7))),(GG.step (s4.trans (s5.trans s7)))⟩ e8) ?_
   rintro _ H9 ⟨rfl,w9,s9,_⟩
   refine bind_ex rfl ?_
   refine bind_ex rfl ?_
   refine bind_ex rfl ?_
   refine bind_ex rfl ?_
   refine bind_ex rfl ?_
   refine new_k w9 fun H10 w10 s10=>?_
   refine st_k w10 (i:=0) rfl rfl rfl fun H11 w11 s11=>?_
   dsimp only [List.set] at w11 s11
   refine st_k w11 (i:=0) rfl rfl rfl fun H12 w12 s12=>?_
   dsimp only [List.set] at w12 s12
   refine bind_ex (ldI_of (w12.ld (i:=0) rfl rfl)) ?_
   refine bind_ex (ldI_of (w12.ld (i:=0) rfl rfl)) ?_
   obtain ⟨w13,s13⟩:=w12.pick' [2,3,4,5,6] 7 rfl rfl rfl
   dsimp only [pk,pks,nth,List.drop] at w13 s13
   exact ih rfl rfl rfl rfl ((st_len e3).symm) rfl ⟨w13,(s0.trans (s4.trans (s5.trans (s7.trans (s9.trans (s10.trans (s11.trans (s12.trans s13)))))))),(GE.step (s4.trans (s5.trans (s7.trans (s9.trans (s10.trans (s11.trans (s12.trans s13)))))))),(GF.step (s4.trans (s5.trans (s7.trans (s9.trans (s10.trans (s11.trans (s12.trans s13)))))))),(GG.step (s4.trans (s5.trans (s7.trans (s9.trans (s10.trans (s11.trans (s12.trans s13)))))))),(QI.step (s4.trans (s5.trans (s7.trans (s9.trans (s10.trans (s11.trans (s12.trans s13)))))))),(c4.step (s5.trans (s7.trans (s9.trans (s10.trans (s11.trans (s12.trans s13))))))),(c7.step (s9.trans (s10.trans (s11.trans (s12.trans s13)))))⟩ hp
  ·replace hp:=bif_f hb hp
   exact aq.j6_P (@hC61) rfl rfl rfl rfl rfl rfl ⟨w0,s0,GE,GF,GG,QI,AP,QJ⟩ hp
def aq.pl61 (F:Nat) :Nat→List (Int×Int×Int×Int×Int)→List (Int×Int)→List (Int×Int)→List (List Int)→List Bool→Int→Int→Option (List (List Int))
 | 0,_,_,_,_,_,_,_=>none
 | k + 1,nN,nO,nP,nd,nQ,gf,fR=>(bif (decide (fR < gf)) then (aq.pl15725 F (aq.pl61 F k) F nN nO nP nd nQ gf fR ([]:List Int) fR) else (some nd))
termination_by structural n=>n
theorem aq.l61_P {F:Nat} {H0:Hp} {Ri R0:List Rs}  :∀ k,aq.S61 H0 Ri R0  (aq.l61 F (bG.tw F)  k) (aq.pl61 F  k):=by
 intro k
 induction k with
 | zero=>
  intro An Ao Ap Aq Ar tR gd tS tT cU tU tV As At Au Av Aw nN Gl gf fR nO nP nd Ax Ay nQ H QK QL QM QN QO h0 r hp
  exact nomatch (show (none:Option (List (List Int))) = some r from hp)
 | succ k ih=>
  intro An Ao Ap Aq Ar tR gd tS tT cU tU tV As At Au Av Aw nN Gl gf fR nO nP nd Ax Ay nQ H QK QL QM QN QO h0 r hp
  obtain ⟨w0,s0,acr,acs,act,QP,acu⟩:=h0
  subst QK
  subst QL
  subst QM
  subst QN
  subst QO
  unfold aq.pl61 at hp
  unfold aq.l61
  refine bif_ex (fun hb=>?_) (fun hb=>?_)
  ·replace hp:=bif_t hb hp
   obtain ⟨w1,s1⟩:=w0.nilS (eInt .i64).z (by decide)
   obtain ⟨w2,s2⟩:=w1.pick' [1,2,3,4,0] 5 rfl rfl rfl
   dsimp only [pk,pks,nth,List.drop] at w2 s2
   exact aq.l15725_P (@ih) F rfl rfl rfl rfl rfl rfl ⟨w2,(s0.trans (s1.trans s2)),(acr.step (s1.trans s2)),(acs.step (s1.trans s2)),(act.step (s1.trans s2)),(QP.step (s1.trans s2)),(acu.step (s1.trans s2)),((CR.empty:CR (eInt .i64) _ _ [] []).step s2)⟩ hp
  ·replace hp:=bif_f hb hp
   obtain ⟨w3,s3⟩:=w0.pick' [2] 4 rfl rfl rfl
   dsimp only [pk,pks,nth,List.drop] at w3 s3
   obtain rfl:=Option.some.inj hp
   exact ⟨_,_,rfl,_,_,_,_,rfl,rfl,w3,(s0.trans s3),(QP.step s3)⟩
def aq.p (F:Nat) (ae:List (Int×Int×Int×Int×Int)) (cl:List (Int×Int)) (cr:List (Int×Int)):Option (List (List Int)):=(mkn (IntKind.i64.wrap (4 * (ae.length:Int))) false).bind fun l3=>aq.pl61 F F ae cl cr ([]:List (List Int)) l3 (l3.length:Int) 0
theorem aq.P {F:Nat} {az dL eH:ON} {ap cN cX:Nat} {aA dM eI:Cap} {ae:List (Int×Int×Int×Int×Int)} {ab:Int} {cl cr:List (Int×Int)} {H:Hp} {R0:List Rs} (aW:ap = ae.length) (hO:cN = cl.length) (iz:cX = cr.length) (h0:Inn H R0 fun R=>ROs (ePair (eInt .i64) (ePair (eInt .i64) (ePair (eInt .i64) (ePair (eInt .i64) (eInt .i64))))) H R ⟨az,ap,aA⟩ ae∧ROs (ePair (eInt .i64) (eInt .i64)) H R ⟨dL,cN,dM⟩ cl∧ROs (ePair (eInt .i64) (eInt .i64)) H R ⟨eH,cX,eI⟩ cr) {r:List (List Int)} (hp:aq.p F ae cl cr = some r):∃ v H',aq.tw F ⟨az,ap,aA⟩ ab ⟨dL,cN,dM⟩ ⟨eH,cX,eI⟩ H = some (v,H')∧aq.Q H R0 R0  r v H':=by
 obtain ⟨w0,aK,fw,fY⟩:=h0
 subst aW
 subst hO
 subst iz
 unfold aq.p at hp
 unfold aq.tw aq.twX
 have s0:=w0.rf
 refine new_k w0 fun H1 w1 s1=>?_
 refine new_k w1 fun H2 w2 s2=>?_
 refine bind_ex (ldSl_of (w2.ld (i:=1) rfl rfl)) ?_
 obtain ⟨l3,e3,hp⟩:=bind_some' hp
 refine mk_k eBool false w2 rfl rfl rfl e3 fun H4 k4 w4 s4 c4=>?_
 obtain ⟨w5,s5⟩:=w4.nilS (eSl (eInt .i64)).z (by decide)
 obtain ⟨w6,s6⟩:=w5.pick' [3,2,0,1] 4 rfl rfl rfl
 dsimp only [pk,pks,nth,List.drop] at w6 s6
 exact aq.l61_P F rfl rfl rfl rfl rfl ⟨w6,(s0.trans (s1.trans (s2.trans (s4.trans (s5.trans s6))))),(aK.step (s1.trans (s2.trans (s4.trans (s5.trans s6))))),(fw.step (s1.trans (s2.trans (s4.trans (s5.trans s6))))),(fY.step (s1.trans (s2.trans (s4.trans (s5.trans s6))))),((CR.empty:CR (eSl (eInt .i64)) _ _ [] []).step s6),(c4.step (s5.trans s6))⟩ hp
def ck.Q (H0:Hp) (Ri R0:List Rs)  (r:Int) (v:AV) (H':Hp):Prop:=v = (.int .i64 r)∧Out H0 Ri H' (R0) fun R=>True
def ck.p (F:Nat) (ae:List (List Int)):Option (Int):=some (ae.length:Int)
theorem ck.P {F:Nat} {az:ON} {ap:Nat} {aA:Cap} {ae:List (List Int)} {H:Hp} {R0:List Rs} (aW:ap = ae.length) (h0:Inn H R0 fun R=>ROs (eSl (eInt .i64)) H R ⟨az,ap,aA⟩ ae) {r:Int} (hp:ck.p F ae = some r):∃ v H',ck.tw F ⟨az,ap,aA⟩ H = some (v,H')∧ck.Q H R0 R0  r v H':=by
 obtain ⟨w0,aK⟩:=h0
 subst aW
 unfold ck.p at hp
 unfold ck.tw ck.twX
 have s0:=w0.rf
 obtain rfl:=Option.some.inj hp
 exact ⟨_,_,rfl,rfl,w0,s0,trivial⟩
def aZ.Q (H0:Hp) (Ri R0:List Rs)  (r:List Int) (v:AV) (H':Hp):Prop:=∃ o0a:ON,∃ o0n:Nat,∃ o0c:Cap,∃ o0k:List AV,v = (.sl ⟨o0a,o0n,o0c⟩)∧o0n = (r).length∧Out H0 Ri H' (Rs.own ⟨o0a,o0n,o0c⟩ (eInt .i64).z o0k :: R0) fun R=>CR (eInt .i64) H' R o0k (r)
def aZ.S29 (H0:Hp) (Ri R0:List Rs)  (C:Sl→Int→Int→Hp→OA) (pC:List Int→Int→Int→Option (List Int)):Prop:=∀ {AQ:ON} {um:Nat} {AR:Cap} {nj:List Int} {AS:List AV} {gh fe:Int},∀ {H:Hp},um = nj.length→(Out H0 Ri H (Rs.own ⟨AQ,um,AR⟩ (eInt .i64).z AS :: R0) fun R=>CR (eInt .i64) H R AS nj)→∀ {r:List Int},pC nj gh fe = some r→∃ v H',C ⟨AQ,um,AR⟩ gh fe H = some (v,H')∧aZ.Q H0 Ri R0  r v H'
def aZ.pl29 (F:Nat) :Nat→List Int→Int→Int→Option (List Int)
 | 0,_,_,_=>none
 | k + 1,nj,gh,fe=>(bif (decide (fe < gh)) then ((apn nj ([fe]:List Int)).bind fun l2=>aZ.pl29 F k l2 gh (IntKind.i64.wrap (fe + 1))) else (some nj))
termination_by structural n=>n
theorem aZ.l29_P {F:Nat} {H0:Hp} {Ri R0:List Rs}  :∀ k,aZ.S29 H0 Ri R0  (aZ.l29 F   k) (aZ.pl29 F  k):=by
 intro k
 induction k with
 | zero=>
  intro AQ um AR nj AS gh fe H QQ h0 r hp
  exact nomatch (show (none:Option (List Int)) = some r from hp)
 | succ k ih=>
  intro AQ um AR nj AS gh fe H QQ h0 r hp
  obtain ⟨w0,s0,QR⟩:=h0
  subst QQ
  unfold aZ.pl29 at hp
  unfold aZ.l29
  refine bif_ex (fun hb=>?_) (fun hb=>?_)
  ·replace hp:=bif_t hb hp
   refine newS_k (eInt .i64) w0 (n:=1) (l:=([fe]:List Int)) rfl (CR.cons1 rfl CR.empty) rfl fun H1 w1 s1 c1=>?_
   refine bind_ex (w1.rowo (i:=0) rfl) ?_
   obtain ⟨l2,e2,hp⟩:=bind_some' hp
   refine app_k (eInt .i64) w1 (i:=1) rfl rfl (QR.step s1) c1 (show 1 = List.length ([fe]:List Int) from rfl) rfl e2 fun a3 d3 H3 w3 s3 c3 x3=>?_
   dsimp only [List.set] at w3 s3 c3
   obtain ⟨w4,s4⟩:=w3.pick' [1] 2 rfl rfl rfl
   dsimp only [pk,pks,nth,List.drop] at w4 s4
   exact ih rfl ⟨w4,(s0.trans (s1.trans (s3.trans s4))),(c3.step s4)⟩ hp
  ·replace hp:=bif_f hb hp
   obtain rfl:=Option.some.inj hp
   exact ⟨_,_,rfl,_,_,_,_,rfl,rfl,w0,s0,QR⟩
def aZ.p (F:Nat) (aa:Int):Option (List Int):=aZ.pl29 F F ([]:List Int) aa 0
theorem aZ.P {F:Nat} {aa:Int} {H:Hp} {R0:List Rs}  (h0:Inn H R0 fun R=>True) {r:List Int} (hp:aZ.p F aa = some r):∃ v H',aZ.tw F aa H = some (v,H')∧aZ.Q H R0 R0  r v H':=by
 obtain ⟨w0,_⟩:=h0
 unfold aZ.p at hp
 unfold aZ.tw aZ.twX
 have s0:=w0.rf
 obtain ⟨w1,s1⟩:=w0.nilS (eInt .i64).z (by decide)
 exact aZ.l29_P F rfl ⟨w1,(s0.trans s1),(CR.empty:CR (eInt .i64) _ _ [] [])⟩ hp
def aN.Q (H0:Hp) (Ri R0:List Rs) (az:ON) (ap:Nat) (aA:Cap) (eJ:Bool) (eK eL:List AV) (r:List Int) (v:AV) (H':Hp):Prop:=∃ kK:List AV,v = (.tup [])∧ap = (r).length∧Out H0 Ri H' (Rs.ow eJ ⟨az,ap,aA⟩ (eInt .i64).z eK kK eL :: R0) fun R=>CR (eInt .i64) H' R kK (r)
def aN.S7 (H0:Hp) (Ri R0:List Rs) (eg:ON) (du:Nat) (eh:Cap) (gP:Bool) (gQ gR:List AV) (C:Sl→Int→Int→Sl→Int→Int→Hp→OA) (pC:List Int→Int→Int→Int→Int→Option (List Int)):Prop:=∀ {ei:List Int} {AT:List AV} {d_ ez fC ea:Int},∀ {H:Hp},du = ei.length→(Out H0 Ri H (Rs.ow gP ⟨eg,du,eh⟩ (eInt .i64).z gQ AT gR :: R0) fun R=>CR (eInt .i64) H R AT ei)→∀ {r:List Int},pC ei d_ ez fC ea = some r→∃ v H',C ⟨eg,du,eh⟩ d_ ez ⟨eg,du,eh⟩ fC ea H = some (v,H')∧aN.Q H0 Ri R0 eg du eh gP gQ gR r v H'
def aN.pj2 (F:Nat) (AU:List Int→Int→Int→Int→Int→Option (List Int)) (un:List Int) (pa:Int) (pb:Int) (pc:Int) (pd:Int):Option (List Int):=AU un pa pb pc (IntKind.i64.wrap (pd + 1))
theorem aN.j2_P {F:Nat} {H0:Hp} {Ri R0:List Rs} {eg:ON} {du:Nat} {eh:Cap} {gP:Bool} {gQ gR:List AV} {C7_:Sl→Int→Int→Sl→Int→Int→Hp→OA} {AU:List Int→Int→Int→Int→Int→Option (List Int)} (hC7:aN.S7 H0 Ri R0 eg du eh gP gQ gR C7_ AU) {un:List Int} {QS:List AV} {pa pb pc pd:Int} {H:Hp} (acv:du = un.length) (h0:Out H0 Ri H (Rs.ow gP ⟨eg,du,eh⟩ (eInt .i64).z gQ QS gR :: R0) fun R=>CR (eInt .i64) H R QS un) {r:List Int} (hp:aN.pj2 F AU un pa pb pc pd = some r):∃ v H',aN.j2 F  C7_ ⟨eg,du,eh⟩ pa pb ⟨eg,du,eh⟩ pc pd H = some (v,H')∧aN.Q H0 Ri R0 eg du eh gP gQ gR r v H':=by
 obtain ⟨w0,s0,acw⟩:=h0
 subst acv
 unfold aN.pj2 at hp
 unfold aN.j2
 exact hC7 rfl ⟨w0,s0,acw⟩ hp
def aN.pl7 (F:Nat) :Nat→List Int→Int→Int→Int→Int→Option (List Int)
 | 0,_,_,_,_,_=>none
 | k + 1,ei,d_,ez,fC,ea=>(bif (decide (ea < fC)) then ((ix ei ea).bind fun n1=>(bif ((gt ei n1) == d_) then ((ix ei ea).bind fun n2=>(some (ei.set n2 ez)).bind fun l3=>aN.pj2 F (aN.pl7 F k) l3 d_ ez fC ea) else (aN.pj2 F (aN.pl7 F k) ei d_ ez fC ea))) else (some ei))
termination_by structural n=>n
theorem aN.l7_P {F:Nat} {H0:Hp} {Ri R0:List Rs} {eg:ON} {du:Nat} {eh:Cap} {gP:Bool} {gQ gR:List AV} :∀ k,aN.S7 H0 Ri R0 eg du eh gP gQ gR (aN.l7 F   k) (aN.pl7 F  k):=by
 intro k
 induction k with
 | zero=>
  intro ei AT d_ ez fC ea H uo h0 r hp
  exact nomatch (show (none:Option (List Int)) = some r from hp)
 | succ k ih=>
  intro ei AT d_ ez fC ea H uo h0 r hp
  obtain ⟨w0,s0,nk⟩:=h0
  subst uo
  unfold aN.pl7 at hp
  unfold aN.l7
  refine bif_ex (fun hb=>?_) (fun hb=>?_)
  ·replace hp:=bif_t hb hp
   obtain ⟨n1,g1,hp⟩:=bind_some' hp
   obtain ⟨p1,q1,i1,h1,j1⟩:=W.ixo (E:=(eInt .i64)) w0 (i:=0) rfl rfl nk g1
   refine bind_ex i1 ?_
   have h1:_ = [_]:=h1
   subst h1
   refine bind_ex (ldI_of (j1 0 _ rfl)) ?_
   refine bif_ex (fun hb=>?_) (fun hb=>?_)
   ·replace hp:=bif_t hb hp
    obtain ⟨n2,g2,hp⟩:=bind_some' hp
    obtain ⟨p2,q2,i2,h2,j2⟩:=W.ixo (E:=(eInt .i64)) w0 (i:=0) rfl rfl nk g2
    refine bind_ex i2 ?_
    obtain ⟨l3,e3,hp⟩:=bind_some' hp
    refine sto_k (eInt .i64) w0 (i:=0) (j:=0) (p:=p2) rfl rfl nk g2 i2 e3 rfl rfl (fun _ h=>by have h:_ = [_]:=h; subst h; exact rfl) fun H4 k4 w4 s4 c4=>?_
    dsimp only [List.set] at w4 s4 c4
    exact aN.j2_P (@ih) ((st_len e3).symm) ⟨w4,(s0.trans s4),c4⟩ hp
   ·replace hp:=bif_f hb hp
    exact aN.j2_P (@ih) rfl ⟨w0,s0,nk⟩ hp
  ·replace hp:=bif_f hb hp
   obtain rfl:=Option.some.inj hp
   exact ⟨_,_,rfl,_,rfl,rfl,w0,s0,nk⟩
def aN.p (F:Nat) (ae:List Int) (af:Int) (bz:Int):Option (List Int):=(ix ae bz).bind fun n1=>(ix ae af).bind fun n2=>aN.pl7 F F ae (gt ae n1) (gt ae n2) (ae.length:Int) 0
theorem aN.P {F:Nat} {az:ON} {ap:Nat} {aA:Cap} {ae:List Int} {eJ:Bool} {eK eL iA:List AV} {af bz:Int} {H:Hp} {R0:List Rs} (aW:ap = ae.length) (h0:Inn H (Rs.ow eJ ⟨az,ap,aA⟩ (eInt .i64).z eK iA eL :: R0) fun R=>CR (eInt .i64) H R iA ae) {r:List Int} (hp:aN.p F ae af bz = some r):∃ v H',aN.tw F ⟨az,ap,aA⟩ af bz H = some (v,H')∧aN.Q H (Rs.ow eJ ⟨az,ap,aA⟩ (eInt .i64).z eK iA eL :: R0) R0 az ap aA eJ eK eL r v H':=by
 obtain ⟨w0,aK⟩:=h0
 subst aW
 unfold aN.p at hp
 unfold aN.tw aN.twX
 have s0:=w0.rf
 obtain ⟨n1,g1,hp⟩:=bind_some' hp
 obtain ⟨p1,q1,i1,h1,j1⟩:=W.ixo (E:=(eInt .i64)) w0 (i:=0) rfl rfl aK g1
 refine bind_ex i1 ?_
 have h1:_ = [_]:=h1
 subst h1
 refine bind_ex (ldI_of (j1 0 _ rfl)) ?_
 obtain ⟨n2,g2,hp⟩:=bind_some' hp
 obtain ⟨p2,q2,i2,h2,j2⟩:=W.ixo (E:=(eInt .i64)) w0 (i:=0) rfl rfl aK g2
 refine bind_ex i2 ?_
 have h2:_ = [_]:=h2
 subst h2
 refine bind_ex (ldI_of (j2 0 _ rfl)) ?_
 exact aN.l7_P F rfl ⟨w0,s0,aK⟩ hp
def dd.Q (H0:Hp) (Ri R0:List Rs)  (r:List Int) (v:AV) (H':Hp):Prop:=∃ o0a:ON,∃ o0n:Nat,∃ o0c:Cap,∃ o0k:List AV,v = (.sl ⟨o0a,o0n,o0c⟩)∧o0n = (r).length∧Out H0 Ri H' (Rs.own ⟨o0a,o0n,o0c⟩ (eInt .i64).z o0k :: R0) fun R=>CR (eInt .i64) H' R o0k (r)
def dd.p (F:Nat) (ae:List Int):Option (List Int):=(if ae.length ≤ 4294967296∧wfs ae = true then some (nums ae) else none)
theorem dd.P {F:Nat} {az:ON} {ap:Nat} {aA:Cap} {ae:List Int} {H:Hp} {R0:List Rs} (aW:ap = ae.length) (h0:Inn H R0 fun R=>ROs (eInt .i64) H R ⟨az,ap,aA⟩ ae) {r:List Int} (hp:dd.p F ae = some r):∃ v H',dd.tw F ⟨az,ap,aA⟩ H = some (v,H')∧dd.Q H R0 R0  r v H':=by
 obtain ⟨w0,f0⟩:=h0
 subst aW
 unfold dd.p at hp
 unfold dd.tw numTw
 have s0:=w0.rf
 obtain ⟨hc,hp⟩:=ifs_p hp
 have hp:=Option.some.inj hp
 obtain ⟨xs,hx,cx⟩:=f0.row rfl
 refine bind_ex hx ?_
 obtain rfl:=cx.ints_eq
 refine bind_ex (asInts_map _) ?_
 refine ifs_ex hc ?_
 by_cases hz:ae.length = 0
 ·rw [if_pos hz]
  obtain ⟨w1,s1⟩:=w0.nilS (eInt .i64).z (by decide)
  obtain rfl:r = []:=List.length_eq_zero_iff.1 (by rw [← hp,nums_len,hz])
  exact ⟨_,_,rfl,none,0,.ex 0,[],rfl,rfl,w1,s0.trans s1,CR.empty⟩
 ·rw [if_neg hz]
  obtain ⟨H2,e2,w2,s2⟩:=w0.newF ((nums ae).map (AV.int .i64)) ae.length (eInt .i64).z (by rw [List.length_map,nums_len]; exact (Nat.mul_one _).symm) (by decide)
  subst e2
  subst hp
  exact ⟨_,_,rfl,some (_,0),_,.full 1,_,rfl,(nums_len _).symm,w2,s0.trans s2,CR.ints _ _ _ _⟩
def aH.Q (H0:Hp) (Ri R0:List Rs)  (r:List Int) (v:AV) (H':Hp):Prop:=∃ o0a:ON,∃ o0n:Nat,∃ o0c:Cap,∃ o0k:List AV,v = (.sl ⟨o0a,o0n,o0c⟩)∧o0n = (r).length∧Out H0 Ri H' (Rs.own ⟨o0a,o0n,o0c⟩ (eInt .i64).z o0k :: R0) fun R=>CR (eInt .i64) H' R o0k (r)
def aH.S29 (H0:Hp) (Ri R0:List Rs)  (C:Nat→Nat→Sl→Sl→Int→Int→Hp→OA) (pC:List (Int×Int)→List (Int×Int)→List Int→Int→Int→Option (List Int)):Prop:=∀ {uq AW lG:ON} {qi ur gi kF:Nat} {ut AX lH:Cap} {lU lV:List (Int×Int)} {gM:List Int} {lK:List AV} {gj fi:Int},∀ {H:Hp},qi = lU.length→ur = lV.length→kF = gM.length→(Out H0 Ri H (Rs.blk gi [.sl ⟨uq,qi,ut⟩,.sl ⟨AW,ur,AX⟩] :: Rs.own ⟨lG,kF,lH⟩ (eInt .i64).z lK :: R0) fun R=>ROs (ePair (eInt .i64) (eInt .i64)) H R ⟨uq,qi,ut⟩ lU∧ROs (ePair (eInt .i64) (eInt .i64)) H R ⟨AW,ur,AX⟩ lV∧CR (eInt .i64) H R lK gM)→∀ {r:List Int},pC lU lV gM gj fi = some r→∃ v H',C gi 0 ⟨lG,kF,lH⟩ ⟨uq,qi,ut⟩ gj fi H = some (v,H')∧aH.Q H0 Ri R0  r v H'
def aH.pl29 (F:Nat) :Nat→List (Int×Int)→List (Int×Int)→List Int→Int→Int→Option (List Int)
 | 0,_,_,_,_,_=>none
 | k + 1,lU,lV,gM,gj,fi=>(bif (decide (fi < gj)) then ((ix lU fi).bind fun n1=>(ix lV fi).bind fun n5=>(aN.p F gM ((gt lU n1).1) ((gt lV n5).1)).bind fun r7=>aH.pl29 F k lU lV r7 gj (IntKind.i64.wrap (fi + 1))) else ((dd.p F gM).bind fun r12=>some r12))
termination_by structural n=>n
theorem aH.l29_P {F:Nat} {H0:Hp} {Ri R0:List Rs}  :∀ k,aH.S29 H0 Ri R0  (aH.l29 F (bq.tw F) (aZ.tw F) (aN.tw F) (dd.tw F)  k) (aH.pl29 F  k):=by
 intro k
 induction k with
 | zero=>
  intro uq AW lG qi ur gi kF ut AX lH lU lV gM lK gj fi H QT QU tz h0 r hp
  exact nomatch (show (none:Option (List Int)) = some r from hp)
 | succ k ih=>
  intro uq AW lG qi ur gi kF ut AX lH lU lV gM lK gj fi H QT QU tz h0 r hp
  obtain ⟨w0,s0,QV,QW,p_⟩:=h0
  subst QT
  subst QU
  subst tz
  unfold aH.pl29 at hp
  unfold aH.l29
  refine bif_ex (fun hb=>?_) (fun hb=>?_)
  ·replace hp:=bif_t hb hp
   obtain ⟨n1,g1,hp⟩:=bind_some' hp
   obtain ⟨p1,q1,i1,h1,j1⟩:=ROs.ixr QV rfl g1
   refine bind_ex i1 ?_
   obtain ⟨_,_,rfl,rfl,rfl⟩:=h1
   refine bind_ex (ldI_of (j1 0 _ rfl)) ?_
   refine bind_ex (ldI_of (j1 1 _ rfl)) ?_
   refine new_k w0 fun H2 w2 s2=>?_
   refine st_k w2 (i:=0) rfl rfl rfl fun H3 w3 s3=>?_
   dsimp only [List.set] at w3 s3
   refine st_k w3 (i:=0) rfl rfl rfl fun H4 w4 s4=>?_
   dsimp only [List.set] at w4 s4
   refine bind_ex (ldI_of (w4.ld (i:=0) rfl rfl)) ?_
   refine bind_ex (ldSl_of (w4.ld (i:=1) rfl rfl)) ?_
   obtain ⟨n5,g5,hp⟩:=bind_some' hp
   obtain ⟨p5,q5,i5,h5,j5⟩:=ROs.ixr (QW.step (s2.trans (s3.trans s4))) rfl g5
   refine bind_ex i5 ?_
   obtain ⟨_,_,rfl,rfl,rfl⟩:=h5
   refine bind_ex (ldI_of (j5 0 _ rfl)) ?_
   obtain ⟨w6,s6⟩:=w4.pick' [2,0,1] 3 rfl rfl rfl
   dsimp only [pk,pks,nth,List.drop] at w6 s6
   obtain ⟨r7,e7,hp⟩:=bind_some' hp
   refine call_ex (aN.P rfl ⟨w6,(p_.step (s2.trans (s3.trans (s4.trans s6))))⟩ e7) ?_
   rintro _ H8 ⟨aeJ,rfl,hl8_0,w8,s8,f8_0⟩
   obtain ⟨w9,s9⟩:=w8.pick' [2,0] 3 rfl rfl rfl
   dsimp only [pk,pks,nth,List.drop] at w9 s9
   exact ih rfl rfl hl8_0 ⟨w9,(s0.trans (s2.trans (s3.trans (s4.trans (s6.trans (s8.trans s9)))))),(QV.step (s2.trans (s3.trans (s4.trans (s6.trans (s8.trans s9)))))),(QW.step (s2.trans (s3.trans (s4.trans (s6.trans (s8.trans s9)))))),(f8_0.step s9)⟩ hp
  ·replace hp:=bif_f hb hp
   obtain ⟨w10,s10⟩:=w0.pick' [1,0] 2 rfl rfl rfl
   dsimp only [pk,pks,nth,List.drop] at w10 s10
   have f11:=W.borrow1 (eInt .i64) w10 (p_.step s10)
   obtain ⟨w11,s11⟩:=w10.right1
   obtain ⟨r12,e12,hp⟩:=bind_some' hp
   refine call_ex (dd.P rfl ⟨w11,f11⟩ e12) ?_
   rintro _ H13 ⟨o0a_13,o0n_13,o0c_13,o0k_13,rfl,rfl,w13,s13,f13_0⟩
   obtain ⟨w14,s14⟩:=W.frame1 w10 w13 s13
   refine bind_ex rfl ?_
   obtain ⟨w15,s15⟩:=w14.pick' [1] 3 rfl rfl rfl
   dsimp only [pk,pks,nth,List.drop] at w15 s15
   obtain rfl:=Option.some.inj hp
   exact ⟨_,_,rfl,_,_,_,_,rfl,rfl,w15,(s0.trans (s10.trans (s14.trans s15))),((CR.flat (eInt_flat .i64) f13_0).step s15)⟩
def aH.p (F:Nat) (ae:List (Int×Int×Int×Int×Int)) (cl:List (Int×Int)) (cr:List (Int×Int)):Option (List Int):=(bq.p F ae).bind fun r3=>(aZ.p F r3).bind fun r5=>aH.pl29 F F cl cr r5 (cl.length:Int) 0
theorem aH.P {F:Nat} {az dL eH:ON} {ap cN cX:Nat} {aA dM eI:Cap} {ae:List (Int×Int×Int×Int×Int)} {ab:Int} {cl cr:List (Int×Int)} {H:Hp} {R0:List Rs} (aW:ap = ae.length) (hO:cN = cl.length) (iz:cX = cr.length) (h0:Inn H R0 fun R=>ROs (ePair (eInt .i64) (ePair (eInt .i64) (ePair (eInt .i64) (ePair (eInt .i64) (eInt .i64))))) H R ⟨az,ap,aA⟩ ae∧ROs (ePair (eInt .i64) (eInt .i64)) H R ⟨dL,cN,dM⟩ cl∧ROs (ePair (eInt .i64) (eInt .i64)) H R ⟨eH,cX,eI⟩ cr) {r:List Int} (hp:aH.p F ae cl cr = some r):∃ v H',aH.tw F ⟨az,ap,aA⟩ ab ⟨dL,cN,dM⟩ ⟨eH,cX,eI⟩ H = some (v,H')∧aH.Q H R0 R0  r v H':=by
 obtain ⟨w0,aK,fw,fY⟩:=h0
 subst aW
 subst hO
 subst iz
 unfold aH.p at hp
 unfold aH.tw aH.twX
 have s0:=w0.rf
 refine new_k w0 fun H1 w1 s1=>?_
 refine new_k w1 fun H2 w2 s2=>?_
 refine bind_ex (ldSl_of (w2.ld (i:=1) rfl rfl)) ?_
 obtain ⟨r3,e3,hp⟩:=bind_some' hp
 refine call_ex (bq.P rfl ⟨w2,(aK.step (s1.trans s2))⟩ e3) ?_
 rintro _ H4 ⟨rfl,w4,s4,_⟩
 refine bind_ex rfl ?_
 obtain ⟨r5,e5,hp⟩:=bind_some' hp
 refine call_ex (aZ.P ⟨w4,trivial⟩ e5) ?_
 rintro _ H6 ⟨o0a_6,o0n_6,o0c_6,o0k_6,rfl,rfl,w6,s6,f6_0⟩
 refine bind_ex rfl ?_
 refine bind_ex (ldSl_of (w6.ld (i:=1) rfl rfl)) ?_
 obtain ⟨w7,s7⟩:=w6.pick' [1,0] 3 rfl rfl rfl
 dsimp only [pk,pks,nth,List.drop] at w7 s7
 exact aH.l29_P F rfl rfl rfl ⟨w7,(s0.trans (s1.trans (s2.trans (s4.trans (s6.trans s7))))),(fw.step (s1.trans (s2.trans (s4.trans (s6.trans s7))))),(fY.step (s1.trans (s2.trans (s4.trans (s6.trans s7))))),(f6_0.step s7)⟩ hp
def aS.Q (H0:Hp) (Ri R0:List Rs)  (r:Int) (v:AV) (H':Hp):Prop:=v = (.int .i64 r)∧Out H0 Ri H' (R0) fun R=>True
def aS.S61 (H0:Hp) (Ri R0:List Rs)  (C:Sl→Int→Int→Hp→OA) (pC:List Int→Int→Int→Option (Int)):Prop:=∀ {AY:ON} {uu:Nat} {AZ:Cap} {ei:List Int} {cR fS:Int},∀ {H:Hp},uu = ei.length→(Out H0 Ri H R0 fun R=>ROs (eInt .i64) H R ⟨AY,uu,AZ⟩ ei)→∀ {r:Int},pC ei cR fS = some r→∃ v H',C ⟨AY,uu,AZ⟩ cR fS H = some (v,H')∧aS.Q H0 Ri R0  r v H'
def aS.pl61 (F:Nat) :Nat→List Int→Int→Int→Option (Int)
 | 0,_,_,_=>none
 | k + 1,ei,cR,fS=>(bif (decide (fS < (ei.length:Int))) then ((ix ei fS).bind fun n1=>aS.pl61 F k ei (if (gt ei n1) > cR then (gt ei n1) else cR) (IntKind.i64.wrap (fS + 1))) else (some cR))
termination_by structural n=>n
theorem aS.l61_P {F:Nat} {H0:Hp} {Ri R0:List Rs}  :∀ k,aS.S61 H0 Ri R0  (aS.l61 F   k) (aS.pl61 F  k):=by
 intro k
 induction k with
 | zero=>
  intro AY uu AZ ei cR fS H uo h0 r hp
  exact nomatch (show (none:Option (Int)) = some r from hp)
 | succ k ih=>
  intro AY uu AZ ei cR fS H uo h0 r hp
  obtain ⟨w0,s0,nk⟩:=h0
  subst uo
  unfold aS.pl61 at hp
  unfold aS.l61
  refine bif_ex (fun hb=>?_) (fun hb=>?_)
  ·replace hp:=bif_t hb hp
   obtain ⟨n1,g1,hp⟩:=bind_some' hp
   obtain ⟨p1,q1,i1,h1,j1⟩:=ROs.ixr nk rfl g1
   refine bind_ex i1 ?_
   have h1:_ = [_]:=h1
   subst h1
   refine bind_ex (ldI_of (j1 0 _ rfl)) ?_
   exact ih rfl ⟨w0,s0,nk⟩ hp
  ·replace hp:=bif_f hb hp
   obtain rfl:=Option.some.inj hp
   exact ⟨_,_,rfl,rfl,w0,s0,trivial⟩
def aS.pj1 (F:Nat)  (nR:List Int):Option (Int):=(ix nR 0).bind fun n1=>aS.pl61 F F nR (gt nR n1) 1
theorem aS.j1_P {F:Nat} {H0:Hp} {Ri R0:List Rs}   {QX:ON} {GH:Nat} {QY:Cap} {nR:List Int} {H:Hp} (acx:GH = nR.length) (h0:Out H0 Ri H R0 fun R=>ROs (eInt .i64) H R ⟨QX,GH,QY⟩ nR) {r:Int} (hp:aS.pj1 F  nR = some r):∃ v H',aS.j1 F   ⟨QX,GH,QY⟩ H = some (v,H')∧aS.Q H0 Ri R0  r v H':=by
 obtain ⟨w0,s0,QZ⟩:=h0
 subst acx
 unfold aS.pj1 at hp
 unfold aS.j1
 obtain ⟨n1,g1,hp⟩:=bind_some' hp
 obtain ⟨p1,q1,i1,h1,j1⟩:=ROs.ixr QZ rfl g1
 refine bind_ex i1 ?_
 have h1:_ = [_]:=h1
 subst h1
 refine bind_ex (ldI_of (j1 0 _ rfl)) ?_
 exact aS.l61_P F rfl ⟨w0,s0,QZ⟩ hp
def aS.p (F:Nat) (ae:List Int):Option (Int):=(bif (decide ((ae.length:Int) < 1)) then (none) else (aS.pj1 F ae))
theorem aS.P {F:Nat} {az:ON} {ap:Nat} {aA:Cap} {ae:List Int} {H:Hp} {R0:List Rs} (aW:ap = ae.length) (h0:Inn H R0 fun R=>ROs (eInt .i64) H R ⟨az,ap,aA⟩ ae) {r:Int} (hp:aS.p F ae = some r):∃ v H',aS.tw F ⟨az,ap,aA⟩ H = some (v,H')∧aS.Q H R0 R0  r v H':=by
 obtain ⟨w0,aK⟩:=h0
 subst aW
 unfold aS.p at hp
 unfold aS.tw aS.twX
 have s0:=w0.rf
 refine bif_ex (fun hb=>?_) (fun hb=>?_)
 ·replace hp:=bif_t hb hp
  cases hp
 ·replace hp:=bif_f hb hp
  exact aS.j1_P rfl ⟨w0,s0,aK⟩ hp
def bd.Q (H0:Hp) (Ri R0:List Rs)  (r:Int) (v:AV) (H':Hp):Prop:=v = (.int .i64 r)∧Out H0 Ri H' (R0) fun R=>True
def bd.p (F:Nat) (ae:List Int):Option (Int):=(bif ((ae.length:Int) == 0) then (some 0) else ((aS.p F ae).bind fun r1=>some (IntKind.i64.wrap (r1 + 1))))
theorem bd.P {F:Nat} {az:ON} {ap:Nat} {aA:Cap} {ae:List Int} {H:Hp} {R0:List Rs} (aW:ap = ae.length) (h0:Inn H R0 fun R=>ROs (eInt .i64) H R ⟨az,ap,aA⟩ ae) {r:Int} (hp:bd.p F ae = some r):∃ v H',bd.tw F ⟨az,ap,aA⟩ H = some (v,H')∧bd.Q H R0 R0  r v H':=by
 obtain ⟨w0,aK⟩:=h0
 subst aW
 unfold bd.p at hp
 unfold bd.tw bd.twX
 have s0:=w0.rf
 refine bif_ex (fun hb=>?_) (fun hb=>?_)
 ·replace hp:=bif_t hb hp
  obtain rfl:=Option.some.inj hp
  exact ⟨_,_,rfl,rfl,w0,s0,trivial⟩
 ·replace hp:=bif_f hb hp
  obtain ⟨r1,e1,hp⟩:=bind_some' hp
  refine call_ex (aS.P rfl ⟨w0,aK⟩ e1) ?_
  rintro _ H2 ⟨rfl,w2,s2,_⟩
  refine bind_ex rfl ?_
  obtain rfl:=Option.some.inj hp
  exact ⟨_,_,rfl,rfl,w2,(s0.trans s2),trivial⟩
def bI.Q (H0:Hp) (Ri R0:List Rs)  (r:(List (Int×Int))×(List (Int×Int))×Bool) (v:AV) (H':Hp):Prop:=∃ o0a:ON,∃ o0n:Nat,∃ o0c:Cap,∃ o1a:ON,∃ o1n:Nat,∃ o1c:Cap,v = (.tup [(.agg [(.sl ⟨o0a,o0n,o0c⟩),(.sl ⟨o1a,o1n,o1c⟩)]),(.bool r.2.2)])∧o0n = (r.1).length∧o1n = (r.2.1).length∧Out H0 Ri H' (R0) fun R=>ROs (ePair (eInt .i64) (eInt .i64)) H' R ⟨o0a,o0n,o0c⟩ (r.1)∧ROs (ePair (eInt .i64) (eInt .i64)) H' R ⟨o1a,o1n,o1c⟩ (r.2.1)
def bI.p (F:Nat) (ae:List (Int×Int×Int×Int×Int)) (ab:Int):Option ((List (Int×Int))×(List (Int×Int))×Bool):=(bq.p F ae).bind fun r3=>(bif (decide (r3 > 10)) then (some (([]:List (Int×Int)),([]:List (Int×Int)),false)) else ((bv.p F ab 0 8).bind fun r12=>(bif (!r12) then (some (([]:List (Int×Int)),([]:List (Int×Int)),false)) else ((bT.p F ae).bind fun r21=>(bif r21 then (some (([]:List (Int×Int)),([]:List (Int×Int)),false)) else ((aF.p F ae).bind fun r30=>(bif (!r30.2.2) then (some (([]:List (Int×Int)),([]:List (Int×Int)),false)) else ((aq.p F ae r30.1 r30.2.1).bind fun r44=>(ck.p F r44).bind fun r48=>(aH.p F ae r30.1 r30.2.1).bind fun r52=>(bd.p F r52).bind fun r55=>(bif (r48 != (IntKind.i64.wrap (r3 + (IntKind.i64.wrap (2 * r55))))) then (some (([]:List (Int×Int)),([]:List (Int×Int)),false)) else (some (r30.1,r30.2.1,true)))))))))))
theorem bI.P {F:Nat} {az:ON} {ap:Nat} {aA:Cap} {ae:List (Int×Int×Int×Int×Int)} {ab:Int} {H:Hp} {R0:List Rs} (aW:ap = ae.length) (h0:Inn H R0 fun R=>ROs (ePair (eInt .i64) (ePair (eInt .i64) (ePair (eInt .i64) (ePair (eInt .i64) (eInt .i64))))) H R ⟨az,ap,aA⟩ ae) {r:(List (Int×Int))×(List (Int×Int))×Bool} (hp:bI.p F ae ab = some r):∃ v H',bI.tw F ⟨az,ap,aA⟩ ab H = some (v,H')∧bI.Q H R0 R0  r v H':=by
 obtain ⟨w0,aK⟩:=h0
 subst aW
 unfold bI.p at hp
 unfold bI.tw bI.twX
 have s0:=w0.rf
 refine new_k w0 fun H1 w1 s1=>?_
 refine new_k w1 fun H2 w2 s2=>?_
 refine bind_ex (ldSl_of (w2.ld (i:=1) rfl rfl)) ?_
 obtain ⟨r3,e3,hp⟩:=bind_some' hp
 refine call_ex (bq.P rfl ⟨w2,(aK.step (s1.trans s2))⟩ e3) ?_
 rintro _ H4 ⟨rfl,w4,s4,_⟩
 refine bind_ex rfl ?_
 refine bif_ex (fun hb=>?_) (fun hb=>?_)
 ·replace hp:=bif_t hb hp
  refine st_k w4 (i:=0) rfl rfl rfl fun H5 w5 s5=>?_
  dsimp only [List.set] at w5 s5
  refine st_k w5 (i:=0) rfl rfl rfl fun H6 w6 s6=>?_
  dsimp only [List.set] at w6 s6
  refine bind_ex (ldSl_of (w6.ld (i:=0) rfl rfl)) ?_
  refine bind_ex (ldSl_of (w6.ld (i:=0) rfl rfl)) ?_
  obtain ⟨w7,s7⟩:=w6.nilS (ePair (eInt .i64) (eInt .i64)).z (by decide)
  obtain ⟨w8,s8⟩:=w7.nilS (ePair (eInt .i64) (eInt .i64)).z (by decide)
  obtain ⟨w9,s9,f9⟩:=w8.frz (i:=1) (ePair (eInt .i64) (eInt .i64)) rfl ((CR.empty:CR (ePair (eInt .i64) (eInt .i64)) _ _ [] []).step s8)
  dsimp only [List.eraseIdx] at w9 s9 f9
  obtain ⟨w10,s10,f10⟩:=w9.frz (i:=0) (ePair (eInt .i64) (eInt .i64)) rfl ((CR.empty:CR (ePair (eInt .i64) (eInt .i64)) _ _ [] []).step s9)
  dsimp only [List.eraseIdx] at w10 s10 f10
  obtain ⟨w11,s11⟩:=w10.pick' [] 2 rfl rfl rfl
  dsimp only [pk,pks,nth,List.drop] at w11 s11
  obtain rfl:=Option.some.inj hp
  exact ⟨_,_,rfl,_,_,_,_,_,_,rfl,rfl,rfl,w11,(s0.trans (s1.trans (s2.trans (s4.trans (s5.trans (s6.trans (s7.trans (s8.trans (s9.trans (s10.trans s11)))))))))),(f9.step (s10.trans s11)),(f10.step s11)⟩
 ·replace hp:=bif_f hb hp
  refine bind_ex (ldI_of (w4.ld (i:=1) rfl rfl)) ?_
  obtain ⟨r12,e12,hp⟩:=bind_some' hp
  refine call_ex (bv.P ⟨w4,trivial⟩ e12) ?_
  rintro _ H13 ⟨rfl,w13,s13,_⟩
  refine bind_ex rfl ?_
  refine bif_ex (fun hb=>?_) (fun hb=>?_)
  ·replace hp:=bif_t hb hp
   refine st_k w13 (i:=0) rfl rfl rfl fun H14 w14 s14=>?_
   dsimp only [List.set] at w14 s14
   refine st_k w14 (i:=0) rfl rfl rfl fun H15 w15 s15=>?_
   dsimp only [List.set] at w15 s15
   refine bind_ex (ldSl_of (w15.ld (i:=0) rfl rfl)) ?_
   refine bind_ex (ldSl_of (w15.ld (i:=0) rfl rfl)) ?_
   obtain ⟨w16,s16⟩:=w15.nilS (ePair (eInt .i64) (eInt .i64)).z (by decide)
   obtain ⟨w17,s17⟩:=w16.nilS (ePair (eInt .i64) (eInt .i64)).z (by decide)
   obtain ⟨w18,s18,f18⟩:=w17.frz (i:=1) (ePair (eInt .i64) (eInt .i64)) rfl ((CR.empty:CR (ePair (eInt .i64) (eInt .i64)) _ _ [] []).step s17)
   dsimp only [List.eraseIdx] at w18 s18 f18
   obtain ⟨w19,s19,f19⟩:=w18.frz (i:=0) (ePair (eInt .i64) (eInt .i64)) rfl ((CR.empty:CR (ePair (eInt .i64) (eInt .i64)) _ _ [] []).step s18)
   dsimp only [List.eraseIdx] at w19 s19 f19
   obtain ⟨w20,s20⟩:=w19.pick' [] 2 rfl rfl rfl
   dsimp only [pk,pks,nth,List.drop] at w20 s20
   obtain rfl:=Option.some.inj hp
   exact ⟨_,_,rfl,_,_,_,_,_,_,rfl,rfl,rfl,w20,(s0.trans (s1.trans (s2.trans (s4.trans (s13.trans (s14.trans (s15.trans (s16.trans (s17.trans (s18.trans (s19.trans s20))))))))))),(f18.step (s19.trans s20)),(f19.step s20)⟩
  ·replace hp:=bif_f hb hp
   refine bind_ex (ldSl_of (w13.ld (i:=1) rfl rfl)) ?_
   obtain ⟨r21,e21,hp⟩:=bind_some' hp
   refine call_ex (bT.P rfl ⟨w13,(aK.step (s1.trans (s2.trans (s4.trans s13))))⟩ e21) ?_
   rintro _ H22 ⟨rfl,w22,s22,_⟩
   refine bind_ex rfl ?_
   refine bif_ex (fun hb=>?_) (fun hb=>?_)
   ·replace hp:=bif_t hb hp
    refine st_k w22 (i:=0) rfl rfl rfl fun H23 w23 s23=>?_
    dsimp only [List.set] at w23 s23
    refine st_k w23 (i:=0) rfl rfl rfl fun H24 w24 s24=>?_
    dsimp only [List.set] at w24 s24
    refine bind_ex (ldSl_of (w24.ld (i:=0) rfl rfl)) ?_
    refine bind_ex (ldSl_of (w24.ld (i:=0) rfl rfl)) ?_
    obtain ⟨w25,s25⟩:=w24.nilS (ePair (eInt .i64) (eInt .i64)).z (by decide)
    obtain ⟨w26,s26⟩:=w25.nilS (ePair (eInt .i64) (eInt .i64)).z (by decide)
    obtain ⟨w27,s27,f27⟩:=w26.frz (i:=1) (ePair (eInt .i64) (eInt .i64)) rfl ((CR.empty:CR (ePair (eInt .i64) (eInt .i64)) _ _ [] []).step s26)
    dsimp only [List.eraseIdx] at w27 s27 f27
    obtain ⟨w28,s28,f28⟩:=w27.frz (i:=0) (ePair (eInt .i64) (eInt .i64)) rfl ((CR.empty:CR (ePair (eInt .i64) (eInt .i64)) _ _ [] []).step s27)
    dsimp only [List.eraseIdx] at w28 s28 f28
    obtain ⟨w29,s29⟩:=w28.pick' [] 2 rfl rfl rfl
    dsimp only [pk,pks,nth,List.drop] at w29 s29
    obtain rfl:=Option.some.inj hp
    exact ⟨_,_,rfl,_,_,_,_,_,_,rfl,rfl,rfl,w29,(s0.trans (s1.trans (s2.trans (s4.trans (s13.trans (s22.trans (s23.trans (s24.trans (s25.trans (s26.trans (s27.trans (s28.trans s29)))))))))))),(f27.step (s28.trans s29)),(f28.step s29)⟩
   ·replace hp:=bif_f hb hp
    refine bind_ex (ldSl_of (w22.ld (i:=1) rfl rfl)) ?_
    refine bind_ex (ldI_of (w22.ld (i:=1) rfl rfl)) ?_
    obtain ⟨r30,e30,hp⟩:=bind_some' hp
    refine call_ex (aF.P rfl ⟨w22,(aK.step (s1.trans (s2.trans (s4.trans (s13.trans s22)))))⟩ e30) ?_
    rintro _ H31 ⟨o0a_31,o0n_31,o0c_31,o0k_31,o1a_31,o1n_31,o1c_31,o1k_31,rfl,rfl,rfl,w31,s31,f31_0,f31_1⟩
    refine bind_ex rfl ?_
    refine bind_ex rfl ?_
    refine bind_ex rfl ?_
    refine bind_ex rfl ?_
    refine bind_ex rfl ?_
    refine bind_ex rfl ?_
    refine bind_ex rfl ?_
    refine bind_ex rfl ?_
    refine bind_ex rfl ?_
    refine new_k w31 fun H32 w32 s32=>?_
    refine st_k w32 (i:=0) rfl rfl rfl fun H33 w33 s33=>?_
    dsimp only [List.set] at w33 s33
    refine st_k w33 (i:=0) rfl rfl rfl fun H34 w34 s34=>?_
    dsimp only [List.set] at w34 s34
    refine bif_ex (fun hb=>?_) (fun hb=>?_)
    ·replace hp:=bif_t hb hp
     refine st_k w34 (i:=3) rfl rfl rfl fun H35 w35 s35=>?_
     dsimp only [List.set] at w35 s35
     refine st_k w35 (i:=3) rfl rfl rfl fun H36 w36 s36=>?_
     dsimp only [List.set] at w36 s36
     refine bind_ex (ldSl_of (w36.ld (i:=3) rfl rfl)) ?_
     refine bind_ex (ldSl_of (w36.ld (i:=3) rfl rfl)) ?_
     obtain ⟨w37,s37⟩:=w36.nilS (ePair (eInt .i64) (eInt .i64)).z (by decide)
     obtain ⟨w38,s38⟩:=w37.nilS (ePair (eInt .i64) (eInt .i64)).z (by decide)
     obtain ⟨w39,s39,f39⟩:=w38.frz (i:=1) (ePair (eInt .i64) (eInt .i64)) rfl ((CR.empty:CR (ePair (eInt .i64) (eInt .i64)) _ _ [] []).step s38)
     dsimp only [List.eraseIdx] at w39 s39 f39
     obtain ⟨w40,s40,f40⟩:=w39.frz (i:=0) (ePair (eInt .i64) (eInt .i64)) rfl ((CR.empty:CR (ePair (eInt .i64) (eInt .i64)) _ _ [] []).step s39)
     dsimp only [List.eraseIdx] at w40 s40 f40
     obtain ⟨w41,s41⟩:=w40.pick' [] 5 rfl rfl rfl
     dsimp only [pk,pks,nth,List.drop] at w41 s41
     obtain rfl:=Option.some.inj hp
     exact ⟨_,_,rfl,_,_,_,_,_,_,rfl,rfl,rfl,w41,(s0.trans (s1.trans (s2.trans (s4.trans (s13.trans (s22.trans (s31.trans (s32.trans (s33.trans (s34.trans (s35.trans (s36.trans (s37.trans (s38.trans (s39.trans (s40.trans s41)))))))))))))))),(f39.step (s40.trans s41)),(f40.step s41)⟩
    ·replace hp:=bif_f hb hp
     refine bind_ex (ldSl_of (w34.ld (i:=4) rfl rfl)) ?_
     refine bind_ex (ldI_of (w34.ld (i:=4) rfl rfl)) ?_
     refine bind_ex (ldSl_of (w34.ld (i:=0) rfl rfl)) ?_
     refine bind_ex (ldSl_of (w34.ld (i:=0) rfl rfl)) ?_
     obtain ⟨w42,s42,f42⟩:=w34.frz (i:=1) (ePair (eInt .i64) (eInt .i64)) rfl (f31_0.step (s32.trans (s33.trans s34)))
     dsimp only [List.eraseIdx] at w42 s42 f42
     obtain ⟨w43,s43,f43⟩:=w42.frz (i:=1) (ePair (eInt .i64) (eInt .i64)) rfl (f31_1.step (s32.trans (s33.trans (s34.trans s42))))
     dsimp only [List.eraseIdx] at w43 s43 f43
     obtain ⟨r44,e44,hp⟩:=bind_some' hp
     refine call_ex (aq.P rfl rfl rfl ⟨w43,(aK.step (s1.trans (s2.trans (s4.trans (s13.trans (s22.trans (s31.trans (s32.trans (s33.trans (s34.trans (s42.trans s43))))))))))),(f42.step s43),f43⟩ e44) ?_
     rintro _ H45 ⟨o0a_45,o0n_45,o0c_45,o0k_45,rfl,rfl,w45,s45,f45_0⟩
     refine bind_ex rfl ?_
     refine ifs_ex (Cons.tr (Cons.refl _) s42 (Cons.tr (Cons.refl _) s43 (W.cons_of (Rn:=[_]) w43 w45 s45))) ?_
     have f47:=W.borrow1 (eSl (eInt .i64)) w45 f45_0
     obtain ⟨w47,s47⟩:=w45.right1
     obtain ⟨r48,e48,hp⟩:=bind_some' hp
     refine call_ex (ck.P rfl ⟨w47,f47⟩ e48) ?_
     rintro _ H49 ⟨rfl,w49,s49,_⟩
     obtain ⟨w50,s50⟩:=W.frame1 w45 w49 s49
     refine bind_ex rfl ?_
     refine ifs_ex (W.cons_of (Rn:=[]) w47 w49 s49) ?_
     refine bind_ex (ldSl_of (w50.ld (i:=3) rfl rfl)) ?_
     refine bind_ex (ldI_of (w50.ld (i:=3) rfl rfl)) ?_
     refine bind_ex (ldSl_of (w50.ld (i:=1) rfl rfl)) ?_
     refine bind_ex (ldSl_of (w50.ld (i:=1) rfl rfl)) ?_
     obtain ⟨r52,e52,hp⟩:=bind_some' hp
     refine call_ex (aH.P rfl rfl rfl ⟨w50,(aK.step (s1.trans (s2.trans (s4.trans (s13.trans (s22.trans (s31.trans (s32.trans (s33.trans (s34.trans (s42.trans (s43.trans (s45.trans s50))))))))))))),(f42.step (s43.trans (s45.trans s50))),(f43.step (s45.trans s50))⟩ e52) ?_
     rintro _ H53 ⟨o0a_53,o0n_53,o0c_53,o0k_53,rfl,rfl,w53,s53,f53_0⟩
     refine bind_ex rfl ?_
     have f54:=W.borrow1 (eInt .i64) w53 f53_0
     obtain ⟨w54,s54⟩:=w53.right1
     obtain ⟨r55,e55,hp⟩:=bind_some' hp
     refine call_ex (bd.P rfl ⟨w54,f54⟩ e55) ?_
     rintro _ H56 ⟨rfl,w56,s56,_⟩
     obtain ⟨w57,s57⟩:=W.frame1 w53 w56 s56
     refine bind_ex rfl ?_
     refine bif_ex (fun hb=>?_) (fun hb=>?_)
     ·replace hp:=bif_t hb hp
      refine st_k w57 (i:=3) rfl rfl rfl fun H58 w58 s58=>?_
      dsimp only [List.set] at w58 s58
      refine st_k w58 (i:=3) rfl rfl rfl fun H59 w59 s59=>?_
      dsimp only [List.set] at w59 s59
      refine bind_ex (ldSl_of (w59.ld (i:=3) rfl rfl)) ?_
      refine bind_ex (ldSl_of (w59.ld (i:=3) rfl rfl)) ?_
      obtain ⟨w60,s60⟩:=w59.nilS (ePair (eInt .i64) (eInt .i64)).z (by decide)
      obtain ⟨w61,s61⟩:=w60.nilS (ePair (eInt .i64) (eInt .i64)).z (by decide)
      obtain ⟨w62,s62,f62⟩:=w61.frz (i:=1) (ePair (eInt .i64) (eInt .i64)) rfl ((CR.empty:CR (ePair (eInt .i64) (eInt .i64)) _ _ [] []).step s61)
      dsimp only [List.eraseIdx] at w62 s62 f62
      obtain ⟨w63,s63,f63⟩:=w62.frz (i:=0) (ePair (eInt .i64) (eInt .i64)) rfl ((CR.empty:CR (ePair (eInt .i64) (eInt .i64)) _ _ [] []).step s62)
      dsimp only [List.eraseIdx] at w63 s63 f63
      obtain ⟨w64,s64⟩:=w63.pick' [] 5 rfl rfl rfl
      dsimp only [pk,pks,nth,List.drop] at w64 s64
      obtain rfl:=Option.some.inj hp
      exact ⟨_,_,rfl,_,_,_,_,_,_,rfl,rfl,rfl,w64,(s0.trans (s1.trans (s2.trans (s4.trans (s13.trans (s22.trans (s31.trans (s32.trans (s33.trans (s34.trans (s42.trans (s43.trans (s45.trans (s50.trans (s53.trans (s57.trans (s58.trans (s59.trans (s60.trans (s61.trans (s62.trans (s63.trans s64)))))))))))))))))))))),(f62.step (s63.trans s64)),(f63.step s64)⟩
     ·replace hp:=bif_f hb hp
      refine bind_ex (ldSl_of (w57.ld (i:=2) rfl rfl)) ?_
      refine bind_ex (ldSl_of (w57.ld (i:=2) rfl rfl)) ?_
      refine st_k w57 (i:=3) rfl rfl rfl fun H65 w65 s65=>?_
      dsimp only [List.set] at w65 s65
      refine st_k w65 (i:=3) rfl rfl rfl fun H66 w66 s66=>?_
      dsimp only [List.set] at w66 s66
      refine bind_ex (ldSl_of (w66.ld (i:=3) rfl rfl)) ?_
      refine bind_ex (ldSl_of (w66.ld (i:=3) rfl rfl)) ?_
      obtain ⟨w67,s67⟩:=w66.pick' [] 5 rfl rfl rfl
      dsimp only [pk,pks,nth,List.drop] at w67 s67
      obtain rfl:=Option.some.inj hp
      exact ⟨_,_,rfl,_,_,_,_,_,_,rfl,rfl,rfl,w67,(s0.trans (s1.trans (s2.trans (s4.trans (s13.trans (s22.trans (s31.trans (s32.trans (s33.trans (s34.trans (s42.trans (s43.trans (s45.trans (s50.trans (s53.trans (s57.trans (s65.trans (s66.trans s67)))))))))))))))))),(f42.step (s43.trans (s45.trans (s50.trans (s53.trans (s57.trans (s65.trans (s66.trans s67)))))))),(f43.step (s45.trans (s50.trans (s53.trans (s57.trans (s65.trans (s66.trans s67)))))))⟩
def b_.Q (H0:Hp) (Ri R0:List Rs)  (r:Bool) (v:AV) (H':Hp):Prop:=v = (.bool r)∧Out H0 Ri H' (R0) fun R=>True
def b_.p (F:Nat) (aa:Int):Option (Bool):=(bif (aa == 0) then (some true) else (some (aa == 1)))
theorem b_.P {F:Nat} {aa:Int} {H:Hp} {R0:List Rs}  (h0:Inn H R0 fun R=>True) {r:Bool} (hp:b_.p F aa = some r):∃ v H',b_.tw F aa H = some (v,H')∧b_.Q H R0 R0  r v H':=by
 obtain ⟨w0,_⟩:=h0
 unfold b_.p at hp
 unfold b_.tw b_.twX
 have s0:=w0.rf
 refine bif_ex (fun hb=>?_) (fun hb=>?_)
 ·replace hp:=bif_t hb hp
  obtain rfl:=Option.some.inj hp
  exact ⟨_,_,rfl,rfl,w0,s0,trivial⟩
 ·replace hp:=bif_f hb hp
  obtain rfl:=Option.some.inj hp
  exact ⟨_,_,rfl,rfl,w0,s0,trivial⟩
def cc.Q (H0:Hp) (Ri R0:List Rs)  (r:Bool) (v:AV) (H':Hp):Prop:=v = (.bool r)∧Out H0 Ri H' (R0) fun R=>True
def cc.p (F:Nat) (ae:List (Int×Int×Int×Int×Int)) (ab:Int) (cl:List (Int×Int)) (cr:List (Int×Int)):Option (Bool):=(aH.p F ae cl cr).bind fun r3=>(bd.p F r3).bind fun r6=>(bif (r6 == 1) then (some (ab == 0)) else (some false))
theorem cc.P {F:Nat} {az dL eH:ON} {ap cN cX:Nat} {aA dM eI:Cap} {ae:List (Int×Int×Int×Int×Int)} {ab:Int} {cl cr:List (Int×Int)} {H:Hp} {R0:List Rs} (aW:ap = ae.length) (hO:cN = cl.length) (iz:cX = cr.length) (h0:Inn H R0 fun R=>ROs (ePair (eInt .i64) (ePair (eInt .i64) (ePair (eInt .i64) (ePair (eInt .i64) (eInt .i64))))) H R ⟨az,ap,aA⟩ ae∧ROs (ePair (eInt .i64) (eInt .i64)) H R ⟨dL,cN,dM⟩ cl∧ROs (ePair (eInt .i64) (eInt .i64)) H R ⟨eH,cX,eI⟩ cr) {r:Bool} (hp:cc.p F ae ab cl cr = some r):∃ v H',cc.tw F ⟨az,ap,aA⟩ ab ⟨dL,cN,dM⟩ ⟨eH,cX,eI⟩ H = some (v,H')∧cc.Q H R0 R0  r v H':=by
 obtain ⟨w0,aK,fw,fY⟩:=h0
 subst aW
 subst hO
 subst iz
 unfold cc.p at hp
 unfold cc.tw cc.twX
 have s0:=w0.rf
 refine new_k w0 fun H1 w1 s1=>?_
 refine new_k w1 fun H2 w2 s2=>?_
 refine bind_ex (ldSl_of (w2.ld (i:=1) rfl rfl)) ?_
 refine bind_ex (ldI_of (w2.ld (i:=1) rfl rfl)) ?_
 refine bind_ex (ldSl_of (w2.ld (i:=0) rfl rfl)) ?_
 refine bind_ex (ldSl_of (w2.ld (i:=0) rfl rfl)) ?_
 obtain ⟨r3,e3,hp⟩:=bind_some' hp
 refine call_ex (aH.P rfl rfl rfl ⟨w2,(aK.step (s1.trans s2)),(fw.step (s1.trans s2)),(fY.step (s1.trans s2))⟩ e3) ?_
 rintro _ H4 ⟨o0a_4,o0n_4,o0c_4,o0k_4,rfl,rfl,w4,s4,f4_0⟩
 refine bind_ex rfl ?_
 have f5:=W.borrow1 (eInt .i64) w4 f4_0
 obtain ⟨w5,s5⟩:=w4.right1
 obtain ⟨r6,e6,hp⟩:=bind_some' hp
 refine call_ex (bd.P rfl ⟨w5,f5⟩ e6) ?_
 rintro _ H7 ⟨rfl,w7,s7,_⟩
 obtain ⟨w8,s8⟩:=W.frame1 w4 w7 s7
 refine bind_ex rfl ?_
 refine bif_ex (fun hb=>?_) (fun hb=>?_)
 ·replace hp:=bif_t hb hp
  refine bind_ex (ldI_of (w8.ld (i:=2) rfl rfl)) ?_
  obtain ⟨w9,s9⟩:=w8.pick' [] 3 rfl rfl rfl
  dsimp only [pk,pks,nth,List.drop] at w9 s9
  obtain rfl:=Option.some.inj hp
  exact ⟨_,_,rfl,rfl,w9,(s0.trans (s1.trans (s2.trans (s4.trans (s8.trans s9))))),trivial⟩
 ·replace hp:=bif_f hb hp
  obtain ⟨w10,s10⟩:=w8.pick' [] 3 rfl rfl rfl
  dsimp only [pk,pks,nth,List.drop] at w10 s10
  obtain rfl:=Option.some.inj hp
  exact ⟨_,_,rfl,rfl,w10,(s0.trans (s1.trans (s2.trans (s4.trans (s8.trans s10))))),trivial⟩
def au.Q (H0:Hp) (Ri R0:List Rs)  (r:List Int) (v:AV) (H':Hp):Prop:=∃ o0a:ON,∃ o0n:Nat,∃ o0c:Cap,∃ o0k:List AV,v = (.sl ⟨o0a,o0n,o0c⟩)∧o0n = (r).length∧Out H0 Ri H' (Rs.own ⟨o0a,o0n,o0c⟩ (eInt .i64).z o0k :: R0) fun R=>CR (eInt .i64) H' R o0k (r)
def au.S29 (H0:Hp) (Ri R0:List Rs)  (C:Sl→Sl→Int→Int→Hp→OA) (pC:List Int→List (List Int)→Int→Int→Option (List Int)):Prop:=∀ {lD A_:ON} {kz uv:Nat} {lE Ba:Cap} {gx:List Int} {lF Bb:List AV} {lj:List (List Int)} {gm fk:Int},∀ {H:Hp},kz = gx.length→uv = lj.length→(Out H0 Ri H (Rs.own ⟨lD,kz,lE⟩ (eInt .i64).z lF :: Rs.own ⟨A_,uv,Ba⟩ (eSl (eInt .i64)).z Bb :: R0) fun R=>CR (eInt .i64) H R lF gx∧CR (eSl (eInt .i64)) H R Bb lj)→∀ {r:List Int},pC gx lj gm fk = some r→∃ v H',C ⟨lD,kz,lE⟩ ⟨A_,uv,Ba⟩ gm fk H = some (v,H')∧au.Q H0 Ri R0  r v H'
def au.S1883 (H0:Hp) (Ri R0:List Rs)  (C:Sl→Sl→Int→Int→Int→Sl→Int→Int→Hp→OA) (pC:List Int→List (List Int)→Int→Int→Int→List Int→Int→Int→Option (List Int)):Prop:=∀ {Bc Bd Be:ON} {uw ux uy:Nat} {Bf Bg Bh:Cap} {lW lX:List Int} {Bi Bj:List AV} {nl:List (List Int)} {fj fD eb gl fT:Int},∀ {H:Hp},uw = lW.length→ux = nl.length→uy = lX.length→(Out H0 Ri H (Rs.own ⟨Bc,uw,Bf⟩ (eInt .i64).z Bi :: Rs.own ⟨Bd,ux,Bg⟩ (eSl (eInt .i64)).z Bj :: R0) fun R=>CR (eInt .i64) H R Bi lW∧CR (eSl (eInt .i64)) H R Bj nl∧ROs (eInt .i64) H R ⟨Be,uy,Bh⟩ lX)→∀ {r:List Int},pC lW nl fj fD eb lX gl fT = some r→∃ v H',C ⟨Bc,uw,Bf⟩ ⟨Bd,ux,Bg⟩ fj fD eb ⟨Be,uy,Bh⟩ gl fT H = some (v,H')∧au.Q H0 Ri R0  r v H'
def au.pj3 (F:Nat) (iB:List Int→List (List Int)→Int→Int→Option (List Int)) (uz:List Int) (uA:List (List Int)) (pe:Int) (pf:Int):Option (List Int):=iB uz uA pe (IntKind.i64.wrap (pf + 1))
theorem au.j3_P {F:Nat} {H0:Hp} {Ri R0:List Rs}  {C29_:Sl→Sl→Int→Int→Hp→OA} {iB:List Int→List (List Int)→Int→Int→Option (List Int)} (hC29:au.S29 H0 Ri R0  C29_ iB) {Q_ Ra:ON} {GI GJ:Nat} {Rb Rc:Cap} {uz:List Int} {Rd Re:List AV} {uA:List (List Int)} {pe pf:Int} {H:Hp} (acy:GI = uz.length) (acz:GJ = uA.length) (h0:Out H0 Ri H (Rs.own ⟨Q_,GI,Rb⟩ (eInt .i64).z Rd :: Rs.own ⟨Ra,GJ,Rc⟩ (eSl (eInt .i64)).z Re :: R0) fun R=>CR (eInt .i64) H R Rd uz∧CR (eSl (eInt .i64)) H R Re uA) {r:List Int} (hp:au.pj3 F iB uz uA pe pf = some r):∃ v H',au.j3 F (aq.tw F) C29_ ⟨Q_,GI,Rb⟩ ⟨Ra,GJ,Rc⟩ pe pf H = some (v,H')∧au.Q H0 Ri R0  r v H':=by
 obtain ⟨w0,s0,acA,acB⟩:=h0
 subst acy
 subst acz
 unfold au.pj3 at hp
 unfold au.j3
 exact hC29 rfl rfl ⟨w0,s0,acA,acB⟩ hp
def au.pj4 (F:Nat) (iB:List Int→List (List Int)→Int→Int→Option (List Int)) (uB:List Int) (uC:List (List Int)) (pg:Int) (ph:Int):Option (List Int):=au.pj3 F iB uB uC pg ph
theorem au.j4_P {F:Nat} {H0:Hp} {Ri R0:List Rs}  {C29_:Sl→Sl→Int→Int→Hp→OA} {iB:List Int→List (List Int)→Int→Int→Option (List Int)} (hC29:au.S29 H0 Ri R0  C29_ iB) {Rf Rh:ON} {GK GL:Nat} {Rj Rk:Cap} {uB:List Int} {Rl Rm:List AV} {uC:List (List Int)} {pg ph:Int} {H:Hp} (acC:GK = uB.length) (acD:GL = uC.length) (h0:Out H0 Ri H (Rs.own ⟨Rf,GK,Rj⟩ (eInt .i64).z Rl :: Rs.own ⟨Rh,GL,Rk⟩ (eSl (eInt .i64)).z Rm :: R0) fun R=>CR (eInt .i64) H R Rl uB∧CR (eSl (eInt .i64)) H R Rm uC) {r:List Int} (hp:au.pj4 F iB uB uC pg ph = some r):∃ v H',au.j4 F (aq.tw F) C29_ ⟨Rf,GK,Rj⟩ ⟨Rh,GL,Rk⟩ pg ph H = some (v,H')∧au.Q H0 Ri R0  r v H':=by
 obtain ⟨w0,s0,acE,acF⟩:=h0
 subst acC
 subst acD
 unfold au.pj4 at hp
 unfold au.j4
 exact au.j3_P (@hC29) rfl rfl ⟨w0,s0,acE,acF⟩ hp
def au.pl1883 (F:Nat) (iB:List Int→List (List Int)→Int→Int→Option (List Int)):Nat→List Int→List (List Int)→Int→Int→Int→List Int→Int→Int→Option (List Int)
 | 0,_,_,_,_,_,_,_,_=>none
 | k + 1,lW,nl,fj,fD,eb,lX,gl,fT=>(bif (decide (fT < gl)) then ((ix lX fT).bind fun n1=>(ix lW (gt lX n1)).bind fun n2=>(some (lW.set n2 eb)).bind fun l3=>au.pl1883 F iB k l3 nl fj fD eb lX gl (IntKind.i64.wrap (fT + 1))) else (au.pj4 F iB lW nl fj fD))
termination_by structural n=>n
theorem au.l1883_P {F:Nat} {H0:Hp} {Ri R0:List Rs}  {C29_:Sl→Sl→Int→Int→Hp→OA} {iB:List Int→List (List Int)→Int→Int→Option (List Int)} (hC29:au.S29 H0 Ri R0  C29_ iB):∀ k,au.S1883 H0 Ri R0  (au.l1883 F (aq.tw F) C29_ k) (au.pl1883 F iB k):=by
 intro k
 induction k with
 | zero=>
  intro Bc Bd Be uw ux uy Bf Bg Bh lW lX Bi Bj nl fj fD eb gl fT H Rp Rq Rr h0 r hp
  exact nomatch (show (none:Option (List Int)) = some r from hp)
 | succ k ih=>
  intro Bc Bd Be uw ux uy Bf Bg Bh lW lX Bi Bj nl fj fD eb gl fT H Rp Rq Rr h0 r hp
  obtain ⟨w0,s0,GM,Rt,Ru⟩:=h0
  subst Rp
  subst Rq
  subst Rr
  unfold au.pl1883 at hp
  unfold au.l1883
  refine bif_ex (fun hb=>?_) (fun hb=>?_)
  ·replace hp:=bif_t hb hp
   obtain ⟨n1,g1,hp⟩:=bind_some' hp
   obtain ⟨p1,q1,i1,h1,j1⟩:=ROs.ixr Ru rfl g1
   refine bind_ex i1 ?_
   have h1:_ = [_]:=h1
   subst h1
   refine bind_ex (ldI_of (j1 0 _ rfl)) ?_
   obtain ⟨n2,g2,hp⟩:=bind_some' hp
   obtain ⟨p2,q2,i2,h2,j2⟩:=W.ixo (E:=(eInt .i64)) w0 (i:=0) rfl rfl GM g2
   refine bind_ex i2 ?_
   obtain ⟨l3,e3,hp⟩:=bind_some' hp
   refine sto_k (eInt .i64) w0 (i:=0) (j:=0) (p:=p2) rfl rfl GM g2 i2 e3 rfl rfl (fun _ h=>by have h:_ = [_]:=h; subst h; exact rfl) fun H4 k4 w4 s4 c4=>?_
   dsimp only [List.set] at w4 s4 c4
   exact ih ((st_len e3).symm) rfl rfl ⟨w4,(s0.trans s4),c4,(Rt.step s4),(Ru.step s4)⟩ hp
  ·replace hp:=bif_f hb hp
   exact au.j4_P (@hC29) rfl rfl ⟨w0,s0,GM,Rt⟩ hp
def au.pl29 (F:Nat) :Nat→List Int→List (List Int)→Int→Int→Option (List Int)
 | 0,_,_,_,_=>none
 | k + 1,gx,lj,gm,fk=>(bif (decide (fk < gm)) then ((ix lj fk).bind fun n1=>au.pl1883 F (au.pl29 F k) F gx lj gm fk fk (gt lj n1) (((gt lj n1).length):Int) 0) else (some gx))
termination_by structural n=>n
theorem au.l29_P {F:Nat} {H0:Hp} {Ri R0:List Rs}  :∀ k,au.S29 H0 Ri R0  (au.l29 F (aq.tw F)  k) (au.pl29 F  k):=by
 intro k
 induction k with
 | zero=>
  intro lD A_ kz uv lE Ba gx lF Bb lj gm fk H sv Rv h0 r hp
  exact nomatch (show (none:Option (List Int)) = some r from hp)
 | succ k ih=>
  intro lD A_ kz uv lE Ba gx lF Bb lj gm fk H sv Rv h0 r hp
  obtain ⟨w0,s0,pR,Rw⟩:=h0
  subst sv
  subst Rv
  unfold au.pl29 at hp
  unfold au.l29
  refine bif_ex (fun hb=>?_) (fun hb=>?_)
  ·replace hp:=bif_t hb hp
   obtain ⟨n1,g1,hp⟩:=bind_some' hp
   obtain ⟨p1,q1,i1,h1,j1⟩:=W.ixo (E:=(eSl (eInt .i64))) w0 (i:=1) rfl rfl Rw g1
   refine bind_ex i1 ?_
   obtain ⟨⟨Zn,m1_0,c1_0⟩,rfl,f1_0⟩:=h1
   obtain rfl:m1_0 = _:=f1_0.n
   refine bind_ex (ldSl_of (j1 0 _ rfl)) ?_
   exact au.l1883_P (@ih) F rfl rfl rfl ⟨w0,s0,pR,Rw,f1_0⟩ hp
  ·replace hp:=bif_f hb hp
   obtain ⟨w2,s2⟩:=w0.pick' [0] 2 rfl rfl rfl
   dsimp only [pk,pks,nth,List.drop] at w2 s2
   obtain rfl:=Option.some.inj hp
   exact ⟨_,_,rfl,_,_,_,_,rfl,rfl,w2,(s0.trans s2),(pR.step s2)⟩
def au.p (F:Nat) (ae:List (Int×Int×Int×Int×Int)) (cl:List (Int×Int)) (cr:List (Int×Int)):Option (List Int):=(mkn (IntKind.i64.wrap (4 * (ae.length:Int))) (0:Int)).bind fun l3=>(aq.p F ae cl cr).bind fun r5=>au.pl29 F F l3 r5 (r5.length:Int) 0
theorem au.P {F:Nat} {az dL eH:ON} {ap cN cX:Nat} {aA dM eI:Cap} {ae:List (Int×Int×Int×Int×Int)} {ab:Int} {cl cr:List (Int×Int)} {H:Hp} {R0:List Rs} (aW:ap = ae.length) (hO:cN = cl.length) (iz:cX = cr.length) (h0:Inn H R0 fun R=>ROs (ePair (eInt .i64) (ePair (eInt .i64) (ePair (eInt .i64) (ePair (eInt .i64) (eInt .i64))))) H R ⟨az,ap,aA⟩ ae∧ROs (ePair (eInt .i64) (eInt .i64)) H R ⟨dL,cN,dM⟩ cl∧ROs (ePair (eInt .i64) (eInt .i64)) H R ⟨eH,cX,eI⟩ cr) {r:List Int} (hp:au.p F ae cl cr = some r):∃ v H',au.tw F ⟨az,ap,aA⟩ ab ⟨dL,cN,dM⟩ ⟨eH,cX,eI⟩ H = some (v,H')∧au.Q H R0 R0  r v H':=by
 obtain ⟨w0,aK,fw,fY⟩:=h0
 subst aW
 subst hO
 subst iz
 unfold au.p at hp
 unfold au.tw au.twX
 have s0:=w0.rf
 refine new_k w0 fun H1 w1 s1=>?_
 refine new_k w1 fun H2 w2 s2=>?_
 refine bind_ex (ldSl_of (w2.ld (i:=1) rfl rfl)) ?_
 obtain ⟨l3,e3,hp⟩:=bind_some' hp
 refine mk_k (eInt .i64) (0:Int) w2 rfl rfl rfl e3 fun H4 k4 w4 s4 c4=>?_
 refine bind_ex (ldSl_of (w4.ld (i:=2) rfl rfl)) ?_
 refine bind_ex (ldI_of (w4.ld (i:=2) rfl rfl)) ?_
 refine bind_ex (ldSl_of (w4.ld (i:=1) rfl rfl)) ?_
 refine bind_ex (ldSl_of (w4.ld (i:=1) rfl rfl)) ?_
 obtain ⟨r5,e5,hp⟩:=bind_some' hp
 refine call_ex (aq.P rfl rfl rfl ⟨w4,(aK.step (s1.trans (s2.trans s4))),(fw.step (s1.trans (s2.trans s4))),(fY.step (s1.trans (s2.trans s4)))⟩ e5) ?_
 rintro _ H6 ⟨o0a_6,o0n_6,o0c_6,o0k_6,rfl,rfl,w6,s6,f6_0⟩
 refine bind_ex rfl ?_
 obtain ⟨w7,s7⟩:=w6.pick' [1,0] 4 rfl rfl rfl
 dsimp only [pk,pks,nth,List.drop] at w7 s7
 exact au.l29_P F rfl rfl ⟨w7,(s0.trans (s1.trans (s2.trans (s4.trans (s6.trans s7))))),(c4.step (s6.trans s7)),(f6_0.step s7)⟩ hp
def aO.Q (H0:Hp) (Ri R0:List Rs)  (r:List Int) (v:AV) (H':Hp):Prop:=∃ o0a:ON,∃ o0n:Nat,∃ o0k:List AV,v = (.sl ⟨o0a,o0n,.ex o0n⟩)∧o0n = (r).length∧Out H0 Ri H' (Rs.own ⟨o0a,o0n,.ex o0n⟩ (eInt .i64).z o0k :: R0) fun R=>CR (eInt .i64) H' R o0k (r)
def aO.pj1 (F:Nat)  (jr:List Int) (iq:Int):Option (List Int):=(mkn (IntKind.i64.wrap iq) (0:Int)).bind fun l1=>(some (cpl l1 jr)).bind fun l3=>(rept F l3 ((min jr.length l1.length:Nat):Int)).bind fun l5=>some l5
theorem aO.j1_P {F:Nat} {H0:Hp} {Ri R0:List Rs}   {tC:ON} {nL:Nat} {tD:Cap} {jr:List Int} {iq:Int} {H:Hp} (Ga:nL = jr.length) (h0:Out H0 Ri H R0 fun R=>ROs (eInt .i64) H R ⟨tC,nL,tD⟩ jr) {r:List Int} (hp:aO.pj1 F  jr iq = some r):∃ v H',aO.j1 F (bits_Mul.tw F)  ⟨tC,nL,tD⟩ iq H = some (v,H')∧aO.Q H0 Ri R0  r v H':=by
 obtain ⟨w0,s0,Gb⟩:=h0
 subst Ga
 unfold aO.pj1 at hp
 unfold aO.j1
 obtain ⟨l1,e1,hp⟩:=bind_some' hp
 refine mk_k (eInt .i64) (0:Int) w0 rfl rfl rfl e1 fun H2 k2 w2 s2 c2=>?_
 obtain ⟨x3,h3,c3⟩:=(Gb.step s2).row (z:=(eInt .i64).z) rfl
 obtain ⟨l3,e3,hp⟩:=bind_some' hp
 refine cpy_k (eInt .i64) w2 (i:=0) rfl rfl c2 h3 c3 rfl rfl e3 fun k4 H4 w4 s4 c4=>?_
 dsimp only [List.set] at w4 s4 c4
 obtain ⟨l5,e5,hp⟩:=bind_some' hp
 refine rept_K (eInt .i64) rfl (L:=aO.l254 F (bits_Mul.tw F)) (fun _ _ _ _=>rfl) w4 (i:=0) rfl c4 e5 fun H6 k6 w6 s6 c6=>?_
 dsimp only [List.set] at w6 s6 c6
 obtain rfl:=Option.some.inj hp
 exact ⟨_,_,rfl,_,_,_,rfl,((cpl_len e3).symm.trans (rept_len e5).symm),w6,(s0.trans (s2.trans (s4.trans s6))),c6⟩
def aO.pj2 (F:Nat)  (js:List Int) (jd:Int):Option (List Int):=(bits_Mul.p F (IntKind.u64.wrap (js.length:Int)) (IntKind.u64.wrap jd)).bind fun r1=>(bif (decide (r1.1 > 0)) then (none) else ((bif (decide (r1.2 > 9223372036854775807)) then (none) else (aO.pj1 F js r1.2))))
theorem aO.j2_P {F:Nat} {H0:Hp} {Ri R0:List Rs}   {tE:ON} {nM:Nat} {tF:Cap} {js:List Int} {jd:Int} {H:Hp} (Gc:nM = js.length) (h0:Out H0 Ri H R0 fun R=>ROs (eInt .i64) H R ⟨tE,nM,tF⟩ js) {r:List Int} (hp:aO.pj2 F  js jd = some r):∃ v H',aO.j2 F (bits_Mul.tw F)  ⟨tE,nM,tF⟩ jd H = some (v,H')∧aO.Q H0 Ri R0  r v H':=by
 obtain ⟨w0,s0,Gd⟩:=h0
 subst Gc
 unfold aO.pj2 at hp
 unfold aO.j2
 obtain ⟨r1,e1,hp⟩:=bind_some' hp
 refine call_ex (bits_Mul.P ⟨w0,trivial⟩ e1) ?_
 rintro _ H2 ⟨rfl,w2,s2,_⟩
 refine bind_ex rfl ?_
 refine bind_ex rfl ?_
 refine bind_ex rfl ?_
 refine bind_ex rfl ?_
 refine bind_ex rfl ?_
 refine bif_ex (fun hb=>?_) (fun hb=>?_)
 ·replace hp:=bif_t hb hp
  cases hp
 ·replace hp:=bif_f hb hp
  refine bif_ex (fun hb=>?_) (fun hb=>?_)
  ·replace hp:=bif_t hb hp
   cases hp
  ·replace hp:=bif_f hb hp
   exact aO.j1_P rfl ⟨w2,(s0.trans s2),(Gd.step s2)⟩ hp
def aO.p (F:Nat) (ae:List Int) (af:Int):Option (List Int):=(bif (decide (af < 0)) then (none) else (aO.pj2 F ae af))
theorem aO.P {F:Nat} {az:ON} {ap:Nat} {aA:Cap} {ae:List Int} {af:Int} {H:Hp} {R0:List Rs} (aW:ap = ae.length) (h0:Inn H R0 fun R=>ROs (eInt .i64) H R ⟨az,ap,aA⟩ ae) {r:List Int} (hp:aO.p F ae af = some r):∃ v H',aO.tw F ⟨az,ap,aA⟩ af H = some (v,H')∧aO.Q H R0 R0  r v H':=by
 obtain ⟨w0,aK⟩:=h0
 subst aW
 unfold aO.p at hp
 unfold aO.tw aO.twX
 have s0:=w0.rf
 refine bif_ex (fun hb=>?_) (fun hb=>?_)
 ·replace hp:=bif_t hb hp
  cases hp
 ·replace hp:=bif_f hb hp
  exact aO.j2_P rfl ⟨w0,s0,aK⟩ hp
def aj.Q (H0:Hp) (Ri R0:List Rs)  (r:List Int) (v:AV) (H':Hp):Prop:=∃ o0a:ON,∃ o0n:Nat,∃ o0c:Cap,∃ o0k:List AV,v = (.sl ⟨o0a,o0n,o0c⟩)∧o0n = (r).length∧Out H0 Ri H' (Rs.own ⟨o0a,o0n,o0c⟩ (eInt .i64).z o0k :: R0) fun R=>CR (eInt .i64) H' R o0k (r)
def aj.S253 (H0:Hp) (Ri R0:List Rs)  (C:Sl→Sl→Sl→Sl→Int→Int→Hp→OA) (pC:List Int→List Int→List Bool→List Int→Int→Int→Option (List Int)):Prop:=∀ {Bk Bl Bm Bn:ON} {uD uE uF uG:Nat} {Bo Bp Bq Br:Cap} {kL lk kM:List Int} {Bs Bt Bu Bv:List AV} {kN:List Bool} {fF ec:Int},∀ {H:Hp},uD = kL.length→uE = lk.length→uF = kN.length→uG = kM.length→(Out H0 Ri H (Rs.own ⟨Bk,uD,Bo⟩ (eInt .i64).z Bs :: Rs.own ⟨Bl,uE,Bp⟩ (eInt .i64).z Bt :: Rs.own ⟨Bm,uF,Bq⟩ eBool.z Bu :: Rs.own ⟨Bn,uG,Br⟩ (eInt .i64).z Bv :: R0) fun R=>CR (eInt .i64) H R Bs kL∧CR (eInt .i64) H R Bt lk∧CR eBool H R Bu kN∧CR (eInt .i64) H R Bv kM)→∀ {r:List Int},pC kL lk kN kM fF ec = some r→∃ v H',C ⟨Bk,uD,Bo⟩ ⟨Bl,uE,Bp⟩ ⟨Bm,uF,Bq⟩ ⟨Bn,uG,Br⟩ fF ec H = some (v,H')∧aj.Q H0 Ri R0  r v H'
def aj.pj11 (F:Nat) (iU:List Int→List Int→List Bool→List Int→Int→Int→Option (List Int)) (uH:List Int) (uI:List Int) (uJ:List Bool) (uK:List Int) (ps:Int) (pt:Int):Option (List Int):=iU uH uI uJ uK ps (IntKind.i64.wrap (pt + 1))
theorem aj.j11_P {F:Nat} {H0:Hp} {Ri R0:List Rs}  {C253_:Sl→Sl→Sl→Sl→Int→Int→Hp→OA} {iU:List Int→List Int→List Bool→List Int→Int→Int→Option (List Int)} (hC253:aj.S253 H0 Ri R0  C253_ iU) {Rx Ry Rz RA:ON} {GN GO GP GQ:Nat} {RB RC RD RE:Cap} {uH uI uK:List Int} {RF RG RH RI:List AV} {uJ:List Bool} {ps pt:Int} {H:Hp} (acG:GN = uH.length) (acH:GO = uI.length) (acI:GP = uJ.length) (acJ:GQ = uK.length) (h0:Out H0 Ri H (Rs.own ⟨Rx,GN,RB⟩ (eInt .i64).z RF :: Rs.own ⟨Ry,GO,RC⟩ (eInt .i64).z RG :: Rs.own ⟨Rz,GP,RD⟩ eBool.z RH :: Rs.own ⟨RA,GQ,RE⟩ (eInt .i64).z RI :: R0) fun R=>CR (eInt .i64) H R RF uH∧CR (eInt .i64) H R RG uI∧CR eBool H R RH uJ∧CR (eInt .i64) H R RI uK) {r:List Int} (hp:aj.pj11 F iU uH uI uJ uK ps pt = some r):∃ v H',aj.j11 F (au.tw F) (aH.tw F) (aq.tw F) (aO.tw F) (bd.tw F) C253_ ⟨Rx,GN,RB⟩ ⟨Ry,GO,RC⟩ ⟨Rz,GP,RD⟩ ⟨RA,GQ,RE⟩ ps pt H = some (v,H')∧aj.Q H0 Ri R0  r v H':=by
 obtain ⟨w0,s0,acK,acL,acM,acN⟩:=h0
 subst acG
 subst acH
 subst acI
 subst acJ
 unfold aj.pj11 at hp
 unfold aj.j11
 exact hC253 rfl rfl rfl rfl ⟨w0,s0,acK,acL,acM,acN⟩ hp
def aj.S509 (H0:Hp) (Ri R0:List Rs)  (C:Sl→Sl→Int→Int→Hp→OA) (pC:List Int→List Int→Int→Int→Option (List Int)):Prop:=∀ {Bw Bx:ON} {uL uM:Nat} {By Bz:Cap} {nm nn:List Int} {BA BB:List AV} {gn gK:Int},∀ {H:Hp},uL = nm.length→uM = nn.length→(Out H0 Ri H (Rs.own ⟨Bw,uL,By⟩ (eInt .i64).z BA :: Rs.own ⟨Bx,uM,Bz⟩ (eInt .i64).z BB :: R0) fun R=>CR (eInt .i64) H R BA nm∧CR (eInt .i64) H R BB nn)→∀ {r:List Int},pC nm nn gn gK = some r→∃ v H',C ⟨Bw,uL,By⟩ ⟨Bx,uM,Bz⟩ gn gK H = some (v,H')∧aj.Q H0 Ri R0  r v H'
def aj.S16301 (H0:Hp) (Ri R0:List Rs)  (C:Sl→Sl→Int→Int→Int→Int→Hp→OA) (pC:List Int→List Int→Int→Int→Int→Int→Option (List Int)):Prop:=∀ {BC BD:ON} {uN uO:Nat} {BE BF:Cap} {ju jv:List Int} {BG BH:List AV} {eA fm fE dp:Int},∀ {H:Hp},uN = ju.length→uO = jv.length→(Out H0 Ri H (Rs.own ⟨BC,uN,BE⟩ (eInt .i64).z BG :: Rs.own ⟨BD,uO,BF⟩ (eInt .i64).z BH :: R0) fun R=>CR (eInt .i64) H R BG ju∧CR (eInt .i64) H R BH jv)→∀ {r:List Int},pC ju jv eA fm fE dp = some r→∃ v H',C ⟨BC,uN,BE⟩ ⟨BD,uO,BF⟩ eA fm fE dp H = some (v,H')∧aj.Q H0 Ri R0  r v H'
def aj.pj9 (F:Nat) (BI:List Int→List Int→Int→Int→Int→Int→Option (List Int)) (uP:List Int) (uQ:List Int) (po:Int) (pp:Int) (pq:Int) (pr:Int):Option (List Int):=BI uP uQ po pp pq (IntKind.i64.wrap (pr + 1))
theorem aj.j9_P {F:Nat} {H0:Hp} {Ri R0:List Rs}  {C16301_:Sl→Sl→Int→Int→Int→Int→Hp→OA} {BI:List Int→List Int→Int→Int→Int→Int→Option (List Int)} (hC16301:aj.S16301 H0 Ri R0  C16301_ BI) {RJ RK:ON} {GR GS:Nat} {RL RM:Cap} {uP uQ:List Int} {RN RO:List AV} {po pp pq pr:Int} {H:Hp} (acO:GR = uP.length) (acP:GS = uQ.length) (h0:Out H0 Ri H (Rs.own ⟨RJ,GR,RL⟩ (eInt .i64).z RN :: Rs.own ⟨RK,GS,RM⟩ (eInt .i64).z RO :: R0) fun R=>CR (eInt .i64) H R RN uP∧CR (eInt .i64) H R RO uQ) {r:List Int} (hp:aj.pj9 F BI uP uQ po pp pq pr = some r):∃ v H',aj.j9 F (au.tw F) (aH.tw F) (aq.tw F) (aO.tw F) (bd.tw F) C16301_ ⟨RJ,GR,RL⟩ ⟨RK,GS,RM⟩ po pp pq pr H = some (v,H')∧aj.Q H0 Ri R0  r v H':=by
 obtain ⟨w0,s0,acQ,acR⟩:=h0
 subst acO
 subst acP
 unfold aj.pj9 at hp
 unfold aj.j9
 exact hC16301 rfl rfl ⟨w0,s0,acQ,acR⟩ hp
def aj.pj7 (F:Nat) (aQ:List Int→List Int→Int→Int→Option (List Int)) (uR:List Int) (uS:List Int) (pi:Int) (pj:Int):Option (List Int):=aQ uR uS pi (IntKind.i64.wrap (pj + 1))
theorem aj.j7_P {F:Nat} {H0:Hp} {Ri R0:List Rs}  {C509_:Sl→Sl→Int→Int→Hp→OA} {aQ:List Int→List Int→Int→Int→Option (List Int)} (hC509:aj.S509 H0 Ri R0  C509_ aQ) {RP RQ:ON} {GT GU:Nat} {RR RS:Cap} {uR uS:List Int} {RT RU:List AV} {pi pj:Int} {H:Hp} (acS:GT = uR.length) (acT:GU = uS.length) (h0:Out H0 Ri H (Rs.own ⟨RP,GT,RR⟩ (eInt .i64).z RT :: Rs.own ⟨RQ,GU,RS⟩ (eInt .i64).z RU :: R0) fun R=>CR (eInt .i64) H R RT uR∧CR (eInt .i64) H R RU uS) {r:List Int} (hp:aj.pj7 F aQ uR uS pi pj = some r):∃ v H',aj.j7 F (au.tw F) (aH.tw F) (aq.tw F) (aO.tw F) (bd.tw F) C509_ ⟨RP,GT,RR⟩ ⟨RQ,GU,RS⟩ pi pj H = some (v,H')∧aj.Q H0 Ri R0  r v H':=by
 obtain ⟨w0,s0,acU,acV⟩:=h0
 subst acS
 subst acT
 unfold aj.pj7 at hp
 unfold aj.j7
 exact hC509 rfl rfl ⟨w0,s0,acU,acV⟩ hp
def aj.pj8 (F:Nat) (aQ:List Int→List Int→Int→Int→Option (List Int)) (uT:List Int) (uU:List Int) (pl:Int) (pm:Int):Option (List Int):=aj.pj7 F aQ uT uU pl pm
theorem aj.j8_P {F:Nat} {H0:Hp} {Ri R0:List Rs}  {C509_:Sl→Sl→Int→Int→Hp→OA} {aQ:List Int→List Int→Int→Int→Option (List Int)} (hC509:aj.S509 H0 Ri R0  C509_ aQ) {RV RW:ON} {GV GW:Nat} {RX RY:Cap} {uT uU:List Int} {RZ R_:List AV} {pl pm:Int} {H:Hp} (acW:GV = uT.length) (acX:GW = uU.length) (h0:Out H0 Ri H (Rs.own ⟨RV,GV,RX⟩ (eInt .i64).z RZ :: Rs.own ⟨RW,GW,RY⟩ (eInt .i64).z R_ :: R0) fun R=>CR (eInt .i64) H R RZ uT∧CR (eInt .i64) H R R_ uU) {r:List Int} (hp:aj.pj8 F aQ uT uU pl pm = some r):∃ v H',aj.j8 F (au.tw F) (aH.tw F) (aq.tw F) (aO.tw F) (bd.tw F) C509_ ⟨RV,GV,RX⟩ ⟨RW,GW,RY⟩ pl pm H = some (v,H')∧aj.Q H0 Ri R0  r v H':=by
 obtain ⟨w0,s0,acY,acZ⟩:=h0
 subst acW
 subst acX
 unfold aj.pj8 at hp
 unfold aj.j8
 exact aj.j7_P (@hC509) rfl rfl ⟨w0,s0,acY,acZ⟩ hp
def aj.pl16301 (F:Nat) (aQ:List Int→List Int→Int→Int→Option (List Int)):Nat→List Int→List Int→Int→Int→Int→Int→Option (List Int)
 | 0,_,_,_,_,_,_=>none
 | k + 1,ju,jv,eA,fm,fE,dp=>(bif (decide (dp < fE)) then ((ix ju dp).bind fun n1=>(ix jv (gt ju n1)).bind fun n2=>(bif (decide ((gt jv n2) ≥ 0)) then ((ix ju (IntKind.i64.wrap ((IntKind.i64.wrap (dp - (Int.tmod dp 4))) + (Int.tmod (IntKind.i64.wrap (dp + 1)) 4)))).bind fun n3=>(ix jv (gt ju n3)).bind fun n4=>(some (jv.set n4 (IntKind.i64.wrap (1 - (gt jv n2))))).bind fun l5=>aj.pj9 F (aj.pl16301 F aQ k) ju l5 eA fm fE dp) else (aj.pj9 F (aj.pl16301 F aQ k) ju jv eA fm fE dp))) else (aj.pj8 F aQ ju jv eA fm))
termination_by structural n=>n
end Go.Proofs.Ythfinhmkgdmelaa.AE
