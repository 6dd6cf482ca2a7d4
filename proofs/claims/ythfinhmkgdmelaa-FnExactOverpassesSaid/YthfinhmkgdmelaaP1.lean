import Derived.Test.YthfinhmkgdmelaaT1
import Derived.Test.YthfinhmkgdmelaaE2
set_option linter.unusedVariables false
set_option linter.unusedSimpArgs false
namespace Go.Proofs.Ythfinhmkgdmelaa.AE
open Go Go.AE Go.Proofs
set_option linter.unusedVariables false
set_option maxHeartbeats 4000000
set_option maxRecDepth 100000
def bs.Q (H0:Hp) (Ri R0:List Rs)  (r:Int) (v:AV) (H':Hp):Prop:=v = (.int .i64 r)∧Out H0 Ri H' (R0) fun R=>True
def bs.p (F:Nat) (ac:List (Int×Int×Int×Int×Int)) (ae:Int):Option (Int):=(bif (decide ((IntKind.i64.wrap (ae - (ac.length:Int))) < 0)) then (some (-1)) else (some (IntKind.i64.wrap (ae - (ac.length:Int)))))
theorem bs.P {F:Nat} {ap:ON} {ag:Nat} {aq:Cap} {ac:List (Int×Int×Int×Int×Int)} {ae:Int} {H:Hp} {R0:List Rs} (aV:ag = ac.length) (h0:Inn H R0 fun R=>ROs (ePair (eInt .i64) (ePair (eInt .i64) (ePair (eInt .i64) (ePair (eInt .i64) (eInt .i64))))) H R ⟨ap,ag,aq⟩ ac) {r:Int} (hp:bs.p F ac ae = some r):∃ v H',bs.tw F ⟨ap,ag,aq⟩ ae H = some (v,H')∧bs.Q H R0 R0  r v H':=by
 obtain ⟨w0,aQ⟩:=h0
 subst aV
 unfold bs.p at hp
 unfold bs.tw bs.twX
 have s0:=w0.rf
 refine bif_ex (fun hb=>?_) (fun hb=>?_)
 ·replace hp:=bif_t hb hp
  obtain rfl:=Option.some.inj hp
  exact ⟨_,_,rfl,rfl,w0,s0,trivial⟩
 ·replace hp:=bif_f hb hp
  obtain rfl:=Option.some.inj hp
  exact ⟨_,_,rfl,rfl,w0,s0,trivial⟩
def bl.Q (H0:Hp) (Ri R0:List Rs)  (r:Int) (v:AV) (H':Hp):Prop:=v = (.int .i64 r)∧Out H0 Ri H' (R0) fun R=>True
def bl.p (F:Nat) (ac:List (Int×Int×Int×Int×Int)) (ar:Int):Option (Int):=(bs.p F ac ar).bind fun r2=>(bif (decide (r2 < 0)) then (some (-1)) else (some r2))
theorem bl.P {F:Nat} {ap:ON} {ag:Nat} {aq:Cap} {ac:List (Int×Int×Int×Int×Int)} {ab ar:Int} {H:Hp} {R0:List Rs} (aV:ag = ac.length) (h0:Inn H R0 fun R=>ROs (ePair (eInt .i64) (ePair (eInt .i64) (ePair (eInt .i64) (ePair (eInt .i64) (eInt .i64))))) H R ⟨ap,ag,aq⟩ ac) {r:Int} (hp:bl.p F ac ar = some r):∃ v H',bl.tw F ⟨ap,ag,aq⟩ ab ar H = some (v,H')∧bl.Q H R0 R0  r v H':=by
 obtain ⟨w0,aQ⟩:=h0
 subst aV
 unfold bl.p at hp
 unfold bl.tw bl.twX
 have s0:=w0.rf
 refine new_k w0 fun H1 w1 s1=>?_
 refine bind_ex (ldSl_of (w1.ld (i:=0) rfl rfl)) ?_
 obtain ⟨r2,e2,hp⟩:=bind_some' hp
 refine call_ex (bs.P rfl ⟨w1,(aQ.step s1)⟩ e2) ?_
 rintro _ H3 ⟨rfl,w3,s3,_⟩
 refine bind_ex rfl ?_
 refine bif_ex (fun hb=>?_) (fun hb=>?_)
 ·replace hp:=bif_t hb hp
  obtain ⟨w4,s4⟩:=w3.pick' [] 1 rfl rfl rfl
  dsimp only [pk,pks,nth,List.drop] at w4 s4
  obtain rfl:=Option.some.inj hp
  exact ⟨_,_,rfl,rfl,w4,(s0.trans (s1.trans (s3.trans s4))),trivial⟩
 ·replace hp:=bif_f hb hp
  obtain ⟨w5,s5⟩:=w3.pick' [] 1 rfl rfl rfl
  dsimp only [pk,pks,nth,List.drop] at w5 s5
  obtain rfl:=Option.some.inj hp
  exact ⟨_,_,rfl,rfl,w5,(s0.trans (s1.trans (s3.trans s5))),trivial⟩
def bt.Q (H0:Hp) (Ri R0:List Rs)  (r:Int×Int×Int×Int×Int) (v:AV) (H':Hp):Prop:=v = (.agg [(.int .i64 r.1),(.int .i64 r.2.1),(.int .i64 r.2.2.1),(.int .i64 r.2.2.2.1),(.int .i64 r.2.2.2.2)])∧Out H0 Ri H' (R0) fun R=>True
def bt.p (F:Nat) (aa:Int) (ab:Int) (aw:Int) (ax:Int) (au:Int):Option (Int×Int×Int×Int×Int):=some (aa,ab,aw,ax,au)
theorem bt.P {F:Nat} {aa ab aw ax au:Int} {H:Hp} {R0:List Rs}  (h0:Inn H R0 fun R=>True) {r:Int×Int×Int×Int×Int} (hp:bt.p F aa ab aw ax au = some r):∃ v H',bt.tw F aa ab aw ax au H = some (v,H')∧bt.Q H R0 R0  r v H':=by
 obtain ⟨w0,_⟩:=h0
 unfold bt.p at hp
 unfold bt.tw bt.twX
 have s0:=w0.rf
 refine new_k w0 fun H1 w1 s1=>?_
 refine new_k w1 fun H2 w2 s2=>?_
 refine new_k w2 fun H3 w3 s3=>?_
 refine bind_ex (ldI_of (w3.ld (i:=2) rfl rfl)) ?_
 refine st_k w3 (i:=0) rfl rfl rfl fun H4 w4 s4=>?_
 dsimp only [List.set] at w4 s4
 refine bind_ex (ldI_of (w4.ld (i:=2) rfl rfl)) ?_
 refine st_k w4 (i:=0) rfl rfl rfl fun H5 w5 s5=>?_
 dsimp only [List.set] at w5 s5
 refine bind_ex (ldI_of (w5.ld (i:=2) rfl rfl)) ?_
 refine st_k w5 (i:=0) rfl rfl rfl fun H6 w6 s6=>?_
 dsimp only [List.set] at w6 s6
 refine bind_ex (ldI_of (w6.ld (i:=2) rfl rfl)) ?_
 refine st_k w6 (i:=0) rfl rfl rfl fun H7 w7 s7=>?_
 dsimp only [List.set] at w7 s7
 refine bind_ex (ldI_of (w7.ld (i:=2) rfl rfl)) ?_
 refine st_k w7 (i:=0) rfl rfl rfl fun H8 w8 s8=>?_
 dsimp only [List.set] at w8 s8
 refine bind_ex (ldI_of (w8.ld (i:=0) rfl rfl)) ?_
 refine bind_ex (ldI_of (w8.ld (i:=0) rfl rfl)) ?_
 refine bind_ex (ldI_of (w8.ld (i:=0) rfl rfl)) ?_
 refine bind_ex (ldI_of (w8.ld (i:=0) rfl rfl)) ?_
 refine bind_ex (ldI_of (w8.ld (i:=0) rfl rfl)) ?_
 refine st_k w8 (i:=1) rfl rfl rfl fun H9 w9 s9=>?_
 dsimp only [List.set] at w9 s9
 refine st_k w9 (i:=1) rfl rfl rfl fun H10 w10 s10=>?_
 dsimp only [List.set] at w10 s10
 refine st_k w10 (i:=1) rfl rfl rfl fun H11 w11 s11=>?_
 dsimp only [List.set] at w11 s11
 refine st_k w11 (i:=1) rfl rfl rfl fun H12 w12 s12=>?_
 dsimp only [List.set] at w12 s12
 refine st_k w12 (i:=1) rfl rfl rfl fun H13 w13 s13=>?_
 dsimp only [List.set] at w13 s13
 refine bind_ex (ldI_of (w13.ld (i:=1) rfl rfl)) ?_
 refine bind_ex (ldI_of (w13.ld (i:=1) rfl rfl)) ?_
 refine bind_ex (ldI_of (w13.ld (i:=1) rfl rfl)) ?_
 refine bind_ex (ldI_of (w13.ld (i:=1) rfl rfl)) ?_
 refine bind_ex (ldI_of (w13.ld (i:=1) rfl rfl)) ?_
 obtain ⟨w14,s14⟩:=w13.pick' [] 3 rfl rfl rfl
 dsimp only [pk,pks,nth,List.drop] at w14 s14
 obtain rfl:=Option.some.inj hp
 exact ⟨_,_,rfl,rfl,w14,(s0.trans (s1.trans (s2.trans (s3.trans (s4.trans (s5.trans (s6.trans (s7.trans (s8.trans (s9.trans (s10.trans (s11.trans (s12.trans (s13.trans s14)))))))))))))),trivial⟩
def aJ.Q (H0:Hp) (Ri R0:List Rs)  (r:(List (Int×Int×Int×Int×Int))) (v:AV) (H':Hp):Prop:=∃ o0a:ON,∃ o0n:Nat,∃ o0c:Cap,∃ o0k:List AV,v = (.sl ⟨o0a,o0n,o0c⟩)∧o0n = (r).length∧Out H0 Ri H' (Rs.own ⟨o0a,o0n,o0c⟩ (ePair (eInt .i64) (ePair (eInt .i64) (ePair (eInt .i64) (ePair (eInt .i64) (eInt .i64))))).z o0k :: R0) fun R=>CR (ePair (eInt .i64) (ePair (eInt .i64) (ePair (eInt .i64) (ePair (eInt .i64) (eInt .i64))))) H' R o0k (r)
def aJ.S29 (H0:Hp) (Ri R0:List Rs)  (C:Sl→Sl→Int→Hp→OA) (pC:List (Int×Int×Int×Int×Int)→List (Int×Int×Int×Int×Int)→Int→Option ((List (Int×Int×Int×Int×Int)))):Prop:=∀ {dZ mn:ON} {cY jB:Nat} {d_ mo:Cap} {aW fp:List (Int×Int×Int×Int×Int)} {mp:List AV} {dd:Int},∀ {H:Hp},cY = aW.length→jB = fp.length→(Out H0 Ri H (Rs.own ⟨mn,jB,mo⟩ (ePair (eInt .i64) (ePair (eInt .i64) (ePair (eInt .i64) (ePair (eInt .i64) (eInt .i64))))).z mp :: R0) fun R=>ROs (ePair (eInt .i64) (ePair (eInt .i64) (ePair (eInt .i64) (ePair (eInt .i64) (eInt .i64))))) H R ⟨dZ,cY,d_⟩ aW∧CR (ePair (eInt .i64) (ePair (eInt .i64) (ePair (eInt .i64) (ePair (eInt .i64) (eInt .i64))))) H R mp fp)→∀ {r:(List (Int×Int×Int×Int×Int))},pC aW fp dd = some r→∃ v H',C ⟨dZ,cY,d_⟩ ⟨mn,jB,mo⟩ dd H = some (v,H')∧aJ.Q H0 Ri R0  r v H'
def aJ.pl29 (F:Nat) :Nat→List (Int×Int×Int×Int×Int)→List (Int×Int×Int×Int×Int)→Int→Option ((List (Int×Int×Int×Int×Int)))
 | 0,_,_,_=>none
 | k + 1,aW,fp,dd=>(bif (decide (dd < (aW.length:Int))) then ((ix aW dd).bind fun n1=>(bt.p F ((gt aW n1).1) ((gt aW n1).2.1) ((gt aW n1).2.2.1) ((gt aW n1).2.2.2.1) ((gt aW n1).2.2.2.2)).bind fun r2=>(ix fp dd).bind fun n4=>(some (fp.set n4 (r2.1,(gt fp n4).2.1,(gt fp n4).2.2.1,(gt fp n4).2.2.2.1,(gt fp n4).2.2.2.2))).bind fun l5=>(some (l5.set n4 ((gt l5 n4).1,r2.2.1,(gt l5 n4).2.2.1,(gt l5 n4).2.2.2.1,(gt l5 n4).2.2.2.2))).bind fun l7=>(some (l7.set n4 ((gt l7 n4).1,(gt l7 n4).2.1,r2.2.2.1,(gt l7 n4).2.2.2.1,(gt l7 n4).2.2.2.2))).bind fun l9=>(some (l9.set n4 ((gt l9 n4).1,(gt l9 n4).2.1,(gt l9 n4).2.2.1,r2.2.2.2.1,(gt l9 n4).2.2.2.2))).bind fun l11=>(some (l11.set n4 ((gt l11 n4).1,(gt l11 n4).2.1,(gt l11 n4).2.2.1,(gt l11 n4).2.2.2.1,r2.2.2.2.2))).bind fun l13=>aJ.pl29 F k aW l13 (IntKind.i64.wrap (dd + 1))) else (some fp))
termination_by structural n=>n
theorem aJ.l29_P {F:Nat} {H0:Hp} {Ri R0:List Rs}  :∀ k,aJ.S29 H0 Ri R0  (aJ.l29 F (bt.tw F)  k) (aJ.pl29 F  k):=by
 intro k
 induction k with
 | zero=>
  intro dZ mn cY jB d_ mo aW fp mp dd H eE rL h0 r hp
  exact nomatch (show (none:Option ((List (Int×Int×Int×Int×Int)))) = some r from hp)
 | succ k ih=>
  intro dZ mn cY jB d_ mo aW fp mp dd H eE rL h0 r hp
  obtain ⟨w0,s0,ea,pH⟩:=h0
  subst eE
  subst rL
  unfold aJ.pl29 at hp
  unfold aJ.l29
  refine bif_ex (fun hb=>?_) (fun hb=>?_)
  ·replace hp:=bif_t hb hp
   obtain ⟨n1,g1,hp⟩:=bind_some' hp
   obtain ⟨p1,q1,i1,h1,j1⟩:=ROs.ixr ea rfl g1
   refine bind_ex i1 ?_
   obtain ⟨_,_,rfl,rfl,_,_,rfl,rfl,_,_,rfl,rfl,_,_,rfl,rfl,rfl⟩:=h1
   refine bind_ex (ldI_of (j1 0 _ rfl)) ?_
   refine bind_ex (ldI_of (j1 1 _ rfl)) ?_
   refine bind_ex (ldI_of (j1 2 _ rfl)) ?_
   refine bind_ex (ldI_of (j1 3 _ rfl)) ?_
   refine bind_ex (ldI_of (j1 4 _ rfl)) ?_
   obtain ⟨r2,e2,hp⟩:=bind_some' hp
   refine call_ex (bt.P ⟨w0,trivial⟩ e2) ?_
   rintro _ H3 ⟨rfl,w3,s3,_⟩
   refine bind_ex rfl ?_
   refine bind_ex rfl ?_
   refine bind_ex rfl ?_
   refine bind_ex rfl ?_
   refine bind_ex rfl ?_
   refine bind_ex rfl ?_
   refine bind_ex rfl ?_
   refine bind_ex rfl ?_
   refine bind_ex rfl ?_
   refine bind_ex rfl ?_
   refine bind_ex rfl ?_
   obtain ⟨n4,g4,hp⟩:=bind_some' hp
   obtain ⟨p4,q4,i4,h4,j4⟩:=W.ixo (E:=(ePair (eInt .i64) (ePair (eInt .i64) (ePair (eInt .i64) (ePair (eInt .i64) (eInt .i64)))))) w3 (i:=0) rfl rfl (pH.step s3) g4
   refine bind_ex i4 ?_
   obtain ⟨l5,e5,hp⟩:=bind_some' hp
   refine sto_k (ePair (eInt .i64) (ePair (eInt .i64) (ePair (eInt .i64) (ePair (eInt .i64) (eInt .i64))))) w3 (i:=0) (j:=0) (p:=p4) rfl rfl (pH.step s3) g4 i4 e5 rfl rfl (fun _ h=>by obtain ⟨_,_,rfl,rfl,_,_,rfl,rfl,_,_,rfl,rfl,_,_,rfl,rfl,rfl⟩:=h; exact ⟨[_],_,rfl,rfl,[_],_,rfl,rfl,[_],_,rfl,rfl,[_],_,rfl,rfl,rfl⟩) fun H6 k6 w6 s6 c6=>?_
   dsimp only [List.set] at w6 s6 c6
   obtain ⟨l7,e7,hp⟩:=bind_some' hp
   refine sto_k (ePair (eInt .i64) (ePair (eInt .i64) (ePair (eInt .i64) (ePair (eInt .i64) (eInt .i64))))) w6 (i:=0) (j:=1) (p:=p4) rfl rfl c6 (ix_len g4 (st_len e5)) i4 e7 rfl rfl (fun _ h=>by obtain ⟨_,_,rfl,rfl,_,_,rfl,rfl,_,_,rfl,rfl,_,_,rfl,rfl,rfl⟩:=h; exact ⟨[_],_,rfl,rfl,[_],_,rfl,rfl,[_],_,rfl,rfl,[_],_,rfl,rfl,rfl⟩) fun H8 k8 w8 s8 c8=>?_
   dsimp only [List.set] at w8 s8 c8
   obtain ⟨l9,e9,hp⟩:=bind_some' hp
   refine sto_k (ePair (eInt .i64) (ePair (eInt .i64) (ePair (eInt .i64) (ePair (eInt .i64) (eInt .i64))))) w8 (i:=0) (j:=2) (p:=p4) rfl rfl c8 (ix_len g4 ((st_len e7).trans (st_len e5))) i4 e9 rfl rfl (fun _ h=>by obtain ⟨_,_,rfl,rfl,_,_,rfl,rfl,_,_,rfl,rfl,_,_,rfl,rfl,rfl⟩:=h; exact ⟨[_],_,rfl,rfl,[_],_,rfl,rfl,[_],_,rfl,rfl,[_],_,rfl,rfl,rfl⟩) fun H10 k10 w10 s10 c10=>?_
   dsimp only [List.set] at w10 s10 c10
   obtain ⟨l11,e11,hp⟩:=bind_some' hp
   refine sto_k (ePair (eInt .i64) (ePair (eInt .i64) (ePair (eInt .i64) (ePair (eInt .i64) (eInt .i64))))) w10 (i:=0) (j:=3) (p:=p4) rfl rfl c10 (ix_len g4 (((st_len e9).trans (st_len e7)).trans (st_len e5))) i4 e11 rfl rfl (fun _ h=>by obtain ⟨_,_,rfl,rfl,_,_,rfl,rfl,_,_,rfl,rfl,_,_,rfl,rfl,rfl⟩:=h; exact ⟨[_],_,rfl,rfl,[_],_,rfl,rfl,[_],_,rfl,rfl,[_],_,rfl,rfl,rfl⟩) fun H12 k12 w12 s12 c12=>?_
   dsimp only [List.set] at w12 s12 c12
   obtain ⟨l13,e13,hp⟩:=bind_some' hp
   refine sto_k (ePair (eInt .i64) (ePair (eInt .i64) (ePair (eInt .i64) (ePair (eInt .i64) (eInt .i64))))) w12 (i:=0) (j:=4) (p:=p4) rfl rfl c12 (ix_len g4 ((((st_len e11).trans (st_len e9)).trans (st_len e7)).trans (st_len e5))) i4 e13 rfl rfl (fun _ h=>by obtain ⟨_,_,rfl,rfl,_,_,rfl,rfl,_,_,rfl,rfl,_,_,rfl,rfl,rfl⟩:=h; exact ⟨[_],_,rfl,rfl,[_],_,rfl,rfl,[_],_,rfl,rfl,[_],_,rfl,rfl,rfl⟩) fun H14 k14 w14 s14 c14=>?_
   dsimp only [List.set] at w14 s14 c14
   exact ih rfl (((((st_len e5).symm.trans (st_len e7).symm).trans (st_len e9).symm).trans (st_len e11).symm).trans (st_len e13).symm) ⟨w14,(s0.trans (s3.trans (s6.trans (s8.trans (s10.trans (s12.trans s14)))))),(ea.step (s3.trans (s6.trans (s8.trans (s10.trans (s12.trans s14)))))),c14⟩ hp
  ·replace hp:=bif_f hb hp
   obtain rfl:=Option.some.inj hp
   exact ⟨_,_,rfl,_,_,_,_,rfl,rfl,w0,s0,pH⟩
def aJ.p (F:Nat) (ac:List (Int×Int×Int×Int×Int)):Option ((List (Int×Int×Int×Int×Int))):=(mkn (ac.length:Int) ((0:Int),(0:Int),(0:Int),(0:Int),(0:Int))).bind fun l1=>aJ.pl29 F F ac l1 0
theorem aJ.P {F:Nat} {ap:ON} {ag:Nat} {aq:Cap} {ac:List (Int×Int×Int×Int×Int)} {H:Hp} {R0:List Rs} (aV:ag = ac.length) (h0:Inn H R0 fun R=>ROs (ePair (eInt .i64) (ePair (eInt .i64) (ePair (eInt .i64) (ePair (eInt .i64) (eInt .i64))))) H R ⟨ap,ag,aq⟩ ac) {r:(List (Int×Int×Int×Int×Int))} (hp:aJ.p F ac = some r):∃ v H',aJ.tw F ⟨ap,ag,aq⟩ H = some (v,H')∧aJ.Q H R0 R0  r v H':=by
 obtain ⟨w0,aQ⟩:=h0
 subst aV
 unfold aJ.p at hp
 unfold aJ.tw aJ.twX
 have s0:=w0.rf
 obtain ⟨l1,e1,hp⟩:=bind_some' hp
 refine mk_k (ePair (eInt .i64) (ePair (eInt .i64) (ePair (eInt .i64) (ePair (eInt .i64) (eInt .i64))))) ((0:Int),(0:Int),(0:Int),(0:Int),(0:Int)) w0 ⟨[_],_,rfl,rfl,⟨[_],_,rfl,rfl,⟨[_],_,rfl,rfl,⟨[_],_,rfl,rfl,rfl⟩⟩⟩⟩ rfl rfl e1 fun H2 k2 w2 s2 c2=>?_
 exact aJ.l29_P F rfl rfl ⟨w2,(s0.trans s2),(aQ.step s2),c2⟩ hp
def bd.Q (H0:Hp) (Ri R0:List Rs)  (r:(List (Int×Int×Int×Int×Int))×Int) (v:AV) (H':Hp):Prop:=∃ o0a:ON,∃ o0n:Nat,∃ o0c:Cap,∃ o0k:List AV,v = (.agg [(.sl ⟨o0a,o0n,o0c⟩),(.int .i64 r.2)])∧o0n = (r.1).length∧Out H0 Ri H' (Rs.own ⟨o0a,o0n,o0c⟩ (ePair (eInt .i64) (ePair (eInt .i64) (ePair (eInt .i64) (ePair (eInt .i64) (eInt .i64))))).z o0k :: R0) fun R=>CR (ePair (eInt .i64) (ePair (eInt .i64) (ePair (eInt .i64) (ePair (eInt .i64) (eInt .i64))))) H' R o0k (r.1)
def bd.p (F:Nat) (ac:List (Int×Int×Int×Int×Int)) (ab:Int):Option ((List (Int×Int×Int×Int×Int))×Int):=(aJ.p F ac).bind fun r4=>some (r4,ab)
theorem bd.P {F:Nat} {ap:ON} {ag:Nat} {aq:Cap} {ac:List (Int×Int×Int×Int×Int)} {ab:Int} {H:Hp} {R0:List Rs} (aV:ag = ac.length) (h0:Inn H R0 fun R=>ROs (ePair (eInt .i64) (ePair (eInt .i64) (ePair (eInt .i64) (ePair (eInt .i64) (eInt .i64))))) H R ⟨ap,ag,aq⟩ ac) {r:(List (Int×Int×Int×Int×Int))×Int} (hp:bd.p F ac ab = some r):∃ v H',bd.tw F ⟨ap,ag,aq⟩ ab H = some (v,H')∧bd.Q H R0 R0  r v H':=by
 obtain ⟨w0,aQ⟩:=h0
 subst aV
 unfold bd.p at hp
 unfold bd.tw bd.twX
 have s0:=w0.rf
 refine new_k w0 fun H1 w1 s1=>?_
 refine new_k w1 fun H2 w2 s2=>?_
 refine new_k w2 fun H3 w3 s3=>?_
 refine bind_ex (ldSl_of (w3.ld (i:=2) rfl rfl)) ?_
 obtain ⟨r4,e4,hp⟩:=bind_some' hp
 refine call_ex (aJ.P rfl ⟨w3,(aQ.step (s1.trans (s2.trans s3)))⟩ e4) ?_
 rintro _ H5 ⟨o0a_5,o0n_5,o0c_5,o0k_5,rfl,rfl,w5,s5,f5_0⟩
 refine bind_ex rfl ?_
 refine st_k w5 (i:=1) rfl rfl rfl fun H6 w6 s6=>?_
 dsimp only [List.set] at w6 s6
 refine bind_ex (ldI_of (w6.ld (i:=3) rfl rfl)) ?_
 refine st_k w6 (i:=1) rfl rfl rfl fun H7 w7 s7=>?_
 dsimp only [List.set] at w7 s7
 refine bind_ex (ldSl_of (w7.ld (i:=1) rfl rfl)) ?_
 refine bind_ex (ldI_of (w7.ld (i:=1) rfl rfl)) ?_
 refine st_k w7 (i:=2) rfl rfl rfl fun H8 w8 s8=>?_
 dsimp only [List.set] at w8 s8
 refine st_k w8 (i:=2) rfl rfl rfl fun H9 w9 s9=>?_
 dsimp only [List.set] at w9 s9
 refine bind_ex (ldSl_of (w9.ld (i:=2) rfl rfl)) ?_
 refine bind_ex (ldI_of (w9.ld (i:=2) rfl rfl)) ?_
 obtain ⟨w10,s10⟩:=w9.pick' [0] 4 rfl rfl rfl
 dsimp only [pk,pks,nth,List.drop] at w10 s10
 obtain rfl:=Option.some.inj hp
 exact ⟨_,_,rfl,_,_,_,_,rfl,rfl,w10,(s0.trans (s1.trans (s2.trans (s3.trans (s5.trans (s6.trans (s7.trans (s8.trans (s9.trans s10))))))))),(f5_0.step (s6.trans (s7.trans (s8.trans (s9.trans s10)))))⟩
def aY.Q (H0:Hp) (Ri R0:List Rs)  (r:Bool) (v:AV) (H':Hp):Prop:=v = (.bool r)∧Out H0 Ri H' (R0) fun R=>True
def aY.p (F:Nat) (aa:Int) (ae:Int) (bC:Int):Option (Bool):=(bif (decide (aa ≥ ae)) then (some (decide (aa ≤ bC))) else (some false))
theorem aY.P {F:Nat} {aa ae bC:Int} {H:Hp} {R0:List Rs}  (h0:Inn H R0 fun R=>True) {r:Bool} (hp:aY.p F aa ae bC = some r):∃ v H',aY.tw F aa ae bC H = some (v,H')∧aY.Q H R0 R0  r v H':=by
 obtain ⟨w0,_⟩:=h0
 unfold aY.p at hp
 unfold aY.tw aY.twX
 have s0:=w0.rf
 refine bif_ex (fun hb=>?_) (fun hb=>?_)
 ·replace hp:=bif_t hb hp
  obtain rfl:=Option.some.inj hp
  exact ⟨_,_,rfl,rfl,w0,s0,trivial⟩
 ·replace hp:=bif_f hb hp
  obtain rfl:=Option.some.inj hp
  exact ⟨_,_,rfl,rfl,w0,s0,trivial⟩
def aR.Q (H0:Hp) (Ri R0:List Rs)  (r:Int) (v:AV) (H':Hp):Prop:=v = (.int .i64 r)∧Out H0 Ri H' (R0) fun R=>True
def aR.p (F:Nat) (aa:Int) (ab:Int) (aw:Int) (ax:Int) (aU:Int):Option (Int):=(ix ([aa,ab,aw,ax]:List Int) aU).bind fun n3=>some (gt ([aa,ab,aw,ax]:List Int) n3)
theorem aR.P {F:Nat} {aa ab aw ax au aU:Int} {H:Hp} {R0:List Rs}  (h0:Inn H R0 fun R=>True) {r:Int} (hp:aR.p F aa ab aw ax aU = some r):∃ v H',aR.tw F aa ab aw ax au aU H = some (v,H')∧aR.Q H R0 R0  r v H':=by
 obtain ⟨w0,_⟩:=h0
 unfold aR.p at hp
 unfold aR.tw aR.twX
 have s0:=w0.rf
 refine new_k w0 fun H1 w1 s1=>?_
 refine bind_ex (ldI_of (w1.ld (i:=0) rfl rfl)) ?_
 refine bind_ex (ldI_of (w1.ld (i:=0) rfl rfl)) ?_
 refine bind_ex (ldI_of (w1.ld (i:=0) rfl rfl)) ?_
 refine bind_ex (ldI_of (w1.ld (i:=0) rfl rfl)) ?_
 refine newS_k (eInt .i64) w1 (n:=4) (l:=([aa,ab,aw,ax]:List Int)) rfl (CR.cons1 rfl (CR.cons1 rfl (CR.cons1 rfl (CR.cons1 rfl CR.empty)))) rfl fun H2 w2 s2 c2=>?_
 obtain ⟨n3,g3,hp⟩:=bind_some' hp
 obtain ⟨p3,q3,i3,h3,j3⟩:=W.ixo (E:=(eInt .i64)) w2 (i:=0) rfl rfl c2 g3
 refine bind_ex i3 ?_
 have h3:_ = [_]:=h3
 subst h3
 refine bind_ex (ldI_of (j3 0 _ rfl)) ?_
 obtain ⟨w4,s4⟩:=w2.pick' [] 2 rfl rfl rfl
 dsimp only [pk,pks,nth,List.drop] at w4 s4
 obtain rfl:=Option.some.inj hp
 exact ⟨_,_,rfl,rfl,w4,(s0.trans (s1.trans (s2.trans s4))),trivial⟩
def aS.Q (H0:Hp) (Ri R0:List Rs)  (r:Bool) (v:AV) (H':Hp):Prop:=v = (.bool r)∧Out H0 Ri H' (R0) fun R=>True
def aS.p (F:Nat) (au:Int) (aU:Int):Option (Bool):=(bif (aU == 0) then (some true) else ((bif (aU == 3) then ((bif (au == 1) then (some true) else ((bif (aU == 1) then (some (au == (-1))) else (some false))))) else ((bif (aU == 1) then (some (au == (-1))) else (some false))))))
theorem aS.P {F:Nat} {aa ab aw ax au aU:Int} {H:Hp} {R0:List Rs}  (h0:Inn H R0 fun R=>True) {r:Bool} (hp:aS.p F au aU = some r):∃ v H',aS.tw F aa ab aw ax au aU H = some (v,H')∧aS.Q H R0 R0  r v H':=by
 obtain ⟨w0,_⟩:=h0
 unfold aS.p at hp
 unfold aS.tw aS.twX
 have s0:=w0.rf
 refine new_k w0 fun H1 w1 s1=>?_
 refine bif_ex (fun hb=>?_) (fun hb=>?_)
 ·replace hp:=bif_t hb hp
  obtain ⟨w2,s2⟩:=w1.pick' [] 1 rfl rfl rfl
  dsimp only [pk,pks,nth,List.drop] at w2 s2
  obtain rfl:=Option.some.inj hp
  exact ⟨_,_,rfl,rfl,w2,(s0.trans (s1.trans s2)),trivial⟩
 ·replace hp:=bif_f hb hp
  refine bif_ex (fun hb=>?_) (fun hb=>?_)
  ·replace hp:=bif_t hb hp
   refine bind_ex (ldI_of (w1.ld (i:=0) rfl rfl)) ?_
   refine bif_ex (fun hb=>?_) (fun hb=>?_)
   ·replace hp:=bif_t hb hp
    obtain ⟨w3,s3⟩:=w1.pick' [] 1 rfl rfl rfl
    dsimp only [pk,pks,nth,List.drop] at w3 s3
    obtain rfl:=Option.some.inj hp
    exact ⟨_,_,rfl,rfl,w3,(s0.trans (s1.trans s3)),trivial⟩
   ·replace hp:=bif_f hb hp
    refine bif_ex (fun hb=>?_) (fun hb=>?_)
    ·replace hp:=bif_t hb hp
     refine bind_ex (ldI_of (w1.ld (i:=0) rfl rfl)) ?_
     obtain ⟨w4,s4⟩:=w1.pick' [] 1 rfl rfl rfl
     dsimp only [pk,pks,nth,List.drop] at w4 s4
     obtain rfl:=Option.some.inj hp
     exact ⟨_,_,rfl,rfl,w4,(s0.trans (s1.trans s4)),trivial⟩
    ·replace hp:=bif_f hb hp
     obtain ⟨w5,s5⟩:=w1.pick' [] 1 rfl rfl rfl
     dsimp only [pk,pks,nth,List.drop] at w5 s5
     obtain rfl:=Option.some.inj hp
     exact ⟨_,_,rfl,rfl,w5,(s0.trans (s1.trans s5)),trivial⟩
  ·replace hp:=bif_f hb hp
   refine bif_ex (fun hb=>?_) (fun hb=>?_)
   ·replace hp:=bif_t hb hp
    refine bind_ex (ldI_of (w1.ld (i:=0) rfl rfl)) ?_
    obtain ⟨w6,s6⟩:=w1.pick' [] 1 rfl rfl rfl
    dsimp only [pk,pks,nth,List.drop] at w6 s6
    obtain rfl:=Option.some.inj hp
    exact ⟨_,_,rfl,rfl,w6,(s0.trans (s1.trans s6)),trivial⟩
   ·replace hp:=bif_f hb hp
    obtain ⟨w7,s7⟩:=w1.pick' [] 1 rfl rfl rfl
    dsimp only [pk,pks,nth,List.drop] at w7 s7
    obtain rfl:=Option.some.inj hp
    exact ⟨_,_,rfl,rfl,w7,(s0.trans (s1.trans s7)),trivial⟩
def ak.Q (H0:Hp) (Ri R0:List Rs)  (r:Bool) (v:AV) (H':Hp):Prop:=v = (.bool r)∧Out H0 Ri H' (R0) fun R=>True
def ak.S61 (H0:Hp) (Ri R0:List Rs)  (C:Nat→Nat→Int→Sl→Sl→Int→Hp→OA) (pC:List (Int×Int×Int×Int×Int)→Int→List Bool→List Bool→Int→Option (Bool)):Prop:=∀ {gE gF mq:ON} {gl bO gm jC:Nat} {gG gH mr:Cap} {cb:List (Int×Int×Int×Int×Int)} {io bW df:Int} {dL hG:List Bool} {gI ms:List AV},∀ {H:Hp},gl = cb.length→gm = dL.length→jC = hG.length→(Out H0 Ri H (Rs.blk bO [.sl ⟨gE,gl,gG⟩,.int .i64 io] :: Rs.own ⟨gF,gm,gH⟩ eBool.z gI :: Rs.own ⟨mq,jC,mr⟩ eBool.z ms :: R0) fun R=>ROs (ePair (eInt .i64) (ePair (eInt .i64) (ePair (eInt .i64) (ePair (eInt .i64) (eInt .i64))))) H R ⟨gE,gl,gG⟩ cb∧CR eBool H R gI dL∧CR eBool H R ms hG)→∀ {r:Bool},pC cb bW dL hG df = some r→∃ v H',C bO 0 bW ⟨gF,gm,gH⟩ ⟨mq,jC,mr⟩ df H = some (v,H')∧ak.Q H0 Ri R0  r v H'
def ak.S3927 (H0:Hp) (Ri R0:List Rs)  (C:Nat→Nat→Int→Sl→Sl→Int→Nat→Nat→Int→Hp→OA) (pC:List (Int×Int×Int×Int×Int)→Int→List Bool→List Bool→Int→Int→Int→Int→Int→Int→Int→Option (Bool)):Prop:=∀ {mu mv mw:ON} {jD de jE jF cv:Nat} {mx mz mA:Cap} {gJ:List (Int×Int×Int×Int×Int)} {pI cq bY hH hI hJ hK hL cH:Int} {fG fH:List Bool} {mB mC:List AV},∀ {H:Hp},jD = gJ.length→jE = fG.length→jF = fH.length→(Out H0 Ri H (Rs.blk de [.sl ⟨mu,jD,mx⟩,.int .i64 pI] :: Rs.own ⟨mv,jE,mz⟩ eBool.z mB :: Rs.own ⟨mw,jF,mA⟩ eBool.z mC :: Rs.blk cv [.int .i64 hH,.int .i64 hI,.int .i64 hJ,.int .i64 hK,.int .i64 hL] :: R0) fun R=>ROs (ePair (eInt .i64) (ePair (eInt .i64) (ePair (eInt .i64) (ePair (eInt .i64) (eInt .i64))))) H R ⟨mu,jD,mx⟩ gJ∧CR eBool H R mB fG∧CR eBool H R mC fH)→∀ {r:Bool},pC gJ cq fG fH bY hH hI hJ hK hL cH = some r→∃ v H',C de 0 cq ⟨mv,jE,mz⟩ ⟨mw,jF,mA⟩ bY cv 0 cH H = some (v,H')∧ak.Q H0 Ri R0  r v H'
def ak.pl3927 (F:Nat) (aF:List (Int×Int×Int×Int×Int)→Int→List Bool→List Bool→Int→Option (Bool)):Nat→List (Int×Int×Int×Int×Int)→Int→List Bool→List Bool→Int→Int→Int→Int→Int→Int→Int→Option (Bool)
 | 0,_,_,_,_,_,_,_,_,_,_,_=>none
 | k + 1,gJ,cq,fG,fH,bY,hH,hI,hJ,hK,hL,cH=>(bif (decide (cH < 4)) then ((aR.p F hH hI hJ hK cH).bind fun r1=>(aY.p F r1 0 (IntKind.i64.wrap (cq - 1))).bind fun r3=>(bif (!r3) then (some false) else ((aS.p F hL cH).bind fun r6=>(bif r6 then ((ix fG r1).bind fun n8=>(bif (gt fG n8) then (some false) else ((ix fG r1).bind fun n10=>(some (fG.set n10 true)).bind fun l11=>ak.pl3927 F aF k gJ cq l11 fH bY hH hI hJ hK hL (IntKind.i64.wrap (cH + 1))))) else ((ix fH r1).bind fun n13=>(bif (gt fH n13) then (some false) else ((ix fH r1).bind fun n15=>(some (fH.set n15 true)).bind fun l16=>ak.pl3927 F aF k gJ cq fG l16 bY hH hI hJ hK hL (IntKind.i64.wrap (cH + 1))))))))) else (aF gJ cq fG fH (IntKind.i64.wrap (bY + 1))))
termination_by structural n=>n
theorem ak.l3927_P {F:Nat} {H0:Hp} {Ri R0:List Rs}  {C61_:Nat→Nat→Int→Sl→Sl→Int→Hp→OA} {aF:List (Int×Int×Int×Int×Int)→Int→List Bool→List Bool→Int→Option (Bool)} (hC61:ak.S61 H0 Ri R0  C61_ aF):∀ k,ak.S3927 H0 Ri R0  (ak.l3927 F (aR.tw F) (aY.tw F) (aS.tw F) C61_ k) (ak.pl3927 F aF k):=by
 intro k
 induction k with
 | zero=>
  intro mu mv mw jD de jE jF cv mx mz mA gJ pI cq bY hH hI hJ hK hL cH fG fH mB mC H rM rN rO h0 r hp
  exact nomatch (show (none:Option (Bool)) = some r from hp)
 | succ k ih=>
  intro mu mv mw jD de jE jF cv mx mz mA gJ pI cq bY hH hI hJ hK hL cH fG fH mB mC H rM rN rO h0 r hp
  obtain ⟨w0,s0,pJ,jG,jH⟩:=h0
  subst rM
  subst rN
  subst rO
  unfold ak.pl3927 at hp
  unfold ak.l3927
  refine bif_ex (fun hb=>?_) (fun hb=>?_)
  ·replace hp:=bif_t hb hp
   refine bind_ex (ldI_of (w0.ld (i:=3) rfl rfl)) ?_
   refine bind_ex (ldI_of (w0.ld (i:=3) rfl rfl)) ?_
   refine bind_ex (ldI_of (w0.ld (i:=3) rfl rfl)) ?_
   refine bind_ex (ldI_of (w0.ld (i:=3) rfl rfl)) ?_
   refine bind_ex (ldI_of (w0.ld (i:=3) rfl rfl)) ?_
   obtain ⟨r1,e1,hp⟩:=bind_some' hp
   refine call_ex (aR.P ⟨w0,trivial⟩ e1) ?_
   rintro _ H2 ⟨rfl,w2,s2,_⟩
   refine bind_ex rfl ?_
   obtain ⟨r3,e3,hp⟩:=bind_some' hp
   refine call_ex (aY.P ⟨w2,trivial⟩ e3) ?_
   rintro _ H4 ⟨rfl,w4,s4,_⟩
   refine bind_ex rfl ?_
   refine bif_ex (fun hb=>?_) (fun hb=>?_)
   ·replace hp:=bif_t hb hp
    obtain ⟨w5,s5⟩:=w4.pick' [] 4 rfl rfl rfl
    dsimp only [pk,pks,nth,List.drop] at w5 s5
    obtain rfl:=Option.some.inj hp
    exact ⟨_,_,rfl,rfl,w5,(s0.trans (s2.trans (s4.trans s5))),trivial⟩
   ·replace hp:=bif_f hb hp
    refine bind_ex (ldI_of (w4.ld (i:=3) rfl rfl)) ?_
    refine bind_ex (ldI_of (w4.ld (i:=3) rfl rfl)) ?_
    refine bind_ex (ldI_of (w4.ld (i:=3) rfl rfl)) ?_
    refine bind_ex (ldI_of (w4.ld (i:=3) rfl rfl)) ?_
    refine bind_ex (ldI_of (w4.ld (i:=3) rfl rfl)) ?_
    obtain ⟨r6,e6,hp⟩:=bind_some' hp
    refine call_ex (aS.P ⟨w4,trivial⟩ e6) ?_
    rintro _ H7 ⟨rfl,w7,s7,_⟩
    refine bind_ex rfl ?_
    refine bif_ex (fun hb=>?_) (fun hb=>?_)
    ·replace hp:=bif_t hb hp
     obtain ⟨n8,g8,hp⟩:=bind_some' hp
     obtain ⟨p8,q8,i8,h8,j8⟩:=W.ixo (E:=eBool) w7 (i:=1) rfl rfl (jG.step (s2.trans (s4.trans s7))) g8
     refine bind_ex i8 ?_
     have h8:_ = [_]:=h8
     subst h8
     refine bind_ex (ldB_of (j8 0 _ rfl)) ?_
     refine bif_ex (fun hb=>?_) (fun hb=>?_)
     ·replace hp:=bif_t hb hp
      obtain ⟨w9,s9⟩:=w7.pick' [] 4 rfl rfl rfl
      dsimp only [pk,pks,nth,List.drop] at w9 s9
      obtain rfl:=Option.some.inj hp
      exact ⟨_,_,rfl,rfl,w9,(s0.trans (s2.trans (s4.trans (s7.trans s9)))),trivial⟩
     ·replace hp:=bif_f hb hp
      obtain ⟨n10,g10,hp⟩:=bind_some' hp
      obtain ⟨p10,q10,i10,h10,j10⟩:=W.ixo (E:=eBool) w7 (i:=1) rfl rfl (jG.step (s2.trans (s4.trans s7))) g10
      refine bind_ex i10 ?_
      obtain ⟨l11,e11,hp⟩:=bind_some' hp
      refine sto_k eBool w7 (i:=1) (j:=0) (p:=p10) rfl rfl (jG.step (s2.trans (s4.trans s7))) g10 i10 e11 rfl rfl (fun _ h=>by have h:_ = [_]:=h; subst h; exact rfl) fun H12 k12 w12 s12 c12=>?_
      dsimp only [List.set] at w12 s12 c12
      exact ih rfl ((st_len e11).symm) rfl ⟨w12,(s0.trans (s2.trans (s4.trans (s7.trans s12)))),(pJ.step (s2.trans (s4.trans (s7.trans s12)))),c12,(jH.step (s2.trans (s4.trans (s7.trans s12))))⟩ hp
    ·replace hp:=bif_f hb hp
     obtain ⟨n13,g13,hp⟩:=bind_some' hp
     obtain ⟨p13,q13,i13,h13,j13⟩:=W.ixo (E:=eBool) w7 (i:=2) rfl rfl (jH.step (s2.trans (s4.trans s7))) g13
     refine bind_ex i13 ?_
     have h13:_ = [_]:=h13
     subst h13
     refine bind_ex (ldB_of (j13 0 _ rfl)) ?_
     refine bif_ex (fun hb=>?_) (fun hb=>?_)
     ·replace hp:=bif_t hb hp
      obtain ⟨w14,s14⟩:=w7.pick' [] 4 rfl rfl rfl
      dsimp only [pk,pks,nth,List.drop] at w14 s14
      obtain rfl:=Option.some.inj hp
      exact ⟨_,_,rfl,rfl,w14,(s0.trans (s2.trans (s4.trans (s7.trans s14)))),trivial⟩
     ·replace hp:=bif_f hb hp
      obtain ⟨n15,g15,hp⟩:=bind_some' hp
      obtain ⟨p15,q15,i15,h15,j15⟩:=W.ixo (E:=eBool) w7 (i:=2) rfl rfl (jH.step (s2.trans (s4.trans s7))) g15
      refine bind_ex i15 ?_
      obtain ⟨l16,e16,hp⟩:=bind_some' hp
      refine sto_k eBool w7 (i:=2) (j:=0) (p:=p15) rfl rfl (jH.step (s2.trans (s4.trans s7))) g15 i15 e16 rfl rfl (fun _ h=>by have h:_ = [_]:=h; subst h; exact rfl) fun H17 k17 w17 s17 c17=>?_
      dsimp only [List.set] at w17 s17 c17
      exact ih rfl rfl ((st_len e16).symm) ⟨w17,(s0.trans (s2.trans (s4.trans (s7.trans s17)))),(pJ.step (s2.trans (s4.trans (s7.trans s17)))),(jG.step (s2.trans (s4.trans (s7.trans s17)))),c17⟩ hp
  ·replace hp:=bif_f hb hp
   obtain ⟨w18,s18⟩:=w0.pick' [0,1,2] 4 rfl rfl rfl
   dsimp only [pk,pks,nth,List.drop] at w18 s18
   exact hC61 rfl rfl rfl ⟨w18,(s0.trans s18),(pJ.step s18),(jG.step s18),(jH.step s18)⟩ hp
def ak.pl61 (F:Nat) :Nat→List (Int×Int×Int×Int×Int)→Int→List Bool→List Bool→Int→Option (Bool)
 | 0,_,_,_,_,_=>none
 | k + 1,cb,bW,dL,hG,df=>(bif (decide (df < (cb.length:Int))) then ((ix cb df).bind fun n1=>(bif (((gt cb n1).2.2.2.2) != 1) then ((bif (((gt cb n1).2.2.2.2) != (-1)) then (some false) else (ak.pl3927 F (ak.pl61 F k) F cb bW dL hG df ((gt cb n1).1) ((gt cb n1).2.1) ((gt cb n1).2.2.1) ((gt cb n1).2.2.2.1) ((gt cb n1).2.2.2.2) 0))) else (ak.pl3927 F (ak.pl61 F k) F cb bW dL hG df ((gt cb n1).1) ((gt cb n1).2.1) ((gt cb n1).2.2.1) ((gt cb n1).2.2.2.1) ((gt cb n1).2.2.2.2) 0))) else (some true))
termination_by structural n=>n
theorem ak.l61_P {F:Nat} {H0:Hp} {Ri R0:List Rs}  :∀ k,ak.S61 H0 Ri R0  (ak.l61 F (aR.tw F) (aY.tw F) (aS.tw F)  k) (ak.pl61 F  k):=by
 intro k
 induction k with
 | zero=>
  intro gE gF mq gl bO gm jC gG gH mr cb io bW df dL hG gI ms H jI jJ rP h0 r hp
  exact nomatch (show (none:Option (Bool)) = some r from hp)
 | succ k ih=>
  intro gE gF mq gl bO gm jC gG gH mr cb io bW df dL hG gI ms H jI jJ rP h0 r hp
  obtain ⟨w0,s0,jo,jp,rQ⟩:=h0
  subst jI
  subst jJ
  subst rP
  unfold ak.pl61 at hp
  unfold ak.l61
  refine bind_ex (ldSl_of (w0.ld (i:=0) rfl rfl)) ?_
  refine bif_ex (fun hb=>?_) (fun hb=>?_)
  ·replace hp:=bif_t hb hp
   refine bind_ex (ldSl_of (w0.ld (i:=0) rfl rfl)) ?_
   obtain ⟨n1,g1,hp⟩:=bind_some' hp
   obtain ⟨p1,q1,i1,h1,j1⟩:=ROs.ixr jo rfl g1
   refine bind_ex i1 ?_
   obtain ⟨_,_,rfl,rfl,_,_,rfl,rfl,_,_,rfl,rfl,_,_,rfl,rfl,rfl⟩:=h1
   refine bind_ex (ldI_of (j1 0 _ rfl)) ?_
   refine bind_ex (ldI_of (j1 1 _ rfl)) ?_
   refine bind_ex (ldI_of (j1 2 _ rfl)) ?_
   refine bind_ex (ldI_of (j1 3 _ rfl)) ?_
   refine bind_ex (ldI_of (j1 4 _ rfl)) ?_
   refine new_k w0 fun H2 w2 s2=>?_
   refine st_k w2 (i:=0) rfl rfl rfl fun H3 w3 s3=>?_
   dsimp only [List.set] at w3 s3
   refine st_k w3 (i:=0) rfl rfl rfl fun H4 w4 s4=>?_
   dsimp only [List.set] at w4 s4
   refine st_k w4 (i:=0) rfl rfl rfl fun H5 w5 s5=>?_
   dsimp only [List.set] at w5 s5
   refine st_k w5 (i:=0) rfl rfl rfl fun H6 w6 s6=>?_
   dsimp only [List.set] at w6 s6
   refine st_k w6 (i:=0) rfl rfl rfl fun H7 w7 s7=>?_
   dsimp only [List.set] at w7 s7
   refine bind_ex (ldI_of (w7.ld (i:=0) rfl rfl)) ?_
   refine bif_ex (fun hb=>?_) (fun hb=>?_)
   ·replace hp:=bif_t hb hp
    refine bind_ex (ldI_of (w7.ld (i:=0) rfl rfl)) ?_
    refine bif_ex (fun hb=>?_) (fun hb=>?_)
    ·replace hp:=bif_t hb hp
     obtain ⟨w8,s8⟩:=w7.pick' [] 4 rfl rfl rfl
     dsimp only [pk,pks,nth,List.drop] at w8 s8
     obtain rfl:=Option.some.inj hp
     exact ⟨_,_,rfl,rfl,w8,(s0.trans (s2.trans (s3.trans (s4.trans (s5.trans (s6.trans (s7.trans s8))))))),trivial⟩
    ·replace hp:=bif_f hb hp
     obtain ⟨w9,s9⟩:=w7.pick' [1,2,3,0] 4 rfl rfl rfl
     dsimp only [pk,pks,nth,List.drop] at w9 s9
     exact ak.l3927_P (@ih) F rfl rfl rfl ⟨w9,(s0.trans (s2.trans (s3.trans (s4.trans (s5.trans (s6.trans (s7.trans s9))))))),(jo.step (s2.trans (s3.trans (s4.trans (s5.trans (s6.trans (s7.trans s9))))))),(jp.step (s2.trans (s3.trans (s4.trans (s5.trans (s6.trans (s7.trans s9))))))),(rQ.step (s2.trans (s3.trans (s4.trans (s5.trans (s6.trans (s7.trans s9)))))))⟩ hp
   ·replace hp:=bif_f hb hp
    obtain ⟨w10,s10⟩:=w7.pick' [1,2,3,0] 4 rfl rfl rfl
    dsimp only [pk,pks,nth,List.drop] at w10 s10
    exact ak.l3927_P (@ih) F rfl rfl rfl ⟨w10,(s0.trans (s2.trans (s3.trans (s4.trans (s5.trans (s6.trans (s7.trans s10))))))),(jo.step (s2.trans (s3.trans (s4.trans (s5.trans (s6.trans (s7.trans s10))))))),(jp.step (s2.trans (s3.trans (s4.trans (s5.trans (s6.trans (s7.trans s10))))))),(rQ.step (s2.trans (s3.trans (s4.trans (s5.trans (s6.trans (s7.trans s10)))))))⟩ hp
  ·replace hp:=bif_f hb hp
   obtain ⟨w11,s11⟩:=w0.pick' [] 3 rfl rfl rfl
   dsimp only [pk,pks,nth,List.drop] at w11 s11
   obtain rfl:=Option.some.inj hp
   exact ⟨_,_,rfl,rfl,w11,(s0.trans s11),trivial⟩
def ak.p (F:Nat) (ac:List (Int×Int×Int×Int×Int)):Option (Bool):=(mkn (IntKind.i64.wrap (2 * (ac.length:Int))) false).bind fun l2=>(mkn (IntKind.i64.wrap (2 * (ac.length:Int))) false).bind fun l4=>ak.pl61 F F ac (IntKind.i64.wrap (2 * (ac.length:Int))) l2 l4 0
theorem ak.P {F:Nat} {ap:ON} {ag:Nat} {aq:Cap} {ac:List (Int×Int×Int×Int×Int)} {ab:Int} {H:Hp} {R0:List Rs} (aV:ag = ac.length) (h0:Inn H R0 fun R=>ROs (ePair (eInt .i64) (ePair (eInt .i64) (ePair (eInt .i64) (ePair (eInt .i64) (eInt .i64))))) H R ⟨ap,ag,aq⟩ ac) {r:Bool} (hp:ak.p F ac = some r):∃ v H',ak.tw F ⟨ap,ag,aq⟩ ab H = some (v,H')∧ak.Q H R0 R0  r v H':=by
 obtain ⟨w0,aQ⟩:=h0
 subst aV
 unfold ak.p at hp
 unfold ak.tw ak.twX
 have s0:=w0.rf
 refine new_k w0 fun H1 w1 s1=>?_
 refine bind_ex (ldSl_of (w1.ld (i:=0) rfl rfl)) ?_
 obtain ⟨l2,e2,hp⟩:=bind_some' hp
 refine mk_k eBool false w1 rfl rfl rfl e2 fun H3 k3 w3 s3 c3=>?_
 obtain ⟨l4,e4,hp⟩:=bind_some' hp
 refine mk_k eBool false w3 rfl rfl rfl e4 fun H5 k5 w5 s5 c5=>?_
 obtain ⟨w6,s6⟩:=w5.pick' [2,1,0] 3 rfl rfl rfl
 dsimp only [pk,pks,nth,List.drop] at w6 s6
 exact ak.l61_P F rfl rfl rfl ⟨w6,(s0.trans (s1.trans (s3.trans (s5.trans s6)))),(aQ.step (s1.trans (s3.trans (s5.trans s6)))),(c3.step (s5.trans s6)),(c5.step s6)⟩ hp
def ah.Q (H0:Hp) (Ri R0:List Rs)  (r:Int×Int) (v:AV) (H':Hp):Prop:=v = (.tup [(.int .i64 r.1),(.int .i64 r.2)])∧Out H0 Ri H' (R0) fun R=>True
def ah.S13 (H0:Hp) (Ri R0:List Rs)  (C:Int→Bool→Nat→Nat→Int→Hp→OA) (pC:Int→Bool→List (Int×Int×Int×Int×Int)→Int→Option (Int×Int)):Prop:=∀ {bG pK ee:Int} {ed:Bool} {mD:ON} {jK cf:Nat} {mE:Cap} {hM:List (Int×Int×Int×Int×Int)},∀ {H:Hp},jK = hM.length→(Out H0 Ri H (Rs.blk cf [.sl ⟨mD,jK,mE⟩,.int .i64 pK] :: R0) fun R=>ROs (ePair (eInt .i64) (ePair (eInt .i64) (ePair (eInt .i64) (ePair (eInt .i64) (eInt .i64))))) H R ⟨mD,jK,mE⟩ hM)→∀ {r:Int×Int},pC bG ed hM ee = some r→∃ v H',C bG ed cf 0 ee H = some (v,H')∧ah.Q H0 Ri R0  r v H'
def ah.S213 (H0:Hp) (Ri R0:List Rs)  (C:Int→Bool→Nat→Nat→Int→Int→Hp→OA) (pC:Int→Bool→List (Int×Int×Int×Int×Int)→Int→Int→Option (Int×Int)):Prop:=∀ {cz pL cr cA:Int} {cE:Bool} {mF:ON} {jL dC:Nat} {mG:Cap} {eL:List (Int×Int×Int×Int×Int)},∀ {H:Hp},jL = eL.length→(Out H0 Ri H (Rs.blk dC [.sl ⟨mF,jL,mG⟩,.int .i64 pL] :: R0) fun R=>ROs (ePair (eInt .i64) (ePair (eInt .i64) (ePair (eInt .i64) (ePair (eInt .i64) (eInt .i64))))) H R ⟨mF,jL,mG⟩ eL)→∀ {r:Int×Int},pC cz cE eL cr cA = some r→∃ v H',C cz cE dC 0 cr cA H = some (v,H')∧ah.Q H0 Ri R0  r v H'
def ah.pj3 (F:Nat) (eM:Int→Bool→List (Int×Int×Int×Int×Int)→Int→Option (Int×Int)) (g_:Int) (iD:Bool) (jM:List (Int×Int×Int×Int×Int)) (iF:Int):Option (Int×Int):=eM g_ iD jM (IntKind.i64.wrap (iF + 1))
theorem ah.j3_P {F:Nat} {H0:Hp} {Ri R0:List Rs}  {C13_:Int→Bool→Nat→Nat→Int→Hp→OA} {eM:Int→Bool→List (Int×Int×Int×Int×Int)→Int→Option (Int×Int)} (hC13:ah.S13 H0 Ri R0  C13_ eM) {g_ xq iF:Int} {iD:Bool} {rR:ON} {pM iE:Nat} {rS:Cap} {jM:List (Int×Int×Int×Int×Int)} {H:Hp} (xr:pM = jM.length) (h0:Out H0 Ri H (Rs.blk iE [.sl ⟨rR,pM,rS⟩,.int .i64 xq] :: R0) fun R=>ROs (ePair (eInt .i64) (ePair (eInt .i64) (ePair (eInt .i64) (ePair (eInt .i64) (eInt .i64))))) H R ⟨rR,pM,rS⟩ jM) {r:Int×Int} (hp:ah.pj3 F eM g_ iD jM iF = some r):∃ v H',ah.j3 F (aR.tw F) (aS.tw F) C13_ g_ iD iE 0 iF H = some (v,H')∧ah.Q H0 Ri R0  r v H':=by
 obtain ⟨w0,s0,xt⟩:=h0
 subst xr
 unfold ah.pj3 at hp
 unfold ah.j3
 exact hC13 rfl ⟨w0,s0,xt⟩ hp
def ah.pj4 (F:Nat) (eM:Int→Bool→List (Int×Int×Int×Int×Int)→Int→Option (Int×Int)) (iG:Int) (iH:Bool) (jN:List (Int×Int×Int×Int×Int)) (iI:Int):Option (Int×Int):=ah.pj3 F eM iG iH jN iI
theorem ah.j4_P {F:Nat} {H0:Hp} {Ri R0:List Rs}  {C13_:Int→Bool→Nat→Nat→Int→Hp→OA} {eM:Int→Bool→List (Int×Int×Int×Int×Int)→Int→Option (Int×Int)} (hC13:ah.S13 H0 Ri R0  C13_ eM) {iG xu iI:Int} {iH:Bool} {rT:ON} {pN lU:Nat} {rU:Cap} {jN:List (Int×Int×Int×Int×Int)} {H:Hp} (xv:pN = jN.length) (h0:Out H0 Ri H (Rs.blk lU [.sl ⟨rT,pN,rU⟩,.int .i64 xu] :: R0) fun R=>ROs (ePair (eInt .i64) (ePair (eInt .i64) (ePair (eInt .i64) (ePair (eInt .i64) (eInt .i64))))) H R ⟨rT,pN,rU⟩ jN) {r:Int×Int} (hp:ah.pj4 F eM iG iH jN iI = some r):∃ v H',ah.j4 F (aR.tw F) (aS.tw F) C13_ iG iH lU 0 iI H = some (v,H')∧ah.Q H0 Ri R0  r v H':=by
 obtain ⟨w0,s0,xw⟩:=h0
 subst xv
 unfold ah.pj4 at hp
 unfold ah.j4
 exact ah.j3_P (@hC13) rfl ⟨w0,s0,xw⟩ hp
def ah.pl213 (F:Nat) (eM:Int→Bool→List (Int×Int×Int×Int×Int)→Int→Option (Int×Int)):Nat→Int→Bool→List (Int×Int×Int×Int×Int)→Int→Int→Option (Int×Int)
 | 0,_,_,_,_,_=>none
 | k + 1,cz,cE,eL,cr,cA=>(bif (decide (cA < 4)) then ((ix eL cr).bind fun n1=>(aR.p F ((gt eL n1).1) ((gt eL n1).2.1) ((gt eL n1).2.2.1) ((gt eL n1).2.2.2.1) cA).bind fun r2=>(bif (r2 == cz) then ((ix eL cr).bind fun n4=>(aS.p F ((gt eL n4).2.2.2.2) cA).bind fun r5=>(bif (r5 == cE) then (some (cr,cA)) else (ah.pl213 F eM k cz cE eL cr (IntKind.i64.wrap (cA + 1))))) else (ah.pl213 F eM k cz cE eL cr (IntKind.i64.wrap (cA + 1))))) else (ah.pj4 F eM cz cE eL cr))
termination_by structural n=>n
theorem ah.l213_P {F:Nat} {H0:Hp} {Ri R0:List Rs}  {C13_:Int→Bool→Nat→Nat→Int→Hp→OA} {eM:Int→Bool→List (Int×Int×Int×Int×Int)→Int→Option (Int×Int)} (hC13:ah.S13 H0 Ri R0  C13_ eM):∀ k,ah.S213 H0 Ri R0  (ah.l213 F (aR.tw F) (aS.tw F) C13_ k) (ah.pl213 F eM k):=by
 intro k
 induction k with
 | zero=>
  intro cz pL cr cA cE mF jL dC mG eL H rV h0 r hp
  exact nomatch (show (none:Option (Int×Int)) = some r from hp)
 | succ k ih=>
  intro cz pL cr cA cE mF jL dC mG eL H rV h0 r hp
  obtain ⟨w0,s0,jO⟩:=h0
  subst rV
  unfold ah.pl213 at hp
  unfold ah.l213
  refine bif_ex (fun hb=>?_) (fun hb=>?_)
  ·replace hp:=bif_t hb hp
   refine bind_ex (ldSl_of (w0.ld (i:=0) rfl rfl)) ?_
   obtain ⟨n1,g1,hp⟩:=bind_some' hp
   obtain ⟨p1,q1,i1,h1,j1⟩:=ROs.ixr jO rfl g1
   refine bind_ex i1 ?_
   obtain ⟨_,_,rfl,rfl,_,_,rfl,rfl,_,_,rfl,rfl,_,_,rfl,rfl,rfl⟩:=h1
   refine bind_ex (ldI_of (j1 0 _ rfl)) ?_
   refine bind_ex (ldI_of (j1 1 _ rfl)) ?_
   refine bind_ex (ldI_of (j1 2 _ rfl)) ?_
   refine bind_ex (ldI_of (j1 3 _ rfl)) ?_
   refine bind_ex (ldI_of (j1 4 _ rfl)) ?_
   obtain ⟨r2,e2,hp⟩:=bind_some' hp
   refine call_ex (aR.P ⟨w0,trivial⟩ e2) ?_
   rintro _ H3 ⟨rfl,w3,s3,_⟩
   refine bind_ex rfl ?_
   refine bif_ex (fun hb=>?_) (fun hb=>?_)
   ·replace hp:=bif_t hb hp
    refine bind_ex (ldSl_of (w3.ld (i:=0) rfl rfl)) ?_
    obtain ⟨n4,g4,hp⟩:=bind_some' hp
    obtain ⟨p4,q4,i4,h4,j4⟩:=ROs.ixr (jO.step s3) rfl g4
    refine bind_ex i4 ?_
    obtain ⟨_,_,rfl,rfl,_,_,rfl,rfl,_,_,rfl,rfl,_,_,rfl,rfl,rfl⟩:=h4
    refine bind_ex (ldI_of (j4 0 _ rfl)) ?_
    refine bind_ex (ldI_of (j4 1 _ rfl)) ?_
    refine bind_ex (ldI_of (j4 2 _ rfl)) ?_
    refine bind_ex (ldI_of (j4 3 _ rfl)) ?_
    refine bind_ex (ldI_of (j4 4 _ rfl)) ?_
    obtain ⟨r5,e5,hp⟩:=bind_some' hp
    refine call_ex (aS.P ⟨w3,trivial⟩ e5) ?_
    rintro _ H6 ⟨rfl,w6,s6,_⟩
    refine bind_ex rfl ?_
    refine bif_ex (fun hb=>?_) (fun hb=>?_)
    ·replace hp:=bif_t hb hp
     obtain ⟨w7,s7⟩:=w6.pick' [] 1 rfl rfl rfl
     dsimp only [pk,pks,nth,List.drop] at w7 s7
     obtain rfl:=Option.some.inj hp
     exact ⟨_,_,rfl,rfl,w7,(s0.trans (s3.trans (s6.trans s7))),trivial⟩
    ·replace hp:=bif_f hb hp
     exact ih rfl ⟨w6,(s0.trans (s3.trans s6)),(jO.step (s3.trans s6))⟩ hp
   ·replace hp:=bif_f hb hp
    exact ih rfl ⟨w3,(s0.trans s3),(jO.step s3)⟩ hp
  ·replace hp:=bif_f hb hp
   exact ah.j4_P (@hC13) rfl ⟨w0,s0,jO⟩ hp
def ah.pl13 (F:Nat) :Nat→Int→Bool→List (Int×Int×Int×Int×Int)→Int→Option (Int×Int)
 | 0,_,_,_,_=>none
 | k + 1,bG,ed,hM,ee=>(bif (decide (ee < (hM.length:Int))) then (ah.pl213 F (ah.pl13 F k) F bG ed hM ee 0) else (some ((-1),(-1))))
termination_by structural n=>n
theorem ah.l13_P {F:Nat} {H0:Hp} {Ri R0:List Rs}  :∀ k,ah.S13 H0 Ri R0  (ah.l13 F (aR.tw F) (aS.tw F)  k) (ah.pl13 F  k):=by
 intro k
 induction k with
 | zero=>
  intro bG pK ee ed mD jK cf mE hM H rW h0 r hp
  exact nomatch (show (none:Option (Int×Int)) = some r from hp)
 | succ k ih=>
  intro bG pK ee ed mD jK cf mE hM H rW h0 r hp
  obtain ⟨w0,s0,xx⟩:=h0
  subst rW
  unfold ah.pl13 at hp
  unfold ah.l13
  refine bind_ex (ldSl_of (w0.ld (i:=0) rfl rfl)) ?_
  refine bif_ex (fun hb=>?_) (fun hb=>?_)
  ·replace hp:=bif_t hb hp
   exact ah.l213_P (@ih) F rfl ⟨w0,s0,xx⟩ hp
  ·replace hp:=bif_f hb hp
   obtain ⟨w1,s1⟩:=w0.pick' [] 1 rfl rfl rfl
   dsimp only [pk,pks,nth,List.drop] at w1 s1
   obtain rfl:=Option.some.inj hp
   exact ⟨_,_,rfl,rfl,w1,(s0.trans s1),trivial⟩
def ah.p (F:Nat) (ac:List (Int×Int×Int×Int×Int)) (ar:Int) (ev:Bool):Option (Int×Int):=ah.pl13 F F ar ev ac 0
theorem ah.P {F:Nat} {ap:ON} {ag:Nat} {aq:Cap} {ac:List (Int×Int×Int×Int×Int)} {ab ar:Int} {ev:Bool} {H:Hp} {R0:List Rs} (aV:ag = ac.length) (h0:Inn H R0 fun R=>ROs (ePair (eInt .i64) (ePair (eInt .i64) (ePair (eInt .i64) (ePair (eInt .i64) (eInt .i64))))) H R ⟨ap,ag,aq⟩ ac) {r:Int×Int} (hp:ah.p F ac ar ev = some r):∃ v H',ah.tw F ⟨ap,ag,aq⟩ ab ar ev H = some (v,H')∧ah.Q H R0 R0  r v H':=by
 obtain ⟨w0,aQ⟩:=h0
 subst aV
 unfold ah.p at hp
 unfold ah.tw ah.twX
 have s0:=w0.rf
 refine new_k w0 fun H1 w1 s1=>?_
 exact ah.l13_P F rfl ⟨w1,(s0.trans s1),(aQ.step s1)⟩ hp
def bh.Q (H0:Hp) (Ri R0:List Rs)  (r:Int) (v:AV) (H':Hp):Prop:=v = (.int .i64 r)∧Out H0 Ri H' (R0) fun R=>True
def bh.p (F:Nat) (ac:List (Int×Int×Int×Int×Int)) (ar:Int):Option (Int):=(ix ac (IntKind.i64.wrap (Int.tdiv ar 4))).bind fun n2=>(aR.p F ((gt ac n2).1) ((gt ac n2).2.1) ((gt ac n2).2.2.1) ((gt ac n2).2.2.2.1) (Int.tmod (IntKind.i64.wrap ((Int.tmod ar 4) + 1)) 4)).bind fun r9=>(aS.p F ((gt ac n2).2.2.2.2) (Int.tmod (IntKind.i64.wrap ((Int.tmod ar 4) + 1)) 4)).bind fun r12=>(ah.p F ac r9 (!r12)).bind fun r15=>some (IntKind.i64.wrap ((IntKind.i64.wrap (4 * r15.1)) + r15.2))
theorem bh.P {F:Nat} {ap:ON} {ag:Nat} {aq:Cap} {ac:List (Int×Int×Int×Int×Int)} {ab ar:Int} {H:Hp} {R0:List Rs} (aV:ag = ac.length) (h0:Inn H R0 fun R=>ROs (ePair (eInt .i64) (ePair (eInt .i64) (ePair (eInt .i64) (ePair (eInt .i64) (eInt .i64))))) H R ⟨ap,ag,aq⟩ ac) {r:Int} (hp:bh.p F ac ar = some r):∃ v H',bh.tw F ⟨ap,ag,aq⟩ ab ar H = some (v,H')∧bh.Q H R0 R0  r v H':=by
 obtain ⟨w0,aQ⟩:=h0
 subst aV
 unfold bh.p at hp
 unfold bh.tw bh.twX
 have s0:=w0.rf
 refine new_k w0 fun H1 w1 s1=>?_
 refine bind_ex (ldSl_of (w1.ld (i:=0) rfl rfl)) ?_
 obtain ⟨n2,g2,hp⟩:=bind_some' hp
 obtain ⟨p2,q2,i2,h2,j2⟩:=ROs.ixr (aQ.step s1) rfl g2
 refine bind_ex i2 ?_
 obtain ⟨_,_,rfl,rfl,_,_,rfl,rfl,_,_,rfl,rfl,_,_,rfl,rfl,rfl⟩:=h2
 refine bind_ex (ldI_of (j2 0 _ rfl)) ?_
 refine bind_ex (ldI_of (j2 1 _ rfl)) ?_
 refine bind_ex (ldI_of (j2 2 _ rfl)) ?_
 refine bind_ex (ldI_of (j2 3 _ rfl)) ?_
 refine bind_ex (ldI_of (j2 4 _ rfl)) ?_
 refine new_k w1 fun H3 w3 s3=>?_
 refine st_k w3 (i:=0) rfl rfl rfl fun H4 w4 s4=>?_
 dsimp only [List.set] at w4 s4
 refine st_k w4 (i:=0) rfl rfl rfl fun H5 w5 s5=>?_
 dsimp only [List.set] at w5 s5
 refine st_k w5 (i:=0) rfl rfl rfl fun H6 w6 s6=>?_
 dsimp only [List.set] at w6 s6
 refine st_k w6 (i:=0) rfl rfl rfl fun H7 w7 s7=>?_
 dsimp only [List.set] at w7 s7
 refine st_k w7 (i:=0) rfl rfl rfl fun H8 w8 s8=>?_
 dsimp only [List.set] at w8 s8
 refine bind_ex (ldSl_of (w8.ld (i:=1) rfl rfl)) ?_
 refine bind_ex (ldI_of (w8.ld (i:=1) rfl rfl)) ?_
 refine bind_ex (ldI_of (w8.ld (i:=0) rfl rfl)) ?_
 refine bind_ex (ldI_of (w8.ld (i:=0) rfl rfl)) ?_
 refine bind_ex (ldI_of (w8.ld (i:=0) rfl rfl)) ?_
 refine bind_ex (ldI_of (w8.ld (i:=0) rfl rfl)) ?_
 refine bind_ex (ldI_of (w8.ld (i:=0) rfl rfl)) ?_
 obtain ⟨r9,e9,hp⟩:=bind_some' hp
 refine call_ex (aR.P ⟨w8,trivial⟩ e9) ?_
 rintro _ H10 ⟨rfl,w10,s10,_⟩
 refine bind_ex rfl ?_
 refine ifs_ex (W.cons_of (Rn:=[]) w8 w10 s10) ?_
 refine bind_ex (ldI_of (w10.ld (i:=0) rfl rfl)) ?_
 refine bind_ex (ldI_of (w10.ld (i:=0) rfl rfl)) ?_
 refine bind_ex (ldI_of (w10.ld (i:=0) rfl rfl)) ?_
 refine bind_ex (ldI_of (w10.ld (i:=0) rfl rfl)) ?_
 refine bind_ex (ldI_of (w10.ld (i:=0) rfl rfl)) ?_
 obtain ⟨r12,e12,hp⟩:=bind_some' hp
 refine call_ex (aS.P ⟨w10,trivial⟩ e12) ?_
 rintro _ H13 ⟨rfl,w13,s13,_⟩
 refine bind_ex rfl ?_
 refine ifs_ex (W.cons_of (Rn:=[]) w10 w13 s13) ?_
 obtain ⟨r15,e15,hp⟩:=bind_some' hp
 refine call_ex (ah.P rfl ⟨w13,(aQ.step (s1.trans (s3.trans (s4.trans (s5.trans (s6.trans (s7.trans (s8.trans (s10.trans s13)))))))))⟩ e15) ?_
 rintro _ H16 ⟨rfl,w16,s16,_⟩
 refine bind_ex rfl ?_
 refine bind_ex rfl ?_
 refine bind_ex rfl ?_
 refine bind_ex rfl ?_
 refine bind_ex rfl ?_
 obtain ⟨w17,s17⟩:=w16.pick' [] 2 rfl rfl rfl
 dsimp only [pk,pks,nth,List.drop] at w17 s17
 obtain rfl:=Option.some.inj hp
 exact ⟨_,_,rfl,rfl,w17,(s0.trans (s1.trans (s3.trans (s4.trans (s5.trans (s6.trans (s7.trans (s8.trans (s10.trans (s13.trans (s16.trans s17))))))))))),trivial⟩
def aj.Q (H0:Hp) (Ri R0:List Rs)  (r:List (List Int)) (v:AV) (H':Hp):Prop:=∃ o0a:ON,∃ o0n:Nat,∃ o0c:Cap,∃ o0k:List AV,v = (.sl ⟨o0a,o0n,o0c⟩)∧o0n = (r).length∧Out H0 Ri H' (Rs.own ⟨o0a,o0n,o0c⟩ (eSl (eInt .i64)).z o0k :: R0) fun R=>CR (eSl (eInt .i64)) H' R o0k (r)
def aj.S61 (H0:Hp) (Ri R0:List Rs)  (C:Nat→Nat→Sl→Sl→Int→Hp→OA) (pC:List (Int×Int×Int×Int×Int)→List (List Int)→List Bool→Int→Option (List (List Int))):Prop:=∀ {gE mH gF:ON} {gl bO jP gm:Nat} {gG mI gH:Cap} {cb:List (Int×Int×Int×Int×Int)} {io bU:Int} {gK:List (List Int)} {mJ gI:List AV} {dL:List Bool},∀ {H:Hp},gl = cb.length→jP = gK.length→gm = dL.length→(Out H0 Ri H (Rs.blk bO [.sl ⟨gE,gl,gG⟩,.int .i64 io] :: Rs.own ⟨mH,jP,mI⟩ (eSl (eInt .i64)).z mJ :: Rs.own ⟨gF,gm,gH⟩ eBool.z gI :: R0) fun R=>ROs (ePair (eInt .i64) (ePair (eInt .i64) (ePair (eInt .i64) (ePair (eInt .i64) (eInt .i64))))) H R ⟨gE,gl,gG⟩ cb∧CR (eSl (eInt .i64)) H R mJ gK∧CR eBool H R gI dL)→∀ {r:List (List Int)},pC cb gK dL bU = some r→∃ v H',C bO 0 ⟨mH,jP,mI⟩ ⟨gF,gm,gH⟩ bU H = some (v,H')∧aj.Q H0 Ri R0  r v H'
def aj.pj4 (F:Nat) (aF:List (Int×Int×Int×Int×Int)→List (List Int)→List Bool→Int→Option (List (List Int))) (jQ:List (Int×Int×Int×Int×Int)) (jR:List (List Int)) (jS:List Bool) (iJ:Int):Option (List (List Int)):=aF jQ jR jS (IntKind.i64.wrap (iJ + 1))
theorem aj.j4_P {F:Nat} {H0:Hp} {Ri R0:List Rs}  {C61_:Nat→Nat→Sl→Sl→Int→Hp→OA} {aF:List (Int×Int×Int×Int×Int)→List (List Int)→List Bool→Int→Option (List (List Int))} (hC61:aj.S61 H0 Ri R0  C61_ aF) {rX rY rZ:ON} {pO lV pP pQ:Nat} {r_ sa sb:Cap} {jQ:List (Int×Int×Int×Int×Int)} {xy iJ:Int} {jR:List (List Int)} {sc sd:List AV} {jS:List Bool} {H:Hp} (xz:pO = jQ.length) (xA:pP = jR.length) (xB:pQ = jS.length) (h0:Out H0 Ri H (Rs.blk lV [.sl ⟨rX,pO,r_⟩,.int .i64 xy] :: Rs.own ⟨rY,pP,sa⟩ (eSl (eInt .i64)).z sc :: Rs.own ⟨rZ,pQ,sb⟩ eBool.z sd :: R0) fun R=>ROs (ePair (eInt .i64) (ePair (eInt .i64) (ePair (eInt .i64) (ePair (eInt .i64) (eInt .i64))))) H R ⟨rX,pO,r_⟩ jQ∧CR (eSl (eInt .i64)) H R sc jR∧CR eBool H R sd jS) {r:List (List Int)} (hp:aj.pj4 F aF jQ jR jS iJ = some r):∃ v H',aj.j4 F (bh.tw F) C61_ lV 0 ⟨rY,pP,sa⟩ ⟨rZ,pQ,sb⟩ iJ H = some (v,H')∧aj.Q H0 Ri R0  r v H':=by
 obtain ⟨w0,s0,xC,xD,xE⟩:=h0
 subst xz
 subst xA
 subst xB
 unfold aj.pj4 at hp
 unfold aj.j4
 exact hC61 rfl rfl rfl ⟨w0,s0,xC,xD,xE⟩ hp
def aj.S7853 (H0:Hp) (Ri R0:List Rs)  (C:Nat→Nat→Sl→Sl→Int→Sl→Int→Hp→OA) (pC:List (Int×Int×Int×Int×Int)→List (List Int)→List Bool→Int→List Int→Int→Option (List (List Int))):Prop:=∀ {mK mL mM mN:ON} {jT dg jU jV jW:Nat} {mO mP mQ mR:Cap} {gL:List (Int×Int×Int×Int×Int)} {pR dD cI:Int} {hO:List (List Int)} {mS mT mU:List AV} {gn:List Bool} {hP:List Int},∀ {H:Hp},jT = gL.length→jU = hO.length→jV = gn.length→jW = hP.length→(Out H0 Ri H (Rs.blk dg [.sl ⟨mK,jT,mO⟩,.int .i64 pR] :: Rs.own ⟨mL,jU,mP⟩ (eSl (eInt .i64)).z mS :: Rs.own ⟨mM,jV,mQ⟩ eBool.z mT :: Rs.own ⟨mN,jW,mR⟩ (eInt .i64).z mU :: R0) fun R=>ROs (ePair (eInt .i64) (ePair (eInt .i64) (ePair (eInt .i64) (ePair (eInt .i64) (eInt .i64))))) H R ⟨mK,jT,mO⟩ gL∧CR (eSl (eInt .i64)) H R mS hO∧CR eBool H R mT gn∧CR (eInt .i64) H R mU hP)→∀ {r:List (List Int)},pC gL hO gn dD hP cI = some r→∃ v H',C dg 0 ⟨mL,jU,mP⟩ ⟨mM,jV,mQ⟩ dD ⟨mN,jW,mR⟩ cI H = some (v,H')∧aj.Q H0 Ri R0  r v H'
def aj.pj5 (F:Nat) (aF:List (Int×Int×Int×Int×Int)→List (List Int)→List Bool→Int→Option (List (List Int))) (jX:List (Int×Int×Int×Int×Int)) (jY:List (List Int)) (jZ:List Bool) (iK:Int):Option (List (List Int)):=aF jX jY jZ (IntKind.i64.wrap (iK + 1))
theorem aj.j5_P {F:Nat} {H0:Hp} {Ri R0:List Rs}  {C61_:Nat→Nat→Sl→Sl→Int→Hp→OA} {aF:List (Int×Int×Int×Int×Int)→List (List Int)→List Bool→Int→Option (List (List Int))} (hC61:aj.S61 H0 Ri R0  C61_ aF) {se sf sh:ON} {pS lW pT pU:Nat} {si sj sk:Cap} {jX:List (Int×Int×Int×Int×Int)} {xF iK:Int} {jY:List (List Int)} {sm sn:List AV} {jZ:List Bool} {H:Hp} (xG:pS = jX.length) (xH:pT = jY.length) (xI:pU = jZ.length) (h0:Out H0 Ri H (Rs.blk lW [.sl ⟨se,pS,si⟩,.int .i64 xF] :: Rs.own ⟨sf,pT,sj⟩ (eSl (eInt .i64)).z sm :: Rs.own ⟨sh,pU,sk⟩ eBool.z sn :: R0) fun R=>ROs (ePair (eInt .i64) (ePair (eInt .i64) (ePair (eInt .i64) (ePair (eInt .i64) (eInt .i64))))) H R ⟨se,pS,si⟩ jX∧CR (eSl (eInt .i64)) H R sm jY∧CR eBool H R sn jZ) {r:List (List Int)} (hp:aj.pj5 F aF jX jY jZ iK = some r):∃ v H',aj.j5 F (bh.tw F) C61_ lW 0 ⟨sf,pT,sj⟩ ⟨sh,pU,sk⟩ iK H = some (v,H')∧aj.Q H0 Ri R0  r v H':=by
 obtain ⟨w0,s0,xJ,xK,xL⟩:=h0
 subst xG
 subst xH
 subst xI
 unfold aj.pj5 at hp
 unfold aj.j5
 exact hC61 rfl rfl rfl ⟨w0,s0,xJ,xK,xL⟩ hp
def aj.pj6 (F:Nat) (aF:List (Int×Int×Int×Int×Int)→List (List Int)→List Bool→Int→Option (List (List Int))) (j_:List (Int×Int×Int×Int×Int)) (ka:List (List Int)) (kb:List Bool) (iL:Int) (ip:List Int):Option (List (List Int)):=(apn ka ([ip]:List (List Int))).bind fun l3=>aj.pj5 F aF j_ l3 kb iL
theorem aj.j6_P {F:Nat} {H0:Hp} {Ri R0:List Rs}  {C61_:Nat→Nat→Sl→Sl→Int→Hp→OA} {aF:List (Int×Int×Int×Int×Int)→List (List Int)→List Bool→Int→Option (List (List Int))} (hC61:aj.S61 H0 Ri R0  C61_ aF) {sp sq ss su:ON} {pV lX pW pX pY:Nat} {sv sw sx sy:Cap} {j_:List (Int×Int×Int×Int×Int)} {xM iL:Int} {ka:List (List Int)} {sz sB sC:List AV} {kb:List Bool} {ip:List Int} {H:Hp} (xN:pV = j_.length) (xO:pW = ka.length) (xP:pX = kb.length) (xQ:pY = ip.length) (h0:Out H0 Ri H (Rs.blk lX [.sl ⟨sp,pV,sv⟩,.int .i64 xM] :: Rs.own ⟨sq,pW,sw⟩ (eSl (eInt .i64)).z sz :: Rs.own ⟨ss,pX,sx⟩ eBool.z sB :: Rs.own ⟨su,pY,sy⟩ (eInt .i64).z sC :: R0) fun R=>ROs (ePair (eInt .i64) (ePair (eInt .i64) (ePair (eInt .i64) (ePair (eInt .i64) (eInt .i64))))) H R ⟨sp,pV,sv⟩ j_∧CR (eSl (eInt .i64)) H R sz ka∧CR eBool H R sB kb∧CR (eInt .i64) H R sC ip) {r:List (List Int)} (hp:aj.pj6 F aF j_ ka kb iL ip = some r):∃ v H',aj.j6 F (bh.tw F) C61_ lX 0 ⟨sq,pW,sw⟩ ⟨ss,pX,sx⟩ iL ⟨su,pY,sy⟩ H = some (v,H')∧aj.Q H0 Ri R0  r v H':=by
 obtain ⟨w0,s0,xR,xS,xT,xU⟩:=h0
 subst xN
 subst xO
 subst xP
 subst xQ
 unfold aj.pj6 at hp
 unfold aj.j6
 obtain ⟨w1,s1,f1⟩:=w0.frz (i:=3) (eInt .i64) rfl xU
 dsimp only [List.eraseIdx] at w1 s1 f1
 refine newS_k (eSl (eInt .i64)) w1 (n:=1) (l:=([ip]:List (List Int))) rfl (CR.cons1 ⟨_,rfl,f1⟩ CR.empty) rfl fun H2 w2 s2 c2=>?_
 refine bind_ex (w2.rowo (i:=0) rfl) ?_
 obtain ⟨l3,e3,hp⟩:=bind_some' hp
 refine app_k (eSl (eInt .i64)) w2 (i:=2) rfl rfl (xS.step (s1.trans s2)) c2 (show 1 = List.length ([ip]:List (List Int)) from rfl) rfl e3 fun a4 d4 H4 w4 s4 c4 x4=>?_
 dsimp only [List.set] at w4 s4 c4
 obtain ⟨w5,s5⟩:=w4.pick' [1,2,3] 4 rfl rfl rfl
 dsimp only [pk,pks,nth,List.drop] at w5 s5
 exact aj.j5_P (@hC61) rfl rfl rfl ⟨w5,(s0.trans (s1.trans (s2.trans (s4.trans s5)))),(xR.step (s1.trans (s2.trans (s4.trans s5)))),(c4.step s5),(xT.step (s1.trans (s2.trans (s4.trans s5))))⟩ hp
def aj.pl7853 (F:Nat) (aF:List (Int×Int×Int×Int×Int)→List (List Int)→List Bool→Int→Option (List (List Int))):Nat→List (Int×Int×Int×Int×Int)→List (List Int)→List Bool→Int→List Int→Int→Option (List (List Int))
 | 0,_,_,_,_,_,_=>none
 | k + 1,gL,hO,gn,dD,hP,cI=>(ix gn cI).bind fun n1=>(bif (!(gt gn n1)) then ((ix gn cI).bind fun n2=>(some (gn.set n2 true)).bind fun l3=>(apn hP ([cI]:List Int)).bind fun l6=>(bh.p F gL cI).bind fun r8=>aj.pl7853 F aF k gL hO l3 dD l6 r8) else (aj.pj6 F aF gL hO gn dD hP))
termination_by structural n=>n
theorem aj.l7853_P {F:Nat} {H0:Hp} {Ri R0:List Rs}  {C61_:Nat→Nat→Sl→Sl→Int→Hp→OA} {aF:List (Int×Int×Int×Int×Int)→List (List Int)→List Bool→Int→Option (List (List Int))} (hC61:aj.S61 H0 Ri R0  C61_ aF):∀ k,aj.S7853 H0 Ri R0  (aj.l7853 F (bh.tw F) C61_ k) (aj.pl7853 F aF k):=by
 intro k
 induction k with
 | zero=>
  intro mK mL mM mN jT dg jU jV jW mO mP mQ mR gL pR dD cI hO mS mT mU gn hP H sD sE sF sG h0 r hp
  exact nomatch (show (none:Option (List (List Int))) = some r from hp)
 | succ k ih=>
  intro mK mL mM mN jT dg jU jV jW mO mP mQ mR gL pR dD cI hO mS mT mU gn hP H sD sE sF sG h0 r hp
  obtain ⟨w0,s0,pZ,sH,mV,sI⟩:=h0
  subst sD
  subst sE
  subst sF
  subst sG
  unfold aj.pl7853 at hp
  unfold aj.l7853
  obtain ⟨n1,g1,hp⟩:=bind_some' hp
  obtain ⟨p1,q1,i1,h1,j1⟩:=W.ixo (E:=eBool) w0 (i:=2) rfl rfl mV g1
  refine bind_ex i1 ?_
  have h1:_ = [_]:=h1
  subst h1
  refine bind_ex (ldB_of (j1 0 _ rfl)) ?_
  refine bif_ex (fun hb=>?_) (fun hb=>?_)
  ·replace hp:=bif_t hb hp
   obtain ⟨n2,g2,hp⟩:=bind_some' hp
   obtain ⟨p2,q2,i2,h2,j2⟩:=W.ixo (E:=eBool) w0 (i:=2) rfl rfl mV g2
   refine bind_ex i2 ?_
   obtain ⟨l3,e3,hp⟩:=bind_some' hp
   refine sto_k eBool w0 (i:=2) (j:=0) (p:=p2) rfl rfl mV g2 i2 e3 rfl rfl (fun _ h=>by have h:_ = [_]:=h; subst h; exact rfl) fun H4 k4 w4 s4 c4=>?_
   dsimp only [List.set] at w4 s4 c4
   refine newS_k (eInt .i64) w4 (n:=1) (l:=([cI]:List Int)) rfl (CR.cons1 rfl CR.empty) rfl fun H5 w5 s5 c5=>?_
   refine bind_ex (w5.rowo (i:=0) rfl) ?_
   obtain ⟨l6,e6,hp⟩:=bind_some' hp
   refine app_k (eInt .i64) w5 (i:=4) rfl rfl (sI.step (s4.trans s5)) c5 (show 1 = List.length ([cI]:List Int) from rfl) rfl e6 fun a7 d7 H7 w7 s7 c7 x7=>?_
   dsimp only [List.set] at w7 s7 c7
   refine bind_ex (ldSl_of (w7.ld (i:=1) rfl rfl)) ?_
   refine bind_ex (ldI_of (w7.ld (i:=1) rfl rfl)) ?_
   obtain ⟨r8,e8,hp⟩:=bind_some' hp
   refine call_ex (bh.P rfl ⟨w7,(pZ.step (s4.trans (s5.trans s7)))⟩ e8) ?_
   rintro _ H9 ⟨rfl,w9,s9,_⟩
   refine bind_ex rfl ?_
   obtain ⟨w10,s10⟩:=w9.pick' [1,2,3,4] 5 rfl rfl rfl
   dsimp only [pk,pks,nth,List.drop] at w10 s10
   exact ih rfl rfl ((st_len e3).symm) rfl ⟨w10,(s0.trans (s4.trans (s5.trans (s7.trans (s9.trans s10))))),(pZ.step (s4.trans (s5.trans (s7.trans (s9.trans s10))))),(sH.step (s4.trans (s5.trans (s7.trans (s9.trans s10))))),(c4.step (s5.trans (s7.trans (s9.trans s10)))),(c7.step (s9.trans s10))⟩ hp
  ·replace hp:=bif_f hb hp
   exact aj.j6_P (@hC61) rfl rfl rfl rfl ⟨w0,s0,pZ,sH,mV,sI⟩ hp
def aj.pl61 (F:Nat) :Nat→List (Int×Int×Int×Int×Int)→List (List Int)→List Bool→Int→Option (List (List Int))
 | 0,_,_,_,_=>none
 | k + 1,cb,gK,dL,bU=>(bif (decide (bU < (dL.length:Int))) then ((ix dL bU).bind fun n1=>(bif (gt dL n1) then (aj.pj4 F (aj.pl61 F k) cb gK dL bU) else (aj.pl7853 F (aj.pl61 F k) F cb gK dL bU ([]:List Int) bU))) else (some gK))
termination_by structural n=>n
theorem aj.l61_P {F:Nat} {H0:Hp} {Ri R0:List Rs}  :∀ k,aj.S61 H0 Ri R0  (aj.l61 F (bh.tw F)  k) (aj.pl61 F  k):=by
 intro k
 induction k with
 | zero=>
  intro gE mH gF gl bO jP gm gG mI gH cb io bU gK mJ gI dL H jI sJ jJ h0 r hp
  exact nomatch (show (none:Option (List (List Int))) = some r from hp)
 | succ k ih=>
  intro gE mH gF gl bO jP gm gG mI gH cb io bU gK mJ gI dL H jI sJ jJ h0 r hp
  obtain ⟨w0,s0,jo,p_,jp⟩:=h0
  subst jI
  subst sJ
  subst jJ
  unfold aj.pl61 at hp
  unfold aj.l61
  refine bif_ex (fun hb=>?_) (fun hb=>?_)
  ·replace hp:=bif_t hb hp
   obtain ⟨n1,g1,hp⟩:=bind_some' hp
   obtain ⟨p1,q1,i1,h1,j1⟩:=W.ixo (E:=eBool) w0 (i:=2) rfl rfl jp g1
   refine bind_ex i1 ?_
   have h1:_ = [_]:=h1
   subst h1
   refine bind_ex (ldB_of (j1 0 _ rfl)) ?_
   refine bif_ex (fun hb=>?_) (fun hb=>?_)
   ·replace hp:=bif_t hb hp
    exact aj.j4_P (@ih) rfl rfl rfl ⟨w0,s0,jo,p_,jp⟩ hp
   ·replace hp:=bif_f hb hp
    refine newS_k (eInt .i64) w0 (n:=0) (l:=([]:List Int)) rfl CR.empty rfl fun H2 w2 s2 c2=>?_
    obtain ⟨w3,s3⟩:=w2.pick' [1,2,3,0] 4 rfl rfl rfl
    dsimp only [pk,pks,nth,List.drop] at w3 s3
    exact aj.l7853_P (@ih) F rfl rfl rfl (show 0 = List.length ([]:List Int) from rfl) ⟨w3,(s0.trans (s2.trans s3)),(jo.step (s2.trans s3)),(p_.step (s2.trans s3)),(jp.step (s2.trans s3)),(c2.step s3)⟩ hp
  ·replace hp:=bif_f hb hp
   obtain ⟨w4,s4⟩:=w0.pick' [1] 3 rfl rfl rfl
   dsimp only [pk,pks,nth,List.drop] at w4 s4
   obtain rfl:=Option.some.inj hp
   exact ⟨_,_,rfl,_,_,_,_,rfl,rfl,w4,(s0.trans s4),(p_.step s4)⟩
def aj.p (F:Nat) (ac:List (Int×Int×Int×Int×Int)):Option (List (List Int)):=(mkn (IntKind.i64.wrap (4 * (ac.length:Int))) false).bind fun l3=>aj.pl61 F F ac ([]:List (List Int)) l3 0
theorem aj.P {F:Nat} {ap:ON} {ag:Nat} {aq:Cap} {ac:List (Int×Int×Int×Int×Int)} {ab:Int} {H:Hp} {R0:List Rs} (aV:ag = ac.length) (h0:Inn H R0 fun R=>ROs (ePair (eInt .i64) (ePair (eInt .i64) (ePair (eInt .i64) (ePair (eInt .i64) (eInt .i64))))) H R ⟨ap,ag,aq⟩ ac) {r:List (List Int)} (hp:aj.p F ac = some r):∃ v H',aj.tw F ⟨ap,ag,aq⟩ ab H = some (v,H')∧aj.Q H R0 R0  r v H':=by
 obtain ⟨w0,aQ⟩:=h0
 subst aV
 unfold aj.p at hp
 unfold aj.tw aj.twX
 have s0:=w0.rf
 refine new_k w0 fun H1 w1 s1=>?_
 refine newS_k (eSl (eInt .i64)) w1 (n:=0) (l:=([]:List (List Int))) rfl CR.empty rfl fun H2 w2 s2 c2=>?_
 refine bind_ex (ldSl_of (w2.ld (i:=1) rfl rfl)) ?_
 obtain ⟨l3,e3,hp⟩:=bind_some' hp
 refine mk_k eBool false w2 rfl rfl rfl e3 fun H4 k4 w4 s4 c4=>?_
 obtain ⟨w5,s5⟩:=w4.pick' [2,1,0] 3 rfl rfl rfl
 dsimp only [pk,pks,nth,List.drop] at w5 s5
 exact aj.l61_P F rfl (show 0 = List.length ([]:List (List Int)) from rfl) rfl ⟨w5,(s0.trans (s1.trans (s2.trans (s4.trans s5)))),(aQ.step (s1.trans (s2.trans (s4.trans s5)))),(c2.step (s4.trans s5)),(c4.step s5)⟩ hp
def af.Q (H0:Hp) (Ri R0:List Rs)  (r:List Int) (v:AV) (H':Hp):Prop:=∃ o0a:ON,∃ o0n:Nat,∃ o0c:Cap,∃ o0k:List AV,v = (.sl ⟨o0a,o0n,o0c⟩)∧o0n = (r).length∧Out H0 Ri H' (Rs.own ⟨o0a,o0n,o0c⟩ (eInt .i64).z o0k :: R0) fun R=>CR (eInt .i64) H' R o0k (r)
def af.S29 (H0:Hp) (Ri R0:List Rs)  (C:Nat→Nat→Sl→Int→Hp→OA) (pC:List (Int×Int×Int×Int×Int)→List Int→Int→Option (List Int)):Prop:=∀ {gM mW:ON} {gp bR kc:Nat} {gN mX:Cap} {eb:List (Int×Int×Int×Int×Int)} {gq bZ:Int} {hQ:List Int} {mY:List AV},∀ {H:Hp},gp = eb.length→kc = hQ.length→(Out H0 Ri H (Rs.blk bR [.sl ⟨gM,gp,gN⟩,.int .i64 gq] :: Rs.own ⟨mW,kc,mX⟩ (eInt .i64).z mY :: R0) fun R=>ROs (ePair (eInt .i64) (ePair (eInt .i64) (ePair (eInt .i64) (ePair (eInt .i64) (eInt .i64))))) H R ⟨gM,gp,gN⟩ eb∧CR (eInt .i64) H R mY hQ)→∀ {r:List Int},pC eb hQ bZ = some r→∃ v H',C bR 0 ⟨mW,kc,mX⟩ bZ H = some (v,H')∧af.Q H0 Ri R0  r v H'
def af.S61 (H0:Hp) (Ri R0:List Rs)  (C:Nat→Nat→Sl→Int→Hp→OA) (pC:List (Int×Int×Int×Int×Int)→List Int→Int→Option (List Int)):Prop:=∀ {mZ m_:ON} {kd dz ke:Nat} {na nb:Cap} {gA:List (Int×Int×Int×Int×Int)} {qd dh:Int} {fI:List Int} {nc:List AV},∀ {H:Hp},kd = gA.length→ke = fI.length→(Out H0 Ri H (Rs.blk dz [.sl ⟨mZ,kd,na⟩,.int .i64 qd] :: Rs.own ⟨m_,ke,nb⟩ (eInt .i64).z nc :: R0) fun R=>ROs (ePair (eInt .i64) (ePair (eInt .i64) (ePair (eInt .i64) (ePair (eInt .i64) (eInt .i64))))) H R ⟨mZ,kd,na⟩ gA∧CR (eInt .i64) H R nc fI)→∀ {r:List Int},pC gA fI dh = some r→∃ v H',C dz 0 ⟨m_,ke,nb⟩ dh H = some (v,H')∧af.Q H0 Ri R0  r v H'
def af.S7855 (H0:Hp) (Ri R0:List Rs)  (C:Nat→Nat→Sl→Int→Int→Int→Int→Hp→OA) (pC:List (Int×Int×Int×Int×Int)→List Int→Int→Int→Int→Int→Option (List Int)):Prop:=∀ {nd ng:ON} {kf dy kg:Nat} {nh ni:Cap} {gO:List (Int×Int×Int×Int×Int)} {qe cS cg ct cJ:Int} {fq:List Int} {nj:List AV},∀ {H:Hp},kf = gO.length→kg = fq.length→(Out H0 Ri H (Rs.blk dy [.sl ⟨nd,kf,nh⟩,.int .i64 qe] :: Rs.own ⟨ng,kg,ni⟩ (eInt .i64).z nj :: R0) fun R=>ROs (ePair (eInt .i64) (ePair (eInt .i64) (ePair (eInt .i64) (ePair (eInt .i64) (eInt .i64))))) H R ⟨nd,kf,nh⟩ gO∧CR (eInt .i64) H R nj fq)→∀ {r:List Int},pC gO fq cS cg ct cJ = some r→∃ v H',C dy 0 ⟨ng,kg,ni⟩ cS cg ct cJ H = some (v,H')∧af.Q H0 Ri R0  r v H'
def af.pj8 (F:Nat) (nk:List (Int×Int×Int×Int×Int)→List Int→Int→Int→Int→Int→Option (List Int)) (kh:List (Int×Int×Int×Int×Int)) (ki:List Int) (iO:Int) (iQ:Int) (iS:Int) (iT:Int):Option (List Int):=nk kh ki iO iQ iS (IntKind.i64.wrap (iT + 1))
theorem af.j8_P {F:Nat} {H0:Hp} {Ri R0:List Rs}  {C7855_:Nat→Nat→Sl→Int→Int→Int→Int→Hp→OA} {nk:List (Int×Int×Int×Int×Int)→List Int→Int→Int→Int→Int→Option (List Int)} (hC7855:af.S7855 H0 Ri R0  C7855_ nk) {sK sL:ON} {qf l_ qg:Nat} {sM sO:Cap} {kh:List (Int×Int×Int×Int×Int)} {xV iO iQ iS iT:Int} {ki:List Int} {sQ:List AV} {H:Hp} (xW:qf = kh.length) (xX:qg = ki.length) (h0:Out H0 Ri H (Rs.blk l_ [.sl ⟨sK,qf,sM⟩,.int .i64 xV] :: Rs.own ⟨sL,qg,sO⟩ (eInt .i64).z sQ :: R0) fun R=>ROs (ePair (eInt .i64) (ePair (eInt .i64) (ePair (eInt .i64) (ePair (eInt .i64) (eInt .i64))))) H R ⟨sK,qf,sM⟩ kh∧CR (eInt .i64) H R sQ ki) {r:List Int} (hp:af.pj8 F nk kh ki iO iQ iS iT = some r):∃ v H',af.j8 F (ah.tw F) C7855_ l_ 0 ⟨sL,qg,sO⟩ iO iQ iS iT H = some (v,H')∧af.Q H0 Ri R0  r v H':=by
 obtain ⟨w0,s0,xY,xZ⟩:=h0
 subst xW
 subst xX
 unfold af.pj8 at hp
 unfold af.j8
 exact hC7855 rfl rfl ⟨w0,s0,xY,xZ⟩ hp
def af.pj6 (F:Nat) (aF:List (Int×Int×Int×Int×Int)→List Int→Int→Option (List Int)) (kj:List (Int×Int×Int×Int×Int)) (kk:List Int) (iM:Int):Option (List Int):=aF kj kk (IntKind.i64.wrap (iM + 1))
theorem af.j6_P {F:Nat} {H0:Hp} {Ri R0:List Rs}  {C61_:Nat→Nat→Sl→Int→Hp→OA} {aF:List (Int×Int×Int×Int×Int)→List Int→Int→Option (List Int)} (hC61:af.S61 H0 Ri R0  C61_ aF) {sS sT:ON} {qh lY qi:Nat} {sU sV:Cap} {kj:List (Int×Int×Int×Int×Int)} {x_ iM:Int} {kk:List Int} {sW:List AV} {H:Hp} (ya:qh = kj.length) (yb:qi = kk.length) (h0:Out H0 Ri H (Rs.blk lY [.sl ⟨sS,qh,sU⟩,.int .i64 x_] :: Rs.own ⟨sT,qi,sV⟩ (eInt .i64).z sW :: R0) fun R=>ROs (ePair (eInt .i64) (ePair (eInt .i64) (ePair (eInt .i64) (ePair (eInt .i64) (eInt .i64))))) H R ⟨sS,qh,sU⟩ kj∧CR (eInt .i64) H R sW kk) {r:List Int} (hp:af.pj6 F aF kj kk iM = some r):∃ v H',af.j6 F (ah.tw F) C61_ lY 0 ⟨sT,qi,sV⟩ iM H = some (v,H')∧af.Q H0 Ri R0  r v H':=by
 obtain ⟨w0,s0,yc,yd⟩:=h0
 subst ya
 subst yb
 unfold af.pj6 at hp
 unfold af.j6
 exact hC61 rfl rfl ⟨w0,s0,yc,yd⟩ hp
def af.pj7 (F:Nat) (aF:List (Int×Int×Int×Int×Int)→List Int→Int→Option (List Int)) (kl:List (Int×Int×Int×Int×Int)) (km:List Int) (ho:Int):Option (List Int):=af.pj6 F aF kl km ho
theorem af.j7_P {F:Nat} {H0:Hp} {Ri R0:List Rs}  {C61_:Nat→Nat→Sl→Int→Hp→OA} {aF:List (Int×Int×Int×Int×Int)→List Int→Int→Option (List Int)} (hC61:af.S61 H0 Ri R0  C61_ aF) {sX sY:ON} {qj lZ qk:Nat} {sZ s_:Cap} {kl:List (Int×Int×Int×Int×Int)} {ye ho:Int} {km:List Int} {ta:List AV} {H:Hp} (yf:qj = kl.length) (yg:qk = km.length) (h0:Out H0 Ri H (Rs.blk lZ [.sl ⟨sX,qj,sZ⟩,.int .i64 ye] :: Rs.own ⟨sY,qk,s_⟩ (eInt .i64).z ta :: R0) fun R=>ROs (ePair (eInt .i64) (ePair (eInt .i64) (ePair (eInt .i64) (ePair (eInt .i64) (eInt .i64))))) H R ⟨sX,qj,sZ⟩ kl∧CR (eInt .i64) H R ta km) {r:List Int} (hp:af.pj7 F aF kl km ho = some r):∃ v H',af.j7 F (ah.tw F) C61_ lZ 0 ⟨sY,qk,s_⟩ ho H = some (v,H')∧af.Q H0 Ri R0  r v H':=by
 obtain ⟨w0,s0,yh,yi⟩:=h0
 subst yf
 subst yg
 unfold af.pj7 at hp
 unfold af.j7
 exact af.j6_P (@hC61) rfl rfl ⟨w0,s0,yh,yi⟩ hp
def af.pl7855 (F:Nat) (aF:List (Int×Int×Int×Int×Int)→List Int→Int→Option (List Int)):Nat→List (Int×Int×Int×Int×Int)→List Int→Int→Int→Int→Int→Option (List Int)
 | 0,_,_,_,_,_,_=>none
 | k + 1,gO,fq,cS,cg,ct,cJ=>(bif (decide (cJ < (fq.length:Int))) then ((ix fq cJ).bind fun n1=>(bif ((gt fq n1) == (if ct > cg then ct else cg)) then ((ix fq cJ).bind fun n2=>(some (fq.set n2 (if ct < cg then ct else cg))).bind fun l3=>af.pj8 F (af.pl7855 F aF k) gO l3 cS cg ct cJ) else (af.pj8 F (af.pl7855 F aF k) gO fq cS cg ct cJ))) else (af.pj7 F aF gO fq cS))
termination_by structural n=>n
theorem af.l7855_P {F:Nat} {H0:Hp} {Ri R0:List Rs}  {C61_:Nat→Nat→Sl→Int→Hp→OA} {aF:List (Int×Int×Int×Int×Int)→List Int→Int→Option (List Int)} (hC61:af.S61 H0 Ri R0  C61_ aF):∀ k,af.S7855 H0 Ri R0  (af.l7855 F (ah.tw F) C61_ k) (af.pl7855 F aF k):=by
 intro k
 induction k with
 | zero=>
  intro nd ng kf dy kg nh ni gO qe cS cg ct cJ fq nj H tc td h0 r hp
  exact nomatch (show (none:Option (List Int)) = some r from hp)
 | succ k ih=>
  intro nd ng kf dy kg nh ni gO qe cS cg ct cJ fq nj H tc td h0 r hp
  obtain ⟨w0,s0,ql,kn⟩:=h0
  subst tc
  subst td
  unfold af.pl7855 at hp
  unfold af.l7855
  refine bif_ex (fun hb=>?_) (fun hb=>?_)
  ·replace hp:=bif_t hb hp
   obtain ⟨n1,g1,hp⟩:=bind_some' hp
   obtain ⟨p1,q1,i1,h1,j1⟩:=W.ixo (E:=(eInt .i64)) w0 (i:=1) rfl rfl kn g1
   refine bind_ex i1 ?_
   have h1:_ = [_]:=h1
   subst h1
   refine bind_ex (ldI_of (j1 0 _ rfl)) ?_
   refine bif_ex (fun hb=>?_) (fun hb=>?_)
   ·replace hp:=bif_t hb hp
    obtain ⟨n2,g2,hp⟩:=bind_some' hp
    obtain ⟨p2,q2,i2,h2,j2⟩:=W.ixo (E:=(eInt .i64)) w0 (i:=1) rfl rfl kn g2
    refine bind_ex i2 ?_
    obtain ⟨l3,e3,hp⟩:=bind_some' hp
    refine sto_k (eInt .i64) w0 (i:=1) (j:=0) (p:=p2) rfl rfl kn g2 i2 e3 rfl rfl (fun _ h=>by have h:_ = [_]:=h; subst h; exact rfl) fun H4 k4 w4 s4 c4=>?_
    dsimp only [List.set] at w4 s4 c4
    exact af.j8_P (@ih) rfl ((st_len e3).symm) ⟨w4,(s0.trans s4),(ql.step s4),c4⟩ hp
   ·replace hp:=bif_f hb hp
    exact af.j8_P (@ih) rfl rfl ⟨w0,s0,ql,kn⟩ hp
  ·replace hp:=bif_f hb hp
   exact af.j7_P (@hC61) rfl rfl ⟨w0,s0,ql,kn⟩ hp
def af.pl61 (F:Nat) :Nat→List (Int×Int×Int×Int×Int)→List Int→Int→Option (List Int)
 | 0,_,_,_=>none
 | k + 1,gA,fI,dh=>(bif (decide (dh < (IntKind.i64.wrap (2 * (gA.length:Int))))) then ((ah.p F gA dh true).bind fun r1=>(ah.p F gA dh false).bind fun r3=>(ix fI r1.1).bind fun n5=>(ix fI r3.1).bind fun n6=>af.pl7855 F (af.pl61 F k) F gA fI dh (gt fI n5) (gt fI n6) 0) else (some fI))
termination_by structural n=>n
theorem af.l61_P {F:Nat} {H0:Hp} {Ri R0:List Rs}  :∀ k,af.S61 H0 Ri R0  (af.l61 F (ah.tw F)  k) (af.pl61 F  k):=by
 intro k
 induction k with
 | zero=>
  intro mZ m_ kd dz ke na nb gA qd dh fI nc H te tf h0 r hp
  exact nomatch (show (none:Option (List Int)) = some r from hp)
 | succ k ih=>
  intro mZ m_ kd dz ke na nb gA qd dh fI nc H te tf h0 r hp
  obtain ⟨w0,s0,qn,nl⟩:=h0
  subst te
  subst tf
  unfold af.pl61 at hp
  unfold af.l61
  refine bind_ex (ldSl_of (w0.ld (i:=0) rfl rfl)) ?_
  refine bif_ex (fun hb=>?_) (fun hb=>?_)
  ·replace hp:=bif_t hb hp
   refine bind_ex (ldSl_of (w0.ld (i:=0) rfl rfl)) ?_
   refine bind_ex (ldI_of (w0.ld (i:=0) rfl rfl)) ?_
   obtain ⟨r1,e1,hp⟩:=bind_some' hp
   refine call_ex (ah.P rfl ⟨w0,qn⟩ e1) ?_
   rintro _ H2 ⟨rfl,w2,s2,_⟩
   refine bind_ex rfl ?_
   refine bind_ex rfl ?_
   refine bind_ex rfl ?_
   refine bind_ex rfl ?_
   refine bind_ex rfl ?_
   refine bind_ex (ldSl_of (w2.ld (i:=0) rfl rfl)) ?_
   refine bind_ex (ldI_of (w2.ld (i:=0) rfl rfl)) ?_
   obtain ⟨r3,e3,hp⟩:=bind_some' hp
   refine call_ex (ah.P rfl ⟨w2,(qn.step s2)⟩ e3) ?_
   rintro _ H4 ⟨rfl,w4,s4,_⟩
   refine bind_ex rfl ?_
   refine bind_ex rfl ?_
   refine bind_ex rfl ?_
   refine bind_ex rfl ?_
   refine bind_ex rfl ?_
   obtain ⟨n5,g5,hp⟩:=bind_some' hp
   obtain ⟨p5,q5,i5,h5,j5⟩:=W.ixo (E:=(eInt .i64)) w4 (i:=1) rfl rfl (nl.step (s2.trans s4)) g5
   refine bind_ex i5 ?_
   have h5:_ = [_]:=h5
   subst h5
   refine bind_ex (ldI_of (j5 0 _ rfl)) ?_
   obtain ⟨n6,g6,hp⟩:=bind_some' hp
   obtain ⟨p6,q6,i6,h6,j6⟩:=W.ixo (E:=(eInt .i64)) w4 (i:=1) rfl rfl (nl.step (s2.trans s4)) g6
   refine bind_ex i6 ?_
   have h6:_ = [_]:=h6
   subst h6
   refine bind_ex (ldI_of (j6 0 _ rfl)) ?_
   exact af.l7855_P (@ih) F rfl rfl ⟨w4,(s0.trans (s2.trans s4)),(qn.step (s2.trans s4)),(nl.step (s2.trans s4))⟩ hp
  ·replace hp:=bif_f hb hp
   obtain ⟨w7,s7⟩:=w0.pick' [1] 2 rfl rfl rfl
   dsimp only [pk,pks,nth,List.drop] at w7 s7
   obtain rfl:=Option.some.inj hp
   exact ⟨_,_,rfl,_,_,_,_,rfl,rfl,w7,(s0.trans s7),(nl.step s7)⟩
def af.pj9 (F:Nat)  (ko:List (Int×Int×Int×Int×Int)) (kp:List Int):Option (List Int):=af.pl61 F F ko kp 0
theorem af.j9_P {F:Nat} {H0:Hp} {Ri R0:List Rs}   {tg th:ON} {qo ma qp:Nat} {ti tj:Cap} {ko:List (Int×Int×Int×Int×Int)} {yj:Int} {kp:List Int} {tk:List AV} {H:Hp} (yk:qo = ko.length) (yl:qp = kp.length) (h0:Out H0 Ri H (Rs.blk ma [.sl ⟨tg,qo,ti⟩,.int .i64 yj] :: Rs.own ⟨th,qp,tj⟩ (eInt .i64).z tk :: R0) fun R=>ROs (ePair (eInt .i64) (ePair (eInt .i64) (ePair (eInt .i64) (ePair (eInt .i64) (eInt .i64))))) H R ⟨tg,qo,ti⟩ ko∧CR (eInt .i64) H R tk kp) {r:List Int} (hp:af.pj9 F  ko kp = some r):∃ v H',af.j9 F (ah.tw F)  ma 0 ⟨th,qp,tj⟩ H = some (v,H')∧af.Q H0 Ri R0  r v H':=by
 obtain ⟨w0,s0,ym,yn⟩:=h0
 subst yk
 subst yl
 unfold af.pj9 at hp
 unfold af.j9
 exact af.l61_P F rfl rfl ⟨w0,s0,ym,yn⟩ hp
def af.pl29 (F:Nat) :Nat→List (Int×Int×Int×Int×Int)→List Int→Int→Option (List Int)
 | 0,_,_,_=>none
 | k + 1,eb,hQ,bZ=>(bif (decide (bZ < (eb.length:Int))) then ((apn hQ ([bZ]:List Int)).bind fun l2=>af.pl29 F k eb l2 (IntKind.i64.wrap (bZ + 1))) else (af.pj9 F eb hQ))
termination_by structural n=>n
theorem af.l29_P {F:Nat} {H0:Hp} {Ri R0:List Rs}  :∀ k,af.S29 H0 Ri R0  (af.l29 F (ah.tw F)  k) (af.pl29 F  k):=by
 intro k
 induction k with
 | zero=>
  intro gM mW gp bR kc gN mX eb gq bZ hQ mY H kq tl h0 r hp
  exact nomatch (show (none:Option (List Int)) = some r from hp)
 | succ k ih=>
  intro gM mW gp bR kc gN mX eb gq bZ hQ mY H kq tl h0 r hp
  obtain ⟨w0,s0,kr,tn⟩:=h0
  subst kq
  subst tl
  unfold af.pl29 at hp
  unfold af.l29
  refine bind_ex (ldSl_of (w0.ld (i:=0) rfl rfl)) ?_
  refine bif_ex (fun hb=>?_) (fun hb=>?_)
  ·replace hp:=bif_t hb hp
   refine newS_k (eInt .i64) w0 (n:=1) (l:=([bZ]:List Int)) rfl (CR.cons1 rfl CR.empty) rfl fun H1 w1 s1 c1=>?_
   refine bind_ex (w1.rowo (i:=0) rfl) ?_
   obtain ⟨l2,e2,hp⟩:=bind_some' hp
   refine app_k (eInt .i64) w1 (i:=2) rfl rfl (tn.step s1) c1 (show 1 = List.length ([bZ]:List Int) from rfl) rfl e2 fun a3 d3 H3 w3 s3 c3 x3=>?_
   dsimp only [List.set] at w3 s3 c3
   obtain ⟨w4,s4⟩:=w3.pick' [1,2] 3 rfl rfl rfl
   dsimp only [pk,pks,nth,List.drop] at w4 s4
   exact ih rfl rfl ⟨w4,(s0.trans (s1.trans (s3.trans s4))),(kr.step (s1.trans (s3.trans s4))),(c3.step s4)⟩ hp
  ·replace hp:=bif_f hb hp
   exact af.j9_P rfl rfl ⟨w0,s0,kr,tn⟩ hp
def af.p (F:Nat) (ac:List (Int×Int×Int×Int×Int)):Option (List Int):=af.pl29 F F ac ([]:List Int) 0
theorem af.P {F:Nat} {ap:ON} {ag:Nat} {aq:Cap} {ac:List (Int×Int×Int×Int×Int)} {ab:Int} {H:Hp} {R0:List Rs} (aV:ag = ac.length) (h0:Inn H R0 fun R=>ROs (ePair (eInt .i64) (ePair (eInt .i64) (ePair (eInt .i64) (ePair (eInt .i64) (eInt .i64))))) H R ⟨ap,ag,aq⟩ ac) {r:List Int} (hp:af.p F ac = some r):∃ v H',af.tw F ⟨ap,ag,aq⟩ ab H = some (v,H')∧af.Q H R0 R0  r v H':=by
 obtain ⟨w0,aQ⟩:=h0
 subst aV
 unfold af.p at hp
 unfold af.tw af.twX
 have s0:=w0.rf
 refine new_k w0 fun H1 w1 s1=>?_
 refine newS_k (eInt .i64) w1 (n:=0) (l:=([]:List Int)) rfl CR.empty rfl fun H2 w2 s2 c2=>?_
 obtain ⟨w3,s3⟩:=w2.pick' [1,0] 2 rfl rfl rfl
 dsimp only [pk,pks,nth,List.drop] at w3 s3
 exact af.l29_P F rfl (show 0 = List.length ([]:List Int) from rfl) ⟨w3,(s0.trans (s1.trans (s2.trans s3))),(aQ.step (s1.trans (s2.trans s3))),(c2.step s3)⟩ hp
def ay.Q (H0:Hp) (Ri R0:List Rs)  (r:Int) (v:AV) (H':Hp):Prop:=v = (.int .i64 r)∧Out H0 Ri H' (R0) fun R=>True
def ay.S61 (H0:Hp) (Ri R0:List Rs)  (C:Int→Sl→Int→Hp→OA) (pC:Int→List Int→Int→Option (Int)):Prop:=∀ {di cK:Int} {nm:ON} {kt:Nat} {nn:Cap} {gr:List Int} {np:List AV},∀ {H:Hp},kt = gr.length→(Out H0 Ri H (Rs.own ⟨nm,kt,nn⟩ (eInt .i64).z np :: R0) fun R=>CR (eInt .i64) H R np gr)→∀ {r:Int},pC di gr cK = some r→∃ v H',C di ⟨nm,kt,nn⟩ cK H = some (v,H')∧ay.Q H0 Ri R0  r v H'
def ay.pj2 (F:Nat) (aF:Int→List Int→Int→Option (Int)) (iV:Int) (ku:List Int) (iW:Int):Option (Int):=aF iV ku (IntKind.i64.wrap (iW + 1))
theorem ay.j2_P {F:Nat} {H0:Hp} {Ri R0:List Rs}  {C61_:Int→Sl→Int→Hp→OA} {aF:Int→List Int→Int→Option (Int)} (hC61:ay.S61 H0 Ri R0  C61_ aF) {iV iW:Int} {tp:ON} {qq:Nat} {tq:Cap} {ku:List Int} {ts:List AV} {H:Hp} (yo:qq = ku.length) (h0:Out H0 Ri H (Rs.own ⟨tp,qq,tq⟩ (eInt .i64).z ts :: R0) fun R=>CR (eInt .i64) H R ts ku) {r:Int} (hp:ay.pj2 F aF iV ku iW = some r):∃ v H',ay.j2 F (af.tw F) C61_ iV ⟨tp,qq,tq⟩ iW H = some (v,H')∧ay.Q H0 Ri R0  r v H':=by
 obtain ⟨w0,s0,yp⟩:=h0
 subst yo
 unfold ay.pj2 at hp
 unfold ay.j2
 exact hC61 rfl ⟨w0,s0,yp⟩ hp
def ay.pl61 (F:Nat) :Nat→Int→List Int→Int→Option (Int)
 | 0,_,_,_=>none
 | k + 1,di,gr,cK=>(bif (decide (cK < (gr.length:Int))) then ((ix gr cK).bind fun n1=>(bif ((gt gr n1) == cK) then (ay.pj2 F (ay.pl61 F k) (IntKind.i64.wrap (di + 1)) gr cK) else (ay.pj2 F (ay.pl61 F k) di gr cK))) else (some di))
termination_by structural n=>n
theorem ay.l61_P {F:Nat} {H0:Hp} {Ri R0:List Rs}  :∀ k,ay.S61 H0 Ri R0  (ay.l61 F (af.tw F)  k) (ay.pl61 F  k):=by
 intro k
 induction k with
 | zero=>
  intro di cK nm kt nn gr np H tt h0 r hp
  exact nomatch (show (none:Option (Int)) = some r from hp)
 | succ k ih=>
  intro di cK nm kt nn gr np H tt h0 r hp
  obtain ⟨w0,s0,qr⟩:=h0
  subst tt
  unfold ay.pl61 at hp
  unfold ay.l61
  refine bif_ex (fun hb=>?_) (fun hb=>?_)
  ·replace hp:=bif_t hb hp
   obtain ⟨n1,g1,hp⟩:=bind_some' hp
   obtain ⟨p1,q1,i1,h1,j1⟩:=W.ixo (E:=(eInt .i64)) w0 (i:=0) rfl rfl qr g1
   refine bind_ex i1 ?_
   have h1:_ = [_]:=h1
   subst h1
   refine bind_ex (ldI_of (j1 0 _ rfl)) ?_
   refine bif_ex (fun hb=>?_) (fun hb=>?_)
   ·replace hp:=bif_t hb hp
    exact ay.j2_P (@ih) rfl ⟨w0,s0,qr⟩ hp
   ·replace hp:=bif_f hb hp
    exact ay.j2_P (@ih) rfl ⟨w0,s0,qr⟩ hp
  ·replace hp:=bif_f hb hp
   obtain ⟨w2,s2⟩:=w0.pick' [] 1 rfl rfl rfl
   dsimp only [pk,pks,nth,List.drop] at w2 s2
   obtain rfl:=Option.some.inj hp
   exact ⟨_,_,rfl,rfl,w2,(s0.trans s2),trivial⟩
def ay.p (F:Nat) (ac:List (Int×Int×Int×Int×Int)):Option (Int):=(af.p F ac).bind fun r2=>ay.pl61 F F 0 r2 0
theorem ay.P {F:Nat} {ap:ON} {ag:Nat} {aq:Cap} {ac:List (Int×Int×Int×Int×Int)} {ab:Int} {H:Hp} {R0:List Rs} (aV:ag = ac.length) (h0:Inn H R0 fun R=>ROs (ePair (eInt .i64) (ePair (eInt .i64) (ePair (eInt .i64) (ePair (eInt .i64) (eInt .i64))))) H R ⟨ap,ag,aq⟩ ac) {r:Int} (hp:ay.p F ac = some r):∃ v H',ay.tw F ⟨ap,ag,aq⟩ ab H = some (v,H')∧ay.Q H R0 R0  r v H':=by
 obtain ⟨w0,aQ⟩:=h0
 subst aV
 unfold ay.p at hp
 unfold ay.tw ay.twX
 have s0:=w0.rf
 refine new_k w0 fun H1 w1 s1=>?_
 refine bind_ex (ldSl_of (w1.ld (i:=0) rfl rfl)) ?_
 refine bind_ex (ldI_of (w1.ld (i:=0) rfl rfl)) ?_
 obtain ⟨r2,e2,hp⟩:=bind_some' hp
 refine call_ex (af.P rfl ⟨w1,(aQ.step s1)⟩ e2) ?_
 rintro _ H3 ⟨o0a_3,o0n_3,o0c_3,o0k_3,rfl,rfl,w3,s3,f3_0⟩
 refine bind_ex rfl ?_
 obtain ⟨w4,s4⟩:=w3.pick' [0] 2 rfl rfl rfl
 dsimp only [pk,pks,nth,List.drop] at w4 s4
 exact ay.l61_P F rfl ⟨w4,(s0.trans (s1.trans (s3.trans s4))),(f3_0.step s4)⟩ hp
def bk.Q (H0:Hp) (Ri R0:List Rs)  (r:Bool) (v:AV) (H':Hp):Prop:=v = (.bool r)∧Out H0 Ri H' (R0) fun R=>True
def bk.p (F:Nat) (ac:List (Int×Int×Int×Int×Int)) (ab:Int):Option (Bool):=(bif (decide ((ac.length:Int) > 10)) then (some false) else ((aY.p F ab 0 8).bind fun r3=>(bif (!r3) then (some false) else ((ak.p F ac).bind fun r6=>(bif (!r6) then (some false) else ((aj.p F ac).bind fun r9=>(ay.p F ac).bind fun r12=>some ((r9.length:Int) == (IntKind.i64.wrap ((ac.length:Int) + (IntKind.i64.wrap (2 * r12)))))))))))
theorem bk.P {F:Nat} {ap:ON} {ag:Nat} {aq:Cap} {ac:List (Int×Int×Int×Int×Int)} {ab:Int} {H:Hp} {R0:List Rs} (aV:ag = ac.length) (h0:Inn H R0 fun R=>ROs (ePair (eInt .i64) (ePair (eInt .i64) (ePair (eInt .i64) (ePair (eInt .i64) (eInt .i64))))) H R ⟨ap,ag,aq⟩ ac) {r:Bool} (hp:bk.p F ac ab = some r):∃ v H',bk.tw F ⟨ap,ag,aq⟩ ab H = some (v,H')∧bk.Q H R0 R0  r v H':=by
 obtain ⟨w0,aQ⟩:=h0
 subst aV
 unfold bk.p at hp
 unfold bk.tw bk.twX
 have s0:=w0.rf
 refine new_k w0 fun H1 w1 s1=>?_
 refine bind_ex (ldSl_of (w1.ld (i:=0) rfl rfl)) ?_
 refine bif_ex (fun hb=>?_) (fun hb=>?_)
 ·replace hp:=bif_t hb hp
  obtain ⟨w2,s2⟩:=w1.pick' [] 1 rfl rfl rfl
  dsimp only [pk,pks,nth,List.drop] at w2 s2
  obtain rfl:=Option.some.inj hp
  exact ⟨_,_,rfl,rfl,w2,(s0.trans (s1.trans s2)),trivial⟩
 ·replace hp:=bif_f hb hp
  refine bind_ex (ldI_of (w1.ld (i:=0) rfl rfl)) ?_
  obtain ⟨r3,e3,hp⟩:=bind_some' hp
  refine call_ex (aY.P ⟨w1,trivial⟩ e3) ?_
  rintro _ H4 ⟨rfl,w4,s4,_⟩
  refine bind_ex rfl ?_
  refine bif_ex (fun hb=>?_) (fun hb=>?_)
  ·replace hp:=bif_t hb hp
   obtain ⟨w5,s5⟩:=w4.pick' [] 1 rfl rfl rfl
   dsimp only [pk,pks,nth,List.drop] at w5 s5
   obtain rfl:=Option.some.inj hp
   exact ⟨_,_,rfl,rfl,w5,(s0.trans (s1.trans (s4.trans s5))),trivial⟩
  ·replace hp:=bif_f hb hp
   refine bind_ex (ldSl_of (w4.ld (i:=0) rfl rfl)) ?_
   refine bind_ex (ldI_of (w4.ld (i:=0) rfl rfl)) ?_
   obtain ⟨r6,e6,hp⟩:=bind_some' hp
   refine call_ex (ak.P rfl ⟨w4,(aQ.step (s1.trans s4))⟩ e6) ?_
   rintro _ H7 ⟨rfl,w7,s7,_⟩
   refine bind_ex rfl ?_
   refine bif_ex (fun hb=>?_) (fun hb=>?_)
   ·replace hp:=bif_t hb hp
    obtain ⟨w8,s8⟩:=w7.pick' [] 1 rfl rfl rfl
    dsimp only [pk,pks,nth,List.drop] at w8 s8
    obtain rfl:=Option.some.inj hp
    exact ⟨_,_,rfl,rfl,w8,(s0.trans (s1.trans (s4.trans (s7.trans s8)))),trivial⟩
   ·replace hp:=bif_f hb hp
    refine bind_ex (ldSl_of (w7.ld (i:=0) rfl rfl)) ?_
    refine bind_ex (ldI_of (w7.ld (i:=0) rfl rfl)) ?_
    obtain ⟨r9,e9,hp⟩:=bind_some' hp
    refine call_ex (aj.P rfl ⟨w7,(aQ.step (s1.trans (s4.trans s7)))⟩ e9) ?_
    rintro _ H10 ⟨o0a_10,o0n_10,o0c_10,o0k_10,rfl,rfl,w10,s10,f10_0⟩
    refine bind_ex rfl ?_
    refine ifs_ex (W.cons_of (Rn:=[_]) w7 w10 s10) ?_
    refine bind_ex (ldSl_of (w10.ld (i:=1) rfl rfl)) ?_
    refine bind_ex (ldSl_of (w10.ld (i:=1) rfl rfl)) ?_
    refine bind_ex (ldI_of (w10.ld (i:=1) rfl rfl)) ?_
    obtain ⟨r12,e12,hp⟩:=bind_some' hp
    refine call_ex (ay.P rfl ⟨w10,(aQ.step (s1.trans (s4.trans (s7.trans s10))))⟩ e12) ?_
    rintro _ H13 ⟨rfl,w13,s13,_⟩
    refine bind_ex rfl ?_
    refine ifs_ex (W.cons_of (Rn:=[]) w10 w13 s13) ?_
    obtain ⟨w15,s15⟩:=w13.pick' [] 2 rfl rfl rfl
    dsimp only [pk,pks,nth,List.drop] at w15 s15
    obtain rfl:=Option.some.inj hp
    exact ⟨_,_,rfl,rfl,w15,(s0.trans (s1.trans (s4.trans (s7.trans (s10.trans (s13.trans s15)))))),trivial⟩
def ad.Q (H0:Hp) (Ri R0:List Rs)  (r:List Int×Int) (v:AV) (H':Hp):Prop:=∃ o0a:ON,∃ o0n:Nat,∃ o0c:Cap,∃ o0k:List AV,v = (.tup [(.sl ⟨o0a,o0n,o0c⟩),(.int .i64 r.2)])∧o0n = (r.1).length∧Out H0 Ri H' (Rs.own ⟨o0a,o0n,o0c⟩ (eInt .i64).z o0k :: R0) fun R=>CR (eInt .i64) H' R o0k (r.1)
def ad.S29 (H0:Hp) (Ri R0:List Rs)  (C:Nat→Nat→Sl→Int→Hp→OA) (pC:List (Int×Int×Int×Int×Int)→Int→List Int→Int→Option (List Int×Int)):Prop:=∀ {gM nq:ON} {gp bR kv:Nat} {gN nr:Cap} {eb:List (Int×Int×Int×Int×Int)} {gq dk:Int} {hR:List Int} {ns:List AV},∀ {H:Hp},gp = eb.length→kv = hR.length→(Out H0 Ri H (Rs.blk bR [.sl ⟨gM,gp,gN⟩,.int .i64 gq] :: Rs.own ⟨nq,kv,nr⟩ (eInt .i64).z ns :: R0) fun R=>ROs (ePair (eInt .i64) (ePair (eInt .i64) (ePair (eInt .i64) (ePair (eInt .i64) (eInt .i64))))) H R ⟨gM,gp,gN⟩ eb∧CR (eInt .i64) H R ns hR)→∀ {r:List Int×Int},pC eb gq hR dk = some r→∃ v H',C bR 0 ⟨nq,kv,nr⟩ dk H = some (v,H')∧ad.Q H0 Ri R0  r v H'
def ad.S61 (H0:Hp) (Ri R0:List Rs)  (C:Nat→Nat→Sl→Int→Hp→OA) (pC:List (Int×Int×Int×Int×Int)→Int→List Int→Int→Option (List Int×Int)):Prop:=∀ {nt nu:ON} {kw dG kx:Nat} {nv nw:Cap} {fJ:List (Int×Int×Int×Int×Int)} {iq dj:Int} {fK:List Int} {nx:List AV},∀ {H:Hp},kw = fJ.length→kx = fK.length→(Out H0 Ri H (Rs.blk dG [.sl ⟨nt,kw,nv⟩,.int .i64 iq] :: Rs.own ⟨nu,kx,nw⟩ (eInt .i64).z nx :: R0) fun R=>ROs (ePair (eInt .i64) (ePair (eInt .i64) (ePair (eInt .i64) (ePair (eInt .i64) (eInt .i64))))) H R ⟨nt,kw,nv⟩ fJ∧CR (eInt .i64) H R nx fK)→∀ {r:List Int×Int},pC fJ iq fK dj = some r→∃ v H',C dG 0 ⟨nu,kx,nw⟩ dj H = some (v,H')∧ad.Q H0 Ri R0  r v H'
def ad.S1963 (H0:Hp) (Ri R0:List Rs)  (C:Nat→Nat→Sl→Int→Int→Int→Int→Hp→OA) (pC:List (Int×Int×Int×Int×Int)→Int→List Int→Int→Int→Int→Int→Option (List Int×Int)):Prop:=∀ {ny nz:ON} {ky dA kz:Nat} {nA nB:Cap} {gP:List (Int×Int×Int×Int×Int)} {hT cT ch cu cL:Int} {ft:List Int} {nC:List AV},∀ {H:Hp},ky = gP.length→kz = ft.length→(Out H0 Ri H (Rs.blk dA [.sl ⟨ny,ky,nA⟩,.int .i64 hT] :: Rs.own ⟨nz,kz,nB⟩ (eInt .i64).z nC :: R0) fun R=>ROs (ePair (eInt .i64) (ePair (eInt .i64) (ePair (eInt .i64) (ePair (eInt .i64) (eInt .i64))))) H R ⟨ny,ky,nA⟩ gP∧CR (eInt .i64) H R nC ft)→∀ {r:List Int×Int},pC gP hT ft cT ch cu cL = some r→∃ v H',C dA 0 ⟨nz,kz,nB⟩ cT ch cu cL H = some (v,H')∧ad.Q H0 Ri R0  r v H'
def ad.pj12 (F:Nat) (nD:List (Int×Int×Int×Int×Int)→Int→List Int→Int→Int→Int→Int→Option (List Int×Int)) (kA:List (Int×Int×Int×Int×Int)) (nE:Int) (kB:List Int) (jb:Int) (jc:Int) (jd:Int) (je:Int):Option (List Int×Int):=nD kA nE kB jb jc jd (IntKind.i64.wrap (je + 1))
theorem ad.j12_P {F:Nat} {H0:Hp} {Ri R0:List Rs}  {C1963_:Nat→Nat→Sl→Int→Int→Int→Int→Hp→OA} {nD:List (Int×Int×Int×Int×Int)→Int→List Int→Int→Int→Int→Int→Option (List Int×Int)} (hC1963:ad.S1963 H0 Ri R0  C1963_ nD) {tu tv:ON} {qs mh qt:Nat} {tx tz:Cap} {kA:List (Int×Int×Int×Int×Int)} {nE jb jc jd je:Int} {kB:List Int} {tB:List AV} {H:Hp} (yq:qs = kA.length) (yr:qt = kB.length) (h0:Out H0 Ri H (Rs.blk mh [.sl ⟨tu,qs,tx⟩,.int .i64 nE] :: Rs.own ⟨tv,qt,tz⟩ (eInt .i64).z tB :: R0) fun R=>ROs (ePair (eInt .i64) (ePair (eInt .i64) (ePair (eInt .i64) (ePair (eInt .i64) (eInt .i64))))) H R ⟨tu,qs,tx⟩ kA∧CR (eInt .i64) H R tB kB) {r:List Int×Int} (hp:ad.pj12 F nD kA nE kB jb jc jd je = some r):∃ v H',ad.j12 F  C1963_ mh 0 ⟨tv,qt,tz⟩ jb jc jd je H = some (v,H')∧ad.Q H0 Ri R0  r v H':=by
 obtain ⟨w0,s0,yt,yu⟩:=h0
 subst yq
 subst yr
 unfold ad.pj12 at hp
 unfold ad.j12
 exact hC1963 rfl rfl ⟨w0,s0,yt,yu⟩ hp
def ad.pj10 (F:Nat) (aF:List (Int×Int×Int×Int×Int)→Int→List Int→Int→Option (List Int×Int)) (kC:List (Int×Int×Int×Int×Int)) (nF:Int) (kD:List Int) (i_:Int):Option (List Int×Int):=aF kC nF kD (IntKind.i64.wrap (i_ + 1))
theorem ad.j10_P {F:Nat} {H0:Hp} {Ri R0:List Rs}  {C61_:Nat→Nat→Sl→Int→Hp→OA} {aF:List (Int×Int×Int×Int×Int)→Int→List Int→Int→Option (List Int×Int)} (hC61:ad.S61 H0 Ri R0  C61_ aF) {tC tD:ON} {qu mf qv:Nat} {tE tF:Cap} {kC:List (Int×Int×Int×Int×Int)} {nF i_:Int} {kD:List Int} {tG:List AV} {H:Hp} (yv:qu = kC.length) (yw:qv = kD.length) (h0:Out H0 Ri H (Rs.blk mf [.sl ⟨tC,qu,tE⟩,.int .i64 nF] :: Rs.own ⟨tD,qv,tF⟩ (eInt .i64).z tG :: R0) fun R=>ROs (ePair (eInt .i64) (ePair (eInt .i64) (ePair (eInt .i64) (ePair (eInt .i64) (eInt .i64))))) H R ⟨tC,qu,tE⟩ kC∧CR (eInt .i64) H R tG kD) {r:List Int×Int} (hp:ad.pj10 F aF kC nF kD i_ = some r):∃ v H',ad.j10 F  C61_ mf 0 ⟨tD,qv,tF⟩ i_ H = some (v,H')∧ad.Q H0 Ri R0  r v H':=by
 obtain ⟨w0,s0,yx,yy⟩:=h0
 subst yv
 subst yw
 unfold ad.pj10 at hp
 unfold ad.j10
 exact hC61 rfl rfl ⟨w0,s0,yx,yy⟩ hp
def ad.pj11 (F:Nat) (aF:List (Int×Int×Int×Int×Int)→Int→List Int→Int→Option (List Int×Int)) (kE:List (Int×Int×Int×Int×Int)) (nG:Int) (kF:List Int) (ja:Int):Option (List Int×Int):=ad.pj10 F aF kE nG kF ja
theorem ad.j11_P {F:Nat} {H0:Hp} {Ri R0:List Rs}  {C61_:Nat→Nat→Sl→Int→Hp→OA} {aF:List (Int×Int×Int×Int×Int)→Int→List Int→Int→Option (List Int×Int)} (hC61:ad.S61 H0 Ri R0  C61_ aF) {tH tI:ON} {qw mg qx:Nat} {tJ tK:Cap} {kE:List (Int×Int×Int×Int×Int)} {nG ja:Int} {kF:List Int} {tL:List AV} {H:Hp} (yz:qw = kE.length) (yA:qx = kF.length) (h0:Out H0 Ri H (Rs.blk mg [.sl ⟨tH,qw,tJ⟩,.int .i64 nG] :: Rs.own ⟨tI,qx,tK⟩ (eInt .i64).z tL :: R0) fun R=>ROs (ePair (eInt .i64) (ePair (eInt .i64) (ePair (eInt .i64) (ePair (eInt .i64) (eInt .i64))))) H R ⟨tH,qw,tJ⟩ kE∧CR (eInt .i64) H R tL kF) {r:List Int×Int} (hp:ad.pj11 F aF kE nG kF ja = some r):∃ v H',ad.j11 F  C61_ mg 0 ⟨tI,qx,tK⟩ ja H = some (v,H')∧ad.Q H0 Ri R0  r v H':=by
 obtain ⟨w0,s0,yB,yC⟩:=h0
 subst yz
 subst yA
 unfold ad.pj11 at hp
 unfold ad.j11
 exact ad.j10_P (@hC61) rfl rfl ⟨w0,s0,yB,yC⟩ hp
def ad.pl1963 (F:Nat) (aF:List (Int×Int×Int×Int×Int)→Int→List Int→Int→Option (List Int×Int)):Nat→List (Int×Int×Int×Int×Int)→Int→List Int→Int→Int→Int→Int→Option (List Int×Int)
 | 0,_,_,_,_,_,_,_=>none
 | k + 1,gP,hT,ft,cT,ch,cu,cL=>(bif (decide (cL < (ft.length:Int))) then ((ix ft cL).bind fun n1=>(bif ((gt ft n1) == (if cu > ch then cu else ch)) then ((ix ft cL).bind fun n2=>(some (ft.set n2 (if cu < ch then cu else ch))).bind fun l3=>ad.pj12 F (ad.pl1963 F aF k) gP hT l3 cT ch cu cL) else (ad.pj12 F (ad.pl1963 F aF k) gP hT ft cT ch cu cL))) else (ad.pj11 F aF gP hT ft cT))
termination_by structural n=>n
theorem ad.l1963_P {F:Nat} {H0:Hp} {Ri R0:List Rs}  {C61_:Nat→Nat→Sl→Int→Hp→OA} {aF:List (Int×Int×Int×Int×Int)→Int→List Int→Int→Option (List Int×Int)} (hC61:ad.S61 H0 Ri R0  C61_ aF):∀ k,ad.S1963 H0 Ri R0  (ad.l1963 F  C61_ k) (ad.pl1963 F aF k):=by
 intro k
 induction k with
 | zero=>
  intro ny nz ky dA kz nA nB gP hT cT ch cu cL ft nC H tM tO h0 r hp
  exact nomatch (show (none:Option (List Int×Int)) = some r from hp)
 | succ k ih=>
  intro ny nz ky dA kz nA nB gP hT cT ch cu cL ft nC H tM tO h0 r hp
  obtain ⟨w0,s0,qy,kG⟩:=h0
  subst tM
  subst tO
  unfold ad.pl1963 at hp
  unfold ad.l1963
  refine bif_ex (fun hb=>?_) (fun hb=>?_)
  ·replace hp:=bif_t hb hp
   obtain ⟨n1,g1,hp⟩:=bind_some' hp
   obtain ⟨p1,q1,i1,h1,j1⟩:=W.ixo (E:=(eInt .i64)) w0 (i:=1) rfl rfl kG g1
   refine bind_ex i1 ?_
   have h1:_ = [_]:=h1
   subst h1
   refine bind_ex (ldI_of (j1 0 _ rfl)) ?_
   refine bif_ex (fun hb=>?_) (fun hb=>?_)
   ·replace hp:=bif_t hb hp
    obtain ⟨n2,g2,hp⟩:=bind_some' hp
    obtain ⟨p2,q2,i2,h2,j2⟩:=W.ixo (E:=(eInt .i64)) w0 (i:=1) rfl rfl kG g2
    refine bind_ex i2 ?_
    obtain ⟨l3,e3,hp⟩:=bind_some' hp
    refine sto_k (eInt .i64) w0 (i:=1) (j:=0) (p:=p2) rfl rfl kG g2 i2 e3 rfl rfl (fun _ h=>by have h:_ = [_]:=h; subst h; exact rfl) fun H4 k4 w4 s4 c4=>?_
    dsimp only [List.set] at w4 s4 c4
    exact ad.j12_P (@ih) rfl ((st_len e3).symm) ⟨w4,(s0.trans s4),(qy.step s4),c4⟩ hp
   ·replace hp:=bif_f hb hp
    exact ad.j12_P (@ih) rfl rfl ⟨w0,s0,qy,kG⟩ hp
  ·replace hp:=bif_f hb hp
   exact ad.j11_P (@hC61) rfl rfl ⟨w0,s0,qy,kG⟩ hp
def ad.S509 (H0:Hp) (Ri R0:List Rs)  (C:Nat→Nat→Sl→Sl→Int→Int→Hp→OA) (pC:Int→List Int→List Int→Int→Int→Option (List Int×Int)):Prop:=∀ {nH nI nJ:ON} {kH dE kI kJ:Nat} {nK nL nM:Cap} {nN:List (Int×Int×Int×Int×Int)} {hU cF cC:Int} {fu fv:List Int} {nO nP:List AV},∀ {H:Hp},kH = nN.length→kI = fu.length→kJ = fv.length→(Out H0 Ri H (Rs.blk dE [.sl ⟨nH,kH,nK⟩,.int .i64 hU] :: Rs.own ⟨nI,kI,nL⟩ (eInt .i64).z nO :: Rs.own ⟨nJ,kJ,nM⟩ (eInt .i64).z nP :: R0) fun R=>ROs (ePair (eInt .i64) (ePair (eInt .i64) (ePair (eInt .i64) (ePair (eInt .i64) (eInt .i64))))) H R ⟨nH,kH,nK⟩ nN∧CR (eInt .i64) H R nO fu∧CR (eInt .i64) H R nP fv)→∀ {r:List Int×Int},pC hU fu fv cF cC = some r→∃ v H',C dE 0 ⟨nI,kI,nL⟩ ⟨nJ,kJ,nM⟩ cF cC H = some (v,H')∧ad.Q H0 Ri R0  r v H'
def ad.pj7 (F:Nat) (nQ:Int→List Int→List Int→Int→Int→Option (List Int×Int)) (nR:Int) (kK:List Int) (kL:List Int) (iY:Int) (iZ:Int):Option (List Int×Int):=nQ nR kK kL iY (IntKind.i64.wrap (iZ + 1))
theorem ad.j7_P {F:Nat} {H0:Hp} {Ri R0:List Rs}  {C509_:Nat→Nat→Sl→Sl→Int→Int→Hp→OA} {nQ:Int→List Int→List Int→Int→Int→Option (List Int×Int)} (hC509:ad.S509 H0 Ri R0  C509_ nQ) {tP tQ tR:ON} {qz mc qA qB:Nat} {tS tT tU:Cap} {tV:List (Int×Int×Int×Int×Int)} {nR iY iZ:Int} {kK kL:List Int} {tW tX:List AV} {H:Hp} (yD:qz = tV.length) (yE:qA = kK.length) (yF:qB = kL.length) (h0:Out H0 Ri H (Rs.blk mc [.sl ⟨tP,qz,tS⟩,.int .i64 nR] :: Rs.own ⟨tQ,qA,tT⟩ (eInt .i64).z tW :: Rs.own ⟨tR,qB,tU⟩ (eInt .i64).z tX :: R0) fun R=>ROs (ePair (eInt .i64) (ePair (eInt .i64) (ePair (eInt .i64) (ePair (eInt .i64) (eInt .i64))))) H R ⟨tP,qz,tS⟩ tV∧CR (eInt .i64) H R tW kK∧CR (eInt .i64) H R tX kL) {r:List Int×Int} (hp:ad.pj7 F nQ nR kK kL iY iZ = some r):∃ v H',ad.j7 F  C509_ mc 0 ⟨tQ,qA,tT⟩ ⟨tR,qB,tU⟩ iY iZ H = some (v,H')∧ad.Q H0 Ri R0  r v H':=by
 obtain ⟨w0,s0,yG,yH,yI⟩:=h0
 subst yD
 subst yE
 subst yF
 unfold ad.pj7 at hp
 unfold ad.j7
 exact hC509 rfl rfl rfl ⟨w0,s0,yG,yH,yI⟩ hp
def ad.pj6 (F:Nat)  (nS:Int) (kM:List Int) (iX:Int):Option (List Int×Int):=some (kM,(IntKind.i64.wrap (iX + nS)))
theorem ad.j6_P {F:Nat} {H0:Hp} {Ri R0:List Rs}   {tY tZ:ON} {qC mb qD:Nat} {t_ ua:Cap} {ub:List (Int×Int×Int×Int×Int)} {nS iX:Int} {kM:List Int} {uc:List AV} {H:Hp} (yJ:qC = ub.length) (yK:qD = kM.length) (h0:Out H0 Ri H (Rs.blk mb [.sl ⟨tY,qC,t_⟩,.int .i64 nS] :: Rs.own ⟨tZ,qD,ua⟩ (eInt .i64).z uc :: R0) fun R=>ROs (ePair (eInt .i64) (ePair (eInt .i64) (ePair (eInt .i64) (ePair (eInt .i64) (eInt .i64))))) H R ⟨tY,qC,t_⟩ ub∧CR (eInt .i64) H R uc kM) {r:List Int×Int} (hp:ad.pj6 F  nS kM iX = some r):∃ v H',ad.j6 F   mb 0 ⟨tZ,qD,ua⟩ iX H = some (v,H')∧ad.Q H0 Ri R0  r v H':=by
 obtain ⟨w0,s0,zQ,yL⟩:=h0
 subst yJ
 subst yK
 unfold ad.pj6 at hp
 unfold ad.j6
 refine bind_ex (ldI_of (w0.ld (i:=0) rfl rfl)) ?_
 obtain ⟨w1,s1⟩:=w0.pick' [1] 2 rfl rfl rfl
 dsimp only [pk,pks,nth,List.drop] at w1 s1
 obtain rfl:=Option.some.inj hp
 exact ⟨_,_,rfl,_,_,_,_,rfl,rfl,w1,(s0.trans s1),(yL.step s1)⟩
def ad.pl509 (F:Nat) :Nat→Int→List Int→List Int→Int→Int→Option (List Int×Int)
 | 0,_,_,_,_,_=>none
 | k + 1,hU,fu,fv,cF,cC=>(bif (decide (cC < (fu.length:Int))) then ((ix fu cC).bind fun n1=>(bif ((gt fu n1) == cC) then ((apn fv ([cF]:List Int)).bind fun l3=>ad.pj7 F (ad.pl509 F k) hU fu l3 (IntKind.i64.wrap (cF + 1)) cC) else ((ix fu cC).bind fun n6=>(ix fv (gt fu n6)).bind fun n7=>(apn fv ([(gt fv n7)]:List Int)).bind fun l9=>ad.pj7 F (ad.pl509 F k) hU fu l9 cF cC))) else (ad.pj6 F hU fv cF))
termination_by structural n=>n
theorem ad.l509_P {F:Nat} {H0:Hp} {Ri R0:List Rs}  :∀ k,ad.S509 H0 Ri R0  (ad.l509 F   k) (ad.pl509 F  k):=by
 intro k
 induction k with
 | zero=>
  intro nH nI nJ kH dE kI kJ nK nL nM nN hU cF cC fu fv nO nP H ud ue ug h0 r hp
  exact nomatch (show (none:Option (List Int×Int)) = some r from hp)
 | succ k ih=>
  intro nH nI nJ kH dE kI kJ nK nL nM nN hU cF cC fu fv nO nP H ud ue ug h0 r hp
  obtain ⟨w0,s0,qE,nT,nU⟩:=h0
  subst ud
  subst ue
  subst ug
  unfold ad.pl509 at hp
  unfold ad.l509
  refine bif_ex (fun hb=>?_) (fun hb=>?_)
  ·replace hp:=bif_t hb hp
   obtain ⟨n1,g1,hp⟩:=bind_some' hp
   obtain ⟨p1,q1,i1,h1,j1⟩:=W.ixo (E:=(eInt .i64)) w0 (i:=1) rfl rfl nT g1
   refine bind_ex i1 ?_
   have h1:_ = [_]:=h1
   subst h1
   refine bind_ex (ldI_of (j1 0 _ rfl)) ?_
   refine bif_ex (fun hb=>?_) (fun hb=>?_)
   ·replace hp:=bif_t hb hp
    refine newS_k (eInt .i64) w0 (n:=1) (l:=([cF]:List Int)) rfl (CR.cons1 rfl CR.empty) rfl fun H2 w2 s2 c2=>?_
    refine bind_ex (w2.rowo (i:=0) rfl) ?_
    obtain ⟨l3,e3,hp⟩:=bind_some' hp
    refine app_k (eInt .i64) w2 (i:=3) rfl rfl (nU.step s2) c2 (show 1 = List.length ([cF]:List Int) from rfl) rfl e3 fun a4 d4 H4 w4 s4 c4 x4=>?_
    dsimp only [List.set] at w4 s4 c4
    obtain ⟨w5,s5⟩:=w4.pick' [1,2,3] 4 rfl rfl rfl
    dsimp only [pk,pks,nth,List.drop] at w5 s5
    exact ad.j7_P (@ih) rfl rfl rfl ⟨w5,(s0.trans (s2.trans (s4.trans s5))),(qE.step (s2.trans (s4.trans s5))),(nT.step (s2.trans (s4.trans s5))),(c4.step s5)⟩ hp
   ·replace hp:=bif_f hb hp
    obtain ⟨n6,g6,hp⟩:=bind_some' hp
    obtain ⟨p6,q6,i6,h6,j6⟩:=W.ixo (E:=(eInt .i64)) w0 (i:=1) rfl rfl nT g6
    refine bind_ex i6 ?_
    have h6:_ = [_]:=h6
    subst h6
    refine bind_ex (ldI_of (j6 0 _ rfl)) ?_
    obtain ⟨n7,g7,hp⟩:=bind_some' hp
    obtain ⟨p7,q7,i7,h7,j7⟩:=W.ixo (E:=(eInt .i64)) w0 (i:=2) rfl rfl nU g7
    refine bind_ex i7 ?_
    have h7:_ = [_]:=h7
    subst h7
    refine bind_ex (ldI_of (j7 0 _ rfl)) ?_
    refine newS_k (eInt .i64) w0 (n:=1) (l:=([(gt fv n7)]:List Int)) rfl (CR.cons1 rfl CR.empty) rfl fun H8 w8 s8 c8=>?_
    refine bind_ex (w8.rowo (i:=0) rfl) ?_
    obtain ⟨l9,e9,hp⟩:=bind_some' hp
    refine app_k (eInt .i64) w8 (i:=3) rfl rfl (nU.step s8) c8 (show 1 = List.length ([(gt fv n7)]:List Int) from rfl) rfl e9 fun a10 d10 H10 w10 s10 c10 x10=>?_
    dsimp only [List.set] at w10 s10 c10
    obtain ⟨w11,s11⟩:=w10.pick' [1,2,3] 4 rfl rfl rfl
    dsimp only [pk,pks,nth,List.drop] at w11 s11
    exact ad.j7_P (@ih) rfl rfl rfl ⟨w11,(s0.trans (s8.trans (s10.trans s11))),(qE.step (s8.trans (s10.trans s11))),(nT.step (s8.trans (s10.trans s11))),(c10.step s11)⟩ hp
  ·replace hp:=bif_f hb hp
   obtain ⟨w12,s12⟩:=w0.pick' [0,2] 3 rfl rfl rfl
   dsimp only [pk,pks,nth,List.drop] at w12 s12
   exact ad.j6_P rfl rfl ⟨w12,(s0.trans s12),(qE.step s12),(nU.step s12)⟩ hp
def ad.pj8 (F:Nat)  (nV:Int) (kN:List Int):Option (List Int×Int):=ad.pl509 F F nV kN ([]:List Int) 0 0
theorem ad.j8_P {F:Nat} {H0:Hp} {Ri R0:List Rs}   {uh ui:ON} {qF md qG:Nat} {uj uk:Cap} {ul:List (Int×Int×Int×Int×Int)} {nV:Int} {kN:List Int} {um:List AV} {H:Hp} (yM:qF = ul.length) (yN:qG = kN.length) (h0:Out H0 Ri H (Rs.blk md [.sl ⟨uh,qF,uj⟩,.int .i64 nV] :: Rs.own ⟨ui,qG,uk⟩ (eInt .i64).z um :: R0) fun R=>ROs (ePair (eInt .i64) (ePair (eInt .i64) (ePair (eInt .i64) (ePair (eInt .i64) (eInt .i64))))) H R ⟨uh,qF,uj⟩ ul∧CR (eInt .i64) H R um kN) {r:List Int×Int} (hp:ad.pj8 F  nV kN = some r):∃ v H',ad.j8 F   md 0 ⟨ui,qG,uk⟩ H = some (v,H')∧ad.Q H0 Ri R0  r v H':=by
 obtain ⟨w0,s0,yO,yP⟩:=h0
 subst yM
 subst yN
 unfold ad.pj8 at hp
 unfold ad.j8
 refine newS_k (eInt .i64) w0 (n:=0) (l:=([]:List Int)) rfl CR.empty rfl fun H1 w1 s1 c1=>?_
 obtain ⟨w2,s2⟩:=w1.pick' [1,2,0] 3 rfl rfl rfl
 dsimp only [pk,pks,nth,List.drop] at w2 s2
 exact ad.l509_P F rfl rfl (show 0 = List.length ([]:List Int) from rfl) ⟨w2,(s0.trans (s1.trans s2)),(yO.step (s1.trans s2)),(yP.step (s1.trans s2)),(c1.step s2)⟩ hp
def ad.pl61 (F:Nat) :Nat→List (Int×Int×Int×Int×Int)→Int→List Int→Int→Option (List Int×Int)
 | 0,_,_,_,_=>none
 | k + 1,fJ,iq,fK,dj=>(bif (decide (dj < (fJ.length:Int))) then ((ix fJ dj).bind fun n1=>(ix fK ((gt fJ n1).2.1)).bind fun n2=>(ix fJ dj).bind fun n3=>(ix fK ((gt fJ n3).2.2.2.1)).bind fun n4=>ad.pl1963 F (ad.pl61 F k) F fJ iq fK dj (gt fK n2) (gt fK n4) 0) else (ad.pj8 F iq fK))
termination_by structural n=>n
theorem ad.l61_P {F:Nat} {H0:Hp} {Ri R0:List Rs}  :∀ k,ad.S61 H0 Ri R0  (ad.l61 F   k) (ad.pl61 F  k):=by
 intro k
 induction k with
 | zero=>
  intro nt nu kw dG kx nv nw fJ iq dj fK nx H un uo h0 r hp
  exact nomatch (show (none:Option (List Int×Int)) = some r from hp)
 | succ k ih=>
  intro nt nu kw dG kx nv nw fJ iq dj fK nx H un uo h0 r hp
  obtain ⟨w0,s0,nW,nX⟩:=h0
  subst un
  subst uo
  unfold ad.pl61 at hp
  unfold ad.l61
  refine bind_ex (ldSl_of (w0.ld (i:=0) rfl rfl)) ?_
  refine bif_ex (fun hb=>?_) (fun hb=>?_)
  ·replace hp:=bif_t hb hp
   refine bind_ex (ldSl_of (w0.ld (i:=0) rfl rfl)) ?_
   obtain ⟨n1,g1,hp⟩:=bind_some' hp
   obtain ⟨p1,q1,i1,h1,j1⟩:=ROs.ixr nW rfl g1
   refine bind_ex i1 ?_
   obtain ⟨_,_,rfl,rfl,_,_,rfl,rfl,_,_,rfl,rfl,_,_,rfl,rfl,rfl⟩:=h1
   refine bind_ex (ldI_of (j1 1 _ rfl)) ?_
   obtain ⟨n2,g2,hp⟩:=bind_some' hp
   obtain ⟨p2,q2,i2,h2,j2⟩:=W.ixo (E:=(eInt .i64)) w0 (i:=1) rfl rfl nX g2
   refine bind_ex i2 ?_
   have h2:_ = [_]:=h2
   subst h2
   refine bind_ex (ldI_of (j2 0 _ rfl)) ?_
   refine bind_ex (ldSl_of (w0.ld (i:=0) rfl rfl)) ?_
   obtain ⟨n3,g3,hp⟩:=bind_some' hp
   obtain ⟨p3,q3,i3,h3,j3⟩:=ROs.ixr nW rfl g3
   refine bind_ex i3 ?_
   obtain ⟨_,_,rfl,rfl,_,_,rfl,rfl,_,_,rfl,rfl,_,_,rfl,rfl,rfl⟩:=h3
   refine bind_ex (ldI_of (j3 3 _ rfl)) ?_
   obtain ⟨n4,g4,hp⟩:=bind_some' hp
   obtain ⟨p4,q4,i4,h4,j4⟩:=W.ixo (E:=(eInt .i64)) w0 (i:=1) rfl rfl nX g4
   refine bind_ex i4 ?_
   have h4:_ = [_]:=h4
   subst h4
   refine bind_ex (ldI_of (j4 0 _ rfl)) ?_
   exact ad.l1963_P (@ih) F rfl rfl ⟨w0,s0,nW,nX⟩ hp
  ·replace hp:=bif_f hb hp
   exact ad.j8_P rfl rfl ⟨w0,s0,nW,nX⟩ hp
def ad.pj13 (F:Nat)  (kO:List (Int×Int×Int×Int×Int)) (nY:Int) (kP:List Int):Option (List Int×Int):=ad.pl61 F F kO nY kP 0
theorem ad.j13_P {F:Nat} {H0:Hp} {Ri R0:List Rs}   {uq ur:ON} {qH iU qI:Nat} {ut uu:Cap} {kO:List (Int×Int×Int×Int×Int)} {nY:Int} {kP:List Int} {uv:List AV} {H:Hp} (yQ:qH = kO.length) (yR:qI = kP.length) (h0:Out H0 Ri H (Rs.blk iU [.sl ⟨uq,qH,ut⟩,.int .i64 nY] :: Rs.own ⟨ur,qI,uu⟩ (eInt .i64).z uv :: R0) fun R=>ROs (ePair (eInt .i64) (ePair (eInt .i64) (ePair (eInt .i64) (ePair (eInt .i64) (eInt .i64))))) H R ⟨uq,qH,ut⟩ kO∧CR (eInt .i64) H R uv kP) {r:List Int×Int} (hp:ad.pj13 F  kO nY kP = some r):∃ v H',ad.j13 F   iU 0 ⟨ur,qI,uu⟩ H = some (v,H')∧ad.Q H0 Ri R0  r v H':=by
 obtain ⟨w0,s0,yS,yT⟩:=h0
 subst yQ
 subst yR
 unfold ad.pj13 at hp
 unfold ad.j13
 exact ad.l61_P F rfl rfl ⟨w0,s0,yS,yT⟩ hp
def ad.pl29 (F:Nat) :Nat→List (Int×Int×Int×Int×Int)→Int→List Int→Int→Option (List Int×Int)
 | 0,_,_,_,_=>none
 | k + 1,eb,gq,hR,dk=>(bif (decide (dk < (IntKind.i64.wrap (2 * (eb.length:Int))))) then ((apn hR ([dk]:List Int)).bind fun l2=>ad.pl29 F k eb gq l2 (IntKind.i64.wrap (dk + 1))) else (ad.pj13 F eb gq hR))
termination_by structural n=>n
theorem ad.l29_P {F:Nat} {H0:Hp} {Ri R0:List Rs}  :∀ k,ad.S29 H0 Ri R0  (ad.l29 F   k) (ad.pl29 F  k):=by
 intro k
 induction k with
 | zero=>
  intro gM nq gp bR kv gN nr eb gq dk hR ns H kq uw h0 r hp
  exact nomatch (show (none:Option (List Int×Int)) = some r from hp)
 | succ k ih=>
  intro gM nq gp bR kv gN nr eb gq dk hR ns H kq uw h0 r hp
  obtain ⟨w0,s0,kr,ux⟩:=h0
  subst kq
  subst uw
  unfold ad.pl29 at hp
  unfold ad.l29
  refine bind_ex (ldSl_of (w0.ld (i:=0) rfl rfl)) ?_
  refine bif_ex (fun hb=>?_) (fun hb=>?_)
  ·replace hp:=bif_t hb hp
   refine newS_k (eInt .i64) w0 (n:=1) (l:=([dk]:List Int)) rfl (CR.cons1 rfl CR.empty) rfl fun H1 w1 s1 c1=>?_
   refine bind_ex (w1.rowo (i:=0) rfl) ?_
   obtain ⟨l2,e2,hp⟩:=bind_some' hp
   refine app_k (eInt .i64) w1 (i:=2) rfl rfl (ux.step s1) c1 (show 1 = List.length ([dk]:List Int) from rfl) rfl e2 fun a3 d3 H3 w3 s3 c3 x3=>?_
   dsimp only [List.set] at w3 s3 c3
   obtain ⟨w4,s4⟩:=w3.pick' [1,2] 3 rfl rfl rfl
   dsimp only [pk,pks,nth,List.drop] at w4 s4
   exact ih rfl rfl ⟨w4,(s0.trans (s1.trans (s3.trans s4))),(kr.step (s1.trans (s3.trans s4))),(c3.step s4)⟩ hp
  ·replace hp:=bif_f hb hp
   exact ad.j13_P rfl rfl ⟨w0,s0,kr,ux⟩ hp
def ad.p (F:Nat) (ac:List (Int×Int×Int×Int×Int)) (ab:Int):Option (List Int×Int):=ad.pl29 F F ac ab ([]:List Int) 0
theorem ad.P {F:Nat} {ap:ON} {ag:Nat} {aq:Cap} {ac:List (Int×Int×Int×Int×Int)} {ab:Int} {H:Hp} {R0:List Rs} (aV:ag = ac.length) (h0:Inn H R0 fun R=>ROs (ePair (eInt .i64) (ePair (eInt .i64) (ePair (eInt .i64) (ePair (eInt .i64) (eInt .i64))))) H R ⟨ap,ag,aq⟩ ac) {r:List Int×Int} (hp:ad.p F ac ab = some r):∃ v H',ad.tw F ⟨ap,ag,aq⟩ ab H = some (v,H')∧ad.Q H R0 R0  r v H':=by
 obtain ⟨w0,aQ⟩:=h0
 subst aV
 unfold ad.p at hp
 unfold ad.tw ad.twX
 have s0:=w0.rf
 refine new_k w0 fun H1 w1 s1=>?_
 refine newS_k (eInt .i64) w1 (n:=0) (l:=([]:List Int)) rfl CR.empty rfl fun H2 w2 s2 c2=>?_
 obtain ⟨w3,s3⟩:=w2.pick' [1,0] 2 rfl rfl rfl
 dsimp only [pk,pks,nth,List.drop] at w3 s3
 exact ad.l29_P F rfl (show 0 = List.length ([]:List Int) from rfl) ⟨w3,(s0.trans (s1.trans (s2.trans s3))),(aQ.step (s1.trans (s2.trans s3))),(c2.step s3)⟩ hp
def bo.Q (H0:Hp) (Ri R0:List Rs)  (r:List Int×Int) (v:AV) (H':Hp):Prop:=∃ o0a:ON,∃ o0n:Nat,∃ o0c:Cap,∃ o0k:List AV,v = (.tup [(.sl ⟨o0a,o0n,o0c⟩),(.int .i64 r.2)])∧o0n = (r.1).length∧Out H0 Ri H' (Rs.own ⟨o0a,o0n,o0c⟩ (eInt .i64).z o0k :: R0) fun R=>CR (eInt .i64) H' R o0k (r.1)
def bo.p (F:Nat) (ac:List (Int×Int×Int×Int×Int)) (ab:Int):Option (List Int×Int):=(bk.p F ac ab).bind fun r2=>(bif (!r2) then (some (([]:List Int),(-1))) else ((ad.p F ac ab).bind fun r6=>some (r6.1,r6.2)))
theorem bo.P {F:Nat} {ap:ON} {ag:Nat} {aq:Cap} {ac:List (Int×Int×Int×Int×Int)} {ab:Int} {H:Hp} {R0:List Rs} (aV:ag = ac.length) (h0:Inn H R0 fun R=>ROs (ePair (eInt .i64) (ePair (eInt .i64) (ePair (eInt .i64) (ePair (eInt .i64) (eInt .i64))))) H R ⟨ap,ag,aq⟩ ac) {r:List Int×Int} (hp:bo.p F ac ab = some r):∃ v H',bo.tw F ⟨ap,ag,aq⟩ ab H = some (v,H')∧bo.Q H R0 R0  r v H':=by
 obtain ⟨w0,aQ⟩:=h0
 subst aV
 unfold bo.p at hp
 unfold bo.tw bo.twX
 have s0:=w0.rf
 refine new_k w0 fun H1 w1 s1=>?_
 refine bind_ex (ldSl_of (w1.ld (i:=0) rfl rfl)) ?_
 refine bind_ex (ldI_of (w1.ld (i:=0) rfl rfl)) ?_
 obtain ⟨r2,e2,hp⟩:=bind_some' hp
 refine call_ex (bk.P rfl ⟨w1,(aQ.step s1)⟩ e2) ?_
 rintro _ H3 ⟨rfl,w3,s3,_⟩
 refine bind_ex rfl ?_
 refine bif_ex (fun hb=>?_) (fun hb=>?_)
 ·replace hp:=bif_t hb hp
  refine newS_k (eInt .i64) w3 (n:=0) (l:=([]:List Int)) rfl CR.empty rfl fun H4 w4 s4 c4=>?_
  obtain ⟨w5,s5⟩:=w4.pick' [0] 2 rfl rfl rfl
  dsimp only [pk,pks,nth,List.drop] at w5 s5
  obtain rfl:=Option.some.inj hp
  exact ⟨_,_,rfl,_,_,_,_,rfl,(show 0 = List.length ([]:List Int) from rfl),w5,(s0.trans (s1.trans (s3.trans (s4.trans s5)))),(c4.step s5)⟩
 ·replace hp:=bif_f hb hp
  refine bind_ex (ldSl_of (w3.ld (i:=0) rfl rfl)) ?_
  refine bind_ex (ldI_of (w3.ld (i:=0) rfl rfl)) ?_
  obtain ⟨r6,e6,hp⟩:=bind_some' hp
  refine call_ex (ad.P rfl ⟨w3,(aQ.step (s1.trans s3))⟩ e6) ?_
  rintro _ H7 ⟨o0a_7,o0n_7,o0c_7,o0k_7,rfl,rfl,w7,s7,f7_0⟩
  refine bind_ex rfl ?_
  refine bind_ex rfl ?_
  refine bind_ex rfl ?_
  refine bind_ex rfl ?_
  refine bind_ex rfl ?_
  obtain ⟨w8,s8⟩:=w7.pick' [0] 2 rfl rfl rfl
  dsimp only [pk,pks,nth,List.drop] at w8 s8
  obtain rfl:=Option.some.inj hp
  exact ⟨_,_,rfl,_,_,_,_,rfl,rfl,w8,(s0.trans (s1.trans (s3.trans (s7.trans s8)))),(f7_0.step s8)⟩
def aP.Q (H0:Hp) (Ri R0:List Rs)  (r:Int) (v:AV) (H':Hp):Prop:=v = (.int .i64 r)∧Out H0 Ri H' (R0) fun R=>True
def aP.p (F:Nat) (ac:List (Int×Int×Int×Int×Int)):Option (Int):=some (ac.length:Int)
theorem aP.P {F:Nat} {ap:ON} {ag:Nat} {aq:Cap} {ac:List (Int×Int×Int×Int×Int)} {H:Hp} {R0:List Rs} (aV:ag = ac.length) (h0:Inn H R0 fun R=>ROs (ePair (eInt .i64) (ePair (eInt .i64) (ePair (eInt .i64) (ePair (eInt .i64) (eInt .i64))))) H R ⟨ap,ag,aq⟩ ac) {r:Int} (hp:aP.p F ac = some r):∃ v H',aP.tw F ⟨ap,ag,aq⟩ H = some (v,H')∧aP.Q H R0 R0  r v H':=by
 obtain ⟨w0,aQ⟩:=h0
 subst aV
 unfold aP.p at hp
 unfold aP.tw aP.twX
 have s0:=w0.rf
 obtain rfl:=Option.some.inj hp
 exact ⟨_,_,rfl,rfl,w0,s0,trivial⟩
def ba.Q (H0:Hp) (Ri R0:List Rs)  (r:Bool) (v:AV) (H':Hp):Prop:=v = (.bool r)∧Out H0 Ri H' (R0) fun R=>True
def ba.p (F:Nat) (aa:Int) (ae:Int) (bC:Int):Option (Bool):=(bif (decide (ae ≤ aa)) then (some (decide (aa ≤ bC))) else (some false))
theorem ba.P {F:Nat} {aa ae bC:Int} {H:Hp} {R0:List Rs}  (h0:Inn H R0 fun R=>True) {r:Bool} (hp:ba.p F aa ae bC = some r):∃ v H',ba.tw F aa ae bC H = some (v,H')∧ba.Q H R0 R0  r v H':=by
 obtain ⟨w0,_⟩:=h0
 unfold ba.p at hp
 unfold ba.tw ba.twX
 have s0:=w0.rf
 refine bif_ex (fun hb=>?_) (fun hb=>?_)
 ·replace hp:=bif_t hb hp
  obtain rfl:=Option.some.inj hp
  exact ⟨_,_,rfl,rfl,w0,s0,trivial⟩
 ·replace hp:=bif_f hb hp
  obtain rfl:=Option.some.inj hp
  exact ⟨_,_,rfl,rfl,w0,s0,trivial⟩
def bu.Q (H0:Hp) (Ri R0:List Rs)  (r:Bool) (v:AV) (H':Hp):Prop:=v = (.bool r)∧Out H0 Ri H' (R0) fun R=>True
def bu.p (F:Nat) (au:Int):Option (Bool):=(bif (au != 1) then (some (au != (-1))) else (some false))
theorem bu.P {F:Nat} {aa ab aw ax au:Int} {H:Hp} {R0:List Rs}  (h0:Inn H R0 fun R=>True) {r:Bool} (hp:bu.p F au = some r):∃ v H',bu.tw F aa ab aw ax au H = some (v,H')∧bu.Q H R0 R0  r v H':=by
 obtain ⟨w0,_⟩:=h0
 unfold bu.p at hp
 unfold bu.tw bu.twX
 have s0:=w0.rf
 refine new_k w0 fun H1 w1 s1=>?_
 refine bind_ex (ldI_of (w1.ld (i:=0) rfl rfl)) ?_
 refine bif_ex (fun hb=>?_) (fun hb=>?_)
 ·replace hp:=bif_t hb hp
  refine bind_ex (ldI_of (w1.ld (i:=0) rfl rfl)) ?_
  obtain ⟨w2,s2⟩:=w1.pick' [] 1 rfl rfl rfl
  dsimp only [pk,pks,nth,List.drop] at w2 s2
  obtain rfl:=Option.some.inj hp
  exact ⟨_,_,rfl,rfl,w2,(s0.trans (s1.trans s2)),trivial⟩
 ·replace hp:=bif_f hb hp
  obtain ⟨w3,s3⟩:=w1.pick' [] 1 rfl rfl rfl
  dsimp only [pk,pks,nth,List.drop] at w3 s3
  obtain rfl:=Option.some.inj hp
  exact ⟨_,_,rfl,rfl,w3,(s0.trans (s1.trans s3)),trivial⟩
def aI.Q (H0:Hp) (Ri R0:List Rs)  (r:Int) (v:AV) (H':Hp):Prop:=v = (.int .i64 r)∧Out H0 Ri H' (R0) fun R=>True
def aI.S13 (H0:Hp) (Ri R0:List Rs)  (C:Sl→Int→Int→Hp→OA) (pC:List (Int×Int×Int×Int×Int)→Int→Int→Option (Int)):Prop:=∀ {nZ:ON} {kQ:Nat} {n_:Cap} {gQ:List (Int×Int×Int×Int×Int)} {dM dm:Int},∀ {H:Hp},kQ = gQ.length→(Out H0 Ri H R0 fun R=>ROs (ePair (eInt .i64) (ePair (eInt .i64) (ePair (eInt .i64) (ePair (eInt .i64) (eInt .i64))))) H R ⟨nZ,kQ,n_⟩ gQ)→∀ {r:Int},pC gQ dM dm = some r→∃ v H',C ⟨nZ,kQ,n_⟩ dM dm H = some (v,H')∧aI.Q H0 Ri R0  r v H'
def aI.pl13 (F:Nat) :Nat→List (Int×Int×Int×Int×Int)→Int→Int→Option (Int)
 | 0,_,_,_=>none
 | k + 1,gQ,dM,dm=>(bif (decide (dm < dM)) then ((ix gQ dm).bind fun n1=>(bu.p F ((gt gQ n1).2.2.2.2)).bind fun r2=>(bif r2 then (some dm) else (aI.pl13 F k gQ dM (IntKind.i64.wrap (dm + 1))))) else (some (-1)))
termination_by structural n=>n
theorem aI.l13_P {F:Nat} {H0:Hp} {Ri R0:List Rs}  :∀ k,aI.S13 H0 Ri R0  (aI.l13 F (bu.tw F)  k) (aI.pl13 F  k):=by
 intro k
 induction k with
 | zero=>
  intro nZ kQ n_ gQ dM dm H uy h0 r hp
  exact nomatch (show (none:Option (Int)) = some r from hp)
 | succ k ih=>
  intro nZ kQ n_ gQ dM dm H uy h0 r hp
  obtain ⟨w0,s0,uz⟩:=h0
  subst uy
  unfold aI.pl13 at hp
  unfold aI.l13
  refine bif_ex (fun hb=>?_) (fun hb=>?_)
  ·replace hp:=bif_t hb hp
   obtain ⟨n1,g1,hp⟩:=bind_some' hp
   obtain ⟨p1,q1,i1,h1,j1⟩:=ROs.ixr uz rfl g1
   refine bind_ex i1 ?_
   obtain ⟨_,_,rfl,rfl,_,_,rfl,rfl,_,_,rfl,rfl,_,_,rfl,rfl,rfl⟩:=h1
   refine bind_ex (ldI_of (j1 0 _ rfl)) ?_
   refine bind_ex (ldI_of (j1 1 _ rfl)) ?_
   refine bind_ex (ldI_of (j1 2 _ rfl)) ?_
   refine bind_ex (ldI_of (j1 3 _ rfl)) ?_
   refine bind_ex (ldI_of (j1 4 _ rfl)) ?_
   obtain ⟨r2,e2,hp⟩:=bind_some' hp
   refine call_ex (bu.P ⟨w0,trivial⟩ e2) ?_
   rintro _ H3 ⟨rfl,w3,s3,_⟩
   refine bind_ex rfl ?_
   refine bif_ex (fun hb=>?_) (fun hb=>?_)
   ·replace hp:=bif_t hb hp
    obtain rfl:=Option.some.inj hp
    exact ⟨_,_,rfl,rfl,w3,(s0.trans s3),trivial⟩
   ·replace hp:=bif_f hb hp
    exact ih rfl ⟨w3,(s0.trans s3),(uz.step s3)⟩ hp
  ·replace hp:=bif_f hb hp
   obtain rfl:=Option.some.inj hp
   exact ⟨_,_,rfl,rfl,w0,s0,trivial⟩
def aI.p (F:Nat) (ac:List (Int×Int×Int×Int×Int)):Option (Int):=aI.pl13 F F ac (ac.length:Int) 0
theorem aI.P {F:Nat} {ap:ON} {ag:Nat} {aq:Cap} {ac:List (Int×Int×Int×Int×Int)} {H:Hp} {R0:List Rs} (aV:ag = ac.length) (h0:Inn H R0 fun R=>ROs (ePair (eInt .i64) (ePair (eInt .i64) (ePair (eInt .i64) (ePair (eInt .i64) (eInt .i64))))) H R ⟨ap,ag,aq⟩ ac) {r:Int} (hp:aI.p F ac = some r):∃ v H',aI.tw F ⟨ap,ag,aq⟩ H = some (v,H')∧aI.Q H R0 R0  r v H':=by
 obtain ⟨w0,aQ⟩:=h0
 subst aV
 unfold aI.p at hp
 unfold aI.tw aI.twX
 have s0:=w0.rf
 exact aI.l13_P F rfl ⟨w0,s0,aQ⟩ hp
def bp.Q (H0:Hp) (Ri R0:List Rs)  (r:Bool) (v:AV) (H':Hp):Prop:=v = (.bool r)∧Out H0 Ri H' (R0) fun R=>True
def bp.p (F:Nat) (ac:List (Int×Int×Int×Int×Int)):Option (Bool):=(aI.p F ac).bind fun r1=>some (decide (r1 ≥ 0))
theorem bp.P {F:Nat} {ap:ON} {ag:Nat} {aq:Cap} {ac:List (Int×Int×Int×Int×Int)} {H:Hp} {R0:List Rs} (aV:ag = ac.length) (h0:Inn H R0 fun R=>ROs (ePair (eInt .i64) (ePair (eInt .i64) (ePair (eInt .i64) (ePair (eInt .i64) (eInt .i64))))) H R ⟨ap,ag,aq⟩ ac) {r:Bool} (hp:bp.p F ac = some r):∃ v H',bp.tw F ⟨ap,ag,aq⟩ H = some (v,H')∧bp.Q H R0 R0  r v H':=by
 obtain ⟨w0,aQ⟩:=h0
 subst aV
 unfold bp.p at hp
 unfold bp.tw bp.twX
 have s0:=w0.rf
 obtain ⟨r1,e1,hp⟩:=bind_some' hp
 refine call_ex (aI.P rfl ⟨w0,aQ⟩ e1) ?_
 rintro _ H2 ⟨rfl,w2,s2,_⟩
 refine bind_ex rfl ?_
 obtain rfl:=Option.some.inj hp
 exact ⟨_,_,rfl,rfl,w2,(s0.trans s2),trivial⟩
def bits_Mul64.Q (H0:Hp) (Ri R0:List Rs)  (r:Int×Int) (v:AV) (H':Hp):Prop:=v = (.tup [(.int .u64 r.1),(.int .u64 r.2)])∧Out H0 Ri H' (R0) fun R=>True
def bits_Mul64.p (F:Nat) (aa:Int) (ae:Int):Option (Int×Int):=some ((IntKind.u64.wrap ((IntKind.u64.wrap ((IntKind.u64.wrap ((Int.fdiv aa (2 ^ (min (32:Int).toNat (IntKind.u64).bits))) * (Int.fdiv ae (2 ^ (min (32:Int).toNat (IntKind.u64).bits))))) + (Int.fdiv (IntKind.u64.wrap ((IntKind.u64.wrap ((Int.fdiv aa (2 ^ (min (32:Int).toNat (IntKind.u64).bits))) * (Go.bits .and .u64 ae 4294967295))) + (Int.fdiv (IntKind.u64.wrap ((Go.bits .and .u64 aa 4294967295) * (Go.bits .and .u64 ae 4294967295))) (2 ^ (min (32:Int).toNat (IntKind.u64).bits))))) (2 ^ (min (32:Int).toNat (IntKind.u64).bits))))) + (Int.fdiv (IntKind.u64.wrap ((Go.bits .and .u64 (IntKind.u64.wrap ((IntKind.u64.wrap ((Int.fdiv aa (2 ^ (min (32:Int).toNat (IntKind.u64).bits))) * (Go.bits .and .u64 ae 4294967295))) + (Int.fdiv (IntKind.u64.wrap ((Go.bits .and .u64 aa 4294967295) * (Go.bits .and .u64 ae 4294967295))) (2 ^ (min (32:Int).toNat (IntKind.u64).bits))))) 4294967295) + (IntKind.u64.wrap ((Go.bits .and .u64 aa 4294967295) * (Int.fdiv ae (2 ^ (min (32:Int).toNat (IntKind.u64).bits))))))) (2 ^ (min (32:Int).toNat (IntKind.u64).bits))))),(IntKind.u64.wrap (aa * ae)))
theorem bits_Mul64.P {F:Nat} {aa ae:Int} {H:Hp} {R0:List Rs}  (h0:Inn H R0 fun R=>True) {r:Int×Int} (hp:bits_Mul64.p F aa ae = some r):∃ v H',bits_Mul64.tw F aa ae H = some (v,H')∧bits_Mul64.Q H R0 R0  r v H':=by
 obtain ⟨w0,_⟩:=h0
 unfold bits_Mul64.p at hp
 unfold bits_Mul64.tw bits_Mul64.twX
 have s0:=w0.rf
 obtain rfl:=Option.some.inj hp
 exact ⟨_,_,rfl,rfl,w0,s0,trivial⟩
def bits_Mul.Q (H0:Hp) (Ri R0:List Rs)  (r:Int×Int) (v:AV) (H':Hp):Prop:=v = (.tup [(.int .u64 r.1),(.int .u64 r.2)])∧Out H0 Ri H' (R0) fun R=>True
def bits_Mul.p (F:Nat) (aa:Int) (ae:Int):Option (Int×Int):=(bits_Mul64.p F aa ae).bind fun r1=>some (r1.1,r1.2)
theorem bits_Mul.P {F:Nat} {aa ae:Int} {H:Hp} {R0:List Rs}  (h0:Inn H R0 fun R=>True) {r:Int×Int} (hp:bits_Mul.p F aa ae = some r):∃ v H',bits_Mul.tw F aa ae H = some (v,H')∧bits_Mul.Q H R0 R0  r v H':=by
 obtain ⟨w0,_⟩:=h0
 unfold bits_Mul.p at hp
 unfold bits_Mul.tw bits_Mul.twX
 have s0:=w0.rf
 obtain ⟨r1,e1,hp⟩:=bind_some' hp
 refine call_ex (bits_Mul64.P ⟨w0,trivial⟩ e1) ?_
 rintro _ H2 ⟨rfl,w2,s2,_⟩
 refine bind_ex rfl ?_
 refine bind_ex rfl ?_
 refine bind_ex rfl ?_
 refine bind_ex rfl ?_
 refine bind_ex rfl ?_
 obtain rfl:=Option.some.inj hp
 exact ⟨_,_,rfl,rfl,w2,(s0.trans s2),trivial⟩
def az.Q (H0:Hp) (Ri R0:List Rs)  (r:(List (Int×Int))) (v:AV) (H':Hp):Prop:=∃ o0a:ON,∃ o0n:Nat,∃ o0k:List AV,v = (.sl ⟨o0a,o0n,.ex o0n⟩)∧o0n = (r).length∧Out H0 Ri H' (Rs.own ⟨o0a,o0n,.ex o0n⟩ (ePair (eInt .i64) (eInt .i64)).z o0k :: R0) fun R=>CR (ePair (eInt .i64) (eInt .i64)) H' R o0k (r)
def az.pj1 (F:Nat)  (jq:List (Int×Int)) (im:Int):Option ((List (Int×Int))):=(mkn (IntKind.i64.wrap im) ((0:Int),(0:Int))).bind fun l1=>(some (cpl l1 jq)).bind fun l3=>(rept F l3 ((min jq.length l1.length:Nat):Int)).bind fun l5=>some l5
theorem az.j1_P {F:Nat} {H0:Hp} {Ri R0:List Rs}   {uA:ON} {qJ:Nat} {uB:Cap} {jq:List (Int×Int)} {im:Int} {H:Hp} (yU:qJ = jq.length) (h0:Out H0 Ri H R0 fun R=>ROs (ePair (eInt .i64) (eInt .i64)) H R ⟨uA,qJ,uB⟩ jq) {r:(List (Int×Int))} (hp:az.pj1 F  jq im = some r):∃ v H',az.j1 F (bits_Mul.tw F)  ⟨uA,qJ,uB⟩ im H = some (v,H')∧az.Q H0 Ri R0  r v H':=by
 obtain ⟨w0,s0,yV⟩:=h0
 subst yU
 unfold az.pj1 at hp
 unfold az.j1
 obtain ⟨l1,e1,hp⟩:=bind_some' hp
 refine mk_k (ePair (eInt .i64) (eInt .i64)) ((0:Int),(0:Int)) w0 ⟨[_],_,rfl,rfl,rfl⟩ rfl rfl e1 fun H2 k2 w2 s2 c2=>?_
 obtain ⟨x3,h3,c3⟩:=(yV.step s2).row (z:=(ePair (eInt .i64) (eInt .i64)).z) rfl
 obtain ⟨l3,e3,hp⟩:=bind_some' hp
 refine cpy_k (ePair (eInt .i64) (eInt .i64)) w2 (i:=0) rfl rfl c2 h3 c3 rfl rfl e3 fun k4 H4 w4 s4 c4=>?_
 dsimp only [List.set] at w4 s4 c4
 obtain ⟨l5,e5,hp⟩:=bind_some' hp
 refine rept_K (ePair (eInt .i64) (eInt .i64)) rfl (L:=az.l254 F (bits_Mul.tw F)) (fun _ _ _ _=>rfl) w4 (i:=0) rfl c4 e5 fun H6 k6 w6 s6 c6=>?_
 dsimp only [List.set] at w6 s6 c6
 obtain rfl:=Option.some.inj hp
 exact ⟨_,_,rfl,_,_,_,rfl,((cpl_len e3).symm.trans (rept_len e5).symm),w6,(s0.trans (s2.trans (s4.trans s6))),c6⟩
def az.pj2 (F:Nat)  (jr:List (Int×Int)) (jf:Int):Option ((List (Int×Int))):=(bits_Mul.p F (IntKind.u64.wrap (jr.length:Int)) (IntKind.u64.wrap jf)).bind fun r1=>(bif (decide (r1.1 > 0)) then (none) else ((bif (decide (r1.2 > 9223372036854775807)) then (none) else (az.pj1 F jr r1.2))))
theorem az.j2_P {F:Nat} {H0:Hp} {Ri R0:List Rs}   {uC:ON} {qK:Nat} {uD:Cap} {jr:List (Int×Int)} {jf:Int} {H:Hp} (yW:qK = jr.length) (h0:Out H0 Ri H R0 fun R=>ROs (ePair (eInt .i64) (eInt .i64)) H R ⟨uC,qK,uD⟩ jr) {r:(List (Int×Int))} (hp:az.pj2 F  jr jf = some r):∃ v H',az.j2 F (bits_Mul.tw F)  ⟨uC,qK,uD⟩ jf H = some (v,H')∧az.Q H0 Ri R0  r v H':=by
 obtain ⟨w0,s0,yX⟩:=h0
 subst yW
 unfold az.pj2 at hp
 unfold az.j2
 obtain ⟨r1,e1,hp⟩:=bind_some' hp
 refine call_ex (bits_Mul.P ⟨w0,trivial⟩ e1) ?_
 rintro _ H2 ⟨rfl,w2,s2,_⟩
 refine bind_ex rfl ?_
 refine bind_ex rfl ?_
 refine bind_ex rfl ?_
 refine bind_ex rfl ?_
 refine bind_ex rfl ?_
 refine bif_ex (fun hb=>?_) (fun hb=>?_)
 ·replace hp:=bif_t hb hp
  cases hp
 ·replace hp:=bif_f hb hp
  refine bif_ex (fun hb=>?_) (fun hb=>?_)
  ·replace hp:=bif_t hb hp
   cases hp
  ·replace hp:=bif_f hb hp
   exact az.j1_P rfl ⟨w2,(s0.trans s2),(yX.step s2)⟩ hp
def az.p (F:Nat) (ac:List (Int×Int)) (ae:Int):Option ((List (Int×Int))):=(bif (decide (ae < 0)) then (none) else (az.pj2 F ac ae))
theorem az.P {F:Nat} {ap:ON} {ag:Nat} {aq:Cap} {ac:List (Int×Int)} {ae:Int} {H:Hp} {R0:List Rs} (aV:ag = ac.length) (h0:Inn H R0 fun R=>ROs (ePair (eInt .i64) (eInt .i64)) H R ⟨ap,ag,aq⟩ ac) {r:(List (Int×Int))} (hp:az.p F ac ae = some r):∃ v H',az.tw F ⟨ap,ag,aq⟩ ae H = some (v,H')∧az.Q H R0 R0  r v H':=by
 obtain ⟨w0,aQ⟩:=h0
 subst aV
 unfold az.p at hp
 unfold az.tw az.twX
 have s0:=w0.rf
 refine bif_ex (fun hb=>?_) (fun hb=>?_)
 ·replace hp:=bif_t hb hp
  cases hp
 ·replace hp:=bif_f hb hp
  exact az.j2_P rfl ⟨w0,s0,aQ⟩ hp
def aZ.Q (H0:Hp) (Ri R0:List Rs)  (r:Int×Int×Int×Int) (v:AV) (H':Hp):Prop:=v = (.agg [(.int .i64 r.1),(.int .i64 r.2.1),(.int .i64 r.2.2.1),(.int .i64 r.2.2.2)])∧Out H0 Ri H' (R0) fun R=>True
def aZ.p (F:Nat) (aa:Int) (ab:Int) (aw:Int) (ax:Int):Option (Int×Int×Int×Int):=some (aa,ab,aw,ax)
theorem aZ.P {F:Nat} {aa ab aw ax au:Int} {H:Hp} {R0:List Rs}  (h0:Inn H R0 fun R=>True) {r:Int×Int×Int×Int} (hp:aZ.p F aa ab aw ax = some r):∃ v H',aZ.tw F aa ab aw ax au H = some (v,H')∧aZ.Q H R0 R0  r v H':=by
 obtain ⟨w0,_⟩:=h0
 unfold aZ.p at hp
 unfold aZ.tw aZ.twX
 have s0:=w0.rf
 refine new_k w0 fun H1 w1 s1=>?_
 refine new_k w1 fun H2 w2 s2=>?_
 refine bind_ex (ldI_of (w2.ld (i:=1) rfl rfl)) ?_
 refine bind_ex (ldI_of (w2.ld (i:=1) rfl rfl)) ?_
 refine bind_ex (ldI_of (w2.ld (i:=1) rfl rfl)) ?_
 refine bind_ex (ldI_of (w2.ld (i:=1) rfl rfl)) ?_
 refine st_k w2 (i:=0) rfl rfl rfl fun H3 w3 s3=>?_
 dsimp only [List.set] at w3 s3
 refine st_k w3 (i:=0) rfl rfl rfl fun H4 w4 s4=>?_
 dsimp only [List.set] at w4 s4
 refine st_k w4 (i:=0) rfl rfl rfl fun H5 w5 s5=>?_
 dsimp only [List.set] at w5 s5
 refine st_k w5 (i:=0) rfl rfl rfl fun H6 w6 s6=>?_
 dsimp only [List.set] at w6 s6
 refine bind_ex (ldI_of (w6.ld (i:=0) rfl rfl)) ?_
 refine bind_ex (ldI_of (w6.ld (i:=0) rfl rfl)) ?_
 refine bind_ex (ldI_of (w6.ld (i:=0) rfl rfl)) ?_
 refine bind_ex (ldI_of (w6.ld (i:=0) rfl rfl)) ?_
 obtain ⟨w7,s7⟩:=w6.pick' [] 2 rfl rfl rfl
 dsimp only [pk,pks,nth,List.drop] at w7 s7
 obtain rfl:=Option.some.inj hp
 exact ⟨_,_,rfl,rfl,w7,(s0.trans (s1.trans (s2.trans (s3.trans (s4.trans (s5.trans (s6.trans s7))))))),trivial⟩
def a_.Q (H0:Hp) (Ri R0:List Rs)  (r:Bool) (v:AV) (H':Hp):Prop:=v = (.bool r)∧Out H0 Ri H' (R0) fun R=>True
def a_.p (F:Nat) (au:Int) (aU:Int):Option (Bool):=(bif (aU == 0) then (some true) else (some (aU == (IntKind.i64.wrap (2 + au)))))
theorem a_.P {F:Nat} {aa ab aw ax au aU:Int} {H:Hp} {R0:List Rs}  (h0:Inn H R0 fun R=>True) {r:Bool} (hp:a_.p F au aU = some r):∃ v H',a_.tw F aa ab aw ax au aU H = some (v,H')∧a_.Q H R0 R0  r v H':=by
 obtain ⟨w0,_⟩:=h0
 unfold a_.p at hp
 unfold a_.tw a_.twX
 have s0:=w0.rf
 refine new_k w0 fun H1 w1 s1=>?_
 refine bif_ex (fun hb=>?_) (fun hb=>?_)
 ·replace hp:=bif_t hb hp
  obtain ⟨w2,s2⟩:=w1.pick' [] 1 rfl rfl rfl
  dsimp only [pk,pks,nth,List.drop] at w2 s2
  obtain rfl:=Option.some.inj hp
  exact ⟨_,_,rfl,rfl,w2,(s0.trans (s1.trans s2)),trivial⟩
 ·replace hp:=bif_f hb hp
  refine bind_ex (ldI_of (w1.ld (i:=0) rfl rfl)) ?_
  obtain ⟨w3,s3⟩:=w1.pick' [] 1 rfl rfl rfl
  dsimp only [pk,pks,nth,List.drop] at w3 s3
  obtain rfl:=Option.some.inj hp
  exact ⟨_,_,rfl,rfl,w3,(s0.trans (s1.trans s3)),trivial⟩
def bw.Q (H0:Hp) (Ri R0:List Rs)  (r:Int) (v:AV) (H':Hp):Prop:=v = (.int .i64 r)∧Out H0 Ri H' (R0) fun R=>True
def bw.p (F:Nat) (ac:List (Int×Int)):Option (Int):=some (ac.length:Int)
theorem bw.P {F:Nat} {ap:ON} {ag:Nat} {aq:Cap} {ac:List (Int×Int)} {H:Hp} {R0:List Rs} (aV:ag = ac.length) (h0:Inn H R0 fun R=>ROs (ePair (eInt .i64) (eInt .i64)) H R ⟨ap,ag,aq⟩ ac) {r:Int} (hp:bw.p F ac = some r):∃ v H',bw.tw F ⟨ap,ag,aq⟩ H = some (v,H')∧bw.Q H R0 R0  r v H':=by
 obtain ⟨w0,aQ⟩:=h0
 subst aV
 unfold bw.p at hp
 unfold bw.tw bw.twX
 have s0:=w0.rf
 obtain rfl:=Option.some.inj hp
 exact ⟨_,_,rfl,rfl,w0,s0,trivial⟩
def bi.Q (H0:Hp) (Ri R0:List Rs)  (r:Bool) (v:AV) (H':Hp):Prop:=v = (.bool r)∧Out H0 Ri H' (R0) fun R=>True
def bi.p (F:Nat) (ac:List (Int×Int)) (ae:Int):Option (Bool):=(bw.p F ac).bind fun r1=>(ba.p F ae 0 (IntKind.i64.wrap (r1 - 1))).bind fun r3=>some r3
theorem bi.P {F:Nat} {ap:ON} {ag:Nat} {aq:Cap} {ac:List (Int×Int)} {ae:Int} {H:Hp} {R0:List Rs} (aV:ag = ac.length) (h0:Inn H R0 fun R=>ROs (ePair (eInt .i64) (eInt .i64)) H R ⟨ap,ag,aq⟩ ac) {r:Bool} (hp:bi.p F ac ae = some r):∃ v H',bi.tw F ⟨ap,ag,aq⟩ ae H = some (v,H')∧bi.Q H R0 R0  r v H':=by
 obtain ⟨w0,aQ⟩:=h0
 subst aV
 unfold bi.p at hp
 unfold bi.tw bi.twX
 have s0:=w0.rf
 obtain ⟨r1,e1,hp⟩:=bind_some' hp
 refine call_ex (bw.P rfl ⟨w0,aQ⟩ e1) ?_
 rintro _ H2 ⟨rfl,w2,s2,_⟩
 refine bind_ex rfl ?_
 obtain ⟨r3,e3,hp⟩:=bind_some' hp
 refine call_ex (ba.P ⟨w2,trivial⟩ e3) ?_
 rintro _ H4 ⟨rfl,w4,s4,_⟩
 refine bind_ex rfl ?_
 obtain rfl:=Option.some.inj hp
 exact ⟨_,_,rfl,rfl,w4,(s0.trans (s2.trans s4)),trivial⟩
def ao.Q (H0:Hp) (Ri R0:List Rs)  (r:(List (Int×Int))×(List (Int×Int))×Bool) (v:AV) (H':Hp):Prop:=∃ o0a:ON,∃ o0n:Nat,∃ o0c:Cap,∃ o0k:List AV,∃ o1a:ON,∃ o1n:Nat,∃ o1c:Cap,∃ o1k:List AV,v = (.tup [(.agg [(.sl ⟨o0a,o0n,o0c⟩),(.sl ⟨o1a,o1n,o1c⟩)]),(.bool r.2.2)])∧o0n = (r.1).length∧o1n = (r.2.1).length∧Out H0 Ri H' (Rs.own ⟨o0a,o0n,o0c⟩ (ePair (eInt .i64) (eInt .i64)).z o0k :: Rs.own ⟨o1a,o1n,o1c⟩ (ePair (eInt .i64) (eInt .i64)).z o1k :: R0) fun R=>CR (ePair (eInt .i64) (eInt .i64)) H' R o0k (r.1)∧CR (ePair (eInt .i64) (eInt .i64)) H' R o1k (r.2.1)
def ao.S61 (H0:Hp) (Ri R0:List Rs)  (C:Nat→Nat→Nat→Nat→Sl→Int→Int→Hp→OA) (pC:List (Int×Int)→List (Int×Int)→List (Int×Int×Int×Int×Int)→Int→Int→Option ((List (Int×Int))×(List (Int×Int))×Bool)):Prop:=∀ {oa ob oc od oe:ON} {kR kS dq kT kU dN kV:Nat} {og oh oi oj ol:Cap} {om oo hX hY:List (Int×Int)} {oq ot ou ov:List AV} {fw:List (Int×Int×Int×Int×Int)} {dO dr:Int},∀ {H:Hp},kR = om.length→kS = oo.length→kT = hX.length→kU = hY.length→kV = fw.length→(Out H0 Ri H (Rs.own ⟨oa,kR,og⟩ (ePair (eInt .i64) (eInt .i64)).z oq :: Rs.own ⟨ob,kS,oh⟩ (ePair (eInt .i64) (eInt .i64)).z ot :: Rs.blk dq [.sl ⟨oa,kR,og⟩,.sl ⟨ob,kS,oh⟩] :: Rs.own ⟨oc,kT,oi⟩ (ePair (eInt .i64) (eInt .i64)).z ou :: Rs.own ⟨od,kU,oj⟩ (ePair (eInt .i64) (eInt .i64)).z ov :: Rs.blk dN [.sl ⟨oc,kT,oi⟩,.sl ⟨od,kU,oj⟩] :: R0) fun R=>CR (ePair (eInt .i64) (eInt .i64)) H R oq om∧CR (ePair (eInt .i64) (eInt .i64)) H R ot oo∧CR (ePair (eInt .i64) (eInt .i64)) H R ou hX∧CR (ePair (eInt .i64) (eInt .i64)) H R ov hY∧ROs (ePair (eInt .i64) (ePair (eInt .i64) (ePair (eInt .i64) (ePair (eInt .i64) (eInt .i64))))) H R ⟨oe,kV,ol⟩ fw)→∀ {r:(List (Int×Int))×(List (Int×Int))×Bool},pC hX hY fw dO dr = some r→∃ v H',C dq 0 dN 0 ⟨oe,kV,ol⟩ dO dr H = some (v,H')∧ao.Q H0 Ri R0  r v H'
def ao.S3931 (H0:Hp) (Ri R0:List Rs)  (C:Nat→Nat→Nat→Nat→Sl→Int→Int→Nat→Nat→Int→Int→Int→Int→Int→Int→Hp→OA) (pC:List (Int×Int)→List (Int×Int)→List (Int×Int×Int×Int×Int)→Int→Int→Int→Int→Int→Int→Int→Int→Int→Option ((List (Int×Int))×(List (Int×Int))×Bool)):Prop:=∀ {ox oy oz oA oB:ON} {kW kX bP kY kZ ca k_ cG:Nat} {oC oD oE oF oG:Cap} {oH oI ek el:List (Int×Int)} {oJ oK oL oM:List AV} {gR:List (Int×Int×Int×Int×Int)} {cV dp qL qM qN qO hZ cj ck cl cm cn bQ:Int},∀ {H:Hp},kW = oH.length→kX = oI.length→kY = ek.length→kZ = el.length→k_ = gR.length→(Out H0 Ri H (Rs.own ⟨ox,kW,oC⟩ (ePair (eInt .i64) (eInt .i64)).z oJ :: Rs.own ⟨oy,kX,oD⟩ (ePair (eInt .i64) (eInt .i64)).z oK :: Rs.blk bP [.sl ⟨ox,kW,oC⟩,.sl ⟨oy,kX,oD⟩] :: Rs.own ⟨oz,kY,oE⟩ (ePair (eInt .i64) (eInt .i64)).z oL :: Rs.own ⟨oA,kZ,oF⟩ (ePair (eInt .i64) (eInt .i64)).z oM :: Rs.blk ca [.sl ⟨oz,kY,oE⟩,.sl ⟨oA,kZ,oF⟩] :: Rs.blk cG [.int .i64 qL,.int .i64 qM,.int .i64 qN,.int .i64 qO,.int .i64 hZ] :: R0) fun R=>CR (ePair (eInt .i64) (eInt .i64)) H R oJ oH∧CR (ePair (eInt .i64) (eInt .i64)) H R oK oI∧CR (ePair (eInt .i64) (eInt .i64)) H R oL ek∧CR (ePair (eInt .i64) (eInt .i64)) H R oM el∧ROs (ePair (eInt .i64) (ePair (eInt .i64) (ePair (eInt .i64) (ePair (eInt .i64) (eInt .i64))))) H R ⟨oB,k_,oG⟩ gR)→∀ {r:(List (Int×Int))×(List (Int×Int))×Bool},pC ek el gR cV dp hZ cj ck cl cm cn bQ = some r→∃ v H',C bP 0 ca 0 ⟨oB,k_,oG⟩ cV dp cG 0 cj ck cl cm cn bQ H = some (v,H')∧ao.Q H0 Ri R0  r v H'
def ao.pl3931 (F:Nat) (aF:List (Int×Int)→List (Int×Int)→List (Int×Int×Int×Int×Int)→Int→Int→Option ((List (Int×Int))×(List (Int×Int))×Bool)):Nat→List (Int×Int)→List (Int×Int)→List (Int×Int×Int×Int×Int)→Int→Int→Int→Int→Int→Int→Int→Int→Int→Option ((List (Int×Int))×(List (Int×Int))×Bool)
 | 0,_,_,_,_,_,_,_,_,_,_,_,_=>none
 | k + 1,ek,el,gR,cV,dp,hZ,cj,ck,cl,cm,cn,bQ=>(bif (decide (bQ < 4)) then ((if 0 ≤ bQ∧bQ < (4:Int) then ((a_.p F hZ bQ).bind fun r2=>(bif r2 then ((bi.p F el (gt ([ck,cl,cm,cn]:List Int) (bQ:Int).toNat)).bind fun r6=>(bif (!r6) then (some (ek,el,false)) else ((ix el (gt ([ck,cl,cm,cn]:List Int) (bQ:Int).toNat)).bind fun n12=>(bif (decide (((gt el n12).1) ≥ 0)) then (some (ek,el,false)) else ((ix el (gt ([ck,cl,cm,cn]:List Int) (bQ:Int).toNat)).bind fun n16=>(some (el.set n16 (cj,(gt el n16).2))).bind fun l17=>(some (l17.set n16 ((gt l17 n16).1,bQ))).bind fun l19=>ao.pl3931 F aF k ek l19 gR cV dp hZ cj ck cl cm cn (IntKind.i64.wrap (bQ + 1))))))) else ((bi.p F ek (gt ([ck,cl,cm,cn]:List Int) (bQ:Int).toNat)).bind fun r24=>(bif (!r24) then (some (ek,el,false)) else ((ix ek (gt ([ck,cl,cm,cn]:List Int) (bQ:Int).toNat)).bind fun n30=>(bif (decide (((gt ek n30).1) ≥ 0)) then (some (ek,el,false)) else ((ix ek (gt ([ck,cl,cm,cn]:List Int) (bQ:Int).toNat)).bind fun n34=>(some (ek.set n34 (cj,(gt ek n34).2))).bind fun l35=>(some (l35.set n34 ((gt l35 n34).1,bQ))).bind fun l37=>ao.pl3931 F aF k l37 el gR cV dp hZ cj ck cl cm cn (IntKind.i64.wrap (bQ + 1))))))))) else none)) else (aF ek el gR cV (IntKind.i64.wrap (dp + 1))))
termination_by structural n=>n
theorem ao.l3931_P {F:Nat} {H0:Hp} {Ri R0:List Rs}  {C61_:Nat→Nat→Nat→Nat→Sl→Int→Int→Hp→OA} {aF:List (Int×Int)→List (Int×Int)→List (Int×Int×Int×Int×Int)→Int→Int→Option ((List (Int×Int))×(List (Int×Int))×Bool)} (hC61:ao.S61 H0 Ri R0  C61_ aF):∀ k,ao.S3931 H0 Ri R0  (ao.l3931 F (az.tw F) (aZ.tw F) (a_.tw F) (bi.tw F) C61_ k) (ao.pl3931 F aF k):=by
 intro k
 induction k with
 | zero=>
  intro ox oy oz oA oB kW kX bP kY kZ ca k_ cG oC oD oE oF oG oH oI ek el oJ oK oL oM gR cV dp qL qM qN qO hZ cj ck cl cm cn bQ H uE uF uG uH uI h0 r hp
  exact nomatch (show (none:Option ((List (Int×Int))×(List (Int×Int))×Bool)) = some r from hp)
 | succ k ih=>
  intro ox oy oz oA oB kW kX bP kY kZ ca k_ cG oC oD oE oF oG oH oI ek el oJ oK oL oM gR cV dp qL qM qN qO hZ cj ck cl cm cn bQ H uE uF uG uH uI h0 r hp
  obtain ⟨w0,s0,qP,qQ,gB,gC,qR⟩:=h0
  subst uE
  subst uF
  subst uG
  subst uH
  subst uI
  unfold ao.pl3931 at hp
  unfold ao.l3931
  refine bif_ex (fun hb=>?_) (fun hb=>?_)
  ·replace hp:=bif_t hb hp
   obtain ⟨g1,hp⟩:=ifs_p hp
   refine ifs_ex g1 ?_
   refine bind_ex (a:=AV.int .i64 (gt ([ck,cl,cm,cn]:List Int) (bQ:Int).toNat)) (by rw [Nat.mul_one]; exact arr_get (k:=.i64) (l:=[ck,cl,cm,cn]) rfl (by have:=g1; simp only [List.length_cons,List.length_nil]; omega)) ?_
   refine bind_ex rfl ?_
   refine bind_ex (ldSl_of (w0.ld (i:=5) rfl rfl)) ?_
   refine bind_ex (ldI_of (w0.ld (i:=6) rfl rfl)) ?_
   refine bind_ex (ldI_of (w0.ld (i:=6) rfl rfl)) ?_
   refine bind_ex (ldI_of (w0.ld (i:=6) rfl rfl)) ?_
   refine bind_ex (ldI_of (w0.ld (i:=6) rfl rfl)) ?_
   refine bind_ex (ldI_of (w0.ld (i:=6) rfl rfl)) ?_
   obtain ⟨r2,e2,hp⟩:=bind_some' hp
   refine call_ex (a_.P ⟨w0,trivial⟩ e2) ?_
   rintro _ H3 ⟨rfl,w3,s3,_⟩
   refine bind_ex rfl ?_
   refine bif_ex (fun hb=>?_) (fun hb=>?_)
   ·replace hp:=bif_t hb hp
    refine bind_ex (ldSl_of (w3.ld (i:=5) rfl rfl)) ?_
    obtain ⟨w4,s4⟩:=w3.pick' [4,0,1,2,3,5,6] 7 rfl rfl rfl
    dsimp only [pk,pks,nth,List.drop] at w4 s4
    have f5:=W.borrow1 (ePair (eInt .i64) (eInt .i64)) w4 (gC.step (s3.trans s4))
    obtain ⟨w5,s5⟩:=w4.right1
    obtain ⟨r6,e6,hp⟩:=bind_some' hp
    refine call_ex (bi.P rfl ⟨w5,f5⟩ e6) ?_
    rintro _ H7 ⟨rfl,w7,s7,_⟩
    obtain ⟨w8,s8⟩:=W.frame1 w4 w7 s7
    refine bind_ex rfl ?_
    refine bif_ex (fun hb=>?_) (fun hb=>?_)
    ·replace hp:=bif_t hb hp
     refine bind_ex (ldSl_of (w8.ld (i:=5) rfl rfl)) ?_
     refine bind_ex (ldSl_of (w8.ld (i:=5) rfl rfl)) ?_
     refine st_k w8 (i:=3) rfl rfl rfl fun H9 w9 s9=>?_
     dsimp only [List.set] at w9 s9
     refine st_k w9 (i:=3) rfl rfl rfl fun H10 w10 s10=>?_
     dsimp only [List.set] at w10 s10
     refine bind_ex (ldSl_of (w10.ld (i:=3) rfl rfl)) ?_
     refine bind_ex (ldSl_of (w10.ld (i:=3) rfl rfl)) ?_
     obtain ⟨w11,s11⟩:=w10.pick' [4,0] 7 rfl rfl rfl
     dsimp only [pk,pks,nth,List.drop] at w11 s11
     obtain rfl:=Option.some.inj hp
     exact ⟨_,_,rfl,_,_,_,_,_,_,_,_,rfl,rfl,rfl,w11,(s0.trans (s3.trans (s4.trans (s8.trans (s9.trans (s10.trans s11)))))),(gB.step (s3.trans (s4.trans (s8.trans (s9.trans (s10.trans s11)))))),(gC.step (s3.trans (s4.trans (s8.trans (s9.trans (s10.trans s11))))))⟩
    ·replace hp:=bif_f hb hp
     obtain ⟨n12,g12,hp⟩:=bind_some' hp
     obtain ⟨p12,q12,i12,h12,j12⟩:=W.ixo (E:=(ePair (eInt .i64) (eInt .i64))) w8 (i:=0) rfl rfl (gC.step (s3.trans (s4.trans s8))) g12
     refine bind_ex i12 ?_
     obtain ⟨_,_,rfl,rfl,rfl⟩:=h12
     refine bind_ex (ldI_of (j12 0 _ rfl)) ?_
     refine bif_ex (fun hb=>?_) (fun hb=>?_)
     ·replace hp:=bif_t hb hp
      refine bind_ex (ldSl_of (w8.ld (i:=5) rfl rfl)) ?_
      refine bind_ex (ldSl_of (w8.ld (i:=5) rfl rfl)) ?_
      refine st_k w8 (i:=3) rfl rfl rfl fun H13 w13 s13=>?_
      dsimp only [List.set] at w13 s13
      refine st_k w13 (i:=3) rfl rfl rfl fun H14 w14 s14=>?_
      dsimp only [List.set] at w14 s14
      refine bind_ex (ldSl_of (w14.ld (i:=3) rfl rfl)) ?_
      refine bind_ex (ldSl_of (w14.ld (i:=3) rfl rfl)) ?_
      obtain ⟨w15,s15⟩:=w14.pick' [4,0] 7 rfl rfl rfl
      dsimp only [pk,pks,nth,List.drop] at w15 s15
      obtain rfl:=Option.some.inj hp
      exact ⟨_,_,rfl,_,_,_,_,_,_,_,_,rfl,rfl,rfl,w15,(s0.trans (s3.trans (s4.trans (s8.trans (s13.trans (s14.trans s15)))))),(gB.step (s3.trans (s4.trans (s8.trans (s13.trans (s14.trans s15)))))),(gC.step (s3.trans (s4.trans (s8.trans (s13.trans (s14.trans s15))))))⟩
     ·replace hp:=bif_f hb hp
      obtain ⟨n16,g16,hp⟩:=bind_some' hp
      obtain ⟨p16,q16,i16,h16,j16⟩:=W.ixo (E:=(ePair (eInt .i64) (eInt .i64))) w8 (i:=0) rfl rfl (gC.step (s3.trans (s4.trans s8))) g16
      refine bind_ex i16 ?_
      obtain ⟨l17,e17,hp⟩:=bind_some' hp
      refine sto_k (ePair (eInt .i64) (eInt .i64)) w8 (i:=0) (j:=0) (p:=p16) rfl rfl (gC.step (s3.trans (s4.trans s8))) g16 i16 e17 rfl rfl (fun _ h=>by obtain ⟨_,_,rfl,rfl,rfl⟩:=h; exact ⟨[_],_,rfl,rfl,rfl⟩) fun H18 k18 w18 s18 c18=>?_
      dsimp only [List.set] at w18 s18 c18
      obtain ⟨l19,e19,hp⟩:=bind_some' hp
      refine sto_k (ePair (eInt .i64) (eInt .i64)) w18 (i:=0) (j:=1) (p:=p16) rfl rfl c18 (ix_len g16 (st_len e17)) i16 e19 rfl rfl (fun _ h=>by obtain ⟨_,_,rfl,rfl,rfl⟩:=h; exact ⟨[_],_,rfl,rfl,rfl⟩) fun H20 k20 w20 s20 c20=>?_
      dsimp only [List.set] at w20 s20 c20
      obtain ⟨w21,s21⟩:=w20.pick' [1,2,3,4,0,5,6] 7 rfl rfl rfl
      dsimp only [pk,pks,nth,List.drop] at w21 s21
      exact ih rfl rfl rfl ((st_len e17).symm.trans (st_len e19).symm) rfl ⟨w21,(s0.trans (s3.trans (s4.trans (s8.trans (s18.trans (s20.trans s21)))))),(qP.step (s3.trans (s4.trans (s8.trans (s18.trans (s20.trans s21)))))),(qQ.step (s3.trans (s4.trans (s8.trans (s18.trans (s20.trans s21)))))),(gB.step (s3.trans (s4.trans (s8.trans (s18.trans (s20.trans s21)))))),(c20.step s21),(qR.step (s3.trans (s4.trans (s8.trans (s18.trans (s20.trans s21))))))⟩ hp
   ·replace hp:=bif_f hb hp
    obtain ⟨w22,s22⟩:=w3.pick' [3,0,1,2,4,5,6] 7 rfl rfl rfl
    dsimp only [pk,pks,nth,List.drop] at w22 s22
    have f23:=W.borrow1 (ePair (eInt .i64) (eInt .i64)) w22 (gB.step (s3.trans s22))
    obtain ⟨w23,s23⟩:=w22.right1
    obtain ⟨r24,e24,hp⟩:=bind_some' hp
    refine call_ex (bi.P rfl ⟨w23,f23⟩ e24) ?_
    rintro _ H25 ⟨rfl,w25,s25,_⟩
    obtain ⟨w26,s26⟩:=W.frame1 w22 w25 s25
    refine bind_ex rfl ?_
    refine bif_ex (fun hb=>?_) (fun hb=>?_)
    ·replace hp:=bif_t hb hp
     refine bind_ex (ldSl_of (w26.ld (i:=5) rfl rfl)) ?_
     refine bind_ex (ldSl_of (w26.ld (i:=5) rfl rfl)) ?_
     refine st_k w26 (i:=3) rfl rfl rfl fun H27 w27 s27=>?_
     dsimp only [List.set] at w27 s27
     refine st_k w27 (i:=3) rfl rfl rfl fun H28 w28 s28=>?_
     dsimp only [List.set] at w28 s28
     refine bind_ex (ldSl_of (w28.ld (i:=3) rfl rfl)) ?_
     refine bind_ex (ldSl_of (w28.ld (i:=3) rfl rfl)) ?_
     obtain ⟨w29,s29⟩:=w28.pick' [0,4] 7 rfl rfl rfl
     dsimp only [pk,pks,nth,List.drop] at w29 s29
     obtain rfl:=Option.some.inj hp
     exact ⟨_,_,rfl,_,_,_,_,_,_,_,_,rfl,rfl,rfl,w29,(s0.trans (s3.trans (s22.trans (s26.trans (s27.trans (s28.trans s29)))))),(gB.step (s3.trans (s22.trans (s26.trans (s27.trans (s28.trans s29)))))),(gC.step (s3.trans (s22.trans (s26.trans (s27.trans (s28.trans s29))))))⟩
    ·replace hp:=bif_f hb hp
     obtain ⟨n30,g30,hp⟩:=bind_some' hp
     obtain ⟨p30,q30,i30,h30,j30⟩:=W.ixo (E:=(ePair (eInt .i64) (eInt .i64))) w26 (i:=0) rfl rfl (gB.step (s3.trans (s22.trans s26))) g30
     refine bind_ex i30 ?_
     obtain ⟨_,_,rfl,rfl,rfl⟩:=h30
     refine bind_ex (ldI_of (j30 0 _ rfl)) ?_
     refine bif_ex (fun hb=>?_) (fun hb=>?_)
     ·replace hp:=bif_t hb hp
      refine bind_ex (ldSl_of (w26.ld (i:=5) rfl rfl)) ?_
      refine bind_ex (ldSl_of (w26.ld (i:=5) rfl rfl)) ?_
      refine st_k w26 (i:=3) rfl rfl rfl fun H31 w31 s31=>?_
      dsimp only [List.set] at w31 s31
      refine st_k w31 (i:=3) rfl rfl rfl fun H32 w32 s32=>?_
      dsimp only [List.set] at w32 s32
      refine bind_ex (ldSl_of (w32.ld (i:=3) rfl rfl)) ?_
      refine bind_ex (ldSl_of (w32.ld (i:=3) rfl rfl)) ?_
      obtain ⟨w33,s33⟩:=w32.pick' [0,4] 7 rfl rfl rfl
      dsimp only [pk,pks,nth,List.drop] at w33 s33
      obtain rfl:=Option.some.inj hp
      exact ⟨_,_,rfl,_,_,_,_,_,_,_,_,rfl,rfl,rfl,w33,(s0.trans (s3.trans (s22.trans (s26.trans (s31.trans (s32.trans s33)))))),(gB.step (s3.trans (s22.trans (s26.trans (s31.trans (s32.trans s33)))))),(gC.step (s3.trans (s22.trans (s26.trans (s31.trans (s32.trans s33))))))⟩
     ·replace hp:=bif_f hb hp
      obtain ⟨n34,g34,hp⟩:=bind_some' hp
      obtain ⟨p34,q34,i34,h34,j34⟩:=W.ixo (E:=(ePair (eInt .i64) (eInt .i64))) w26 (i:=0) rfl rfl (gB.step (s3.trans (s22.trans s26))) g34
      refine bind_ex i34 ?_
      obtain ⟨l35,e35,hp⟩:=bind_some' hp
      refine sto_k (ePair (eInt .i64) (eInt .i64)) w26 (i:=0) (j:=0) (p:=p34) rfl rfl (gB.step (s3.trans (s22.trans s26))) g34 i34 e35 rfl rfl (fun _ h=>by obtain ⟨_,_,rfl,rfl,rfl⟩:=h; exact ⟨[_],_,rfl,rfl,rfl⟩) fun H36 k36 w36 s36 c36=>?_
      dsimp only [List.set] at w36 s36 c36
      obtain ⟨l37,e37,hp⟩:=bind_some' hp
      refine sto_k (ePair (eInt .i64) (eInt .i64)) w36 (i:=0) (j:=1) (p:=p34) rfl rfl c36 (ix_len g34 (st_len e35)) i34 e37 rfl rfl (fun _ h=>by obtain ⟨_,_,rfl,rfl,rfl⟩:=h; exact ⟨[_],_,rfl,rfl,rfl⟩) fun H38 k38 w38 s38 c38=>?_
      dsimp only [List.set] at w38 s38 c38
      obtain ⟨w39,s39⟩:=w38.pick' [1,2,3,0,4,5,6] 7 rfl rfl rfl
      dsimp only [pk,pks,nth,List.drop] at w39 s39
      exact ih rfl rfl ((st_len e35).symm.trans (st_len e37).symm) rfl rfl ⟨w39,(s0.trans (s3.trans (s22.trans (s26.trans (s36.trans (s38.trans s39)))))),(qP.step (s3.trans (s22.trans (s26.trans (s36.trans (s38.trans s39)))))),(qQ.step (s3.trans (s22.trans (s26.trans (s36.trans (s38.trans s39)))))),(c38.step s39),(gC.step (s3.trans (s22.trans (s26.trans (s36.trans (s38.trans s39)))))),(qR.step (s3.trans (s22.trans (s26.trans (s36.trans (s38.trans s39))))))⟩ hp
  ·replace hp:=bif_f hb hp
   obtain ⟨w40,s40⟩:=w0.pick' [0,1,2,3,4,5] 7 rfl rfl rfl
   dsimp only [pk,pks,nth,List.drop] at w40 s40
   exact hC61 rfl rfl rfl rfl rfl ⟨w40,(s0.trans s40),(qP.step s40),(qQ.step s40),(gB.step s40),(gC.step s40),(qR.step s40)⟩ hp
def ao.pl61 (F:Nat) :Nat→List (Int×Int)→List (Int×Int)→List (Int×Int×Int×Int×Int)→Int→Int→Option ((List (Int×Int))×(List (Int×Int))×Bool)
 | 0,_,_,_,_,_=>none
 | k + 1,hX,hY,fw,dO,dr=>(bif (decide (dr < dO)) then ((ix fw dr).bind fun n1=>(aZ.p F ((gt fw n1).1) ((gt fw n1).2.1) ((gt fw n1).2.2.1) ((gt fw n1).2.2.2.1)).bind fun r8=>ao.pl3931 F (ao.pl61 F k) F hX hY fw dO dr ((gt fw n1).2.2.2.2) dr r8.1 r8.2.1 r8.2.2.1 r8.2.2.2 0) else (some (hX,hY,true)))
termination_by structural n=>n
theorem ao.l61_P {F:Nat} {H0:Hp} {Ri R0:List Rs}  :∀ k,ao.S61 H0 Ri R0  (ao.l61 F (az.tw F) (aZ.tw F) (a_.tw F) (bi.tw F)  k) (ao.pl61 F  k):=by
 intro k
 induction k with
 | zero=>
  intro oa ob oc od oe kR kS dq kT kU dN kV og oh oi oj ol om oo hX hY oq ot ou ov fw dO dr H uJ uK uL uM uN h0 r hp
  exact nomatch (show (none:Option ((List (Int×Int))×(List (Int×Int))×Bool)) = some r from hp)
 | succ k ih=>
  intro oa ob oc od oe kR kS dq kT kU dN kV og oh oi oj ol om oo hX hY oq ot ou ov fw dO dr H uJ uK uL uM uN h0 r hp
  obtain ⟨w0,s0,yY,yZ,uO,uP,uQ⟩:=h0
  subst uJ
  subst uK
  subst uL
  subst uM
  subst uN
  unfold ao.pl61 at hp
  unfold ao.l61
  refine bif_ex (fun hb=>?_) (fun hb=>?_)
  ·replace hp:=bif_t hb hp
   obtain ⟨n1,g1,hp⟩:=bind_some' hp
   obtain ⟨p1,q1,i1,h1,j1⟩:=ROs.ixr uQ rfl g1
   refine bind_ex i1 ?_
   obtain ⟨_,_,rfl,rfl,_,_,rfl,rfl,_,_,rfl,rfl,_,_,rfl,rfl,rfl⟩:=h1
   refine bind_ex (ldI_of (j1 0 _ rfl)) ?_
   refine bind_ex (ldI_of (j1 1 _ rfl)) ?_
   refine bind_ex (ldI_of (j1 2 _ rfl)) ?_
   refine bind_ex (ldI_of (j1 3 _ rfl)) ?_
   refine bind_ex (ldI_of (j1 4 _ rfl)) ?_
   refine new_k w0 fun H2 w2 s2=>?_
   refine st_k w2 (i:=0) rfl rfl rfl fun H3 w3 s3=>?_
   dsimp only [List.set] at w3 s3
   refine st_k w3 (i:=0) rfl rfl rfl fun H4 w4 s4=>?_
   dsimp only [List.set] at w4 s4
   refine st_k w4 (i:=0) rfl rfl rfl fun H5 w5 s5=>?_
   dsimp only [List.set] at w5 s5
   refine st_k w5 (i:=0) rfl rfl rfl fun H6 w6 s6=>?_
   dsimp only [List.set] at w6 s6
   refine st_k w6 (i:=0) rfl rfl rfl fun H7 w7 s7=>?_
   dsimp only [List.set] at w7 s7
   refine bind_ex (ldI_of (w7.ld (i:=0) rfl rfl)) ?_
   refine bind_ex (ldI_of (w7.ld (i:=0) rfl rfl)) ?_
   refine bind_ex (ldI_of (w7.ld (i:=0) rfl rfl)) ?_
   refine bind_ex (ldI_of (w7.ld (i:=0) rfl rfl)) ?_
   refine bind_ex (ldI_of (w7.ld (i:=0) rfl rfl)) ?_
   obtain ⟨r8,e8,hp⟩:=bind_some' hp
   refine call_ex (aZ.P ⟨w7,trivial⟩ e8) ?_
   rintro _ H9 ⟨rfl,w9,s9,_⟩
   refine bind_ex rfl ?_
   refine bind_ex rfl ?_
   refine bind_ex rfl ?_
   refine bind_ex rfl ?_
   refine bind_ex rfl ?_
   refine bind_ex rfl ?_
   refine bind_ex rfl ?_
   refine bind_ex rfl ?_
   refine bind_ex rfl ?_
   obtain ⟨w10,s10⟩:=w9.pick' [1,2,3,4,5,6,0] 7 rfl rfl rfl
   dsimp only [pk,pks,nth,List.drop] at w10 s10
   exact ao.l3931_P (@ih) F rfl rfl rfl rfl rfl ⟨w10,(s0.trans (s2.trans (s3.trans (s4.trans (s5.trans (s6.trans (s7.trans (s9.trans s10)))))))),(yY.step (s2.trans (s3.trans (s4.trans (s5.trans (s6.trans (s7.trans (s9.trans s10)))))))),(yZ.step (s2.trans (s3.trans (s4.trans (s5.trans (s6.trans (s7.trans (s9.trans s10)))))))),(uO.step (s2.trans (s3.trans (s4.trans (s5.trans (s6.trans (s7.trans (s9.trans s10)))))))),(uP.step (s2.trans (s3.trans (s4.trans (s5.trans (s6.trans (s7.trans (s9.trans s10)))))))),(uQ.step (s2.trans (s3.trans (s4.trans (s5.trans (s6.trans (s7.trans (s9.trans s10))))))))⟩ hp
  ·replace hp:=bif_f hb hp
   refine bind_ex (ldSl_of (w0.ld (i:=5) rfl rfl)) ?_
   refine bind_ex (ldSl_of (w0.ld (i:=5) rfl rfl)) ?_
   refine st_k w0 (i:=2) rfl rfl rfl fun H11 w11 s11=>?_
   dsimp only [List.set] at w11 s11
   refine st_k w11 (i:=2) rfl rfl rfl fun H12 w12 s12=>?_
   dsimp only [List.set] at w12 s12
   refine bind_ex (ldSl_of (w12.ld (i:=2) rfl rfl)) ?_
   refine bind_ex (ldSl_of (w12.ld (i:=2) rfl rfl)) ?_
   obtain ⟨w13,s13⟩:=w12.pick' [3,4] 6 rfl rfl rfl
   dsimp only [pk,pks,nth,List.drop] at w13 s13
   obtain rfl:=Option.some.inj hp
   exact ⟨_,_,rfl,_,_,_,_,_,_,_,_,rfl,rfl,rfl,w13,(s0.trans (s11.trans (s12.trans s13))),(uO.step (s11.trans (s12.trans s13))),(uP.step (s11.trans (s12.trans s13)))⟩
def ao.p (F:Nat) (ac:List (Int×Int×Int×Int×Int)):Option ((List (Int×Int))×(List (Int×Int))×Bool):=(az.p F ([((-1),0)]:List (Int×Int)) (IntKind.i64.wrap (2 * (ac.length:Int)))).bind fun r5=>(az.p F ([((-1),0)]:List (Int×Int)) (IntKind.i64.wrap (2 * (ac.length:Int)))).bind fun r10=>ao.pl61 F F r5 r10 ac (ac.length:Int) 0
theorem ao.P {F:Nat} {ap:ON} {ag:Nat} {aq:Cap} {ac:List (Int×Int×Int×Int×Int)} {ab:Int} {H:Hp} {R0:List Rs} (aV:ag = ac.length) (h0:Inn H R0 fun R=>ROs (ePair (eInt .i64) (ePair (eInt .i64) (ePair (eInt .i64) (ePair (eInt .i64) (eInt .i64))))) H R ⟨ap,ag,aq⟩ ac) {r:(List (Int×Int))×(List (Int×Int))×Bool} (hp:ao.p F ac = some r):∃ v H',ao.tw F ⟨ap,ag,aq⟩ ab H = some (v,H')∧ao.Q H R0 R0  r v H':=by
 obtain ⟨w0,aQ⟩:=h0
 subst aV
 unfold ao.p at hp
 unfold ao.tw ao.twX
 have s0:=w0.rf
 refine new_k w0 fun H1 w1 s1=>?_
 refine new_k w1 fun H2 w2 s2=>?_
 refine bind_ex (ldSl_of (w2.ld (i:=1) rfl rfl)) ?_
 refine newS_k (ePair (eInt .i64) (eInt .i64)) w2 (n:=1) (l:=([((-1),0)]:List (Int×Int))) rfl (CR.cons (c:=[_,_]) ⟨[_],_,rfl,rfl,rfl⟩ CR.empty) rfl fun H3 w3 s3 c3=>?_
 have f4:=W.borrow1 (ePair (eInt .i64) (eInt .i64)) w3 c3
 obtain ⟨w4,s4⟩:=w3.right1
 obtain ⟨r5,e5,hp⟩:=bind_some' hp
 refine call_ex (az.P (show 1 = List.length ([((-1),0)]:List (Int×Int)) from rfl) ⟨w4,f4⟩ e5) ?_
 rintro _ H6 ⟨o0a_6,o0n_6,o0k_6,rfl,rfl,w6,s6,f6_0⟩
 obtain ⟨w7,s7⟩:=W.frame1 w3 w6 s6
 refine bind_ex rfl ?_
 refine newS_k (ePair (eInt .i64) (eInt .i64)) w7 (n:=1) (l:=([((-1),0)]:List (Int×Int))) rfl (CR.cons (c:=[_,_]) ⟨[_],_,rfl,rfl,rfl⟩ CR.empty) rfl fun H8 w8 s8 c8=>?_
 have f9:=W.borrow1 (ePair (eInt .i64) (eInt .i64)) w8 c8
 obtain ⟨w9,s9⟩:=w8.right1
 obtain ⟨r10,e10,hp⟩:=bind_some' hp
 refine call_ex (az.P (show 1 = List.length ([((-1),0)]:List (Int×Int)) from rfl) ⟨w9,f9⟩ e10) ?_
 rintro _ H11 ⟨o0a_11,o0n_11,o0k_11,rfl,rfl,w11,s11,f11_0⟩
 obtain ⟨w12,s12⟩:=W.frame1 w8 w11 s11
 refine bind_ex rfl ?_
 refine new_k w12 fun H13 w13 s13=>?_
 refine st_k w13 (i:=0) rfl rfl rfl fun H14 w14 s14=>?_
 dsimp only [List.set] at w14 s14
 refine st_k w14 (i:=0) rfl rfl rfl fun H15 w15 s15=>?_
 dsimp only [List.set] at w15 s15
 refine bind_ex (ldSl_of (w15.ld (i:=6) rfl rfl)) ?_
 obtain ⟨w16,s16⟩:=w15.nilS (ePair (eInt .i64) (eInt .i64)).z (by decide)
 obtain ⟨w17,s17⟩:=w16.nilS (ePair (eInt .i64) (eInt .i64)).z (by decide)
 obtain ⟨w18,s18⟩:=w17.pick' [1,0,7,6,4,2] 9 rfl rfl rfl
 dsimp only [pk,pks,nth,List.drop] at w18 s18
 exact ao.l61_P F rfl rfl rfl rfl rfl ⟨w18,(s0.trans (s1.trans (s2.trans (s3.trans (s7.trans (s8.trans (s12.trans (s13.trans (s14.trans (s15.trans (s16.trans (s17.trans s18)))))))))))),((CR.empty:CR (ePair (eInt .i64) (eInt .i64)) _ _ [] []).step (s17.trans s18)),((CR.empty:CR (ePair (eInt .i64) (eInt .i64)) _ _ [] []).step s18),((CR.flat (ePair_flat (eInt_flat .i64) (eInt_flat .i64)) f6_0).step (s8.trans (s12.trans (s13.trans (s14.trans (s15.trans (s16.trans (s17.trans s18)))))))),((CR.flat (ePair_flat (eInt_flat .i64) (eInt_flat .i64)) f11_0).step (s13.trans (s14.trans (s15.trans (s16.trans (s17.trans s18)))))),(aQ.step (s1.trans (s2.trans (s3.trans (s7.trans (s8.trans (s12.trans (s13.trans (s14.trans (s15.trans (s16.trans (s17.trans s18))))))))))))⟩ hp
def bg.Q (H0:Hp) (Ri R0:List Rs)  (r:Int×Int) (v:AV) (H':Hp):Prop:=v = (.agg [(.int .i64 r.1),(.int .i64 r.2)])∧Out H0 Ri H' (R0) fun R=>True
def bg.p (F:Nat) (ac:List (Int×Int×Int×Int×Int)) (cD:List (Int×Int)) (ec:List (Int×Int)) (ez:Int) (dt:Int):Option (Int×Int):=(ix ac ez).bind fun n5=>(aZ.p F ((gt ac n5).1) ((gt ac n5).2.1) ((gt ac n5).2.2.1) ((gt ac n5).2.2.2.1)).bind fun r12=>(if 0 ≤ dt∧dt < (4:Int) then ((a_.p F ((gt ac n5).2.2.2.2) dt).bind fun r16=>(bif r16 then ((ix cD (gt ([r12.1,r12.2.1,r12.2.2.1,r12.2.2.2]:List Int) (dt:Int).toNat)).bind fun n18=>some (((gt cD n18).1),((gt cD n18).2))) else ((ix ec (gt ([r12.1,r12.2.1,r12.2.2.1,r12.2.2.2]:List Int) (dt:Int).toNat)).bind fun n22=>some (((gt ec n22).1),((gt ec n22).2))))) else none)
theorem bg.P {F:Nat} {ap gu h_:ON} {ag eV gv:Nat} {aq gw ia:Cap} {ac:List (Int×Int×Int×Int×Int)} {ab ez dt:Int} {cD ec:List (Int×Int)} {H:Hp} {R0:List Rs} (aV:ag = ac.length) (ir:eV = cD.length) (la:gv = ec.length) (h0:Inn H R0 fun R=>ROs (ePair (eInt .i64) (ePair (eInt .i64) (ePair (eInt .i64) (ePair (eInt .i64) (eInt .i64))))) H R ⟨ap,ag,aq⟩ ac∧ROs (ePair (eInt .i64) (eInt .i64)) H R ⟨gu,eV,gw⟩ cD∧ROs (ePair (eInt .i64) (eInt .i64)) H R ⟨h_,gv,ia⟩ ec) {r:Int×Int} (hp:bg.p F ac cD ec ez dt = some r):∃ v H',bg.tw F ⟨ap,ag,aq⟩ ab ⟨gu,eV,gw⟩ ⟨h_,gv,ia⟩ ez dt H = some (v,H')∧bg.Q H R0 R0  r v H':=by
 obtain ⟨w0,aQ,iu,lb⟩:=h0
 subst aV
 subst ir
 subst la
 unfold bg.p at hp
 unfold bg.tw bg.twX
 have s0:=w0.rf
 refine new_k w0 fun H1 w1 s1=>?_
 refine new_k w1 fun H2 w2 s2=>?_
 refine new_k w2 fun H3 w3 s3=>?_
 refine new_k w3 fun H4 w4 s4=>?_
 refine bind_ex (ldSl_of (w4.ld (i:=3) rfl rfl)) ?_
 refine bind_ex (ldI_of (w4.ld (i:=1) rfl rfl)) ?_
 obtain ⟨n5,g5,hp⟩:=bind_some' hp
 obtain ⟨p5,q5,i5,h5,j5⟩:=ROs.ixr (aQ.step (s1.trans (s2.trans (s3.trans s4)))) rfl g5
 refine bind_ex i5 ?_
 obtain ⟨_,_,rfl,rfl,_,_,rfl,rfl,_,_,rfl,rfl,_,_,rfl,rfl,rfl⟩:=h5
 refine bind_ex (ldI_of (j5 0 _ rfl)) ?_
 refine bind_ex (ldI_of (j5 1 _ rfl)) ?_
 refine bind_ex (ldI_of (j5 2 _ rfl)) ?_
 refine bind_ex (ldI_of (j5 3 _ rfl)) ?_
 refine bind_ex (ldI_of (j5 4 _ rfl)) ?_
 refine new_k w4 fun H6 w6 s6=>?_
 refine st_k w6 (i:=0) rfl rfl rfl fun H7 w7 s7=>?_
 dsimp only [List.set] at w7 s7
 refine st_k w7 (i:=0) rfl rfl rfl fun H8 w8 s8=>?_
 dsimp only [List.set] at w8 s8
 refine st_k w8 (i:=0) rfl rfl rfl fun H9 w9 s9=>?_
 dsimp only [List.set] at w9 s9
 refine st_k w9 (i:=0) rfl rfl rfl fun H10 w10 s10=>?_
 dsimp only [List.set] at w10 s10
 refine st_k w10 (i:=0) rfl rfl rfl fun H11 w11 s11=>?_
 dsimp only [List.set] at w11 s11
 refine bind_ex (ldI_of (w11.ld (i:=0) rfl rfl)) ?_
 refine bind_ex (ldI_of (w11.ld (i:=0) rfl rfl)) ?_
 refine bind_ex (ldI_of (w11.ld (i:=0) rfl rfl)) ?_
 refine bind_ex (ldI_of (w11.ld (i:=0) rfl rfl)) ?_
 refine bind_ex (ldI_of (w11.ld (i:=0) rfl rfl)) ?_
 obtain ⟨r12,e12,hp⟩:=bind_some' hp
 refine call_ex (aZ.P ⟨w11,trivial⟩ e12) ?_
 rintro _ H13 ⟨rfl,w13,s13,_⟩
 refine bind_ex rfl ?_
 refine bind_ex rfl ?_
 refine bind_ex rfl ?_
 refine bind_ex rfl ?_
 refine bind_ex rfl ?_
 refine bind_ex rfl ?_
 refine bind_ex rfl ?_
 refine bind_ex rfl ?_
 refine bind_ex rfl ?_
 refine ifs_ex (W.cons_of (Rn:=[]) w11 w13 s13) ?_
 refine bind_ex (ldI_of (w13.ld (i:=2) rfl rfl)) ?_
 obtain ⟨g15,hp⟩:=ifs_p hp
 refine ifs_ex g15 ?_
 refine bind_ex (a:=AV.int .i64 (gt ([r12.1,r12.2.1,r12.2.2.1,r12.2.2.2]:List Int) (dt:Int).toNat)) (by rw [Nat.mul_one]; exact arr_get (k:=.i64) (l:=[r12.1,r12.2.1,r12.2.2.1,r12.2.2.2]) rfl (by have:=g15; simp only [List.length_cons,List.length_nil]; omega)) ?_
 refine bind_ex rfl ?_
 refine bind_ex (ldI_of (w13.ld (i:=0) rfl rfl)) ?_
 refine bind_ex (ldI_of (w13.ld (i:=0) rfl rfl)) ?_
 refine bind_ex (ldI_of (w13.ld (i:=0) rfl rfl)) ?_
 refine bind_ex (ldI_of (w13.ld (i:=0) rfl rfl)) ?_
 refine bind_ex (ldI_of (w13.ld (i:=0) rfl rfl)) ?_
 refine bind_ex (ldI_of (w13.ld (i:=2) rfl rfl)) ?_
 obtain ⟨r16,e16,hp⟩:=bind_some' hp
 refine call_ex (a_.P ⟨w13,trivial⟩ e16) ?_
 rintro _ H17 ⟨rfl,w17,s17,_⟩
 refine bind_ex rfl ?_
 refine bif_ex (fun hb=>?_) (fun hb=>?_)
 ·replace hp:=bif_t hb hp
  refine bind_ex (ldSl_of (w17.ld (i:=3) rfl rfl)) ?_
  obtain ⟨n18,g18,hp⟩:=bind_some' hp
  obtain ⟨p18,q18,i18,h18,j18⟩:=ROs.ixr (iu.step (s1.trans (s2.trans (s3.trans (s4.trans (s6.trans (s7.trans (s8.trans (s9.trans (s10.trans (s11.trans (s13.trans s17)))))))))))) rfl g18
  refine bind_ex i18 ?_
  obtain ⟨_,_,rfl,rfl,rfl⟩:=h18
  refine bind_ex (ldI_of (j18 0 _ rfl)) ?_
  refine bind_ex (ldI_of (j18 1 _ rfl)) ?_
  refine st_k w17 (i:=1) rfl rfl rfl fun H19 w19 s19=>?_
  dsimp only [List.set] at w19 s19
  refine st_k w19 (i:=1) rfl rfl rfl fun H20 w20 s20=>?_
  dsimp only [List.set] at w20 s20
  refine bind_ex (ldI_of (w20.ld (i:=1) rfl rfl)) ?_
  refine bind_ex (ldI_of (w20.ld (i:=1) rfl rfl)) ?_
  obtain ⟨w21,s21⟩:=w20.pick' [] 5 rfl rfl rfl
  dsimp only [pk,pks,nth,List.drop] at w21 s21
  obtain rfl:=Option.some.inj hp
  exact ⟨_,_,rfl,rfl,w21,(s0.trans (s1.trans (s2.trans (s3.trans (s4.trans (s6.trans (s7.trans (s8.trans (s9.trans (s10.trans (s11.trans (s13.trans (s17.trans (s19.trans (s20.trans s21))))))))))))))),trivial⟩
 ·replace hp:=bif_f hb hp
  refine bind_ex (ldSl_of (w17.ld (i:=3) rfl rfl)) ?_
  obtain ⟨n22,g22,hp⟩:=bind_some' hp
  obtain ⟨p22,q22,i22,h22,j22⟩:=ROs.ixr (lb.step (s1.trans (s2.trans (s3.trans (s4.trans (s6.trans (s7.trans (s8.trans (s9.trans (s10.trans (s11.trans (s13.trans s17)))))))))))) rfl g22
  refine bind_ex i22 ?_
  obtain ⟨_,_,rfl,rfl,rfl⟩:=h22
  refine bind_ex (ldI_of (j22 0 _ rfl)) ?_
  refine bind_ex (ldI_of (j22 1 _ rfl)) ?_
  refine st_k w17 (i:=1) rfl rfl rfl fun H23 w23 s23=>?_
  dsimp only [List.set] at w23 s23
  refine st_k w23 (i:=1) rfl rfl rfl fun H24 w24 s24=>?_
  dsimp only [List.set] at w24 s24
  refine bind_ex (ldI_of (w24.ld (i:=1) rfl rfl)) ?_
  refine bind_ex (ldI_of (w24.ld (i:=1) rfl rfl)) ?_
  obtain ⟨w25,s25⟩:=w24.pick' [] 5 rfl rfl rfl
  dsimp only [pk,pks,nth,List.drop] at w25 s25
  obtain rfl:=Option.some.inj hp
  exact ⟨_,_,rfl,rfl,w25,(s0.trans (s1.trans (s2.trans (s3.trans (s4.trans (s6.trans (s7.trans (s8.trans (s9.trans (s10.trans (s11.trans (s13.trans (s17.trans (s23.trans (s24.trans s25))))))))))))))),trivial⟩
def ai.Q (H0:Hp) (Ri R0:List Rs)  (r:List (List Int)) (v:AV) (H':Hp):Prop:=∃ o0a:ON,∃ o0n:Nat,∃ o0c:Cap,∃ o0k:List AV,v = (.sl ⟨o0a,o0n,o0c⟩)∧o0n = (r).length∧Out H0 Ri H' (Rs.own ⟨o0a,o0n,o0c⟩ (eSl (eInt .i64)).z o0k :: R0) fun R=>CR (eSl (eInt .i64)) H' R o0k (r)
def ai.S61 (H0:Hp) (Ri R0:List Rs)  (C:Nat→Nat→Nat→Nat→Sl→Sl→Int→Int→Hp→OA) (pC:List (Int×Int×Int×Int×Int)→List (Int×Int)→List (Int×Int)→List (List Int)→List Bool→Int→Int→Option (List (List Int))):Prop:=∀ {oN oO oP oQ oR:ON} {lc dR lf lg ej li lj:Nat} {oS oT oU oV oW:Cap} {iv:List (Int×Int×Int×Int×Int)} {qS dS dI:Int} {iw iy:List (Int×Int)} {ib:List (List Int)} {oX oY:List AV} {iz:List Bool},∀ {H:Hp},lc = iv.length→lf = iw.length→lg = iy.length→li = ib.length→lj = iz.length→(Out H0 Ri H (Rs.blk dR [.sl ⟨oN,lc,oS⟩,.int .i64 qS] :: Rs.blk ej [.sl ⟨oO,lf,oT⟩,.sl ⟨oP,lg,oU⟩] :: Rs.own ⟨oQ,li,oV⟩ (eSl (eInt .i64)).z oX :: Rs.own ⟨oR,lj,oW⟩ eBool.z oY :: R0) fun R=>ROs (ePair (eInt .i64) (ePair (eInt .i64) (ePair (eInt .i64) (ePair (eInt .i64) (eInt .i64))))) H R ⟨oN,lc,oS⟩ iv∧ROs (ePair (eInt .i64) (eInt .i64)) H R ⟨oO,lf,oT⟩ iw∧ROs (ePair (eInt .i64) (eInt .i64)) H R ⟨oP,lg,oU⟩ iy∧CR (eSl (eInt .i64)) H R oX ib∧CR eBool H R oY iz)→∀ {r:List (List Int)},pC iv iw iy ib iz dS dI = some r→∃ v H',C dR 0 ej 0 ⟨oQ,li,oV⟩ ⟨oR,lj,oW⟩ dS dI H = some (v,H')∧ai.Q H0 Ri R0  r v H'
def ai.S15725 (H0:Hp) (Ri R0:List Rs)  (C:Nat→Nat→Nat→Nat→Sl→Sl→Int→Int→Sl→Int→Hp→OA) (pC:List (Int×Int×Int×Int×Int)→List (Int×Int)→List (Int×Int)→List (List Int)→List Bool→Int→Int→List Int→Int→Option (List (List Int))):Prop:=∀ {oZ o_ pa pb pc pd:ON} {lk cM ll lm cW ln lp lq:Nat} {pe pf pg ph pi pj:Cap} {gS:List (Int×Int×Int×Int×Int)} {qT dQ ei co:Int} {gT gU:List (Int×Int)} {ic:List (List Int)} {pl pm po:List AV} {gx:List Bool} {ie:List Int},∀ {H:Hp},lk = gS.length→ll = gT.length→lm = gU.length→ln = ic.length→lp = gx.length→lq = ie.length→(Out H0 Ri H (Rs.blk cM [.sl ⟨oZ,lk,pe⟩,.int .i64 qT] :: Rs.blk cW [.sl ⟨o_,ll,pf⟩,.sl ⟨pa,lm,pg⟩] :: Rs.own ⟨pb,ln,ph⟩ (eSl (eInt .i64)).z pl :: Rs.own ⟨pc,lp,pi⟩ eBool.z pm :: Rs.own ⟨pd,lq,pj⟩ (eInt .i64).z po :: R0) fun R=>ROs (ePair (eInt .i64) (ePair (eInt .i64) (ePair (eInt .i64) (ePair (eInt .i64) (eInt .i64))))) H R ⟨oZ,lk,pe⟩ gS∧ROs (ePair (eInt .i64) (eInt .i64)) H R ⟨o_,ll,pf⟩ gT∧ROs (ePair (eInt .i64) (eInt .i64)) H R ⟨pa,lm,pg⟩ gU∧CR (eSl (eInt .i64)) H R pl ic∧CR eBool H R pm gx∧CR (eInt .i64) H R po ie)→∀ {r:List (List Int)},pC gS gT gU ic gx dQ ei ie co = some r→∃ v H',C cM 0 cW 0 ⟨pb,ln,ph⟩ ⟨pc,lp,pi⟩ dQ ei ⟨pd,lq,pj⟩ co H = some (v,H')∧ai.Q H0 Ri R0  r v H'
def ai.pj4 (F:Nat) (aF:List (Int×Int×Int×Int×Int)→List (Int×Int)→List (Int×Int)→List (List Int)→List Bool→Int→Int→Option (List (List Int))) (lr:List (Int×Int×Int×Int×Int)) (lu:List (Int×Int)) (lv:List (Int×Int)) (lw:List (List Int)) (lx:List Bool) (jg:Int) (jh:Int):Option (List (List Int)):=aF lr lu lv lw lx jg (IntKind.i64.wrap (jh + 1))
theorem ai.j4_P {F:Nat} {H0:Hp} {Ri R0:List Rs}  {C61_:Nat→Nat→Nat→Nat→Sl→Sl→Int→Int→Hp→OA} {aF:List (Int×Int×Int×Int×Int)→List (Int×Int)→List (Int×Int)→List (List Int)→List Bool→Int→Int→Option (List (List Int))} (hC61:ai.S61 H0 Ri R0  C61_ aF) {uR uS uT uU uV:ON} {qU mi qV qW mj qX qY:Nat} {uW uX uY uZ u_:Cap} {lr:List (Int×Int×Int×Int×Int)} {y_ jg jh:Int} {lu lv:List (Int×Int)} {lw:List (List Int)} {va vb:List AV} {lx:List Bool} {H:Hp} (za:qU = lr.length) (zb:qV = lu.length) (zc:qW = lv.length) (zd:qX = lw.length) (ze:qY = lx.length) (h0:Out H0 Ri H (Rs.blk mi [.sl ⟨uR,qU,uW⟩,.int .i64 y_] :: Rs.blk mj [.sl ⟨uS,qV,uX⟩,.sl ⟨uT,qW,uY⟩] :: Rs.own ⟨uU,qX,uZ⟩ (eSl (eInt .i64)).z va :: Rs.own ⟨uV,qY,u_⟩ eBool.z vb :: R0) fun R=>ROs (ePair (eInt .i64) (ePair (eInt .i64) (ePair (eInt .i64) (ePair (eInt .i64) (eInt .i64))))) H R ⟨uR,qU,uW⟩ lr∧ROs (ePair (eInt .i64) (eInt .i64)) H R ⟨uS,qV,uX⟩ lu∧ROs (ePair (eInt .i64) (eInt .i64)) H R ⟨uT,qW,uY⟩ lv∧CR (eSl (eInt .i64)) H R va lw∧CR eBool H R vb lx) {r:List (List Int)} (hp:ai.pj4 F aF lr lu lv lw lx jg jh = some r):∃ v H',ai.j4 F (bg.tw F) C61_ mi 0 mj 0 ⟨uU,qX,uZ⟩ ⟨uV,qY,u_⟩ jg jh H = some (v,H')∧ai.Q H0 Ri R0  r v H':=by
 obtain ⟨w0,s0,zf,zg,zh,zi,zj⟩:=h0
 subst za
 subst zb
 subst zc
 subst zd
 subst ze
 unfold ai.pj4 at hp
 unfold ai.j4
 exact hC61 rfl rfl rfl rfl rfl ⟨w0,s0,zf,zg,zh,zi,zj⟩ hp
def ai.pj5 (F:Nat) (aF:List (Int×Int×Int×Int×Int)→List (Int×Int)→List (Int×Int)→List (List Int)→List Bool→Int→Int→Option (List (List Int))) (ly:List (Int×Int×Int×Int×Int)) (lz:List (Int×Int)) (lA:List (Int×Int)) (lB:List (List Int)) (lC:List Bool) (ji:Int) (jj:Int):Option (List (List Int)):=ai.pj4 F aF ly lz lA lB lC ji jj
theorem ai.j5_P {F:Nat} {H0:Hp} {Ri R0:List Rs}  {C61_:Nat→Nat→Nat→Nat→Sl→Sl→Int→Int→Hp→OA} {aF:List (Int×Int×Int×Int×Int)→List (Int×Int)→List (Int×Int)→List (List Int)→List Bool→Int→Int→Option (List (List Int))} (hC61:ai.S61 H0 Ri R0  C61_ aF) {vc vd ve vf vg:ON} {qZ ml q_ ra iN rb rc:Nat} {vh vi vj vk vl:Cap} {ly:List (Int×Int×Int×Int×Int)} {zk ji jj:Int} {lz lA:List (Int×Int)} {lB:List (List Int)} {vm vn:List AV} {lC:List Bool} {H:Hp} (zl:qZ = ly.length) (zm:q_ = lz.length) (zn:ra = lA.length) (zo:rb = lB.length) (zp:rc = lC.length) (h0:Out H0 Ri H (Rs.blk ml [.sl ⟨vc,qZ,vh⟩,.int .i64 zk] :: Rs.blk iN [.sl ⟨vd,q_,vi⟩,.sl ⟨ve,ra,vj⟩] :: Rs.own ⟨vf,rb,vk⟩ (eSl (eInt .i64)).z vm :: Rs.own ⟨vg,rc,vl⟩ eBool.z vn :: R0) fun R=>ROs (ePair (eInt .i64) (ePair (eInt .i64) (ePair (eInt .i64) (ePair (eInt .i64) (eInt .i64))))) H R ⟨vc,qZ,vh⟩ ly∧ROs (ePair (eInt .i64) (eInt .i64)) H R ⟨vd,q_,vi⟩ lz∧ROs (ePair (eInt .i64) (eInt .i64)) H R ⟨ve,ra,vj⟩ lA∧CR (eSl (eInt .i64)) H R vm lB∧CR eBool H R vn lC) {r:List (List Int)} (hp:ai.pj5 F aF ly lz lA lB lC ji jj = some r):∃ v H',ai.j5 F (bg.tw F) C61_ ml 0 iN 0 ⟨vf,rb,vk⟩ ⟨vg,rc,vl⟩ ji jj H = some (v,H')∧ai.Q H0 Ri R0  r v H':=by
 obtain ⟨w0,s0,zq,zr,zt,zu,zv⟩:=h0
 subst zl
 subst zm
 subst zn
 subst zo
 subst zp
 unfold ai.pj5 at hp
 unfold ai.j5
 exact ai.j4_P (@hC61) rfl rfl rfl rfl rfl ⟨w0,s0,zq,zr,zt,zu,zv⟩ hp
def ai.pj6 (F:Nat) (aF:List (Int×Int×Int×Int×Int)→List (Int×Int)→List (Int×Int)→List (List Int)→List Bool→Int→Int→Option (List (List Int))) (js:List (Int×Int×Int×Int×Int)) (jt:List (Int×Int)) (ju:List (Int×Int)) (jv:List (List Int)) (jw:List Bool) (ig:List Int) (hB:Int) (hC:Int):Option (List (List Int)):=(bif (decide ((ig.length:Int) > 0)) then ((apn jv ([ig]:List (List Int))).bind fun l3=>ai.pj5 F aF js jt ju l3 jw hB hC) else (ai.pj5 F aF js jt ju jv jw hB hC))
theorem ai.j6_P {F:Nat} {H0:Hp} {Ri R0:List Rs}  {C61_:Nat→Nat→Nat→Nat→Sl→Sl→Int→Int→Hp→OA} {aF:List (Int×Int×Int×Int×Int)→List (Int×Int)→List (Int×Int)→List (List Int)→List Bool→Int→Int→Option (List (List Int))} (hC61:ai.S61 H0 Ri R0  C61_ aF) {vo vp vq vr vs vt:ON} {rd jz rh ri jA rj rl rm:Nat} {vu vv vw vx vy vz:Cap} {js:List (Int×Int×Int×Int×Int)} {zw hB hC:Int} {jt ju:List (Int×Int)} {jv:List (List Int)} {vA vB vC:List AV} {jw:List Bool} {ig:List Int} {H:Hp} (zx:rd = js.length) (zy:rh = jt.length) (zz:ri = ju.length) (zA:rj = jv.length) (zB:rl = jw.length) (zC:rm = ig.length) (h0:Out H0 Ri H (Rs.blk jz [.sl ⟨vo,rd,vu⟩,.int .i64 zw] :: Rs.blk jA [.sl ⟨vp,rh,vv⟩,.sl ⟨vq,ri,vw⟩] :: Rs.own ⟨vr,rj,vx⟩ (eSl (eInt .i64)).z vA :: Rs.own ⟨vs,rl,vy⟩ eBool.z vB :: Rs.own ⟨vt,rm,vz⟩ (eInt .i64).z vC :: R0) fun R=>ROs (ePair (eInt .i64) (ePair (eInt .i64) (ePair (eInt .i64) (ePair (eInt .i64) (eInt .i64))))) H R ⟨vo,rd,vu⟩ js∧ROs (ePair (eInt .i64) (eInt .i64)) H R ⟨vp,rh,vv⟩ jt∧ROs (ePair (eInt .i64) (eInt .i64)) H R ⟨vq,ri,vw⟩ ju∧CR (eSl (eInt .i64)) H R vA jv∧CR eBool H R vB jw∧CR (eInt .i64) H R vC ig) {r:List (List Int)} (hp:ai.pj6 F aF js jt ju jv jw ig hB hC = some r):∃ v H',ai.j6 F (bg.tw F) C61_ jz 0 jA 0 ⟨vr,rj,vx⟩ ⟨vs,rl,vy⟩ ⟨vt,rm,vz⟩ hB hC H = some (v,H')∧ai.Q H0 Ri R0  r v H':=by
 obtain ⟨w0,s0,vD,vE,vF,vG,vH,zD⟩:=h0
 subst zx
 subst zy
 subst zz
 subst zA
 subst zB
 subst zC
 unfold ai.pj6 at hp
 unfold ai.j6
 refine bif_ex (fun hb=>?_) (fun hb=>?_)
 ·replace hp:=bif_t hb hp
  obtain ⟨w1,s1,f1⟩:=w0.frz (i:=4) (eInt .i64) rfl zD
  dsimp only [List.eraseIdx] at w1 s1 f1
  refine newS_k (eSl (eInt .i64)) w1 (n:=1) (l:=([ig]:List (List Int))) rfl (CR.cons1 ⟨_,rfl,f1⟩ CR.empty) rfl fun H2 w2 s2 c2=>?_
  refine bind_ex (w2.rowo (i:=0) rfl) ?_
  obtain ⟨l3,e3,hp⟩:=bind_some' hp
  refine app_k (eSl (eInt .i64)) w2 (i:=3) rfl rfl (vG.step (s1.trans s2)) c2 (show 1 = List.length ([ig]:List (List Int)) from rfl) rfl e3 fun a4 d4 H4 w4 s4 c4 x4=>?_
  dsimp only [List.set] at w4 s4 c4
  obtain ⟨w5,s5⟩:=w4.pick' [1,2,3,4] 5 rfl rfl rfl
  dsimp only [pk,pks,nth,List.drop] at w5 s5
  exact ai.j5_P (@hC61) rfl rfl rfl rfl rfl ⟨w5,(s0.trans (s1.trans (s2.trans (s4.trans s5)))),(vD.step (s1.trans (s2.trans (s4.trans s5)))),(vE.step (s1.trans (s2.trans (s4.trans s5)))),(vF.step (s1.trans (s2.trans (s4.trans s5)))),(c4.step s5),(vH.step (s1.trans (s2.trans (s4.trans s5))))⟩ hp
 ·replace hp:=bif_f hb hp
  obtain ⟨w6,s6⟩:=w0.pick' [0,1,2,3] 5 rfl rfl rfl
  dsimp only [pk,pks,nth,List.drop] at w6 s6
  exact ai.j5_P (@hC61) rfl rfl rfl rfl rfl ⟨w6,(s0.trans s6),(vD.step s6),(vE.step s6),(vF.step s6),(vG.step s6),(vH.step s6)⟩ hp
def ai.pl15725 (F:Nat) (aF:List (Int×Int×Int×Int×Int)→List (Int×Int)→List (Int×Int)→List (List Int)→List Bool→Int→Int→Option (List (List Int))):Nat→List (Int×Int×Int×Int×Int)→List (Int×Int)→List (Int×Int)→List (List Int)→List Bool→Int→Int→List Int→Int→Option (List (List Int))
 | 0,_,_,_,_,_,_,_,_,_=>none
 | k + 1,gS,gT,gU,ic,gx,dQ,ei,ie,co=>(ix gx co).bind fun n1=>(bif (!(gt gx n1)) then ((ix gx co).bind fun n2=>(some (gx.set n2 true)).bind fun l3=>(apn ie ([co]:List Int)).bind fun l6=>(bg.p F gS gT gU (IntKind.i64.wrap (Int.tdiv co 4)) (Int.tmod (IntKind.i64.wrap (co + 1)) 4)).bind fun r8=>ai.pl15725 F aF k gS gT gU ic l3 dQ ei l6 (IntKind.i64.wrap ((IntKind.i64.wrap (4 * r8.1)) + r8.2))) else (ai.pj6 F aF gS gT gU ic gx ie dQ ei))
termination_by structural n=>n
theorem ai.l15725_P {F:Nat} {H0:Hp} {Ri R0:List Rs}  {C61_:Nat→Nat→Nat→Nat→Sl→Sl→Int→Int→Hp→OA} {aF:List (Int×Int×Int×Int×Int)→List (Int×Int)→List (Int×Int)→List (List Int)→List Bool→Int→Int→Option (List (List Int))} (hC61:ai.S61 H0 Ri R0  C61_ aF):∀ k,ai.S15725 H0 Ri R0  (ai.l15725 F (bg.tw F) C61_ k) (ai.pl15725 F aF k):=by
 intro k
 induction k with
 | zero=>
  intro oZ o_ pa pb pc pd lk cM ll lm cW ln lp lq pe pf pg ph pi pj gS qT dQ ei co gT gU ic pl pm po gx ie H vI vJ vK vL vM vN h0 r hp
  exact nomatch (show (none:Option (List (List Int))) = some r from hp)
 | succ k ih=>
  intro oZ o_ pa pb pc pd lk cM ll lm cW ln lp lq pe pf pg ph pi pj gS qT dQ ei co gT gU ic pl pm po gx ie H vI vJ vK vL vM vN h0 r hp
  obtain ⟨w0,s0,rn,ro,rp,vO,pp,vP⟩:=h0
  subst vI
  subst vJ
  subst vK
  subst vL
  subst vM
  subst vN
  unfold ai.pl15725 at hp
  unfold ai.l15725
  obtain ⟨n1,g1,hp⟩:=bind_some' hp
  obtain ⟨p1,q1,i1,h1,j1⟩:=W.ixo (E:=eBool) w0 (i:=3) rfl rfl pp g1
  refine bind_ex i1 ?_
  have h1:_ = [_]:=h1
  subst h1
  refine bind_ex (ldB_of (j1 0 _ rfl)) ?_
  refine bif_ex (fun hb=>?_) (fun hb=>?_)
  ·replace hp:=bif_t hb hp
   obtain ⟨n2,g2,hp⟩:=bind_some' hp
   obtain ⟨p2,q2,i2,h2,j2⟩:=W.ixo (E:=eBool) w0 (i:=3) rfl rfl pp g2
   refine bind_ex i2 ?_
   obtain ⟨l3,e3,hp⟩:=bind_some' hp
   refine sto_k eBool w0 (i:=3) (j:=0) (p:=p2) rfl rfl pp g2 i2 e3 rfl rfl (fun _ h=>by have h:_ = [_]:=h; subst h; exact rfl) fun H4 k4 w4 s4 c4=>?_
   dsimp only [List.set] at w4 s4 c4
   refine newS_k (eInt .i64) w4 (n:=1) (l:=([co]:List Int)) rfl (CR.cons1 rfl CR.empty) rfl fun H5 w5 s5 c5=>?_
   refine bind_ex (w5.rowo (i:=0) rfl) ?_
   obtain ⟨l6,e6,hp⟩:=bind_some' hp
   refine app_k (eInt .i64) w5 (i:=5) rfl rfl (vP.step (s4.trans s5)) c5 (show 1 = List.length ([co]:List Int) from rfl) rfl e6 fun a7 d7 H7 w7 s7 c7 x7=>?_
   dsimp only [List.set] at w7 s7 c7
   refine bind_ex (ldSl_of (w7.ld (i:=1) rfl rfl)) ?_
   refine bind_ex (ldI_of (w7.ld (i:=1) rfl rfl)) ?_
   refine bind_ex (ldSl_of (w7.ld (i:=2) rfl rfl)) ?_
   refine bind_ex (ldSl_of (w7.ld (i:=2) rfl rfl)) ?_
   obtain ⟨r8,e8,hp⟩:=bind_some' hp
   refine call_ex (bg.P rfl rfl rfl ⟨w7,(rn.step (s4.trans (s5.trans s7))),(ro.step (s4.trans (s5.trans s7))),(rp.step (s4.trans (s5.trans s7)))⟩ e8) ?_
   rintro _ H9 ⟨rfl,w9,s9,_⟩
   refine bind_ex rfl ?_
   refine bind_ex rfl ?_
   refine bind_ex rfl ?_
   refine bind_ex rfl ?_
   refine bind_ex rfl ?_
   refine new_k w9 fun H10 w10 s10=>?_
   refine st_k w10 (i:=0) rfl rfl rfl fun H11 w11 s11=>?_
   dsimp only [List.set] at w11 s11
   refine st_k w11 (i:=0) rfl rfl rfl fun H12 w12 s12=>?_
   dsimp only [List.set] at w12 s12
   refine bind_ex (ldI_of (w12.ld (i:=0) rfl rfl)) ?_
   refine bind_ex (ldI_of (w12.ld (i:=0) rfl rfl)) ?_
   obtain ⟨w13,s13⟩:=w12.pick' [2,3,4,5,6] 7 rfl rfl rfl
   dsimp only [pk,pks,nth,List.drop] at w13 s13
   exact ih rfl rfl rfl rfl ((st_len e3).symm) rfl ⟨w13,(s0.trans (s4.trans (s5.trans (s7.trans (s9.trans (s10.trans (s11.trans (s12.trans s13)))))))),(rn.step (s4.trans (s5.trans (s7.trans (s9.trans (s10.trans (s11.trans (s12.trans s13)))))))),(ro.step (s4.trans (s5.trans (s7.trans (s9.trans (s10.trans (s11.trans (s12.trans s13)))))))),(rp.step (s4.trans (s5.trans (s7.trans (s9.trans (s10.trans (s11.trans (s12.trans s13)))))))),(vO.step (s4.trans (s5.trans (s7.trans (s9.trans (s10.trans (s11.trans (s12.trans s13)))))))),(c4.step (s5.trans (s7.trans (s9.trans (s10.trans (s11.trans (s12.trans s13))))))),(c7.step (s9.trans (s10.trans (s11.trans (s12.trans s13)))))⟩ hp
  ·replace hp:=bif_f hb hp
   exact ai.j6_P (@hC61) rfl rfl rfl rfl rfl rfl ⟨w0,s0,rn,ro,rp,vO,pp,vP⟩ hp
def ai.pl61 (F:Nat) :Nat→List (Int×Int×Int×Int×Int)→List (Int×Int)→List (Int×Int)→List (List Int)→List Bool→Int→Int→Option (List (List Int))
 | 0,_,_,_,_,_,_,_=>none
 | k + 1,iv,iw,iy,ib,iz,dS,dI=>(bif (decide (dI < dS)) then (ai.pl15725 F (ai.pl61 F k) F iv iw iy ib iz dS dI ([]:List Int) dI) else (some ib))
termination_by structural n=>n
theorem ai.l61_P {F:Nat} {H0:Hp} {Ri R0:List Rs}  :∀ k,ai.S61 H0 Ri R0  (ai.l61 F (bg.tw F)  k) (ai.pl61 F  k):=by
 intro k
 induction k with
 | zero=>
  intro oN oO oP oQ oR lc dR lf lg ej li lj oS oT oU oV oW iv qS dS dI iw iy ib oX oY iz H vQ vR vS vT vU h0 r hp
  exact nomatch (show (none:Option (List (List Int))) = some r from hp)
 | succ k ih=>
  intro oN oO oP oQ oR lc dR lf lg ej li lj oS oT oU oV oW iv qS dS dI iw iy ib oX oY iz H vQ vR vS vT vU h0 r hp
  obtain ⟨w0,s0,zE,zF,zG,vV,zH⟩:=h0
  subst vQ
  subst vR
  subst vS
  subst vT
  subst vU
  unfold ai.pl61 at hp
  unfold ai.l61
  refine bif_ex (fun hb=>?_) (fun hb=>?_)
  ·replace hp:=bif_t hb hp
   obtain ⟨w1,s1⟩:=w0.nilS (eInt .i64).z (by decide)
   obtain ⟨w2,s2⟩:=w1.pick' [1,2,3,4,0] 5 rfl rfl rfl
   dsimp only [pk,pks,nth,List.drop] at w2 s2
   exact ai.l15725_P (@ih) F rfl rfl rfl rfl rfl rfl ⟨w2,(s0.trans (s1.trans s2)),(zE.step (s1.trans s2)),(zF.step (s1.trans s2)),(zG.step (s1.trans s2)),(vV.step (s1.trans s2)),(zH.step (s1.trans s2)),((CR.empty:CR (eInt .i64) _ _ [] []).step s2)⟩ hp
  ·replace hp:=bif_f hb hp
   obtain ⟨w3,s3⟩:=w0.pick' [2] 4 rfl rfl rfl
   dsimp only [pk,pks,nth,List.drop] at w3 s3
   obtain rfl:=Option.some.inj hp
   exact ⟨_,_,rfl,_,_,_,_,rfl,rfl,w3,(s0.trans s3),(vV.step s3)⟩
def ai.p (F:Nat) (ac:List (Int×Int×Int×Int×Int)) (cD:List (Int×Int)) (ec:List (Int×Int)):Option (List (List Int)):=(mkn (IntKind.i64.wrap (4 * (ac.length:Int))) false).bind fun l3=>ai.pl61 F F ac cD ec ([]:List (List Int)) l3 (l3.length:Int) 0
theorem ai.P {F:Nat} {ap gu h_:ON} {ag eV gv:Nat} {aq gw ia:Cap} {ac:List (Int×Int×Int×Int×Int)} {ab:Int} {cD ec:List (Int×Int)} {H:Hp} {R0:List Rs} (aV:ag = ac.length) (ir:eV = cD.length) (la:gv = ec.length) (h0:Inn H R0 fun R=>ROs (ePair (eInt .i64) (ePair (eInt .i64) (ePair (eInt .i64) (ePair (eInt .i64) (eInt .i64))))) H R ⟨ap,ag,aq⟩ ac∧ROs (ePair (eInt .i64) (eInt .i64)) H R ⟨gu,eV,gw⟩ cD∧ROs (ePair (eInt .i64) (eInt .i64)) H R ⟨h_,gv,ia⟩ ec) {r:List (List Int)} (hp:ai.p F ac cD ec = some r):∃ v H',ai.tw F ⟨ap,ag,aq⟩ ab ⟨gu,eV,gw⟩ ⟨h_,gv,ia⟩ H = some (v,H')∧ai.Q H R0 R0  r v H':=by
 obtain ⟨w0,aQ,iu,lb⟩:=h0
 subst aV
 subst ir
 subst la
 unfold ai.p at hp
 unfold ai.tw ai.twX
 have s0:=w0.rf
 refine new_k w0 fun H1 w1 s1=>?_
 refine new_k w1 fun H2 w2 s2=>?_
 refine bind_ex (ldSl_of (w2.ld (i:=1) rfl rfl)) ?_
 obtain ⟨l3,e3,hp⟩:=bind_some' hp
 refine mk_k eBool false w2 rfl rfl rfl e3 fun H4 k4 w4 s4 c4=>?_
 obtain ⟨w5,s5⟩:=w4.nilS (eSl (eInt .i64)).z (by decide)
 obtain ⟨w6,s6⟩:=w5.pick' [3,2,0,1] 4 rfl rfl rfl
 dsimp only [pk,pks,nth,List.drop] at w6 s6
 exact ai.l61_P F rfl rfl rfl rfl rfl ⟨w6,(s0.trans (s1.trans (s2.trans (s4.trans (s5.trans s6))))),(aQ.step (s1.trans (s2.trans (s4.trans (s5.trans s6))))),(iu.step (s1.trans (s2.trans (s4.trans (s5.trans s6))))),(lb.step (s1.trans (s2.trans (s4.trans (s5.trans s6))))),((CR.empty:CR (eSl (eInt .i64)) _ _ [] []).step s6),(c4.step (s5.trans s6))⟩ hp
def bx.Q (H0:Hp) (Ri R0:List Rs)  (r:Int) (v:AV) (H':Hp):Prop:=v = (.int .i64 r)∧Out H0 Ri H' (R0) fun R=>True
def bx.p (F:Nat) (ac:List (List Int)):Option (Int):=some (ac.length:Int)
theorem bx.P {F:Nat} {ap:ON} {ag:Nat} {aq:Cap} {ac:List (List Int)} {H:Hp} {R0:List Rs} (aV:ag = ac.length) (h0:Inn H R0 fun R=>ROs (eSl (eInt .i64)) H R ⟨ap,ag,aq⟩ ac) {r:Int} (hp:bx.p F ac = some r):∃ v H',bx.tw F ⟨ap,ag,aq⟩ H = some (v,H')∧bx.Q H R0 R0  r v H':=by
 obtain ⟨w0,aQ⟩:=h0
 subst aV
 unfold bx.p at hp
 unfold bx.tw bx.twX
 have s0:=w0.rf
 obtain rfl:=Option.some.inj hp
 exact ⟨_,_,rfl,rfl,w0,s0,trivial⟩
def aA.Q (H0:Hp) (Ri R0:List Rs)  (r:List Int) (v:AV) (H':Hp):Prop:=∃ o0a:ON,∃ o0n:Nat,∃ o0c:Cap,∃ o0k:List AV,v = (.sl ⟨o0a,o0n,o0c⟩)∧o0n = (r).length∧Out H0 Ri H' (Rs.own ⟨o0a,o0n,o0c⟩ (eInt .i64).z o0k :: R0) fun R=>CR (eInt .i64) H' R o0k (r)
def aA.S29 (H0:Hp) (Ri R0:List Rs)  (C:Sl→Int→Int→Hp→OA) (pC:List Int→Int→Int→Option (List Int)):Prop:=∀ {pq:ON} {lD:Nat} {pr:Cap} {ii:List Int} {ps:List AV} {dU du:Int},∀ {H:Hp},lD = ii.length→(Out H0 Ri H (Rs.own ⟨pq,lD,pr⟩ (eInt .i64).z ps :: R0) fun R=>CR (eInt .i64) H R ps ii)→∀ {r:List Int},pC ii dU du = some r→∃ v H',C ⟨pq,lD,pr⟩ dU du H = some (v,H')∧aA.Q H0 Ri R0  r v H'
def aA.pl29 (F:Nat) :Nat→List Int→Int→Int→Option (List Int)
 | 0,_,_,_=>none
 | k + 1,ii,dU,du=>(bif (decide (du < dU)) then ((apn ii ([du]:List Int)).bind fun l2=>aA.pl29 F k l2 dU (IntKind.i64.wrap (du + 1))) else (some ii))
termination_by structural n=>n
theorem aA.l29_P {F:Nat} {H0:Hp} {Ri R0:List Rs}  :∀ k,aA.S29 H0 Ri R0  (aA.l29 F   k) (aA.pl29 F  k):=by
 intro k
 induction k with
 | zero=>
  intro pq lD pr ii ps dU du H vW h0 r hp
  exact nomatch (show (none:Option (List Int)) = some r from hp)
 | succ k ih=>
  intro pq lD pr ii ps dU du H vW h0 r hp
  obtain ⟨w0,s0,vX⟩:=h0
  subst vW
  unfold aA.pl29 at hp
  unfold aA.l29
  refine bif_ex (fun hb=>?_) (fun hb=>?_)
  ·replace hp:=bif_t hb hp
   refine newS_k (eInt .i64) w0 (n:=1) (l:=([du]:List Int)) rfl (CR.cons1 rfl CR.empty) rfl fun H1 w1 s1 c1=>?_
   refine bind_ex (w1.rowo (i:=0) rfl) ?_
   obtain ⟨l2,e2,hp⟩:=bind_some' hp
   refine app_k (eInt .i64) w1 (i:=1) rfl rfl (vX.step s1) c1 (show 1 = List.length ([du]:List Int) from rfl) rfl e2 fun a3 d3 H3 w3 s3 c3 x3=>?_
   dsimp only [List.set] at w3 s3 c3
   obtain ⟨w4,s4⟩:=w3.pick' [1] 2 rfl rfl rfl
   dsimp only [pk,pks,nth,List.drop] at w4 s4
   exact ih rfl ⟨w4,(s0.trans (s1.trans (s3.trans s4))),(c3.step s4)⟩ hp
  ·replace hp:=bif_f hb hp
   obtain rfl:=Option.some.inj hp
   exact ⟨_,_,rfl,_,_,_,_,rfl,rfl,w0,s0,vX⟩
def aA.p (F:Nat) (aa:Int):Option (List Int):=aA.pl29 F F ([]:List Int) aa 0
theorem aA.P {F:Nat} {aa:Int} {H:Hp} {R0:List Rs}  (h0:Inn H R0 fun R=>True) {r:List Int} (hp:aA.p F aa = some r):∃ v H',aA.tw F aa H = some (v,H')∧aA.Q H R0 R0  r v H':=by
 obtain ⟨w0,_⟩:=h0
 unfold aA.p at hp
 unfold aA.tw aA.twX
 have s0:=w0.rf
 obtain ⟨w1,s1⟩:=w0.nilS (eInt .i64).z (by decide)
 exact aA.l29_P F rfl ⟨w1,(s0.trans s1),(CR.empty:CR (eInt .i64) _ _ [] [])⟩ hp
def av.Q (H0:Hp) (Ri R0:List Rs) (ap:ON) (ag:Nat) (aq:Cap) (cZ:Bool) (c_ da:List AV) (r:List Int) (v:AV) (H':Hp):Prop:=∃ gy:List AV,v = (.tup [])∧ag = (r).length∧Out H0 Ri H' (Rs.ow cZ ⟨ap,ag,aq⟩ (eInt .i64).z c_ gy da :: R0) fun R=>CR (eInt .i64) H' R gy (r)
def av.S7 (H0:Hp) (Ri R0:List Rs) (cP:ON) (cp:Nat) (cQ:Cap) (eo:Bool) (ep er:List AV) (C:Sl→Int→Int→Sl→Int→Int→Hp→OA) (pC:List Int→Int→Int→Int→Int→Option (List Int)):Prop:=∀ {cR:List Int} {pt:List AV} {cN cX dB cO:Int},∀ {H:Hp},cp = cR.length→(Out H0 Ri H (Rs.ow eo ⟨cP,cp,cQ⟩ (eInt .i64).z ep pt er :: R0) fun R=>CR (eInt .i64) H R pt cR)→∀ {r:List Int},pC cR cN cX dB cO = some r→∃ v H',C ⟨cP,cp,cQ⟩ cN cX ⟨cP,cp,cQ⟩ dB cO H = some (v,H')∧av.Q H0 Ri R0 cP cp cQ eo ep er r v H'
def av.pj2 (F:Nat) (pu:List Int→Int→Int→Int→Int→Option (List Int)) (lE:List Int) (jk:Int) (jl:Int) (jm:Int) (jn:Int):Option (List Int):=pu lE jk jl jm (IntKind.i64.wrap (jn + 1))
theorem av.j2_P {F:Nat} {H0:Hp} {Ri R0:List Rs} {cP:ON} {cp:Nat} {cQ:Cap} {eo:Bool} {ep er:List AV} {C7_:Sl→Int→Int→Sl→Int→Int→Hp→OA} {pu:List Int→Int→Int→Int→Int→Option (List Int)} (hC7:av.S7 H0 Ri R0 cP cp cQ eo ep er C7_ pu) {lE:List Int} {vY:List AV} {jk jl jm jn:Int} {H:Hp} (zI:cp = lE.length) (h0:Out H0 Ri H (Rs.ow eo ⟨cP,cp,cQ⟩ (eInt .i64).z ep vY er :: R0) fun R=>CR (eInt .i64) H R vY lE) {r:List Int} (hp:av.pj2 F pu lE jk jl jm jn = some r):∃ v H',av.j2 F  C7_ ⟨cP,cp,cQ⟩ jk jl ⟨cP,cp,cQ⟩ jm jn H = some (v,H')∧av.Q H0 Ri R0 cP cp cQ eo ep er r v H':=by
 obtain ⟨w0,s0,zJ⟩:=h0
 subst zI
 unfold av.pj2 at hp
 unfold av.j2
 exact hC7 rfl ⟨w0,s0,zJ⟩ hp
def av.pl7 (F:Nat) :Nat→List Int→Int→Int→Int→Int→Option (List Int)
 | 0,_,_,_,_,_=>none
 | k + 1,cR,cN,cX,dB,cO=>(bif (decide (cO < dB)) then ((ix cR cO).bind fun n1=>(bif ((gt cR n1) == cN) then ((ix cR cO).bind fun n2=>(some (cR.set n2 cX)).bind fun l3=>av.pj2 F (av.pl7 F k) l3 cN cX dB cO) else (av.pj2 F (av.pl7 F k) cR cN cX dB cO))) else (some cR))
termination_by structural n=>n
theorem av.l7_P {F:Nat} {H0:Hp} {Ri R0:List Rs} {cP:ON} {cp:Nat} {cQ:Cap} {eo:Bool} {ep er:List AV} :∀ k,av.S7 H0 Ri R0 cP cp cQ eo ep er (av.l7 F   k) (av.pl7 F  k):=by
 intro k
 induction k with
 | zero=>
  intro cR pt cN cX dB cO H lF h0 r hp
  exact nomatch (show (none:Option (List Int)) = some r from hp)
 | succ k ih=>
  intro cR pt cN cX dB cO H lF h0 r hp
  obtain ⟨w0,s0,ij⟩:=h0
  subst lF
  unfold av.pl7 at hp
  unfold av.l7
  refine bif_ex (fun hb=>?_) (fun hb=>?_)
  ·replace hp:=bif_t hb hp
   obtain ⟨n1,g1,hp⟩:=bind_some' hp
   obtain ⟨p1,q1,i1,h1,j1⟩:=W.ixo (E:=(eInt .i64)) w0 (i:=0) rfl rfl ij g1
   refine bind_ex i1 ?_
   have h1:_ = [_]:=h1
   subst h1
   refine bind_ex (ldI_of (j1 0 _ rfl)) ?_
   refine bif_ex (fun hb=>?_) (fun hb=>?_)
   ·replace hp:=bif_t hb hp
    obtain ⟨n2,g2,hp⟩:=bind_some' hp
    obtain ⟨p2,q2,i2,h2,j2⟩:=W.ixo (E:=(eInt .i64)) w0 (i:=0) rfl rfl ij g2
    refine bind_ex i2 ?_
    obtain ⟨l3,e3,hp⟩:=bind_some' hp
    refine sto_k (eInt .i64) w0 (i:=0) (j:=0) (p:=p2) rfl rfl ij g2 i2 e3 rfl rfl (fun _ h=>by have h:_ = [_]:=h; subst h; exact rfl) fun H4 k4 w4 s4 c4=>?_
    dsimp only [List.set] at w4 s4 c4
    exact av.j2_P (@ih) ((st_len e3).symm) ⟨w4,(s0.trans s4),c4⟩ hp
   ·replace hp:=bif_f hb hp
    exact av.j2_P (@ih) rfl ⟨w0,s0,ij⟩ hp
  ·replace hp:=bif_f hb hp
   obtain rfl:=Option.some.inj hp
   exact ⟨_,_,rfl,_,rfl,rfl,w0,s0,ij⟩
def av.p (F:Nat) (ac:List Int) (ae:Int) (bC:Int):Option (List Int):=(ix ac bC).bind fun n1=>(ix ac ae).bind fun n2=>av.pl7 F F ac (gt ac n1) (gt ac n2) (ac.length:Int) 0
theorem av.P {F:Nat} {ap:ON} {ag:Nat} {aq:Cap} {ac:List Int} {cZ:Bool} {c_ da eW:List AV} {ae bC:Int} {H:Hp} {R0:List Rs} (aV:ag = ac.length) (h0:Inn H (Rs.ow cZ ⟨ap,ag,aq⟩ (eInt .i64).z c_ eW da :: R0) fun R=>CR (eInt .i64) H R eW ac) {r:List Int} (hp:av.p F ac ae bC = some r):∃ v H',av.tw F ⟨ap,ag,aq⟩ ae bC H = some (v,H')∧av.Q H (Rs.ow cZ ⟨ap,ag,aq⟩ (eInt .i64).z c_ eW da :: R0) R0 ap ag aq cZ c_ da r v H':=by
 obtain ⟨w0,aQ⟩:=h0
 subst aV
 unfold av.p at hp
 unfold av.tw av.twX
 have s0:=w0.rf
 obtain ⟨n1,g1,hp⟩:=bind_some' hp
 obtain ⟨p1,q1,i1,h1,j1⟩:=W.ixo (E:=(eInt .i64)) w0 (i:=0) rfl rfl aQ g1
 refine bind_ex i1 ?_
 have h1:_ = [_]:=h1
 subst h1
 refine bind_ex (ldI_of (j1 0 _ rfl)) ?_
 obtain ⟨n2,g2,hp⟩:=bind_some' hp
 obtain ⟨p2,q2,i2,h2,j2⟩:=W.ixo (E:=(eInt .i64)) w0 (i:=0) rfl rfl aQ g2
 refine bind_ex i2 ?_
 have h2:_ = [_]:=h2
 subst h2
 refine bind_ex (ldI_of (j2 0 _ rfl)) ?_
 exact av.l7_P F rfl ⟨w0,s0,aQ⟩ hp
def bN.Q (H0:Hp) (Ri R0:List Rs)  (r:List Int) (v:AV) (H':Hp):Prop:=∃ o0a:ON,∃ o0n:Nat,∃ o0c:Cap,∃ o0k:List AV,v = (.sl ⟨o0a,o0n,o0c⟩)∧o0n = (r).length∧Out H0 Ri H' (Rs.own ⟨o0a,o0n,o0c⟩ (eInt .i64).z o0k :: R0) fun R=>CR (eInt .i64) H' R o0k (r)
def bN.p (F:Nat) (ac:List Int):Option (List Int):=(if ac.length ≤ 4294967296∧wfs ac = true then some (nums ac) else none)
theorem bN.P {F:Nat} {ap:ON} {ag:Nat} {aq:Cap} {ac:List Int} {H:Hp} {R0:List Rs} (aV:ag = ac.length) (h0:Inn H R0 fun R=>ROs (eInt .i64) H R ⟨ap,ag,aq⟩ ac) {r:List Int} (hp:bN.p F ac = some r):∃ v H',bN.tw F ⟨ap,ag,aq⟩ H = some (v,H')∧bN.Q H R0 R0  r v H':=by
 obtain ⟨w0,f0⟩:=h0
 subst aV
 unfold bN.p at hp
 unfold bN.tw numTw
 have s0:=w0.rf
 obtain ⟨hc,hp⟩:=ifs_p hp
 have hp:=Option.some.inj hp
 obtain ⟨xs,hx,cx⟩:=f0.row rfl
 refine bind_ex hx ?_
 obtain rfl:=cx.ints_eq
 refine bind_ex (asInts_map _) ?_
 refine ifs_ex hc ?_
 by_cases hz:ac.length = 0
 ·rw [if_pos hz]
  obtain ⟨w1,s1⟩:=w0.nilS (eInt .i64).z (by decide)
  obtain rfl:r = []:=List.length_eq_zero_iff.1 (by rw [← hp,nums_len,hz])
  exact ⟨_,_,rfl,none,0,.ex 0,[],rfl,rfl,w1,s0.trans s1,CR.empty⟩
 ·rw [if_neg hz]
  obtain ⟨H2,e2,w2,s2⟩:=w0.newF ((nums ac).map (AV.int .i64)) ac.length (eInt .i64).z (by rw [List.length_map,nums_len]; exact (Nat.mul_one _).symm) (by decide)
  subst e2
  subst hp
  exact ⟨_,_,rfl,some (_,0),_,.full 1,_,rfl,(nums_len _).symm,w2,s0.trans s2,CR.ints _ _ _ _⟩
def aH.Q (H0:Hp) (Ri R0:List Rs)  (r:List Int) (v:AV) (H':Hp):Prop:=∃ o0a:ON,∃ o0n:Nat,∃ o0c:Cap,∃ o0k:List AV,v = (.sl ⟨o0a,o0n,o0c⟩)∧o0n = (r).length∧Out H0 Ri H' (Rs.own ⟨o0a,o0n,o0c⟩ (eInt .i64).z o0k :: R0) fun R=>CR (eInt .i64) H' R o0k (r)
def aH.S29 (H0:Hp) (Ri R0:List Rs)  (C:Nat→Nat→Sl→Sl→Int→Int→Hp→OA) (pC:List (Int×Int)→List (Int×Int)→List Int→Int→Int→Option (List Int)):Prop:=∀ {lG pv pw:ON} {jx lH dV lI:Nat} {lJ px py:Cap} {gV gW:List (Int×Int)} {ik:List Int} {pz:List AV} {dW dv:Int},∀ {H:Hp},jx = gV.length→lH = gW.length→lI = ik.length→(Out H0 Ri H (Rs.blk dV [.sl ⟨lG,jx,lJ⟩,.sl ⟨pv,lH,px⟩] :: Rs.own ⟨pw,lI,py⟩ (eInt .i64).z pz :: R0) fun R=>ROs (ePair (eInt .i64) (eInt .i64)) H R ⟨lG,jx,lJ⟩ gV∧ROs (ePair (eInt .i64) (eInt .i64)) H R ⟨pv,lH,px⟩ gW∧CR (eInt .i64) H R pz ik)→∀ {r:List Int},pC gV gW ik dW dv = some r→∃ v H',C dV 0 ⟨pw,lI,py⟩ ⟨lG,jx,lJ⟩ dW dv H = some (v,H')∧aH.Q H0 Ri R0  r v H'
def aH.pl29 (F:Nat) :Nat→List (Int×Int)→List (Int×Int)→List Int→Int→Int→Option (List Int)
 | 0,_,_,_,_,_=>none
 | k + 1,gV,gW,ik,dW,dv=>(bif (decide (dv < dW)) then ((ix gV dv).bind fun n1=>(ix gW dv).bind fun n5=>(av.p F ik ((gt gV n1).1) ((gt gW n5).1)).bind fun r7=>aH.pl29 F k gV gW r7 dW (IntKind.i64.wrap (dv + 1))) else ((bN.p F ik).bind fun r12=>some r12))
termination_by structural n=>n
theorem aH.l29_P {F:Nat} {H0:Hp} {Ri R0:List Rs}  :∀ k,aH.S29 H0 Ri R0  (aH.l29 F (aP.tw F) (aA.tw F) (av.tw F) (bN.tw F)  k) (aH.pl29 F  k):=by
 intro k
 induction k with
 | zero=>
  intro lG pv pw jx lH dV lI lJ px py gV gW ik pz dW dv H vZ v_ wa h0 r hp
  exact nomatch (show (none:Option (List Int)) = some r from hp)
 | succ k ih=>
  intro lG pv pw jx lH dV lI lJ px py gV gW ik pz dW dv H vZ v_ wa h0 r hp
  obtain ⟨w0,s0,wb,wc,wd⟩:=h0
  subst vZ
  subst v_
  subst wa
  unfold aH.pl29 at hp
  unfold aH.l29
  refine bif_ex (fun hb=>?_) (fun hb=>?_)
  ·replace hp:=bif_t hb hp
   obtain ⟨n1,g1,hp⟩:=bind_some' hp
   obtain ⟨p1,q1,i1,h1,j1⟩:=ROs.ixr wb rfl g1
   refine bind_ex i1 ?_
   obtain ⟨_,_,rfl,rfl,rfl⟩:=h1
   refine bind_ex (ldI_of (j1 0 _ rfl)) ?_
   refine bind_ex (ldI_of (j1 1 _ rfl)) ?_
   refine new_k w0 fun H2 w2 s2=>?_
   refine st_k w2 (i:=0) rfl rfl rfl fun H3 w3 s3=>?_
   dsimp only [List.set] at w3 s3
   refine st_k w3 (i:=0) rfl rfl rfl fun H4 w4 s4=>?_
   dsimp only [List.set] at w4 s4
   refine bind_ex (ldI_of (w4.ld (i:=0) rfl rfl)) ?_
   refine bind_ex (ldSl_of (w4.ld (i:=1) rfl rfl)) ?_
   obtain ⟨n5,g5,hp⟩:=bind_some' hp
   obtain ⟨p5,q5,i5,h5,j5⟩:=ROs.ixr (wc.step (s2.trans (s3.trans s4))) rfl g5
   refine bind_ex i5 ?_
   obtain ⟨_,_,rfl,rfl,rfl⟩:=h5
   refine bind_ex (ldI_of (j5 0 _ rfl)) ?_
   obtain ⟨w6,s6⟩:=w4.pick' [2,0,1] 3 rfl rfl rfl
   dsimp only [pk,pks,nth,List.drop] at w6 s6
   obtain ⟨r7,e7,hp⟩:=bind_some' hp
   refine call_ex (av.P rfl ⟨w6,(wd.step (s2.trans (s3.trans (s4.trans s6))))⟩ e7) ?_
   rintro _ H8 ⟨zR,rfl,hl8_0,w8,s8,f8_0⟩
   obtain ⟨w9,s9⟩:=w8.pick' [2,0] 3 rfl rfl rfl
   dsimp only [pk,pks,nth,List.drop] at w9 s9
   exact ih rfl rfl hl8_0 ⟨w9,(s0.trans (s2.trans (s3.trans (s4.trans (s6.trans (s8.trans s9)))))),(wb.step (s2.trans (s3.trans (s4.trans (s6.trans (s8.trans s9)))))),(wc.step (s2.trans (s3.trans (s4.trans (s6.trans (s8.trans s9)))))),(f8_0.step s9)⟩ hp
  ·replace hp:=bif_f hb hp
   obtain ⟨w10,s10⟩:=w0.pick' [1,0] 2 rfl rfl rfl
   dsimp only [pk,pks,nth,List.drop] at w10 s10
   have f11:=W.borrow1 (eInt .i64) w10 (wd.step s10)
   obtain ⟨w11,s11⟩:=w10.right1
   obtain ⟨r12,e12,hp⟩:=bind_some' hp
   refine call_ex (bN.P rfl ⟨w11,f11⟩ e12) ?_
   rintro _ H13 ⟨o0a_13,o0n_13,o0c_13,o0k_13,rfl,rfl,w13,s13,f13_0⟩
   obtain ⟨w14,s14⟩:=W.frame1 w10 w13 s13
   refine bind_ex rfl ?_
   obtain ⟨w15,s15⟩:=w14.pick' [1] 3 rfl rfl rfl
   dsimp only [pk,pks,nth,List.drop] at w15 s15
   obtain rfl:=Option.some.inj hp
   exact ⟨_,_,rfl,_,_,_,_,rfl,rfl,w15,(s0.trans (s10.trans (s14.trans s15))),((CR.flat (eInt_flat .i64) f13_0).step s15)⟩
def aH.p (F:Nat) (ac:List (Int×Int×Int×Int×Int)) (cD:List (Int×Int)) (ec:List (Int×Int)):Option (List Int):=(aP.p F ac).bind fun r3=>(aA.p F r3).bind fun r5=>aH.pl29 F F cD ec r5 (cD.length:Int) 0
theorem aH.P {F:Nat} {ap gu h_:ON} {ag eV gv:Nat} {aq gw ia:Cap} {ac:List (Int×Int×Int×Int×Int)} {ab:Int} {cD ec:List (Int×Int)} {H:Hp} {R0:List Rs} (aV:ag = ac.length) (ir:eV = cD.length) (la:gv = ec.length) (h0:Inn H R0 fun R=>ROs (ePair (eInt .i64) (ePair (eInt .i64) (ePair (eInt .i64) (ePair (eInt .i64) (eInt .i64))))) H R ⟨ap,ag,aq⟩ ac∧ROs (ePair (eInt .i64) (eInt .i64)) H R ⟨gu,eV,gw⟩ cD∧ROs (ePair (eInt .i64) (eInt .i64)) H R ⟨h_,gv,ia⟩ ec) {r:List Int} (hp:aH.p F ac cD ec = some r):∃ v H',aH.tw F ⟨ap,ag,aq⟩ ab ⟨gu,eV,gw⟩ ⟨h_,gv,ia⟩ H = some (v,H')∧aH.Q H R0 R0  r v H':=by
 obtain ⟨w0,aQ,iu,lb⟩:=h0
 subst aV
 subst ir
 subst la
 unfold aH.p at hp
 unfold aH.tw aH.twX
 have s0:=w0.rf
 refine new_k w0 fun H1 w1 s1=>?_
 refine new_k w1 fun H2 w2 s2=>?_
 refine bind_ex (ldSl_of (w2.ld (i:=1) rfl rfl)) ?_
 obtain ⟨r3,e3,hp⟩:=bind_some' hp
 refine call_ex (aP.P rfl ⟨w2,(aQ.step (s1.trans s2))⟩ e3) ?_
 rintro _ H4 ⟨rfl,w4,s4,_⟩
 refine bind_ex rfl ?_
 obtain ⟨r5,e5,hp⟩:=bind_some' hp
 refine call_ex (aA.P ⟨w4,trivial⟩ e5) ?_
 rintro _ H6 ⟨o0a_6,o0n_6,o0c_6,o0k_6,rfl,rfl,w6,s6,f6_0⟩
 refine bind_ex rfl ?_
 refine bind_ex (ldSl_of (w6.ld (i:=1) rfl rfl)) ?_
 obtain ⟨w7,s7⟩:=w6.pick' [1,0] 3 rfl rfl rfl
 dsimp only [pk,pks,nth,List.drop] at w7 s7
 exact aH.l29_P F rfl rfl rfl ⟨w7,(s0.trans (s1.trans (s2.trans (s4.trans (s6.trans s7))))),(iu.step (s1.trans (s2.trans (s4.trans (s6.trans s7))))),(lb.step (s1.trans (s2.trans (s4.trans (s6.trans s7))))),(f6_0.step s7)⟩ hp
def aB.Q (H0:Hp) (Ri R0:List Rs)  (r:Int) (v:AV) (H':Hp):Prop:=v = (.int .i64 r)∧Out H0 Ri H' (R0) fun R=>True
def aB.S61 (H0:Hp) (Ri R0:List Rs)  (C:Sl→Int→Int→Hp→OA) (pC:List Int→Int→Int→Option (Int)):Prop:=∀ {pA:ON} {lK:Nat} {pB:Cap} {cR:List Int} {b_ dJ:Int},∀ {H:Hp},lK = cR.length→(Out H0 Ri H R0 fun R=>ROs (eInt .i64) H R ⟨pA,lK,pB⟩ cR)→∀ {r:Int},pC cR b_ dJ = some r→∃ v H',C ⟨pA,lK,pB⟩ b_ dJ H = some (v,H')∧aB.Q H0 Ri R0  r v H'
def aB.pl61 (F:Nat) :Nat→List Int→Int→Int→Option (Int)
 | 0,_,_,_=>none
 | k + 1,cR,b_,dJ=>(bif (decide (dJ < (cR.length:Int))) then ((ix cR dJ).bind fun n1=>aB.pl61 F k cR (if (gt cR n1) > b_ then (gt cR n1) else b_) (IntKind.i64.wrap (dJ + 1))) else (some b_))
termination_by structural n=>n
theorem aB.l61_P {F:Nat} {H0:Hp} {Ri R0:List Rs}  :∀ k,aB.S61 H0 Ri R0  (aB.l61 F   k) (aB.pl61 F  k):=by
 intro k
 induction k with
 | zero=>
  intro pA lK pB cR b_ dJ H lF h0 r hp
  exact nomatch (show (none:Option (Int)) = some r from hp)
 | succ k ih=>
  intro pA lK pB cR b_ dJ H lF h0 r hp
  obtain ⟨w0,s0,ij⟩:=h0
  subst lF
  unfold aB.pl61 at hp
  unfold aB.l61
  refine bif_ex (fun hb=>?_) (fun hb=>?_)
  ·replace hp:=bif_t hb hp
   obtain ⟨n1,g1,hp⟩:=bind_some' hp
   obtain ⟨p1,q1,i1,h1,j1⟩:=ROs.ixr ij rfl g1
   refine bind_ex i1 ?_
   have h1:_ = [_]:=h1
   subst h1
   refine bind_ex (ldI_of (j1 0 _ rfl)) ?_
   exact ih rfl ⟨w0,s0,ij⟩ hp
  ·replace hp:=bif_f hb hp
   obtain rfl:=Option.some.inj hp
   exact ⟨_,_,rfl,rfl,w0,s0,trivial⟩
def aB.pj1 (F:Nat)  (iA:List Int):Option (Int):=(ix iA 0).bind fun n1=>aB.pl61 F F iA (gt iA n1) 1
theorem aB.j1_P {F:Nat} {H0:Hp} {Ri R0:List Rs}   {wg:ON} {rq:Nat} {wh:Cap} {iA:List Int} {H:Hp} (zK:rq = iA.length) (h0:Out H0 Ri H R0 fun R=>ROs (eInt .i64) H R ⟨wg,rq,wh⟩ iA) {r:Int} (hp:aB.pj1 F  iA = some r):∃ v H',aB.j1 F   ⟨wg,rq,wh⟩ H = some (v,H')∧aB.Q H0 Ri R0  r v H':=by
 obtain ⟨w0,s0,wi⟩:=h0
 subst zK
 unfold aB.pj1 at hp
 unfold aB.j1
 obtain ⟨n1,g1,hp⟩:=bind_some' hp
 obtain ⟨p1,q1,i1,h1,j1⟩:=ROs.ixr wi rfl g1
 refine bind_ex i1 ?_
 have h1:_ = [_]:=h1
 subst h1
 refine bind_ex (ldI_of (j1 0 _ rfl)) ?_
 exact aB.l61_P F rfl ⟨w0,s0,wi⟩ hp
def aB.p (F:Nat) (ac:List Int):Option (Int):=(bif (decide ((ac.length:Int) < 1)) then (none) else (aB.pj1 F ac))
theorem aB.P {F:Nat} {ap:ON} {ag:Nat} {aq:Cap} {ac:List Int} {H:Hp} {R0:List Rs} (aV:ag = ac.length) (h0:Inn H R0 fun R=>ROs (eInt .i64) H R ⟨ap,ag,aq⟩ ac) {r:Int} (hp:aB.p F ac = some r):∃ v H',aB.tw F ⟨ap,ag,aq⟩ H = some (v,H')∧aB.Q H R0 R0  r v H':=by
 obtain ⟨w0,aQ⟩:=h0
 subst aV
 unfold aB.p at hp
 unfold aB.tw aB.twX
 have s0:=w0.rf
 refine bif_ex (fun hb=>?_) (fun hb=>?_)
 ·replace hp:=bif_t hb hp
  cases hp
 ·replace hp:=bif_f hb hp
  exact aB.j1_P rfl ⟨w0,s0,aQ⟩ hp
def aX.Q (H0:Hp) (Ri R0:List Rs)  (r:Int) (v:AV) (H':Hp):Prop:=v = (.int .i64 r)∧Out H0 Ri H' (R0) fun R=>True
def aX.p (F:Nat) (ac:List Int):Option (Int):=(bif ((ac.length:Int) == 0) then (some 0) else ((aB.p F ac).bind fun r1=>some (IntKind.i64.wrap (r1 + 1))))
theorem aX.P {F:Nat} {ap:ON} {ag:Nat} {aq:Cap} {ac:List Int} {H:Hp} {R0:List Rs} (aV:ag = ac.length) (h0:Inn H R0 fun R=>ROs (eInt .i64) H R ⟨ap,ag,aq⟩ ac) {r:Int} (hp:aX.p F ac = some r):∃ v H',aX.tw F ⟨ap,ag,aq⟩ H = some (v,H')∧aX.Q H R0 R0  r v H':=by
 obtain ⟨w0,aQ⟩:=h0
 subst aV
 unfold aX.p at hp
 unfold aX.tw aX.twX
 have s0:=w0.rf
 refine bif_ex (fun hb=>?_) (fun hb=>?_)
 ·replace hp:=bif_t hb hp
  obtain rfl:=Option.some.inj hp
  exact ⟨_,_,rfl,rfl,w0,s0,trivial⟩
 ·replace hp:=bif_f hb hp
  obtain ⟨r1,e1,hp⟩:=bind_some' hp
  refine call_ex (aB.P rfl ⟨w0,aQ⟩ e1) ?_
  rintro _ H2 ⟨rfl,w2,s2,_⟩
  refine bind_ex rfl ?_
  obtain rfl:=Option.some.inj hp
  exact ⟨_,_,rfl,rfl,w2,(s0.trans s2),trivial⟩
def bb.Q (H0:Hp) (Ri R0:List Rs)  (r:(List (Int×Int))×(List (Int×Int))×Bool) (v:AV) (H':Hp):Prop:=∃ o0a:ON,∃ o0n:Nat,∃ o0c:Cap,∃ o1a:ON,∃ o1n:Nat,∃ o1c:Cap,v = (.tup [(.agg [(.sl ⟨o0a,o0n,o0c⟩),(.sl ⟨o1a,o1n,o1c⟩)]),(.bool r.2.2)])∧o0n = (r.1).length∧o1n = (r.2.1).length∧Out H0 Ri H' (R0) fun R=>ROs (ePair (eInt .i64) (eInt .i64)) H' R ⟨o0a,o0n,o0c⟩ (r.1)∧ROs (ePair (eInt .i64) (eInt .i64)) H' R ⟨o1a,o1n,o1c⟩ (r.2.1)
def bb.p (F:Nat) (ac:List (Int×Int×Int×Int×Int)) (ab:Int):Option ((List (Int×Int))×(List (Int×Int))×Bool):=(aP.p F ac).bind fun r3=>(bif (decide (r3 > 10)) then (some (([]:List (Int×Int)),([]:List (Int×Int)),false)) else ((ba.p F ab 0 8).bind fun r12=>(bif (!r12) then (some (([]:List (Int×Int)),([]:List (Int×Int)),false)) else ((bp.p F ac).bind fun r21=>(bif r21 then (some (([]:List (Int×Int)),([]:List (Int×Int)),false)) else ((ao.p F ac).bind fun r30=>(bif (!r30.2.2) then (some (([]:List (Int×Int)),([]:List (Int×Int)),false)) else ((ai.p F ac r30.1 r30.2.1).bind fun r44=>(bx.p F r44).bind fun r48=>(aH.p F ac r30.1 r30.2.1).bind fun r52=>(aX.p F r52).bind fun r55=>(bif (r48 != (IntKind.i64.wrap (r3 + (IntKind.i64.wrap (2 * r55))))) then (some (([]:List (Int×Int)),([]:List (Int×Int)),false)) else (some (r30.1,r30.2.1,true)))))))))))
theorem bb.P {F:Nat} {ap:ON} {ag:Nat} {aq:Cap} {ac:List (Int×Int×Int×Int×Int)} {ab:Int} {H:Hp} {R0:List Rs} (aV:ag = ac.length) (h0:Inn H R0 fun R=>ROs (ePair (eInt .i64) (ePair (eInt .i64) (ePair (eInt .i64) (ePair (eInt .i64) (eInt .i64))))) H R ⟨ap,ag,aq⟩ ac) {r:(List (Int×Int))×(List (Int×Int))×Bool} (hp:bb.p F ac ab = some r):∃ v H',bb.tw F ⟨ap,ag,aq⟩ ab H = some (v,H')∧bb.Q H R0 R0  r v H':=by
 obtain ⟨w0,aQ⟩:=h0
 subst aV
 unfold bb.p at hp
 unfold bb.tw bb.twX
 have s0:=w0.rf
 refine new_k w0 fun H1 w1 s1=>?_
 refine new_k w1 fun H2 w2 s2=>?_
 refine bind_ex (ldSl_of (w2.ld (i:=1) rfl rfl)) ?_
 obtain ⟨r3,e3,hp⟩:=bind_some' hp
 refine call_ex (aP.P rfl ⟨w2,(aQ.step (s1.trans s2))⟩ e3) ?_
 rintro _ H4 ⟨rfl,w4,s4,_⟩
 refine bind_ex rfl ?_
 refine bif_ex (fun hb=>?_) (fun hb=>?_)
 ·replace hp:=bif_t hb hp
  refine st_k w4 (i:=0) rfl rfl rfl fun H5 w5 s5=>?_
  dsimp only [List.set] at w5 s5
  refine st_k w5 (i:=0) rfl rfl rfl fun H6 w6 s6=>?_
  dsimp only [List.set] at w6 s6
  refine bind_ex (ldSl_of (w6.ld (i:=0) rfl rfl)) ?_
  refine bind_ex (ldSl_of (w6.ld (i:=0) rfl rfl)) ?_
  obtain ⟨w7,s7⟩:=w6.nilS (ePair (eInt .i64) (eInt .i64)).z (by decide)
  obtain ⟨w8,s8⟩:=w7.nilS (ePair (eInt .i64) (eInt .i64)).z (by decide)
  obtain ⟨w9,s9,f9⟩:=w8.frz (i:=1) (ePair (eInt .i64) (eInt .i64)) rfl ((CR.empty:CR (ePair (eInt .i64) (eInt .i64)) _ _ [] []).step s8)
  dsimp only [List.eraseIdx] at w9 s9 f9
  obtain ⟨w10,s10,f10⟩:=w9.frz (i:=0) (ePair (eInt .i64) (eInt .i64)) rfl ((CR.empty:CR (ePair (eInt .i64) (eInt .i64)) _ _ [] []).step s9)
  dsimp only [List.eraseIdx] at w10 s10 f10
  obtain ⟨w11,s11⟩:=w10.pick' [] 2 rfl rfl rfl
  dsimp only [pk,pks,nth,List.drop] at w11 s11
  obtain rfl:=Option.some.inj hp
  exact ⟨_,_,rfl,_,_,_,_,_,_,rfl,rfl,rfl,w11,(s0.trans (s1.trans (s2.trans (s4.trans (s5.trans (s6.trans (s7.trans (s8.trans (s9.trans (s10.trans s11)))))))))),(f9.step (s10.trans s11)),(f10.step s11)⟩
 ·replace hp:=bif_f hb hp
  refine bind_ex (ldI_of (w4.ld (i:=1) rfl rfl)) ?_
  obtain ⟨r12,e12,hp⟩:=bind_some' hp
  refine call_ex (ba.P ⟨w4,trivial⟩ e12) ?_
  rintro _ H13 ⟨rfl,w13,s13,_⟩
  refine bind_ex rfl ?_
  refine bif_ex (fun hb=>?_) (fun hb=>?_)
  ·replace hp:=bif_t hb hp
   refine st_k w13 (i:=0) rfl rfl rfl fun H14 w14 s14=>?_
   dsimp only [List.set] at w14 s14
   refine st_k w14 (i:=0) rfl rfl rfl fun H15 w15 s15=>?_
   dsimp only [List.set] at w15 s15
   refine bind_ex (ldSl_of (w15.ld (i:=0) rfl rfl)) ?_
   refine bind_ex (ldSl_of (w15.ld (i:=0) rfl rfl)) ?_
   obtain ⟨w16,s16⟩:=w15.nilS (ePair (eInt .i64) (eInt .i64)).z (by decide)
   obtain ⟨w17,s17⟩:=w16.nilS (ePair (eInt .i64) (eInt .i64)).z (by decide)
   obtain ⟨w18,s18,f18⟩:=w17.frz (i:=1) (ePair (eInt .i64) (eInt .i64)) rfl ((CR.empty:CR (ePair (eInt .i64) (eInt .i64)) _ _ [] []).step s17)
   dsimp only [List.eraseIdx] at w18 s18 f18
   obtain ⟨w19,s19,f19⟩:=w18.frz (i:=0) (ePair (eInt .i64) (eInt .i64)) rfl ((CR.empty:CR (ePair (eInt .i64) (eInt .i64)) _ _ [] []).step s18)
   dsimp only [List.eraseIdx] at w19 s19 f19
   obtain ⟨w20,s20⟩:=w19.pick' [] 2 rfl rfl rfl
   dsimp only [pk,pks,nth,List.drop] at w20 s20
   obtain rfl:=Option.some.inj hp
   exact ⟨_,_,rfl,_,_,_,_,_,_,rfl,rfl,rfl,w20,(s0.trans (s1.trans (s2.trans (s4.trans (s13.trans (s14.trans (s15.trans (s16.trans (s17.trans (s18.trans (s19.trans s20))))))))))),(f18.step (s19.trans s20)),(f19.step s20)⟩
  ·replace hp:=bif_f hb hp
   refine bind_ex (ldSl_of (w13.ld (i:=1) rfl rfl)) ?_
   obtain ⟨r21,e21,hp⟩:=bind_some' hp
   refine call_ex (bp.P rfl ⟨w13,(aQ.step (s1.trans (s2.trans (s4.trans s13))))⟩ e21) ?_
   rintro _ H22 ⟨rfl,w22,s22,_⟩
   refine bind_ex rfl ?_
   refine bif_ex (fun hb=>?_) (fun hb=>?_)
   ·replace hp:=bif_t hb hp
    refine st_k w22 (i:=0) rfl rfl rfl fun H23 w23 s23=>?_
    dsimp only [List.set] at w23 s23
    refine st_k w23 (i:=0) rfl rfl rfl fun H24 w24 s24=>?_
    dsimp only [List.set] at w24 s24
    refine bind_ex (ldSl_of (w24.ld (i:=0) rfl rfl)) ?_
    refine bind_ex (ldSl_of (w24.ld (i:=0) rfl rfl)) ?_
    obtain ⟨w25,s25⟩:=w24.nilS (ePair (eInt .i64) (eInt .i64)).z (by decide)
    obtain ⟨w26,s26⟩:=w25.nilS (ePair (eInt .i64) (eInt .i64)).z (by decide)
    obtain ⟨w27,s27,f27⟩:=w26.frz (i:=1) (ePair (eInt .i64) (eInt .i64)) rfl ((CR.empty:CR (ePair (eInt .i64) (eInt .i64)) _ _ [] []).step s26)
    dsimp only [List.eraseIdx] at w27 s27 f27
    obtain ⟨w28,s28,f28⟩:=w27.frz (i:=0) (ePair (eInt .i64) (eInt .i64)) rfl ((CR.empty:CR (ePair (eInt .i64) (eInt .i64)) _ _ [] []).step s27)
    dsimp only [List.eraseIdx] at w28 s28 f28
    obtain ⟨w29,s29⟩:=w28.pick' [] 2 rfl rfl rfl
    dsimp only [pk,pks,nth,List.drop] at w29 s29
    obtain rfl:=Option.some.inj hp
    exact ⟨_,_,rfl,_,_,_,_,_,_,rfl,rfl,rfl,w29,(s0.trans (s1.trans (s2.trans (s4.trans (s13.trans (s22.trans (s23.trans (s24.trans (s25.trans (s26.trans (s27.trans (s28.trans s29)))))))))))),(f27.step (s28.trans s29)),(f28.step s29)⟩
   ·replace hp:=bif_f hb hp
    refine bind_ex (ldSl_of (w22.ld (i:=1) rfl rfl)) ?_
    refine bind_ex (ldI_of (w22.ld (i:=1) rfl rfl)) ?_
    obtain ⟨r30,e30,hp⟩:=bind_some' hp
    refine call_ex (ao.P rfl ⟨w22,(aQ.step (s1.trans (s2.trans (s4.trans (s13.trans s22)))))⟩ e30) ?_
    rintro _ H31 ⟨o0a_31,o0n_31,o0c_31,o0k_31,o1a_31,o1n_31,o1c_31,o1k_31,rfl,rfl,rfl,w31,s31,f31_0,f31_1⟩
    refine bind_ex rfl ?_
    refine bind_ex rfl ?_
    refine bind_ex rfl ?_
    refine bind_ex rfl ?_
    refine bind_ex rfl ?_
    refine bind_ex rfl ?_
    refine bind_ex rfl ?_
    refine bind_ex rfl ?_
    refine bind_ex rfl ?_
    refine new_k w31 fun H32 w32 s32=>?_
    refine st_k w32 (i:=0) rfl rfl rfl fun H33 w33 s33=>?_
    dsimp only [List.set] at w33 s33
    refine st_k w33 (i:=0) rfl rfl rfl fun H34 w34 s34=>?_
    dsimp only [List.set] at w34 s34
    refine bif_ex (fun hb=>?_) (fun hb=>?_)
    ·replace hp:=bif_t hb hp
     refine st_k w34 (i:=3) rfl rfl rfl fun H35 w35 s35=>?_
     dsimp only [List.set] at w35 s35
     refine st_k w35 (i:=3) rfl rfl rfl fun H36 w36 s36=>?_
     dsimp only [List.set] at w36 s36
     refine bind_ex (ldSl_of (w36.ld (i:=3) rfl rfl)) ?_
     refine bind_ex (ldSl_of (w36.ld (i:=3) rfl rfl)) ?_
     obtain ⟨w37,s37⟩:=w36.nilS (ePair (eInt .i64) (eInt .i64)).z (by decide)
     obtain ⟨w38,s38⟩:=w37.nilS (ePair (eInt .i64) (eInt .i64)).z (by decide)
     obtain ⟨w39,s39,f39⟩:=w38.frz (i:=1) (ePair (eInt .i64) (eInt .i64)) rfl ((CR.empty:CR (ePair (eInt .i64) (eInt .i64)) _ _ [] []).step s38)
     dsimp only [List.eraseIdx] at w39 s39 f39
     obtain ⟨w40,s40,f40⟩:=w39.frz (i:=0) (ePair (eInt .i64) (eInt .i64)) rfl ((CR.empty:CR (ePair (eInt .i64) (eInt .i64)) _ _ [] []).step s39)
     dsimp only [List.eraseIdx] at w40 s40 f40
     obtain ⟨w41,s41⟩:=w40.pick' [] 5 rfl rfl rfl
     dsimp only [pk,pks,nth,List.drop] at w41 s41
     obtain rfl:=Option.some.inj hp
     exact ⟨_,_,rfl,_,_,_,_,_,_,rfl,rfl,rfl,w41,(s0.trans (s1.trans (s2.trans (s4.trans (s13.trans (s22.trans (s31.trans (s32.trans (s33.trans (s34.trans (s35.trans (s36.trans (s37.trans (s38.trans (s39.trans (s40.trans s41)))))))))))))))),(f39.step (s40.trans s41)),(f40.step s41)⟩
    ·replace hp:=bif_f hb hp
     refine bind_ex (ldSl_of (w34.ld (i:=4) rfl rfl)) ?_
     refine bind_ex (ldI_of (w34.ld (i:=4) rfl rfl)) ?_
     refine bind_ex (ldSl_of (w34.ld (i:=0) rfl rfl)) ?_
     refine bind_ex (ldSl_of (w34.ld (i:=0) rfl rfl)) ?_
     obtain ⟨w42,s42,f42⟩:=w34.frz (i:=1) (ePair (eInt .i64) (eInt .i64)) rfl (f31_0.step (s32.trans (s33.trans s34)))
     dsimp only [List.eraseIdx] at w42 s42 f42
     obtain ⟨w43,s43,f43⟩:=w42.frz (i:=1) (ePair (eInt .i64) (eInt .i64)) rfl (f31_1.step (s32.trans (s33.trans (s34.trans s42))))
     dsimp only [List.eraseIdx] at w43 s43 f43
     obtain ⟨r44,e44,hp⟩:=bind_some' hp
     refine call_ex (ai.P rfl rfl rfl ⟨w43,(aQ.step (s1.trans (s2.trans (s4.trans (s13.trans (s22.trans (s31.trans (s32.trans (s33.trans (s34.trans (s42.trans s43))))))))))),(f42.step s43),f43⟩ e44) ?_
     rintro _ H45 ⟨o0a_45,o0n_45,o0c_45,o0k_45,rfl,rfl,w45,s45,f45_0⟩
     refine bind_ex rfl ?_
     refine ifs_ex (Cons.tr (Cons.refl _) s42 (Cons.tr (Cons.refl _) s43 (W.cons_of (Rn:=[_]) w43 w45 s45))) ?_
     have f47:=W.borrow1 (eSl (eInt .i64)) w45 f45_0
     obtain ⟨w47,s47⟩:=w45.right1
     obtain ⟨r48,e48,hp⟩:=bind_some' hp
     refine call_ex (bx.P rfl ⟨w47,f47⟩ e48) ?_
     rintro _ H49 ⟨rfl,w49,s49,_⟩
     obtain ⟨w50,s50⟩:=W.frame1 w45 w49 s49
     refine bind_ex rfl ?_
     refine ifs_ex (W.cons_of (Rn:=[]) w47 w49 s49) ?_
     refine bind_ex (ldSl_of (w50.ld (i:=3) rfl rfl)) ?_
     refine bind_ex (ldI_of (w50.ld (i:=3) rfl rfl)) ?_
     refine bind_ex (ldSl_of (w50.ld (i:=1) rfl rfl)) ?_
     refine bind_ex (ldSl_of (w50.ld (i:=1) rfl rfl)) ?_
     obtain ⟨r52,e52,hp⟩:=bind_some' hp
     refine call_ex (aH.P rfl rfl rfl ⟨w50,(aQ.step (s1.trans (s2.trans (s4.trans (s13.trans (s22.trans (s31.trans (s32.trans (s33.trans (s34.trans (s42.trans (s43.trans (s45.trans s50))))))))))))),(f42.step (s43.trans (s45.trans s50))),(f43.step (s45.trans s50))⟩ e52) ?_
     rintro _ H53 ⟨o0a_53,o0n_53,o0c_53,o0k_53,rfl,rfl,w53,s53,f53_0⟩
     refine bind_ex rfl ?_
     have f54:=W.borrow1 (eInt .i64) w53 f53_0
     obtain ⟨w54,s54⟩:=w53.right1
     obtain ⟨r55,e55,hp⟩:=bind_some' hp
     refine call_ex (aX.P rfl ⟨w54,f54⟩ e55) ?_
     rintro _ H56 ⟨rfl,w56,s56,_⟩
     obtain ⟨w57,s57⟩:=W.frame1 w53 w56 s56
     refine bind_ex rfl ?_
     refine bif_ex (fun hb=>?_) (fun hb=>?_)
     ·replace hp:=bif_t hb hp
      refine st_k w57 (i:=3) rfl rfl rfl fun H58 w58 s58=>?_
      dsimp only [List.set] at w58 s58
      refine st_k w58 (i:=3) rfl rfl rfl fun H59 w59 s59=>?_
      dsimp only [List.set] at w59 s59
      refine bind_ex (ldSl_of (w59.ld (i:=3) rfl rfl)) ?_
      refine bind_ex (ldSl_of (w59.ld (i:=3) rfl rfl)) ?_
      obtain ⟨w60,s60⟩:=w59.nilS (ePair (eInt .i64) (eInt .i64)).z (by decide)
      obtain ⟨w61,s61⟩:=w60.nilS (ePair (eInt .i64) (eInt .i64)).z (by decide)
      obtain ⟨w62,s62,f62⟩:=w61.frz (i:=1) (ePair (eInt .i64) (eInt .i64)) rfl ((CR.empty:CR (ePair (eInt .i64) (eInt .i64)) _ _ [] []).step s61)
      dsimp only [List.eraseIdx] at w62 s62 f62
      obtain ⟨w63,s63,f63⟩:=w62.frz (i:=0) (ePair (eInt .i64) (eInt .i64)) rfl ((CR.empty:CR (ePair (eInt .i64) (eInt .i64)) _ _ [] []).step s62)
      dsimp only [List.eraseIdx] at w63 s63 f63
      obtain ⟨w64,s64⟩:=w63.pick' [] 5 rfl rfl rfl
      dsimp only [pk,pks,nth,List.drop] at w64 s64
      obtain rfl:=Option.some.inj hp
      exact ⟨_,_,rfl,_,_,_,_,_,_,rfl,rfl,rfl,w64,(s0.trans (s1.trans (s2.trans (s4.trans (s13.trans (s22.trans (s31.trans (s32.trans (s33.trans (s34.trans (s42.trans (s43.trans (s45.trans (s50.trans (s53.trans (s57.trans (s58.trans (s59.trans (s60.trans (s61.trans (s62.trans (s63.trans s64)))))))))))))))))))))),(f62.step (s63.trans s64)),(f63.step s64)⟩
     ·replace hp:=bif_f hb hp
      refine bind_ex (ldSl_of (w57.ld (i:=2) rfl rfl)) ?_
      refine bind_ex (ldSl_of (w57.ld (i:=2) rfl rfl)) ?_
      refine st_k w57 (i:=3) rfl rfl rfl fun H65 w65 s65=>?_
      dsimp only [List.set] at w65 s65
      refine st_k w65 (i:=3) rfl rfl rfl fun H66 w66 s66=>?_
      dsimp only [List.set] at w66 s66
      refine bind_ex (ldSl_of (w66.ld (i:=3) rfl rfl)) ?_
      refine bind_ex (ldSl_of (w66.ld (i:=3) rfl rfl)) ?_
      obtain ⟨w67,s67⟩:=w66.pick' [] 5 rfl rfl rfl
      dsimp only [pk,pks,nth,List.drop] at w67 s67
      obtain rfl:=Option.some.inj hp
      exact ⟨_,_,rfl,_,_,_,_,_,_,rfl,rfl,rfl,w67,(s0.trans (s1.trans (s2.trans (s4.trans (s13.trans (s22.trans (s31.trans (s32.trans (s33.trans (s34.trans (s42.trans (s43.trans (s45.trans (s50.trans (s53.trans (s57.trans (s65.trans (s66.trans s67)))))))))))))))))),(f42.step (s43.trans (s45.trans (s50.trans (s53.trans (s57.trans (s65.trans (s66.trans s67)))))))),(f43.step (s45.trans (s50.trans (s53.trans (s57.trans (s65.trans (s66.trans s67)))))))⟩
def bm.Q (H0:Hp) (Ri R0:List Rs)  (r:Bool) (v:AV) (H':Hp):Prop:=v = (.bool r)∧Out H0 Ri H' (R0) fun R=>True
def bm.p (F:Nat) (ac:List (Int×Int×Int×Int×Int)) (ab:Int):Option (Bool):=(bb.p F ac ab).bind fun r2=>some r2.2.2
theorem bm.P {F:Nat} {ap:ON} {ag:Nat} {aq:Cap} {ac:List (Int×Int×Int×Int×Int)} {ab:Int} {H:Hp} {R0:List Rs} (aV:ag = ac.length) (h0:Inn H R0 fun R=>ROs (ePair (eInt .i64) (ePair (eInt .i64) (ePair (eInt .i64) (ePair (eInt .i64) (eInt .i64))))) H R ⟨ap,ag,aq⟩ ac) {r:Bool} (hp:bm.p F ac ab = some r):∃ v H',bm.tw F ⟨ap,ag,aq⟩ ab H = some (v,H')∧bm.Q H R0 R0  r v H':=by
 obtain ⟨w0,aQ⟩:=h0
 subst aV
 unfold bm.p at hp
 unfold bm.tw bm.twX
 have s0:=w0.rf
 refine new_k w0 fun H1 w1 s1=>?_
 refine bind_ex (ldSl_of (w1.ld (i:=0) rfl rfl)) ?_
 refine bind_ex (ldI_of (w1.ld (i:=0) rfl rfl)) ?_
 obtain ⟨r2,e2,hp⟩:=bind_some' hp
 refine call_ex (bb.P rfl ⟨w1,(aQ.step s1)⟩ e2) ?_
 rintro _ H3 ⟨o0a_3,o0n_3,o0c_3,o1a_3,o1n_3,o1c_3,rfl,rfl,rfl,w3,s3,f3_0,f3_1⟩
 refine bind_ex rfl ?_
 refine bind_ex rfl ?_
 refine bind_ex rfl ?_
 refine bind_ex rfl ?_
 refine bind_ex rfl ?_
 refine bind_ex rfl ?_
 refine bind_ex rfl ?_
 refine bind_ex rfl ?_
 refine bind_ex rfl ?_
 refine new_k w3 fun H4 w4 s4=>?_
 refine st_k w4 (i:=0) rfl rfl rfl fun H5 w5 s5=>?_
 dsimp only [List.set] at w5 s5
 refine st_k w5 (i:=0) rfl rfl rfl fun H6 w6 s6=>?_
 dsimp only [List.set] at w6 s6
 obtain ⟨w7,s7⟩:=w6.pick' [] 2 rfl rfl rfl
 dsimp only [pk,pks,nth,List.drop] at w7 s7
 obtain rfl:=Option.some.inj hp
 exact ⟨_,_,rfl,rfl,w7,(s0.trans (s1.trans (s3.trans (s4.trans (s5.trans (s6.trans s7)))))),trivial⟩
def aC.Q (H0:Hp) (Ri R0:List Rs)  (r:List Int×Int) (v:AV) (H':Hp):Prop:=∃ o0a:ON,∃ o0n:Nat,∃ o0c:Cap,∃ o0k:List AV,v = (.tup [(.sl ⟨o0a,o0n,o0c⟩),(.int .i64 r.2)])∧o0n = (r.1).length∧Out H0 Ri H' (Rs.own ⟨o0a,o0n,o0c⟩ (eInt .i64).z o0k :: R0) fun R=>CR (eInt .i64) H' R o0k (r.1)
def aC.S29 (H0:Hp) (Ri R0:List Rs)  (C:Nat→Nat→Sl→Sl→Int→Int→Hp→OA) (pC:List (Int×Int×Int×Int×Int)→Int→List Int→Int→Int→Option (List Int×Int)):Prop:=∀ {lL pD:ON} {jy dX lM:Nat} {lN pE:Cap} {gD:List (Int×Int×Int×Int×Int)} {iB dY dK:Int} {il:List Int} {pF:List AV},∀ {H:Hp},jy = gD.length→lM = il.length→(Out H0 Ri H (Rs.blk dX [.sl ⟨lL,jy,lN⟩,.int .i64 iB] :: Rs.own ⟨pD,lM,pE⟩ (eInt .i64).z pF :: R0) fun R=>ROs (ePair (eInt .i64) (ePair (eInt .i64) (ePair (eInt .i64) (ePair (eInt .i64) (eInt .i64))))) H R ⟨lL,jy,lN⟩ gD∧CR (eInt .i64) H R pF il)→∀ {r:List Int×Int},pC gD iB il dY dK = some r→∃ v H',C dX 0 ⟨pD,lM,pE⟩ ⟨lL,jy,lN⟩ dY dK H = some (v,H')∧aC.Q H0 Ri R0  r v H'
def aC.pj1 (F:Nat)  (pG:Int) (lO:List Int):Option (List Int×Int):=(bN.p F lO).bind fun r3=>(aX.p F r3).bind fun r8=>some (r3,(IntKind.i64.wrap (r8 + pG)))
theorem aC.j1_P {F:Nat} {H0:Hp} {Ri R0:List Rs}   {wj wk:ON} {rr mm rs:Nat} {wl wm:Cap} {wo:List (Int×Int×Int×Int×Int)} {pG:Int} {lO:List Int} {wp:List AV} {H:Hp} (zL:rr = wo.length) (zM:rs = lO.length) (h0:Out H0 Ri H (Rs.blk mm [.sl ⟨wj,rr,wl⟩,.int .i64 pG] :: Rs.own ⟨wk,rs,wm⟩ (eInt .i64).z wp :: R0) fun R=>ROs (ePair (eInt .i64) (ePair (eInt .i64) (ePair (eInt .i64) (ePair (eInt .i64) (eInt .i64))))) H R ⟨wj,rr,wl⟩ wo∧CR (eInt .i64) H R wp lO) {r:List Int×Int} (hp:aC.pj1 F  pG lO = some r):∃ v H',aC.j1 F (aP.tw F) (aA.tw F) (av.tw F) (bN.tw F) (aX.tw F)  mm 0 ⟨wk,rs,wm⟩ H = some (v,H')∧aC.Q H0 Ri R0  r v H':=by
 obtain ⟨w0,s0,zS,zN⟩:=h0
 subst zL
 subst zM
 unfold aC.pj1 at hp
 unfold aC.j1
 obtain ⟨w1,s1⟩:=w0.pick' [1,0] 2 rfl rfl rfl
 dsimp only [pk,pks,nth,List.drop] at w1 s1
 have f2:=W.borrow1 (eInt .i64) w1 (zN.step s1)
 obtain ⟨w2,s2⟩:=w1.right1
 obtain ⟨r3,e3,hp⟩:=bind_some' hp
 refine call_ex (bN.P rfl ⟨w2,f2⟩ e3) ?_
 rintro _ H4 ⟨o0a_4,o0n_4,o0c_4,o0k_4,rfl,rfl,w4,s4,f4_0⟩
 obtain ⟨w5,s5⟩:=W.frame1 w1 w4 s4
 refine bind_ex rfl ?_
 obtain ⟨w6,s6⟩:=w5.pick' [1,0,2] 3 rfl rfl rfl
 dsimp only [pk,pks,nth,List.drop] at w6 s6
 have f7:=W.borrow1 (eInt .i64) w6 ((CR.flat (eInt_flat .i64) f4_0).step s6)
 obtain ⟨w7,s7⟩:=w6.right1
 obtain ⟨r8,e8,hp⟩:=bind_some' hp
 refine call_ex (aX.P rfl ⟨w7,f7⟩ e8) ?_
 rintro _ H9 ⟨rfl,w9,s9,_⟩
 obtain ⟨w10,s10⟩:=W.frame1 w6 w9 s9
 refine bind_ex rfl ?_
 refine ifs_ex (Cons.tr (Cons.refl _) s6 (W.cons_of (Rn:=[]) w7 w9 s9)) ?_
 refine bind_ex (ldI_of (w10.ld (i:=2) rfl rfl)) ?_
 obtain ⟨w12,s12⟩:=w10.pick' [0] 3 rfl rfl rfl
 dsimp only [pk,pks,nth,List.drop] at w12 s12
 obtain rfl:=Option.some.inj hp
 exact ⟨_,_,rfl,_,_,_,_,rfl,rfl,w12,(s0.trans (s1.trans (s5.trans (s6.trans (s10.trans s12))))),((CR.flat (eInt_flat .i64) f4_0).step (s6.trans (s10.trans s12)))⟩
def aC.pl29 (F:Nat) :Nat→List (Int×Int×Int×Int×Int)→Int→List Int→Int→Int→Option (List Int×Int)
 | 0,_,_,_,_,_=>none
 | k + 1,gD,iB,il,dY,dK=>(bif (decide (dK < dY)) then ((ix gD dK).bind fun n1=>(av.p F il ((gt gD n1).2.1) ((gt gD n1).2.2.2.1)).bind fun r9=>aC.pl29 F k gD iB r9 dY (IntKind.i64.wrap (dK + 1))) else (aC.pj1 F iB il))
termination_by structural n=>n
theorem aC.l29_P {F:Nat} {H0:Hp} {Ri R0:List Rs}  :∀ k,aC.S29 H0 Ri R0  (aC.l29 F (aP.tw F) (aA.tw F) (av.tw F) (bN.tw F) (aX.tw F)  k) (aC.pl29 F  k):=by
 intro k
 induction k with
 | zero=>
  intro lL pD jy dX lM lN pE gD iB dY dK il pF H wq wt h0 r hp
  exact nomatch (show (none:Option (List Int×Int)) = some r from hp)
 | succ k ih=>
  intro lL pD jy dX lM lN pE gD iB dY dK il pF H wq wt h0 r hp
  obtain ⟨w0,s0,rt,wu⟩:=h0
  subst wq
  subst wt
  unfold aC.pl29 at hp
  unfold aC.l29
  refine bif_ex (fun hb=>?_) (fun hb=>?_)
  ·replace hp:=bif_t hb hp
   obtain ⟨n1,g1,hp⟩:=bind_some' hp
   obtain ⟨p1,q1,i1,h1,j1⟩:=ROs.ixr rt rfl g1
   refine bind_ex i1 ?_
   obtain ⟨_,_,rfl,rfl,_,_,rfl,rfl,_,_,rfl,rfl,_,_,rfl,rfl,rfl⟩:=h1
   refine bind_ex (ldI_of (j1 0 _ rfl)) ?_
   refine bind_ex (ldI_of (j1 1 _ rfl)) ?_
   refine bind_ex (ldI_of (j1 2 _ rfl)) ?_
   refine bind_ex (ldI_of (j1 3 _ rfl)) ?_
   refine bind_ex (ldI_of (j1 4 _ rfl)) ?_
   refine new_k w0 fun H2 w2 s2=>?_
   refine st_k w2 (i:=0) rfl rfl rfl fun H3 w3 s3=>?_
   dsimp only [List.set] at w3 s3
   refine st_k w3 (i:=0) rfl rfl rfl fun H4 w4 s4=>?_
   dsimp only [List.set] at w4 s4
   refine st_k w4 (i:=0) rfl rfl rfl fun H5 w5 s5=>?_
   dsimp only [List.set] at w5 s5
   refine st_k w5 (i:=0) rfl rfl rfl fun H6 w6 s6=>?_
   dsimp only [List.set] at w6 s6
   refine st_k w6 (i:=0) rfl rfl rfl fun H7 w7 s7=>?_
   dsimp only [List.set] at w7 s7
   refine bind_ex (ldI_of (w7.ld (i:=0) rfl rfl)) ?_
   refine bind_ex (ldI_of (w7.ld (i:=0) rfl rfl)) ?_
   obtain ⟨w8,s8⟩:=w7.pick' [2,0,1] 3 rfl rfl rfl
   dsimp only [pk,pks,nth,List.drop] at w8 s8
   obtain ⟨r9,e9,hp⟩:=bind_some' hp
   refine call_ex (av.P rfl ⟨w8,(wu.step (s2.trans (s3.trans (s4.trans (s5.trans (s6.trans (s7.trans s8)))))))⟩ e9) ?_
   rintro _ H10 ⟨zT,rfl,hl10_0,w10,s10,f10_0⟩
   obtain ⟨w11,s11⟩:=w10.pick' [2,0] 3 rfl rfl rfl
   dsimp only [pk,pks,nth,List.drop] at w11 s11
   exact ih rfl hl10_0 ⟨w11,(s0.trans (s2.trans (s3.trans (s4.trans (s5.trans (s6.trans (s7.trans (s8.trans (s10.trans s11))))))))),(rt.step (s2.trans (s3.trans (s4.trans (s5.trans (s6.trans (s7.trans (s8.trans (s10.trans s11))))))))),(f10_0.step s11)⟩ hp
  ·replace hp:=bif_f hb hp
   exact aC.j1_P rfl rfl ⟨w0,s0,rt,wu⟩ hp
def aC.p (F:Nat) (ac:List (Int×Int×Int×Int×Int)) (ab:Int):Option (List Int×Int):=(aP.p F ac).bind fun r2=>(aA.p F (IntKind.i64.wrap (2 * r2))).bind fun r4=>aC.pl29 F F ac ab r4 (ac.length:Int) 0
theorem aC.P {F:Nat} {ap:ON} {ag:Nat} {aq:Cap} {ac:List (Int×Int×Int×Int×Int)} {ab:Int} {H:Hp} {R0:List Rs} (aV:ag = ac.length) (h0:Inn H R0 fun R=>ROs (ePair (eInt .i64) (ePair (eInt .i64) (ePair (eInt .i64) (ePair (eInt .i64) (eInt .i64))))) H R ⟨ap,ag,aq⟩ ac) {r:List Int×Int} (hp:aC.p F ac ab = some r):∃ v H',aC.tw F ⟨ap,ag,aq⟩ ab H = some (v,H')∧aC.Q H R0 R0  r v H':=by
 obtain ⟨w0,aQ⟩:=h0
 subst aV
 unfold aC.p at hp
 unfold aC.tw aC.twX
 have s0:=w0.rf
 refine new_k w0 fun H1 w1 s1=>?_
 refine bind_ex (ldSl_of (w1.ld (i:=0) rfl rfl)) ?_
 obtain ⟨r2,e2,hp⟩:=bind_some' hp
 refine call_ex (aP.P rfl ⟨w1,(aQ.step s1)⟩ e2) ?_
 rintro _ H3 ⟨rfl,w3,s3,_⟩
 refine bind_ex rfl ?_
 obtain ⟨r4,e4,hp⟩:=bind_some' hp
 refine call_ex (aA.P ⟨w3,trivial⟩ e4) ?_
 rintro _ H5 ⟨o0a_5,o0n_5,o0c_5,o0k_5,rfl,rfl,w5,s5,f5_0⟩
 refine bind_ex rfl ?_
 refine bind_ex (ldSl_of (w5.ld (i:=1) rfl rfl)) ?_
 obtain ⟨w6,s6⟩:=w5.pick' [1,0] 2 rfl rfl rfl
 dsimp only [pk,pks,nth,List.drop] at w6 s6
 exact aC.l29_P F rfl rfl ⟨w6,(s0.trans (s1.trans (s3.trans (s5.trans s6)))),(aQ.step (s1.trans (s3.trans (s5.trans s6)))),(f5_0.step s6)⟩ hp
def bn.Q (H0:Hp) (Ri R0:List Rs)  (r:List Int×Int) (v:AV) (H':Hp):Prop:=∃ o0a:ON,∃ o0n:Nat,∃ o0c:Cap,∃ o0k:List AV,v = (.tup [(.sl ⟨o0a,o0n,o0c⟩),(.int .i64 r.2)])∧o0n = (r.1).length∧Out H0 Ri H' (Rs.own ⟨o0a,o0n,o0c⟩ (eInt .i64).z o0k :: R0) fun R=>CR (eInt .i64) H' R o0k (r.1)
def bn.p (F:Nat) (ac:List (Int×Int×Int×Int×Int)) (ab:Int):Option (List Int×Int):=(bm.p F ac ab).bind fun r2=>(bif (!r2) then (some (([]:List Int),(-1))) else ((aC.p F ac ab).bind fun r6=>some (r6.1,r6.2)))
theorem bn.P {F:Nat} {ap:ON} {ag:Nat} {aq:Cap} {ac:List (Int×Int×Int×Int×Int)} {ab:Int} {H:Hp} {R0:List Rs} (aV:ag = ac.length) (h0:Inn H R0 fun R=>ROs (ePair (eInt .i64) (ePair (eInt .i64) (ePair (eInt .i64) (ePair (eInt .i64) (eInt .i64))))) H R ⟨ap,ag,aq⟩ ac) {r:List Int×Int} (hp:bn.p F ac ab = some r):∃ v H',bn.tw F ⟨ap,ag,aq⟩ ab H = some (v,H')∧bn.Q H R0 R0  r v H':=by
 obtain ⟨w0,aQ⟩:=h0
 subst aV
 unfold bn.p at hp
 unfold bn.tw bn.twX
 have s0:=w0.rf
 refine new_k w0 fun H1 w1 s1=>?_
 refine bind_ex (ldSl_of (w1.ld (i:=0) rfl rfl)) ?_
 refine bind_ex (ldI_of (w1.ld (i:=0) rfl rfl)) ?_
 obtain ⟨r2,e2,hp⟩:=bind_some' hp
 refine call_ex (bm.P rfl ⟨w1,(aQ.step s1)⟩ e2) ?_
 rintro _ H3 ⟨rfl,w3,s3,_⟩
 refine bind_ex rfl ?_
 refine bif_ex (fun hb=>?_) (fun hb=>?_)
 ·replace hp:=bif_t hb hp
  obtain ⟨w4,s4⟩:=w3.nilS (eInt .i64).z (by decide)
  obtain ⟨w5,s5⟩:=w4.pick' [0] 2 rfl rfl rfl
  dsimp only [pk,pks,nth,List.drop] at w5 s5
  obtain rfl:=Option.some.inj hp
  exact ⟨_,_,rfl,_,_,_,_,rfl,rfl,w5,(s0.trans (s1.trans (s3.trans (s4.trans s5)))),((CR.empty:CR (eInt .i64) _ _ [] []).step s5)⟩
 ·replace hp:=bif_f hb hp
  refine bind_ex (ldSl_of (w3.ld (i:=0) rfl rfl)) ?_
  refine bind_ex (ldI_of (w3.ld (i:=0) rfl rfl)) ?_
  obtain ⟨r6,e6,hp⟩:=bind_some' hp
  refine call_ex (aC.P rfl ⟨w3,(aQ.step (s1.trans s3))⟩ e6) ?_
  rintro _ H7 ⟨o0a_7,o0n_7,o0c_7,o0k_7,rfl,rfl,w7,s7,f7_0⟩
  refine bind_ex rfl ?_
  refine bind_ex rfl ?_
  refine bind_ex rfl ?_
  refine bind_ex rfl ?_
  refine bind_ex rfl ?_
  obtain ⟨w8,s8⟩:=w7.pick' [0] 2 rfl rfl rfl
  dsimp only [pk,pks,nth,List.drop] at w8 s8
  obtain rfl:=Option.some.inj hp
  exact ⟨_,_,rfl,_,_,_,_,rfl,rfl,w8,(s0.trans (s1.trans (s3.trans (s7.trans s8)))),(f7_0.step s8)⟩
def aE.Q (H0:Hp) (Ri R0:List Rs)  (r:Bool) (v:AV) (H':Hp):Prop:=v = (.bool r)∧Out H0 Ri H' (R0) fun R=>True
def aE.S29 (H0:Hp) (Ri R0:List Rs)  (C:Sl→Sl→Int→Hp→OA) (pC:List Int→List Int→Int→Option (Bool)):Prop:=∀ {dZ gX:ON} {cY gz:Nat} {d_ gY:Cap} {aW db:List Int} {bK:Int},∀ {H:Hp},cY = aW.length→gz = db.length→(Out H0 Ri H R0 fun R=>ROs (eInt .i64) H R ⟨dZ,cY,d_⟩ aW∧ROs (eInt .i64) H R ⟨gX,gz,gY⟩ db)→∀ {r:Bool},pC aW db bK = some r→∃ v H',C ⟨dZ,cY,d_⟩ ⟨gX,gz,gY⟩ bK H = some (v,H')∧aE.Q H0 Ri R0  r v H'
def aE.pl29 (F:Nat) :Nat→List Int→List Int→Int→Option (Bool)
 | 0,_,_,_=>none
 | k + 1,aW,db,bK=>(bif (decide (bK < (aW.length:Int))) then ((ix aW bK).bind fun n1=>(ix db bK).bind fun n2=>(bif ((gt aW n1) != (gt db n2)) then (some false) else (aE.pl29 F k aW db (IntKind.i64.wrap (bK + 1))))) else (some true))
termination_by structural n=>n
theorem aE.l29_P {F:Nat} {H0:Hp} {Ri R0:List Rs}  :∀ k,aE.S29 H0 Ri R0  (aE.l29 F   k) (aE.pl29 F  k):=by
 intro k
 induction k with
 | zero=>
  intro dZ gX cY gz d_ gY aW db bK H eE lP h0 r hp
  exact nomatch (show (none:Option (Bool)) = some r from hp)
 | succ k ih=>
  intro dZ gX cY gz d_ gY aW db bK H eE lP h0 r hp
  obtain ⟨w0,s0,ea,lQ⟩:=h0
  subst eE
  subst lP
  unfold aE.pl29 at hp
  unfold aE.l29
  refine bif_ex (fun hb=>?_) (fun hb=>?_)
  ·replace hp:=bif_t hb hp
   obtain ⟨n1,g1,hp⟩:=bind_some' hp
   obtain ⟨p1,q1,i1,h1,j1⟩:=ROs.ixr ea rfl g1
   refine bind_ex i1 ?_
   have h1:_ = [_]:=h1
   subst h1
   refine bind_ex (ldI_of (j1 0 _ rfl)) ?_
   obtain ⟨n2,g2,hp⟩:=bind_some' hp
   obtain ⟨p2,q2,i2,h2,j2⟩:=ROs.ixr lQ rfl g2
   refine bind_ex i2 ?_
   have h2:_ = [_]:=h2
   subst h2
   refine bind_ex (ldI_of (j2 0 _ rfl)) ?_
   refine bif_ex (fun hb=>?_) (fun hb=>?_)
   ·replace hp:=bif_t hb hp
    obtain rfl:=Option.some.inj hp
    exact ⟨_,_,rfl,rfl,w0,s0,trivial⟩
   ·replace hp:=bif_f hb hp
    exact ih rfl rfl ⟨w0,s0,ea,lQ⟩ hp
  ·replace hp:=bif_f hb hp
   obtain rfl:=Option.some.inj hp
   exact ⟨_,_,rfl,rfl,w0,s0,trivial⟩
def aE.p (F:Nat) (ac:List Int) (fx:List Int):Option (Bool):=(bif ((ac.length:Int) != (fx.length:Int)) then (some false) else (aE.pl29 F F ac fx 0))
theorem aE.P {F:Nat} {ap lR:ON} {ag iC:Nat} {aq lS:Cap} {ac fx:List Int} {H:Hp} {R0:List Rs} (aV:ag = ac.length) (ru:iC = fx.length) (h0:Inn H R0 fun R=>ROs (eInt .i64) H R ⟨ap,ag,aq⟩ ac∧ROs (eInt .i64) H R ⟨lR,iC,lS⟩ fx) {r:Bool} (hp:aE.p F ac fx = some r):∃ v H',aE.tw F ⟨ap,ag,aq⟩ ⟨lR,iC,lS⟩ H = some (v,H')∧aE.Q H R0 R0  r v H':=by
 obtain ⟨w0,aQ,rv⟩:=h0
 subst aV
 subst ru
 unfold aE.p at hp
 unfold aE.tw aE.twX
 have s0:=w0.rf
 refine bif_ex (fun hb=>?_) (fun hb=>?_)
 ·replace hp:=bif_t hb hp
  obtain rfl:=Option.some.inj hp
  exact ⟨_,_,rfl,rfl,w0,s0,trivial⟩
 ·replace hp:=bif_f hb hp
  exact aE.l29_P F rfl rfl ⟨w0,s0,aQ,rv⟩ hp
def bv.Q (H0:Hp) (Ri R0:List Rs)  (r:Bool) (v:AV) (H':Hp):Prop:=v = (.bool r)∧Out H0 Ri H' (R0) fun R=>True
def bv.p (F:Nat) (aa:Int) (ab:Int) (aw:Int) (ax:Int) (au:Int) (aU:Int) (eA:Int) (eB:Int) (eC:Int) (eD:Int):Option (Bool):=(bif (aa != aU) then (some false) else ((bif (ab != eA) then (some false) else ((bif (aw != eB) then (some false) else ((bif (ax != eC) then (some false) else ((bif (au != eD) then (some false) else (some true))))))))))
theorem bv.P {F:Nat} {aa ab aw ax au aU eA eB eC eD:Int} {H:Hp} {R0:List Rs}  (h0:Inn H R0 fun R=>True) {r:Bool} (hp:bv.p F aa ab aw ax au aU eA eB eC eD = some r):∃ v H',bv.tw F aa ab aw ax au aU eA eB eC eD H = some (v,H')∧bv.Q H R0 R0  r v H':=by
 obtain ⟨w0,_⟩:=h0
 unfold bv.p at hp
 unfold bv.tw bv.twX
 have s0:=w0.rf
 refine new_k w0 fun H1 w1 s1=>?_
 refine new_k w1 fun H2 w2 s2=>?_
 refine bind_ex (ldI_of (w2.ld (i:=1) rfl rfl)) ?_
 refine bind_ex (ldI_of (w2.ld (i:=0) rfl rfl)) ?_
 refine bif_ex (fun hb=>?_) (fun hb=>?_)
 ·replace hp:=bif_t hb hp
  obtain ⟨w3,s3⟩:=w2.pick' [] 2 rfl rfl rfl
  dsimp only [pk,pks,nth,List.drop] at w3 s3
  obtain rfl:=Option.some.inj hp
  exact ⟨_,_,rfl,rfl,w3,(s0.trans (s1.trans (s2.trans s3))),trivial⟩
 ·replace hp:=bif_f hb hp
  refine bind_ex (ldI_of (w2.ld (i:=1) rfl rfl)) ?_
  refine bind_ex (ldI_of (w2.ld (i:=0) rfl rfl)) ?_
  refine bif_ex (fun hb=>?_) (fun hb=>?_)
  ·replace hp:=bif_t hb hp
   obtain ⟨w4,s4⟩:=w2.pick' [] 2 rfl rfl rfl
   dsimp only [pk,pks,nth,List.drop] at w4 s4
   obtain rfl:=Option.some.inj hp
   exact ⟨_,_,rfl,rfl,w4,(s0.trans (s1.trans (s2.trans s4))),trivial⟩
  ·replace hp:=bif_f hb hp
   refine bind_ex (ldI_of (w2.ld (i:=1) rfl rfl)) ?_
   refine bind_ex (ldI_of (w2.ld (i:=0) rfl rfl)) ?_
   refine bif_ex (fun hb=>?_) (fun hb=>?_)
   ·replace hp:=bif_t hb hp
    obtain ⟨w5,s5⟩:=w2.pick' [] 2 rfl rfl rfl
    dsimp only [pk,pks,nth,List.drop] at w5 s5
    obtain rfl:=Option.some.inj hp
    exact ⟨_,_,rfl,rfl,w5,(s0.trans (s1.trans (s2.trans s5))),trivial⟩
   ·replace hp:=bif_f hb hp
    refine bind_ex (ldI_of (w2.ld (i:=1) rfl rfl)) ?_
    refine bind_ex (ldI_of (w2.ld (i:=0) rfl rfl)) ?_
    refine bif_ex (fun hb=>?_) (fun hb=>?_)
    ·replace hp:=bif_t hb hp
     obtain ⟨w6,s6⟩:=w2.pick' [] 2 rfl rfl rfl
     dsimp only [pk,pks,nth,List.drop] at w6 s6
     obtain rfl:=Option.some.inj hp
     exact ⟨_,_,rfl,rfl,w6,(s0.trans (s1.trans (s2.trans s6))),trivial⟩
    ·replace hp:=bif_f hb hp
     refine bind_ex (ldI_of (w2.ld (i:=1) rfl rfl)) ?_
     refine bind_ex (ldI_of (w2.ld (i:=0) rfl rfl)) ?_
     refine bif_ex (fun hb=>?_) (fun hb=>?_)
     ·replace hp:=bif_t hb hp
      obtain ⟨w7,s7⟩:=w2.pick' [] 2 rfl rfl rfl
      dsimp only [pk,pks,nth,List.drop] at w7 s7
      obtain rfl:=Option.some.inj hp
      exact ⟨_,_,rfl,rfl,w7,(s0.trans (s1.trans (s2.trans s7))),trivial⟩
     ·replace hp:=bif_f hb hp
      obtain ⟨w8,s8⟩:=w2.pick' [] 2 rfl rfl rfl
      dsimp only [pk,pks,nth,List.drop] at w8 s8
      obtain rfl:=Option.some.inj hp
      exact ⟨_,_,rfl,rfl,w8,(s0.trans (s1.trans (s2.trans s8))),trivial⟩
def aM.Q (H0:Hp) (Ri R0:List Rs)  (r:Bool) (v:AV) (H':Hp):Prop:=v = (.bool r)∧Out H0 Ri H' (R0) fun R=>True
def aM.S29 (H0:Hp) (Ri R0:List Rs)  (C:Sl→Sl→Int→Hp→OA) (pC:List (Int×Int×Int×Int×Int)→List (Int×Int×Int×Int×Int)→Int→Option (Bool)):Prop:=∀ {dZ gX:ON} {cY gz:Nat} {d_ gY:Cap} {aW db:List (Int×Int×Int×Int×Int)} {bK:Int},∀ {H:Hp},cY = aW.length→gz = db.length→(Out H0 Ri H R0 fun R=>ROs (ePair (eInt .i64) (ePair (eInt .i64) (ePair (eInt .i64) (ePair (eInt .i64) (eInt .i64))))) H R ⟨dZ,cY,d_⟩ aW∧ROs (ePair (eInt .i64) (ePair (eInt .i64) (ePair (eInt .i64) (ePair (eInt .i64) (eInt .i64))))) H R ⟨gX,gz,gY⟩ db)→∀ {r:Bool},pC aW db bK = some r→∃ v H',C ⟨dZ,cY,d_⟩ ⟨gX,gz,gY⟩ bK H = some (v,H')∧aM.Q H0 Ri R0  r v H'
def aM.pl29 (F:Nat) :Nat→List (Int×Int×Int×Int×Int)→List (Int×Int×Int×Int×Int)→Int→Option (Bool)
 | 0,_,_,_=>none
 | k + 1,aW,db,bK=>(bif (decide (bK < (aW.length:Int))) then ((ix aW bK).bind fun n1=>(ix db bK).bind fun n2=>(bv.p F ((gt aW n1).1) ((gt aW n1).2.1) ((gt aW n1).2.2.1) ((gt aW n1).2.2.2.1) ((gt aW n1).2.2.2.2) ((gt db n2).1) ((gt db n2).2.1) ((gt db n2).2.2.1) ((gt db n2).2.2.2.1) ((gt db n2).2.2.2.2)).bind fun r3=>(bif (!r3) then (some false) else (aM.pl29 F k aW db (IntKind.i64.wrap (bK + 1))))) else (some true))
termination_by structural n=>n
theorem aM.l29_P {F:Nat} {H0:Hp} {Ri R0:List Rs}  :∀ k,aM.S29 H0 Ri R0  (aM.l29 F (bv.tw F)  k) (aM.pl29 F  k):=by
 intro k
 induction k with
 | zero=>
  intro dZ gX cY gz d_ gY aW db bK H eE lP h0 r hp
  exact nomatch (show (none:Option (Bool)) = some r from hp)
 | succ k ih=>
  intro dZ gX cY gz d_ gY aW db bK H eE lP h0 r hp
  obtain ⟨w0,s0,ea,lQ⟩:=h0
  subst eE
  subst lP
  unfold aM.pl29 at hp
  unfold aM.l29
  refine bif_ex (fun hb=>?_) (fun hb=>?_)
  ·replace hp:=bif_t hb hp
   obtain ⟨n1,g1,hp⟩:=bind_some' hp
   obtain ⟨p1,q1,i1,h1,j1⟩:=ROs.ixr ea rfl g1
   refine bind_ex i1 ?_
   obtain ⟨_,_,rfl,rfl,_,_,rfl,rfl,_,_,rfl,rfl,_,_,rfl,rfl,rfl⟩:=h1
   refine bind_ex (ldI_of (j1 0 _ rfl)) ?_
   refine bind_ex (ldI_of (j1 1 _ rfl)) ?_
   refine bind_ex (ldI_of (j1 2 _ rfl)) ?_
   refine bind_ex (ldI_of (j1 3 _ rfl)) ?_
   refine bind_ex (ldI_of (j1 4 _ rfl)) ?_
   obtain ⟨n2,g2,hp⟩:=bind_some' hp
   obtain ⟨p2,q2,i2,h2,j2⟩:=ROs.ixr lQ rfl g2
   refine bind_ex i2 ?_
   obtain ⟨_,_,rfl,rfl,_,_,rfl,rfl,_,_,rfl,rfl,_,_,rfl,rfl,rfl⟩:=h2
   refine bind_ex (ldI_of (j2 0 _ rfl)) ?_
   refine bind_ex (ldI_of (j2 1 _ rfl)) ?_
   refine bind_ex (ldI_of (j2 2 _ rfl)) ?_
   refine bind_ex (ldI_of (j2 3 _ rfl)) ?_
   refine bind_ex (ldI_of (j2 4 _ rfl)) ?_
   obtain ⟨r3,e3,hp⟩:=bind_some' hp
   refine call_ex (bv.P ⟨w0,trivial⟩ e3) ?_
   rintro _ H4 ⟨rfl,w4,s4,_⟩
   refine bind_ex rfl ?_
   refine bif_ex (fun hb=>?_) (fun hb=>?_)
   ·replace hp:=bif_t hb hp
    obtain rfl:=Option.some.inj hp
    exact ⟨_,_,rfl,rfl,w4,(s0.trans s4),trivial⟩
   ·replace hp:=bif_f hb hp
    exact ih rfl rfl ⟨w4,(s0.trans s4),(ea.step s4),(lQ.step s4)⟩ hp
  ·replace hp:=bif_f hb hp
   obtain rfl:=Option.some.inj hp
   exact ⟨_,_,rfl,rfl,w0,s0,trivial⟩
def aM.p (F:Nat) (ac:List (Int×Int×Int×Int×Int)) (fx:List (Int×Int×Int×Int×Int)):Option (Bool):=(bif ((ac.length:Int) != (fx.length:Int)) then (some false) else (aM.pl29 F F ac fx 0))
theorem aM.P {F:Nat} {ap lR:ON} {ag iC:Nat} {aq lS:Cap} {ac fx:List (Int×Int×Int×Int×Int)} {H:Hp} {R0:List Rs} (aV:ag = ac.length) (ru:iC = fx.length) (h0:Inn H R0 fun R=>ROs (ePair (eInt .i64) (ePair (eInt .i64) (ePair (eInt .i64) (ePair (eInt .i64) (eInt .i64))))) H R ⟨ap,ag,aq⟩ ac∧ROs (ePair (eInt .i64) (ePair (eInt .i64) (ePair (eInt .i64) (ePair (eInt .i64) (eInt .i64))))) H R ⟨lR,iC,lS⟩ fx) {r:Bool} (hp:aM.p F ac fx = some r):∃ v H',aM.tw F ⟨ap,ag,aq⟩ ⟨lR,iC,lS⟩ H = some (v,H')∧aM.Q H R0 R0  r v H':=by
 obtain ⟨w0,aQ,rv⟩:=h0
 subst aV
 subst ru
 unfold aM.p at hp
 unfold aM.tw aM.twX
 have s0:=w0.rf
 refine bif_ex (fun hb=>?_) (fun hb=>?_)
 ·replace hp:=bif_t hb hp
  obtain rfl:=Option.some.inj hp
  exact ⟨_,_,rfl,rfl,w0,s0,trivial⟩
 ·replace hp:=bif_f hb hp
  exact aM.l29_P F rfl rfl ⟨w0,s0,aQ,rv⟩ hp
def bq.Q (H0:Hp) (Ri R0:List Rs)  (r:Bool) (v:AV) (H':Hp):Prop:=v = (.bool r)∧Out H0 Ri H' (R0) fun R=>True
def bq.p (F:Nat) (ac:List (Int×Int×Int×Int×Int)) (ab:Int) (cD:List (Int×Int×Int×Int×Int)) (bA:Int):Option (Bool):=(aM.p F ac cD).bind fun r3=>(bif (!r3) then (some false) else ((bif (ab != bA) then (some false) else (some true))))
theorem bq.P {F:Nat} {ap gu:ON} {ag eV:Nat} {aq gw:Cap} {ac cD:List (Int×Int×Int×Int×Int)} {ab bA:Int} {H:Hp} {R0:List Rs} (aV:ag = ac.length) (ir:eV = cD.length) (h0:Inn H R0 fun R=>ROs (ePair (eInt .i64) (ePair (eInt .i64) (ePair (eInt .i64) (ePair (eInt .i64) (eInt .i64))))) H R ⟨ap,ag,aq⟩ ac∧ROs (ePair (eInt .i64) (ePair (eInt .i64) (ePair (eInt .i64) (ePair (eInt .i64) (eInt .i64))))) H R ⟨gu,eV,gw⟩ cD) {r:Bool} (hp:bq.p F ac ab cD bA = some r):∃ v H',bq.tw F ⟨ap,ag,aq⟩ ab ⟨gu,eV,gw⟩ bA H = some (v,H')∧bq.Q H R0 R0  r v H':=by
 obtain ⟨w0,aQ,iu⟩:=h0
 subst aV
 subst ir
 unfold bq.p at hp
 unfold bq.tw bq.twX
 have s0:=w0.rf
 refine new_k w0 fun H1 w1 s1=>?_
 refine new_k w1 fun H2 w2 s2=>?_
 refine bind_ex (ldSl_of (w2.ld (i:=1) rfl rfl)) ?_
 refine bind_ex (ldSl_of (w2.ld (i:=0) rfl rfl)) ?_
 obtain ⟨r3,e3,hp⟩:=bind_some' hp
 refine call_ex (aM.P rfl rfl ⟨w2,(aQ.step (s1.trans s2)),(iu.step (s1.trans s2))⟩ e3) ?_
 rintro _ H4 ⟨rfl,w4,s4,_⟩
 refine bind_ex rfl ?_
 refine bif_ex (fun hb=>?_) (fun hb=>?_)
 ·replace hp:=bif_t hb hp
  obtain ⟨w5,s5⟩:=w4.pick' [] 2 rfl rfl rfl
  dsimp only [pk,pks,nth,List.drop] at w5 s5
  obtain rfl:=Option.some.inj hp
  exact ⟨_,_,rfl,rfl,w5,(s0.trans (s1.trans (s2.trans (s4.trans s5)))),trivial⟩
 ·replace hp:=bif_f hb hp
  refine bind_ex (ldI_of (w4.ld (i:=1) rfl rfl)) ?_
  refine bind_ex (ldI_of (w4.ld (i:=0) rfl rfl)) ?_
  refine bif_ex (fun hb=>?_) (fun hb=>?_)
  ·replace hp:=bif_t hb hp
   obtain ⟨w6,s6⟩:=w4.pick' [] 2 rfl rfl rfl
   dsimp only [pk,pks,nth,List.drop] at w6 s6
   obtain rfl:=Option.some.inj hp
   exact ⟨_,_,rfl,rfl,w6,(s0.trans (s1.trans (s2.trans (s4.trans s6)))),trivial⟩
  ·replace hp:=bif_f hb hp
   obtain ⟨w7,s7⟩:=w4.pick' [] 2 rfl rfl rfl
   dsimp only [pk,pks,nth,List.drop] at w7 s7
   obtain rfl:=Option.some.inj hp
   exact ⟨_,_,rfl,rfl,w7,(s0.trans (s1.trans (s2.trans (s4.trans s7)))),trivial⟩
def aN.Q (H0:Hp) (Ri R0:List Rs) (ap:ON) (ag:Nat) (aq:Cap) (cZ:Bool) (c_ da:List AV) (r:Int×(List (Int×Int×Int×Int×Int))) (v:AV) (H':Hp):Prop:=∃ gy:List AV,v = (.int .i64 r.1)∧ag = (r.2).length∧Out H0 Ri H' (Rs.ow cZ ⟨ap,ag,aq⟩ (ePair (eInt .i64) (ePair (eInt .i64) (ePair (eInt .i64) (ePair (eInt .i64) (eInt .i64))))).z c_ gy da :: R0) fun R=>CR (ePair (eInt .i64) (ePair (eInt .i64) (ePair (eInt .i64) (ePair (eInt .i64) (eInt .i64))))) H' R gy (r.2)
def aN.S13 (H0:Hp) (Ri R0:List Rs) (cP:ON) (cp:Nat) (cQ:Cap) (eo:Bool) (ep er:List AV) (C:Sl→Int→Int→Hp→OA) (pC:List (Int×Int×Int×Int×Int)→Int→Int→Option (Int×(List (Int×Int×Int×Int×Int)))):Prop:=∀ {aW:List (Int×Int×Int×Int×Int)} {gZ:List AV} {aD bc:Int},∀ {H:Hp},cp = aW.length→(Out H0 Ri H (Rs.ow eo ⟨cP,cp,cQ⟩ (ePair (eInt .i64) (ePair (eInt .i64) (ePair (eInt .i64) (ePair (eInt .i64) (eInt .i64))))).z ep gZ er :: R0) fun R=>CR (ePair (eInt .i64) (ePair (eInt .i64) (ePair (eInt .i64) (ePair (eInt .i64) (eInt .i64))))) H R gZ aW)→∀ {r:Int×(List (Int×Int×Int×Int×Int))},pC aW aD bc = some r→∃ v H',C ⟨cP,cp,cQ⟩ aD bc H = some (v,H')∧aN.Q H0 Ri R0 cP cp cQ eo ep er r v H'
def aN.pl13 (F:Nat) :Nat→List (Int×Int×Int×Int×Int)→Int→Int→Option (Int×(List (Int×Int×Int×Int×Int)))
 | 0,_,_,_=>none
 | k + 1,aW,aD,bc=>(bif (decide (bc < (aW.length:Int))) then ((ix aW bc).bind fun n1=>(some (aW.set n1 (aD,(gt aW n1).2.1,(gt aW n1).2.2.1,(gt aW n1).2.2.2.1,(gt aW n1).2.2.2.2))).bind fun l2=>(ix l2 bc).bind fun n4=>(some (l2.set n4 ((gt l2 n4).1,(IntKind.i64.wrap (aD + 1)),(gt l2 n4).2.2.1,(gt l2 n4).2.2.2.1,(gt l2 n4).2.2.2.2))).bind fun l5=>(ix l5 bc).bind fun n7=>(some (l5.set n7 ((gt l5 n7).1,(gt l5 n7).2.1,(IntKind.i64.wrap ((IntKind.i64.wrap (aD + 1)) + 1)),(gt l5 n7).2.2.2.1,(gt l5 n7).2.2.2.2))).bind fun l8=>(ix l8 bc).bind fun n10=>(some (l8.set n10 ((gt l8 n10).1,(gt l8 n10).2.1,(gt l8 n10).2.2.1,(IntKind.i64.wrap ((IntKind.i64.wrap ((IntKind.i64.wrap (aD + 1)) + 1)) + 1)),(gt l8 n10).2.2.2.2))).bind fun l11=>(ix l11 bc).bind fun n13=>(some (l11.set n13 ((gt l11 n13).1,(gt l11 n13).2.1,(gt l11 n13).2.2.1,(gt l11 n13).2.2.2.1,(IntKind.i64.wrap ((IntKind.i64.wrap ((IntKind.i64.wrap ((IntKind.i64.wrap (aD + 1)) + 1)) + 1)) + 1))))).bind fun l14=>aN.pl13 F k l14 (IntKind.i64.wrap ((IntKind.i64.wrap ((IntKind.i64.wrap ((IntKind.i64.wrap ((IntKind.i64.wrap (aD + 1)) + 1)) + 1)) + 1)) + 1)) (IntKind.i64.wrap (bc + 1))) else (some (aD,aW)))
termination_by structural n=>n
theorem aN.l13_P {F:Nat} {H0:Hp} {Ri R0:List Rs} {cP:ON} {cp:Nat} {cQ:Cap} {eo:Bool} {ep er:List AV} :∀ k,aN.S13 H0 Ri R0 cP cp cQ eo ep er (aN.l13 F   k) (aN.pl13 F  k):=by
 intro k
 induction k with
 | zero=>
  intro aW gZ aD bc H eE h0 r hp
  exact nomatch (show (none:Option (Int×(List (Int×Int×Int×Int×Int)))) = some r from hp)
 | succ k ih=>
  intro aW gZ aD bc H eE h0 r hp
  obtain ⟨w0,s0,ea⟩:=h0
  subst eE
  unfold aN.pl13 at hp
  unfold aN.l13
  refine bif_ex (fun hb=>?_) (fun hb=>?_)
  ·replace hp:=bif_t hb hp
   obtain ⟨n1,g1,hp⟩:=bind_some' hp
   obtain ⟨p1,q1,i1,h1,j1⟩:=W.ixo (E:=(ePair (eInt .i64) (ePair (eInt .i64) (ePair (eInt .i64) (ePair (eInt .i64) (eInt .i64)))))) w0 (i:=0) rfl rfl ea g1
   refine bind_ex i1 ?_
   obtain ⟨l2,e2,hp⟩:=bind_some' hp
   refine sto_k (ePair (eInt .i64) (ePair (eInt .i64) (ePair (eInt .i64) (ePair (eInt .i64) (eInt .i64))))) w0 (i:=0) (j:=0) (p:=p1) rfl rfl ea g1 i1 e2 rfl rfl (fun _ h=>by obtain ⟨_,_,rfl,rfl,_,_,rfl,rfl,_,_,rfl,rfl,_,_,rfl,rfl,rfl⟩:=h; exact ⟨[_],_,rfl,rfl,[_],_,rfl,rfl,[_],_,rfl,rfl,[_],_,rfl,rfl,rfl⟩) fun H3 k3 w3 s3 c3=>?_
   dsimp only [List.set] at w3 s3 c3
   obtain ⟨n4,g4,hp⟩:=bind_some' hp
   obtain ⟨p4,q4,i4,h4,j4⟩:=W.ixo (E:=(ePair (eInt .i64) (ePair (eInt .i64) (ePair (eInt .i64) (ePair (eInt .i64) (eInt .i64)))))) w3 (i:=0) rfl rfl c3 g4
   refine bind_ex i4 ?_
   obtain ⟨l5,e5,hp⟩:=bind_some' hp
   refine sto_k (ePair (eInt .i64) (ePair (eInt .i64) (ePair (eInt .i64) (ePair (eInt .i64) (eInt .i64))))) w3 (i:=0) (j:=1) (p:=p4) rfl rfl c3 g4 i4 e5 rfl rfl (fun _ h=>by obtain ⟨_,_,rfl,rfl,_,_,rfl,rfl,_,_,rfl,rfl,_,_,rfl,rfl,rfl⟩:=h; exact ⟨[_],_,rfl,rfl,[_],_,rfl,rfl,[_],_,rfl,rfl,[_],_,rfl,rfl,rfl⟩) fun H6 k6 w6 s6 c6=>?_
   dsimp only [List.set] at w6 s6 c6
   obtain ⟨n7,g7,hp⟩:=bind_some' hp
   obtain ⟨p7,q7,i7,h7,j7⟩:=W.ixo (E:=(ePair (eInt .i64) (ePair (eInt .i64) (ePair (eInt .i64) (ePair (eInt .i64) (eInt .i64)))))) w6 (i:=0) rfl rfl c6 g7
   refine bind_ex i7 ?_
   obtain ⟨l8,e8,hp⟩:=bind_some' hp
   refine sto_k (ePair (eInt .i64) (ePair (eInt .i64) (ePair (eInt .i64) (ePair (eInt .i64) (eInt .i64))))) w6 (i:=0) (j:=2) (p:=p7) rfl rfl c6 g7 i7 e8 rfl rfl (fun _ h=>by obtain ⟨_,_,rfl,rfl,_,_,rfl,rfl,_,_,rfl,rfl,_,_,rfl,rfl,rfl⟩:=h; exact ⟨[_],_,rfl,rfl,[_],_,rfl,rfl,[_],_,rfl,rfl,[_],_,rfl,rfl,rfl⟩) fun H9 k9 w9 s9 c9=>?_
   dsimp only [List.set] at w9 s9 c9
   obtain ⟨n10,g10,hp⟩:=bind_some' hp
   obtain ⟨p10,q10,i10,h10,j10⟩:=W.ixo (E:=(ePair (eInt .i64) (ePair (eInt .i64) (ePair (eInt .i64) (ePair (eInt .i64) (eInt .i64)))))) w9 (i:=0) rfl rfl c9 g10
   refine bind_ex i10 ?_
   obtain ⟨l11,e11,hp⟩:=bind_some' hp
   refine sto_k (ePair (eInt .i64) (ePair (eInt .i64) (ePair (eInt .i64) (ePair (eInt .i64) (eInt .i64))))) w9 (i:=0) (j:=3) (p:=p10) rfl rfl c9 g10 i10 e11 rfl rfl (fun _ h=>by obtain ⟨_,_,rfl,rfl,_,_,rfl,rfl,_,_,rfl,rfl,_,_,rfl,rfl,rfl⟩:=h; exact ⟨[_],_,rfl,rfl,[_],_,rfl,rfl,[_],_,rfl,rfl,[_],_,rfl,rfl,rfl⟩) fun H12 k12 w12 s12 c12=>?_
   dsimp only [List.set] at w12 s12 c12
   obtain ⟨n13,g13,hp⟩:=bind_some' hp
   obtain ⟨p13,q13,i13,h13,j13⟩:=W.ixo (E:=(ePair (eInt .i64) (ePair (eInt .i64) (ePair (eInt .i64) (ePair (eInt .i64) (eInt .i64)))))) w12 (i:=0) rfl rfl c12 g13
   refine bind_ex i13 ?_
   obtain ⟨l14,e14,hp⟩:=bind_some' hp
   refine sto_k (ePair (eInt .i64) (ePair (eInt .i64) (ePair (eInt .i64) (ePair (eInt .i64) (eInt .i64))))) w12 (i:=0) (j:=4) (p:=p13) rfl rfl c12 g13 i13 e14 rfl rfl (fun _ h=>by obtain ⟨_,_,rfl,rfl,_,_,rfl,rfl,_,_,rfl,rfl,_,_,rfl,rfl,rfl⟩:=h; exact ⟨[_],_,rfl,rfl,[_],_,rfl,rfl,[_],_,rfl,rfl,[_],_,rfl,rfl,rfl⟩) fun H15 k15 w15 s15 c15=>?_
   dsimp only [List.set] at w15 s15 c15
   exact ih (((((st_len e2).symm.trans (st_len e5).symm).trans (st_len e8).symm).trans (st_len e11).symm).trans (st_len e14).symm) ⟨w15,(s0.trans (s3.trans (s6.trans (s9.trans (s12.trans s15))))),c15⟩ hp
  ·replace hp:=bif_f hb hp
   obtain rfl:=Option.some.inj hp
   exact ⟨_,_,rfl,_,rfl,rfl,w0,s0,ea⟩
def aN.p (F:Nat) (ac:List (Int×Int×Int×Int×Int)) (ae:Int):Option (Int×(List (Int×Int×Int×Int×Int))):=aN.pl13 F F ac ae 0
theorem aN.P {F:Nat} {ap:ON} {ag:Nat} {aq:Cap} {ac:List (Int×Int×Int×Int×Int)} {cZ:Bool} {c_ da eW:List AV} {ae:Int} {H:Hp} {R0:List Rs} (aV:ag = ac.length) (h0:Inn H (Rs.ow cZ ⟨ap,ag,aq⟩ (ePair (eInt .i64) (ePair (eInt .i64) (ePair (eInt .i64) (ePair (eInt .i64) (eInt .i64))))).z c_ eW da :: R0) fun R=>CR (ePair (eInt .i64) (ePair (eInt .i64) (ePair (eInt .i64) (ePair (eInt .i64) (eInt .i64))))) H R eW ac) {r:Int×(List (Int×Int×Int×Int×Int))} (hp:aN.p F ac ae = some r):∃ v H',aN.tw F ⟨ap,ag,aq⟩ ae H = some (v,H')∧aN.Q H (Rs.ow cZ ⟨ap,ag,aq⟩ (ePair (eInt .i64) (ePair (eInt .i64) (ePair (eInt .i64) (ePair (eInt .i64) (eInt .i64))))).z c_ eW da :: R0) R0 ap ag aq cZ c_ da r v H':=by
 obtain ⟨w0,aQ⟩:=h0
 subst aV
 unfold aN.p at hp
 unfold aN.tw aN.twX
 have s0:=w0.rf
 exact aN.l13_P F rfl ⟨w0,s0,aQ⟩ hp
def br.Q (H0:Hp) (Ri R0:List Rs) (ap:ON) (ag:Nat) (aq:Cap) (cZ:Bool) (c_ da:List AV) (r:Int×(List (Int×Int×Int×Int×Int))) (v:AV) (H':Hp):Prop:=∃ gy:List AV,v = (.int .i64 r.1)∧ag = (r.2).length∧Out H0 Ri H' (Rs.ow cZ ⟨ap,ag,aq⟩ (ePair (eInt .i64) (ePair (eInt .i64) (ePair (eInt .i64) (ePair (eInt .i64) (eInt .i64))))).z c_ gy da :: R0) fun R=>CR (ePair (eInt .i64) (ePair (eInt .i64) (ePair (eInt .i64) (ePair (eInt .i64) (eInt .i64))))) H' R gy (r.2)
def br.p (F:Nat) (ac:List (Int×Int×Int×Int×Int)) (ar:Int):Option (Int×(List (Int×Int×Int×Int×Int))):=(aN.p F ac ar).bind fun r3=>some (r3.1,r3.2)
theorem br.P {F:Nat} {ap:ON} {ag:Nat} {aq:Cap} {ac:List (Int×Int×Int×Int×Int)} {cZ:Bool} {c_ da eW:List AV} {ab ar:Int} {H:Hp} {R0:List Rs} (aV:ag = ac.length) (h0:Inn H (Rs.ow cZ ⟨ap,ag,aq⟩ (ePair (eInt .i64) (ePair (eInt .i64) (ePair (eInt .i64) (ePair (eInt .i64) (eInt .i64))))).z c_ eW da :: R0) fun R=>CR (ePair (eInt .i64) (ePair (eInt .i64) (ePair (eInt .i64) (ePair (eInt .i64) (eInt .i64))))) H R eW ac) {r:Int×(List (Int×Int×Int×Int×Int))} (hp:br.p F ac ar = some r):∃ v H',br.tw F ⟨ap,ag,aq⟩ ab ar H = some (v,H')∧br.Q H (Rs.ow cZ ⟨ap,ag,aq⟩ (ePair (eInt .i64) (ePair (eInt .i64) (ePair (eInt .i64) (ePair (eInt .i64) (eInt .i64))))).z c_ eW da :: R0) R0 ap ag aq cZ c_ da r v H':=by
 obtain ⟨w0,aQ⟩:=h0
 subst aV
 unfold br.p at hp
 unfold br.tw br.twX
 have s0:=w0.rf
 refine new_k w0 fun H1 w1 s1=>?_
 refine bind_ex (ldSl_of (w1.ld (i:=0) rfl rfl)) ?_
 obtain ⟨w2,s2⟩:=w1.pick' [1,0] 2 rfl rfl rfl
 dsimp only [pk,pks,nth,List.drop] at w2 s2
 obtain ⟨r3,e3,hp⟩:=bind_some' hp
 refine call_ex (aN.P rfl ⟨w2,(aQ.step (s1.trans s2))⟩ e3) ?_
 rintro _ H4 ⟨zU,rfl,hl4_0,w4,s4,f4_0⟩
 refine bind_ex rfl ?_
 obtain ⟨w5,s5⟩:=w4.pick' [0] 2 rfl rfl rfl
 dsimp only [pk,pks,nth,List.drop] at w5 s5
 obtain rfl:=Option.some.inj hp
 exact ⟨_,_,rfl,_,rfl,hl4_0,w5,(s0.trans (s1.trans (s2.trans (s4.trans s5)))),(f4_0.step s5)⟩
def aO.Q (H0:Hp) (Ri R0:List Rs) (ap:ON) (ag:Nat) (aq:Cap) (cZ:Bool) (c_ da:List AV) (r:Int×List Int) (v:AV) (H':Hp):Prop:=∃ gy:List AV,v = (.int .i64 r.1)∧ag = (r.2).length∧Out H0 Ri H' (Rs.ow cZ ⟨ap,ag,aq⟩ (eInt .i64).z c_ gy da :: R0) fun R=>CR (eInt .i64) H' R gy (r.2)
def aO.S13 (H0:Hp) (Ri R0:List Rs) (cP:ON) (cp:Nat) (cQ:Cap) (eo:Bool) (ep er:List AV) (C:Sl→Int→Int→Hp→OA) (pC:List Int→Int→Int→Option (Int×List Int)):Prop:=∀ {aW:List Int} {gZ:List AV} {aD bc:Int},∀ {H:Hp},cp = aW.length→(Out H0 Ri H (Rs.ow eo ⟨cP,cp,cQ⟩ (eInt .i64).z ep gZ er :: R0) fun R=>CR (eInt .i64) H R gZ aW)→∀ {r:Int×List Int},pC aW aD bc = some r→∃ v H',C ⟨cP,cp,cQ⟩ aD bc H = some (v,H')∧aO.Q H0 Ri R0 cP cp cQ eo ep er r v H'
def aO.pl13 (F:Nat) :Nat→List Int→Int→Int→Option (Int×List Int)
 | 0,_,_,_=>none
 | k + 1,aW,aD,bc=>(bif (decide (bc < (aW.length:Int))) then ((ix aW bc).bind fun n1=>(some (aW.set n1 aD)).bind fun l2=>aO.pl13 F k l2 (IntKind.i64.wrap (aD + 1)) (IntKind.i64.wrap (bc + 1))) else (some (aD,aW)))
termination_by structural n=>n
theorem aO.l13_P {F:Nat} {H0:Hp} {Ri R0:List Rs} {cP:ON} {cp:Nat} {cQ:Cap} {eo:Bool} {ep er:List AV} :∀ k,aO.S13 H0 Ri R0 cP cp cQ eo ep er (aO.l13 F   k) (aO.pl13 F  k):=by
 intro k
 induction k with
 | zero=>
  intro aW gZ aD bc H eE h0 r hp
  exact nomatch (show (none:Option (Int×List Int)) = some r from hp)
 | succ k ih=>
  intro aW gZ aD bc H eE h0 r hp
  obtain ⟨w0,s0,ea⟩:=h0
  subst eE
  unfold aO.pl13 at hp
  unfold aO.l13
  refine bif_ex (fun hb=>?_) (fun hb=>?_)
  ·replace hp:=bif_t hb hp
   obtain ⟨n1,g1,hp⟩:=bind_some' hp
   obtain ⟨p1,q1,i1,h1,j1⟩:=W.ixo (E:=(eInt .i64)) w0 (i:=0) rfl rfl ea g1
   refine bind_ex i1 ?_
   obtain ⟨l2,e2,hp⟩:=bind_some' hp
   refine sto_k (eInt .i64) w0 (i:=0) (j:=0) (p:=p1) rfl rfl ea g1 i1 e2 rfl rfl (fun _ h=>by have h:_ = [_]:=h; subst h; exact rfl) fun H3 k3 w3 s3 c3=>?_
   dsimp only [List.set] at w3 s3 c3
   exact ih ((st_len e2).symm) ⟨w3,(s0.trans s3),c3⟩ hp
  ·replace hp:=bif_f hb hp
   obtain rfl:=Option.some.inj hp
   exact ⟨_,_,rfl,_,rfl,rfl,w0,s0,ea⟩
def aO.p (F:Nat) (ac:List Int) (ae:Int):Option (Int×List Int):=aO.pl13 F F ac ae 0
theorem aO.P {F:Nat} {ap:ON} {ag:Nat} {aq:Cap} {ac:List Int} {cZ:Bool} {c_ da eW:List AV} {ae:Int} {H:Hp} {R0:List Rs} (aV:ag = ac.length) (h0:Inn H (Rs.ow cZ ⟨ap,ag,aq⟩ (eInt .i64).z c_ eW da :: R0) fun R=>CR (eInt .i64) H R eW ac) {r:Int×List Int} (hp:aO.p F ac ae = some r):∃ v H',aO.tw F ⟨ap,ag,aq⟩ ae H = some (v,H')∧aO.Q H (Rs.ow cZ ⟨ap,ag,aq⟩ (eInt .i64).z c_ eW da :: R0) R0 ap ag aq cZ c_ da r v H':=by
 obtain ⟨w0,aQ⟩:=h0
 subst aV
 unfold aO.p at hp
 unfold aO.tw aO.twX
 have s0:=w0.rf
 exact aO.l13_P F rfl ⟨w0,s0,aQ⟩ hp
def aG.Q (H0:Hp) (Ri R0:List Rs)  (r:Int) (v:AV) (H':Hp):Prop:=v = (.int .i64 r)∧Out H0 Ri H' (R0) fun R=>True
def aG.S13 (H0:Hp) (Ri R0:List Rs)  (C:Sl→Int→Int→Hp→OA) (pC:List Int→Int→Int→Option (Int)):Prop:=∀ {dZ:ON} {cY:Nat} {d_:Cap} {aW:List Int} {aD bc:Int},∀ {H:Hp},cY = aW.length→(Out H0 Ri H R0 fun R=>ROs (eInt .i64) H R ⟨dZ,cY,d_⟩ aW)→∀ {r:Int},pC aW aD bc = some r→∃ v H',C ⟨dZ,cY,d_⟩ aD bc H = some (v,H')∧aG.Q H0 Ri R0  r v H'
def aG.pl13 (F:Nat) :Nat→List Int→Int→Int→Option (Int)
 | 0,_,_,_=>none
 | k + 1,aW,aD,bc=>(bif (decide (bc < (aW.length:Int))) then ((ix aW bc).bind fun n1=>(bif ((gt aW n1) != aD) then (some (-1)) else (aG.pl13 F k aW (IntKind.i64.wrap (aD + 1)) (IntKind.i64.wrap (bc + 1))))) else (some aD))
termination_by structural n=>n
theorem aG.l13_P {F:Nat} {H0:Hp} {Ri R0:List Rs}  :∀ k,aG.S13 H0 Ri R0  (aG.l13 F   k) (aG.pl13 F  k):=by
 intro k
 induction k with
 | zero=>
  intro dZ cY d_ aW aD bc H eE h0 r hp
  exact nomatch (show (none:Option (Int)) = some r from hp)
 | succ k ih=>
  intro dZ cY d_ aW aD bc H eE h0 r hp
  obtain ⟨w0,s0,ea⟩:=h0
  subst eE
  unfold aG.pl13 at hp
  unfold aG.l13
  refine bif_ex (fun hb=>?_) (fun hb=>?_)
  ·replace hp:=bif_t hb hp
   obtain ⟨n1,g1,hp⟩:=bind_some' hp
   obtain ⟨p1,q1,i1,h1,j1⟩:=ROs.ixr ea rfl g1
   refine bind_ex i1 ?_
   have h1:_ = [_]:=h1
   subst h1
   refine bind_ex (ldI_of (j1 0 _ rfl)) ?_
   refine bif_ex (fun hb=>?_) (fun hb=>?_)
   ·replace hp:=bif_t hb hp
    obtain rfl:=Option.some.inj hp
    exact ⟨_,_,rfl,rfl,w0,s0,trivial⟩
   ·replace hp:=bif_f hb hp
    exact ih rfl ⟨w0,s0,ea⟩ hp
  ·replace hp:=bif_f hb hp
   obtain rfl:=Option.some.inj hp
   exact ⟨_,_,rfl,rfl,w0,s0,trivial⟩
def aG.p (F:Nat) (ac:List Int) (ae:Int):Option (Int):=aG.pl13 F F ac ae 0
theorem aG.P {F:Nat} {ap:ON} {ag:Nat} {aq:Cap} {ac:List Int} {ae:Int} {H:Hp} {R0:List Rs} (aV:ag = ac.length) (h0:Inn H R0 fun R=>ROs (eInt .i64) H R ⟨ap,ag,aq⟩ ac) {r:Int} (hp:aG.p F ac ae = some r):∃ v H',aG.tw F ⟨ap,ag,aq⟩ ae H = some (v,H')∧aG.Q H R0 R0  r v H':=by
 obtain ⟨w0,aQ⟩:=h0
 subst aV
 unfold aG.p at hp
 unfold aG.tw aG.twX
 have s0:=w0.rf
 exact aG.l13_P F rfl ⟨w0,s0,aQ⟩ hp
def bB.Q (H0:Hp) (Ri R0:List Rs)  (r:Bool) (v:AV) (H':Hp):Prop:=v = (.bool r)∧Out H0 Ri H' (R0) fun R=>True
def bB.p (F:Nat) (ac:List (Int×Int×Int×Int×Int)) (ab:Int):Option (Bool):=(bl.p F ac 1048576).bind fun r2=>(bif (decide (r2 < 0)) then (some true) else ((bd.p F ac ab).bind fun r5=>(bo.p F r5.1 r5.2).bind fun r8=>(bd.p F ac ab).bind fun r11=>(bn.p F r11.1 r11.2).bind fun r18=>(aE.p F r18.1 r8.1).bind fun r24=>(bif (!r24) then (some false) else ((bif (r18.2 != r8.2) then (some false) else ((bd.p F ac ab).bind fun r30=>(bq.p F r11.1 r11.2 r30.1 r30.2).bind fun r36=>(bif (!r36) then (some false) else ((br.p F r11.1 1).bind fun r41=>(bif (decide (r41.1 < 0)) then (some false) else ((aE.p F r18.1 r8.1).bind fun r47=>(bif (!r47) then (some false) else ((bif (r18.2 != r8.2) then (some false) else ((aO.p F r18.1 1).bind fun r53=>(aG.p F r53.2 1).bind fun r56=>(bif (decide (r56 < 0)) then (some false) else ((bif (r56 != r53.1) then (some false) else ((bd.p F ac ab).bind fun r61=>(bn.p F r61.1 r61.2).bind fun r64=>(aE.p F r64.1 r8.1).bind fun r70=>(bif (!r70) then (some false) else ((bif (r64.2 != r8.2) then (some false) else ((aG.p F r53.2 1).bind fun r78=>(bif (decide (r78 < 0)) then (some false) else ((bif (r78 != r53.1) then (some false) else (some true))))))))))))))))))))))))))
theorem bB.P {F:Nat} {ap:ON} {ag:Nat} {aq:Cap} {ac:List (Int×Int×Int×Int×Int)} {ab:Int} {H:Hp} {R0:List Rs} (aV:ag = ac.length) (h0:Inn H R0 fun R=>ROs (ePair (eInt .i64) (ePair (eInt .i64) (ePair (eInt .i64) (ePair (eInt .i64) (eInt .i64))))) H R ⟨ap,ag,aq⟩ ac) {r:Bool} (hp:bB.p F ac ab = some r):∃ v H',bB.tw F ⟨ap,ag,aq⟩ ab H = some (v,H')∧bB.Q H R0 R0  r v H':=by
 obtain ⟨w0,aQ⟩:=h0
 subst aV
 unfold bB.p at hp
 unfold bB.tw bB.twX
 have s0:=w0.rf
 refine new_k w0 fun H1 w1 s1=>?_
 refine bind_ex (ldSl_of (w1.ld (i:=0) rfl rfl)) ?_
 refine bind_ex (ldI_of (w1.ld (i:=0) rfl rfl)) ?_
 obtain ⟨r2,e2,hp⟩:=bind_some' hp
 refine call_ex (bl.P rfl ⟨w1,(aQ.step s1)⟩ e2) ?_
 rintro _ H3 ⟨rfl,w3,s3,_⟩
 refine bind_ex rfl ?_
 refine bif_ex (fun hb=>?_) (fun hb=>?_)
 ·replace hp:=bif_t hb hp
  obtain ⟨w4,s4⟩:=w3.pick' [] 1 rfl rfl rfl
  dsimp only [pk,pks,nth,List.drop] at w4 s4
  obtain rfl:=Option.some.inj hp
  exact ⟨_,_,rfl,rfl,w4,(s0.trans (s1.trans (s3.trans s4))),trivial⟩
 ·replace hp:=bif_f hb hp
  refine bind_ex (ldSl_of (w3.ld (i:=0) rfl rfl)) ?_
  refine bind_ex (ldI_of (w3.ld (i:=0) rfl rfl)) ?_
  obtain ⟨r5,e5,hp⟩:=bind_some' hp
  refine call_ex (bd.P rfl ⟨w3,(aQ.step (s1.trans s3))⟩ e5) ?_
  rintro _ H6 ⟨o0a_6,o0n_6,o0c_6,o0k_6,rfl,rfl,w6,s6,f6_0⟩
  refine bind_ex rfl ?_
  refine bind_ex rfl ?_
  refine bind_ex rfl ?_
  refine bind_ex rfl ?_
  refine bind_ex rfl ?_
  have f7:=W.borrow1 (ePair (eInt .i64) (ePair (eInt .i64) (ePair (eInt .i64) (ePair (eInt .i64) (eInt .i64))))) w6 f6_0
  obtain ⟨w7,s7⟩:=w6.right1
  obtain ⟨r8,e8,hp⟩:=bind_some' hp
  refine call_ex (bo.P rfl ⟨w7,f7⟩ e8) ?_
  rintro _ H9 ⟨o0a_9,o0n_9,o0c_9,o0k_9,rfl,rfl,w9,s9,f9_0⟩
  obtain ⟨w10,s10⟩:=W.frame1 w6 w9 s9
  refine bind_ex rfl ?_
  refine bind_ex rfl ?_
  refine bind_ex rfl ?_
  refine bind_ex rfl ?_
  refine bind_ex rfl ?_
  refine bind_ex (ldSl_of (w10.ld (i:=2) rfl rfl)) ?_
  refine bind_ex (ldI_of (w10.ld (i:=2) rfl rfl)) ?_
  obtain ⟨r11,e11,hp⟩:=bind_some' hp
  refine call_ex (bd.P rfl ⟨w10,(aQ.step (s1.trans (s3.trans (s6.trans s10))))⟩ e11) ?_
  rintro _ H12 ⟨o0a_12,o0n_12,o0c_12,o0k_12,rfl,rfl,w12,s12,f12_0⟩
  refine bind_ex rfl ?_
  refine bind_ex rfl ?_
  refine bind_ex rfl ?_
  refine bind_ex rfl ?_
  refine bind_ex rfl ?_
  refine new_k w12 fun H13 w13 s13=>?_
  refine st_k w13 (i:=0) rfl rfl rfl fun H14 w14 s14=>?_
  dsimp only [List.set] at w14 s14
  refine st_k w14 (i:=0) rfl rfl rfl fun H15 w15 s15=>?_
  dsimp only [List.set] at w15 s15
  refine bind_ex (ldSl_of (w15.ld (i:=0) rfl rfl)) ?_
  refine bind_ex (ldI_of (w15.ld (i:=0) rfl rfl)) ?_
  obtain ⟨w16,s16⟩:=w15.pick' [1,0,2,3,4] 5 rfl rfl rfl
  dsimp only [pk,pks,nth,List.drop] at w16 s16
  have f17:=W.borrow1 (ePair (eInt .i64) (ePair (eInt .i64) (ePair (eInt .i64) (ePair (eInt .i64) (eInt .i64))))) w16 (f12_0.step (s13.trans (s14.trans (s15.trans s16))))
  obtain ⟨w17,s17⟩:=w16.right1
  obtain ⟨r18,e18,hp⟩:=bind_some' hp
  refine call_ex (bn.P rfl ⟨w17,f17⟩ e18) ?_
  rintro _ H19 ⟨o0a_19,o0n_19,o0c_19,o0k_19,rfl,rfl,w19,s19,f19_0⟩
  obtain ⟨w20,s20⟩:=W.frame1 w16 w19 s19
  refine bind_ex rfl ?_
  refine bind_ex rfl ?_
  refine bind_ex rfl ?_
  refine bind_ex rfl ?_
  refine bind_ex rfl ?_
  obtain ⟨w21,s21⟩:=w20.pick' [1,4,0,2,3,5] 6 rfl rfl rfl
  dsimp only [pk,pks,nth,List.drop] at w21 s21
  have f22:=W.borrow1 (eInt .i64) w21 ((CR.flat (eInt_flat .i64) f19_0).step s21)
  obtain ⟨w22,s22⟩:=w21.right1
  have f23:=W.borrow1 (eInt .i64) w22 (((CR.flat (eInt_flat .i64) f9_0).step (s12.trans (s13.trans (s14.trans (s15.trans (s16.trans (s20.trans s21))))))).step s22)
  obtain ⟨w23,s23⟩:=w22.right1
  obtain ⟨r24,e24,hp⟩:=bind_some' hp
  refine call_ex (aE.P rfl rfl ⟨w23,(f22.step s23),f23⟩ e24) ?_
  rintro _ H25 ⟨rfl,w25,s25,_⟩
  obtain ⟨w26,s26⟩:=W.frame1 w22 w25 s25
  obtain ⟨w27,s27⟩:=W.frame1 w21 w26 s26
  refine bind_ex rfl ?_
  refine bif_ex (fun hb=>?_) (fun hb=>?_)
  ·replace hp:=bif_t hb hp
   obtain ⟨w28,s28⟩:=w27.pick' [] 6 rfl rfl rfl
   dsimp only [pk,pks,nth,List.drop] at w28 s28
   obtain rfl:=Option.some.inj hp
   exact ⟨_,_,rfl,rfl,w28,(s0.trans (s1.trans (s3.trans (s6.trans (s10.trans (s12.trans (s13.trans (s14.trans (s15.trans (s16.trans (s20.trans (s21.trans (s27.trans s28))))))))))))),trivial⟩
  ·replace hp:=bif_f hb hp
   refine bif_ex (fun hb=>?_) (fun hb=>?_)
   ·replace hp:=bif_t hb hp
    obtain ⟨w29,s29⟩:=w27.pick' [] 6 rfl rfl rfl
    dsimp only [pk,pks,nth,List.drop] at w29 s29
    obtain rfl:=Option.some.inj hp
    exact ⟨_,_,rfl,rfl,w29,(s0.trans (s1.trans (s3.trans (s6.trans (s10.trans (s12.trans (s13.trans (s14.trans (s15.trans (s16.trans (s20.trans (s21.trans (s27.trans s29))))))))))))),trivial⟩
   ·replace hp:=bif_f hb hp
    refine bind_ex (ldSl_of (w27.ld (i:=3) rfl rfl)) ?_
    refine bind_ex (ldI_of (w27.ld (i:=3) rfl rfl)) ?_
    refine bind_ex (ldSl_of (w27.ld (i:=5) rfl rfl)) ?_
    refine bind_ex (ldI_of (w27.ld (i:=5) rfl rfl)) ?_
    obtain ⟨r30,e30,hp⟩:=bind_some' hp
    refine call_ex (bd.P rfl ⟨w27,(aQ.step (s1.trans (s3.trans (s6.trans (s10.trans (s12.trans (s13.trans (s14.trans (s15.trans (s16.trans (s20.trans (s21.trans s27))))))))))))⟩ e30) ?_
    rintro _ H31 ⟨o0a_31,o0n_31,o0c_31,o0k_31,rfl,rfl,w31,s31,f31_0⟩
    refine bind_ex rfl ?_
    refine bind_ex rfl ?_
    refine bind_ex rfl ?_
    refine bind_ex rfl ?_
    refine bind_ex rfl ?_
    refine ifs_ex (W.cons_of (Rn:=[_]) w27 w31 s31) ?_
    obtain ⟨w33,s33⟩:=w31.pick' [3,0,1,2,4,5,6] 7 rfl rfl rfl
    dsimp only [pk,pks,nth,List.drop] at w33 s33
    have f34:=W.borrow1 (ePair (eInt .i64) (ePair (eInt .i64) (ePair (eInt .i64) (ePair (eInt .i64) (eInt .i64))))) w33 (f12_0.step (s13.trans (s14.trans (s15.trans (s16.trans (s20.trans (s21.trans (s27.trans (s31.trans s33)))))))))
    obtain ⟨w34,s34⟩:=w33.right1
    have f35:=W.borrow1 (ePair (eInt .i64) (ePair (eInt .i64) (ePair (eInt .i64) (ePair (eInt .i64) (eInt .i64))))) w34 ((f31_0.step s33).step s34)
    obtain ⟨w35,s35⟩:=w34.right1
    obtain ⟨r36,e36,hp⟩:=bind_some' hp
    refine call_ex (bq.P rfl rfl ⟨w35,(f34.step s35),f35⟩ e36) ?_
    rintro _ H37 ⟨rfl,w37,s37,_⟩
    obtain ⟨w38,s38⟩:=W.frame1 w34 w37 s37
    obtain ⟨w39,s39⟩:=W.frame1 w33 w38 s38
    refine bind_ex rfl ?_
    refine bif_ex (fun hb=>?_) (fun hb=>?_)
    ·replace hp:=bif_t hb hp
     obtain ⟨w40,s40⟩:=w39.pick' [] 7 rfl rfl rfl
     dsimp only [pk,pks,nth,List.drop] at w40 s40
     obtain rfl:=Option.some.inj hp
     exact ⟨_,_,rfl,rfl,w40,(s0.trans (s1.trans (s3.trans (s6.trans (s10.trans (s12.trans (s13.trans (s14.trans (s15.trans (s16.trans (s20.trans (s21.trans (s27.trans (s31.trans (s33.trans (s39.trans s40)))))))))))))))),trivial⟩
    ·replace hp:=bif_f hb hp
     refine bind_ex (ldSl_of (w39.ld (i:=4) rfl rfl)) ?_
     refine bind_ex (ldI_of (w39.ld (i:=4) rfl rfl)) ?_
     obtain ⟨r41,e41,hp⟩:=bind_some' hp
     refine call_ex (br.P rfl ⟨w39,(f12_0.step (s13.trans (s14.trans (s15.trans (s16.trans (s20.trans (s21.trans (s27.trans (s31.trans (s33.trans s39))))))))))⟩ e41) ?_
     rintro _ H42 ⟨zV,rfl,hl42_0,w42,s42,f42_0⟩
     refine bind_ex rfl ?_
     refine bif_ex (fun hb=>?_) (fun hb=>?_)
     ·replace hp:=bif_t hb hp
      obtain ⟨w43,s43⟩:=w42.pick' [] 7 rfl rfl rfl
      dsimp only [pk,pks,nth,List.drop] at w43 s43
      obtain rfl:=Option.some.inj hp
      exact ⟨_,_,rfl,rfl,w43,(s0.trans (s1.trans (s3.trans (s6.trans (s10.trans (s12.trans (s13.trans (s14.trans (s15.trans (s16.trans (s20.trans (s21.trans (s27.trans (s31.trans (s33.trans (s39.trans (s42.trans s43))))))))))))))))),trivial⟩
     ·replace hp:=bif_f hb hp
      obtain ⟨w44,s44⟩:=w42.pick' [2,3,0,1,4,5,6] 7 rfl rfl rfl
      dsimp only [pk,pks,nth,List.drop] at w44 s44
      have f45:=W.borrow1 (eInt .i64) w44 ((CR.flat (eInt_flat .i64) f19_0).step (s21.trans (s27.trans (s31.trans (s33.trans (s39.trans (s42.trans s44)))))))
      obtain ⟨w45,s45⟩:=w44.right1
      have f46:=W.borrow1 (eInt .i64) w45 (((CR.flat (eInt_flat .i64) f9_0).step (s12.trans (s13.trans (s14.trans (s15.trans (s16.trans (s20.trans (s21.trans (s27.trans (s31.trans (s33.trans (s39.trans (s42.trans s44))))))))))))).step s45)
      obtain ⟨w46,s46⟩:=w45.right1
      obtain ⟨r47,e47,hp⟩:=bind_some' hp
      refine call_ex (aE.P rfl rfl ⟨w46,(f45.step s46),f46⟩ e47) ?_
      rintro _ H48 ⟨rfl,w48,s48,_⟩
      obtain ⟨w49,s49⟩:=W.frame1 w45 w48 s48
      obtain ⟨w50,s50⟩:=W.frame1 w44 w49 s49
      refine bind_ex rfl ?_
      refine bif_ex (fun hb=>?_) (fun hb=>?_)
      ·replace hp:=bif_t hb hp
       obtain ⟨w51,s51⟩:=w50.pick' [] 7 rfl rfl rfl
       dsimp only [pk,pks,nth,List.drop] at w51 s51
       obtain rfl:=Option.some.inj hp
       exact ⟨_,_,rfl,rfl,w51,(s0.trans (s1.trans (s3.trans (s6.trans (s10.trans (s12.trans (s13.trans (s14.trans (s15.trans (s16.trans (s20.trans (s21.trans (s27.trans (s31.trans (s33.trans (s39.trans (s42.trans (s44.trans (s50.trans s51))))))))))))))))))),trivial⟩
      ·replace hp:=bif_f hb hp
       refine bif_ex (fun hb=>?_) (fun hb=>?_)
       ·replace hp:=bif_t hb hp
        obtain ⟨w52,s52⟩:=w50.pick' [] 7 rfl rfl rfl
        dsimp only [pk,pks,nth,List.drop] at w52 s52
        obtain rfl:=Option.some.inj hp
        exact ⟨_,_,rfl,rfl,w52,(s0.trans (s1.trans (s3.trans (s6.trans (s10.trans (s12.trans (s13.trans (s14.trans (s15.trans (s16.trans (s20.trans (s21.trans (s27.trans (s31.trans (s33.trans (s39.trans (s42.trans (s44.trans (s50.trans s52))))))))))))))))))),trivial⟩
       ·replace hp:=bif_f hb hp
        obtain ⟨r53,e53,hp⟩:=bind_some' hp
        refine call_ex (aO.P rfl ⟨w50,((CR.flat (eInt_flat .i64) f19_0).step (s21.trans (s27.trans (s31.trans (s33.trans (s39.trans (s42.trans (s44.trans s50))))))))⟩ e53) ?_
        rintro _ H54 ⟨zW,rfl,hl54_0,w54,s54,f54_0⟩
        refine bind_ex rfl ?_
        have f55:=W.borrow1 (eInt .i64) w54 f54_0
        obtain ⟨w55,s55⟩:=w54.right1
        obtain ⟨r56,e56,hp⟩:=bind_some' hp
        refine call_ex (aG.P hl54_0 ⟨w55,f55⟩ e56) ?_
        rintro _ H57 ⟨rfl,w57,s57,_⟩
        obtain ⟨w58,s58⟩:=W.frame1 w54 w57 s57
        refine bind_ex rfl ?_
        refine bif_ex (fun hb=>?_) (fun hb=>?_)
        ·replace hp:=bif_t hb hp
         obtain ⟨w59,s59⟩:=w58.pick' [] 7 rfl rfl rfl
         dsimp only [pk,pks,nth,List.drop] at w59 s59
         obtain rfl:=Option.some.inj hp
         exact ⟨_,_,rfl,rfl,w59,(s0.trans (s1.trans (s3.trans (s6.trans (s10.trans (s12.trans (s13.trans (s14.trans (s15.trans (s16.trans (s20.trans (s21.trans (s27.trans (s31.trans (s33.trans (s39.trans (s42.trans (s44.trans (s50.trans (s54.trans (s58.trans s59))))))))))))))))))))),trivial⟩
        ·replace hp:=bif_f hb hp
         refine bif_ex (fun hb=>?_) (fun hb=>?_)
         ·replace hp:=bif_t hb hp
          obtain ⟨w60,s60⟩:=w58.pick' [] 7 rfl rfl rfl
          dsimp only [pk,pks,nth,List.drop] at w60 s60
          obtain rfl:=Option.some.inj hp
          exact ⟨_,_,rfl,rfl,w60,(s0.trans (s1.trans (s3.trans (s6.trans (s10.trans (s12.trans (s13.trans (s14.trans (s15.trans (s16.trans (s20.trans (s21.trans (s27.trans (s31.trans (s33.trans (s39.trans (s42.trans (s44.trans (s50.trans (s54.trans (s58.trans s60))))))))))))))))))))),trivial⟩
         ·replace hp:=bif_f hb hp
          refine bind_ex (ldSl_of (w58.ld (i:=6) rfl rfl)) ?_
          refine bind_ex (ldI_of (w58.ld (i:=6) rfl rfl)) ?_
          obtain ⟨r61,e61,hp⟩:=bind_some' hp
          refine call_ex (bd.P rfl ⟨w58,(aQ.step (s1.trans (s3.trans (s6.trans (s10.trans (s12.trans (s13.trans (s14.trans (s15.trans (s16.trans (s20.trans (s21.trans (s27.trans (s31.trans (s33.trans (s39.trans (s42.trans (s44.trans (s50.trans (s54.trans s58))))))))))))))))))))⟩ e61) ?_
          rintro _ H62 ⟨o0a_62,o0n_62,o0c_62,o0k_62,rfl,rfl,w62,s62,f62_0⟩
          refine bind_ex rfl ?_
          refine bind_ex rfl ?_
          refine bind_ex rfl ?_
          refine bind_ex rfl ?_
          refine bind_ex rfl ?_
          have f63:=W.borrow1 (ePair (eInt .i64) (ePair (eInt .i64) (ePair (eInt .i64) (ePair (eInt .i64) (eInt .i64))))) w62 f62_0
          obtain ⟨w63,s63⟩:=w62.right1
          obtain ⟨r64,e64,hp⟩:=bind_some' hp
          refine call_ex (bn.P rfl ⟨w63,f63⟩ e64) ?_
          rintro _ H65 ⟨o0a_65,o0n_65,o0c_65,o0k_65,rfl,rfl,w65,s65,f65_0⟩
          obtain ⟨w66,s66⟩:=W.frame1 w62 w65 s65
          refine bind_ex rfl ?_
          refine bind_ex rfl ?_
          refine bind_ex rfl ?_
          refine bind_ex rfl ?_
          refine bind_ex rfl ?_
          obtain ⟨w67,s67⟩:=w66.pick' [1,3,0,2,4,5,6,7,8] 9 rfl rfl rfl
          dsimp only [pk,pks,nth,List.drop] at w67 s67
          have f68:=W.borrow1 (eInt .i64) w67 ((CR.flat (eInt_flat .i64) f65_0).step s67)
          obtain ⟨w68,s68⟩:=w67.right1
          have f69:=W.borrow1 (eInt .i64) w68 (((CR.flat (eInt_flat .i64) f9_0).step (s12.trans (s13.trans (s14.trans (s15.trans (s16.trans (s20.trans (s21.trans (s27.trans (s31.trans (s33.trans (s39.trans (s42.trans (s44.trans (s50.trans (s54.trans (s58.trans (s62.trans (s66.trans s67))))))))))))))))))).step s68)
          obtain ⟨w69,s69⟩:=w68.right1
          obtain ⟨r70,e70,hp⟩:=bind_some' hp
          refine call_ex (aE.P rfl rfl ⟨w69,(f68.step s69),f69⟩ e70) ?_
          rintro _ H71 ⟨rfl,w71,s71,_⟩
          obtain ⟨w72,s72⟩:=W.frame1 w68 w71 s71
          obtain ⟨w73,s73⟩:=W.frame1 w67 w72 s72
          refine bind_ex rfl ?_
          refine bif_ex (fun hb=>?_) (fun hb=>?_)
          ·replace hp:=bif_t hb hp
           obtain ⟨w74,s74⟩:=w73.pick' [] 9 rfl rfl rfl
           dsimp only [pk,pks,nth,List.drop] at w74 s74
           obtain rfl:=Option.some.inj hp
           exact ⟨_,_,rfl,rfl,w74,(s0.trans (s1.trans (s3.trans (s6.trans (s10.trans (s12.trans (s13.trans (s14.trans (s15.trans (s16.trans (s20.trans (s21.trans (s27.trans (s31.trans (s33.trans (s39.trans (s42.trans (s44.trans (s50.trans (s54.trans (s58.trans (s62.trans (s66.trans (s67.trans (s73.trans s74))))))))))))))))))))))))),trivial⟩
          ·replace hp:=bif_f hb hp
           refine bif_ex (fun hb=>?_) (fun hb=>?_)
           ·replace hp:=bif_t hb hp
            obtain ⟨w75,s75⟩:=w73.pick' [] 9 rfl rfl rfl
            dsimp only [pk,pks,nth,List.drop] at w75 s75
            obtain rfl:=Option.some.inj hp
            exact ⟨_,_,rfl,rfl,w75,(s0.trans (s1.trans (s3.trans (s6.trans (s10.trans (s12.trans (s13.trans (s14.trans (s15.trans (s16.trans (s20.trans (s21.trans (s27.trans (s31.trans (s33.trans (s39.trans (s42.trans (s44.trans (s50.trans (s54.trans (s58.trans (s62.trans (s66.trans (s67.trans (s73.trans s75))))))))))))))))))))))))),trivial⟩
           ·replace hp:=bif_f hb hp
            obtain ⟨w76,s76⟩:=w73.pick' [3,0,1,2,4,5,6,7,8] 9 rfl rfl rfl
            dsimp only [pk,pks,nth,List.drop] at w76 s76
            have f77:=W.borrow1 (eInt .i64) w76 (f54_0.step (s58.trans (s62.trans (s66.trans (s67.trans (s73.trans s76))))))
            obtain ⟨w77,s77⟩:=w76.right1
            obtain ⟨r78,e78,hp⟩:=bind_some' hp
            refine call_ex (aG.P hl54_0 ⟨w77,f77⟩ e78) ?_
            rintro _ H79 ⟨rfl,w79,s79,_⟩
            obtain ⟨w80,s80⟩:=W.frame1 w76 w79 s79
            refine bind_ex rfl ?_
            refine bif_ex (fun hb=>?_) (fun hb=>?_)
            ·replace hp:=bif_t hb hp
             obtain ⟨w81,s81⟩:=w80.pick' [] 9 rfl rfl rfl
             dsimp only [pk,pks,nth,List.drop] at w81 s81
             obtain rfl:=Option.some.inj hp
             exact ⟨_,_,rfl,rfl,w81,(s0.trans (s1.trans (s3.trans (s6.trans (s10.trans (s12.trans (s13.trans (s14.trans (s15.trans (s16.trans (s20.trans (s21.trans (s27.trans (s31.trans (s33.trans (s39.trans (s42.trans (s44.trans (s50.trans (s54.trans (s58.trans (s62.trans (s66.trans (s67.trans (s73.trans (s76.trans (s80.trans s81))))))))))))))))))))))))))),trivial⟩
            ·replace hp:=bif_f hb hp
             refine bif_ex (fun hb=>?_) (fun hb=>?_)
             ·replace hp:=bif_t hb hp
              obtain ⟨w82,s82⟩:=w80.pick' [] 9 rfl rfl rfl
              dsimp only [pk,pks,nth,List.drop] at w82 s82
              obtain rfl:=Option.some.inj hp
              exact ⟨_,_,rfl,rfl,w82,(s0.trans (s1.trans (s3.trans (s6.trans (s10.trans (s12.trans (s13.trans (s14.trans (s15.trans (s16.trans (s20.trans (s21.trans (s27.trans (s31.trans (s33.trans (s39.trans (s42.trans (s44.trans (s50.trans (s54.trans (s58.trans (s62.trans (s66.trans (s67.trans (s73.trans (s76.trans (s80.trans s82))))))))))))))))))))))))))),trivial⟩
             ·replace hp:=bif_f hb hp
              obtain ⟨w83,s83⟩:=w80.pick' [] 9 rfl rfl rfl
              dsimp only [pk,pks,nth,List.drop] at w83 s83
              obtain rfl:=Option.some.inj hp
              exact ⟨_,_,rfl,rfl,w83,(s0.trans (s1.trans (s3.trans (s6.trans (s10.trans (s12.trans (s13.trans (s14.trans (s15.trans (s16.trans (s20.trans (s21.trans (s27.trans (s31.trans (s33.trans (s39.trans (s42.trans (s44.trans (s50.trans (s54.trans (s58.trans (s62.trans (s66.trans (s67.trans (s73.trans (s76.trans (s80.trans s83))))))))))))))))))))))))))),trivial⟩
end Go.Proofs.Ythfinhmkgdmelaa.AE
