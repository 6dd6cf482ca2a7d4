import Derived.Test.YtnkgeongfneafaaT2
import Derived.Test.YtnkgeongfneafaaE2
set_option linter.unusedVariables false
set_option linter.unusedSimpArgs false
namespace Go.Proofs.Ytnkgeongfneafaa.AE
open Go Go.AE Go.Proofs
set_option linter.unusedVariables false
set_option maxHeartbeats 4000000
set_option maxRecDepth 100000
noncomputable section
theorem aO.inl {F:Nat} {aa:Int} {ac:Int} {aj:Sl} {af:Int} {bi:Int} {H:Hp} {K:AV×Hp→OA} {Q:AV→Hp→Prop} (h:∃ u H1,((Hp.new H [(.int .i64 aa),(.int .i64 ac),(.sl aj)]).bind fun H6=>(Hp.ldSl H6 H.length 2).bind fun s7=>(Hp.ldI H6 .i64 H.length 1).bind fun n8=>(Sl.idx s7 (IntKind.i64.wrap ((IntKind.i64.wrap (af * n8)) + bi)) 1).bind fun p9=>some ((.ptr p9.1 p9.2),H6)) = some (u,H1)∧∃ v H',K (u,H1) = some (v,H')∧Q v H'):∃ v H',(aO.tw F aa ac aj af bi H).bind K = some (v,H')∧Q v H':=inl_ex h
theorem cC.inl {F:Nat} {aa:Int} {ac:Int} {aj:Sl} {af:Int} {H:Hp} {K:AV×Hp→OA} {Q:AV→Hp→Prop} (h:∃ u H1,((Hp.new H [(.int .i64 aa),(.int .i64 ac),(.sl aj)]).bind fun H5=>(Hp.ldSl H5 H.length 2).bind fun s6=>(Hp.ldI H5 .i64 H.length 1).bind fun n7=>(Hp.ldI H5 .i64 H.length 1).bind fun n8=>(Sl.cut s6 1 (IntKind.i64.wrap (af * n7)) (IntKind.i64.wrap ((IntKind.i64.wrap (af + 1)) * n8))).bind fun s9=>some ((.sl s9),H5)) = some (u,H1)∧∃ v H',K (u,H1) = some (v,H')∧Q v H'):∃ v H',(cC.tw F aa ac aj af H).bind K = some (v,H')∧Q v H':=inl_ex h
theorem dv.inl {F:Nat} {aa:Nat} {ac:Nat} {ae:Nat} {af:Nat} {bi:Int} {jz:Int} {H:Hp} {K:AV×Hp→OA} {Q:AV→Hp→Prop} (h:∃ u H1,((dG.tw F bi jz 2000000000000 H).bind fun r7=>((r7.1).asTup 2).bind fun l8=>(l8[0]?).bind fun v9=>((v9).asI .i64).bind fun n10=>(l8[1]?).bind fun v11=>((v11).asB).bind fun b12=>(Hp.ldI r7.2 .i64 ae af).bind fun n13=>(Hp.st r7.2 ae af (.int .i64 (IntKind.i64.wrap (n13 + n10)))).bind fun H14=>(bif (!b12) then ((Hp.st H14 aa (ac + 15) (.bool true)).bind fun H15=>(Hp.st H15 ae af (.int .i64 0)).bind fun H16=>some ((.tup []),H16)) else ((Hp.ldI H14 .i64 ae af).bind fun n17=>(cm.tw F n17 H14).bind fun r18=>((r18.1).asI .i64).bind fun n19=>(bif (decide (n19 > 1000000000000)) then ((Hp.st r18.2 aa (ac + 15) (.bool true)).bind fun H20=>(Hp.st H20 ae af (.int .i64 0)).bind fun H21=>some ((.tup []),H21)) else (some ((.tup []),r18.2)))))) = some (u,H1)∧∃ v H',K (u,H1) = some (v,H')∧Q v H'):∃ v H',(dv.tw F aa ac ae af bi jz H).bind K = some (v,H')∧Q v H':=inl_ex h
theorem eT.inl {F:Nat} {aa:Int} {ac:Int} {aj:Sl} {H:Hp} {K:AV×Hp→OA} {Q:AV→Hp→Prop} (h:∃ u H1,((Hp.new H [(.int .i64 aa),(.int .i64 ac),(.sl aj)]).bind fun H4=>(Hp.ldI H4 .i64 H.length 0).bind fun n5=>(bP.tw F n5 H4).bind fun r6=>((r6.1).asAgg 3).bind fun l7=>(l7[0]?).bind fun v8=>((v8).asI .i64).bind fun n9=>(l7[1]?).bind fun v10=>((v10).asI .i64).bind fun n11=>(l7[2]?).bind fun v12=>((v12).asSl).bind fun s13=>(if Cons H4 r6.2 then ((Hp.ldI r6.2 .i64 H.length 0).bind fun n14=>(bP.tw F n14 r6.2).bind fun r15=>((r15.1).asAgg 3).bind fun l16=>(l16[0]?).bind fun v17=>((v17).asI .i64).bind fun n18=>(l16[1]?).bind fun v19=>((v19).asI .i64).bind fun n20=>(l16[2]?).bind fun v21=>((v21).asSl).bind fun s22=>(if Cons r6.2 r15.2 then ((Hp.ldI r15.2 .i64 H.length 0).bind fun n23=>(Hp.ldI r15.2 .i64 H.length (0 + 1)).bind fun n24=>(Hp.ldSl r15.2 H.length (0 + 2)).bind fun s25=>(dX.tw F n23 n24 s25 r15.2).bind fun r26=>((r26.1).asAgg 3).bind fun l27=>(l27[0]?).bind fun v28=>((v28).asI .i64).bind fun n29=>(l27[1]?).bind fun v30=>((v30).asI .i64).bind fun n31=>(l27[2]?).bind fun v32=>((v32).asSl).bind fun s33=>(if Cons r15.2 r26.2 then ((Hp.ldI r26.2 .i64 H.length 1).bind fun n34=>(bP.tw F n34 r26.2).bind fun r35=>((r35.1).asAgg 3).bind fun l36=>(l36[0]?).bind fun v37=>((v37).asI .i64).bind fun n38=>(l36[1]?).bind fun v39=>((v39).asI .i64).bind fun n40=>(l36[2]?).bind fun v41=>((v41).asSl).bind fun s42=>(if Cons r26.2 r35.2 then ((Hp.ldI r35.2 .i64 H.length 1).bind fun n43=>(bP.tw F n43 r35.2).bind fun r44=>((r44.1).asAgg 3).bind fun l45=>(l45[0]?).bind fun v46=>((v46).asI .i64).bind fun n47=>(l45[1]?).bind fun v48=>((v48).asI .i64).bind fun n49=>(l45[2]?).bind fun v50=>((v50).asSl).bind fun s51=>(Hp.new r44.2 [(.int .i64 n9),(.int .i64 n11),(.sl s13),(.int .i64 n18),(.int .i64 n20),(.sl s22),(.int .i64 n29),(.int .i64 n31),(.sl s33),(.int .i64 n38),(.int .i64 n40),(.sl s42),(.int .i64 n47),(.int .i64 n49),(.sl s51),(.bool false)]).bind fun H52=>some ((.ptr r44.2.length 0),H52)) else none)) else none)) else none)) else none)) = some (u,H1)∧∃ v H',K (u,H1) = some (v,H')∧Q v H'):∃ v H',(eT.tw F aa ac aj H).bind K = some (v,H')∧Q v H':=inl_ex h
def eu.Q (H0:Hp) (Ri R0:List Rs)  (r:Int) (v:AV) (H':Hp):Prop:=v = (.int .i64 r)∧Out H0 Ri H' (R0) fun R=>True
def eu.p (F:Nat) (bD:List Int) (ag:Int):Option (Int):=(bif (decide ((IntKind.i64.wrap (ag - (bD.length:Int))) < 0)) then (some (-1)) else (some (IntKind.i64.wrap (ag - (bD.length:Int)))))
theorem eu.P {F:Nat} {eL:ON} {dq:Nat} {eM:Cap} {bD:List Int} {ag:Int} {H:Hp} {R0:List Rs} (gr:dq = bD.length) (h0:Inn H R0 fun R=>ROs (eInt .i64) H R ⟨eL,dq,eM⟩ bD) {r:Int} (hp:eu.p F bD ag = some r):∃ v H',eu.tw F ⟨eL,dq,eM⟩ ag H = some (v,H')∧eu.Q H R0 R0  r v H':=by
 obtain ⟨w0,gx⟩:=h0
 subst gr
 unfold eu.p at hp
 unfold eu.tw eu.twX
 have s0:=w0.rf
 refine bif_ex (fun hb=>?_) (fun hb=>?_)
 ·replace hp:=bif_t hb hp
  obtain rfl:=Option.some.inj hp
  exact ⟨_,_,rfl,rfl,w0,s0,trivial⟩
 ·replace hp:=bif_f hb hp
  obtain rfl:=Option.some.inj hp
  exact ⟨_,_,rfl,rfl,w0,s0,trivial⟩
def dM.Q (H0:Hp) (Ri R0:List Rs)  (r:Int) (v:AV) (H':Hp):Prop:=v = (.int .i64 r)∧Out H0 Ri H' (R0) fun R=>True
def dM.p (F:Nat) (bb:List Int) (af:Int):Option (Int):=(eu.p F bb af).bind fun r2=>(bif (decide (r2 < 0)) then (some (-1)) else (some r2))
theorem dM.P {F:Nat} {aa ac af:Int} {cV:ON} {bA:Nat} {cW:Cap} {bb:List Int} {H:Hp} {R0:List Rs} (fD:bA = bb.length) (h0:Inn H R0 fun R=>ROs (eInt .i64) H R ⟨cV,bA,cW⟩ bb) {r:Int} (hp:dM.p F bb af = some r):∃ v H',dM.tw F aa ac ⟨cV,bA,cW⟩ af H = some (v,H')∧dM.Q H R0 R0  r v H':=by
 obtain ⟨w0,eW⟩:=h0
 subst fD
 unfold dM.p at hp
 unfold dM.tw dM.twX
 have s0:=w0.rf
 refine new_k w0 fun H1 w1 s1=>?_
 refine bind_ex (ldSl_of (w1.ld (i:=0) rfl rfl)) ?_
 obtain ⟨r2,e2,hp⟩:=bind_some' hp
 refine call_ex (eu.P rfl ⟨w1,(eW.step s1)⟩ e2) ?_
 rintro _ H3 ⟨rfl,w3,s3,_⟩
 refine bind_ex rfl ?_
 refine bif_ex (fun hb=>?_) (fun hb=>?_)
 ·replace hp:=bif_t hb hp
  obtain ⟨w4,s4⟩:=w3.pick' [] 1 rfl rfl rfl
  dsimp only [pk,pks,nth,List.drop] at w4 s4
  obtain rfl:=Option.some.inj hp
  exact ⟨_,_,rfl,rfl,w4,(s0.trans (s1.trans (s3.trans s4))),trivial⟩
 ·replace hp:=bif_f hb hp
  obtain ⟨w5,s5⟩:=w3.pick' [] 1 rfl rfl rfl
  dsimp only [pk,pks,nth,List.drop] at w5 s5
  obtain rfl:=Option.some.inj hp
  exact ⟨_,_,rfl,rfl,w5,(s0.trans (s1.trans (s3.trans s5))),trivial⟩
def cy.Q (H0:Hp) (Ri R0:List Rs)  (r:List Int) (v:AV) (H':Hp):Prop:=∃ o0a:ON,∃ o0n:Nat,∃ o0c:Cap,∃ o0k:List AV,v = (.sl ⟨o0a,o0n,o0c⟩)∧o0n = (r).length∧Out H0 Ri H' (Rs.own ⟨o0a,o0n,o0c⟩ (eInt .i64).z o0k :: R0) fun R=>CR (eInt .i64) H' R o0k (r)
def cy.S29 (H0:Hp) (Ri R0:List Rs)  (C:Sl→Sl→Int→Hp→OA) (pC:List Int→List Int→Int→Option (List Int)):Prop:=∀ {jQ mE:ON} {iy mc:Nat} {jR mF:Cap} {eC jS:List Int} {mG:List AV} {ff:Int},∀ {H:Hp},iy = eC.length→mc = jS.length→(Out H0 Ri H (Rs.own ⟨mE,mc,mF⟩ (eInt .i64).z mG :: R0) fun R=>ROs (eInt .i64) H R ⟨jQ,iy,jR⟩ eC∧CR (eInt .i64) H R mG jS)→∀ {r:List Int},pC eC jS ff = some r→∃ v H',C ⟨jQ,iy,jR⟩ ⟨mE,mc,mF⟩ ff H = some (v,H')∧cy.Q H0 Ri R0  r v H'
def cy.pl29 (F:Nat) :Nat→List Int→List Int→Int→Option (List Int)
 | 0,_,_,_=>none
 | k + 1,eC,jS,ff=>(bif (decide (ff < (eC.length:Int))) then ((ix eC ff).bind fun n1=>(ix jS ff).bind fun n2=>(some (jS.set n2 (gt eC n1))).bind fun l3=>cy.pl29 F k eC l3 (IntKind.i64.wrap (ff + 1))) else (some jS))
termination_by structural n=>n
theorem cy.l29_P {F:Nat} {H0:Hp} {Ri R0:List Rs}  :∀ k,cy.S29 H0 Ri R0  (cy.l29 F   k) (cy.pl29 F  k):=by
 intro k
 induction k with
 | zero=>
  intro jQ mE iy mc jR mF eC jS mG ff H kU pY h0 r hp
  exact nomatch (show (none:Option (List Int)) = some r from hp)
 | succ k ih=>
  intro jQ mE iy mc jR mF eC jS mG ff H kU pY h0 r hp
  obtain ⟨w0,s0,kr,nW⟩:=h0
  subst kU
  subst pY
  unfold cy.pl29 at hp
  unfold cy.l29
  refine bif_ex (fun hb=>?_) (fun hb=>?_)
  ·replace hp:=bif_t hb hp
   obtain ⟨n1,g1,hp⟩:=bind_some' hp
   obtain ⟨p1,q1,i1,h1,j1⟩:=ROs.ixr kr rfl g1
   refine bind_ex i1 ?_
   have h1:_ = [_]:=h1
   subst h1
   refine bind_ex (ldI_of (j1 0 _ rfl)) ?_
   obtain ⟨n2,g2,hp⟩:=bind_some' hp
   obtain ⟨p2,q2,i2,h2,j2⟩:=W.ixo (E:=(eInt .i64)) w0 (i:=0) rfl rfl nW g2
   refine bind_ex i2 ?_
   obtain ⟨l3,e3,hp⟩:=bind_some' hp
   refine sto_k (eInt .i64) w0 (i:=0) (j:=0) (p:=p2) rfl rfl nW g2 i2 e3 rfl rfl (fun _ h=>by have h:_ = [_]:=h; subst h; exact rfl) fun H4 k4 w4 s4 c4=>?_
   dsimp only [List.set] at w4 s4 c4
   exact ih rfl ((st_len e3).symm) ⟨w4,(s0.trans s4),(kr.step s4),c4⟩ hp
  ·replace hp:=bif_f hb hp
   obtain rfl:=Option.some.inj hp
   exact ⟨_,_,rfl,_,_,_,_,rfl,rfl,w0,s0,nW⟩
def cy.p (F:Nat) (bD:List Int):Option (List Int):=(mkn (bD.length:Int) (0:Int)).bind fun l1=>cy.pl29 F F bD l1 0
theorem cy.P {F:Nat} {eL:ON} {dq:Nat} {eM:Cap} {bD:List Int} {H:Hp} {R0:List Rs} (gr:dq = bD.length) (h0:Inn H R0 fun R=>ROs (eInt .i64) H R ⟨eL,dq,eM⟩ bD) {r:List Int} (hp:cy.p F bD = some r):∃ v H',cy.tw F ⟨eL,dq,eM⟩ H = some (v,H')∧cy.Q H R0 R0  r v H':=by
 obtain ⟨w0,gx⟩:=h0
 subst gr
 unfold cy.p at hp
 unfold cy.tw cy.twX
 have s0:=w0.rf
 obtain ⟨l1,e1,hp⟩:=bind_some' hp
 refine mk_k (eInt .i64) (0:Int) w0 rfl rfl rfl e1 fun H2 k2 w2 s2 c2=>?_
 exact cy.l29_P F rfl rfl ⟨w2,(s0.trans s2),(gx.step s2),c2⟩ hp
def dB.Q (H0:Hp) (Ri R0:List Rs)  (r:Int×Int×List Int) (v:AV) (H':Hp):Prop:=∃ o2a:ON,∃ o2n:Nat,∃ o2c:Cap,∃ o2k:List AV,v = (.agg [(.int .i64 r.1),(.int .i64 r.2.1),(.sl ⟨o2a,o2n,o2c⟩)])∧o2n = (r.2.2).length∧Out H0 Ri H' (Rs.own ⟨o2a,o2n,o2c⟩ (eInt .i64).z o2k :: R0) fun R=>CR (eInt .i64) H' R o2k (r.2.2)
def dB.p (F:Nat) (aa:Int) (ac:Int) (bb:List Int):Option (Int×Int×List Int):=(cy.p F bb).bind fun r6=>some (aa,ac,r6)
theorem dB.P {F:Nat} {aa ac:Int} {cV:ON} {bA:Nat} {cW:Cap} {bb:List Int} {H:Hp} {R0:List Rs} (fD:bA = bb.length) (h0:Inn H R0 fun R=>ROs (eInt .i64) H R ⟨cV,bA,cW⟩ bb) {r:Int×Int×List Int} (hp:dB.p F aa ac bb = some r):∃ v H',dB.tw F aa ac ⟨cV,bA,cW⟩ H = some (v,H')∧dB.Q H R0 R0  r v H':=by
 obtain ⟨w0,eW⟩:=h0
 subst fD
 unfold dB.p at hp
 unfold dB.tw dB.twX
 have s0:=w0.rf
 refine new_k w0 fun H1 w1 s1=>?_
 refine new_k w1 fun H2 w2 s2=>?_
 refine new_k w2 fun H3 w3 s3=>?_
 refine bind_ex (ldI_of (w3.ld (i:=2) rfl rfl)) ?_
 refine st_k w3 (i:=0) rfl rfl rfl fun H4 w4 s4=>?_
 dsimp only [List.set] at w4 s4
 refine bind_ex (ldI_of (w4.ld (i:=2) rfl rfl)) ?_
 refine st_k w4 (i:=0) rfl rfl rfl fun H5 w5 s5=>?_
 dsimp only [List.set] at w5 s5
 refine bind_ex (ldSl_of (w5.ld (i:=2) rfl rfl)) ?_
 obtain ⟨r6,e6,hp⟩:=bind_some' hp
 refine call_ex (cy.P rfl ⟨w5,(eW.step (s1.trans (s2.trans (s3.trans (s4.trans s5)))))⟩ e6) ?_
 rintro _ H7 ⟨o0a_7,o0n_7,o0c_7,o0k_7,rfl,rfl,w7,s7,f7_0⟩
 refine bind_ex rfl ?_
 refine st_k w7 (i:=1) rfl rfl rfl fun H8 w8 s8=>?_
 dsimp only [List.set] at w8 s8
 refine bind_ex (ldI_of (w8.ld (i:=1) rfl rfl)) ?_
 refine bind_ex (ldI_of (w8.ld (i:=1) rfl rfl)) ?_
 refine bind_ex (ldSl_of (w8.ld (i:=1) rfl rfl)) ?_
 refine st_k w8 (i:=2) rfl rfl rfl fun H9 w9 s9=>?_
 dsimp only [List.set] at w9 s9
 refine st_k w9 (i:=2) rfl rfl rfl fun H10 w10 s10=>?_
 dsimp only [List.set] at w10 s10
 refine st_k w10 (i:=2) rfl rfl rfl fun H11 w11 s11=>?_
 dsimp only [List.set] at w11 s11
 refine bind_ex (ldI_of (w11.ld (i:=2) rfl rfl)) ?_
 refine bind_ex (ldI_of (w11.ld (i:=2) rfl rfl)) ?_
 refine bind_ex (ldSl_of (w11.ld (i:=2) rfl rfl)) ?_
 obtain ⟨w12,s12⟩:=w11.pick' [0] 4 rfl rfl rfl
 dsimp only [pk,pks,nth,List.drop] at w12 s12
 obtain rfl:=Option.some.inj hp
 exact ⟨_,_,rfl,_,_,_,_,rfl,rfl,w12,(s0.trans (s1.trans (s2.trans (s3.trans (s4.trans (s5.trans (s7.trans (s8.trans (s9.trans (s10.trans (s11.trans s12))))))))))),(f7_0.step (s8.trans (s9.trans (s10.trans (s11.trans s12)))))⟩
def dJ.Q (H0:Hp) (Ri R0:List Rs)  (r:Bool) (v:AV) (H':Hp):Prop:=v = (.bool r)∧Out H0 Ri H' (R0) fun R=>True
def dJ.p (F:Nat) (aa:Int) (ag:Int) (cO:Int):Option (Bool):=(bif (decide (aa ≥ ag)) then (some (decide (aa ≤ cO))) else (some false))
theorem dJ.P {F:Nat} {aa ag cO:Int} {H:Hp} {R0:List Rs}  (h0:Inn H R0 fun R=>True) {r:Bool} (hp:dJ.p F aa ag cO = some r):∃ v H',dJ.tw F aa ag cO H = some (v,H')∧dJ.Q H R0 R0  r v H':=by
 obtain ⟨w0,_⟩:=h0
 unfold dJ.p at hp
 unfold dJ.tw dJ.twX
 have s0:=w0.rf
 refine bif_ex (fun hb=>?_) (fun hb=>?_)
 ·replace hp:=bif_t hb hp
  obtain rfl:=Option.some.inj hp
  exact ⟨_,_,rfl,rfl,w0,s0,trivial⟩
 ·replace hp:=bif_f hb hp
  obtain rfl:=Option.some.inj hp
  exact ⟨_,_,rfl,rfl,w0,s0,trivial⟩
def cu.Q (H0:Hp) (Ri R0:List Rs)  (r:Bool) (v:AV) (H':Hp):Prop:=v = (.bool r)∧Out H0 Ri H' (R0) fun R=>True
def cu.S29 (H0:Hp) (Ri R0:List Rs)  (C:Nat→Nat→Int→Hp→OA) (pC:List Int→Int→Option (Bool)):Prop:=∀ {uC uD js:Int} {rE:ON} {pZ kn:Nat} {rF:Cap} {mw:List Int},∀ {H:Hp},pZ = mw.length→(Out H0 Ri H (Rs.blk kn [.int .i64 uC,.int .i64 uD,.sl ⟨rE,pZ,rF⟩] :: R0) fun R=>ROs (eInt .i64) H R ⟨rE,pZ,rF⟩ mw)→∀ {r:Bool},pC mw js = some r→∃ v H',C kn 0 js H = some (v,H')∧cu.Q H0 Ri R0  r v H'
def cu.pl29 (F:Nat) :Nat→List Int→Int→Option (Bool)
 | 0,_,_=>none
 | k + 1,mw,js=>(bif (decide (js < (mw.length:Int))) then ((ix mw js).bind fun n1=>(dJ.p F (gt mw n1) (-1000000000000) 1000000000000).bind fun r2=>(bif (!r2) then (some false) else (cu.pl29 F k mw (IntKind.i64.wrap (js + 1))))) else (some true))
termination_by structural n=>n
theorem cu.l29_P {F:Nat} {H0:Hp} {Ri R0:List Rs}  :∀ k,cu.S29 H0 Ri R0  (cu.l29 F (dJ.tw F)  k) (cu.pl29 F  k):=by
 intro k
 induction k with
 | zero=>
  intro uC uD js rE pZ kn rF mw H wu h0 r hp
  exact nomatch (show (none:Option (Bool)) = some r from hp)
 | succ k ih=>
  intro uC uD js rE pZ kn rF mw H wu h0 r hp
  obtain ⟨w0,s0,wv⟩:=h0
  subst wu
  unfold cu.pl29 at hp
  unfold cu.l29
  refine bind_ex (ldSl_of (w0.ld (i:=0) rfl rfl)) ?_
  refine bif_ex (fun hb=>?_) (fun hb=>?_)
  ·replace hp:=bif_t hb hp
   refine bind_ex (ldSl_of (w0.ld (i:=0) rfl rfl)) ?_
   obtain ⟨n1,g1,hp⟩:=bind_some' hp
   obtain ⟨p1,q1,i1,h1,j1⟩:=ROs.ixr wv rfl g1
   refine bind_ex i1 ?_
   have h1:_ = [_]:=h1
   subst h1
   refine bind_ex (ldI_of (j1 0 _ rfl)) ?_
   obtain ⟨r2,e2,hp⟩:=bind_some' hp
   refine call_ex (dJ.P ⟨w0,trivial⟩ e2) ?_
   rintro _ H3 ⟨rfl,w3,s3,_⟩
   refine bind_ex rfl ?_
   refine bif_ex (fun hb=>?_) (fun hb=>?_)
   ·replace hp:=bif_t hb hp
    obtain ⟨w4,s4⟩:=w3.pick' [] 1 rfl rfl rfl
    dsimp only [pk,pks,nth,List.drop] at w4 s4
    obtain rfl:=Option.some.inj hp
    exact ⟨_,_,rfl,rfl,w4,(s0.trans (s3.trans s4)),trivial⟩
   ·replace hp:=bif_f hb hp
    exact ih rfl ⟨w3,(s0.trans s3),(wv.step s3)⟩ hp
  ·replace hp:=bif_f hb hp
   obtain ⟨w5,s5⟩:=w0.pick' [] 1 rfl rfl rfl
   dsimp only [pk,pks,nth,List.drop] at w5 s5
   obtain rfl:=Option.some.inj hp
   exact ⟨_,_,rfl,rfl,w5,(s0.trans s5),trivial⟩
def cu.p (F:Nat) (aa:Int) (ac:Int) (bb:List Int):Option (Bool):=(dJ.p F aa 0 48).bind fun r2=>(bif (!r2) then (some false) else ((dJ.p F ac 0 48).bind fun r5=>(bif (!r5) then (some false) else ((bif ((bb.length:Int) != (IntKind.i64.wrap (aa * ac))) then (some false) else (cu.pl29 F F bb 0))))))
theorem cu.P {F:Nat} {aa ac:Int} {cV:ON} {bA:Nat} {cW:Cap} {bb:List Int} {H:Hp} {R0:List Rs} (fD:bA = bb.length) (h0:Inn H R0 fun R=>ROs (eInt .i64) H R ⟨cV,bA,cW⟩ bb) {r:Bool} (hp:cu.p F aa ac bb = some r):∃ v H',cu.tw F aa ac ⟨cV,bA,cW⟩ H = some (v,H')∧cu.Q H R0 R0  r v H':=by
 obtain ⟨w0,eW⟩:=h0
 subst fD
 unfold cu.p at hp
 unfold cu.tw cu.twX
 have s0:=w0.rf
 refine new_k w0 fun H1 w1 s1=>?_
 refine bind_ex (ldI_of (w1.ld (i:=0) rfl rfl)) ?_
 obtain ⟨r2,e2,hp⟩:=bind_some' hp
 refine call_ex (dJ.P ⟨w1,trivial⟩ e2) ?_
 rintro _ H3 ⟨rfl,w3,s3,_⟩
 refine bind_ex rfl ?_
 refine bif_ex (fun hb=>?_) (fun hb=>?_)
 ·replace hp:=bif_t hb hp
  obtain ⟨w4,s4⟩:=w3.pick' [] 1 rfl rfl rfl
  dsimp only [pk,pks,nth,List.drop] at w4 s4
  obtain rfl:=Option.some.inj hp
  exact ⟨_,_,rfl,rfl,w4,(s0.trans (s1.trans (s3.trans s4))),trivial⟩
 ·replace hp:=bif_f hb hp
  refine bind_ex (ldI_of (w3.ld (i:=0) rfl rfl)) ?_
  obtain ⟨r5,e5,hp⟩:=bind_some' hp
  refine call_ex (dJ.P ⟨w3,trivial⟩ e5) ?_
  rintro _ H6 ⟨rfl,w6,s6,_⟩
  refine bind_ex rfl ?_
  refine bif_ex (fun hb=>?_) (fun hb=>?_)
  ·replace hp:=bif_t hb hp
   obtain ⟨w7,s7⟩:=w6.pick' [] 1 rfl rfl rfl
   dsimp only [pk,pks,nth,List.drop] at w7 s7
   obtain rfl:=Option.some.inj hp
   exact ⟨_,_,rfl,rfl,w7,(s0.trans (s1.trans (s3.trans (s6.trans s7)))),trivial⟩
  ·replace hp:=bif_f hb hp
   refine bind_ex (ldSl_of (w6.ld (i:=0) rfl rfl)) ?_
   refine bind_ex (ldI_of (w6.ld (i:=0) rfl rfl)) ?_
   refine bind_ex (ldI_of (w6.ld (i:=0) rfl rfl)) ?_
   refine bif_ex (fun hb=>?_) (fun hb=>?_)
   ·replace hp:=bif_t hb hp
    obtain ⟨w8,s8⟩:=w6.pick' [] 1 rfl rfl rfl
    dsimp only [pk,pks,nth,List.drop] at w8 s8
    obtain rfl:=Option.some.inj hp
    exact ⟨_,_,rfl,rfl,w8,(s0.trans (s1.trans (s3.trans (s6.trans s8)))),trivial⟩
   ·replace hp:=bif_f hb hp
    exact cu.l29_P F rfl ⟨w6,(s0.trans (s1.trans (s3.trans s6))),(eW.step (s1.trans (s3.trans s6)))⟩ hp
def ef.Q (H0:Hp) (Ri R0:List Rs)  (r:Int×Int×List Int) (v:AV) (H':Hp):Prop:=∃ o2a:ON,∃ o2n:Nat,∃ o2k:List AV,v = (.agg [(.int .i64 r.1),(.int .i64 r.2.1),(.sl ⟨o2a,o2n,.ex o2n⟩)])∧o2n = (r.2.2).length∧Out H0 Ri H' (Rs.own ⟨o2a,o2n,.ex o2n⟩ (eInt .i64).z o2k :: R0) fun R=>CR (eInt .i64) H' R o2k (r.2.2)
def ef.p (F:Nat) (aa:Int) (ag:Int):Option (Int×Int×List Int):=(mkn (IntKind.i64.wrap (aa * ag)) (0:Int)).bind fun l2=>some (aa,ag,l2)
theorem ef.P {F:Nat} {aa ag:Int} {H:Hp} {R0:List Rs}  (h0:Inn H R0 fun R=>True) {r:Int×Int×List Int} (hp:ef.p F aa ag = some r):∃ v H',ef.tw F aa ag H = some (v,H')∧ef.Q H R0 R0  r v H':=by
 obtain ⟨w0,_⟩:=h0
 unfold ef.p at hp
 unfold ef.tw ef.twX
 have s0:=w0.rf
 refine new_k w0 fun H1 w1 s1=>?_
 obtain ⟨l2,e2,hp⟩:=bind_some' hp
 refine mk_k (eInt .i64) (0:Int) w1 rfl rfl rfl e2 fun H3 k3 w3 s3 c3=>?_
 refine st_k w3 (i:=1) rfl rfl rfl fun H4 w4 s4=>?_
 dsimp only [List.set] at w4 s4
 refine st_k w4 (i:=1) rfl rfl rfl fun H5 w5 s5=>?_
 dsimp only [List.set] at w5 s5
 refine st_k w5 (i:=1) rfl rfl rfl fun H6 w6 s6=>?_
 dsimp only [List.set] at w6 s6
 refine bind_ex (ldI_of (w6.ld (i:=1) rfl rfl)) ?_
 refine bind_ex (ldI_of (w6.ld (i:=1) rfl rfl)) ?_
 refine bind_ex (ldSl_of (w6.ld (i:=1) rfl rfl)) ?_
 obtain ⟨w7,s7⟩:=w6.pick' [0] 2 rfl rfl rfl
 dsimp only [pk,pks,nth,List.drop] at w7 s7
 obtain rfl:=Option.some.inj hp
 exact ⟨_,_,rfl,_,_,_,rfl,rfl,w7,(s0.trans (s1.trans (s3.trans (s4.trans (s5.trans (s6.trans s7)))))),(c3.step (s4.trans (s5.trans (s6.trans s7))))⟩
def bO.Q (H0:Hp) (Ri R0:List Rs)  (r:Int×Int×List Int) (v:AV) (H':Hp):Prop:=∃ o2a:ON,∃ o2n:Nat,∃ o2c:Cap,∃ o2k:List AV,v = (.agg [(.int .i64 r.1),(.int .i64 r.2.1),(.sl ⟨o2a,o2n,o2c⟩)])∧o2n = (r.2.2).length∧Out H0 Ri H' (Rs.own ⟨o2a,o2n,o2c⟩ (eInt .i64).z o2k :: R0) fun R=>CR (eInt .i64) H' R o2k (r.2.2)
def bO.S29 (H0:Hp) (Ri R0:List Rs)  (C:Int→Nat→Nat→Nat→Nat→Int→Hp→OA) (pC:Int→Int→Int→List Int→Int→Option (Int×Int×List Int)):Prop:=∀ {im nX nY kM kG iJ:Int} {mH mI:ON} {md ck mf fH:Nat} {mJ mK:Cap} {mL jT:List Int} {mM mN:List AV},∀ {H:Hp},md = mL.length→mf = jT.length→(Out H0 Ri H (Rs.own ⟨mH,md,mJ⟩ (eInt .i64).z mM :: Rs.blk ck [.int .i64 nX,.int .i64 nY,.sl ⟨mH,md,mJ⟩] :: Rs.own ⟨mI,mf,mK⟩ (eInt .i64).z mN :: Rs.blk fH [.int .i64 kM,.int .i64 kG,.sl ⟨mI,mf,mK⟩] :: R0) fun R=>CR (eInt .i64) H R mM mL∧CR (eInt .i64) H R mN jT)→∀ {r:Int×Int×List Int},pC im kM kG jT iJ = some r→∃ v H',C im ck 0 fH 0 iJ H = some (v,H')∧bO.Q H0 Ri R0  r v H'
def bO.pl29 (F:Nat) :Nat→Int→Int→Int→List Int→Int→Option (Int×Int×List Int)
 | 0,_,_,_,_,_=>none
 | k + 1,im,kM,kG,jT,iJ=>(bif (decide (iJ < im)) then ((ix jT (IntKind.i64.wrap ((IntKind.i64.wrap (iJ * im)) + iJ))).bind fun n1=>(some (jT.set n1 1)).bind fun l2=>bO.pl29 F k im kM kG l2 (IntKind.i64.wrap (iJ + 1))) else (some (kM,kG,jT)))
termination_by structural n=>n
theorem bO.l29_P {F:Nat} {H0:Hp} {Ri R0:List Rs}  :∀ k,bO.S29 H0 Ri R0  (bO.l29 F (ef.tw F)  k) (bO.pl29 F  k):=by
 intro k
 induction k with
 | zero=>
  intro im nX nY kM kG iJ mH mI md ck mf fH mJ mK mL jT mM mN H p_ qa h0 r hp
  exact nomatch (show (none:Option (Int×Int×List Int)) = some r from hp)
 | succ k ih=>
  intro im nX nY kM kG iJ mH mI md ck mf fH mJ mK mL jT mM mN H p_ qa h0 r hp
  obtain ⟨w0,s0,uE,nZ⟩:=h0
  subst p_
  subst qa
  unfold bO.pl29 at hp
  unfold bO.l29
  refine bif_ex (fun hb=>?_) (fun hb=>?_)
  ·replace hp:=bif_t hb hp
   refine bind_ex (ldSl_of (w0.ld (i:=3) rfl rfl)) ?_
   obtain ⟨n1,g1,hp⟩:=bind_some' hp
   obtain ⟨p1,q1,i1,h1,j1⟩:=W.ixo (E:=(eInt .i64)) w0 (i:=2) rfl rfl nZ g1
   refine bind_ex i1 ?_
   obtain ⟨l2,e2,hp⟩:=bind_some' hp
   refine sto_k (eInt .i64) w0 (i:=2) (j:=0) (p:=p1) rfl rfl nZ g1 i1 e2 rfl rfl (fun _ h=>by have h:_ = [_]:=h; subst h; exact rfl) fun H3 k3 w3 s3 c3=>?_
   dsimp only [List.set] at w3 s3 c3
   exact ih rfl ((st_len e2).symm) ⟨w3,(s0.trans s3),(uE.step s3),c3⟩ hp
  ·replace hp:=bif_f hb hp
   refine bind_ex (ldI_of (w0.ld (i:=3) rfl rfl)) ?_
   refine bind_ex (ldI_of (w0.ld (i:=3) rfl rfl)) ?_
   refine bind_ex (ldSl_of (w0.ld (i:=3) rfl rfl)) ?_
   refine st_k w0 (i:=1) rfl rfl rfl fun H4 w4 s4=>?_
   dsimp only [List.set] at w4 s4
   refine st_k w4 (i:=1) rfl rfl rfl fun H5 w5 s5=>?_
   dsimp only [List.set] at w5 s5
   refine st_k w5 (i:=1) rfl rfl rfl fun H6 w6 s6=>?_
   dsimp only [List.set] at w6 s6
   refine bind_ex (ldI_of (w6.ld (i:=1) rfl rfl)) ?_
   refine bind_ex (ldI_of (w6.ld (i:=1) rfl rfl)) ?_
   refine bind_ex (ldSl_of (w6.ld (i:=1) rfl rfl)) ?_
   obtain ⟨w7,s7⟩:=w6.pick' [2] 4 rfl rfl rfl
   dsimp only [pk,pks,nth,List.drop] at w7 s7
   obtain rfl:=Option.some.inj hp
   exact ⟨_,_,rfl,_,_,_,_,rfl,rfl,w7,(s0.trans (s4.trans (s5.trans (s6.trans s7)))),(nZ.step (s4.trans (s5.trans (s6.trans s7))))⟩
def bO.p (F:Nat) (aa:Int):Option (Int×Int×List Int):=(ef.p F aa aa).bind fun r2=>bO.pl29 F F aa r2.1 r2.2.1 r2.2.2 0
theorem bO.P {F:Nat} {aa:Int} {H:Hp} {R0:List Rs}  (h0:Inn H R0 fun R=>True) {r:Int×Int×List Int} (hp:bO.p F aa = some r):∃ v H',bO.tw F aa H = some (v,H')∧bO.Q H R0 R0  r v H':=by
 obtain ⟨w0,_⟩:=h0
 unfold bO.p at hp
 unfold bO.tw bO.twX
 have s0:=w0.rf
 refine new_k w0 fun H1 w1 s1=>?_
 obtain ⟨r2,e2,hp⟩:=bind_some' hp
 refine call_ex (ef.P ⟨w1,trivial⟩ e2) ?_
 rintro _ H3 ⟨o2a_3,o2n_3,o2k_3,rfl,rfl,w3,s3,f3_0⟩
 refine bind_ex rfl ?_
 refine bind_ex rfl ?_
 refine bind_ex rfl ?_
 refine bind_ex rfl ?_
 refine bind_ex rfl ?_
 refine bind_ex rfl ?_
 refine bind_ex rfl ?_
 refine new_k w3 fun H4 w4 s4=>?_
 refine st_k w4 (i:=0) rfl rfl rfl fun H5 w5 s5=>?_
 dsimp only [List.set] at w5 s5
 refine st_k w5 (i:=0) rfl rfl rfl fun H6 w6 s6=>?_
 dsimp only [List.set] at w6 s6
 refine st_k w6 (i:=0) rfl rfl rfl fun H7 w7 s7=>?_
 dsimp only [List.set] at w7 s7
 obtain ⟨w8,s8⟩:=w7.nilS (eInt .i64).z (by decide)
 obtain ⟨w9,s9⟩:=w8.pick' [0,3,2,1] 4 rfl rfl rfl
 dsimp only [pk,pks,nth,List.drop] at w9 s9
 exact bO.l29_P F rfl rfl ⟨w9,(s0.trans (s1.trans (s3.trans (s4.trans (s5.trans (s6.trans (s7.trans (s8.trans s9)))))))),((CR.empty:CR (eInt .i64) _ _ [] []).step s9),(f3_0.step (s4.trans (s5.trans (s6.trans (s7.trans (s8.trans s9))))))⟩ hp
def aC.Q (H0:Hp) (Ri R0:List Rs)  (r:Int) (v:AV) (H':Hp):Prop:=v = (.int .i64 r)∧Out H0 Ri H' (R0) fun R=>True
def aC.p (F:Nat) (ac:Int) (bb:List Int) (af:Int) (bi:Int):Option (Int):=(ix bb (IntKind.i64.wrap ((IntKind.i64.wrap (af * ac)) + bi))).bind fun n2=>some (gt bb n2)
theorem aC.P {F:Nat} {aa ac af bi:Int} {cV:ON} {bA:Nat} {cW:Cap} {bb:List Int} {H:Hp} {R0:List Rs} (fD:bA = bb.length) (h0:Inn H R0 fun R=>ROs (eInt .i64) H R ⟨cV,bA,cW⟩ bb) {r:Int} (hp:aC.p F ac bb af bi = some r):∃ v H',aC.tw F aa ac ⟨cV,bA,cW⟩ af bi H = some (v,H')∧aC.Q H R0 R0  r v H':=by
 obtain ⟨w0,eW⟩:=h0
 subst fD
 unfold aC.p at hp
 unfold aC.tw aC.twX
 have s0:=w0.rf
 refine new_k w0 fun H1 w1 s1=>?_
 refine bind_ex (ldSl_of (w1.ld (i:=0) rfl rfl)) ?_
 refine bind_ex (ldI_of (w1.ld (i:=0) rfl rfl)) ?_
 obtain ⟨n2,g2,hp⟩:=bind_some' hp
 obtain ⟨p2,q2,i2,h2,j2⟩:=ROs.ixr (eW.step s1) rfl g2
 refine bind_ex i2 ?_
 have h2:_ = [_]:=h2
 subst h2
 refine bind_ex (ldI_of (j2 0 _ rfl)) ?_
 obtain ⟨w3,s3⟩:=w1.pick' [] 1 rfl rfl rfl
 dsimp only [pk,pks,nth,List.drop] at w3 s3
 obtain rfl:=Option.some.inj hp
 exact ⟨_,_,rfl,rfl,w3,(s0.trans (s1.trans s3)),trivial⟩
def co.Q (H0:Hp) (Ri R0:List Rs)  (r:Int) (v:AV) (H':Hp):Prop:=v = (.int .i64 r)∧Out H0 Ri H' (R0) fun R=>True
def co.p (F:Nat) (aa:Int):Option (Int):=some (if (IntKind.i64.wrap (0 - aa)) > aa then (IntKind.i64.wrap (0 - aa)) else aa)
theorem co.P {F:Nat} {aa:Int} {H:Hp} {R0:List Rs}  (h0:Inn H R0 fun R=>True) {r:Int} (hp:co.p F aa = some r):∃ v H',co.tw F aa H = some (v,H')∧co.Q H R0 R0  r v H':=by
 obtain ⟨w0,_⟩:=h0
 unfold co.p at hp
 unfold co.tw co.twX
 have s0:=w0.rf
 obtain rfl:=Option.some.inj hp
 exact ⟨_,_,rfl,rfl,w0,s0,trivial⟩
def bL.Q (H0:Hp) (Ri R0:List Rs) (cV:ON) (bA:Nat) (cW:Cap) (gK:Bool) (gL gM:List AV) (r:List Int) (v:AV) (H':Hp):Prop:=∃ kV:List AV,v = (.tup [])∧bA = (r).length∧Out H0 Ri H' (Rs.ow gK ⟨cV,bA,cW⟩ (eInt .i64).z gL kV gM :: R0) fun R=>CR (eInt .i64) H' R kV (r)
def bL.S7 (H0:Hp) (Ri R0:List Rs) (iz:ON) (gW:Nat) (iA:Cap) (jU:Bool) (jV jW:List AV) (C:Int→Int→Nat→Nat→Int→Hp→OA) (pC:Int→Int→Int→List Int→Int→Option (List Int)):Prop:=∀ {fg fp mg ji eS:Int} {iB:List Int} {mO:List AV} {eR:Nat},∀ {H:Hp},gW = iB.length→(Out H0 Ri H (Rs.ow jU ⟨iz,gW,iA⟩ (eInt .i64).z jV mO jW :: Rs.blk eR [.int .i64 mg,.int .i64 ji,.sl ⟨iz,gW,iA⟩] :: R0) fun R=>CR (eInt .i64) H R mO iB)→∀ {r:List Int},pC fg fp ji iB eS = some r→∃ v H',C fg fp eR 0 eS H = some (v,H')∧bL.Q H0 Ri R0 iz gW iA jU jV jW r v H'
def bL.pl7 (F:Nat) :Nat→Int→Int→Int→List Int→Int→Option (List Int)
 | 0,_,_,_,_,_=>none
 | k + 1,fg,fp,ji,iB,eS=>(bif (decide (eS < ji)) then ((aC.p F ji iB fg eS).bind fun r2=>(aC.p F ji iB fp eS).bind fun r6=>(ix iB (IntKind.i64.wrap ((IntKind.i64.wrap (fg * ji)) + eS))).bind fun n10=>(some (iB.set n10 r6)).bind fun l11=>(ix l11 (IntKind.i64.wrap ((IntKind.i64.wrap (fp * ji)) + eS))).bind fun n13=>(some (l11.set n13 r2)).bind fun l14=>bL.pl7 F k fg fp ji l14 (IntKind.i64.wrap (eS + 1))) else (some iB))
termination_by structural n=>n
theorem bL.l7_P {F:Nat} {H0:Hp} {Ri R0:List Rs} {iz:ON} {gW:Nat} {iA:Cap} {jU:Bool} {jV jW:List AV} :∀ k,bL.S7 H0 Ri R0 iz gW iA jU jV jW (bL.l7 F (aC.tw F)  k) (bL.pl7 F  k):=by
 intro k
 induction k with
 | zero=>
  intro fg fp mg ji eS iB mO eR H qb h0 r hp
  exact nomatch (show (none:Option (List Int)) = some r from hp)
 | succ k ih=>
  intro fg fp mg ji eS iB mO eR H qb h0 r hp
  obtain ⟨w0,s0,mh⟩:=h0
  subst qb
  unfold bL.pl7 at hp
  unfold bL.l7
  refine bind_ex (ldI_of (w0.ld (i:=1) rfl rfl)) ?_
  refine bif_ex (fun hb=>?_) (fun hb=>?_)
  ·replace hp:=bif_t hb hp
   refine bind_ex (ldI_of (w0.ld (i:=1) rfl rfl)) ?_
   refine bind_ex (ldI_of (w0.ld (i:=1) rfl rfl)) ?_
   refine bind_ex (ldSl_of (w0.ld (i:=1) rfl rfl)) ?_
   have f1:=W.borrow1 (eInt .i64) w0 mh
   obtain ⟨w1,s1⟩:=w0.right1
   obtain ⟨r2,e2,hp⟩:=bind_some' hp
   refine call_ex (aC.P rfl ⟨w1,f1⟩ e2) ?_
   rintro _ H3 ⟨rfl,w3,s3,_⟩
   obtain ⟨w4,s4⟩:=W.frame1 w0 w3 s3
   refine bind_ex rfl ?_
   refine bind_ex (ldSl_of (w4.ld (i:=1) rfl rfl)) ?_
   refine bind_ex (ldI_of (w4.ld (i:=1) rfl rfl)) ?_
   refine bind_ex (ldI_of (w4.ld (i:=1) rfl rfl)) ?_
   refine bind_ex (ldI_of (w4.ld (i:=1) rfl rfl)) ?_
   refine bind_ex (ldSl_of (w4.ld (i:=1) rfl rfl)) ?_
   have f5:=W.borrow1 (eInt .i64) w4 (mh.step s4)
   obtain ⟨w5,s5⟩:=w4.right1
   obtain ⟨r6,e6,hp⟩:=bind_some' hp
   refine call_ex (aC.P rfl ⟨w5,f5⟩ e6) ?_
   rintro _ H7 ⟨rfl,w7,s7,_⟩
   obtain ⟨w8,s8⟩:=W.frame1 w4 w7 s7
   refine bind_ex rfl ?_
   refine ifs_ex (W.cons_of (Rn:=[]) w5 w7 s7) ?_
   obtain ⟨n10,g10,hp⟩:=bind_some' hp
   obtain ⟨p10,q10,i10,h10,j10⟩:=W.ixo (E:=(eInt .i64)) w8 (i:=0) rfl rfl (mh.step (s4.trans s8)) g10
   refine bind_ex i10 ?_
   obtain ⟨l11,e11,hp⟩:=bind_some' hp
   refine sto_k (eInt .i64) w8 (i:=0) (j:=0) (p:=p10) rfl rfl (mh.step (s4.trans s8)) g10 i10 e11 rfl rfl (fun _ h=>by have h:_ = [_]:=h; subst h; exact rfl) fun H12 k12 w12 s12 c12=>?_
   dsimp only [List.set] at w12 s12 c12
   refine bind_ex (ldSl_of (w12.ld (i:=1) rfl rfl)) ?_
   refine bind_ex (ldI_of (w12.ld (i:=1) rfl rfl)) ?_
   obtain ⟨n13,g13,hp⟩:=bind_some' hp
   obtain ⟨p13,q13,i13,h13,j13⟩:=W.ixo (E:=(eInt .i64)) w12 (i:=0) rfl rfl c12 g13
   refine bind_ex i13 ?_
   obtain ⟨l14,e14,hp⟩:=bind_some' hp
   refine sto_k (eInt .i64) w12 (i:=0) (j:=0) (p:=p13) rfl rfl c12 g13 i13 e14 rfl rfl (fun _ h=>by have h:_ = [_]:=h; subst h; exact rfl) fun H15 k15 w15 s15 c15=>?_
   dsimp only [List.set] at w15 s15 c15
   exact ih ((st_len e11).symm.trans (st_len e14).symm) ⟨w15,(s0.trans (s4.trans (s8.trans (s12.trans s15)))),c15⟩ hp
  ·replace hp:=bif_f hb hp
   obtain ⟨w16,s16⟩:=w0.pick' [0] 2 rfl rfl rfl
   dsimp only [pk,pks,nth,List.drop] at w16 s16
   obtain rfl:=Option.some.inj hp
   exact ⟨_,_,rfl,_,rfl,rfl,w16,(s0.trans s16),(mh.step s16)⟩
def bL.p (F:Nat) (ac:Int) (bb:List Int) (af:Int) (bi:Int):Option (List Int):=bL.pl7 F F af bi ac bb 0
theorem bL.P {F:Nat} {aa ac af bi:Int} {cV:ON} {bA:Nat} {cW:Cap} {bb:List Int} {gK:Bool} {gL gM jX:List AV} {H:Hp} {R0:List Rs} (fD:bA = bb.length) (h0:Inn H (Rs.ow gK ⟨cV,bA,cW⟩ (eInt .i64).z gL jX gM :: R0) fun R=>CR (eInt .i64) H R jX bb) {r:List Int} (hp:bL.p F ac bb af bi = some r):∃ v H',bL.tw F aa ac ⟨cV,bA,cW⟩ af bi H = some (v,H')∧bL.Q H (Rs.ow gK ⟨cV,bA,cW⟩ (eInt .i64).z gL jX gM :: R0) R0 cV bA cW gK gL gM r v H':=by
 obtain ⟨w0,eW⟩:=h0
 subst fD
 unfold bL.p at hp
 unfold bL.tw bL.twX
 have s0:=w0.rf
 refine new_k w0 fun H1 w1 s1=>?_
 obtain ⟨w2,s2⟩:=w1.pick' [1,0] 2 rfl rfl rfl
 dsimp only [pk,pks,nth,List.drop] at w2 s2
 exact bL.l7_P F rfl ⟨w2,(s0.trans (s1.trans s2)),(eW.step (s1.trans s2))⟩ hp
def bM.Q (H0:Hp) (Ri R0:List Rs) (cV:ON) (bA:Nat) (cW:Cap) (gK:Bool) (gL gM:List AV) (r:List Int) (v:AV) (H':Hp):Prop:=∃ kV:List AV,v = (.tup [])∧bA = (r).length∧Out H0 Ri H' (Rs.ow gK ⟨cV,bA,cW⟩ (eInt .i64).z gL kV gM :: R0) fun R=>CR (eInt .i64) H' R kV (r)
def bM.S7 (H0:Hp) (Ri R0:List Rs) (iz:ON) (gW:Nat) (iA:Cap) (jU:Bool) (jV jW:List AV) (C:Int→Int→Nat→Nat→Int→Hp→OA) (pC:Int→Int→Int→Int→List Int→Int→Option (List Int)):Prop:=∀ {fg fp mg ji eS:Int} {iB:List Int} {mO:List AV} {eR:Nat},∀ {H:Hp},gW = iB.length→(Out H0 Ri H (Rs.ow jU ⟨iz,gW,iA⟩ (eInt .i64).z jV mO jW :: Rs.blk eR [.int .i64 mg,.int .i64 ji,.sl ⟨iz,gW,iA⟩] :: R0) fun R=>CR (eInt .i64) H R mO iB)→∀ {r:List Int},pC fg fp mg ji iB eS = some r→∃ v H',C fg fp eR 0 eS H = some (v,H')∧bM.Q H0 Ri R0 iz gW iA jU jV jW r v H'
def bM.pl7 (F:Nat) :Nat→Int→Int→Int→Int→List Int→Int→Option (List Int)
 | 0,_,_,_,_,_,_=>none
 | k + 1,fg,fp,mg,ji,iB,eS=>(bif (decide (eS < mg)) then ((aC.p F ji iB eS fg).bind fun r2=>(aC.p F ji iB eS fp).bind fun r6=>(ix iB (IntKind.i64.wrap ((IntKind.i64.wrap (eS * ji)) + fg))).bind fun n10=>(some (iB.set n10 r6)).bind fun l11=>(ix l11 (IntKind.i64.wrap ((IntKind.i64.wrap (eS * ji)) + fp))).bind fun n13=>(some (l11.set n13 r2)).bind fun l14=>bM.pl7 F k fg fp mg ji l14 (IntKind.i64.wrap (eS + 1))) else (some iB))
termination_by structural n=>n
theorem bM.l7_P {F:Nat} {H0:Hp} {Ri R0:List Rs} {iz:ON} {gW:Nat} {iA:Cap} {jU:Bool} {jV jW:List AV} :∀ k,bM.S7 H0 Ri R0 iz gW iA jU jV jW (bM.l7 F (aC.tw F)  k) (bM.pl7 F  k):=by
 intro k
 induction k with
 | zero=>
  intro fg fp mg ji eS iB mO eR H qb h0 r hp
  exact nomatch (show (none:Option (List Int)) = some r from hp)
 | succ k ih=>
  intro fg fp mg ji eS iB mO eR H qb h0 r hp
  obtain ⟨w0,s0,mh⟩:=h0
  subst qb
  unfold bM.pl7 at hp
  unfold bM.l7
  refine bind_ex (ldI_of (w0.ld (i:=1) rfl rfl)) ?_
  refine bif_ex (fun hb=>?_) (fun hb=>?_)
  ·replace hp:=bif_t hb hp
   refine bind_ex (ldI_of (w0.ld (i:=1) rfl rfl)) ?_
   refine bind_ex (ldI_of (w0.ld (i:=1) rfl rfl)) ?_
   refine bind_ex (ldSl_of (w0.ld (i:=1) rfl rfl)) ?_
   have f1:=W.borrow1 (eInt .i64) w0 mh
   obtain ⟨w1,s1⟩:=w0.right1
   obtain ⟨r2,e2,hp⟩:=bind_some' hp
   refine call_ex (aC.P rfl ⟨w1,f1⟩ e2) ?_
   rintro _ H3 ⟨rfl,w3,s3,_⟩
   obtain ⟨w4,s4⟩:=W.frame1 w0 w3 s3
   refine bind_ex rfl ?_
   refine bind_ex (ldSl_of (w4.ld (i:=1) rfl rfl)) ?_
   refine bind_ex (ldI_of (w4.ld (i:=1) rfl rfl)) ?_
   refine bind_ex (ldI_of (w4.ld (i:=1) rfl rfl)) ?_
   refine bind_ex (ldI_of (w4.ld (i:=1) rfl rfl)) ?_
   refine bind_ex (ldSl_of (w4.ld (i:=1) rfl rfl)) ?_
   have f5:=W.borrow1 (eInt .i64) w4 (mh.step s4)
   obtain ⟨w5,s5⟩:=w4.right1
   obtain ⟨r6,e6,hp⟩:=bind_some' hp
   refine call_ex (aC.P rfl ⟨w5,f5⟩ e6) ?_
   rintro _ H7 ⟨rfl,w7,s7,_⟩
   obtain ⟨w8,s8⟩:=W.frame1 w4 w7 s7
   refine bind_ex rfl ?_
   refine ifs_ex (W.cons_of (Rn:=[]) w5 w7 s7) ?_
   obtain ⟨n10,g10,hp⟩:=bind_some' hp
   obtain ⟨p10,q10,i10,h10,j10⟩:=W.ixo (E:=(eInt .i64)) w8 (i:=0) rfl rfl (mh.step (s4.trans s8)) g10
   refine bind_ex i10 ?_
   obtain ⟨l11,e11,hp⟩:=bind_some' hp
   refine sto_k (eInt .i64) w8 (i:=0) (j:=0) (p:=p10) rfl rfl (mh.step (s4.trans s8)) g10 i10 e11 rfl rfl (fun _ h=>by have h:_ = [_]:=h; subst h; exact rfl) fun H12 k12 w12 s12 c12=>?_
   dsimp only [List.set] at w12 s12 c12
   refine bind_ex (ldSl_of (w12.ld (i:=1) rfl rfl)) ?_
   refine bind_ex (ldI_of (w12.ld (i:=1) rfl rfl)) ?_
   obtain ⟨n13,g13,hp⟩:=bind_some' hp
   obtain ⟨p13,q13,i13,h13,j13⟩:=W.ixo (E:=(eInt .i64)) w12 (i:=0) rfl rfl c12 g13
   refine bind_ex i13 ?_
   obtain ⟨l14,e14,hp⟩:=bind_some' hp
   refine sto_k (eInt .i64) w12 (i:=0) (j:=0) (p:=p13) rfl rfl c12 g13 i13 e14 rfl rfl (fun _ h=>by have h:_ = [_]:=h; subst h; exact rfl) fun H15 k15 w15 s15 c15=>?_
   dsimp only [List.set] at w15 s15 c15
   exact ih ((st_len e11).symm.trans (st_len e14).symm) ⟨w15,(s0.trans (s4.trans (s8.trans (s12.trans s15)))),c15⟩ hp
  ·replace hp:=bif_f hb hp
   obtain ⟨w16,s16⟩:=w0.pick' [0] 2 rfl rfl rfl
   dsimp only [pk,pks,nth,List.drop] at w16 s16
   obtain rfl:=Option.some.inj hp
   exact ⟨_,_,rfl,_,rfl,rfl,w16,(s0.trans s16),(mh.step s16)⟩
def bM.p (F:Nat) (aa:Int) (ac:Int) (bb:List Int) (af:Int) (bi:Int):Option (List Int):=bM.pl7 F F af bi aa ac bb 0
theorem bM.P {F:Nat} {aa ac af bi:Int} {cV:ON} {bA:Nat} {cW:Cap} {bb:List Int} {gK:Bool} {gL gM jX:List AV} {H:Hp} {R0:List Rs} (fD:bA = bb.length) (h0:Inn H (Rs.ow gK ⟨cV,bA,cW⟩ (eInt .i64).z gL jX gM :: R0) fun R=>CR (eInt .i64) H R jX bb) {r:List Int} (hp:bM.p F aa ac bb af bi = some r):∃ v H',bM.tw F aa ac ⟨cV,bA,cW⟩ af bi H = some (v,H')∧bM.Q H (Rs.ow gK ⟨cV,bA,cW⟩ (eInt .i64).z gL jX gM :: R0) R0 cV bA cW gK gL gM r v H':=by
 obtain ⟨w0,eW⟩:=h0
 subst fD
 unfold bM.p at hp
 unfold bM.tw bM.twX
 have s0:=w0.rf
 refine new_k w0 fun H1 w1 s1=>?_
 obtain ⟨w2,s2⟩:=w1.pick' [1,0] 2 rfl rfl rfl
 dsimp only [pk,pks,nth,List.drop] at w2 s2
 exact bM.l7_P F rfl ⟨w2,(s0.trans (s1.trans s2)),(eW.step (s1.trans s2))⟩ hp
def ar.Q (H0:Hp) (Ri R0:List Rs) (bk aX bl bc aY aT bf bg bw bh:Int) (cX em cv en eo:ON) (bN dh bC di dj aa:Nat) (cY ep cw es et:Cap) (dI:List Int) (fi fM fj fN fO ax:Bool) (fk fl fP fQ fm fo fR fS fT fU:List AV) (r:Bool×List Int×List Int×List Int×List Int×List Int) (v:AV) (H':Hp):Prop:=∃ iC:List AV,∃ jD:List AV,∃ iD:List AV,∃ jE:List AV,∃ jF:List AV,v = (.bool r.1)∧bN = (r.2.1).length∧dh = (r.2.2.1).length∧bC = (r.2.2.2.1).length∧di = (r.2.2.2.2.1).length∧dj = (r.2.2.2.2.2).length∧Out H0 Ri H' (Rs.ow fi ⟨cX,bN,cY⟩ (eInt .i64).z fk iC fl :: Rs.ow fM ⟨em,dh,ep⟩ (eInt .i64).z fP jD fQ :: Rs.ow fj ⟨cv,bC,cw⟩ (eInt .i64).z fm iD fo :: Rs.ow fN ⟨en,di,es⟩ (eInt .i64).z fR jE fS :: Rs.ow fO ⟨eo,dj,et⟩ (eInt .i64).z fT jF fU :: Rs.blk aa [.int .i64 bk,.int .i64 aX,.sl ⟨cX,bN,cY⟩,.int .i64 bl,.int .i64 bc,.sl ⟨em,dh,ep⟩,.int .i64 aY,.int .i64 aT,.sl ⟨cv,bC,cw⟩,.int .i64 bf,.int .i64 bg,.sl ⟨en,di,es⟩,.int .i64 bw,.int .i64 bh,.sl ⟨eo,dj,et⟩,.bool ax] :: R0) fun R=>CR (eInt .i64) H' R iC (r.2.1)∧CR (eInt .i64) H' R jD (r.2.2.1)∧CR (eInt .i64) H' R iD (r.2.2.2.1)∧CR (eInt .i64) H' R jE (r.2.2.2.2.1)∧CR (eInt .i64) H' R jF (r.2.2.2.2.2)
def ar.S29 (H0:Hp) (Ri R0:List Rs) (ay ak aA ap aq ao au av aH aw:Int) (aR bn aM bo bp:ON) (aF aZ aB a_ ba az:Nat) (aS br aN bs bt:Cap) (cq:List Int) (bV bW bX bY bZ bz:Bool) (b_ ca cb cc cd ce cf cg ch ci:List AV) (C:Nat→Nat→Int→Int→Int→Int→Hp→OA) (pC:Int→Int→List Int→Int→List Int→Int→Int→List Int→Int→Int→List Int→Int→List Int→Int→Int→Int→Int→Option (Bool×List Int×List Int×List Int×List Int×List Int)):Prop:=∀ {aD aG aE aK aL:List Int} {cG cH cI cJ cK:List AV} {dN eA jK kf:Int},∀ {H:Hp},aF = aD.length→aZ = aG.length→aB = aE.length→a_ = aK.length→ba = aL.length→(Out H0 Ri H (Rs.ow bV ⟨aR,aF,aS⟩ (eInt .i64).z b_ cG ca :: Rs.ow bW ⟨bn,aZ,br⟩ (eInt .i64).z cb cH cc :: Rs.ow bX ⟨aM,aB,aN⟩ (eInt .i64).z cd cI ce :: Rs.ow bY ⟨bo,a_,bs⟩ (eInt .i64).z cf cJ cg :: Rs.ow bZ ⟨bp,ba,bt⟩ (eInt .i64).z ch cK ci :: Rs.blk az [.int .i64 ay,.int .i64 ak,.sl ⟨aR,aF,aS⟩,.int .i64 aA,.int .i64 ap,.sl ⟨bn,aZ,br⟩,.int .i64 aq,.int .i64 ao,.sl ⟨aM,aB,aN⟩,.int .i64 au,.int .i64 av,.sl ⟨bo,a_,bs⟩,.int .i64 aH,.int .i64 aw,.sl ⟨bp,ba,bt⟩,.bool bz] :: R0) fun R=>CR (eInt .i64) H R cG aD∧CR (eInt .i64) H R cH aG∧CR (eInt .i64) H R cI aE∧CR (eInt .i64) H R cJ aK∧CR (eInt .i64) H R cK aL)→∀ {r:Bool×List Int×List Int×List Int×List Int×List Int},pC ay ak aD ap aG aq ao aE au av aK aw aL dN eA jK kf = some r→∃ v H',C az 0 dN eA jK kf H = some (v,H')∧ar.Q H0 Ri R0 ay ak aA ap aq ao au av aH aw aR bn aM bo bp aF aZ aB a_ ba az aS br aN bs bt cq bV bW bX bY bZ bz b_ ca cb cc cd ce cf cg ch ci r v H'
def ar.S469 (H0:Hp) (Ri R0:List Rs) (ay ak aA ap aq ao au av aH aw:Int) (aR bn aM bo bp:ON) (aF aZ aB a_ ba az:Nat) (aS br aN bs bt:Cap) (cq:List Int) (bV bW bX bY bZ bz:Bool) (b_ ca cb cc cd ce cf cg ch ci:List AV) (C:Nat→Nat→Int→Int→Int→Int→Int→Hp→OA) (pC:Int→Int→List Int→Int→List Int→Int→Int→List Int→Int→Int→List Int→Int→List Int→Int→Int→Int→Int→Int→Option (Bool×List Int×List Int×List Int×List Int×List Int)):Prop:=∀ {aD aG aE aK aL:List Int} {cG cH cI cJ cK:List AV} {gR gT hY gv gB:Int},∀ {H:Hp},aF = aD.length→aZ = aG.length→aB = aE.length→a_ = aK.length→ba = aL.length→(Out H0 Ri H (Rs.ow bV ⟨aR,aF,aS⟩ (eInt .i64).z b_ cG ca :: Rs.ow bW ⟨bn,aZ,br⟩ (eInt .i64).z cb cH cc :: Rs.ow bX ⟨aM,aB,aN⟩ (eInt .i64).z cd cI ce :: Rs.ow bY ⟨bo,a_,bs⟩ (eInt .i64).z cf cJ cg :: Rs.ow bZ ⟨bp,ba,bt⟩ (eInt .i64).z ch cK ci :: Rs.blk az [.int .i64 ay,.int .i64 ak,.sl ⟨aR,aF,aS⟩,.int .i64 aA,.int .i64 ap,.sl ⟨bn,aZ,br⟩,.int .i64 aq,.int .i64 ao,.sl ⟨aM,aB,aN⟩,.int .i64 au,.int .i64 av,.sl ⟨bo,a_,bs⟩,.int .i64 aH,.int .i64 aw,.sl ⟨bp,ba,bt⟩,.bool bz] :: R0) fun R=>CR (eInt .i64) H R cG aD∧CR (eInt .i64) H R cH aG∧CR (eInt .i64) H R cI aE∧CR (eInt .i64) H R cJ aK∧CR (eInt .i64) H R cK aL)→∀ {r:Bool×List Int×List Int×List Int×List Int×List Int},pC ay ak aD ap aG aq ao aE au av aK aw aL gR gT hY gv gB = some r→∃ v H',C az 0 gR gT hY gv gB H = some (v,H')∧ar.Q H0 Ri R0 ay ak aA ap aq ao au av aH aw aR bn aM bo bp aF aZ aB a_ ba az aS br aN bs bt cq bV bW bX bY bZ bz b_ ca cb cc cd ce cf cg ch ci r v H'
def ar.pj10 (F:Nat) (mP:Int→Int→List Int→Int→List Int→Int→Int→List Int→Int→Int→List Int→Int→List Int→Int→Int→Int→Int→Int→Option (Bool×List Int×List Int×List Int×List Int×List Int)) (ay:Int) (ak:Int) (aD:List Int) (ap:Int) (aG:List Int) (aq:Int) (ao:Int) (aE:List Int) (au:Int) (av:Int) (aK:List Int) (aw:Int) (aL:List Int) (oL:Int) (oM:Int) (oN:Int) (oO:Int) (oP:Int):Option (Bool×List Int×List Int×List Int×List Int×List Int):=mP ay ak aD ap aG aq ao aE au av aK aw aL oL oM oN oO (IntKind.i64.wrap (oP + 1))
theorem ar.j10_P {F:Nat} {H0:Hp} {Ri R0:List Rs} {ay ak aA ap aq ao au av aH aw:Int} {aR bn aM bo bp:ON} {aF aZ aB a_ ba az:Nat} {aS br aN bs bt:Cap} {cq:List Int} {bV bW bX bY bZ bz:Bool} {b_ ca cb cc cd ce cf cg ch ci:List AV} {C469_:Nat→Nat→Int→Int→Int→Int→Int→Hp→OA} {mP:Int→Int→List Int→Int→List Int→Int→Int→List Int→Int→Int→List Int→Int→List Int→Int→Int→Int→Int→Int→Option (Bool×List Int×List Int×List Int×List Int×List Int)} (hC469:ar.S469 H0 Ri R0 ay ak aA ap aq ao au av aH aw aR bn aM bo bp aF aZ aB a_ ba az aS br aN bs bt cq bV bW bX bY bZ bz b_ ca cb cc cd ce cf cg ch ci C469_ mP) {aD aG aE aK aL:List Int} {cG cH cI cJ cK:List AV} {oL oM oN oO oP:Int} {H:Hp} (eG:aF = aD.length) (eH:aZ = aG.length) (eI:aB = aE.length) (eJ:a_ = aK.length) (eK:ba = aL.length) (h0:Out H0 Ri H (Rs.ow bV ⟨aR,aF,aS⟩ (eInt .i64).z b_ cG ca :: Rs.ow bW ⟨bn,aZ,br⟩ (eInt .i64).z cb cH cc :: Rs.ow bX ⟨aM,aB,aN⟩ (eInt .i64).z cd cI ce :: Rs.ow bY ⟨bo,a_,bs⟩ (eInt .i64).z cf cJ cg :: Rs.ow bZ ⟨bp,ba,bt⟩ (eInt .i64).z ch cK ci :: Rs.blk az [.int .i64 ay,.int .i64 ak,.sl ⟨aR,aF,aS⟩,.int .i64 aA,.int .i64 ap,.sl ⟨bn,aZ,br⟩,.int .i64 aq,.int .i64 ao,.sl ⟨aM,aB,aN⟩,.int .i64 au,.int .i64 av,.sl ⟨bo,a_,bs⟩,.int .i64 aH,.int .i64 aw,.sl ⟨bp,ba,bt⟩,.bool bz] :: R0) fun R=>CR (eInt .i64) H R cG aD∧CR (eInt .i64) H R cH aG∧CR (eInt .i64) H R cI aE∧CR (eInt .i64) H R cJ aK∧CR (eInt .i64) H R cK aL) {r:Bool×List Int×List Int×List Int×List Int×List Int} (hp:ar.pj10 F mP ay ak aD ap aG aq ao aE au av aK aw aL oL oM oN oO oP = some r):∃ v H',ar.j10 F (aC.tw F) (co.tw F) (bL.tw F) (bM.tw F) C469_ az 0 oL oM oN oO oP H = some (v,H')∧ar.Q H0 Ri R0 ay ak aA ap aq ao au av aH aw aR bn aM bo bp aF aZ aB a_ ba az aS br aN bs bt cq bV bW bX bY bZ bz b_ ca cb cc cd ce cf cg ch ci r v H':=by
 obtain ⟨w0,s0,c_,dn,dc,dy,dz⟩:=h0
 subst eG
 subst eH
 subst eI
 subst eJ
 subst eK
 unfold ar.pj10 at hp
 unfold ar.j10
 exact hC469 rfl rfl rfl rfl rfl ⟨w0,s0,c_,dn,dc,dy,dz⟩ hp
def ar.pj8 (F:Nat) (eD:Int→Int→List Int→Int→List Int→Int→Int→List Int→Int→Int→List Int→Int→List Int→Int→Int→Int→Int→Option (Bool×List Int×List Int×List Int×List Int×List Int)) (ay:Int) (ak:Int) (aD:List Int) (ap:Int) (aG:List Int) (aq:Int) (ao:Int) (aE:List Int) (au:Int) (av:Int) (aK:List Int) (aw:Int) (aL:List Int) (oD:Int) (oE:Int) (oF:Int) (oG:Int):Option (Bool×List Int×List Int×List Int×List Int×List Int):=eD ay ak aD ap aG aq ao aE au av aK aw aL oD oE oF (IntKind.i64.wrap (oG + 1))
theorem ar.j8_P {F:Nat} {H0:Hp} {Ri R0:List Rs} {ay ak aA ap aq ao au av aH aw:Int} {aR bn aM bo bp:ON} {aF aZ aB a_ ba az:Nat} {aS br aN bs bt:Cap} {cq:List Int} {bV bW bX bY bZ bz:Bool} {b_ ca cb cc cd ce cf cg ch ci:List AV} {C29_:Nat→Nat→Int→Int→Int→Int→Hp→OA} {eD:Int→Int→List Int→Int→List Int→Int→Int→List Int→Int→Int→List Int→Int→List Int→Int→Int→Int→Int→Option (Bool×List Int×List Int×List Int×List Int×List Int)} (hC29:ar.S29 H0 Ri R0 ay ak aA ap aq ao au av aH aw aR bn aM bo bp aF aZ aB a_ ba az aS br aN bs bt cq bV bW bX bY bZ bz b_ ca cb cc cd ce cf cg ch ci C29_ eD) {aD aG aE aK aL:List Int} {cG cH cI cJ cK:List AV} {oD oE oF oG:Int} {H:Hp} (eG:aF = aD.length) (eH:aZ = aG.length) (eI:aB = aE.length) (eJ:a_ = aK.length) (eK:ba = aL.length) (h0:Out H0 Ri H (Rs.ow bV ⟨aR,aF,aS⟩ (eInt .i64).z b_ cG ca :: Rs.ow bW ⟨bn,aZ,br⟩ (eInt .i64).z cb cH cc :: Rs.ow bX ⟨aM,aB,aN⟩ (eInt .i64).z cd cI ce :: Rs.ow bY ⟨bo,a_,bs⟩ (eInt .i64).z cf cJ cg :: Rs.ow bZ ⟨bp,ba,bt⟩ (eInt .i64).z ch cK ci :: Rs.blk az [.int .i64 ay,.int .i64 ak,.sl ⟨aR,aF,aS⟩,.int .i64 aA,.int .i64 ap,.sl ⟨bn,aZ,br⟩,.int .i64 aq,.int .i64 ao,.sl ⟨aM,aB,aN⟩,.int .i64 au,.int .i64 av,.sl ⟨bo,a_,bs⟩,.int .i64 aH,.int .i64 aw,.sl ⟨bp,ba,bt⟩,.bool bz] :: R0) fun R=>CR (eInt .i64) H R cG aD∧CR (eInt .i64) H R cH aG∧CR (eInt .i64) H R cI aE∧CR (eInt .i64) H R cJ aK∧CR (eInt .i64) H R cK aL) {r:Bool×List Int×List Int×List Int×List Int×List Int} (hp:ar.pj8 F eD ay ak aD ap aG aq ao aE au av aK aw aL oD oE oF oG = some r):∃ v H',ar.j8 F (aC.tw F) (co.tw F) (bL.tw F) (bM.tw F) C29_ az 0 oD oE oF oG H = some (v,H')∧ar.Q H0 Ri R0 ay ak aA ap aq ao au av aH aw aR bn aM bo bp aF aZ aB a_ ba az aS br aN bs bt cq bV bW bX bY bZ bz b_ ca cb cc cd ce cf cg ch ci r v H':=by
 obtain ⟨w0,s0,c_,dn,dc,dy,dz⟩:=h0
 subst eG
 subst eH
 subst eI
 subst eJ
 subst eK
 unfold ar.pj8 at hp
 unfold ar.j8
 exact hC29 rfl rfl rfl rfl rfl ⟨w0,s0,c_,dn,dc,dy,dz⟩ hp
def ar.pj9 (F:Nat) (eD:Int→Int→List Int→Int→List Int→Int→Int→List Int→Int→Int→List Int→Int→List Int→Int→Int→Int→Int→Option (Bool×List Int×List Int×List Int×List Int×List Int)) (ay:Int) (ak:Int) (aD:List Int) (ap:Int) (aG:List Int) (aq:Int) (ao:Int) (aE:List Int) (au:Int) (av:Int) (aK:List Int) (aw:Int) (aL:List Int) (oH:Int) (oI:Int) (oJ:Int) (oK:Int):Option (Bool×List Int×List Int×List Int×List Int×List Int):=ar.pj8 F eD ay ak aD ap aG aq ao aE au av aK aw aL oH oI oJ oK
theorem ar.j9_P {F:Nat} {H0:Hp} {Ri R0:List Rs} {ay ak aA ap aq ao au av aH aw:Int} {aR bn aM bo bp:ON} {aF aZ aB a_ ba az:Nat} {aS br aN bs bt:Cap} {cq:List Int} {bV bW bX bY bZ bz:Bool} {b_ ca cb cc cd ce cf cg ch ci:List AV} {C29_:Nat→Nat→Int→Int→Int→Int→Hp→OA} {eD:Int→Int→List Int→Int→List Int→Int→Int→List Int→Int→Int→List Int→Int→List Int→Int→Int→Int→Int→Option (Bool×List Int×List Int×List Int×List Int×List Int)} (hC29:ar.S29 H0 Ri R0 ay ak aA ap aq ao au av aH aw aR bn aM bo bp aF aZ aB a_ ba az aS br aN bs bt cq bV bW bX bY bZ bz b_ ca cb cc cd ce cf cg ch ci C29_ eD) {aD aG aE aK aL:List Int} {cG cH cI cJ cK:List AV} {oH oI oJ oK:Int} {H:Hp} (eG:aF = aD.length) (eH:aZ = aG.length) (eI:aB = aE.length) (eJ:a_ = aK.length) (eK:ba = aL.length) (h0:Out H0 Ri H (Rs.ow bV ⟨aR,aF,aS⟩ (eInt .i64).z b_ cG ca :: Rs.ow bW ⟨bn,aZ,br⟩ (eInt .i64).z cb cH cc :: Rs.ow bX ⟨aM,aB,aN⟩ (eInt .i64).z cd cI ce :: Rs.ow bY ⟨bo,a_,bs⟩ (eInt .i64).z cf cJ cg :: Rs.ow bZ ⟨bp,ba,bt⟩ (eInt .i64).z ch cK ci :: Rs.blk az [.int .i64 ay,.int .i64 ak,.sl ⟨aR,aF,aS⟩,.int .i64 aA,.int .i64 ap,.sl ⟨bn,aZ,br⟩,.int .i64 aq,.int .i64 ao,.sl ⟨aM,aB,aN⟩,.int .i64 au,.int .i64 av,.sl ⟨bo,a_,bs⟩,.int .i64 aH,.int .i64 aw,.sl ⟨bp,ba,bt⟩,.bool bz] :: R0) fun R=>CR (eInt .i64) H R cG aD∧CR (eInt .i64) H R cH aG∧CR (eInt .i64) H R cI aE∧CR (eInt .i64) H R cJ aK∧CR (eInt .i64) H R cK aL) {r:Bool×List Int×List Int×List Int×List Int×List Int} (hp:ar.pj9 F eD ay ak aD ap aG aq ao aE au av aK aw aL oH oI oJ oK = some r):∃ v H',ar.j9 F (aC.tw F) (co.tw F) (bL.tw F) (bM.tw F) C29_ az 0 oH oI oJ oK H = some (v,H')∧ar.Q H0 Ri R0 ay ak aA ap aq ao au av aH aw aR bn aM bo bp aF aZ aB a_ ba az aS br aN bs bt cq bV bW bX bY bZ bz b_ ca cb cc cd ce cf cg ch ci r v H':=by
 obtain ⟨w0,s0,c_,dn,dc,dy,dz⟩:=h0
 subst eG
 subst eH
 subst eI
 subst eJ
 subst eK
 unfold ar.pj9 at hp
 unfold ar.j9
 exact ar.j8_P (@hC29) rfl rfl rfl rfl rfl ⟨w0,s0,c_,dn,dc,dy,dz⟩ hp
def ar.pl469 (F:Nat) (eD:Int→Int→List Int→Int→List Int→Int→Int→List Int→Int→Int→List Int→Int→List Int→Int→Int→Int→Int→Option (Bool×List Int×List Int×List Int×List Int×List Int)):Nat→Int→Int→List Int→Int→List Int→Int→Int→List Int→Int→Int→List Int→Int→List Int→Int→Int→Int→Int→Int→Option (Bool×List Int×List Int×List Int×List Int×List Int)
 | 0,_,_,_,_,_,_,_,_,_,_,_,_,_,_,_,_,_,_=>none
 | k + 1,ay,ak,aD,ap,aG,aq,ao,aE,au,av,aK,aw,aL,gR,gT,hY,gv,gB=>(bif (decide (gB < ak)) then ((aC.p F ak aD gv gB).bind fun r2=>(co.p F r2).bind fun r5=>(bif (decide (r5 > 0)) then ((bif (decide (gT < 0)) then (ar.pl469 F eD k ay ak aD ap aG aq ao aE au av aK aw aL gR gv gB gv (IntKind.i64.wrap (gB + 1))) else ((aC.p F ak aD gT hY).bind fun r8=>(co.p F r8).bind fun r11=>(bif (decide (r5 < r11)) then (ar.pj10 F (ar.pl469 F eD k) ay ak aD ap aG aq ao aE au av aK aw aL gR gv gB gv gB) else (ar.pj10 F (ar.pl469 F eD k) ay ak aD ap aG aq ao aE au av aK aw aL gR gT hY gv gB))))) else (ar.pl469 F eD k ay ak aD ap aG aq ao aE au av aK aw aL gR gT hY gv (IntKind.i64.wrap (gB + 1))))) else (ar.pj9 F eD ay ak aD ap aG aq ao aE au av aK aw aL gR gT hY gv))
termination_by structural n=>n
theorem ar.l469_P {F:Nat} {H0:Hp} {Ri R0:List Rs} {ay ak aA ap aq ao au av aH aw:Int} {aR bn aM bo bp:ON} {aF aZ aB a_ ba az:Nat} {aS br aN bs bt:Cap} {cq:List Int} {bV bW bX bY bZ bz:Bool} {b_ ca cb cc cd ce cf cg ch ci:List AV} {C29_:Nat→Nat→Int→Int→Int→Int→Hp→OA} {eD:Int→Int→List Int→Int→List Int→Int→Int→List Int→Int→Int→List Int→Int→List Int→Int→Int→Int→Int→Option (Bool×List Int×List Int×List Int×List Int×List Int)} (hC29:ar.S29 H0 Ri R0 ay ak aA ap aq ao au av aH aw aR bn aM bo bp aF aZ aB a_ ba az aS br aN bs bt cq bV bW bX bY bZ bz b_ ca cb cc cd ce cf cg ch ci C29_ eD):∀ k,ar.S469 H0 Ri R0 ay ak aA ap aq ao au av aH aw aR bn aM bo bp aF aZ aB a_ ba az aS br aN bs bt cq bV bW bX bY bZ bz b_ ca cb cc cd ce cf cg ch ci (ar.l469 F (aC.tw F) (co.tw F) (bL.tw F) (bM.tw F) C29_ k) (ar.pl469 F eD k):=by
 intro k
 induction k with
 | zero=>
  intro aD aG aE aK aL cG cH cI cJ cK gR gT hY gv gB H eG eH eI eJ eK h0 r hp
  exact nomatch (show (none:Option (Bool×List Int×List Int×List Int×List Int×List Int)) = some r from hp)
 | succ k ih=>
  intro aD aG aE aK aL cG cH cI cJ cK gR gT hY gv gB H eG eH eI eJ eK h0 r hp
  obtain ⟨w0,s0,c_,dn,dc,dy,dz⟩:=h0
  subst eG
  subst eH
  subst eI
  subst eJ
  subst eK
  unfold ar.pl469 at hp
  unfold ar.l469
  refine bind_ex (ldI_of (w0.ld (i:=5) rfl rfl)) ?_
  refine bif_ex (fun hb=>?_) (fun hb=>?_)
  ·replace hp:=bif_t hb hp
   refine bind_ex (ldI_of (w0.ld (i:=5) rfl rfl)) ?_
   refine bind_ex (ldI_of (w0.ld (i:=5) rfl rfl)) ?_
   refine bind_ex (ldSl_of (w0.ld (i:=5) rfl rfl)) ?_
   have f1:=W.borrow1 (eInt .i64) w0 c_
   obtain ⟨w1,s1⟩:=w0.right1
   obtain ⟨r2,e2,hp⟩:=bind_some' hp
   refine call_ex (aC.P rfl ⟨w1,f1⟩ e2) ?_
   rintro _ H3 ⟨rfl,w3,s3,_⟩
   obtain ⟨w4,s4⟩:=W.frame1 w0 w3 s3
   refine bind_ex rfl ?_
   obtain ⟨r5,e5,hp⟩:=bind_some' hp
   refine call_ex (co.P ⟨w4,trivial⟩ e5) ?_
   rintro _ H6 ⟨rfl,w6,s6,_⟩
   refine bind_ex rfl ?_
   refine bif_ex (fun hb=>?_) (fun hb=>?_)
   ·replace hp:=bif_t hb hp
    refine bif_ex (fun hb=>?_) (fun hb=>?_)
    ·replace hp:=bif_t hb hp
     exact ih rfl rfl rfl rfl rfl ⟨w6,(s0.trans (s4.trans s6)),(c_.step (s4.trans s6)),(dn.step (s4.trans s6)),(dc.step (s4.trans s6)),(dy.step (s4.trans s6)),(dz.step (s4.trans s6))⟩ hp
    ·replace hp:=bif_f hb hp
     refine bind_ex (ldI_of (w6.ld (i:=5) rfl rfl)) ?_
     refine bind_ex (ldI_of (w6.ld (i:=5) rfl rfl)) ?_
     refine bind_ex (ldSl_of (w6.ld (i:=5) rfl rfl)) ?_
     have f7:=W.borrow1 (eInt .i64) w6 (c_.step (s4.trans s6))
     obtain ⟨w7,s7⟩:=w6.right1
     obtain ⟨r8,e8,hp⟩:=bind_some' hp
     refine call_ex (aC.P rfl ⟨w7,f7⟩ e8) ?_
     rintro _ H9 ⟨rfl,w9,s9,_⟩
     obtain ⟨w10,s10⟩:=W.frame1 w6 w9 s9
     refine bind_ex rfl ?_
     obtain ⟨r11,e11,hp⟩:=bind_some' hp
     refine call_ex (co.P ⟨w10,trivial⟩ e11) ?_
     rintro _ H12 ⟨rfl,w12,s12,_⟩
     refine bind_ex rfl ?_
     refine bif_ex (fun hb=>?_) (fun hb=>?_)
     ·replace hp:=bif_t hb hp
      exact ar.j10_P (@ih) rfl rfl rfl rfl rfl ⟨w12,(s0.trans (s4.trans (s6.trans (s10.trans s12)))),(c_.step (s4.trans (s6.trans (s10.trans s12)))),(dn.step (s4.trans (s6.trans (s10.trans s12)))),(dc.step (s4.trans (s6.trans (s10.trans s12)))),(dy.step (s4.trans (s6.trans (s10.trans s12)))),(dz.step (s4.trans (s6.trans (s10.trans s12))))⟩ hp
     ·replace hp:=bif_f hb hp
      exact ar.j10_P (@ih) rfl rfl rfl rfl rfl ⟨w12,(s0.trans (s4.trans (s6.trans (s10.trans s12)))),(c_.step (s4.trans (s6.trans (s10.trans s12)))),(dn.step (s4.trans (s6.trans (s10.trans s12)))),(dc.step (s4.trans (s6.trans (s10.trans s12)))),(dy.step (s4.trans (s6.trans (s10.trans s12)))),(dz.step (s4.trans (s6.trans (s10.trans s12))))⟩ hp
   ·replace hp:=bif_f hb hp
    exact ih rfl rfl rfl rfl rfl ⟨w6,(s0.trans (s4.trans s6)),(c_.step (s4.trans s6)),(dn.step (s4.trans s6)),(dc.step (s4.trans s6)),(dy.step (s4.trans s6)),(dz.step (s4.trans s6))⟩ hp
  ·replace hp:=bif_f hb hp
   exact ar.j9_P (@hC29) rfl rfl rfl rfl rfl ⟨w0,s0,c_,dn,dc,dy,dz⟩ hp
def ar.S65513 (H0:Hp) (Ri R0:List Rs) (ay ak aA ap aq ao au av aH aw:Int) (aR bn aM bo bp:ON) (aF aZ aB a_ ba az:Nat) (aS br aN bs bt:Cap) (cq:List Int) (bV bW bX bY bZ bz:Bool) (b_ ca cb cc cd ce cf cg ch ci:List AV) (C:Nat→Nat→Int→Int→Hp→OA) (pC:Int→List Int→Int→List Int→Int→List Int→List Int→List Int→Int→Int→Option (Bool×List Int×List Int×List Int×List Int×List Int)):Prop:=∀ {aD aG aE aK aL:List Int} {cG cH cI cJ cK:List AV} {io iM:Int},∀ {H:Hp},aF = aD.length→aZ = aG.length→aB = aE.length→a_ = aK.length→ba = aL.length→(Out H0 Ri H (Rs.ow bV ⟨aR,aF,aS⟩ (eInt .i64).z b_ cG ca :: Rs.ow bW ⟨bn,aZ,br⟩ (eInt .i64).z cb cH cc :: Rs.ow bX ⟨aM,aB,aN⟩ (eInt .i64).z cd cI ce :: Rs.ow bY ⟨bo,a_,bs⟩ (eInt .i64).z cf cJ cg :: Rs.ow bZ ⟨bp,ba,bt⟩ (eInt .i64).z ch cK ci :: Rs.blk az [.int .i64 ay,.int .i64 ak,.sl ⟨aR,aF,aS⟩,.int .i64 aA,.int .i64 ap,.sl ⟨bn,aZ,br⟩,.int .i64 aq,.int .i64 ao,.sl ⟨aM,aB,aN⟩,.int .i64 au,.int .i64 av,.sl ⟨bo,a_,bs⟩,.int .i64 aH,.int .i64 aw,.sl ⟨bp,ba,bt⟩,.bool bz] :: R0) fun R=>CR (eInt .i64) H R cG aD∧CR (eInt .i64) H R cH aG∧CR (eInt .i64) H R cI aE∧CR (eInt .i64) H R cJ aK∧CR (eInt .i64) H R cK aL)→∀ {r:Bool×List Int×List Int×List Int×List Int×List Int},pC ak aD ap aG ao aE aK aL io iM = some r→∃ v H',C az 0 io iM H = some (v,H')∧ar.Q H0 Ri R0 ay ak aA ap aq ao au av aH aw aR bn aM bo bp aF aZ aB a_ ba az aS br aN bs bt cq bV bW bX bY bZ bz b_ ca cb cc cd ce cf cg ch ci r v H'
def ar.S65515 (H0:Hp) (Ri R0:List Rs) (ay ak aA ap aq ao au av aH aw:Int) (aR bn aM bo bp:ON) (aF aZ aB a_ ba az:Nat) (aS br aN bs bt:Cap) (cq:List Int) (bV bW bX bY bZ bz:Bool) (b_ ca cb cc cd ce cf cg ch ci:List AV) (C:Nat→Nat→Int→Int→Hp→OA) (pC:List Int→Int→List Int→Int→List Int→List Int→List Int→Int→Int→Option (Bool×List Int×List Int×List Int×List Int×List Int)):Prop:=∀ {aD aG aE aK aL:List Int} {cG cH cI cJ cK:List AV} {hL hD:Int},∀ {H:Hp},aF = aD.length→aZ = aG.length→aB = aE.length→a_ = aK.length→ba = aL.length→(Out H0 Ri H (Rs.ow bV ⟨aR,aF,aS⟩ (eInt .i64).z b_ cG ca :: Rs.ow bW ⟨bn,aZ,br⟩ (eInt .i64).z cb cH cc :: Rs.ow bX ⟨aM,aB,aN⟩ (eInt .i64).z cd cI ce :: Rs.ow bY ⟨bo,a_,bs⟩ (eInt .i64).z cf cJ cg :: Rs.ow bZ ⟨bp,ba,bt⟩ (eInt .i64).z ch cK ci :: Rs.blk az [.int .i64 ay,.int .i64 ak,.sl ⟨aR,aF,aS⟩,.int .i64 aA,.int .i64 ap,.sl ⟨bn,aZ,br⟩,.int .i64 aq,.int .i64 ao,.sl ⟨aM,aB,aN⟩,.int .i64 au,.int .i64 av,.sl ⟨bo,a_,bs⟩,.int .i64 aH,.int .i64 aw,.sl ⟨bp,ba,bt⟩,.bool bz] :: R0) fun R=>CR (eInt .i64) H R cG aD∧CR (eInt .i64) H R cH aG∧CR (eInt .i64) H R cI aE∧CR (eInt .i64) H R cJ aK∧CR (eInt .i64) H R cK aL)→∀ {r:Bool×List Int×List Int×List Int×List Int×List Int},pC aD ap aG ao aE aK aL hL hD = some r→∃ v H',C az 0 hL hD H = some (v,H')∧ar.Q H0 Ri R0 ay ak aA ap aq ao au av aH aw aR bn aM bo bp aF aZ aB a_ ba az aS br aN bs bt cq bV bW bX bY bZ bz b_ ca cb cc cd ce cf cg ch ci r v H'
def ar.pl65515 (F:Nat) :Nat→List Int→Int→List Int→Int→List Int→List Int→List Int→Int→Int→Option (Bool×List Int×List Int×List Int×List Int×List Int)
 | 0,_,_,_,_,_,_,_,_,_=>none
 | k + 1,aD,ap,aG,ao,aE,aK,aL,hL,hD=>(bif (decide (hD < ap)) then ((aC.p F ap aG hL hD).bind fun r3=>(ix aG (IntKind.i64.wrap ((IntKind.i64.wrap (hL * ap)) + hD))).bind fun n7=>(some (aG.set n7 (IntKind.i64.wrap (0 - r3)))).bind fun l8=>(aC.p F ao aE hD hL).bind fun r12=>(ix aE (IntKind.i64.wrap ((IntKind.i64.wrap (hD * ao)) + hL))).bind fun n16=>(some (aE.set n16 (IntKind.i64.wrap (0 - r12)))).bind fun l17=>ar.pl65515 F k aD ap l8 ao l17 aK aL hL (IntKind.i64.wrap (hD + 1))) else (some (true,aD,aG,aE,aK,aL)))
termination_by structural n=>n
theorem ar.l65515_P {F:Nat} {H0:Hp} {Ri R0:List Rs} {ay ak aA ap aq ao au av aH aw:Int} {aR bn aM bo bp:ON} {aF aZ aB a_ ba az:Nat} {aS br aN bs bt:Cap} {cq:List Int} {bV bW bX bY bZ bz:Bool} {b_ ca cb cc cd ce cf cg ch ci:List AV} :∀ k,ar.S65515 H0 Ri R0 ay ak aA ap aq ao au av aH aw aR bn aM bo bp aF aZ aB a_ ba az aS br aN bs bt cq bV bW bX bY bZ bz b_ ca cb cc cd ce cf cg ch ci (ar.l65515 F (aC.tw F) (co.tw F) (bL.tw F) (bM.tw F)  k) (ar.pl65515 F  k):=by
 intro k
 induction k with
 | zero=>
  intro aD aG aE aK aL cG cH cI cJ cK hL hD H eG eH eI eJ eK h0 r hp
  exact nomatch (show (none:Option (Bool×List Int×List Int×List Int×List Int×List Int)) = some r from hp)
 | succ k ih=>
  intro aD aG aE aK aL cG cH cI cJ cK hL hD H eG eH eI eJ eK h0 r hp
  obtain ⟨w0,s0,c_,dn,dc,dy,dz⟩:=h0
  subst eG
  subst eH
  subst eI
  subst eJ
  subst eK
  unfold ar.pl65515 at hp
  unfold ar.l65515
  refine bind_ex (ldI_of (w0.ld (i:=5) rfl rfl)) ?_
  refine bif_ex (fun hb=>?_) (fun hb=>?_)
  ·replace hp:=bif_t hb hp
   refine bind_ex (ldSl_of (w0.ld (i:=5) rfl rfl)) ?_
   refine bind_ex (ldI_of (w0.ld (i:=5) rfl rfl)) ?_
   refine bind_ex (ldI_of (w0.ld (i:=5) rfl rfl)) ?_
   refine bind_ex (ldI_of (w0.ld (i:=5) rfl rfl)) ?_
   refine bind_ex (ldSl_of (w0.ld (i:=5) rfl rfl)) ?_
   obtain ⟨w1,s1⟩:=w0.pick' [1,0,2,3,4,5] 6 rfl rfl rfl
   dsimp only [pk,pks,nth,List.drop] at w1 s1
   have f2:=W.borrow1 (eInt .i64) w1 (dn.step s1)
   obtain ⟨w2,s2⟩:=w1.right1
   obtain ⟨r3,e3,hp⟩:=bind_some' hp
   refine call_ex (aC.P rfl ⟨w2,f2⟩ e3) ?_
   rintro _ H4 ⟨rfl,w4,s4,_⟩
   obtain ⟨w5,s5⟩:=W.frame1 w1 w4 s4
   refine bind_ex rfl ?_
   refine ifs_ex (Cons.tr (Cons.refl _) s1 (W.cons_of (Rn:=[]) w2 w4 s4)) ?_
   obtain ⟨n7,g7,hp⟩:=bind_some' hp
   obtain ⟨p7,q7,i7,h7,j7⟩:=W.ixo (E:=(eInt .i64)) w5 (i:=0) rfl rfl (dn.step (s1.trans s5)) g7
   refine bind_ex i7 ?_
   obtain ⟨l8,e8,hp⟩:=bind_some' hp
   refine sto_k (eInt .i64) w5 (i:=0) (j:=0) (p:=p7) rfl rfl (dn.step (s1.trans s5)) g7 i7 e8 rfl rfl (fun _ h=>by have h:_ = [_]:=h; subst h; exact rfl) fun H9 k9 w9 s9 c9=>?_
   dsimp only [List.set] at w9 s9 c9
   refine bind_ex (ldSl_of (w9.ld (i:=5) rfl rfl)) ?_
   refine bind_ex (ldI_of (w9.ld (i:=5) rfl rfl)) ?_
   refine bind_ex (ldI_of (w9.ld (i:=5) rfl rfl)) ?_
   refine bind_ex (ldI_of (w9.ld (i:=5) rfl rfl)) ?_
   refine bind_ex (ldSl_of (w9.ld (i:=5) rfl rfl)) ?_
   obtain ⟨w10,s10⟩:=w9.pick' [2,0,1,3,4,5] 6 rfl rfl rfl
   dsimp only [pk,pks,nth,List.drop] at w10 s10
   have f11:=W.borrow1 (eInt .i64) w10 (dc.step (s1.trans (s5.trans (s9.trans s10))))
   obtain ⟨w11,s11⟩:=w10.right1
   obtain ⟨r12,e12,hp⟩:=bind_some' hp
   refine call_ex (aC.P rfl ⟨w11,f11⟩ e12) ?_
   rintro _ H13 ⟨rfl,w13,s13,_⟩
   obtain ⟨w14,s14⟩:=W.frame1 w10 w13 s13
   refine bind_ex rfl ?_
   refine ifs_ex (Cons.tr (Cons.refl _) s10 (W.cons_of (Rn:=[]) w11 w13 s13)) ?_
   obtain ⟨n16,g16,hp⟩:=bind_some' hp
   obtain ⟨p16,q16,i16,h16,j16⟩:=W.ixo (E:=(eInt .i64)) w14 (i:=0) rfl rfl (dc.step (s1.trans (s5.trans (s9.trans (s10.trans s14))))) g16
   refine bind_ex i16 ?_
   obtain ⟨l17,e17,hp⟩:=bind_some' hp
   refine sto_k (eInt .i64) w14 (i:=0) (j:=0) (p:=p16) rfl rfl (dc.step (s1.trans (s5.trans (s9.trans (s10.trans s14))))) g16 i16 e17 rfl rfl (fun _ h=>by have h:_ = [_]:=h; subst h; exact rfl) fun H18 k18 w18 s18 c18=>?_
   dsimp only [List.set] at w18 s18 c18
   obtain ⟨w19,s19⟩:=w18.pick' [2,1,0,3,4,5] 6 rfl rfl rfl
   dsimp only [pk,pks,nth,List.drop] at w19 s19
   exact ih rfl ((st_len e8).symm) ((st_len e17).symm) rfl rfl ⟨w19,(s0.trans (s1.trans (s5.trans (s9.trans (s10.trans (s14.trans (s18.trans s19))))))),(c_.step (s1.trans (s5.trans (s9.trans (s10.trans (s14.trans (s18.trans s19))))))),(c9.step (s10.trans (s14.trans (s18.trans s19)))),(c18.step s19),(dy.step (s1.trans (s5.trans (s9.trans (s10.trans (s14.trans (s18.trans s19))))))),(dz.step (s1.trans (s5.trans (s9.trans (s10.trans (s14.trans (s18.trans s19)))))))⟩ hp
  ·replace hp:=bif_f hb hp
   obtain rfl:=Option.some.inj hp
   exact ⟨_,_,rfl,_,_,_,_,_,rfl,rfl,rfl,rfl,rfl,rfl,w0,s0,c_,dn,dc,dy,dz⟩
def ar.pj5 (F:Nat)  (aD:List Int) (ap:Int) (aG:List Int) (ao:Int) (aE:List Int) (aK:List Int) (aL:List Int) (oC:Int):Option (Bool×List Int×List Int×List Int×List Int×List Int):=ar.pl65515 F F aD ap aG ao aE aK aL oC 0
theorem ar.j5_P {F:Nat} {H0:Hp} {Ri R0:List Rs} {ay ak aA ap aq ao au av aH aw:Int} {aR bn aM bo bp:ON} {aF aZ aB a_ ba az:Nat} {aS br aN bs bt:Cap} {cq:List Int} {bV bW bX bY bZ bz:Bool} {b_ ca cb cc cd ce cf cg ch ci:List AV}  {aD aG aE aK aL:List Int} {cG cH cI cJ cK:List AV} {oC:Int} {H:Hp} (eG:aF = aD.length) (eH:aZ = aG.length) (eI:aB = aE.length) (eJ:a_ = aK.length) (eK:ba = aL.length) (h0:Out H0 Ri H (Rs.ow bV ⟨aR,aF,aS⟩ (eInt .i64).z b_ cG ca :: Rs.ow bW ⟨bn,aZ,br⟩ (eInt .i64).z cb cH cc :: Rs.ow bX ⟨aM,aB,aN⟩ (eInt .i64).z cd cI ce :: Rs.ow bY ⟨bo,a_,bs⟩ (eInt .i64).z cf cJ cg :: Rs.ow bZ ⟨bp,ba,bt⟩ (eInt .i64).z ch cK ci :: Rs.blk az [.int .i64 ay,.int .i64 ak,.sl ⟨aR,aF,aS⟩,.int .i64 aA,.int .i64 ap,.sl ⟨bn,aZ,br⟩,.int .i64 aq,.int .i64 ao,.sl ⟨aM,aB,aN⟩,.int .i64 au,.int .i64 av,.sl ⟨bo,a_,bs⟩,.int .i64 aH,.int .i64 aw,.sl ⟨bp,ba,bt⟩,.bool bz] :: R0) fun R=>CR (eInt .i64) H R cG aD∧CR (eInt .i64) H R cH aG∧CR (eInt .i64) H R cI aE∧CR (eInt .i64) H R cJ aK∧CR (eInt .i64) H R cK aL) {r:Bool×List Int×List Int×List Int×List Int×List Int} (hp:ar.pj5 F  aD ap aG ao aE aK aL oC = some r):∃ v H',ar.j5 F (aC.tw F) (co.tw F) (bL.tw F) (bM.tw F)  az 0 oC H = some (v,H')∧ar.Q H0 Ri R0 ay ak aA ap aq ao au av aH aw aR bn aM bo bp aF aZ aB a_ ba az aS br aN bs bt cq bV bW bX bY bZ bz b_ ca cb cc cd ce cf cg ch ci r v H':=by
 obtain ⟨w0,s0,c_,dn,dc,dy,dz⟩:=h0
 subst eG
 subst eH
 subst eI
 subst eJ
 subst eK
 unfold ar.pj5 at hp
 unfold ar.j5
 exact ar.l65515_P F rfl rfl rfl rfl rfl ⟨w0,s0,c_,dn,dc,dy,dz⟩ hp
def ar.pl65513 (F:Nat) :Nat→Int→List Int→Int→List Int→Int→List Int→List Int→List Int→Int→Int→Option (Bool×List Int×List Int×List Int×List Int×List Int)
 | 0,_,_,_,_,_,_,_,_,_,_=>none
 | k + 1,ak,aD,ap,aG,ao,aE,aK,aL,io,iM=>(bif (decide (iM < ak)) then ((aC.p F ak aD io iM).bind fun r2=>(ix aD (IntKind.i64.wrap ((IntKind.i64.wrap (io * ak)) + iM))).bind fun n6=>(some (aD.set n6 (IntKind.i64.wrap (0 - r2)))).bind fun l7=>ar.pl65513 F k ak l7 ap aG ao aE aK aL io (IntKind.i64.wrap (iM + 1))) else (ar.pj5 F aD ap aG ao aE aK aL io))
termination_by structural n=>n
theorem ar.l65513_P {F:Nat} {H0:Hp} {Ri R0:List Rs} {ay ak aA ap aq ao au av aH aw:Int} {aR bn aM bo bp:ON} {aF aZ aB a_ ba az:Nat} {aS br aN bs bt:Cap} {cq:List Int} {bV bW bX bY bZ bz:Bool} {b_ ca cb cc cd ce cf cg ch ci:List AV} :∀ k,ar.S65513 H0 Ri R0 ay ak aA ap aq ao au av aH aw aR bn aM bo bp aF aZ aB a_ ba az aS br aN bs bt cq bV bW bX bY bZ bz b_ ca cb cc cd ce cf cg ch ci (ar.l65513 F (aC.tw F) (co.tw F) (bL.tw F) (bM.tw F)  k) (ar.pl65513 F  k):=by
 intro k
 induction k with
 | zero=>
  intro aD aG aE aK aL cG cH cI cJ cK io iM H eG eH eI eJ eK h0 r hp
  exact nomatch (show (none:Option (Bool×List Int×List Int×List Int×List Int×List Int)) = some r from hp)
 | succ k ih=>
  intro aD aG aE aK aL cG cH cI cJ cK io iM H eG eH eI eJ eK h0 r hp
  obtain ⟨w0,s0,c_,dn,dc,dy,dz⟩:=h0
  subst eG
  subst eH
  subst eI
  subst eJ
  subst eK
  unfold ar.pl65513 at hp
  unfold ar.l65513
  refine bind_ex (ldI_of (w0.ld (i:=5) rfl rfl)) ?_
  refine bif_ex (fun hb=>?_) (fun hb=>?_)
  ·replace hp:=bif_t hb hp
   refine bind_ex (ldSl_of (w0.ld (i:=5) rfl rfl)) ?_
   refine bind_ex (ldI_of (w0.ld (i:=5) rfl rfl)) ?_
   refine bind_ex (ldI_of (w0.ld (i:=5) rfl rfl)) ?_
   refine bind_ex (ldI_of (w0.ld (i:=5) rfl rfl)) ?_
   refine bind_ex (ldSl_of (w0.ld (i:=5) rfl rfl)) ?_
   have f1:=W.borrow1 (eInt .i64) w0 c_
   obtain ⟨w1,s1⟩:=w0.right1
   obtain ⟨r2,e2,hp⟩:=bind_some' hp
   refine call_ex (aC.P rfl ⟨w1,f1⟩ e2) ?_
   rintro _ H3 ⟨rfl,w3,s3,_⟩
   obtain ⟨w4,s4⟩:=W.frame1 w0 w3 s3
   refine bind_ex rfl ?_
   refine ifs_ex (W.cons_of (Rn:=[]) w1 w3 s3) ?_
   obtain ⟨n6,g6,hp⟩:=bind_some' hp
   obtain ⟨p6,q6,i6,h6,j6⟩:=W.ixo (E:=(eInt .i64)) w4 (i:=0) rfl rfl (c_.step s4) g6
   refine bind_ex i6 ?_
   obtain ⟨l7,e7,hp⟩:=bind_some' hp
   refine sto_k (eInt .i64) w4 (i:=0) (j:=0) (p:=p6) rfl rfl (c_.step s4) g6 i6 e7 rfl rfl (fun _ h=>by have h:_ = [_]:=h; subst h; exact rfl) fun H8 k8 w8 s8 c8=>?_
   dsimp only [List.set] at w8 s8 c8
   exact ih ((st_len e7).symm) rfl rfl rfl rfl ⟨w8,(s0.trans (s4.trans s8)),c8,(dn.step (s4.trans s8)),(dc.step (s4.trans s8)),(dy.step (s4.trans s8)),(dz.step (s4.trans s8))⟩ hp
  ·replace hp:=bif_f hb hp
   exact ar.j5_P rfl rfl rfl rfl rfl ⟨w0,s0,c_,dn,dc,dy,dz⟩ hp
def ar.pj6 (F:Nat)  (ay:Int) (ak:Int) (aD:List Int) (ap:Int) (aG:List Int) (aq:Int) (ao:Int) (aE:List Int) (au:Int) (av:Int) (aK:List Int) (aw:Int) (aL:List Int) (iR:Int) (lm:Int) (mu:Int):Option (Bool×List Int×List Int×List Int×List Int×List Int):=(bif (decide (lm < 0)) then (some (false,aD,aG,aE,aK,aL)) else ((bL.p F ak aD lm iR).bind fun r1=>(bL.p F ap aG lm iR).bind fun r4=>(bM.p F aq ao aE lm iR).bind fun r7=>(bM.p F ay ak r1 mu iR).bind fun r10=>(bM.p F au av aK mu iR).bind fun r13=>(bL.p F aw aL mu iR).bind fun r16=>(aC.p F ak r10 iR iR).bind fun r20=>(bif (decide (r20 < 0)) then (ar.pl65513 F F ak r10 ap r4 ao r7 r13 r16 iR 0) else (some (true,r10,r4,r7,r13,r16)))))
theorem ar.j6_P {F:Nat} {H0:Hp} {Ri R0:List Rs} {ay ak aA ap aq ao au av aH aw:Int} {aR bn aM bo bp:ON} {aF aZ aB a_ ba az:Nat} {aS br aN bs bt:Cap} {cq:List Int} {bV bW bX bY bZ bz:Bool} {b_ ca cb cc cd ce cf cg ch ci:List AV}  {aD aG aE aK aL:List Int} {cG cH cI cJ cK:List AV} {iR lm mu:Int} {H:Hp} (eG:aF = aD.length) (eH:aZ = aG.length) (eI:aB = aE.length) (eJ:a_ = aK.length) (eK:ba = aL.length) (h0:Out H0 Ri H (Rs.ow bV ⟨aR,aF,aS⟩ (eInt .i64).z b_ cG ca :: Rs.ow bW ⟨bn,aZ,br⟩ (eInt .i64).z cb cH cc :: Rs.ow bX ⟨aM,aB,aN⟩ (eInt .i64).z cd cI ce :: Rs.ow bY ⟨bo,a_,bs⟩ (eInt .i64).z cf cJ cg :: Rs.ow bZ ⟨bp,ba,bt⟩ (eInt .i64).z ch cK ci :: Rs.blk az [.int .i64 ay,.int .i64 ak,.sl ⟨aR,aF,aS⟩,.int .i64 aA,.int .i64 ap,.sl ⟨bn,aZ,br⟩,.int .i64 aq,.int .i64 ao,.sl ⟨aM,aB,aN⟩,.int .i64 au,.int .i64 av,.sl ⟨bo,a_,bs⟩,.int .i64 aH,.int .i64 aw,.sl ⟨bp,ba,bt⟩,.bool bz] :: R0) fun R=>CR (eInt .i64) H R cG aD∧CR (eInt .i64) H R cH aG∧CR (eInt .i64) H R cI aE∧CR (eInt .i64) H R cJ aK∧CR (eInt .i64) H R cK aL) {r:Bool×List Int×List Int×List Int×List Int×List Int} (hp:ar.pj6 F  ay ak aD ap aG aq ao aE au av aK aw aL iR lm mu = some r):∃ v H',ar.j6 F (aC.tw F) (co.tw F) (bL.tw F) (bM.tw F)  az 0 iR lm mu H = some (v,H')∧ar.Q H0 Ri R0 ay ak aA ap aq ao au av aH aw aR bn aM bo bp aF aZ aB a_ ba az aS br aN bs bt cq bV bW bX bY bZ bz b_ ca cb cc cd ce cf cg ch ci r v H':=by
 obtain ⟨w0,s0,c_,dn,dc,dy,dz⟩:=h0
 subst eG
 subst eH
 subst eI
 subst eJ
 subst eK
 unfold ar.pj6 at hp
 unfold ar.j6
 refine bif_ex (fun hb=>?_) (fun hb=>?_)
 ·replace hp:=bif_t hb hp
  obtain rfl:=Option.some.inj hp
  exact ⟨_,_,rfl,_,_,_,_,_,rfl,rfl,rfl,rfl,rfl,rfl,w0,s0,c_,dn,dc,dy,dz⟩
 ·replace hp:=bif_f hb hp
  refine bind_ex (ldI_of (w0.ld (i:=5) rfl rfl)) ?_
  refine bind_ex (ldI_of (w0.ld (i:=5) rfl rfl)) ?_
  refine bind_ex (ldSl_of (w0.ld (i:=5) rfl rfl)) ?_
  obtain ⟨r1,e1,hp⟩:=bind_some' hp
  refine call_ex (bL.P rfl ⟨w0,c_⟩ e1) ?_
  rintro _ H2 ⟨DD,rfl,hl2_0,w2,s2,f2_0⟩
  refine bind_ex (ldI_of (w2.ld (i:=5) rfl rfl)) ?_
  refine bind_ex (ldI_of (w2.ld (i:=5) rfl rfl)) ?_
  refine bind_ex (ldSl_of (w2.ld (i:=5) rfl rfl)) ?_
  obtain ⟨w3,s3⟩:=w2.pick' [1,0,2,3,4,5] 6 rfl rfl rfl
  dsimp only [pk,pks,nth,List.drop] at w3 s3
  obtain ⟨r4,e4,hp⟩:=bind_some' hp
  refine call_ex (bL.P rfl ⟨w3,(dn.step (s2.trans s3))⟩ e4) ?_
  rintro _ H5 ⟨DE,rfl,hl5_0,w5,s5,f5_0⟩
  refine bind_ex (ldI_of (w5.ld (i:=5) rfl rfl)) ?_
  refine bind_ex (ldI_of (w5.ld (i:=5) rfl rfl)) ?_
  refine bind_ex (ldSl_of (w5.ld (i:=5) rfl rfl)) ?_
  obtain ⟨w6,s6⟩:=w5.pick' [2,0,1,3,4,5] 6 rfl rfl rfl
  dsimp only [pk,pks,nth,List.drop] at w6 s6
  obtain ⟨r7,e7,hp⟩:=bind_some' hp
  refine call_ex (bM.P rfl ⟨w6,(dc.step (s2.trans (s3.trans (s5.trans s6))))⟩ e7) ?_
  rintro _ H8 ⟨Ba,rfl,hl8_0,w8,s8,f8_0⟩
  refine bind_ex (ldI_of (w8.ld (i:=5) rfl rfl)) ?_
  refine bind_ex (ldI_of (w8.ld (i:=5) rfl rfl)) ?_
  refine bind_ex (ldSl_of (w8.ld (i:=5) rfl rfl)) ?_
  obtain ⟨w9,s9⟩:=w8.pick' [2,0,1,3,4,5] 6 rfl rfl rfl
  dsimp only [pk,pks,nth,List.drop] at w9 s9
  obtain ⟨r10,e10,hp⟩:=bind_some' hp
  refine call_ex (bM.P hl2_0 ⟨w9,(f2_0.step (s3.trans (s5.trans (s6.trans (s8.trans s9)))))⟩ e10) ?_
  rintro _ H11 ⟨Bb,rfl,hl11_0,w11,s11,f11_0⟩
  refine bind_ex (ldI_of (w11.ld (i:=5) rfl rfl)) ?_
  refine bind_ex (ldI_of (w11.ld (i:=5) rfl rfl)) ?_
  refine bind_ex (ldSl_of (w11.ld (i:=5) rfl rfl)) ?_
  obtain ⟨w12,s12⟩:=w11.pick' [3,0,1,2,4,5] 6 rfl rfl rfl
  dsimp only [pk,pks,nth,List.drop] at w12 s12
  obtain ⟨r13,e13,hp⟩:=bind_some' hp
  refine call_ex (bM.P rfl ⟨w12,(dy.step (s2.trans (s3.trans (s5.trans (s6.trans (s8.trans (s9.trans (s11.trans s12))))))))⟩ e13) ?_
  rintro _ H14 ⟨Bc,rfl,hl14_0,w14,s14,f14_0⟩
  refine bind_ex (ldI_of (w14.ld (i:=5) rfl rfl)) ?_
  refine bind_ex (ldI_of (w14.ld (i:=5) rfl rfl)) ?_
  refine bind_ex (ldSl_of (w14.ld (i:=5) rfl rfl)) ?_
  obtain ⟨w15,s15⟩:=w14.pick' [4,0,1,2,3,5] 6 rfl rfl rfl
  dsimp only [pk,pks,nth,List.drop] at w15 s15
  obtain ⟨r16,e16,hp⟩:=bind_some' hp
  refine call_ex (bL.P rfl ⟨w15,(dz.step (s2.trans (s3.trans (s5.trans (s6.trans (s8.trans (s9.trans (s11.trans (s12.trans (s14.trans s15))))))))))⟩ e16) ?_
  rintro _ H17 ⟨Be,rfl,hl17_0,w17,s17,f17_0⟩
  refine bind_ex (ldI_of (w17.ld (i:=5) rfl rfl)) ?_
  refine bind_ex (ldI_of (w17.ld (i:=5) rfl rfl)) ?_
  refine bind_ex (ldSl_of (w17.ld (i:=5) rfl rfl)) ?_
  obtain ⟨w18,s18⟩:=w17.pick' [2,0,1,3,4,5] 6 rfl rfl rfl
  dsimp only [pk,pks,nth,List.drop] at w18 s18
  have f19:=W.borrow1 (eInt .i64) w18 (f11_0.step (s12.trans (s14.trans (s15.trans (s17.trans s18)))))
  obtain ⟨w19,s19⟩:=w18.right1
  obtain ⟨r20,e20,hp⟩:=bind_some' hp
  refine call_ex (aC.P hl11_0 ⟨w19,f19⟩ e20) ?_
  rintro _ H21 ⟨rfl,w21,s21,_⟩
  obtain ⟨w22,s22⟩:=W.frame1 w18 w21 s21
  refine bind_ex rfl ?_
  refine bif_ex (fun hb=>?_) (fun hb=>?_)
  ·replace hp:=bif_t hb hp
   obtain ⟨w23,s23⟩:=w22.pick' [0,4,3,2,1,5] 6 rfl rfl rfl
   dsimp only [pk,pks,nth,List.drop] at w23 s23
   exact ar.l65513_P F hl11_0 hl5_0 hl8_0 hl14_0 hl17_0 ⟨w23,(s0.trans (s2.trans (s3.trans (s5.trans (s6.trans (s8.trans (s9.trans (s11.trans (s12.trans (s14.trans (s15.trans (s17.trans (s18.trans (s22.trans s23)))))))))))))),(f11_0.step (s12.trans (s14.trans (s15.trans (s17.trans (s18.trans (s22.trans s23))))))),(f5_0.step (s6.trans (s8.trans (s9.trans (s11.trans (s12.trans (s14.trans (s15.trans (s17.trans (s18.trans (s22.trans s23))))))))))),(f8_0.step (s9.trans (s11.trans (s12.trans (s14.trans (s15.trans (s17.trans (s18.trans (s22.trans s23))))))))),(f14_0.step (s15.trans (s17.trans (s18.trans (s22.trans s23))))),(f17_0.step (s18.trans (s22.trans s23)))⟩ hp
  ·replace hp:=bif_f hb hp
   obtain ⟨w24,s24⟩:=w22.pick' [0,4,3,2,1,5] 6 rfl rfl rfl
   dsimp only [pk,pks,nth,List.drop] at w24 s24
   obtain rfl:=Option.some.inj hp
   exact ⟨_,_,rfl,_,_,_,_,_,rfl,hl11_0,hl5_0,hl8_0,hl14_0,hl17_0,w24,(s0.trans (s2.trans (s3.trans (s5.trans (s6.trans (s8.trans (s9.trans (s11.trans (s12.trans (s14.trans (s15.trans (s17.trans (s18.trans (s22.trans s24)))))))))))))),(f11_0.step (s12.trans (s14.trans (s15.trans (s17.trans (s18.trans (s22.trans s24))))))),(f5_0.step (s6.trans (s8.trans (s9.trans (s11.trans (s12.trans (s14.trans (s15.trans (s17.trans (s18.trans (s22.trans s24))))))))))),(f8_0.step (s9.trans (s11.trans (s12.trans (s14.trans (s15.trans (s17.trans (s18.trans (s22.trans s24))))))))),(f14_0.step (s15.trans (s17.trans (s18.trans (s22.trans s24))))),(f17_0.step (s18.trans (s22.trans s24)))⟩
def ar.pl29 (F:Nat) :Nat→Int→Int→List Int→Int→List Int→Int→Int→List Int→Int→Int→List Int→Int→List Int→Int→Int→Int→Int→Option (Bool×List Int×List Int×List Int×List Int×List Int)
 | 0,_,_,_,_,_,_,_,_,_,_,_,_,_,_,_,_,_=>none
 | k + 1,ay,ak,aD,ap,aG,aq,ao,aE,au,av,aK,aw,aL,dN,eA,jK,kf=>(bif (decide (kf < ay)) then (ar.pl469 F (ar.pl29 F k) F ay ak aD ap aG aq ao aE au av aK aw aL dN eA jK kf dN) else (ar.pj6 F ay ak aD ap aG aq ao aE au av aK aw aL dN eA jK))
termination_by structural n=>n
theorem ar.l29_P {F:Nat} {H0:Hp} {Ri R0:List Rs} {ay ak aA ap aq ao au av aH aw:Int} {aR bn aM bo bp:ON} {aF aZ aB a_ ba az:Nat} {aS br aN bs bt:Cap} {cq:List Int} {bV bW bX bY bZ bz:Bool} {b_ ca cb cc cd ce cf cg ch ci:List AV} :∀ k,ar.S29 H0 Ri R0 ay ak aA ap aq ao au av aH aw aR bn aM bo bp aF aZ aB a_ ba az aS br aN bs bt cq bV bW bX bY bZ bz b_ ca cb cc cd ce cf cg ch ci (ar.l29 F (aC.tw F) (co.tw F) (bL.tw F) (bM.tw F)  k) (ar.pl29 F  k):=by
 intro k
 induction k with
 | zero=>
  intro aD aG aE aK aL cG cH cI cJ cK dN eA jK kf H eG eH eI eJ eK h0 r hp
  exact nomatch (show (none:Option (Bool×List Int×List Int×List Int×List Int×List Int)) = some r from hp)
 | succ k ih=>
  intro aD aG aE aK aL cG cH cI cJ cK dN eA jK kf H eG eH eI eJ eK h0 r hp
  obtain ⟨w0,s0,c_,dn,dc,dy,dz⟩:=h0
  subst eG
  subst eH
  subst eI
  subst eJ
  subst eK
  unfold ar.pl29 at hp
  unfold ar.l29
  refine bind_ex (ldI_of (w0.ld (i:=5) rfl rfl)) ?_
  refine bif_ex (fun hb=>?_) (fun hb=>?_)
  ·replace hp:=bif_t hb hp
   exact ar.l469_P (@ih) F rfl rfl rfl rfl rfl ⟨w0,s0,c_,dn,dc,dy,dz⟩ hp
  ·replace hp:=bif_f hb hp
   exact ar.j6_P rfl rfl rfl rfl rfl ⟨w0,s0,c_,dn,dc,dy,dz⟩ hp
def ar.p (F:Nat) (bk:Int) (aX:Int) (dI:List Int) (bc:Int) (fE:List Int) (aY:Int) (aT:Int) (dk:List Int) (bf:Int) (bg:Int) (fF:List Int) (bh:Int) (fG:List Int) (ae:Int):Option (Bool×List Int×List Int×List Int×List Int×List Int):=ar.pl29 F F bk aX dI bc fE aY aT dk bf bg fF bh fG ae (-1) (-1) ae
theorem ar.P {F:Nat} {bk aX bl bc aY aT bf bg bw bh ae:Int} {cX em cv en eo:ON} {bN dh bC di dj aa:Nat} {cY ep cw es et:Cap} {dI fE dk fF fG:List Int} {fi fM fj fN fO ax:Bool} {fk fl gy fP fQ gX fm fo gz fR fS gY fT fU gZ:List AV} {H:Hp} {R0:List Rs} (jY:bN = dI.length) (lf:dh = fE.length) (jo:bC = dk.length) (lg:di = fF.length) (li:dj = fG.length) (h0:Inn H (Rs.ow fi ⟨cX,bN,cY⟩ (eInt .i64).z fk gy fl :: Rs.ow fM ⟨em,dh,ep⟩ (eInt .i64).z fP gX fQ :: Rs.ow fj ⟨cv,bC,cw⟩ (eInt .i64).z fm gz fo :: Rs.ow fN ⟨en,di,es⟩ (eInt .i64).z fR gY fS :: Rs.ow fO ⟨eo,dj,et⟩ (eInt .i64).z fT gZ fU :: Rs.blk aa [.int .i64 bk,.int .i64 aX,.sl ⟨cX,bN,cY⟩,.int .i64 bl,.int .i64 bc,.sl ⟨em,dh,ep⟩,.int .i64 aY,.int .i64 aT,.sl ⟨cv,bC,cw⟩,.int .i64 bf,.int .i64 bg,.sl ⟨en,di,es⟩,.int .i64 bw,.int .i64 bh,.sl ⟨eo,dj,et⟩,.bool ax] :: R0) fun R=>CR (eInt .i64) H R gy dI∧CR (eInt .i64) H R gX fE∧CR (eInt .i64) H R gz dk∧CR (eInt .i64) H R gY fF∧CR (eInt .i64) H R gZ fG) {r:Bool×List Int×List Int×List Int×List Int×List Int} (hp:ar.p F bk aX dI bc fE aY aT dk bf bg fF bh fG ae = some r):∃ v H',ar.tw F aa 0 ae H = some (v,H')∧ar.Q H (Rs.ow fi ⟨cX,bN,cY⟩ (eInt .i64).z fk gy fl :: Rs.ow fM ⟨em,dh,ep⟩ (eInt .i64).z fP gX fQ :: Rs.ow fj ⟨cv,bC,cw⟩ (eInt .i64).z fm gz fo :: Rs.ow fN ⟨en,di,es⟩ (eInt .i64).z fR gY fS :: Rs.ow fO ⟨eo,dj,et⟩ (eInt .i64).z fT gZ fU :: Rs.blk aa [.int .i64 bk,.int .i64 aX,.sl ⟨cX,bN,cY⟩,.int .i64 bl,.int .i64 bc,.sl ⟨em,dh,ep⟩,.int .i64 aY,.int .i64 aT,.sl ⟨cv,bC,cw⟩,.int .i64 bf,.int .i64 bg,.sl ⟨en,di,es⟩,.int .i64 bw,.int .i64 bh,.sl ⟨eo,dj,et⟩,.bool ax] :: R0) R0 bk aX bl bc aY aT bf bg bw bh cX em cv en eo bN dh bC di dj aa cY ep cw es et dI fi fM fj fN fO ax fk fl fP fQ fm fo fR fS fT fU r v H':=by
 obtain ⟨w0,jj,kN,il,kO,kP⟩:=h0
 subst jY
 subst lf
 subst jo
 subst lg
 subst li
 unfold ar.p at hp
 unfold ar.tw ar.twX
 have s0:=w0.rf
 exact ar.l29_P F rfl rfl rfl rfl rfl ⟨w0,s0,jj,kN,il,kO,kP⟩ hp
def dD.Q (H0:Hp) (Ri R0:List Rs)  (r:Int) (v:AV) (H':Hp):Prop:=v = (.int .i64 r)∧Out H0 Ri H' (R0) fun R=>True
def dD.p (F:Nat) (aa:Int) (ag:Int):Option (Int):=(if ag = 0 then none else ((if ag = 0 then none else ((bif (decide ((Int.tmod aa ag) < 0)) then (some (IntKind.i64.wrap ((IntKind.i64.wrap (Int.tdiv aa ag)) - 1))) else (some (IntKind.i64.wrap (Int.tdiv aa ag))))))))
theorem dD.P {F:Nat} {aa ag:Int} {H:Hp} {R0:List Rs}  (h0:Inn H R0 fun R=>True) {r:Int} (hp:dD.p F aa ag = some r):∃ v H',dD.tw F aa ag H = some (v,H')∧dD.Q H R0 R0  r v H':=by
 obtain ⟨w0,_⟩:=h0
 unfold dD.p at hp
 unfold dD.tw dD.twX
 have s0:=w0.rf
 obtain ⟨g1,hp⟩:=ifn_p hp
 refine ifn_ex g1 ?_
 obtain ⟨g2,hp⟩:=ifn_p hp
 refine ifn_ex g2 ?_
 refine bif_ex (fun hb=>?_) (fun hb=>?_)
 ·replace hp:=bif_t hb hp
  obtain rfl:=Option.some.inj hp
  exact ⟨_,_,rfl,rfl,w0,s0,trivial⟩
 ·replace hp:=bif_f hb hp
  obtain rfl:=Option.some.inj hp
  exact ⟨_,_,rfl,rfl,w0,s0,trivial⟩
def dS.Q (H0:Hp) (Ri R0:List Rs)  (r:Int×Bool) (v:AV) (H':Hp):Prop:=v = (.tup [(.int .i64 r.1),(.bool r.2)])∧Out H0 Ri H' (R0) fun R=>True
def dS.p (F:Nat) (aa:Int) (ag:Int) (cO:Int):Option (Int×Bool):=(bif (aa != 0) then ((co.p F ag).bind fun r1=>(co.p F aa).bind fun r3=>(if r3 = 0 then none else ((bif (decide (r1 > (IntKind.i64.wrap (Int.tdiv cO r3)))) then (some (0,false)) else (some ((IntKind.i64.wrap (aa * ag)),true)))))) else (some ((IntKind.i64.wrap (aa * ag)),true)))
theorem dS.P {F:Nat} {aa ag cO:Int} {H:Hp} {R0:List Rs}  (h0:Inn H R0 fun R=>True) {r:Int×Bool} (hp:dS.p F aa ag cO = some r):∃ v H',dS.tw F aa ag cO H = some (v,H')∧dS.Q H R0 R0  r v H':=by
 obtain ⟨w0,_⟩:=h0
 unfold dS.p at hp
 unfold dS.tw dS.twX
 have s0:=w0.rf
 refine bif_ex (fun hb=>?_) (fun hb=>?_)
 ·replace hp:=bif_t hb hp
  obtain ⟨r1,e1,hp⟩:=bind_some' hp
  refine call_ex (co.P ⟨w0,trivial⟩ e1) ?_
  rintro _ H2 ⟨rfl,w2,s2,_⟩
  refine bind_ex rfl ?_
  obtain ⟨r3,e3,hp⟩:=bind_some' hp
  refine call_ex (co.P ⟨w2,trivial⟩ e3) ?_
  rintro _ H4 ⟨rfl,w4,s4,_⟩
  refine bind_ex rfl ?_
  obtain ⟨g5,hp⟩:=ifn_p hp
  refine ifn_ex g5 ?_
  refine bif_ex (fun hb=>?_) (fun hb=>?_)
  ·replace hp:=bif_t hb hp
   obtain rfl:=Option.some.inj hp
   exact ⟨_,_,rfl,rfl,w4,(s0.trans (s2.trans s4)),trivial⟩
  ·replace hp:=bif_f hb hp
   obtain rfl:=Option.some.inj hp
   exact ⟨_,_,rfl,rfl,w4,(s0.trans (s2.trans s4)),trivial⟩
 ·replace hp:=bif_f hb hp
  obtain rfl:=Option.some.inj hp
  exact ⟨_,_,rfl,rfl,w0,s0,trivial⟩
def dl.Q (H0:Hp) (Ri R0:List Rs)  (r:Int) (v:AV) (H':Hp):Prop:=v = (.int .i64 r)∧Out H0 Ri H' (R0) fun R=>True
def dl.p (F:Nat) (aa:Int) (ag:Int) (cO:Int):Option (Int):=(dS.p F ag cO 2000000000000).bind fun r1=>(bif (!r1.2) then (some 3000000000000) else (some (IntKind.i64.wrap (aa - r1.1))))
theorem dl.P {F:Nat} {aa ag cO:Int} {H:Hp} {R0:List Rs}  (h0:Inn H R0 fun R=>True) {r:Int} (hp:dl.p F aa ag cO = some r):∃ v H',dl.tw F aa ag cO H = some (v,H')∧dl.Q H R0 R0  r v H':=by
 obtain ⟨w0,_⟩:=h0
 unfold dl.p at hp
 unfold dl.tw dl.twX
 have s0:=w0.rf
 obtain ⟨r1,e1,hp⟩:=bind_some' hp
 refine call_ex (dS.P ⟨w0,trivial⟩ e1) ?_
 rintro _ H2 ⟨rfl,w2,s2,_⟩
 refine bind_ex rfl ?_
 refine bind_ex rfl ?_
 refine bind_ex rfl ?_
 refine bind_ex rfl ?_
 refine bind_ex rfl ?_
 refine bif_ex (fun hb=>?_) (fun hb=>?_)
 ·replace hp:=bif_t hb hp
  obtain rfl:=Option.some.inj hp
  exact ⟨_,_,rfl,rfl,w2,(s0.trans s2),trivial⟩
 ·replace hp:=bif_f hb hp
  obtain rfl:=Option.some.inj hp
  exact ⟨_,_,rfl,rfl,w2,(s0.trans s2),trivial⟩
def dm.Q (H0:Hp) (Ri R0:List Rs) (bk aX bl bc aY aT bf bg bw bh:Int) (eE dd eU de df:Sl) (aa fz:Nat) (gj:ON) (gk:Cap) (gN:Bool) (gO gP:List AV) (r:Bool×List Int) (v:AV) (H':Hp):Prop:=∃ kW:List AV,v = (.tup [])∧fz = (r.2).length∧Out H0 Ri H' (Rs.blk aa [.int .i64 bk,.int .i64 aX,.sl eE,.int .i64 bl,.int .i64 bc,.sl dd,.int .i64 aY,.int .i64 aT,.sl eU,.int .i64 bf,.int .i64 bg,.sl de,.int .i64 bw,.int .i64 bh,.sl df,.bool (r.1)] :: Rs.ow gN ⟨gj,fz,gk⟩ (eInt .i64).z gO kW gP :: R0) fun R=>CR (eInt .i64) H' R kW (r.2)
def dm.p (F:Nat) (ax:Bool) (af:Int) (gA:List Int) (cQ:Int) (cR:Int) (cz:Int):Option (Bool×List Int):=(co.p F cz).bind fun r2=>(bif (decide (r2 > 1000000000000)) then (some (true,gA)) else ((ix gA (IntKind.i64.wrap ((IntKind.i64.wrap (cQ * af)) + cR))).bind fun n6=>(some (gA.set n6 cz)).bind fun l7=>some (ax,l7)))
theorem dm.P {F:Nat} {bk aX bl bc aY aT bf bg bw bh ae af cQ cR cz:Int} {eE dd eU de df:Sl} {ax gN:Bool} {aa fz:Nat} {gj:ON} {gk:Cap} {gA:List Int} {gO gP jZ:List AV} {H:Hp} {R0:List Rs} (mQ:fz = gA.length) (h0:Inn H (Rs.blk aa [.int .i64 bk,.int .i64 aX,.sl eE,.int .i64 bl,.int .i64 bc,.sl dd,.int .i64 aY,.int .i64 aT,.sl eU,.int .i64 bf,.int .i64 bg,.sl de,.int .i64 bw,.int .i64 bh,.sl df,.bool ax] :: Rs.ow gN ⟨gj,fz,gk⟩ (eInt .i64).z gO jZ gP :: R0) fun R=>CR (eInt .i64) H R jZ gA) {r:Bool×List Int} (hp:dm.p F ax af gA cQ cR cz = some r):∃ v H',dm.tw F aa 0 ae af ⟨gj,fz,gk⟩ cQ cR cz H = some (v,H')∧dm.Q H (Rs.blk aa [.int .i64 bk,.int .i64 aX,.sl eE,.int .i64 bl,.int .i64 bc,.sl dd,.int .i64 aY,.int .i64 aT,.sl eU,.int .i64 bf,.int .i64 bg,.sl de,.int .i64 bw,.int .i64 bh,.sl df,.bool ax] :: Rs.ow gN ⟨gj,fz,gk⟩ (eInt .i64).z gO jZ gP :: R0) R0 bk aX bl bc aY aT bf bg bw bh eE dd eU de df aa fz gj gk gN gO gP r v H':=by
 obtain ⟨w0,mi⟩:=h0
 subst mQ
 unfold dm.p at hp
 unfold dm.tw dm.twX
 have s0:=w0.rf
 refine new_k w0 fun H1 w1 s1=>?_
 obtain ⟨r2,e2,hp⟩:=bind_some' hp
 refine call_ex (co.P ⟨w1,trivial⟩ e2) ?_
 rintro _ H3 ⟨rfl,w3,s3,_⟩
 refine bind_ex rfl ?_
 refine bif_ex (fun hb=>?_) (fun hb=>?_)
 ·replace hp:=bif_t hb hp
  refine st_k w3 (i:=1) rfl rfl rfl fun H4 w4 s4=>?_
  dsimp only [List.set] at w4 s4
  obtain ⟨w5,s5⟩:=w4.pick' [1,2] 3 rfl rfl rfl
  dsimp only [pk,pks,nth,List.drop] at w5 s5
  obtain rfl:=Option.some.inj hp
  exact ⟨_,_,rfl,_,rfl,rfl,w5,(s0.trans (s1.trans (s3.trans (s4.trans s5)))),(mi.step (s1.trans (s3.trans (s4.trans s5))))⟩
 ·replace hp:=bif_f hb hp
  refine bind_ex (ldSl_of (w3.ld (i:=0) rfl rfl)) ?_
  refine bind_ex (ldI_of (w3.ld (i:=0) rfl rfl)) ?_
  obtain ⟨n6,g6,hp⟩:=bind_some' hp
  obtain ⟨p6,q6,i6,h6,j6⟩:=W.ixo (E:=(eInt .i64)) w3 (i:=2) rfl rfl (mi.step (s1.trans s3)) g6
  refine bind_ex i6 ?_
  obtain ⟨l7,e7,hp⟩:=bind_some' hp
  refine sto_k (eInt .i64) w3 (i:=2) (j:=0) (p:=p6) rfl rfl (mi.step (s1.trans s3)) g6 i6 e7 rfl rfl (fun _ h=>by have h:_ = [_]:=h; subst h; exact rfl) fun H8 k8 w8 s8 c8=>?_
  dsimp only [List.set] at w8 s8 c8
  obtain ⟨w9,s9⟩:=w8.pick' [1,2] 3 rfl rfl rfl
  dsimp only [pk,pks,nth,List.drop] at w9 s9
  obtain rfl:=Option.some.inj hp
  exact ⟨_,_,rfl,_,rfl,(st_len e7).symm,w9,(s0.trans (s1.trans (s3.trans (s8.trans s9)))),(c8.step s9)⟩
def bH.Q (H0:Hp) (Ri R0:List Rs) (bk aX bl bc aY aT bf bg bw bh:Int) (eE dd eU de df:Sl) (aa fz:Nat) (gj:ON) (gk:Cap) (gN:Bool) (gO gP:List AV) (r:Bool×List Int) (v:AV) (H':Hp):Prop:=∃ kW:List AV,v = (.tup [])∧fz = (r.2).length∧Out H0 Ri H' (Rs.blk aa [.int .i64 bk,.int .i64 aX,.sl eE,.int .i64 bl,.int .i64 bc,.sl dd,.int .i64 aY,.int .i64 aT,.sl eU,.int .i64 bf,.int .i64 bg,.sl de,.int .i64 bw,.int .i64 bh,.sl df,.bool (r.1)] :: Rs.ow gN ⟨gj,fz,gk⟩ (eInt .i64).z gO kW gP :: R0) fun R=>CR (eInt .i64) H' R kW (r.2)
def bH.S7 (H0:Hp) (Ri R0:List Rs) (ay ak aA ap aq ao au av aH aw:Int) (eF cL e_ cM cN:Sl) (az g_:Nat) (iE:ON) (iF:Cap) (j_:Bool) (ka kb:List AV) (C:Nat→Nat→Int→Int→Int→Nat→Nat→Int→Hp→OA) (pC:Bool→Int→Int→Int→Int→List Int→Int→Option (Bool×List Int)):Prop:=∀ {ax:Bool} {fb eg fL mj jG fc:Int} {iG:List Int} {mR:List AV} {eX:Nat},∀ {H:Hp},g_ = iG.length→(Out H0 Ri H (Rs.blk az [.int .i64 ay,.int .i64 ak,.sl eF,.int .i64 aA,.int .i64 ap,.sl cL,.int .i64 aq,.int .i64 ao,.sl e_,.int .i64 au,.int .i64 av,.sl cM,.int .i64 aH,.int .i64 aw,.sl cN,.bool ax] :: Rs.ow j_ ⟨iE,g_,iF⟩ (eInt .i64).z ka mR kb :: Rs.blk eX [.int .i64 mj,.int .i64 jG,.sl ⟨iE,g_,iF⟩] :: R0) fun R=>CR (eInt .i64) H R mR iG)→∀ {r:Bool×List Int},pC ax fb eg fL jG iG fc = some r→∃ v H',C az 0 fb eg fL eX 0 fc H = some (v,H')∧bH.Q H0 Ri R0 ay ak aA ap aq ao au av aH aw eF cL e_ cM cN az g_ iE iF j_ ka kb r v H'
def bH.pl7 (F:Nat) :Nat→Bool→Int→Int→Int→Int→List Int→Int→Option (Bool×List Int)
 | 0,_,_,_,_,_,_,_=>none
 | k + 1,ax,fb,eg,fL,jG,iG,fc=>(bif (decide (fc < jG)) then ((bif (!ax) then ((aC.p F jG iG fb fc).bind fun r3=>(aC.p F jG iG eg fc).bind fun r8=>(dl.p F r3 fL r8).bind fun r12=>(dm.p F ax jG iG fb fc r12).bind fun r16=>bH.pl7 F k r16.1 fb eg fL jG r16.2 (IntKind.i64.wrap (fc + 1))) else (some (ax,iG)))) else (some (ax,iG)))
termination_by structural n=>n
theorem bH.l7_P {F:Nat} {H0:Hp} {Ri R0:List Rs} {ay ak aA ap aq ao au av aH aw:Int} {eF cL e_ cM cN:Sl} {az g_:Nat} {iE:ON} {iF:Cap} {j_:Bool} {ka kb:List AV} :∀ k,bH.S7 H0 Ri R0 ay ak aA ap aq ao au av aH aw eF cL e_ cM cN az g_ iE iF j_ ka kb (bH.l7 F (aC.tw F) (dl.tw F) (dm.tw F)  k) (bH.pl7 F  k):=by
 intro k
 induction k with
 | zero=>
  intro ax fb eg fL mj jG fc iG mR eX H qc h0 r hp
  exact nomatch (show (none:Option (Bool×List Int)) = some r from hp)
 | succ k ih=>
  intro ax fb eg fL mj jG fc iG mR eX H qc h0 r hp
  obtain ⟨w0,s0,ml⟩:=h0
  subst qc
  unfold bH.pl7 at hp
  unfold bH.l7
  refine bind_ex (ldI_of (w0.ld (i:=2) rfl rfl)) ?_
  refine bif_ex (fun hb=>?_) (fun hb=>?_)
  ·replace hp:=bif_t hb hp
   refine bind_ex (ldB_of (w0.ld (i:=0) rfl rfl)) ?_
   refine bif_ex (fun hb=>?_) (fun hb=>?_)
   ·replace hp:=bif_t hb hp
    refine bind_ex (ldI_of (w0.ld (i:=2) rfl rfl)) ?_
    refine bind_ex (ldI_of (w0.ld (i:=2) rfl rfl)) ?_
    refine bind_ex (ldSl_of (w0.ld (i:=2) rfl rfl)) ?_
    refine bind_ex (ldI_of (w0.ld (i:=2) rfl rfl)) ?_
    refine bind_ex (ldI_of (w0.ld (i:=2) rfl rfl)) ?_
    refine bind_ex (ldSl_of (w0.ld (i:=2) rfl rfl)) ?_
    obtain ⟨w1,s1⟩:=w0.pick' [1,0,2] 3 rfl rfl rfl
    dsimp only [pk,pks,nth,List.drop] at w1 s1
    have f2:=W.borrow1 (eInt .i64) w1 (ml.step s1)
    obtain ⟨w2,s2⟩:=w1.right1
    obtain ⟨r3,e3,hp⟩:=bind_some' hp
    refine call_ex (aC.P rfl ⟨w2,f2⟩ e3) ?_
    rintro _ H4 ⟨rfl,w4,s4,_⟩
    obtain ⟨w5,s5⟩:=W.frame1 w1 w4 s4
    refine bind_ex rfl ?_
    refine ifs_ex (Cons.tr (Cons.refl _) s1 (W.cons_of (Rn:=[]) w2 w4 s4)) ?_
    refine bind_ex (ldI_of (w5.ld (i:=2) rfl rfl)) ?_
    refine bind_ex (ldI_of (w5.ld (i:=2) rfl rfl)) ?_
    refine bind_ex (ldSl_of (w5.ld (i:=2) rfl rfl)) ?_
    have f7:=W.borrow1 (eInt .i64) w5 (ml.step (s1.trans s5))
    obtain ⟨w7,s7⟩:=w5.right1
    obtain ⟨r8,e8,hp⟩:=bind_some' hp
    refine call_ex (aC.P rfl ⟨w7,f7⟩ e8) ?_
    rintro _ H9 ⟨rfl,w9,s9,_⟩
    obtain ⟨w10,s10⟩:=W.frame1 w5 w9 s9
    refine bind_ex rfl ?_
    refine ifs_ex (W.cons_of (Rn:=[]) w7 w9 s9) ?_
    obtain ⟨r12,e12,hp⟩:=bind_some' hp
    refine call_ex (dl.P ⟨w10,trivial⟩ e12) ?_
    rintro _ H13 ⟨rfl,w13,s13,_⟩
    refine bind_ex rfl ?_
    refine ifs_ex (W.cons_of (Rn:=[]) w10 w13 s13) ?_
    obtain ⟨w15,s15⟩:=w13.pick' [1,0,2] 3 rfl rfl rfl
    dsimp only [pk,pks,nth,List.drop] at w15 s15
    obtain ⟨r16,e16,hp⟩:=bind_some' hp
    refine call_ex (dm.P rfl ⟨w15,(ml.step (s1.trans (s5.trans (s10.trans (s13.trans s15)))))⟩ e16) ?_
    rintro _ H17 ⟨Bf,rfl,hl17_0,w17,s17,f17_0⟩
    exact ih hl17_0 ⟨w17,(s0.trans (s1.trans (s5.trans (s10.trans (s13.trans (s15.trans s17)))))),f17_0⟩ hp
   ·replace hp:=bif_f hb hp
    obtain ⟨w18,s18⟩:=w0.pick' [0,1] 3 rfl rfl rfl
    dsimp only [pk,pks,nth,List.drop] at w18 s18
    obtain rfl:=Option.some.inj hp
    exact ⟨_,_,rfl,_,rfl,rfl,w18,(s0.trans s18),(ml.step s18)⟩
  ·replace hp:=bif_f hb hp
   obtain ⟨w19,s19⟩:=w0.pick' [0,1] 3 rfl rfl rfl
   dsimp only [pk,pks,nth,List.drop] at w19 s19
   obtain rfl:=Option.some.inj hp
   exact ⟨_,_,rfl,_,rfl,rfl,w19,(s0.trans s19),(ml.step s19)⟩
def bH.p (F:Nat) (ax:Bool) (af:Int) (gA:List Int) (cQ:Int) (cR:Int) (cz:Int):Option (Bool×List Int):=bH.pl7 F F ax cQ cR cz af gA 0
theorem bH.P {F:Nat} {bk aX bl bc aY aT bf bg bw bh ae af cQ cR cz:Int} {eE dd eU de df:Sl} {ax gN:Bool} {aa fz:Nat} {gj:ON} {gk:Cap} {gA:List Int} {gO gP jZ:List AV} {H:Hp} {R0:List Rs} (mQ:fz = gA.length) (h0:Inn H (Rs.blk aa [.int .i64 bk,.int .i64 aX,.sl eE,.int .i64 bl,.int .i64 bc,.sl dd,.int .i64 aY,.int .i64 aT,.sl eU,.int .i64 bf,.int .i64 bg,.sl de,.int .i64 bw,.int .i64 bh,.sl df,.bool ax] :: Rs.ow gN ⟨gj,fz,gk⟩ (eInt .i64).z gO jZ gP :: R0) fun R=>CR (eInt .i64) H R jZ gA) {r:Bool×List Int} (hp:bH.p F ax af gA cQ cR cz = some r):∃ v H',bH.tw F aa 0 ae af ⟨gj,fz,gk⟩ cQ cR cz H = some (v,H')∧bH.Q H (Rs.blk aa [.int .i64 bk,.int .i64 aX,.sl eE,.int .i64 bl,.int .i64 bc,.sl dd,.int .i64 aY,.int .i64 aT,.sl eU,.int .i64 bf,.int .i64 bg,.sl de,.int .i64 bw,.int .i64 bh,.sl df,.bool ax] :: Rs.ow gN ⟨gj,fz,gk⟩ (eInt .i64).z gO jZ gP :: R0) R0 bk aX bl bc aY aT bf bg bw bh eE dd eU de df aa fz gj gk gN gO gP r v H':=by
 obtain ⟨w0,mi⟩:=h0
 subst mQ
 unfold bH.p at hp
 unfold bH.tw bH.twX
 have s0:=w0.rf
 refine new_k w0 fun H1 w1 s1=>?_
 obtain ⟨w2,s2⟩:=w1.pick' [1,2,0] 3 rfl rfl rfl
 dsimp only [pk,pks,nth,List.drop] at w2 s2
 exact bH.l7_P F rfl ⟨w2,(s0.trans (s1.trans s2)),(mi.step (s1.trans s2))⟩ hp
def bI.Q (H0:Hp) (Ri R0:List Rs) (bk aX bl bc aY aT bf bg bw bh:Int) (eE dd eU de df:Sl) (aa fz:Nat) (gj:ON) (gk:Cap) (gN:Bool) (gO gP:List AV) (r:Bool×List Int) (v:AV) (H':Hp):Prop:=∃ kW:List AV,v = (.tup [])∧fz = (r.2).length∧Out H0 Ri H' (Rs.blk aa [.int .i64 bk,.int .i64 aX,.sl eE,.int .i64 bl,.int .i64 bc,.sl dd,.int .i64 aY,.int .i64 aT,.sl eU,.int .i64 bf,.int .i64 bg,.sl de,.int .i64 bw,.int .i64 bh,.sl df,.bool (r.1)] :: Rs.ow gN ⟨gj,fz,gk⟩ (eInt .i64).z gO kW gP :: R0) fun R=>CR (eInt .i64) H' R kW (r.2)
def bI.S7 (H0:Hp) (Ri R0:List Rs) (ay ak aA ap aq ao au av aH aw:Int) (eF cL e_ cM cN:Sl) (az g_:Nat) (iE:ON) (iF:Cap) (j_:Bool) (ka kb:List AV) (C:Nat→Nat→Int→Int→Int→Nat→Nat→Int→Hp→OA) (pC:Bool→Int→Int→Int→Int→Int→List Int→Int→Option (Bool×List Int)):Prop:=∀ {ax:Bool} {fb eg fL mj jG fc:Int} {iG:List Int} {mR:List AV} {eX:Nat},∀ {H:Hp},g_ = iG.length→(Out H0 Ri H (Rs.blk az [.int .i64 ay,.int .i64 ak,.sl eF,.int .i64 aA,.int .i64 ap,.sl cL,.int .i64 aq,.int .i64 ao,.sl e_,.int .i64 au,.int .i64 av,.sl cM,.int .i64 aH,.int .i64 aw,.sl cN,.bool ax] :: Rs.ow j_ ⟨iE,g_,iF⟩ (eInt .i64).z ka mR kb :: Rs.blk eX [.int .i64 mj,.int .i64 jG,.sl ⟨iE,g_,iF⟩] :: R0) fun R=>CR (eInt .i64) H R mR iG)→∀ {r:Bool×List Int},pC ax fb eg fL mj jG iG fc = some r→∃ v H',C az 0 fb eg fL eX 0 fc H = some (v,H')∧bI.Q H0 Ri R0 ay ak aA ap aq ao au av aH aw eF cL e_ cM cN az g_ iE iF j_ ka kb r v H'
def bI.pl7 (F:Nat) :Nat→Bool→Int→Int→Int→Int→Int→List Int→Int→Option (Bool×List Int)
 | 0,_,_,_,_,_,_,_,_=>none
 | k + 1,ax,fb,eg,fL,mj,jG,iG,fc=>(bif (decide (fc < mj)) then ((bif (!ax) then ((aC.p F jG iG fc fb).bind fun r3=>(aC.p F jG iG fc eg).bind fun r8=>(dl.p F r3 fL r8).bind fun r12=>(dm.p F ax jG iG fc fb r12).bind fun r16=>bI.pl7 F k r16.1 fb eg fL mj jG r16.2 (IntKind.i64.wrap (fc + 1))) else (some (ax,iG)))) else (some (ax,iG)))
termination_by structural n=>n
theorem bI.l7_P {F:Nat} {H0:Hp} {Ri R0:List Rs} {ay ak aA ap aq ao au av aH aw:Int} {eF cL e_ cM cN:Sl} {az g_:Nat} {iE:ON} {iF:Cap} {j_:Bool} {ka kb:List AV} :∀ k,bI.S7 H0 Ri R0 ay ak aA ap aq ao au av aH aw eF cL e_ cM cN az g_ iE iF j_ ka kb (bI.l7 F (aC.tw F) (dl.tw F) (dm.tw F)  k) (bI.pl7 F  k):=by
 intro k
 induction k with
 | zero=>
  intro ax fb eg fL mj jG fc iG mR eX H qc h0 r hp
  exact nomatch (show (none:Option (Bool×List Int)) = some r from hp)
 | succ k ih=>
  intro ax fb eg fL mj jG fc iG mR eX H qc h0 r hp
  obtain ⟨w0,s0,ml⟩:=h0
  subst qc
  unfold bI.pl7 at hp
  unfold bI.l7
  refine bind_ex (ldI_of (w0.ld (i:=2) rfl rfl)) ?_
  refine bif_ex (fun hb=>?_) (fun hb=>?_)
  ·replace hp:=bif_t hb hp
   refine bind_ex (ldB_of (w0.ld (i:=0) rfl rfl)) ?_
   refine bif_ex (fun hb=>?_) (fun hb=>?_)
   ·replace hp:=bif_t hb hp
    refine bind_ex (ldI_of (w0.ld (i:=2) rfl rfl)) ?_
    refine bind_ex (ldI_of (w0.ld (i:=2) rfl rfl)) ?_
    refine bind_ex (ldSl_of (w0.ld (i:=2) rfl rfl)) ?_
    refine bind_ex (ldI_of (w0.ld (i:=2) rfl rfl)) ?_
    refine bind_ex (ldI_of (w0.ld (i:=2) rfl rfl)) ?_
    refine bind_ex (ldSl_of (w0.ld (i:=2) rfl rfl)) ?_
    obtain ⟨w1,s1⟩:=w0.pick' [1,0,2] 3 rfl rfl rfl
    dsimp only [pk,pks,nth,List.drop] at w1 s1
    have f2:=W.borrow1 (eInt .i64) w1 (ml.step s1)
    obtain ⟨w2,s2⟩:=w1.right1
    obtain ⟨r3,e3,hp⟩:=bind_some' hp
    refine call_ex (aC.P rfl ⟨w2,f2⟩ e3) ?_
    rintro _ H4 ⟨rfl,w4,s4,_⟩
    obtain ⟨w5,s5⟩:=W.frame1 w1 w4 s4
    refine bind_ex rfl ?_
    refine ifs_ex (Cons.tr (Cons.refl _) s1 (W.cons_of (Rn:=[]) w2 w4 s4)) ?_
    refine bind_ex (ldI_of (w5.ld (i:=2) rfl rfl)) ?_
    refine bind_ex (ldI_of (w5.ld (i:=2) rfl rfl)) ?_
    refine bind_ex (ldSl_of (w5.ld (i:=2) rfl rfl)) ?_
    have f7:=W.borrow1 (eInt .i64) w5 (ml.step (s1.trans s5))
    obtain ⟨w7,s7⟩:=w5.right1
    obtain ⟨r8,e8,hp⟩:=bind_some' hp
    refine call_ex (aC.P rfl ⟨w7,f7⟩ e8) ?_
    rintro _ H9 ⟨rfl,w9,s9,_⟩
    obtain ⟨w10,s10⟩:=W.frame1 w5 w9 s9
    refine bind_ex rfl ?_
    refine ifs_ex (W.cons_of (Rn:=[]) w7 w9 s9) ?_
    obtain ⟨r12,e12,hp⟩:=bind_some' hp
    refine call_ex (dl.P ⟨w10,trivial⟩ e12) ?_
    rintro _ H13 ⟨rfl,w13,s13,_⟩
    refine bind_ex rfl ?_
    refine ifs_ex (W.cons_of (Rn:=[]) w10 w13 s13) ?_
    obtain ⟨w15,s15⟩:=w13.pick' [1,0,2] 3 rfl rfl rfl
    dsimp only [pk,pks,nth,List.drop] at w15 s15
    obtain ⟨r16,e16,hp⟩:=bind_some' hp
    refine call_ex (dm.P rfl ⟨w15,(ml.step (s1.trans (s5.trans (s10.trans (s13.trans s15)))))⟩ e16) ?_
    rintro _ H17 ⟨Bf,rfl,hl17_0,w17,s17,f17_0⟩
    exact ih hl17_0 ⟨w17,(s0.trans (s1.trans (s5.trans (s10.trans (s13.trans (s15.trans s17)))))),f17_0⟩ hp
   ·replace hp:=bif_f hb hp
    obtain ⟨w18,s18⟩:=w0.pick' [0,1] 3 rfl rfl rfl
    dsimp only [pk,pks,nth,List.drop] at w18 s18
    obtain rfl:=Option.some.inj hp
    exact ⟨_,_,rfl,_,rfl,rfl,w18,(s0.trans s18),(ml.step s18)⟩
  ·replace hp:=bif_f hb hp
   obtain ⟨w19,s19⟩:=w0.pick' [0,1] 3 rfl rfl rfl
   dsimp only [pk,pks,nth,List.drop] at w19 s19
   obtain rfl:=Option.some.inj hp
   exact ⟨_,_,rfl,_,rfl,rfl,w19,(s0.trans s19),(ml.step s19)⟩
def bI.p (F:Nat) (ax:Bool) (ae:Int) (af:Int) (gA:List Int) (cQ:Int) (cR:Int) (cz:Int):Option (Bool×List Int):=bI.pl7 F F ax cQ cR cz ae af gA 0
theorem bI.P {F:Nat} {bk aX bl bc aY aT bf bg bw bh ae af cQ cR cz:Int} {eE dd eU de df:Sl} {ax gN:Bool} {aa fz:Nat} {gj:ON} {gk:Cap} {gA:List Int} {gO gP jZ:List AV} {H:Hp} {R0:List Rs} (mQ:fz = gA.length) (h0:Inn H (Rs.blk aa [.int .i64 bk,.int .i64 aX,.sl eE,.int .i64 bl,.int .i64 bc,.sl dd,.int .i64 aY,.int .i64 aT,.sl eU,.int .i64 bf,.int .i64 bg,.sl de,.int .i64 bw,.int .i64 bh,.sl df,.bool ax] :: Rs.ow gN ⟨gj,fz,gk⟩ (eInt .i64).z gO jZ gP :: R0) fun R=>CR (eInt .i64) H R jZ gA) {r:Bool×List Int} (hp:bI.p F ax ae af gA cQ cR cz = some r):∃ v H',bI.tw F aa 0 ae af ⟨gj,fz,gk⟩ cQ cR cz H = some (v,H')∧bI.Q H (Rs.blk aa [.int .i64 bk,.int .i64 aX,.sl eE,.int .i64 bl,.int .i64 bc,.sl dd,.int .i64 aY,.int .i64 aT,.sl eU,.int .i64 bf,.int .i64 bg,.sl de,.int .i64 bw,.int .i64 bh,.sl df,.bool ax] :: Rs.ow gN ⟨gj,fz,gk⟩ (eInt .i64).z gO jZ gP :: R0) R0 bk aX bl bc aY aT bf bg bw bh eE dd eU de df aa fz gj gk gN gO gP r v H':=by
 obtain ⟨w0,mi⟩:=h0
 subst mQ
 unfold bI.p at hp
 unfold bI.tw bI.twX
 have s0:=w0.rf
 refine new_k w0 fun H1 w1 s1=>?_
 obtain ⟨w2,s2⟩:=w1.pick' [1,2,0] 3 rfl rfl rfl
 dsimp only [pk,pks,nth,List.drop] at w2 s2
 exact bI.l7_P F rfl ⟨w2,(s0.trans (s1.trans s2)),(mi.step (s1.trans s2))⟩ hp
def dA.Q (H0:Hp) (Ri R0:List Rs) (bk aX bl bc aY aT bf bg bw bh:Int) (cX em cv:ON) (bN dh bC aa:Nat) (cY ep cw:Cap) (fi fM fj:Bool) (fk fl fP fQ fm fo:List AV) (de df:Sl) (r:List Int×List Int×List Int×Bool) (v:AV) (H':Hp):Prop:=∃ iC:List AV,∃ jD:List AV,∃ iD:List AV,v = (.tup [])∧bN = (r.1).length∧dh = (r.2.1).length∧bC = (r.2.2.1).length∧Out H0 Ri H' (Rs.ow fi ⟨cX,bN,cY⟩ (eInt .i64).z fk iC fl :: Rs.ow fM ⟨em,dh,ep⟩ (eInt .i64).z fP jD fQ :: Rs.ow fj ⟨cv,bC,cw⟩ (eInt .i64).z fm iD fo :: Rs.blk aa [.int .i64 bk,.int .i64 aX,.sl ⟨cX,bN,cY⟩,.int .i64 bl,.int .i64 bc,.sl ⟨em,dh,ep⟩,.int .i64 aY,.int .i64 aT,.sl ⟨cv,bC,cw⟩,.int .i64 bf,.int .i64 bg,.sl de,.int .i64 bw,.int .i64 bh,.sl df,.bool (r.2.2.2)] :: R0) fun R=>CR (eInt .i64) H' R iC (r.1)∧CR (eInt .i64) H' R jD (r.2.1)∧CR (eInt .i64) H' R iD (r.2.2.1)
def dA.p (F:Nat) (aX:Int) (dI:List Int) (bc:Int) (fE:List Int) (aY:Int) (aT:Int) (dk:List Int) (ax:Bool) (ae:Int) (bG:Int) (cA:Int):Option (List Int×List Int×List Int×Bool):=(bif (cA != 0) then ((bH.p F ax aX dI ae bG cA).bind fun r2=>(bH.p F r2.1 bc fE ae bG cA).bind fun r5=>(bI.p F r5.1 aY aT dk bG ae (IntKind.i64.wrap (0 - cA))).bind fun r8=>some (r2.2,r5.2,r8.2,r8.1)) else (some (dI,fE,dk,ax)))
theorem dA.P {F:Nat} {bk aX bl bc aY aT bf bg bw bh ae bG cA:Int} {cX em cv:ON} {bN dh bC aa:Nat} {cY ep cw:Cap} {dI fE dk:List Int} {fi fM fj ax:Bool} {fk fl gy fP fQ gX fm fo gz:List AV} {de df:Sl} {H:Hp} {R0:List Rs} (jY:bN = dI.length) (lf:dh = fE.length) (jo:bC = dk.length) (h0:Inn H (Rs.ow fi ⟨cX,bN,cY⟩ (eInt .i64).z fk gy fl :: Rs.ow fM ⟨em,dh,ep⟩ (eInt .i64).z fP gX fQ :: Rs.ow fj ⟨cv,bC,cw⟩ (eInt .i64).z fm gz fo :: Rs.blk aa [.int .i64 bk,.int .i64 aX,.sl ⟨cX,bN,cY⟩,.int .i64 bl,.int .i64 bc,.sl ⟨em,dh,ep⟩,.int .i64 aY,.int .i64 aT,.sl ⟨cv,bC,cw⟩,.int .i64 bf,.int .i64 bg,.sl de,.int .i64 bw,.int .i64 bh,.sl df,.bool ax] :: R0) fun R=>CR (eInt .i64) H R gy dI∧CR (eInt .i64) H R gX fE∧CR (eInt .i64) H R gz dk) {r:List Int×List Int×List Int×Bool} (hp:dA.p F aX dI bc fE aY aT dk ax ae bG cA = some r):∃ v H',dA.tw F aa 0 ae bG cA H = some (v,H')∧dA.Q H (Rs.ow fi ⟨cX,bN,cY⟩ (eInt .i64).z fk gy fl :: Rs.ow fM ⟨em,dh,ep⟩ (eInt .i64).z fP gX fQ :: Rs.ow fj ⟨cv,bC,cw⟩ (eInt .i64).z fm gz fo :: Rs.blk aa [.int .i64 bk,.int .i64 aX,.sl ⟨cX,bN,cY⟩,.int .i64 bl,.int .i64 bc,.sl ⟨em,dh,ep⟩,.int .i64 aY,.int .i64 aT,.sl ⟨cv,bC,cw⟩,.int .i64 bf,.int .i64 bg,.sl de,.int .i64 bw,.int .i64 bh,.sl df,.bool ax] :: R0) R0 bk aX bl bc aY aT bf bg bw bh cX em cv bN dh bC aa cY ep cw fi fM fj fk fl fP fQ fm fo de df r v H':=by
 obtain ⟨w0,jj,kN,il⟩:=h0
 subst jY
 subst lf
 subst jo
 unfold dA.p at hp
 unfold dA.tw dA.twX
 have s0:=w0.rf
 refine bif_ex (fun hb=>?_) (fun hb=>?_)
 ·replace hp:=bif_t hb hp
  refine bind_ex (ldI_of (w0.ld (i:=3) rfl rfl)) ?_
  refine bind_ex (ldI_of (w0.ld (i:=3) rfl rfl)) ?_
  refine bind_ex (ldSl_of (w0.ld (i:=3) rfl rfl)) ?_
  obtain ⟨w1,s1⟩:=w0.pick' [3,0,1,2] 4 rfl rfl rfl
  dsimp only [pk,pks,nth,List.drop] at w1 s1
  obtain ⟨r2,e2,hp⟩:=bind_some' hp
  refine call_ex (bH.P rfl ⟨w1,(jj.step s1)⟩ e2) ?_
  rintro _ H3 ⟨uF,rfl,hl3_0,w3,s3,f3_0⟩
  refine bind_ex (ldI_of (w3.ld (i:=0) rfl rfl)) ?_
  refine bind_ex (ldI_of (w3.ld (i:=0) rfl rfl)) ?_
  refine bind_ex (ldSl_of (w3.ld (i:=0) rfl rfl)) ?_
  obtain ⟨w4,s4⟩:=w3.pick' [0,2,1,3] 4 rfl rfl rfl
  dsimp only [pk,pks,nth,List.drop] at w4 s4
  obtain ⟨r5,e5,hp⟩:=bind_some' hp
  refine call_ex (bH.P rfl ⟨w4,(kN.step (s1.trans (s3.trans s4)))⟩ e5) ?_
  rintro _ H6 ⟨uG,rfl,hl6_0,w6,s6,f6_0⟩
  refine bind_ex (ldI_of (w6.ld (i:=0) rfl rfl)) ?_
  refine bind_ex (ldI_of (w6.ld (i:=0) rfl rfl)) ?_
  refine bind_ex (ldSl_of (w6.ld (i:=0) rfl rfl)) ?_
  obtain ⟨w7,s7⟩:=w6.pick' [0,3,1,2] 4 rfl rfl rfl
  dsimp only [pk,pks,nth,List.drop] at w7 s7
  obtain ⟨r8,e8,hp⟩:=bind_some' hp
  refine call_ex (bI.P rfl ⟨w7,(il.step (s1.trans (s3.trans (s4.trans (s6.trans s7)))))⟩ e8) ?_
  rintro _ H9 ⟨uH,rfl,hl9_0,w9,s9,f9_0⟩
  obtain ⟨w10,s10⟩:=w9.pick' [3,2,1,0] 4 rfl rfl rfl
  dsimp only [pk,pks,nth,List.drop] at w10 s10
  obtain rfl:=Option.some.inj hp
  exact ⟨_,_,rfl,_,_,_,rfl,hl3_0,hl6_0,hl9_0,w10,(s0.trans (s1.trans (s3.trans (s4.trans (s6.trans (s7.trans (s9.trans s10))))))),(f3_0.step (s4.trans (s6.trans (s7.trans (s9.trans s10))))),(f6_0.step (s7.trans (s9.trans s10))),(f9_0.step s10)⟩
 ·replace hp:=bif_f hb hp
  obtain rfl:=Option.some.inj hp
  exact ⟨_,_,rfl,_,_,_,rfl,rfl,rfl,rfl,w0,s0,jj,kN,il⟩
def dE.Q (H0:Hp) (Ri R0:List Rs) (bk aX bl bc aY aT bf bg bw bh:Int) (cX en eo:ON) (bN di dj aa:Nat) (cY es et:Cap) (fi fN fO:Bool) (fk fl fR fS fT fU:List AV) (dd eU:Sl) (r:List Int×List Int×List Int×Bool) (v:AV) (H':Hp):Prop:=∃ iC:List AV,∃ jE:List AV,∃ jF:List AV,v = (.tup [])∧bN = (r.1).length∧di = (r.2.1).length∧dj = (r.2.2.1).length∧Out H0 Ri H' (Rs.ow fi ⟨cX,bN,cY⟩ (eInt .i64).z fk iC fl :: Rs.ow fN ⟨en,di,es⟩ (eInt .i64).z fR jE fS :: Rs.ow fO ⟨eo,dj,et⟩ (eInt .i64).z fT jF fU :: Rs.blk aa [.int .i64 bk,.int .i64 aX,.sl ⟨cX,bN,cY⟩,.int .i64 bl,.int .i64 bc,.sl dd,.int .i64 aY,.int .i64 aT,.sl eU,.int .i64 bf,.int .i64 bg,.sl ⟨en,di,es⟩,.int .i64 bw,.int .i64 bh,.sl ⟨eo,dj,et⟩,.bool (r.2.2.2)] :: R0) fun R=>CR (eInt .i64) H' R iC (r.1)∧CR (eInt .i64) H' R jE (r.2.1)∧CR (eInt .i64) H' R jF (r.2.2.1)
def dE.p (F:Nat) (bk:Int) (aX:Int) (dI:List Int) (bf:Int) (bg:Int) (fF:List Int) (bh:Int) (fG:List Int) (ax:Bool) (ae:Int) (bG:Int) (cA:Int):Option (List Int×List Int×List Int×Bool):=(bif (cA != 0) then ((bI.p F ax bk aX dI ae bG cA).bind fun r2=>(bI.p F r2.1 bf bg fF ae bG cA).bind fun r5=>(bH.p F r5.1 bh fG bG ae (IntKind.i64.wrap (0 - cA))).bind fun r8=>some (r2.2,r5.2,r8.2,r8.1)) else (some (dI,fF,fG,ax)))
theorem dE.P {F:Nat} {bk aX bl bc aY aT bf bg bw bh ae bG cA:Int} {cX en eo:ON} {bN di dj aa:Nat} {cY es et:Cap} {dI fF fG:List Int} {fi fN fO ax:Bool} {fk fl gy fR fS gY fT fU gZ:List AV} {dd eU:Sl} {H:Hp} {R0:List Rs} (jY:bN = dI.length) (lg:di = fF.length) (li:dj = fG.length) (h0:Inn H (Rs.ow fi ⟨cX,bN,cY⟩ (eInt .i64).z fk gy fl :: Rs.ow fN ⟨en,di,es⟩ (eInt .i64).z fR gY fS :: Rs.ow fO ⟨eo,dj,et⟩ (eInt .i64).z fT gZ fU :: Rs.blk aa [.int .i64 bk,.int .i64 aX,.sl ⟨cX,bN,cY⟩,.int .i64 bl,.int .i64 bc,.sl dd,.int .i64 aY,.int .i64 aT,.sl eU,.int .i64 bf,.int .i64 bg,.sl ⟨en,di,es⟩,.int .i64 bw,.int .i64 bh,.sl ⟨eo,dj,et⟩,.bool ax] :: R0) fun R=>CR (eInt .i64) H R gy dI∧CR (eInt .i64) H R gY fF∧CR (eInt .i64) H R gZ fG) {r:List Int×List Int×List Int×Bool} (hp:dE.p F bk aX dI bf bg fF bh fG ax ae bG cA = some r):∃ v H',dE.tw F aa 0 ae bG cA H = some (v,H')∧dE.Q H (Rs.ow fi ⟨cX,bN,cY⟩ (eInt .i64).z fk gy fl :: Rs.ow fN ⟨en,di,es⟩ (eInt .i64).z fR gY fS :: Rs.ow fO ⟨eo,dj,et⟩ (eInt .i64).z fT gZ fU :: Rs.blk aa [.int .i64 bk,.int .i64 aX,.sl ⟨cX,bN,cY⟩,.int .i64 bl,.int .i64 bc,.sl dd,.int .i64 aY,.int .i64 aT,.sl eU,.int .i64 bf,.int .i64 bg,.sl ⟨en,di,es⟩,.int .i64 bw,.int .i64 bh,.sl ⟨eo,dj,et⟩,.bool ax] :: R0) R0 bk aX bl bc aY aT bf bg bw bh cX en eo bN di dj aa cY es et fi fN fO fk fl fR fS fT fU dd eU r v H':=by
 obtain ⟨w0,jj,kO,kP⟩:=h0
 subst jY
 subst lg
 subst li
 unfold dE.p at hp
 unfold dE.tw dE.twX
 have s0:=w0.rf
 refine bif_ex (fun hb=>?_) (fun hb=>?_)
 ·replace hp:=bif_t hb hp
  refine bind_ex (ldI_of (w0.ld (i:=3) rfl rfl)) ?_
  refine bind_ex (ldI_of (w0.ld (i:=3) rfl rfl)) ?_
  refine bind_ex (ldSl_of (w0.ld (i:=3) rfl rfl)) ?_
  obtain ⟨w1,s1⟩:=w0.pick' [3,0,1,2] 4 rfl rfl rfl
  dsimp only [pk,pks,nth,List.drop] at w1 s1
  obtain ⟨r2,e2,hp⟩:=bind_some' hp
  refine call_ex (bI.P rfl ⟨w1,(jj.step s1)⟩ e2) ?_
  rintro _ H3 ⟨uF,rfl,hl3_0,w3,s3,f3_0⟩
  refine bind_ex (ldI_of (w3.ld (i:=0) rfl rfl)) ?_
  refine bind_ex (ldI_of (w3.ld (i:=0) rfl rfl)) ?_
  refine bind_ex (ldSl_of (w3.ld (i:=0) rfl rfl)) ?_
  obtain ⟨w4,s4⟩:=w3.pick' [0,2,1,3] 4 rfl rfl rfl
  dsimp only [pk,pks,nth,List.drop] at w4 s4
  obtain ⟨r5,e5,hp⟩:=bind_some' hp
  refine call_ex (bI.P rfl ⟨w4,(kO.step (s1.trans (s3.trans s4)))⟩ e5) ?_
  rintro _ H6 ⟨uG,rfl,hl6_0,w6,s6,f6_0⟩
  refine bind_ex (ldI_of (w6.ld (i:=0) rfl rfl)) ?_
  refine bind_ex (ldI_of (w6.ld (i:=0) rfl rfl)) ?_
  refine bind_ex (ldSl_of (w6.ld (i:=0) rfl rfl)) ?_
  obtain ⟨w7,s7⟩:=w6.pick' [0,3,1,2] 4 rfl rfl rfl
  dsimp only [pk,pks,nth,List.drop] at w7 s7
  obtain ⟨r8,e8,hp⟩:=bind_some' hp
  refine call_ex (bH.P rfl ⟨w7,(kP.step (s1.trans (s3.trans (s4.trans (s6.trans s7)))))⟩ e8) ?_
  rintro _ H9 ⟨uH,rfl,hl9_0,w9,s9,f9_0⟩
  obtain ⟨w10,s10⟩:=w9.pick' [3,2,1,0] 4 rfl rfl rfl
  dsimp only [pk,pks,nth,List.drop] at w10 s10
  obtain rfl:=Option.some.inj hp
  exact ⟨_,_,rfl,_,_,_,rfl,hl3_0,hl6_0,hl9_0,w10,(s0.trans (s1.trans (s3.trans (s4.trans (s6.trans (s7.trans (s9.trans s10))))))),(f3_0.step (s4.trans (s6.trans (s7.trans (s9.trans s10))))),(f6_0.step (s7.trans (s9.trans s10))),(f9_0.step s10)⟩
 ·replace hp:=bif_f hb hp
  obtain rfl:=Option.some.inj hp
  exact ⟨_,_,rfl,_,_,_,rfl,rfl,rfl,rfl,w0,s0,jj,kO,kP⟩
def bj.Q (H0:Hp) (Ri R0:List Rs) (bk aX bl bc aY aT bf bg bw bh:Int) (cX:ON) (bN aa:Nat) (cY:Cap) (dI:List Int) (dd eU de df:Sl) (ax:Bool) (r:Bool) (v:AV) (H':Hp):Prop:=v = (.bool r)∧Out H0 Ri H' (Rs.blk aa [.int .i64 bk,.int .i64 aX,.sl ⟨cX,bN,cY⟩,.int .i64 bl,.int .i64 bc,.sl dd,.int .i64 aY,.int .i64 aT,.sl eU,.int .i64 bf,.int .i64 bg,.sl de,.int .i64 bw,.int .i64 bh,.sl df,.bool ax] :: R0) fun R=>True
def bj.S13 (H0:Hp) (Ri R0:List Rs) (ay ak aA ap aq ao au av aH aw:Int) (aR:ON) (aF az:Nat) (aS:Cap) (cq:List Int) (cL e_ cM cN:Sl) (bz:Bool) (C:Nat→Nat→Int→Int→Hp→OA) (pC:Int→Int→List Int→Int→Int→Option (Bool)):Prop:=∀ {dN eA:Int},∀ {H:Hp},aF = cq.length→(Out H0 Ri H (Rs.blk az [.int .i64 ay,.int .i64 ak,.sl ⟨aR,aF,aS⟩,.int .i64 aA,.int .i64 ap,.sl cL,.int .i64 aq,.int .i64 ao,.sl e_,.int .i64 au,.int .i64 av,.sl cM,.int .i64 aH,.int .i64 aw,.sl cN,.bool bz] :: R0) fun R=>ROs (eInt .i64) H R ⟨aR,aF,aS⟩ cq)→∀ {r:Bool},pC ay ak cq dN eA = some r→∃ v H',C az 0 dN eA H = some (v,H')∧bj.Q H0 Ri R0 ay ak aA ap aq ao au av aH aw aR aF az aS cq cL e_ cM cN bz r v H'
def bj.S29 (H0:Hp) (Ri R0:List Rs) (ay ak aA ap aq ao au av aH aw:Int) (aR:ON) (aF az:Nat) (aS:Cap) (cq:List Int) (cL e_ cM cN:Sl) (bz:Bool) (C:Nat→Nat→Int→Int→Hp→OA) (pC:Int→List Int→Int→Int→Option (Bool)):Prop:=∀ {jL jt:Int},∀ {H:Hp},aF = cq.length→(Out H0 Ri H (Rs.blk az [.int .i64 ay,.int .i64 ak,.sl ⟨aR,aF,aS⟩,.int .i64 aA,.int .i64 ap,.sl cL,.int .i64 aq,.int .i64 ao,.sl e_,.int .i64 au,.int .i64 av,.sl cM,.int .i64 aH,.int .i64 aw,.sl cN,.bool bz] :: R0) fun R=>ROs (eInt .i64) H R ⟨aR,aF,aS⟩ cq)→∀ {r:Bool},pC ak cq jL jt = some r→∃ v H',C az 0 jL jt H = some (v,H')∧bj.Q H0 Ri R0 ay ak aA ap aq ao au av aH aw aR aF az aS cq cL e_ cM cN bz r v H'
def bj.pl29 (F:Nat) :Nat→Int→List Int→Int→Int→Option (Bool)
 | 0,_,_,_,_=>none
 | k + 1,ak,cq,jL,jt=>(bif (decide (jt < ak)) then ((aC.p F ak cq jL jt).bind fun r1=>(bif (r1 != 0) then (some false) else (bj.pl29 F k ak cq jL (IntKind.i64.wrap (jt + 1))))) else (some true))
termination_by structural n=>n
theorem bj.l29_P {F:Nat} {H0:Hp} {Ri R0:List Rs} {ay ak aA ap aq ao au av aH aw:Int} {aR:ON} {aF az:Nat} {aS:Cap} {cq:List Int} {cL e_ cM cN:Sl} {bz:Bool} :∀ k,bj.S29 H0 Ri R0 ay ak aA ap aq ao au av aH aw aR aF az aS cq cL e_ cM cN bz (bj.l29 F (aC.tw F)  k) (bj.pl29 F  k):=by
 intro k
 induction k with
 | zero=>
  intro jL jt H kt h0 r hp
  exact nomatch (show (none:Option (Bool)) = some r from hp)
 | succ k ih=>
  intro jL jt H kt h0 r hp
  obtain ⟨w0,s0,kc⟩:=h0
  subst kt
  unfold bj.pl29 at hp
  unfold bj.l29
  refine bind_ex (ldI_of (w0.ld (i:=0) rfl rfl)) ?_
  refine bif_ex (fun hb=>?_) (fun hb=>?_)
  ·replace hp:=bif_t hb hp
   refine bind_ex (ldI_of (w0.ld (i:=0) rfl rfl)) ?_
   refine bind_ex (ldI_of (w0.ld (i:=0) rfl rfl)) ?_
   refine bind_ex (ldSl_of (w0.ld (i:=0) rfl rfl)) ?_
   obtain ⟨r1,e1,hp⟩:=bind_some' hp
   refine call_ex (aC.P rfl ⟨w0,kc⟩ e1) ?_
   rintro _ H2 ⟨rfl,w2,s2,_⟩
   refine bind_ex rfl ?_
   refine bif_ex (fun hb=>?_) (fun hb=>?_)
   ·replace hp:=bif_t hb hp
    obtain rfl:=Option.some.inj hp
    exact ⟨_,_,rfl,rfl,w2,(s0.trans s2),trivial⟩
   ·replace hp:=bif_f hb hp
    exact ih rfl ⟨w2,(s0.trans s2),(kc.step s2)⟩ hp
  ·replace hp:=bif_f hb hp
   obtain rfl:=Option.some.inj hp
   exact ⟨_,_,rfl,rfl,w0,s0,trivial⟩
def bj.pj1 (F:Nat)  (ak:Int) (cq:List Int) (ns:Int):Option (Bool):=bj.pl29 F F ak cq ns (IntKind.i64.wrap (ns + 1))
theorem bj.j1_P {F:Nat} {H0:Hp} {Ri R0:List Rs} {ay ak aA ap aq ao au av aH aw:Int} {aR:ON} {aF az:Nat} {aS:Cap} {cq:List Int} {cL e_ cM cN:Sl} {bz:Bool}  {ns:Int} {H:Hp} (kt:aF = cq.length) (h0:Out H0 Ri H (Rs.blk az [.int .i64 ay,.int .i64 ak,.sl ⟨aR,aF,aS⟩,.int .i64 aA,.int .i64 ap,.sl cL,.int .i64 aq,.int .i64 ao,.sl e_,.int .i64 au,.int .i64 av,.sl cM,.int .i64 aH,.int .i64 aw,.sl cN,.bool bz] :: R0) fun R=>ROs (eInt .i64) H R ⟨aR,aF,aS⟩ cq) {r:Bool} (hp:bj.pj1 F  ak cq ns = some r):∃ v H',bj.j1 F (aC.tw F)  az 0 ns H = some (v,H')∧bj.Q H0 Ri R0 ay ak aA ap aq ao au av aH aw aR aF az aS cq cL e_ cM cN bz r v H':=by
 obtain ⟨w0,s0,kc⟩:=h0
 subst kt
 unfold bj.pj1 at hp
 unfold bj.j1
 exact bj.l29_P F rfl ⟨w0,s0,kc⟩ hp
def bj.pl13 (F:Nat) :Nat→Int→Int→List Int→Int→Int→Option (Bool)
 | 0,_,_,_,_,_=>none
 | k + 1,ay,ak,cq,dN,eA=>(bif (decide (eA < ay)) then ((aC.p F ak cq eA dN).bind fun r1=>(bif (r1 != 0) then (some false) else (bj.pl13 F k ay ak cq dN (IntKind.i64.wrap (eA + 1))))) else (bj.pj1 F ak cq dN))
termination_by structural n=>n
theorem bj.l13_P {F:Nat} {H0:Hp} {Ri R0:List Rs} {ay ak aA ap aq ao au av aH aw:Int} {aR:ON} {aF az:Nat} {aS:Cap} {cq:List Int} {cL e_ cM cN:Sl} {bz:Bool} :∀ k,bj.S13 H0 Ri R0 ay ak aA ap aq ao au av aH aw aR aF az aS cq cL e_ cM cN bz (bj.l13 F (aC.tw F)  k) (bj.pl13 F  k):=by
 intro k
 induction k with
 | zero=>
  intro dN eA H kt h0 r hp
  exact nomatch (show (none:Option (Bool)) = some r from hp)
 | succ k ih=>
  intro dN eA H kt h0 r hp
  obtain ⟨w0,s0,kc⟩:=h0
  subst kt
  unfold bj.pl13 at hp
  unfold bj.l13
  refine bind_ex (ldI_of (w0.ld (i:=0) rfl rfl)) ?_
  refine bif_ex (fun hb=>?_) (fun hb=>?_)
  ·replace hp:=bif_t hb hp
   refine bind_ex (ldI_of (w0.ld (i:=0) rfl rfl)) ?_
   refine bind_ex (ldI_of (w0.ld (i:=0) rfl rfl)) ?_
   refine bind_ex (ldSl_of (w0.ld (i:=0) rfl rfl)) ?_
   obtain ⟨r1,e1,hp⟩:=bind_some' hp
   refine call_ex (aC.P rfl ⟨w0,kc⟩ e1) ?_
   rintro _ H2 ⟨rfl,w2,s2,_⟩
   refine bind_ex rfl ?_
   refine bif_ex (fun hb=>?_) (fun hb=>?_)
   ·replace hp:=bif_t hb hp
    obtain rfl:=Option.some.inj hp
    exact ⟨_,_,rfl,rfl,w2,(s0.trans s2),trivial⟩
   ·replace hp:=bif_f hb hp
    exact ih rfl ⟨w2,(s0.trans s2),(kc.step s2)⟩ hp
  ·replace hp:=bif_f hb hp
   exact bj.j1_P rfl ⟨w0,s0,kc⟩ hp
def bj.p (F:Nat) (bk:Int) (aX:Int) (dI:List Int) (ae:Int):Option (Bool):=bj.pl13 F F bk aX dI ae (IntKind.i64.wrap (ae + 1))
theorem bj.P {F:Nat} {bk aX bl bc aY aT bf bg bw bh ae:Int} {cX:ON} {bN aa:Nat} {cY:Cap} {dI:List Int} {dd eU de df:Sl} {ax:Bool} {H:Hp} {R0:List Rs} (jY:bN = dI.length) (h0:Inn H (Rs.blk aa [.int .i64 bk,.int .i64 aX,.sl ⟨cX,bN,cY⟩,.int .i64 bl,.int .i64 bc,.sl dd,.int .i64 aY,.int .i64 aT,.sl eU,.int .i64 bf,.int .i64 bg,.sl de,.int .i64 bw,.int .i64 bh,.sl df,.bool ax] :: R0) fun R=>ROs (eInt .i64) H R ⟨cX,bN,cY⟩ dI) {r:Bool} (hp:bj.p F bk aX dI ae = some r):∃ v H',bj.tw F aa 0 ae H = some (v,H')∧bj.Q H (Rs.blk aa [.int .i64 bk,.int .i64 aX,.sl ⟨cX,bN,cY⟩,.int .i64 bl,.int .i64 bc,.sl dd,.int .i64 aY,.int .i64 aT,.sl eU,.int .i64 bf,.int .i64 bg,.sl de,.int .i64 bw,.int .i64 bh,.sl df,.bool ax] :: R0) R0 bk aX bl bc aY aT bf bg bw bh cX bN aa cY dI dd eU de df ax r v H':=by
 obtain ⟨w0,jj⟩:=h0
 subst jY
 unfold bj.p at hp
 unfold bj.tw bj.twX
 have s0:=w0.rf
 exact bj.l13_P F rfl ⟨w0,s0,jj⟩ hp
def aU.Q (H0:Hp) (Ri R0:List Rs) (bk aX bl bc aY aT bf bg bw bh:Int) (cX:ON) (bN aa:Nat) (cY:Cap) (dI:List Int) (dd eU de df:Sl) (ax:Bool) (r:Int) (v:AV) (H':Hp):Prop:=v = (.int .i64 r)∧Out H0 Ri H' (Rs.blk aa [.int .i64 bk,.int .i64 aX,.sl ⟨cX,bN,cY⟩,.int .i64 bl,.int .i64 bc,.sl dd,.int .i64 aY,.int .i64 aT,.sl eU,.int .i64 bf,.int .i64 bg,.sl de,.int .i64 bw,.int .i64 bh,.sl df,.bool ax] :: R0) fun R=>True
def aU.S13 (H0:Hp) (Ri R0:List Rs) (ay ak aA ap aq ao au av aH aw:Int) (aR:ON) (aF az:Nat) (aS:Cap) (cq:List Int) (cL e_ cM cN:Sl) (bz:Bool) (C:Nat→Nat→Int→Int→Hp→OA) (pC:Int→Int→List Int→Int→Int→Option (Int)):Prop:=∀ {dN eA:Int},∀ {H:Hp},aF = cq.length→(Out H0 Ri H (Rs.blk az [.int .i64 ay,.int .i64 ak,.sl ⟨aR,aF,aS⟩,.int .i64 aA,.int .i64 ap,.sl cL,.int .i64 aq,.int .i64 ao,.sl e_,.int .i64 au,.int .i64 av,.sl cM,.int .i64 aH,.int .i64 aw,.sl cN,.bool bz] :: R0) fun R=>ROs (eInt .i64) H R ⟨aR,aF,aS⟩ cq)→∀ {r:Int},pC ay ak cq dN eA = some r→∃ v H',C az 0 dN eA H = some (v,H')∧aU.Q H0 Ri R0 ay ak aA ap aq ao au av aH aw aR aF az aS cq cL e_ cM cN bz r v H'
def aU.S213 (H0:Hp) (Ri R0:List Rs) (ay ak aA ap aq ao au av aH aw:Int) (aR:ON) (aF az:Nat) (aS:Cap) (cq:List Int) (cL e_ cM cN:Sl) (bz:Bool) (C:Nat→Nat→Int→Int→Int→Hp→OA) (pC:Int→Int→List Int→Int→Int→Int→Option (Int)):Prop:=∀ {ia ip jw:Int},∀ {H:Hp},aF = cq.length→(Out H0 Ri H (Rs.blk az [.int .i64 ay,.int .i64 ak,.sl ⟨aR,aF,aS⟩,.int .i64 aA,.int .i64 ap,.sl cL,.int .i64 aq,.int .i64 ao,.sl e_,.int .i64 au,.int .i64 av,.sl cM,.int .i64 aH,.int .i64 aw,.sl cN,.bool bz] :: R0) fun R=>ROs (eInt .i64) H R ⟨aR,aF,aS⟩ cq)→∀ {r:Int},pC ay ak cq ia ip jw = some r→∃ v H',C az 0 ia ip jw H = some (v,H')∧aU.Q H0 Ri R0 ay ak aA ap aq ao au av aH aw aR aF az aS cq cL e_ cM cN bz r v H'
def aU.pj3 (F:Nat) (jH:Int→Int→List Int→Int→Int→Option (Int)) (ay:Int) (ak:Int) (cq:List Int) (oQ:Int) (oR:Int):Option (Int):=jH ay ak cq oQ (IntKind.i64.wrap (oR + 1))
theorem aU.j3_P {F:Nat} {H0:Hp} {Ri R0:List Rs} {ay ak aA ap aq ao au av aH aw:Int} {aR:ON} {aF az:Nat} {aS:Cap} {cq:List Int} {cL e_ cM cN:Sl} {bz:Bool} {C13_:Nat→Nat→Int→Int→Hp→OA} {jH:Int→Int→List Int→Int→Int→Option (Int)} (hC13:aU.S13 H0 Ri R0 ay ak aA ap aq ao au av aH aw aR aF az aS cq cL e_ cM cN bz C13_ jH) {oQ oR:Int} {H:Hp} (kt:aF = cq.length) (h0:Out H0 Ri H (Rs.blk az [.int .i64 ay,.int .i64 ak,.sl ⟨aR,aF,aS⟩,.int .i64 aA,.int .i64 ap,.sl cL,.int .i64 aq,.int .i64 ao,.sl e_,.int .i64 au,.int .i64 av,.sl cM,.int .i64 aH,.int .i64 aw,.sl cN,.bool bz] :: R0) fun R=>ROs (eInt .i64) H R ⟨aR,aF,aS⟩ cq) {r:Int} (hp:aU.pj3 F jH ay ak cq oQ oR = some r):∃ v H',aU.j3 F (aC.tw F) C13_ az 0 oQ oR H = some (v,H')∧aU.Q H0 Ri R0 ay ak aA ap aq ao au av aH aw aR aF az aS cq cL e_ cM cN bz r v H':=by
 obtain ⟨w0,s0,kc⟩:=h0
 subst kt
 unfold aU.pj3 at hp
 unfold aU.j3
 exact hC13 rfl ⟨w0,s0,kc⟩ hp
def aU.pj4 (F:Nat) (jH:Int→Int→List Int→Int→Int→Option (Int)) (ay:Int) (ak:Int) (cq:List Int) (oS:Int) (nt:Int):Option (Int):=aU.pj3 F jH ay ak cq oS nt
theorem aU.j4_P {F:Nat} {H0:Hp} {Ri R0:List Rs} {ay ak aA ap aq ao au av aH aw:Int} {aR:ON} {aF az:Nat} {aS:Cap} {cq:List Int} {cL e_ cM cN:Sl} {bz:Bool} {C13_:Nat→Nat→Int→Int→Hp→OA} {jH:Int→Int→List Int→Int→Int→Option (Int)} (hC13:aU.S13 H0 Ri R0 ay ak aA ap aq ao au av aH aw aR aF az aS cq cL e_ cM cN bz C13_ jH) {oS nt:Int} {H:Hp} (kt:aF = cq.length) (h0:Out H0 Ri H (Rs.blk az [.int .i64 ay,.int .i64 ak,.sl ⟨aR,aF,aS⟩,.int .i64 aA,.int .i64 ap,.sl cL,.int .i64 aq,.int .i64 ao,.sl e_,.int .i64 au,.int .i64 av,.sl cM,.int .i64 aH,.int .i64 aw,.sl cN,.bool bz] :: R0) fun R=>ROs (eInt .i64) H R ⟨aR,aF,aS⟩ cq) {r:Int} (hp:aU.pj4 F jH ay ak cq oS nt = some r):∃ v H',aU.j4 F (aC.tw F) C13_ az 0 oS nt H = some (v,H')∧aU.Q H0 Ri R0 ay ak aA ap aq ao au av aH aw aR aF az aS cq cL e_ cM cN bz r v H':=by
 obtain ⟨w0,s0,kc⟩:=h0
 subst kt
 unfold aU.pj4 at hp
 unfold aU.j4
 exact aU.j3_P (@hC13) rfl ⟨w0,s0,kc⟩ hp
def aU.pl213 (F:Nat) (jH:Int→Int→List Int→Int→Int→Option (Int)):Nat→Int→Int→List Int→Int→Int→Int→Option (Int)
 | 0,_,_,_,_,_,_=>none
 | k + 1,ay,ak,cq,ia,ip,jw=>(bif (decide (jw < ak)) then ((aC.p F ak cq ip jw).bind fun r1=>(aC.p F ak cq ia ia).bind fun r4=>(if r4 = 0 then none else ((bif ((Int.tmod r1 r4) != 0) then (some ip) else (aU.pl213 F jH k ay ak cq ia ip (IntKind.i64.wrap (jw + 1))))))) else (aU.pj4 F jH ay ak cq ia ip))
termination_by structural n=>n
theorem aU.l213_P {F:Nat} {H0:Hp} {Ri R0:List Rs} {ay ak aA ap aq ao au av aH aw:Int} {aR:ON} {aF az:Nat} {aS:Cap} {cq:List Int} {cL e_ cM cN:Sl} {bz:Bool} {C13_:Nat→Nat→Int→Int→Hp→OA} {jH:Int→Int→List Int→Int→Int→Option (Int)} (hC13:aU.S13 H0 Ri R0 ay ak aA ap aq ao au av aH aw aR aF az aS cq cL e_ cM cN bz C13_ jH):∀ k,aU.S213 H0 Ri R0 ay ak aA ap aq ao au av aH aw aR aF az aS cq cL e_ cM cN bz (aU.l213 F (aC.tw F) C13_ k) (aU.pl213 F jH k):=by
 intro k
 induction k with
 | zero=>
  intro ia ip jw H kt h0 r hp
  exact nomatch (show (none:Option (Int)) = some r from hp)
 | succ k ih=>
  intro ia ip jw H kt h0 r hp
  obtain ⟨w0,s0,kc⟩:=h0
  subst kt
  unfold aU.pl213 at hp
  unfold aU.l213
  refine bind_ex (ldI_of (w0.ld (i:=0) rfl rfl)) ?_
  refine bif_ex (fun hb=>?_) (fun hb=>?_)
  ·replace hp:=bif_t hb hp
   refine bind_ex (ldI_of (w0.ld (i:=0) rfl rfl)) ?_
   refine bind_ex (ldI_of (w0.ld (i:=0) rfl rfl)) ?_
   refine bind_ex (ldSl_of (w0.ld (i:=0) rfl rfl)) ?_
   obtain ⟨r1,e1,hp⟩:=bind_some' hp
   refine call_ex (aC.P rfl ⟨w0,kc⟩ e1) ?_
   rintro _ H2 ⟨rfl,w2,s2,_⟩
   refine bind_ex rfl ?_
   refine ifs_ex (W.cons_of (Rn:=[]) w0 w2 s2) ?_
   refine bind_ex (ldI_of (w2.ld (i:=0) rfl rfl)) ?_
   refine bind_ex (ldI_of (w2.ld (i:=0) rfl rfl)) ?_
   refine bind_ex (ldSl_of (w2.ld (i:=0) rfl rfl)) ?_
   obtain ⟨r4,e4,hp⟩:=bind_some' hp
   refine call_ex (aC.P rfl ⟨w2,(kc.step s2)⟩ e4) ?_
   rintro _ H5 ⟨rfl,w5,s5,_⟩
   refine bind_ex rfl ?_
   obtain ⟨g6,hp⟩:=ifn_p hp
   refine ifn_ex g6 ?_
   refine bif_ex (fun hb=>?_) (fun hb=>?_)
   ·replace hp:=bif_t hb hp
    obtain rfl:=Option.some.inj hp
    exact ⟨_,_,rfl,rfl,w5,(s0.trans (s2.trans s5)),trivial⟩
   ·replace hp:=bif_f hb hp
    exact ih rfl ⟨w5,(s0.trans (s2.trans s5)),(kc.step (s2.trans s5))⟩ hp
  ·replace hp:=bif_f hb hp
   exact aU.j4_P (@hC13) rfl ⟨w0,s0,kc⟩ hp
def aU.pl13 (F:Nat) :Nat→Int→Int→List Int→Int→Int→Option (Int)
 | 0,_,_,_,_,_=>none
 | k + 1,ay,ak,cq,dN,eA=>(bif (decide (eA < ay)) then (aU.pl213 F (aU.pl13 F k) F ay ak cq dN eA (IntKind.i64.wrap (dN + 1))) else (some (-1)))
termination_by structural n=>n
theorem aU.l13_P {F:Nat} {H0:Hp} {Ri R0:List Rs} {ay ak aA ap aq ao au av aH aw:Int} {aR:ON} {aF az:Nat} {aS:Cap} {cq:List Int} {cL e_ cM cN:Sl} {bz:Bool} :∀ k,aU.S13 H0 Ri R0 ay ak aA ap aq ao au av aH aw aR aF az aS cq cL e_ cM cN bz (aU.l13 F (aC.tw F)  k) (aU.pl13 F  k):=by
 intro k
 induction k with
 | zero=>
  intro dN eA H kt h0 r hp
  exact nomatch (show (none:Option (Int)) = some r from hp)
 | succ k ih=>
  intro dN eA H kt h0 r hp
  obtain ⟨w0,s0,kc⟩:=h0
  subst kt
  unfold aU.pl13 at hp
  unfold aU.l13
  refine bind_ex (ldI_of (w0.ld (i:=0) rfl rfl)) ?_
  refine bif_ex (fun hb=>?_) (fun hb=>?_)
  ·replace hp:=bif_t hb hp
   exact aU.l213_P (@ih) F rfl ⟨w0,s0,kc⟩ hp
  ·replace hp:=bif_f hb hp
   obtain rfl:=Option.some.inj hp
   exact ⟨_,_,rfl,rfl,w0,s0,trivial⟩
def aU.p (F:Nat) (bk:Int) (aX:Int) (dI:List Int) (ae:Int):Option (Int):=aU.pl13 F F bk aX dI ae (IntKind.i64.wrap (ae + 1))
theorem aU.P {F:Nat} {bk aX bl bc aY aT bf bg bw bh ae:Int} {cX:ON} {bN aa:Nat} {cY:Cap} {dI:List Int} {dd eU de df:Sl} {ax:Bool} {H:Hp} {R0:List Rs} (jY:bN = dI.length) (h0:Inn H (Rs.blk aa [.int .i64 bk,.int .i64 aX,.sl ⟨cX,bN,cY⟩,.int .i64 bl,.int .i64 bc,.sl dd,.int .i64 aY,.int .i64 aT,.sl eU,.int .i64 bf,.int .i64 bg,.sl de,.int .i64 bw,.int .i64 bh,.sl df,.bool ax] :: R0) fun R=>ROs (eInt .i64) H R ⟨cX,bN,cY⟩ dI) {r:Int} (hp:aU.p F bk aX dI ae = some r):∃ v H',aU.tw F aa 0 ae H = some (v,H')∧aU.Q H (Rs.blk aa [.int .i64 bk,.int .i64 aX,.sl ⟨cX,bN,cY⟩,.int .i64 bl,.int .i64 bc,.sl dd,.int .i64 aY,.int .i64 aT,.sl eU,.int .i64 bf,.int .i64 bg,.sl de,.int .i64 bw,.int .i64 bh,.sl df,.bool ax] :: R0) R0 bk aX bl bc aY aT bf bg bw bh cX bN aa cY dI dd eU de df ax r v H':=by
 obtain ⟨w0,jj⟩:=h0
 subst jY
 unfold aU.p at hp
 unfold aU.tw aU.twX
 have s0:=w0.rf
 exact aU.l13_P F rfl ⟨w0,s0,jj⟩ hp
def aP.Q (H0:Hp) (Ri R0:List Rs) (bk aX bl bc aY aT bf bg bw bh:Int) (cX em cv en eo:ON) (bN dh bC di dj aa:Nat) (cY ep cw es et:Cap) (fi fM fj fN fO:Bool) (fk fl fP fQ fm fo fR fS fT fU:List AV) (r:Bool×Bool×List Int×List Int×List Int×List Int×List Int×Bool) (v:AV) (H':Hp):Prop:=∃ iC:List AV,∃ jD:List AV,∃ iD:List AV,∃ jE:List AV,∃ jF:List AV,v = (.tup [(.bool r.1),(.bool r.2.1)])∧bN = (r.2.2.1).length∧dh = (r.2.2.2.1).length∧bC = (r.2.2.2.2.1).length∧di = (r.2.2.2.2.2.1).length∧dj = (r.2.2.2.2.2.2.1).length∧Out H0 Ri H' (Rs.ow fi ⟨cX,bN,cY⟩ (eInt .i64).z fk iC fl :: Rs.ow fM ⟨em,dh,ep⟩ (eInt .i64).z fP jD fQ :: Rs.ow fj ⟨cv,bC,cw⟩ (eInt .i64).z fm iD fo :: Rs.ow fN ⟨en,di,es⟩ (eInt .i64).z fR jE fS :: Rs.ow fO ⟨eo,dj,et⟩ (eInt .i64).z fT jF fU :: Rs.blk aa [.int .i64 bk,.int .i64 aX,.sl ⟨cX,bN,cY⟩,.int .i64 bl,.int .i64 bc,.sl ⟨em,dh,ep⟩,.int .i64 aY,.int .i64 aT,.sl ⟨cv,bC,cw⟩,.int .i64 bf,.int .i64 bg,.sl ⟨en,di,es⟩,.int .i64 bw,.int .i64 bh,.sl ⟨eo,dj,et⟩,.bool (r.2.2.2.2.2.2.2)] :: R0) fun R=>CR (eInt .i64) H' R iC (r.2.2.1)∧CR (eInt .i64) H' R jD (r.2.2.2.1)∧CR (eInt .i64) H' R iD (r.2.2.2.2.1)∧CR (eInt .i64) H' R jE (r.2.2.2.2.2.1)∧CR (eInt .i64) H' R jF (r.2.2.2.2.2.2.1)
def aP.S29 (H0:Hp) (Ri R0:List Rs) (ay ak aA ap aq ao au av aH aw:Int) (aR bn aM bo bp:ON) (aF aZ aB a_ ba az:Nat) (aS br aN bs bt:Cap) (bV bW bX bY bZ:Bool) (b_ ca cb cc cd ce cf cg ch ci:List AV) (C:Nat→Nat→Int→Int→Hp→OA) (pC:Int→Int→List Int→Int→List Int→Int→Int→List Int→Int→Int→List Int→Int→List Int→Bool→Int→Int→Option (Bool×Bool×List Int×List Int×List Int×List Int×List Int×Bool)):Prop:=∀ {aD aG aE aK aL:List Int} {cG cH cI cJ cK:List AV} {ax:Bool} {gH iW:Int},∀ {H:Hp},aF = aD.length→aZ = aG.length→aB = aE.length→a_ = aK.length→ba = aL.length→(Out H0 Ri H (Rs.ow bV ⟨aR,aF,aS⟩ (eInt .i64).z b_ cG ca :: Rs.ow bW ⟨bn,aZ,br⟩ (eInt .i64).z cb cH cc :: Rs.ow bX ⟨aM,aB,aN⟩ (eInt .i64).z cd cI ce :: Rs.ow bY ⟨bo,a_,bs⟩ (eInt .i64).z cf cJ cg :: Rs.ow bZ ⟨bp,ba,bt⟩ (eInt .i64).z ch cK ci :: Rs.blk az [.int .i64 ay,.int .i64 ak,.sl ⟨aR,aF,aS⟩,.int .i64 aA,.int .i64 ap,.sl ⟨bn,aZ,br⟩,.int .i64 aq,.int .i64 ao,.sl ⟨aM,aB,aN⟩,.int .i64 au,.int .i64 av,.sl ⟨bo,a_,bs⟩,.int .i64 aH,.int .i64 aw,.sl ⟨bp,ba,bt⟩,.bool ax] :: R0) fun R=>CR (eInt .i64) H R cG aD∧CR (eInt .i64) H R cH aG∧CR (eInt .i64) H R cI aE∧CR (eInt .i64) H R cJ aK∧CR (eInt .i64) H R cK aL)→∀ {r:Bool×Bool×List Int×List Int×List Int×List Int×List Int×Bool},pC ay ak aD ap aG aq ao aE au av aK aw aL ax gH iW = some r→∃ v H',C az 0 gH iW H = some (v,H')∧aP.Q H0 Ri R0 ay ak aA ap aq ao au av aH aw aR bn aM bo bp aF aZ aB a_ ba az aS br aN bs bt bV bW bX bY bZ b_ ca cb cc cd ce cf cg ch ci r v H'
def aP.S61 (H0:Hp) (Ri R0:List Rs) (ay ak aA ap aq ao au av aH aw:Int) (aR bn aM bo bp:ON) (aF aZ aB a_ ba az:Nat) (aS br aN bs bt:Cap) (bV bW bX bY bZ:Bool) (b_ ca cb cc cd ce cf cg ch ci:List AV) (C:Nat→Nat→Int→Int→Hp→OA) (pC:Int→Int→List Int→Int→List Int→Int→Int→List Int→Int→Int→List Int→Int→List Int→Bool→Int→Int→Option (Bool×Bool×List Int×List Int×List Int×List Int×List Int×Bool)):Prop:=∀ {aD aG aE aK aL:List Int} {cG cH cI cJ cK:List AV} {ax:Bool} {gG iU:Int},∀ {H:Hp},aF = aD.length→aZ = aG.length→aB = aE.length→a_ = aK.length→ba = aL.length→(Out H0 Ri H (Rs.ow bV ⟨aR,aF,aS⟩ (eInt .i64).z b_ cG ca :: Rs.ow bW ⟨bn,aZ,br⟩ (eInt .i64).z cb cH cc :: Rs.ow bX ⟨aM,aB,aN⟩ (eInt .i64).z cd cI ce :: Rs.ow bY ⟨bo,a_,bs⟩ (eInt .i64).z cf cJ cg :: Rs.ow bZ ⟨bp,ba,bt⟩ (eInt .i64).z ch cK ci :: Rs.blk az [.int .i64 ay,.int .i64 ak,.sl ⟨aR,aF,aS⟩,.int .i64 aA,.int .i64 ap,.sl ⟨bn,aZ,br⟩,.int .i64 aq,.int .i64 ao,.sl ⟨aM,aB,aN⟩,.int .i64 au,.int .i64 av,.sl ⟨bo,a_,bs⟩,.int .i64 aH,.int .i64 aw,.sl ⟨bp,ba,bt⟩,.bool ax] :: R0) fun R=>CR (eInt .i64) H R cG aD∧CR (eInt .i64) H R cH aG∧CR (eInt .i64) H R cI aE∧CR (eInt .i64) H R cJ aK∧CR (eInt .i64) H R cK aL)→∀ {r:Bool×Bool×List Int×List Int×List Int×List Int×List Int×Bool},pC ay ak aD ap aG aq ao aE au av aK aw aL ax gG iU = some r→∃ v H',C az 0 gG iU H = some (v,H')∧aP.Q H0 Ri R0 ay ak aA ap aq ao au av aH aw aR bn aM bo bp aF aZ aB a_ ba az aS br aN bs bt bV bW bX bY bZ b_ ca cb cc cd ce cf cg ch ci r v H'
def aP.pj1 (F:Nat)  (ay:Int) (ak:Int) (aD:List Int) (ap:Int) (aG:List Int) (aq:Int) (ao:Int) (aE:List Int) (aK:List Int) (aL:List Int) (ax:Bool) (mv:Int):Option (Bool×Bool×List Int×List Int×List Int×List Int×List Int×Bool):=(bif ax then (some (false,false,aD,aG,aE,aK,aL,ax)) else ((bj.p F ay ak aD mv).bind fun r3=>(bif (!r3) then (some (false,false,aD,aG,aE,aK,aL,ax)) else ((aU.p F ay ak aD mv).bind fun r8=>(bif (decide (r8 < 0)) then (some (true,false,aD,aG,aE,aK,aL,ax)) else ((dA.p F ak aD ap aG aq ao aE ax mv r8 (-1)).bind fun r13=>some (false,false,r13.1,r13.2.1,r13.2.2.1,aK,aL,r13.2.2.2)))))))
theorem aP.j1_P {F:Nat} {H0:Hp} {Ri R0:List Rs} {ay ak aA ap aq ao au av aH aw:Int} {aR bn aM bo bp:ON} {aF aZ aB a_ ba az:Nat} {aS br aN bs bt:Cap} {bV bW bX bY bZ:Bool} {b_ ca cb cc cd ce cf cg ch ci:List AV}  {aD aG aE aK aL:List Int} {cG cH cI cJ cK:List AV} {ax:Bool} {mv:Int} {H:Hp} (eG:aF = aD.length) (eH:aZ = aG.length) (eI:aB = aE.length) (eJ:a_ = aK.length) (eK:ba = aL.length) (h0:Out H0 Ri H (Rs.ow bV ⟨aR,aF,aS⟩ (eInt .i64).z b_ cG ca :: Rs.ow bW ⟨bn,aZ,br⟩ (eInt .i64).z cb cH cc :: Rs.ow bX ⟨aM,aB,aN⟩ (eInt .i64).z cd cI ce :: Rs.ow bY ⟨bo,a_,bs⟩ (eInt .i64).z cf cJ cg :: Rs.ow bZ ⟨bp,ba,bt⟩ (eInt .i64).z ch cK ci :: Rs.blk az [.int .i64 ay,.int .i64 ak,.sl ⟨aR,aF,aS⟩,.int .i64 aA,.int .i64 ap,.sl ⟨bn,aZ,br⟩,.int .i64 aq,.int .i64 ao,.sl ⟨aM,aB,aN⟩,.int .i64 au,.int .i64 av,.sl ⟨bo,a_,bs⟩,.int .i64 aH,.int .i64 aw,.sl ⟨bp,ba,bt⟩,.bool ax] :: R0) fun R=>CR (eInt .i64) H R cG aD∧CR (eInt .i64) H R cH aG∧CR (eInt .i64) H R cI aE∧CR (eInt .i64) H R cJ aK∧CR (eInt .i64) H R cK aL) {r:Bool×Bool×List Int×List Int×List Int×List Int×List Int×Bool} (hp:aP.pj1 F  ay ak aD ap aG aq ao aE aK aL ax mv = some r):∃ v H',aP.j1 F (ar.tw F) (aC.tw F) (dD.tw F) (dA.tw F) (dE.tw F) (bj.tw F) (aU.tw F)  az 0 mv H = some (v,H')∧aP.Q H0 Ri R0 ay ak aA ap aq ao au av aH aw aR bn aM bo bp aF aZ aB a_ ba az aS br aN bs bt bV bW bX bY bZ b_ ca cb cc cd ce cf cg ch ci r v H':=by
 obtain ⟨w0,s0,c_,dn,dc,dy,dz⟩:=h0
 subst eG
 subst eH
 subst eI
 subst eJ
 subst eK
 unfold aP.pj1 at hp
 unfold aP.j1
 refine bind_ex (ldB_of (w0.ld (i:=5) rfl rfl)) ?_
 refine bif_ex (fun hb=>?_) (fun hb=>?_)
 ·replace hp:=bif_t hb hp
  obtain rfl:=Option.some.inj hp
  exact ⟨_,_,rfl,_,_,_,_,_,rfl,rfl,rfl,rfl,rfl,rfl,w0,s0,c_,dn,dc,dy,dz⟩
 ·replace hp:=bif_f hb hp
  obtain ⟨w1,s1⟩:=w0.pick' [0,5,1,2,3,4] 6 rfl rfl rfl
  dsimp only [pk,pks,nth,List.drop] at w1 s1
  have f2:=W.borrow1 (eInt .i64) w1 (c_.step s1)
  obtain ⟨w2,s2⟩:=w1.right1
  obtain ⟨r3,e3,hp⟩:=bind_some' hp
  refine call_ex (bj.P rfl ⟨w2,f2⟩ e3) ?_
  rintro _ H4 ⟨rfl,w4,s4,_⟩
  obtain ⟨w5,s5⟩:=W.frame1 w1 w4 s4
  refine bind_ex rfl ?_
  refine bif_ex (fun hb=>?_) (fun hb=>?_)
  ·replace hp:=bif_t hb hp
   obtain ⟨w6,s6⟩:=w5.pick' [0,2,3,4,5,1] 6 rfl rfl rfl
   dsimp only [pk,pks,nth,List.drop] at w6 s6
   obtain rfl:=Option.some.inj hp
   exact ⟨_,_,rfl,_,_,_,_,_,rfl,rfl,rfl,rfl,rfl,rfl,w6,(s0.trans (s1.trans (s5.trans s6))),(c_.step (s1.trans (s5.trans s6))),(dn.step (s1.trans (s5.trans s6))),(dc.step (s1.trans (s5.trans s6))),(dy.step (s1.trans (s5.trans s6))),(dz.step (s1.trans (s5.trans s6)))⟩
  ·replace hp:=bif_f hb hp
   have f7:=W.borrow1 (eInt .i64) w5 (c_.step (s1.trans s5))
   obtain ⟨w7,s7⟩:=w5.right1
   obtain ⟨r8,e8,hp⟩:=bind_some' hp
   refine call_ex (aU.P rfl ⟨w7,f7⟩ e8) ?_
   rintro _ H9 ⟨rfl,w9,s9,_⟩
   obtain ⟨w10,s10⟩:=W.frame1 w5 w9 s9
   refine bind_ex rfl ?_
   refine bif_ex (fun hb=>?_) (fun hb=>?_)
   ·replace hp:=bif_t hb hp
    obtain ⟨w11,s11⟩:=w10.pick' [0,2,3,4,5,1] 6 rfl rfl rfl
    dsimp only [pk,pks,nth,List.drop] at w11 s11
    obtain rfl:=Option.some.inj hp
    exact ⟨_,_,rfl,_,_,_,_,_,rfl,rfl,rfl,rfl,rfl,rfl,w11,(s0.trans (s1.trans (s5.trans (s10.trans s11)))),(c_.step (s1.trans (s5.trans (s10.trans s11)))),(dn.step (s1.trans (s5.trans (s10.trans s11)))),(dc.step (s1.trans (s5.trans (s10.trans s11)))),(dy.step (s1.trans (s5.trans (s10.trans s11)))),(dz.step (s1.trans (s5.trans (s10.trans s11))))⟩
   ·replace hp:=bif_f hb hp
    obtain ⟨w12,s12⟩:=w10.pick' [0,2,3,1,4,5] 6 rfl rfl rfl
    dsimp only [pk,pks,nth,List.drop] at w12 s12
    obtain ⟨r13,e13,hp⟩:=bind_some' hp
    refine call_ex (dA.P rfl rfl rfl ⟨w12,(c_.step (s1.trans (s5.trans (s10.trans s12)))),(dn.step (s1.trans (s5.trans (s10.trans s12)))),(dc.step (s1.trans (s5.trans (s10.trans s12))))⟩ e13) ?_
    rintro _ H14 ⟨ww,Bg,Bh,rfl,hl14_0,hl14_1,hl14_2,w14,s14,f14_0,f14_1,f14_2⟩
    obtain ⟨w15,s15⟩:=w14.pick' [0,1,2,4,5,3] 6 rfl rfl rfl
    dsimp only [pk,pks,nth,List.drop] at w15 s15
    obtain rfl:=Option.some.inj hp
    exact ⟨_,_,rfl,_,_,_,_,_,rfl,hl14_0,hl14_1,hl14_2,rfl,rfl,w15,(s0.trans (s1.trans (s5.trans (s10.trans (s12.trans (s14.trans s15)))))),(f14_0.step s15),(f14_1.step s15),(f14_2.step s15),(dy.step (s1.trans (s5.trans (s10.trans (s12.trans (s14.trans s15)))))),(dz.step (s1.trans (s5.trans (s10.trans (s12.trans (s14.trans s15))))))⟩
def aP.pl61 (F:Nat) :Nat→Int→Int→List Int→Int→List Int→Int→Int→List Int→Int→Int→List Int→Int→List Int→Bool→Int→Int→Option (Bool×Bool×List Int×List Int×List Int×List Int×List Int×Bool)
 | 0,_,_,_,_,_,_,_,_,_,_,_,_,_,_,_,_=>none
 | k + 1,ay,ak,aD,ap,aG,aq,ao,aE,au,av,aK,aw,aL,ax,gG,iU=>(bif (decide (iU < ak)) then ((bif (!ax) then ((aC.p F ak aD gG iU).bind fun r2=>(aC.p F ak aD gG gG).bind fun r7=>(dD.p F r2 r7).bind fun r10=>(dE.p F ay ak aD au av aK aw aL ax iU gG r10).bind fun r13=>aP.pl61 F k ay ak r13.1 ap aG aq ao aE au av r13.2.1 aw r13.2.2.1 r13.2.2.2 gG (IntKind.i64.wrap (iU + 1))) else (aP.pj1 F ay ak aD ap aG aq ao aE aK aL ax gG))) else (aP.pj1 F ay ak aD ap aG aq ao aE aK aL ax gG))
termination_by structural n=>n
theorem aP.l61_P {F:Nat} {H0:Hp} {Ri R0:List Rs} {ay ak aA ap aq ao au av aH aw:Int} {aR bn aM bo bp:ON} {aF aZ aB a_ ba az:Nat} {aS br aN bs bt:Cap} {bV bW bX bY bZ:Bool} {b_ ca cb cc cd ce cf cg ch ci:List AV} :∀ k,aP.S61 H0 Ri R0 ay ak aA ap aq ao au av aH aw aR bn aM bo bp aF aZ aB a_ ba az aS br aN bs bt bV bW bX bY bZ b_ ca cb cc cd ce cf cg ch ci (aP.l61 F (ar.tw F) (aC.tw F) (dD.tw F) (dA.tw F) (dE.tw F) (bj.tw F) (aU.tw F)  k) (aP.pl61 F  k):=by
 intro k
 induction k with
 | zero=>
  intro aD aG aE aK aL cG cH cI cJ cK ax gG iU H eG eH eI eJ eK h0 r hp
  exact nomatch (show (none:Option (Bool×Bool×List Int×List Int×List Int×List Int×List Int×Bool)) = some r from hp)
 | succ k ih=>
  intro aD aG aE aK aL cG cH cI cJ cK ax gG iU H eG eH eI eJ eK h0 r hp
  obtain ⟨w0,s0,c_,dn,dc,dy,dz⟩:=h0
  subst eG
  subst eH
  subst eI
  subst eJ
  subst eK
  unfold aP.pl61 at hp
  unfold aP.l61
  refine bind_ex (ldI_of (w0.ld (i:=5) rfl rfl)) ?_
  refine bif_ex (fun hb=>?_) (fun hb=>?_)
  ·replace hp:=bif_t hb hp
   refine bind_ex (ldB_of (w0.ld (i:=5) rfl rfl)) ?_
   refine bif_ex (fun hb=>?_) (fun hb=>?_)
   ·replace hp:=bif_t hb hp
    refine bind_ex (ldI_of (w0.ld (i:=5) rfl rfl)) ?_
    refine bind_ex (ldI_of (w0.ld (i:=5) rfl rfl)) ?_
    refine bind_ex (ldSl_of (w0.ld (i:=5) rfl rfl)) ?_
    have f1:=W.borrow1 (eInt .i64) w0 c_
    obtain ⟨w1,s1⟩:=w0.right1
    obtain ⟨r2,e2,hp⟩:=bind_some' hp
    refine call_ex (aC.P rfl ⟨w1,f1⟩ e2) ?_
    rintro _ H3 ⟨rfl,w3,s3,_⟩
    obtain ⟨w4,s4⟩:=W.frame1 w0 w3 s3
    refine bind_ex rfl ?_
    refine ifs_ex (W.cons_of (Rn:=[]) w1 w3 s3) ?_
    refine bind_ex (ldI_of (w4.ld (i:=5) rfl rfl)) ?_
    refine bind_ex (ldI_of (w4.ld (i:=5) rfl rfl)) ?_
    refine bind_ex (ldSl_of (w4.ld (i:=5) rfl rfl)) ?_
    have f6:=W.borrow1 (eInt .i64) w4 (c_.step s4)
    obtain ⟨w6,s6⟩:=w4.right1
    obtain ⟨r7,e7,hp⟩:=bind_some' hp
    refine call_ex (aC.P rfl ⟨w6,f6⟩ e7) ?_
    rintro _ H8 ⟨rfl,w8,s8,_⟩
    obtain ⟨w9,s9⟩:=W.frame1 w4 w8 s8
    refine bind_ex rfl ?_
    obtain ⟨r10,e10,hp⟩:=bind_some' hp
    refine call_ex (dD.P ⟨w9,trivial⟩ e10) ?_
    rintro _ H11 ⟨rfl,w11,s11,_⟩
    refine bind_ex rfl ?_
    obtain ⟨w12,s12⟩:=w11.pick' [0,3,4,5,1,2] 6 rfl rfl rfl
    dsimp only [pk,pks,nth,List.drop] at w12 s12
    obtain ⟨r13,e13,hp⟩:=bind_some' hp
    refine call_ex (dE.P rfl rfl rfl ⟨w12,(c_.step (s4.trans (s9.trans (s11.trans s12)))),(dy.step (s4.trans (s9.trans (s11.trans s12)))),(dz.step (s4.trans (s9.trans (s11.trans s12))))⟩ e13) ?_
    rintro _ H14 ⟨ww,DF,DG,rfl,hl14_0,hl14_1,hl14_2,w14,s14,f14_0,f14_1,f14_2⟩
    obtain ⟨w15,s15⟩:=w14.pick' [0,4,5,1,2,3] 6 rfl rfl rfl
    dsimp only [pk,pks,nth,List.drop] at w15 s15
    exact ih hl14_0 rfl rfl hl14_1 hl14_2 ⟨w15,(s0.trans (s4.trans (s9.trans (s11.trans (s12.trans (s14.trans s15)))))),(f14_0.step s15),(dn.step (s4.trans (s9.trans (s11.trans (s12.trans (s14.trans s15)))))),(dc.step (s4.trans (s9.trans (s11.trans (s12.trans (s14.trans s15)))))),(f14_1.step s15),(f14_2.step s15)⟩ hp
   ·replace hp:=bif_f hb hp
    exact aP.j1_P rfl rfl rfl rfl rfl ⟨w0,s0,c_,dn,dc,dy,dz⟩ hp
  ·replace hp:=bif_f hb hp
   exact aP.j1_P rfl rfl rfl rfl rfl ⟨w0,s0,c_,dn,dc,dy,dz⟩ hp
def aP.pj2 (F:Nat)  (ay:Int) (ak:Int) (aD:List Int) (ap:Int) (aG:List Int) (aq:Int) (ao:Int) (aE:List Int) (au:Int) (av:Int) (aK:List Int) (aw:Int) (aL:List Int) (ax:Bool) (nu:Int):Option (Bool×Bool×List Int×List Int×List Int×List Int×List Int×Bool):=aP.pl61 F F ay ak aD ap aG aq ao aE au av aK aw aL ax nu (IntKind.i64.wrap (nu + 1))
theorem aP.j2_P {F:Nat} {H0:Hp} {Ri R0:List Rs} {ay ak aA ap aq ao au av aH aw:Int} {aR bn aM bo bp:ON} {aF aZ aB a_ ba az:Nat} {aS br aN bs bt:Cap} {bV bW bX bY bZ:Bool} {b_ ca cb cc cd ce cf cg ch ci:List AV}  {aD aG aE aK aL:List Int} {cG cH cI cJ cK:List AV} {ax:Bool} {nu:Int} {H:Hp} (eG:aF = aD.length) (eH:aZ = aG.length) (eI:aB = aE.length) (eJ:a_ = aK.length) (eK:ba = aL.length) (h0:Out H0 Ri H (Rs.ow bV ⟨aR,aF,aS⟩ (eInt .i64).z b_ cG ca :: Rs.ow bW ⟨bn,aZ,br⟩ (eInt .i64).z cb cH cc :: Rs.ow bX ⟨aM,aB,aN⟩ (eInt .i64).z cd cI ce :: Rs.ow bY ⟨bo,a_,bs⟩ (eInt .i64).z cf cJ cg :: Rs.ow bZ ⟨bp,ba,bt⟩ (eInt .i64).z ch cK ci :: Rs.blk az [.int .i64 ay,.int .i64 ak,.sl ⟨aR,aF,aS⟩,.int .i64 aA,.int .i64 ap,.sl ⟨bn,aZ,br⟩,.int .i64 aq,.int .i64 ao,.sl ⟨aM,aB,aN⟩,.int .i64 au,.int .i64 av,.sl ⟨bo,a_,bs⟩,.int .i64 aH,.int .i64 aw,.sl ⟨bp,ba,bt⟩,.bool ax] :: R0) fun R=>CR (eInt .i64) H R cG aD∧CR (eInt .i64) H R cH aG∧CR (eInt .i64) H R cI aE∧CR (eInt .i64) H R cJ aK∧CR (eInt .i64) H R cK aL) {r:Bool×Bool×List Int×List Int×List Int×List Int×List Int×Bool} (hp:aP.pj2 F  ay ak aD ap aG aq ao aE au av aK aw aL ax nu = some r):∃ v H',aP.j2 F (ar.tw F) (aC.tw F) (dD.tw F) (dA.tw F) (dE.tw F) (bj.tw F) (aU.tw F)  az 0 nu H = some (v,H')∧aP.Q H0 Ri R0 ay ak aA ap aq ao au av aH aw aR bn aM bo bp aF aZ aB a_ ba az aS br aN bs bt bV bW bX bY bZ b_ ca cb cc cd ce cf cg ch ci r v H':=by
 obtain ⟨w0,s0,c_,dn,dc,dy,dz⟩:=h0
 subst eG
 subst eH
 subst eI
 subst eJ
 subst eK
 unfold aP.pj2 at hp
 unfold aP.j2
 exact aP.l61_P F rfl rfl rfl rfl rfl ⟨w0,s0,c_,dn,dc,dy,dz⟩ hp
def aP.pl29 (F:Nat) :Nat→Int→Int→List Int→Int→List Int→Int→Int→List Int→Int→Int→List Int→Int→List Int→Bool→Int→Int→Option (Bool×Bool×List Int×List Int×List Int×List Int×List Int×Bool)
 | 0,_,_,_,_,_,_,_,_,_,_,_,_,_,_,_,_=>none
 | k + 1,ay,ak,aD,ap,aG,aq,ao,aE,au,av,aK,aw,aL,ax,gH,iW=>(bif (decide (iW < ay)) then ((bif (!ax) then ((aC.p F ak aD iW gH).bind fun r2=>(aC.p F ak aD gH gH).bind fun r7=>(dD.p F r2 r7).bind fun r10=>(dA.p F ak aD ap aG aq ao aE ax iW gH r10).bind fun r13=>aP.pl29 F k ay ak r13.1 ap r13.2.1 aq ao r13.2.2.1 au av aK aw aL r13.2.2.2 gH (IntKind.i64.wrap (iW + 1))) else (aP.pj2 F ay ak aD ap aG aq ao aE au av aK aw aL ax gH))) else (aP.pj2 F ay ak aD ap aG aq ao aE au av aK aw aL ax gH))
termination_by structural n=>n
theorem aP.l29_P {F:Nat} {H0:Hp} {Ri R0:List Rs} {ay ak aA ap aq ao au av aH aw:Int} {aR bn aM bo bp:ON} {aF aZ aB a_ ba az:Nat} {aS br aN bs bt:Cap} {bV bW bX bY bZ:Bool} {b_ ca cb cc cd ce cf cg ch ci:List AV} :∀ k,aP.S29 H0 Ri R0 ay ak aA ap aq ao au av aH aw aR bn aM bo bp aF aZ aB a_ ba az aS br aN bs bt bV bW bX bY bZ b_ ca cb cc cd ce cf cg ch ci (aP.l29 F (ar.tw F) (aC.tw F) (dD.tw F) (dA.tw F) (dE.tw F) (bj.tw F) (aU.tw F)  k) (aP.pl29 F  k):=by
 intro k
 induction k with
 | zero=>
  intro aD aG aE aK aL cG cH cI cJ cK ax gH iW H eG eH eI eJ eK h0 r hp
  exact nomatch (show (none:Option (Bool×Bool×List Int×List Int×List Int×List Int×List Int×Bool)) = some r from hp)
 | succ k ih=>
  intro aD aG aE aK aL cG cH cI cJ cK ax gH iW H eG eH eI eJ eK h0 r hp
  obtain ⟨w0,s0,c_,dn,dc,dy,dz⟩:=h0
  subst eG
  subst eH
  subst eI
  subst eJ
  subst eK
  unfold aP.pl29 at hp
  unfold aP.l29
  refine bind_ex (ldI_of (w0.ld (i:=5) rfl rfl)) ?_
  refine bif_ex (fun hb=>?_) (fun hb=>?_)
  ·replace hp:=bif_t hb hp
   refine bind_ex (ldB_of (w0.ld (i:=5) rfl rfl)) ?_
   refine bif_ex (fun hb=>?_) (fun hb=>?_)
   ·replace hp:=bif_t hb hp
    refine bind_ex (ldI_of (w0.ld (i:=5) rfl rfl)) ?_
    refine bind_ex (ldI_of (w0.ld (i:=5) rfl rfl)) ?_
    refine bind_ex (ldSl_of (w0.ld (i:=5) rfl rfl)) ?_
    have f1:=W.borrow1 (eInt .i64) w0 c_
    obtain ⟨w1,s1⟩:=w0.right1
    obtain ⟨r2,e2,hp⟩:=bind_some' hp
    refine call_ex (aC.P rfl ⟨w1,f1⟩ e2) ?_
    rintro _ H3 ⟨rfl,w3,s3,_⟩
    obtain ⟨w4,s4⟩:=W.frame1 w0 w3 s3
    refine bind_ex rfl ?_
    refine ifs_ex (W.cons_of (Rn:=[]) w1 w3 s3) ?_
    refine bind_ex (ldI_of (w4.ld (i:=5) rfl rfl)) ?_
    refine bind_ex (ldI_of (w4.ld (i:=5) rfl rfl)) ?_
    refine bind_ex (ldSl_of (w4.ld (i:=5) rfl rfl)) ?_
    have f6:=W.borrow1 (eInt .i64) w4 (c_.step s4)
    obtain ⟨w6,s6⟩:=w4.right1
    obtain ⟨r7,e7,hp⟩:=bind_some' hp
    refine call_ex (aC.P rfl ⟨w6,f6⟩ e7) ?_
    rintro _ H8 ⟨rfl,w8,s8,_⟩
    obtain ⟨w9,s9⟩:=W.frame1 w4 w8 s8
    refine bind_ex rfl ?_
    obtain ⟨r10,e10,hp⟩:=bind_some' hp
    refine call_ex (dD.P ⟨w9,trivial⟩ e10) ?_
    rintro _ H11 ⟨rfl,w11,s11,_⟩
    refine bind_ex rfl ?_
    obtain ⟨w12,s12⟩:=w11.pick' [0,1,2,5,3,4] 6 rfl rfl rfl
    dsimp only [pk,pks,nth,List.drop] at w12 s12
    obtain ⟨r13,e13,hp⟩:=bind_some' hp
    refine call_ex (dA.P rfl rfl rfl ⟨w12,(c_.step (s4.trans (s9.trans (s11.trans s12)))),(dn.step (s4.trans (s9.trans (s11.trans s12)))),(dc.step (s4.trans (s9.trans (s11.trans s12))))⟩ e13) ?_
    rintro _ H14 ⟨ww,Bg,Bh,rfl,hl14_0,hl14_1,hl14_2,w14,s14,f14_0,f14_1,f14_2⟩
    obtain ⟨w15,s15⟩:=w14.pick' [0,1,2,4,5,3] 6 rfl rfl rfl
    dsimp only [pk,pks,nth,List.drop] at w15 s15
    exact ih hl14_0 hl14_1 hl14_2 rfl rfl ⟨w15,(s0.trans (s4.trans (s9.trans (s11.trans (s12.trans (s14.trans s15)))))),(f14_0.step s15),(f14_1.step s15),(f14_2.step s15),(dy.step (s4.trans (s9.trans (s11.trans (s12.trans (s14.trans s15)))))),(dz.step (s4.trans (s9.trans (s11.trans (s12.trans (s14.trans s15))))))⟩ hp
   ·replace hp:=bif_f hb hp
    exact aP.j2_P rfl rfl rfl rfl rfl ⟨w0,s0,c_,dn,dc,dy,dz⟩ hp
  ·replace hp:=bif_f hb hp
   exact aP.j2_P rfl rfl rfl rfl rfl ⟨w0,s0,c_,dn,dc,dy,dz⟩ hp
def aP.p (F:Nat) (bk:Int) (aX:Int) (dI:List Int) (bc:Int) (fE:List Int) (aY:Int) (aT:Int) (dk:List Int) (bf:Int) (bg:Int) (fF:List Int) (bh:Int) (fG:List Int) (ax:Bool) (ae:Int):Option (Bool×Bool×List Int×List Int×List Int×List Int×List Int×Bool):=(ar.p F bk aX dI bc fE aY aT dk bf bg fF bh fG ae).bind fun r1=>(bif (!r1.1) then (some (true,true,r1.2.1,r1.2.2.1,r1.2.2.2.1,r1.2.2.2.2.1,r1.2.2.2.2.2,ax)) else (aP.pl29 F F bk aX r1.2.1 bc r1.2.2.1 aY aT r1.2.2.2.1 bf bg r1.2.2.2.2.1 bh r1.2.2.2.2.2 ax ae (IntKind.i64.wrap (ae + 1))))
theorem aP.P {F:Nat} {bk aX bl bc aY aT bf bg bw bh ae:Int} {cX em cv en eo:ON} {bN dh bC di dj aa:Nat} {cY ep cw es et:Cap} {dI fE dk fF fG:List Int} {fi fM fj fN fO ax:Bool} {fk fl gy fP fQ gX fm fo gz fR fS gY fT fU gZ:List AV} {H:Hp} {R0:List Rs} (jY:bN = dI.length) (lf:dh = fE.length) (jo:bC = dk.length) (lg:di = fF.length) (li:dj = fG.length) (h0:Inn H (Rs.ow fi ⟨cX,bN,cY⟩ (eInt .i64).z fk gy fl :: Rs.ow fM ⟨em,dh,ep⟩ (eInt .i64).z fP gX fQ :: Rs.ow fj ⟨cv,bC,cw⟩ (eInt .i64).z fm gz fo :: Rs.ow fN ⟨en,di,es⟩ (eInt .i64).z fR gY fS :: Rs.ow fO ⟨eo,dj,et⟩ (eInt .i64).z fT gZ fU :: Rs.blk aa [.int .i64 bk,.int .i64 aX,.sl ⟨cX,bN,cY⟩,.int .i64 bl,.int .i64 bc,.sl ⟨em,dh,ep⟩,.int .i64 aY,.int .i64 aT,.sl ⟨cv,bC,cw⟩,.int .i64 bf,.int .i64 bg,.sl ⟨en,di,es⟩,.int .i64 bw,.int .i64 bh,.sl ⟨eo,dj,et⟩,.bool ax] :: R0) fun R=>CR (eInt .i64) H R gy dI∧CR (eInt .i64) H R gX fE∧CR (eInt .i64) H R gz dk∧CR (eInt .i64) H R gY fF∧CR (eInt .i64) H R gZ fG) {r:Bool×Bool×List Int×List Int×List Int×List Int×List Int×Bool} (hp:aP.p F bk aX dI bc fE aY aT dk bf bg fF bh fG ax ae = some r):∃ v H',aP.tw F aa 0 ae H = some (v,H')∧aP.Q H (Rs.ow fi ⟨cX,bN,cY⟩ (eInt .i64).z fk gy fl :: Rs.ow fM ⟨em,dh,ep⟩ (eInt .i64).z fP gX fQ :: Rs.ow fj ⟨cv,bC,cw⟩ (eInt .i64).z fm gz fo :: Rs.ow fN ⟨en,di,es⟩ (eInt .i64).z fR gY fS :: Rs.ow fO ⟨eo,dj,et⟩ (eInt .i64).z fT gZ fU :: Rs.blk aa [.int .i64 bk,.int .i64 aX,.sl ⟨cX,bN,cY⟩,.int .i64 bl,.int .i64 bc,.sl ⟨em,dh,ep⟩,.int .i64 aY,.int .i64 aT,.sl ⟨cv,bC,cw⟩,.int .i64 bf,.int .i64 bg,.sl ⟨en,di,es⟩,.int .i64 bw,.int .i64 bh,.sl ⟨eo,dj,et⟩,.bool ax] :: R0) R0 bk aX bl bc aY aT bf bg bw bh cX em cv en eo bN dh bC di dj aa cY ep cw es et fi fM fj fN fO fk fl fP fQ fm fo fR fS fT fU r v H':=by
 obtain ⟨w0,jj,kN,il,kO,kP⟩:=h0
 subst jY
 subst lf
 subst jo
 subst lg
 subst li
 unfold aP.p at hp
 unfold aP.tw aP.twX
 have s0:=w0.rf
 obtain ⟨r1,e1,hp⟩:=bind_some' hp
 refine call_ex (ar.P rfl rfl rfl rfl rfl ⟨w0,jj,kN,il,kO,kP⟩ e1) ?_
 rintro _ H2 ⟨Bi,Bj,Bk,Bl,Bm,rfl,hl2_0,hl2_1,hl2_2,hl2_3,hl2_4,w2,s2,f2_0,f2_1,f2_2,f2_3,f2_4⟩
 refine bind_ex rfl ?_
 refine bif_ex (fun hb=>?_) (fun hb=>?_)
 ·replace hp:=bif_t hb hp
  obtain rfl:=Option.some.inj hp
  exact ⟨_,_,rfl,_,_,_,_,_,rfl,hl2_0,hl2_1,hl2_2,hl2_3,hl2_4,w2,(s0.trans s2),f2_0,f2_1,f2_2,f2_3,f2_4⟩
 ·replace hp:=bif_f hb hp
  exact aP.l29_P F hl2_0 hl2_1 hl2_2 hl2_3 hl2_4 ⟨w2,(s0.trans s2),f2_0,f2_1,f2_2,f2_3,f2_4⟩ hp
def aQ.Q (H0:Hp) (Ri R0:List Rs)  (r:Int×Int×List Int×Int×Int×List Int×Int×Int×List Int×Int×Int×List Int×Int×Int×List Int×Bool) (v:AV) (H':Hp):Prop:=∃ o2a:ON,∃ o2n:Nat,∃ o2c:Cap,∃ o2k:List AV,∃ o5a:ON,∃ o5n:Nat,∃ o5c:Cap,∃ o5k:List AV,∃ o8a:ON,∃ o8n:Nat,∃ o8c:Cap,∃ o8k:List AV,∃ o11a:ON,∃ o11n:Nat,∃ o11c:Cap,∃ o11k:List AV,∃ o14a:ON,∃ o14n:Nat,∃ o14c:Cap,∃ o14k:List AV,∃ ob0:Nat,v = (.ptr ob0 0)∧o2n = (r.2.2.1).length∧o5n = (r.2.2.2.2.2.1).length∧o8n = (r.2.2.2.2.2.2.2.2.1).length∧o11n = (r.2.2.2.2.2.2.2.2.2.2.2.1).length∧o14n = (r.2.2.2.2.2.2.2.2.2.2.2.2.2.2.1).length∧Out H0 Ri H' (Rs.own ⟨o2a,o2n,o2c⟩ (eInt .i64).z o2k :: Rs.own ⟨o5a,o5n,o5c⟩ (eInt .i64).z o5k :: Rs.own ⟨o8a,o8n,o8c⟩ (eInt .i64).z o8k :: Rs.own ⟨o11a,o11n,o11c⟩ (eInt .i64).z o11k :: Rs.own ⟨o14a,o14n,o14c⟩ (eInt .i64).z o14k :: Rs.blk ob0 [.int .i64 r.1,.int .i64 r.2.1,.sl ⟨o2a,o2n,o2c⟩,.int .i64 r.2.2.2.1,.int .i64 r.2.2.2.2.1,.sl ⟨o5a,o5n,o5c⟩,.int .i64 r.2.2.2.2.2.2.1,.int .i64 r.2.2.2.2.2.2.2.1,.sl ⟨o8a,o8n,o8c⟩,.int .i64 r.2.2.2.2.2.2.2.2.2.1,.int .i64 r.2.2.2.2.2.2.2.2.2.2.1,.sl ⟨o11a,o11n,o11c⟩,.int .i64 r.2.2.2.2.2.2.2.2.2.2.2.2.1,.int .i64 r.2.2.2.2.2.2.2.2.2.2.2.2.2.1,.sl ⟨o14a,o14n,o14c⟩,.bool r.2.2.2.2.2.2.2.2.2.2.2.2.2.2.2] :: R0) fun R=>CR (eInt .i64) H' R o2k (r.2.2.1)∧CR (eInt .i64) H' R o5k (r.2.2.2.2.2.1)∧CR (eInt .i64) H' R o8k (r.2.2.2.2.2.2.2.2.1)∧CR (eInt .i64) H' R o11k (r.2.2.2.2.2.2.2.2.2.2.2.1)∧CR (eInt .i64) H' R o14k (r.2.2.2.2.2.2.2.2.2.2.2.2.2.2.1)
def aQ.S29 (H0:Hp) (Ri R0:List Rs)  (C:Nat→Nat→Nat→Nat→Int→Hp→OA) (pC:Int→Int→Int→Int→List Int→Int→Int→List Int→Int→Int→List Int→Int→Int→List Int→Int→Int→List Int→Bool→Int→Option (Int×Int×List Int×Int×Int×List Int×Int×Int×List Int×Int×Int×List Int×Int×Int×List Int×Bool)):Prop:=∀ {ny nz n_ oa ob oc od oe og oh oi oj kh:Int} {rG rH rI rJ rK rL:ON} {qd jM qe qf qg qh qi kB:Nat} {rM rN rO rP rQ rR:Cap} {rS nA nB nC nD nE:List Int} {rT rU rV rW rX:List AV} {ol:Bool},∀ {H:Hp},qd = rS.length→qe = nA.length→qf = nB.length→qg = nC.length→qh = nD.length→qi = nE.length→(Out H0 Ri H (Rs.blk jM [.int .i64 ny,.int .i64 nz,.sl ⟨rG,qd,rM⟩] :: Rs.own ⟨rH,qe,rN⟩ (eInt .i64).z rT :: Rs.own ⟨rI,qf,rO⟩ (eInt .i64).z rU :: Rs.own ⟨rJ,qg,rP⟩ (eInt .i64).z rV :: Rs.own ⟨rK,qh,rQ⟩ (eInt .i64).z rW :: Rs.own ⟨rL,qi,rR⟩ (eInt .i64).z rX :: Rs.blk kB [.int .i64 n_,.int .i64 oa,.sl ⟨rH,qe,rN⟩,.int .i64 ob,.int .i64 oc,.sl ⟨rI,qf,rO⟩,.int .i64 od,.int .i64 oe,.sl ⟨rJ,qg,rP⟩,.int .i64 og,.int .i64 oh,.sl ⟨rK,qh,rQ⟩,.int .i64 oi,.int .i64 oj,.sl ⟨rL,qi,rR⟩,.bool ol] :: R0) fun R=>ROs (eInt .i64) H R ⟨rG,qd,rM⟩ rS∧CR (eInt .i64) H R rT nA∧CR (eInt .i64) H R rU nB∧CR (eInt .i64) H R rV nC∧CR (eInt .i64) H R rW nD∧CR (eInt .i64) H R rX nE)→∀ {r:Int×Int×List Int×Int×Int×List Int×Int×Int×List Int×Int×Int×List Int×Int×Int×List Int×Bool},pC ny nz n_ oa nA ob oc nB od oe nC og oh nD oi oj nE ol kh = some r→∃ v H',C jM 0 kB 0 kh H = some (v,H')∧aQ.Q H0 Ri R0  r v H'
def aQ.S938 (H0:Hp) (Ri R0:List Rs)  (C:Nat→Nat→Nat→Nat→Int→Bool→Bool→Hp→OA) (pC:Int→Int→Int→Int→List Int→Int→Int→List Int→Int→Int→List Int→Int→Int→List Int→Int→Int→List Int→Bool→Int→Bool→Bool→Option (Int×Int×List Int×Int×Int×List Int×Int×Int×List Int×Int×Int×List Int×Int×Int×List Int×Bool)):Prop:=∀ {nF nG mS mT nH mU mV mW mX mY nI mZ ib:Int} {rY rZ r_ sa sb se:ON} {qj jk qk ql qm qn qo jl:Nat} {sf sg sh si sj sk:Cap} {sm m_ na nb nc nd:List Int} {sn sp sq ss su:List AV} {ne ko kg:Bool},∀ {H:Hp},qj = sm.length→qk = m_.length→ql = na.length→qm = nb.length→qn = nc.length→qo = nd.length→(Out H0 Ri H (Rs.blk jk [.int .i64 nF,.int .i64 nG,.sl ⟨rY,qj,sf⟩] :: Rs.own ⟨rZ,qk,sg⟩ (eInt .i64).z sn :: Rs.own ⟨r_,ql,sh⟩ (eInt .i64).z sp :: Rs.own ⟨sa,qm,si⟩ (eInt .i64).z sq :: Rs.own ⟨sb,qn,sj⟩ (eInt .i64).z ss :: Rs.own ⟨se,qo,sk⟩ (eInt .i64).z su :: Rs.blk jl [.int .i64 mS,.int .i64 mT,.sl ⟨rZ,qk,sg⟩,.int .i64 nH,.int .i64 mU,.sl ⟨r_,ql,sh⟩,.int .i64 mV,.int .i64 mW,.sl ⟨sa,qm,si⟩,.int .i64 mX,.int .i64 mY,.sl ⟨sb,qn,sj⟩,.int .i64 nI,.int .i64 mZ,.sl ⟨se,qo,sk⟩,.bool ne] :: R0) fun R=>ROs (eInt .i64) H R ⟨rY,qj,sf⟩ sm∧CR (eInt .i64) H R sn m_∧CR (eInt .i64) H R sp na∧CR (eInt .i64) H R sq nb∧CR (eInt .i64) H R ss nc∧CR (eInt .i64) H R su nd)→∀ {r:Int×Int×List Int×Int×Int×List Int×Int×Int×List Int×Int×Int×List Int×Int×Int×List Int×Bool},pC nF nG mS mT m_ nH mU na mV mW nb mX mY nc nI mZ nd ne ib ko kg = some r→∃ v H',C jk 0 jl 0 ib ko kg H = some (v,H')∧aQ.Q H0 Ri R0  r v H'
def aQ.pj3 (F:Nat) (eD:Int→Int→Int→Int→List Int→Int→Int→List Int→Int→Int→List Int→Int→Int→List Int→Int→Int→List Int→Bool→Int→Option (Int×Int×List Int×Int×Int×List Int×Int×Int×List Int×Int×Int×List Int×Int×Int×List Int×Bool)) (sv:Int) (sx:Int) (sy:Int) (sz:Int) (qp:List Int) (sA:Int) (sB:Int) (qq:List Int) (sC:Int) (sD:Int) (qr:List Int) (sE:Int) (sF:Int) (qs:List Int) (sG:Int) (sH:Int) (qt:List Int) (sI:Bool) (oV:Int):Option (Int×Int×List Int×Int×Int×List Int×Int×Int×List Int×Int×Int×List Int×Int×Int×List Int×Bool):=eD sv sx sy sz qp sA sB qq sC sD qr sE sF qs sG sH qt sI (IntKind.i64.wrap (oV + 1))
theorem aQ.j3_P {F:Nat} {H0:Hp} {Ri R0:List Rs}  {C29_:Nat→Nat→Nat→Nat→Int→Hp→OA} {eD:Int→Int→Int→Int→List Int→Int→Int→List Int→Int→Int→List Int→Int→Int→List Int→Int→Int→List Int→Bool→Int→Option (Int×Int×List Int×Int×Int×List Int×Int×Int×List Int×Int×Int×List Int×Int×Int×List Int×Bool)} (hC29:aQ.S29 H0 Ri R0  C29_ eD) {sv sx sy sz sA sB sC sD sE sF sG sH oV:Int} {wx wy wz wA wB wC:ON} {uI ro uJ uK uL uM uN rp:Nat} {wD wE wF wG wH wI:Cap} {wJ qp qq qr qs qt:List Int} {wK wL wM wN wO:List AV} {sI:Bool} {H:Hp} (Bn:uI = wJ.length) (Bo:uJ = qp.length) (Bp:uK = qq.length) (Bq:uL = qr.length) (Br:uM = qs.length) (Bs:uN = qt.length) (h0:Out H0 Ri H (Rs.blk ro [.int .i64 sv,.int .i64 sx,.sl ⟨wx,uI,wD⟩] :: Rs.own ⟨wy,uJ,wE⟩ (eInt .i64).z wK :: Rs.own ⟨wz,uK,wF⟩ (eInt .i64).z wL :: Rs.own ⟨wA,uL,wG⟩ (eInt .i64).z wM :: Rs.own ⟨wB,uM,wH⟩ (eInt .i64).z wN :: Rs.own ⟨wC,uN,wI⟩ (eInt .i64).z wO :: Rs.blk rp [.int .i64 sy,.int .i64 sz,.sl ⟨wy,uJ,wE⟩,.int .i64 sA,.int .i64 sB,.sl ⟨wz,uK,wF⟩,.int .i64 sC,.int .i64 sD,.sl ⟨wA,uL,wG⟩,.int .i64 sE,.int .i64 sF,.sl ⟨wB,uM,wH⟩,.int .i64 sG,.int .i64 sH,.sl ⟨wC,uN,wI⟩,.bool sI] :: R0) fun R=>ROs (eInt .i64) H R ⟨wx,uI,wD⟩ wJ∧CR (eInt .i64) H R wK qp∧CR (eInt .i64) H R wL qq∧CR (eInt .i64) H R wM qr∧CR (eInt .i64) H R wN qs∧CR (eInt .i64) H R wO qt) {r:Int×Int×List Int×Int×Int×List Int×Int×Int×List Int×Int×Int×List Int×Int×Int×List Int×Bool} (hp:aQ.pj3 F eD sv sx sy sz qp sA sB qq sC sD qr sE sF qs sG sH qt sI oV = some r):∃ v H',aQ.j3 F (bO.tw F) (aP.tw F) C29_ ro 0 rp 0 oV H = some (v,H')∧aQ.Q H0 Ri R0  r v H':=by
 obtain ⟨w0,s0,Bt,Bu,Bv,Bw,Bx,By⟩:=h0
 subst Bn
 subst Bo
 subst Bp
 subst Bq
 subst Br
 subst Bs
 unfold aQ.pj3 at hp
 unfold aQ.j3
 exact hC29 rfl rfl rfl rfl rfl rfl ⟨w0,s0,Bt,Bu,Bv,Bw,Bx,By⟩ hp
def aQ.pj4 (F:Nat) (eD:Int→Int→Int→Int→List Int→Int→Int→List Int→Int→Int→List Int→Int→Int→List Int→Int→Int→List Int→Bool→Int→Option (Int×Int×List Int×Int×Int×List Int×Int×Int×List Int×Int×Int×List Int×Int×Int×List Int×Bool)) (sJ:Int) (sK:Int) (pI:Int) (pJ:Int) (om:List Int) (pK:Int) (pL:Int) (oo:List Int) (pM:Int) (pN:Int) (oq:List Int) (pO:Int) (pP:Int) (ot:List Int) (pQ:Int) (pR:Int) (ou:List Int) (ov:Bool) (nv:Int) (oW:Bool):Option (Int×Int×List Int×Int×Int×List Int×Int×Int×List Int×Int×Int×List Int×Int×Int×List Int×Bool):=(bif oW then (some (pI,pJ,om,pK,pL,oo,pM,pN,oq,pO,pP,ot,pQ,pR,ou,ov)) else ((bif ov then (some (pI,pJ,om,pK,pL,oo,pM,pN,oq,pO,pP,ot,pQ,pR,ou,ov)) else (aQ.pj3 F eD sJ sK pI pJ om pK pL oo pM pN oq pO pP ot pQ pR ou ov nv))))
theorem aQ.j4_P {F:Nat} {H0:Hp} {Ri R0:List Rs}  {C29_:Nat→Nat→Nat→Nat→Int→Hp→OA} {eD:Int→Int→Int→Int→List Int→Int→Int→List Int→Int→Int→List Int→Int→Int→List Int→Int→Int→List Int→Bool→Int→Option (Int×Int×List Int×Int×Int×List Int×Int×Int×List Int×Int×Int×List Int×Int×Int×List Int×Bool)} (hC29:aQ.S29 H0 Ri R0  C29_ eD) {sJ sK pI pJ pK pL pM pN pO pP pQ pR nv:Int} {wP wQ wR wS wT wU:ON} {uO rq uP uQ uR uS uT nU:Nat} {wV wW wX wY wZ w_:Cap} {xa om oo oq ot ou:List Int} {xb xc xd xe xf:List AV} {ov oW:Bool} {H:Hp} (Bz:uO = xa.length) (BA:uP = om.length) (BB:uQ = oo.length) (BC:uR = oq.length) (BD:uS = ot.length) (BE:uT = ou.length) (h0:Out H0 Ri H (Rs.blk rq [.int .i64 sJ,.int .i64 sK,.sl ⟨wP,uO,wV⟩] :: Rs.own ⟨wQ,uP,wW⟩ (eInt .i64).z xb :: Rs.own ⟨wR,uQ,wX⟩ (eInt .i64).z xc :: Rs.own ⟨wS,uR,wY⟩ (eInt .i64).z xd :: Rs.own ⟨wT,uS,wZ⟩ (eInt .i64).z xe :: Rs.own ⟨wU,uT,w_⟩ (eInt .i64).z xf :: Rs.blk nU [.int .i64 pI,.int .i64 pJ,.sl ⟨wQ,uP,wW⟩,.int .i64 pK,.int .i64 pL,.sl ⟨wR,uQ,wX⟩,.int .i64 pM,.int .i64 pN,.sl ⟨wS,uR,wY⟩,.int .i64 pO,.int .i64 pP,.sl ⟨wT,uS,wZ⟩,.int .i64 pQ,.int .i64 pR,.sl ⟨wU,uT,w_⟩,.bool ov] :: R0) fun R=>ROs (eInt .i64) H R ⟨wP,uO,wV⟩ xa∧CR (eInt .i64) H R xb om∧CR (eInt .i64) H R xc oo∧CR (eInt .i64) H R xd oq∧CR (eInt .i64) H R xe ot∧CR (eInt .i64) H R xf ou) {r:Int×Int×List Int×Int×Int×List Int×Int×Int×List Int×Int×Int×List Int×Int×Int×List Int×Bool} (hp:aQ.pj4 F eD sJ sK pI pJ om pK pL oo pM pN oq pO pP ot pQ pR ou ov nv oW = some r):∃ v H',aQ.j4 F (bO.tw F) (aP.tw F) C29_ rq 0 nU 0 nv oW H = some (v,H')∧aQ.Q H0 Ri R0  r v H':=by
 obtain ⟨w0,s0,BF,uU,uV,uW,uX,uY⟩:=h0
 subst Bz
 subst BA
 subst BB
 subst BC
 subst BD
 subst BE
 unfold aQ.pj4 at hp
 unfold aQ.j4
 refine bif_ex (fun hb=>?_) (fun hb=>?_)
 ·replace hp:=bif_t hb hp
  obtain ⟨w1,s1⟩:=w0.pick' [1,2,3,4,5,6] 7 rfl rfl rfl
  dsimp only [pk,pks,nth,List.drop] at w1 s1
  obtain rfl:=Option.some.inj hp
  exact ⟨_,_,rfl,_,_,_,_,_,_,_,_,_,_,_,_,_,_,_,_,_,_,_,_,_,rfl,rfl,rfl,rfl,rfl,rfl,w1,(s0.trans s1),(uU.step s1),(uV.step s1),(uW.step s1),(uX.step s1),(uY.step s1)⟩
 ·replace hp:=bif_f hb hp
  refine bind_ex (ldB_of (w0.ld (i:=6) rfl rfl)) ?_
  refine bif_ex (fun hb=>?_) (fun hb=>?_)
  ·replace hp:=bif_t hb hp
   obtain ⟨w2,s2⟩:=w0.pick' [1,2,3,4,5,6] 7 rfl rfl rfl
   dsimp only [pk,pks,nth,List.drop] at w2 s2
   obtain rfl:=Option.some.inj hp
   exact ⟨_,_,rfl,_,_,_,_,_,_,_,_,_,_,_,_,_,_,_,_,_,_,_,_,_,rfl,rfl,rfl,rfl,rfl,rfl,w2,(s0.trans s2),(uU.step s2),(uV.step s2),(uW.step s2),(uX.step s2),(uY.step s2)⟩
  ·replace hp:=bif_f hb hp
   exact aQ.j3_P (@hC29) rfl rfl rfl rfl rfl rfl ⟨w0,s0,BF,uU,uV,uW,uX,uY⟩ hp
def aQ.pl938 (F:Nat) (eD:Int→Int→Int→Int→List Int→Int→Int→List Int→Int→Int→List Int→Int→Int→List Int→Int→Int→List Int→Bool→Int→Option (Int×Int×List Int×Int×Int×List Int×Int×Int×List Int×Int×Int×List Int×Int×Int×List Int×Bool)):Nat→Int→Int→Int→Int→List Int→Int→Int→List Int→Int→Int→List Int→Int→Int→List Int→Int→Int→List Int→Bool→Int→Bool→Bool→Option (Int×Int×List Int×Int×Int×List Int×Int×Int×List Int×Int×Int×List Int×Int×Int×List Int×Bool)
 | 0,_,_,_,_,_,_,_,_,_,_,_,_,_,_,_,_,_,_,_,_,_=>none
 | k + 1,nF,nG,mS,mT,m_,nH,mU,na,mV,mW,nb,mX,mY,nc,nI,mZ,nd,ne,ib,ko,kg=>(bif (!ko) then ((bif (!ne) then ((aP.p F mS mT m_ mU na mV mW nb mX mY nc mZ nd ne ib).bind fun r2=>aQ.pl938 F eD k nF nG mS mT r2.2.2.1 nH mU r2.2.2.2.1 mV mW r2.2.2.2.2.1 mX mY r2.2.2.2.2.2.1 nI mZ r2.2.2.2.2.2.2.1 r2.2.2.2.2.2.2.2 ib r2.1 r2.2.1) else (aQ.pj4 F eD nF nG mS mT m_ nH mU na mV mW nb mX mY nc nI mZ nd ne ib kg))) else (aQ.pj4 F eD nF nG mS mT m_ nH mU na mV mW nb mX mY nc nI mZ nd ne ib kg))
termination_by structural n=>n
theorem aQ.l938_P {F:Nat} {H0:Hp} {Ri R0:List Rs}  {C29_:Nat→Nat→Nat→Nat→Int→Hp→OA} {eD:Int→Int→Int→Int→List Int→Int→Int→List Int→Int→Int→List Int→Int→Int→List Int→Int→Int→List Int→Bool→Int→Option (Int×Int×List Int×Int×Int×List Int×Int×Int×List Int×Int×Int×List Int×Int×Int×List Int×Bool)} (hC29:aQ.S29 H0 Ri R0  C29_ eD):∀ k,aQ.S938 H0 Ri R0  (aQ.l938 F (bO.tw F) (aP.tw F) C29_ k) (aQ.pl938 F eD k):=by
 intro k
 induction k with
 | zero=>
  intro nF nG mS mT nH mU mV mW mX mY nI mZ ib rY rZ r_ sa sb se qj jk qk ql qm qn qo jl sf sg sh si sj sk sm m_ na nb nc nd sn sp sq ss su ne ko kg H xh xi xj xk xm xn h0 r hp
  exact nomatch (show (none:Option (Int×Int×List Int×Int×Int×List Int×Int×Int×List Int×Int×Int×List Int×Int×Int×List Int×Bool)) = some r from hp)
 | succ k ih=>
  intro nF nG mS mT nH mU mV mW mX mY nI mZ ib rY rZ r_ sa sb se qj jk qk ql qm qn qo jl sf sg sh si sj sk sm m_ na nb nc nd sn sp sq ss su ne ko kg H xh xi xj xk xm xn h0 r hp
  obtain ⟨w0,s0,uZ,u_,va,vb,vc,vd⟩:=h0
  subst xh
  subst xi
  subst xj
  subst xk
  subst xm
  subst xn
  unfold aQ.pl938 at hp
  unfold aQ.l938
  refine bif_ex (fun hb=>?_) (fun hb=>?_)
  ·replace hp:=bif_t hb hp
   refine bind_ex (ldB_of (w0.ld (i:=6) rfl rfl)) ?_
   refine bif_ex (fun hb=>?_) (fun hb=>?_)
   ·replace hp:=bif_t hb hp
    obtain ⟨w1,s1⟩:=w0.pick' [1,2,3,4,5,6,0] 7 rfl rfl rfl
    dsimp only [pk,pks,nth,List.drop] at w1 s1
    obtain ⟨r2,e2,hp⟩:=bind_some' hp
    refine call_ex (aP.P rfl rfl rfl rfl rfl ⟨w1,(u_.step s1),(va.step s1),(vb.step s1),(vc.step s1),(vd.step s1)⟩ e2) ?_
    rintro _ H3 ⟨DH,DI,DJ,DK,DL,rfl,hl3_0,hl3_1,hl3_2,hl3_3,hl3_4,w3,s3,f3_0,f3_1,f3_2,f3_3,f3_4⟩
    refine bind_ex rfl ?_
    refine bind_ex rfl ?_
    refine bind_ex rfl ?_
    refine bind_ex rfl ?_
    refine bind_ex rfl ?_
    obtain ⟨w4,s4⟩:=w3.pick' [6,0,1,2,3,4,5] 7 rfl rfl rfl
    dsimp only [pk,pks,nth,List.drop] at w4 s4
    exact ih rfl hl3_0 hl3_1 hl3_2 hl3_3 hl3_4 ⟨w4,(s0.trans (s1.trans (s3.trans s4))),(uZ.step (s1.trans (s3.trans s4))),(f3_0.step s4),(f3_1.step s4),(f3_2.step s4),(f3_3.step s4),(f3_4.step s4)⟩ hp
   ·replace hp:=bif_f hb hp
    exact aQ.j4_P (@hC29) rfl rfl rfl rfl rfl rfl ⟨w0,s0,uZ,u_,va,vb,vc,vd⟩ hp
  ·replace hp:=bif_f hb hp
   exact aQ.j4_P (@hC29) rfl rfl rfl rfl rfl rfl ⟨w0,s0,uZ,u_,va,vb,vc,vd⟩ hp
def aQ.pl29 (F:Nat) :Nat→Int→Int→Int→Int→List Int→Int→Int→List Int→Int→Int→List Int→Int→Int→List Int→Int→Int→List Int→Bool→Int→Option (Int×Int×List Int×Int×Int×List Int×Int×Int×List Int×Int×Int×List Int×Int×Int×List Int×Bool)
 | 0,_,_,_,_,_,_,_,_,_,_,_,_,_,_,_,_,_,_,_=>none
 | k + 1,ny,nz,n_,oa,nA,ob,oc,nB,od,oe,nC,og,oh,nD,oi,oj,nE,ol,kh=>(bif (decide (kh < (if nz < ny then nz else ny))) then (aQ.pl938 F (aQ.pl29 F k) F ny nz n_ oa nA ob oc nB od oe nC og oh nD oi oj nE ol kh false false) else (some (n_,oa,nA,ob,oc,nB,od,oe,nC,og,oh,nD,oi,oj,nE,ol)))
termination_by structural n=>n
theorem aQ.l29_P {F:Nat} {H0:Hp} {Ri R0:List Rs}  :∀ k,aQ.S29 H0 Ri R0  (aQ.l29 F (bO.tw F) (aP.tw F)  k) (aQ.pl29 F  k):=by
 intro k
 induction k with
 | zero=>
  intro ny nz n_ oa ob oc od oe og oh oi oj kh rG rH rI rJ rK rL qd jM qe qf qg qh qi kB rM rN rO rP rQ rR rS nA nB nC nD nE rT rU rV rW rX ol H xo xp xq xr xt xu h0 r hp
  exact nomatch (show (none:Option (Int×Int×List Int×Int×Int×List Int×Int×Int×List Int×Int×Int×List Int×Int×Int×List Int×Bool)) = some r from hp)
 | succ k ih=>
  intro ny nz n_ oa ob oc od oe og oh oi oj kh rG rH rI rJ rK rL qd jM qe qf qg qh qi kB rM rN rO rP rQ rR rS nA nB nC nD nE rT rU rV rW rX ol H xo xp xq xr xt xu h0 r hp
  obtain ⟨w0,s0,BG,xv,xw,xx,xy,xz⟩:=h0
  subst xo
  subst xp
  subst xq
  subst xr
  subst xt
  subst xu
  unfold aQ.pl29 at hp
  unfold aQ.l29
  refine bind_ex (ldI_of (w0.ld (i:=0) rfl rfl)) ?_
  refine bind_ex (ldI_of (w0.ld (i:=0) rfl rfl)) ?_
  refine bif_ex (fun hb=>?_) (fun hb=>?_)
  ·replace hp:=bif_t hb hp
   exact aQ.l938_P (@ih) F rfl rfl rfl rfl rfl rfl ⟨w0,s0,BG,xv,xw,xx,xy,xz⟩ hp
  ·replace hp:=bif_f hb hp
   obtain ⟨w1,s1⟩:=w0.pick' [1,2,3,4,5,6] 7 rfl rfl rfl
   dsimp only [pk,pks,nth,List.drop] at w1 s1
   obtain rfl:=Option.some.inj hp
   exact ⟨_,_,rfl,_,_,_,_,_,_,_,_,_,_,_,_,_,_,_,_,_,_,_,_,_,rfl,rfl,rfl,rfl,rfl,rfl,w1,(s0.trans s1),(xv.step s1),(xw.step s1),(xx.step s1),(xy.step s1),(xz.step s1)⟩
def aQ.p (F:Nat) (aa:Int) (ac:Int) (bb:List Int):Option (Int×Int×List Int×Int×Int×List Int×Int×Int×List Int×Int×Int×List Int×Int×Int×List Int×Bool):=(apn ([]:List Int) bb).bind fun l4=>(bO.p F aa).bind fun r7=>(bO.p F aa).bind fun r10=>(bO.p F ac).bind fun r13=>(bO.p F ac).bind fun r16=>aQ.pl29 F F aa ac aa ac l4 r7.1 r7.2.1 r7.2.2 r10.1 r10.2.1 r10.2.2 r13.1 r13.2.1 r13.2.2 r16.1 r16.2.1 r16.2.2 false 0
theorem aQ.P {F:Nat} {aa ac:Int} {cV:ON} {bA:Nat} {cW:Cap} {bb:List Int} {H:Hp} {R0:List Rs} (fD:bA = bb.length) (h0:Inn H R0 fun R=>ROs (eInt .i64) H R ⟨cV,bA,cW⟩ bb) {r:Int×Int×List Int×Int×Int×List Int×Int×Int×List Int×Int×Int×List Int×Int×Int×List Int×Bool} (hp:aQ.p F aa ac bb = some r):∃ v H',aQ.tw F aa ac ⟨cV,bA,cW⟩ H = some (v,H')∧aQ.Q H R0 R0  r v H':=by
 obtain ⟨w0,eW⟩:=h0
 subst fD
 unfold aQ.p at hp
 unfold aQ.tw aQ.twX
 have s0:=w0.rf
 refine new_k w0 fun H1 w1 s1=>?_
 refine bind_ex (ldI_of (w1.ld (i:=0) rfl rfl)) ?_
 refine bind_ex (ldI_of (w1.ld (i:=0) rfl rfl)) ?_
 refine newS_k (eInt .i64) w1 (n:=0) (l:=([]:List Int)) rfl CR.empty rfl fun H2 w2 s2 c2=>?_
 refine bind_ex (ldSl_of (w2.ld (i:=1) rfl rfl)) ?_
 obtain ⟨x3,h3,c3⟩:=(eW.step (s1.trans s2)).row rfl
 refine bind_ex h3 ?_
 obtain ⟨l4,e4,hp⟩:=bind_some' hp
 refine app_k (eInt .i64) w2 (i:=0) rfl rfl c2 c3 rfl rfl e4 fun a5 d5 H5 w5 s5 c5 x5=>?_
 dsimp only [List.set] at w5 s5 c5
 refine ifs_ex (x5 ⟨_,rfl⟩) ?_
 refine bind_ex (ldI_of (w5.ld (i:=1) rfl rfl)) ?_
 obtain ⟨r7,e7,hp⟩:=bind_some' hp
 refine call_ex (bO.P ⟨w5,trivial⟩ e7) ?_
 rintro _ H8 ⟨o2a_8,o2n_8,o2c_8,o2k_8,rfl,rfl,w8,s8,f8_0⟩
 refine bind_ex rfl ?_
 refine bind_ex rfl ?_
 refine bind_ex rfl ?_
 refine bind_ex rfl ?_
 refine bind_ex rfl ?_
 refine bind_ex rfl ?_
 refine bind_ex rfl ?_
 refine ifs_ex (W.cons_of (Rn:=[_]) w5 w8 s8) ?_
 refine bind_ex (ldI_of (w8.ld (i:=2) rfl rfl)) ?_
 obtain ⟨r10,e10,hp⟩:=bind_some' hp
 refine call_ex (bO.P ⟨w8,trivial⟩ e10) ?_
 rintro _ H11 ⟨o2a_11,o2n_11,o2c_11,o2k_11,rfl,rfl,w11,s11,f11_0⟩
 refine bind_ex rfl ?_
 refine bind_ex rfl ?_
 refine bind_ex rfl ?_
 refine bind_ex rfl ?_
 refine bind_ex rfl ?_
 refine bind_ex rfl ?_
 refine bind_ex rfl ?_
 refine ifs_ex (W.cons_of (Rn:=[_]) w8 w11 s11) ?_
 refine bind_ex (ldI_of (w11.ld (i:=3) rfl rfl)) ?_
 obtain ⟨r13,e13,hp⟩:=bind_some' hp
 refine call_ex (bO.P ⟨w11,trivial⟩ e13) ?_
 rintro _ H14 ⟨o2a_14,o2n_14,o2c_14,o2k_14,rfl,rfl,w14,s14,f14_0⟩
 refine bind_ex rfl ?_
 refine bind_ex rfl ?_
 refine bind_ex rfl ?_
 refine bind_ex rfl ?_
 refine bind_ex rfl ?_
 refine bind_ex rfl ?_
 refine bind_ex rfl ?_
 refine ifs_ex (W.cons_of (Rn:=[_]) w11 w14 s14) ?_
 refine bind_ex (ldI_of (w14.ld (i:=4) rfl rfl)) ?_
 obtain ⟨r16,e16,hp⟩:=bind_some' hp
 refine call_ex (bO.P ⟨w14,trivial⟩ e16) ?_
 rintro _ H17 ⟨o2a_17,o2n_17,o2c_17,o2k_17,rfl,rfl,w17,s17,f17_0⟩
 refine bind_ex rfl ?_
 refine bind_ex rfl ?_
 refine bind_ex rfl ?_
 refine bind_ex rfl ?_
 refine bind_ex rfl ?_
 refine bind_ex rfl ?_
 refine bind_ex rfl ?_
 refine ifs_ex (W.cons_of (Rn:=[_]) w14 w17 s17) ?_
 refine new_k w17 fun H19 w19 s19=>?_
 obtain ⟨w20,s20⟩:=w19.pick' [6,5,4,3,2,1,0] 7 rfl rfl rfl
 dsimp only [pk,pks,nth,List.drop] at w20 s20
 exact aQ.l29_P F rfl rfl rfl rfl rfl rfl ⟨w20,(s0.trans (s1.trans (s2.trans (s5.trans (s8.trans (s11.trans (s14.trans (s17.trans (s19.trans s20))))))))),(eW.step (s1.trans (s2.trans (s5.trans (s8.trans (s11.trans (s14.trans (s17.trans (s19.trans s20))))))))),(c5.step (s8.trans (s11.trans (s14.trans (s17.trans (s19.trans s20)))))),(f8_0.step (s11.trans (s14.trans (s17.trans (s19.trans s20))))),(f11_0.step (s14.trans (s17.trans (s19.trans s20)))),(f14_0.step (s17.trans (s19.trans s20))),(f17_0.step (s19.trans s20))⟩ hp
def bm.Q (H0:Hp) (Ri R0:List Rs)  (r:List Int×Bool) (v:AV) (H':Hp):Prop:=∃ o0a:ON,∃ o0n:Nat,∃ o0c:Cap,∃ o0k:List AV,v = (.tup [(.sl ⟨o0a,o0n,o0c⟩),(.bool r.2)])∧o0n = (r.1).length∧Out H0 Ri H' (Rs.own ⟨o0a,o0n,o0c⟩ (eInt .i64).z o0k :: R0) fun R=>CR (eInt .i64) H' R o0k (r.1)
def bm.S61 (H0:Hp) (Ri R0:List Rs)  (C:Nat→Nat→Nat→Nat→Sl→Int→Hp→OA) (pC:Int→Int→Int→List Int→Bool→List Int→Int→Option (List Int×Bool)):Prop:=∀ {ng nh ve nJ vf vg vh vi vj vk vl vm fh:Int} {sL sM sN sR sS sT sU:ON} {qu jx qv qw qx qy qz dx qA:Nat} {sV sW sX sY sZ s_ ta:Cap} {tc ni td te tf tg mx:List Int} {th ti tj tk tl tn:List AV} {mz:Bool},∀ {H:Hp},qu = tc.length→qv = ni.length→qw = td.length→qx = te.length→qy = tf.length→qz = tg.length→qA = mx.length→(Out H0 Ri H (Rs.blk jx [.int .i64 ng,.int .i64 nh,.sl ⟨sL,qu,sV⟩] :: Rs.own ⟨sM,qv,sW⟩ (eInt .i64).z th :: Rs.own ⟨sN,qw,sX⟩ (eInt .i64).z ti :: Rs.own ⟨sR,qx,sY⟩ (eInt .i64).z tj :: Rs.own ⟨sS,qy,sZ⟩ (eInt .i64).z tk :: Rs.own ⟨sT,qz,s_⟩ (eInt .i64).z tl :: Rs.blk dx [.int .i64 ve,.int .i64 nJ,.sl ⟨sM,qv,sW⟩,.int .i64 vf,.int .i64 vg,.sl ⟨sN,qw,sX⟩,.int .i64 vh,.int .i64 vi,.sl ⟨sR,qx,sY⟩,.int .i64 vj,.int .i64 vk,.sl ⟨sS,qy,sZ⟩,.int .i64 vl,.int .i64 vm,.sl ⟨sT,qz,s_⟩,.bool mz] :: Rs.own ⟨sU,qA,ta⟩ (eInt .i64).z tn :: R0) fun R=>ROs (eInt .i64) H R ⟨sL,qu,sV⟩ tc∧CR (eInt .i64) H R th ni∧CR (eInt .i64) H R ti td∧CR (eInt .i64) H R tj te∧CR (eInt .i64) H R tk tf∧CR (eInt .i64) H R tl tg∧CR (eInt .i64) H R tn mx)→∀ {r:List Int×Bool},pC ng nh nJ ni mz mx fh = some r→∃ v H',C jx 0 dx 0 ⟨sU,qA,ta⟩ fh H = some (v,H')∧bm.Q H0 Ri R0  r v H'
def bm.pj3 (F:Nat) (nj:Int→Int→Int→List Int→Bool→List Int→Int→Option (List Int×Bool)) (tp:Int) (tq:Int) (ts:Int) (qB:List Int) (tt:Bool) (qC:List Int) (oX:Int):Option (List Int×Bool):=nj tp tq ts qB tt qC (IntKind.i64.wrap (oX + 1))
theorem bm.j3_P {F:Nat} {H0:Hp} {Ri R0:List Rs}  {C61_:Nat→Nat→Nat→Nat→Sl→Int→Hp→OA} {nj:Int→Int→Int→List Int→Bool→List Int→Int→Option (List Int×Bool)} (hC61:bm.S61 H0 Ri R0  C61_ nj) {tp tq BH ts BI BJ BK BL BM BN BO BP oX:Int} {xA xB xC xD xE xF xG:ON} {vn rt vo vp vq vr vs ru vt:Nat} {xH xI xJ xK xL xM xN:Cap} {xO qB xP xQ xR xS qC:List Int} {xT xU xV xW xX xY:List AV} {tt:Bool} {H:Hp} (BQ:vn = xO.length) (BR:vo = qB.length) (BS:vp = xP.length) (BT:vq = xQ.length) (BU:vr = xR.length) (BV:vs = xS.length) (BW:vt = qC.length) (h0:Out H0 Ri H (Rs.blk rt [.int .i64 tp,.int .i64 tq,.sl ⟨xA,vn,xH⟩] :: Rs.own ⟨xB,vo,xI⟩ (eInt .i64).z xT :: Rs.own ⟨xC,vp,xJ⟩ (eInt .i64).z xU :: Rs.own ⟨xD,vq,xK⟩ (eInt .i64).z xV :: Rs.own ⟨xE,vr,xL⟩ (eInt .i64).z xW :: Rs.own ⟨xF,vs,xM⟩ (eInt .i64).z xX :: Rs.blk ru [.int .i64 BH,.int .i64 ts,.sl ⟨xB,vo,xI⟩,.int .i64 BI,.int .i64 BJ,.sl ⟨xC,vp,xJ⟩,.int .i64 BK,.int .i64 BL,.sl ⟨xD,vq,xK⟩,.int .i64 BM,.int .i64 BN,.sl ⟨xE,vr,xL⟩,.int .i64 BO,.int .i64 BP,.sl ⟨xF,vs,xM⟩,.bool tt] :: Rs.own ⟨xG,vt,xN⟩ (eInt .i64).z xY :: R0) fun R=>ROs (eInt .i64) H R ⟨xA,vn,xH⟩ xO∧CR (eInt .i64) H R xT qB∧CR (eInt .i64) H R xU xP∧CR (eInt .i64) H R xV xQ∧CR (eInt .i64) H R xW xR∧CR (eInt .i64) H R xX xS∧CR (eInt .i64) H R xY qC) {r:List Int×Bool} (hp:bm.pj3 F nj tp tq ts qB tt qC oX = some r):∃ v H',bm.j3 F (aQ.tw F) (aC.tw F) C61_ rt 0 ru 0 ⟨xG,vt,xN⟩ oX H = some (v,H')∧bm.Q H0 Ri R0  r v H':=by
 obtain ⟨w0,s0,BX,BY,BZ,B_,Ca,Cb,Cc⟩:=h0
 subst BQ
 subst BR
 subst BS
 subst BT
 subst BU
 subst BV
 subst BW
 unfold bm.pj3 at hp
 unfold bm.j3
 exact hC61 rfl rfl rfl rfl rfl rfl rfl ⟨w0,s0,BX,BY,BZ,B_,Ca,Cb,Cc⟩ hp
def bm.pj2 (F:Nat)  (tu:Bool) (qD:List Int):Option (List Int×Bool):=some (qD,(!tu))
theorem bm.j2_P {F:Nat} {H0:Hp} {Ri R0:List Rs}   {Cd Ce Cf Cg Ch Ci Cj Ck Cl Cm:Int} {xZ x_ ya yb yc yd:ON} {vu vv vw vx vy rs vz:Nat} {ye yf yh yi yj yk:Cap} {ym yn yo yp yq qD:List Int} {yr ys yt yu yw yx:List AV} {tu:Bool} {H:Hp} (Cn:vu = ym.length) (Co:vv = yn.length) (Cp:vw = yo.length) (Cq:vx = yp.length) (Cr:vy = yq.length) (Cs:vz = qD.length) (h0:Out H0 Ri H (Rs.own ⟨xZ,vu,ye⟩ (eInt .i64).z yr :: Rs.own ⟨x_,vv,yf⟩ (eInt .i64).z ys :: Rs.own ⟨ya,vw,yh⟩ (eInt .i64).z yt :: Rs.own ⟨yb,vx,yi⟩ (eInt .i64).z yu :: Rs.own ⟨yc,vy,yj⟩ (eInt .i64).z yw :: Rs.blk rs [.int .i64 Cd,.int .i64 Ce,.sl ⟨xZ,vu,ye⟩,.int .i64 Cf,.int .i64 Cg,.sl ⟨x_,vv,yf⟩,.int .i64 Ch,.int .i64 Ci,.sl ⟨ya,vw,yh⟩,.int .i64 Cj,.int .i64 Ck,.sl ⟨yb,vx,yi⟩,.int .i64 Cl,.int .i64 Cm,.sl ⟨yc,vy,yj⟩,.bool tu] :: Rs.own ⟨yd,vz,yk⟩ (eInt .i64).z yx :: R0) fun R=>CR (eInt .i64) H R yr ym∧CR (eInt .i64) H R ys yn∧CR (eInt .i64) H R yt yo∧CR (eInt .i64) H R yu yp∧CR (eInt .i64) H R yw yq∧CR (eInt .i64) H R yx qD) {r:List Int×Bool} (hp:bm.pj2 F  tu qD = some r):∃ v H',bm.j2 F (aQ.tw F) (aC.tw F)  rs 0 ⟨yd,vz,yk⟩ H = some (v,H')∧bm.Q H0 Ri R0  r v H':=by
 obtain ⟨w0,s0,DM,DN,DO,DP,DQ,Ct⟩:=h0
 subst Cn
 subst Co
 subst Cp
 subst Cq
 subst Cr
 subst Cs
 unfold bm.pj2 at hp
 unfold bm.j2
 refine bind_ex (ldB_of (w0.ld (i:=5) rfl rfl)) ?_
 obtain ⟨w1,s1⟩:=w0.pick' [6] 7 rfl rfl rfl
 dsimp only [pk,pks,nth,List.drop] at w1 s1
 obtain rfl:=Option.some.inj hp
 exact ⟨_,_,rfl,_,_,_,_,rfl,rfl,w1,(s0.trans s1),(Ct.step s1)⟩
def bm.pl61 (F:Nat) :Nat→Int→Int→Int→List Int→Bool→List Int→Int→Option (List Int×Bool)
 | 0,_,_,_,_,_,_,_=>none
 | k + 1,ng,nh,nJ,ni,mz,mx,fh=>(bif (decide (fh < (if nh < ng then nh else ng))) then ((bif (!mz) then ((aC.p F nJ ni fh fh).bind fun r3=>(bif (r3 != 0) then ((apn mx ([r3]:List Int)).bind fun l7=>bm.pj3 F (bm.pl61 F k) ng nh nJ ni mz l7 fh) else (bm.pj3 F (bm.pl61 F k) ng nh nJ ni mz mx fh))) else (bm.pj2 F mz mx))) else (bm.pj2 F mz mx))
termination_by structural n=>n
theorem bm.l61_P {F:Nat} {H0:Hp} {Ri R0:List Rs}  :∀ k,bm.S61 H0 Ri R0  (bm.l61 F (aQ.tw F) (aC.tw F)  k) (bm.pl61 F  k):=by
 intro k
 induction k with
 | zero=>
  intro ng nh ve nJ vf vg vh vi vj vk vl vm fh sL sM sN sR sS sT sU qu jx qv qw qx qy qz dx qA sV sW sX sY sZ s_ ta tc ni td te tf tg mx th ti tj tk tl tn mz H yy yz yA yB yC yD yE h0 r hp
  exact nomatch (show (none:Option (List Int×Bool)) = some r from hp)
 | succ k ih=>
  intro ng nh ve nJ vf vg vh vi vj vk vl vm fh sL sM sN sR sS sT sU qu jx qv qw qx qy qz dx qA sV sW sX sY sZ s_ ta tc ni td te tf tg mx th ti tj tk tl tn mz H yy yz yA yB yC yD yE h0 r hp
  obtain ⟨w0,s0,yF,qE,tv,tx,tz,tA,tB⟩:=h0
  subst yy
  subst yz
  subst yA
  subst yB
  subst yC
  subst yD
  subst yE
  unfold bm.pl61 at hp
  unfold bm.l61
  refine bind_ex (ldI_of (w0.ld (i:=0) rfl rfl)) ?_
  refine bind_ex (ldI_of (w0.ld (i:=0) rfl rfl)) ?_
  refine bif_ex (fun hb=>?_) (fun hb=>?_)
  ·replace hp:=bif_t hb hp
   refine bind_ex (ldB_of (w0.ld (i:=6) rfl rfl)) ?_
   refine bif_ex (fun hb=>?_) (fun hb=>?_)
   ·replace hp:=bif_t hb hp
    refine bind_ex (ldI_of (w0.ld (i:=6) rfl rfl)) ?_
    refine bind_ex (ldI_of (w0.ld (i:=6) rfl rfl)) ?_
    refine bind_ex (ldSl_of (w0.ld (i:=6) rfl rfl)) ?_
    obtain ⟨w1,s1⟩:=w0.pick' [1,0,2,3,4,5,6,7] 8 rfl rfl rfl
    dsimp only [pk,pks,nth,List.drop] at w1 s1
    have f2:=W.borrow1 (eInt .i64) w1 (qE.step s1)
    obtain ⟨w2,s2⟩:=w1.right1
    obtain ⟨r3,e3,hp⟩:=bind_some' hp
    refine call_ex (aC.P rfl ⟨w2,f2⟩ e3) ?_
    rintro _ H4 ⟨rfl,w4,s4,_⟩
    obtain ⟨w5,s5⟩:=W.frame1 w1 w4 s4
    refine bind_ex rfl ?_
    refine bif_ex (fun hb=>?_) (fun hb=>?_)
    ·replace hp:=bif_t hb hp
     refine newS_k (eInt .i64) w5 (n:=1) (l:=([r3]:List Int)) rfl (CR.cons1 rfl CR.empty) rfl fun H6 w6 s6 c6=>?_
     refine bind_ex (w6.rowo (i:=0) rfl) ?_
     obtain ⟨l7,e7,hp⟩:=bind_some' hp
     refine app_k (eInt .i64) w6 (i:=8) rfl rfl (tB.step (s1.trans (s5.trans s6))) c6 (show 1 = List.length ([r3]:List Int) from rfl) rfl e7 fun a8 d8 H8 w8 s8 c8 x8=>?_
     dsimp only [List.set] at w8 s8 c8
     obtain ⟨w9,s9⟩:=w8.pick' [2,1,3,4,5,6,7,8] 9 rfl rfl rfl
     dsimp only [pk,pks,nth,List.drop] at w9 s9
     exact bm.j3_P (@ih) rfl rfl rfl rfl rfl rfl rfl ⟨w9,(s0.trans (s1.trans (s5.trans (s6.trans (s8.trans s9))))),(yF.step (s1.trans (s5.trans (s6.trans (s8.trans s9))))),(qE.step (s1.trans (s5.trans (s6.trans (s8.trans s9))))),(tv.step (s1.trans (s5.trans (s6.trans (s8.trans s9))))),(tx.step (s1.trans (s5.trans (s6.trans (s8.trans s9))))),(tz.step (s1.trans (s5.trans (s6.trans (s8.trans s9))))),(tA.step (s1.trans (s5.trans (s6.trans (s8.trans s9))))),(c8.step s9)⟩ hp
    ·replace hp:=bif_f hb hp
     obtain ⟨w10,s10⟩:=w5.pick' [1,0,2,3,4,5,6,7] 8 rfl rfl rfl
     dsimp only [pk,pks,nth,List.drop] at w10 s10
     exact bm.j3_P (@ih) rfl rfl rfl rfl rfl rfl rfl ⟨w10,(s0.trans (s1.trans (s5.trans s10))),(yF.step (s1.trans (s5.trans s10))),(qE.step (s1.trans (s5.trans s10))),(tv.step (s1.trans (s5.trans s10))),(tx.step (s1.trans (s5.trans s10))),(tz.step (s1.trans (s5.trans s10))),(tA.step (s1.trans (s5.trans s10))),(tB.step (s1.trans (s5.trans s10)))⟩ hp
   ·replace hp:=bif_f hb hp
    obtain ⟨w11,s11⟩:=w0.pick' [1,2,3,4,5,6,7] 8 rfl rfl rfl
    dsimp only [pk,pks,nth,List.drop] at w11 s11
    exact bm.j2_P rfl rfl rfl rfl rfl rfl ⟨w11,(s0.trans s11),(qE.step s11),(tv.step s11),(tx.step s11),(tz.step s11),(tA.step s11),(tB.step s11)⟩ hp
  ·replace hp:=bif_f hb hp
   obtain ⟨w12,s12⟩:=w0.pick' [1,2,3,4,5,6,7] 8 rfl rfl rfl
   dsimp only [pk,pks,nth,List.drop] at w12 s12
   exact bm.j2_P rfl rfl rfl rfl rfl rfl ⟨w12,(s0.trans s12),(qE.step s12),(tv.step s12),(tx.step s12),(tz.step s12),(tA.step s12),(tB.step s12)⟩ hp
def bm.p (F:Nat) (aa:Int) (ac:Int) (bb:List Int):Option (List Int×Bool):=(aQ.p F aa ac bb).bind fun r2=>bm.pl61 F F aa ac r2.2.1 r2.2.2.1 r2.2.2.2.2.2.2.2.2.2.2.2.2.2.2.2 ([]:List Int) 0
theorem bm.P {F:Nat} {aa ac:Int} {cV:ON} {bA:Nat} {cW:Cap} {bb:List Int} {H:Hp} {R0:List Rs} (fD:bA = bb.length) (h0:Inn H R0 fun R=>ROs (eInt .i64) H R ⟨cV,bA,cW⟩ bb) {r:List Int×Bool} (hp:bm.p F aa ac bb = some r):∃ v H',bm.tw F aa ac ⟨cV,bA,cW⟩ H = some (v,H')∧bm.Q H R0 R0  r v H':=by
 obtain ⟨w0,eW⟩:=h0
 subst fD
 unfold bm.p at hp
 unfold bm.tw bm.twX
 have s0:=w0.rf
 refine new_k w0 fun H1 w1 s1=>?_
 refine bind_ex (ldI_of (w1.ld (i:=0) rfl rfl)) ?_
 refine bind_ex (ldI_of (w1.ld (i:=0) rfl rfl)) ?_
 refine bind_ex (ldSl_of (w1.ld (i:=0) rfl rfl)) ?_
 obtain ⟨r2,e2,hp⟩:=bind_some' hp
 refine call_ex (aQ.P rfl ⟨w1,(eW.step s1)⟩ e2) ?_
 rintro _ H3 ⟨o2a_3,o2n_3,o2c_3,o2k_3,o5a_3,o5n_3,o5c_3,o5k_3,o8a_3,o8n_3,o8c_3,o8k_3,o11a_3,o11n_3,o11c_3,o11k_3,o14a_3,o14n_3,o14c_3,o14k_3,ob0_3,rfl,rfl,rfl,rfl,rfl,rfl,w3,s3,f3_0,f3_1,f3_2,f3_3,f3_4⟩
 refine bind_ex rfl ?_
 refine newS_k (eInt .i64) w3 (n:=0) (l:=([]:List Int)) rfl CR.empty rfl fun H4 w4 s4 c4=>?_
 obtain ⟨w5,s5⟩:=w4.pick' [7,1,2,3,4,5,6,0] 8 rfl rfl rfl
 dsimp only [pk,pks,nth,List.drop] at w5 s5
 exact bm.l61_P F rfl rfl rfl rfl rfl rfl (show 0 = List.length ([]:List Int) from rfl) ⟨w5,(s0.trans (s1.trans (s3.trans (s4.trans s5)))),(eW.step (s1.trans (s3.trans (s4.trans s5)))),(f3_0.step (s4.trans s5)),(f3_1.step (s4.trans s5)),(f3_2.step (s4.trans s5)),(f3_3.step (s4.trans s5)),(f3_4.step (s4.trans s5)),(c4.step s5)⟩ hp
def dT.Q (H0:Hp) (Ri R0:List Rs)  (r:List Int×Int) (v:AV) (H':Hp):Prop:=∃ o0a:ON,∃ o0n:Nat,∃ o0c:Cap,∃ o0k:List AV,v = (.tup [(.sl ⟨o0a,o0n,o0c⟩),(.int .i64 r.2)])∧o0n = (r.1).length∧Out H0 Ri H' (Rs.own ⟨o0a,o0n,o0c⟩ (eInt .i64).z o0k :: R0) fun R=>CR (eInt .i64) H' R o0k (r.1)
def dT.p (F:Nat) (aa:Int) (ac:Int) (bb:List Int):Option (List Int×Int):=(cu.p F aa ac bb).bind fun r2=>(bif (!r2) then (some (([]:List Int),1)) else ((bm.p F aa ac bb).bind fun r6=>(bif (!r6.2) then (some (([]:List Int),3)) else (some (r6.1,0)))))
theorem dT.P {F:Nat} {aa ac:Int} {cV:ON} {bA:Nat} {cW:Cap} {bb:List Int} {H:Hp} {R0:List Rs} (fD:bA = bb.length) (h0:Inn H R0 fun R=>ROs (eInt .i64) H R ⟨cV,bA,cW⟩ bb) {r:List Int×Int} (hp:dT.p F aa ac bb = some r):∃ v H',dT.tw F aa ac ⟨cV,bA,cW⟩ H = some (v,H')∧dT.Q H R0 R0  r v H':=by
 obtain ⟨w0,eW⟩:=h0
 subst fD
 unfold dT.p at hp
 unfold dT.tw dT.twX
 have s0:=w0.rf
 refine new_k w0 fun H1 w1 s1=>?_
 refine bind_ex (ldI_of (w1.ld (i:=0) rfl rfl)) ?_
 refine bind_ex (ldI_of (w1.ld (i:=0) rfl rfl)) ?_
 refine bind_ex (ldSl_of (w1.ld (i:=0) rfl rfl)) ?_
 obtain ⟨r2,e2,hp⟩:=bind_some' hp
 refine call_ex (cu.P rfl ⟨w1,(eW.step s1)⟩ e2) ?_
 rintro _ H3 ⟨rfl,w3,s3,_⟩
 refine bind_ex rfl ?_
 refine bif_ex (fun hb=>?_) (fun hb=>?_)
 ·replace hp:=bif_t hb hp
  refine newS_k (eInt .i64) w3 (n:=0) (l:=([]:List Int)) rfl CR.empty rfl fun H4 w4 s4 c4=>?_
  obtain ⟨w5,s5⟩:=w4.pick' [0] 2 rfl rfl rfl
  dsimp only [pk,pks,nth,List.drop] at w5 s5
  obtain rfl:=Option.some.inj hp
  exact ⟨_,_,rfl,_,_,_,_,rfl,(show 0 = List.length ([]:List Int) from rfl),w5,(s0.trans (s1.trans (s3.trans (s4.trans s5)))),(c4.step s5)⟩
 ·replace hp:=bif_f hb hp
  refine bind_ex (ldI_of (w3.ld (i:=0) rfl rfl)) ?_
  refine bind_ex (ldI_of (w3.ld (i:=0) rfl rfl)) ?_
  refine bind_ex (ldSl_of (w3.ld (i:=0) rfl rfl)) ?_
  obtain ⟨r6,e6,hp⟩:=bind_some' hp
  refine call_ex (bm.P rfl ⟨w3,(eW.step (s1.trans s3))⟩ e6) ?_
  rintro _ H7 ⟨o0a_7,o0n_7,o0c_7,o0k_7,rfl,rfl,w7,s7,f7_0⟩
  refine bind_ex rfl ?_
  refine bind_ex rfl ?_
  refine bind_ex rfl ?_
  refine bind_ex rfl ?_
  refine bind_ex rfl ?_
  refine bif_ex (fun hb=>?_) (fun hb=>?_)
  ·replace hp:=bif_t hb hp
   refine newS_k (eInt .i64) w7 (n:=0) (l:=([]:List Int)) rfl CR.empty rfl fun H8 w8 s8 c8=>?_
   obtain ⟨w9,s9⟩:=w8.pick' [0] 3 rfl rfl rfl
   dsimp only [pk,pks,nth,List.drop] at w9 s9
   obtain rfl:=Option.some.inj hp
   exact ⟨_,_,rfl,_,_,_,_,rfl,(show 0 = List.length ([]:List Int) from rfl),w9,(s0.trans (s1.trans (s3.trans (s7.trans (s8.trans s9))))),(c8.step s9)⟩
  ·replace hp:=bif_f hb hp
   obtain ⟨w10,s10⟩:=w7.pick' [0] 2 rfl rfl rfl
   dsimp only [pk,pks,nth,List.drop] at w10 s10
   obtain rfl:=Option.some.inj hp
   exact ⟨_,_,rfl,_,_,_,_,rfl,rfl,w10,(s0.trans (s1.trans (s3.trans (s7.trans s10)))),(f7_0.step s10)⟩
def bE.Q (H0:Hp) (Ri R0:List Rs)  (r:List Int) (v:AV) (H':Hp):Prop:=∃ o0a:ON,∃ o0n:Nat,∃ o0c:Cap,∃ o0k:List AV,v = (.sl ⟨o0a,o0n,o0c⟩)∧o0n = (r).length∧Out H0 Ri H' (Rs.own ⟨o0a,o0n,o0c⟩ (eInt .i64).z o0k :: R0) fun R=>CR (eInt .i64) H' R o0k (r)
def bE.S29 (H0:Hp) (Ri R0:List Rs)  (C:Sl→Sl→Int→Hp→OA) (pC:List Int→List Int→Int→Option (List Int)):Prop:=∀ {jQ mE:ON} {iy mc:Nat} {jR mF:Cap} {eC jS:List Int} {mG:List AV} {ff:Int},∀ {H:Hp},iy = eC.length→mc = jS.length→(Out H0 Ri H (Rs.own ⟨mE,mc,mF⟩ (eInt .i64).z mG :: R0) fun R=>ROs (eInt .i64) H R ⟨jQ,iy,jR⟩ eC∧CR (eInt .i64) H R mG jS)→∀ {r:List Int},pC eC jS ff = some r→∃ v H',C ⟨jQ,iy,jR⟩ ⟨mE,mc,mF⟩ ff H = some (v,H')∧bE.Q H0 Ri R0  r v H'
def bE.pj2 (F:Nat) (eD:List Int→List Int→Int→Option (List Int)) (qF:List Int) (qG:List Int) (oY:Int):Option (List Int):=eD qF qG (IntKind.i64.wrap (oY + 1))
theorem bE.j2_P {F:Nat} {H0:Hp} {Ri R0:List Rs}  {C29_:Sl→Sl→Int→Hp→OA} {eD:List Int→List Int→Int→Option (List Int)} (hC29:bE.S29 H0 Ri R0  C29_ eD) {yG yH:ON} {vA vB:Nat} {yI yJ:Cap} {qF qG:List Int} {yK:List AV} {oY:Int} {H:Hp} (Cu:vA = qF.length) (Cv:vB = qG.length) (h0:Out H0 Ri H (Rs.own ⟨yH,vB,yJ⟩ (eInt .i64).z yK :: R0) fun R=>ROs (eInt .i64) H R ⟨yG,vA,yI⟩ qF∧CR (eInt .i64) H R yK qG) {r:List Int} (hp:bE.pj2 F eD qF qG oY = some r):∃ v H',bE.j2 F  C29_ ⟨yG,vA,yI⟩ ⟨yH,vB,yJ⟩ oY H = some (v,H')∧bE.Q H0 Ri R0  r v H':=by
 obtain ⟨w0,s0,Cw,Cx⟩:=h0
 subst Cu
 subst Cv
 unfold bE.pj2 at hp
 unfold bE.j2
 exact hC29 rfl rfl ⟨w0,s0,Cw,Cx⟩ hp
def bE.pl29 (F:Nat) :Nat→List Int→List Int→Int→Option (List Int)
 | 0,_,_,_=>none
 | k + 1,eC,jS,ff=>(bif (decide (ff < (eC.length:Int))) then ((ix eC ff).bind fun n1=>(bif (decide ((gt eC n1) > 1)) then ((ix eC ff).bind fun n2=>(apn jS ([(gt eC n2)]:List Int)).bind fun l4=>bE.pj2 F (bE.pl29 F k) eC l4 ff) else (bE.pj2 F (bE.pl29 F k) eC jS ff))) else (some jS))
termination_by structural n=>n
theorem bE.l29_P {F:Nat} {H0:Hp} {Ri R0:List Rs}  :∀ k,bE.S29 H0 Ri R0  (bE.l29 F   k) (bE.pl29 F  k):=by
 intro k
 induction k with
 | zero=>
  intro jQ mE iy mc jR mF eC jS mG ff H kU pY h0 r hp
  exact nomatch (show (none:Option (List Int)) = some r from hp)
 | succ k ih=>
  intro jQ mE iy mc jR mF eC jS mG ff H kU pY h0 r hp
  obtain ⟨w0,s0,kr,nW⟩:=h0
  subst kU
  subst pY
  unfold bE.pl29 at hp
  unfold bE.l29
  refine bif_ex (fun hb=>?_) (fun hb=>?_)
  ·replace hp:=bif_t hb hp
   obtain ⟨n1,g1,hp⟩:=bind_some' hp
   obtain ⟨p1,q1,i1,h1,j1⟩:=ROs.ixr kr rfl g1
   refine bind_ex i1 ?_
   have h1:_ = [_]:=h1
   subst h1
   refine bind_ex (ldI_of (j1 0 _ rfl)) ?_
   refine bif_ex (fun hb=>?_) (fun hb=>?_)
   ·replace hp:=bif_t hb hp
    obtain ⟨n2,g2,hp⟩:=bind_some' hp
    obtain ⟨p2,q2,i2,h2,j2⟩:=ROs.ixr kr rfl g2
    refine bind_ex i2 ?_
    have h2:_ = [_]:=h2
    subst h2
    refine bind_ex (ldI_of (j2 0 _ rfl)) ?_
    refine newS_k (eInt .i64) w0 (n:=1) (l:=([(gt eC n2)]:List Int)) rfl (CR.cons1 rfl CR.empty) rfl fun H3 w3 s3 c3=>?_
    refine bind_ex (w3.rowo (i:=0) rfl) ?_
    obtain ⟨l4,e4,hp⟩:=bind_some' hp
    refine app_k (eInt .i64) w3 (i:=1) rfl rfl (nW.step s3) c3 (show 1 = List.length ([(gt eC n2)]:List Int) from rfl) rfl e4 fun a5 d5 H5 w5 s5 c5 x5=>?_
    dsimp only [List.set] at w5 s5 c5
    obtain ⟨w6,s6⟩:=w5.pick' [1] 2 rfl rfl rfl
    dsimp only [pk,pks,nth,List.drop] at w6 s6
    exact bE.j2_P (@ih) rfl rfl ⟨w6,(s0.trans (s3.trans (s5.trans s6))),(kr.step (s3.trans (s5.trans s6))),(c5.step s6)⟩ hp
   ·replace hp:=bif_f hb hp
    exact bE.j2_P (@ih) rfl rfl ⟨w0,s0,kr,nW⟩ hp
  ·replace hp:=bif_f hb hp
   obtain rfl:=Option.some.inj hp
   exact ⟨_,_,rfl,_,_,_,_,rfl,rfl,w0,s0,nW⟩
def bE.p (F:Nat) (bD:List Int):Option (List Int):=bE.pl29 F F bD ([]:List Int) 0
theorem bE.P {F:Nat} {eL:ON} {dq:Nat} {eM:Cap} {bD:List Int} {H:Hp} {R0:List Rs} (gr:dq = bD.length) (h0:Inn H R0 fun R=>ROs (eInt .i64) H R ⟨eL,dq,eM⟩ bD) {r:List Int} (hp:bE.p F bD = some r):∃ v H',bE.tw F ⟨eL,dq,eM⟩ H = some (v,H')∧bE.Q H R0 R0  r v H':=by
 obtain ⟨w0,gx⟩:=h0
 subst gr
 unfold bE.p at hp
 unfold bE.tw bE.twX
 have s0:=w0.rf
 refine newS_k (eInt .i64) w0 (n:=0) (l:=([]:List Int)) rfl CR.empty rfl fun H1 w1 s1 c1=>?_
 exact bE.l29_P F rfl (show 0 = List.length ([]:List Int) from rfl) ⟨w1,(s0.trans s1),(gx.step s1),c1⟩ hp
def dU.Q (H0:Hp) (Ri R0:List Rs)  (r:Int×List Int×Int) (v:AV) (H':Hp):Prop:=∃ o1a:ON,∃ o1n:Nat,∃ o1c:Cap,∃ o1k:List AV,v = (.tup [(.agg [(.int .i64 r.1),(.sl ⟨o1a,o1n,o1c⟩)]),(.int .i64 r.2.2)])∧o1n = (r.2.1).length∧Out H0 Ri H' (Rs.own ⟨o1a,o1n,o1c⟩ (eInt .i64).z o1k :: R0) fun R=>CR (eInt .i64) H' R o1k (r.2.1)
def dU.p (F:Nat) (aa:Int) (ac:Int) (bb:List Int):Option (Int×List Int×Int):=(dT.p F aa ac bb).bind fun r3=>(bif (r3.2 != 0) then (some (0,([]:List Int),r3.2)) else ((bE.p F r3.1).bind fun r10=>some ((IntKind.i64.wrap (aa - (r3.1.length:Int))),r10,0)))
theorem dU.P {F:Nat} {aa ac:Int} {cV:ON} {bA:Nat} {cW:Cap} {bb:List Int} {H:Hp} {R0:List Rs} (fD:bA = bb.length) (h0:Inn H R0 fun R=>ROs (eInt .i64) H R ⟨cV,bA,cW⟩ bb) {r:Int×List Int×Int} (hp:dU.p F aa ac bb = some r):∃ v H',dU.tw F aa ac ⟨cV,bA,cW⟩ H = some (v,H')∧dU.Q H R0 R0  r v H':=by
 obtain ⟨w0,eW⟩:=h0
 subst fD
 unfold dU.p at hp
 unfold dU.tw dU.twX
 have s0:=w0.rf
 refine new_k w0 fun H1 w1 s1=>?_
 refine new_k w1 fun H2 w2 s2=>?_
 refine bind_ex (ldI_of (w2.ld (i:=1) rfl rfl)) ?_
 refine bind_ex (ldI_of (w2.ld (i:=1) rfl rfl)) ?_
 refine bind_ex (ldSl_of (w2.ld (i:=1) rfl rfl)) ?_
 obtain ⟨r3,e3,hp⟩:=bind_some' hp
 refine call_ex (dT.P rfl ⟨w2,(eW.step (s1.trans s2))⟩ e3) ?_
 rintro _ H4 ⟨o0a_4,o0n_4,o0c_4,o0k_4,rfl,rfl,w4,s4,f4_0⟩
 refine bind_ex rfl ?_
 refine bind_ex rfl ?_
 refine bind_ex rfl ?_
 refine bind_ex rfl ?_
 refine bind_ex rfl ?_
 refine bif_ex (fun hb=>?_) (fun hb=>?_)
 ·replace hp:=bif_t hb hp
  refine st_k w4 (i:=1) rfl rfl rfl fun H5 w5 s5=>?_
  dsimp only [List.set] at w5 s5
  refine st_k w5 (i:=1) rfl rfl rfl fun H6 w6 s6=>?_
  dsimp only [List.set] at w6 s6
  refine bind_ex (ldI_of (w6.ld (i:=1) rfl rfl)) ?_
  refine bind_ex (ldSl_of (w6.ld (i:=1) rfl rfl)) ?_
  obtain ⟨w7,s7⟩:=w6.nilS (eInt .i64).z (by decide)
  obtain ⟨w8,s8⟩:=w7.pick' [0] 4 rfl rfl rfl
  dsimp only [pk,pks,nth,List.drop] at w8 s8
  obtain rfl:=Option.some.inj hp
  exact ⟨_,_,rfl,_,_,_,_,rfl,rfl,w8,(s0.trans (s1.trans (s2.trans (s4.trans (s5.trans (s6.trans (s7.trans s8))))))),((CR.empty:CR (eInt .i64) _ _ [] []).step s8)⟩
 ·replace hp:=bif_f hb hp
  refine bind_ex (ldI_of (w4.ld (i:=2) rfl rfl)) ?_
  have f9:=W.borrow1 (eInt .i64) w4 f4_0
  obtain ⟨w9,s9⟩:=w4.right1
  obtain ⟨r10,e10,hp⟩:=bind_some' hp
  refine call_ex (bE.P rfl ⟨w9,f9⟩ e10) ?_
  rintro _ H11 ⟨o0a_11,o0n_11,o0c_11,o0k_11,rfl,rfl,w11,s11,f11_0⟩
  obtain ⟨w12,s12⟩:=W.frame1 w4 w11 s11
  refine bind_ex rfl ?_
  refine ifs_ex (W.cons_of (Rn:=[_]) w9 w11 s11) ?_
  refine st_k w12 (i:=2) rfl rfl rfl fun H14 w14 s14=>?_
  dsimp only [List.set] at w14 s14
  refine st_k w14 (i:=2) rfl rfl rfl fun H15 w15 s15=>?_
  dsimp only [List.set] at w15 s15
  refine bind_ex (ldI_of (w15.ld (i:=2) rfl rfl)) ?_
  refine bind_ex (ldSl_of (w15.ld (i:=2) rfl rfl)) ?_
  obtain ⟨w16,s16⟩:=w15.pick' [1] 4 rfl rfl rfl
  dsimp only [pk,pks,nth,List.drop] at w16 s16
  obtain rfl:=Option.some.inj hp
  exact ⟨_,_,rfl,_,_,_,_,rfl,rfl,w16,(s0.trans (s1.trans (s2.trans (s4.trans (s12.trans (s14.trans (s15.trans s16))))))),((CR.flat (eInt_flat .i64) f11_0).step (s14.trans (s15.trans s16)))⟩
def dp.Q (H0:Hp) (Ri R0:List Rs)  (r:Bool) (v:AV) (H':Hp):Prop:=v = (.bool r)∧Out H0 Ri H' (R0) fun R=>True
def dp.p (F:Nat) (aa:Int) (ag:Int) (cO:Int):Option (Bool):=(bif (decide (ag ≤ aa)) then (some (decide (aa ≤ cO))) else (some false))
theorem dp.P {F:Nat} {aa ag cO:Int} {H:Hp} {R0:List Rs}  (h0:Inn H R0 fun R=>True) {r:Bool} (hp:dp.p F aa ag cO = some r):∃ v H',dp.tw F aa ag cO H = some (v,H')∧dp.Q H R0 R0  r v H':=by
 obtain ⟨w0,_⟩:=h0
 unfold dp.p at hp
 unfold dp.tw dp.twX
 have s0:=w0.rf
 refine bif_ex (fun hb=>?_) (fun hb=>?_)
 ·replace hp:=bif_t hb hp
  obtain rfl:=Option.some.inj hp
  exact ⟨_,_,rfl,rfl,w0,s0,trivial⟩
 ·replace hp:=bif_f hb hp
  obtain rfl:=Option.some.inj hp
  exact ⟨_,_,rfl,rfl,w0,s0,trivial⟩
def dw.Q (H0:Hp) (Ri R0:List Rs)  (r:Int) (v:AV) (H':Hp):Prop:=v = (.int .i64 r)∧Out H0 Ri H' (R0) fun R=>True
def dw.p (F:Nat) (bD:List Int):Option (Int):=some (bD.length:Int)
theorem dw.P {F:Nat} {eL:ON} {dq:Nat} {eM:Cap} {bD:List Int} {H:Hp} {R0:List Rs} (gr:dq = bD.length) (h0:Inn H R0 fun R=>ROs (eInt .i64) H R ⟨eL,dq,eM⟩ bD) {r:Int} (hp:dw.p F bD = some r):∃ v H',dw.tw F ⟨eL,dq,eM⟩ H = some (v,H')∧dw.Q H R0 R0  r v H':=by
 obtain ⟨w0,gx⟩:=h0
 subst gr
 unfold dw.p at hp
 unfold dw.tw dw.twX
 have s0:=w0.rf
 obtain rfl:=Option.some.inj hp
 exact ⟨_,_,rfl,rfl,w0,s0,trivial⟩
def dV.Q (H0:Hp) (Ri R0:List Rs)  (r:Bool) (v:AV) (H':Hp):Prop:=v = (.bool r)∧Out H0 Ri H' (R0) fun R=>True
def dV.p (F:Nat) (aa:Int):Option (Bool):=(dp.p F aa (-1000000000000) 1000000000000).bind fun r1=>some (!r1)
theorem dV.P {F:Nat} {aa:Int} {H:Hp} {R0:List Rs}  (h0:Inn H R0 fun R=>True) {r:Bool} (hp:dV.p F aa = some r):∃ v H',dV.tw F aa H = some (v,H')∧dV.Q H R0 R0  r v H':=by
 obtain ⟨w0,_⟩:=h0
 unfold dV.p at hp
 unfold dV.tw dV.twX
 have s0:=w0.rf
 obtain ⟨r1,e1,hp⟩:=bind_some' hp
 refine call_ex (dp.P ⟨w0,trivial⟩ e1) ?_
 rintro _ H2 ⟨rfl,w2,s2,_⟩
 refine bind_ex rfl ?_
 obtain rfl:=Option.some.inj hp
 exact ⟨_,_,rfl,rfl,w2,(s0.trans s2),trivial⟩
def cB.Q (H0:Hp) (Ri R0:List Rs)  (r:Int) (v:AV) (H':Hp):Prop:=v = (.int .i64 r)∧Out H0 Ri H' (R0) fun R=>True
def cB.S13 (H0:Hp) (Ri R0:List Rs)  (C:Sl→Int→Int→Hp→OA) (pC:List Int→Int→Int→Option (Int)):Prop:=∀ {kX:ON} {ku:Nat} {kY:Cap} {gQ:List Int} {eB dF:Int},∀ {H:Hp},ku = gQ.length→(Out H0 Ri H R0 fun R=>ROs (eInt .i64) H R ⟨kX,ku,kY⟩ gQ)→∀ {r:Int},pC gQ eB dF = some r→∃ v H',C ⟨kX,ku,kY⟩ eB dF H = some (v,H')∧cB.Q H0 Ri R0  r v H'
def cB.pl13 (F:Nat) :Nat→List Int→Int→Int→Option (Int)
 | 0,_,_,_=>none
 | k + 1,gQ,eB,dF=>(bif (decide (dF < eB)) then ((ix gQ dF).bind fun n1=>(dV.p F (gt gQ n1)).bind fun r2=>(bif r2 then (some dF) else (cB.pl13 F k gQ eB (IntKind.i64.wrap (dF + 1))))) else (some (-1)))
termination_by structural n=>n
theorem cB.l13_P {F:Nat} {H0:Hp} {Ri R0:List Rs}  :∀ k,cB.S13 H0 Ri R0  (cB.l13 F (dV.tw F)  k) (cB.pl13 F  k):=by
 intro k
 induction k with
 | zero=>
  intro kX ku kY gQ eB dF H nK h0 r hp
  exact nomatch (show (none:Option (Int)) = some r from hp)
 | succ k ih=>
  intro kX ku kY gQ eB dF H nK h0 r hp
  obtain ⟨w0,s0,nL⟩:=h0
  subst nK
  unfold cB.pl13 at hp
  unfold cB.l13
  refine bif_ex (fun hb=>?_) (fun hb=>?_)
  ·replace hp:=bif_t hb hp
   obtain ⟨n1,g1,hp⟩:=bind_some' hp
   obtain ⟨p1,q1,i1,h1,j1⟩:=ROs.ixr nL rfl g1
   refine bind_ex i1 ?_
   have h1:_ = [_]:=h1
   subst h1
   refine bind_ex (ldI_of (j1 0 _ rfl)) ?_
   obtain ⟨r2,e2,hp⟩:=bind_some' hp
   refine call_ex (dV.P ⟨w0,trivial⟩ e2) ?_
   rintro _ H3 ⟨rfl,w3,s3,_⟩
   refine bind_ex rfl ?_
   refine bif_ex (fun hb=>?_) (fun hb=>?_)
   ·replace hp:=bif_t hb hp
    obtain rfl:=Option.some.inj hp
    exact ⟨_,_,rfl,rfl,w3,(s0.trans s3),trivial⟩
   ·replace hp:=bif_f hb hp
    exact ih rfl ⟨w3,(s0.trans s3),(nL.step s3)⟩ hp
  ·replace hp:=bif_f hb hp
   obtain rfl:=Option.some.inj hp
   exact ⟨_,_,rfl,rfl,w0,s0,trivial⟩
def cB.p (F:Nat) (bD:List Int):Option (Int):=cB.pl13 F F bD (bD.length:Int) 0
theorem cB.P {F:Nat} {eL:ON} {dq:Nat} {eM:Cap} {bD:List Int} {H:Hp} {R0:List Rs} (gr:dq = bD.length) (h0:Inn H R0 fun R=>ROs (eInt .i64) H R ⟨eL,dq,eM⟩ bD) {r:Int} (hp:cB.p F bD = some r):∃ v H',cB.tw F ⟨eL,dq,eM⟩ H = some (v,H')∧cB.Q H R0 R0  r v H':=by
 obtain ⟨w0,gx⟩:=h0
 subst gr
 unfold cB.p at hp
 unfold cB.tw cB.twX
 have s0:=w0.rf
 exact cB.l13_P F rfl ⟨w0,s0,gx⟩ hp
def eh.Q (H0:Hp) (Ri R0:List Rs)  (r:Bool) (v:AV) (H':Hp):Prop:=v = (.bool r)∧Out H0 Ri H' (R0) fun R=>True
def eh.p (F:Nat) (bD:List Int):Option (Bool):=(cB.p F bD).bind fun r1=>some (decide (r1 ≥ 0))
theorem eh.P {F:Nat} {eL:ON} {dq:Nat} {eM:Cap} {bD:List Int} {H:Hp} {R0:List Rs} (gr:dq = bD.length) (h0:Inn H R0 fun R=>ROs (eInt .i64) H R ⟨eL,dq,eM⟩ bD) {r:Bool} (hp:eh.p F bD = some r):∃ v H',eh.tw F ⟨eL,dq,eM⟩ H = some (v,H')∧eh.Q H R0 R0  r v H':=by
 obtain ⟨w0,gx⟩:=h0
 subst gr
 unfold eh.p at hp
 unfold eh.tw eh.twX
 have s0:=w0.rf
 obtain ⟨r1,e1,hp⟩:=bind_some' hp
 refine call_ex (cB.P rfl ⟨w0,gx⟩ e1) ?_
 rintro _ H2 ⟨rfl,w2,s2,_⟩
 refine bind_ex rfl ?_
 obtain rfl:=Option.some.inj hp
 exact ⟨_,_,rfl,rfl,w2,(s0.trans s2),trivial⟩
def dW.Q (H0:Hp) (Ri R0:List Rs)  (r:Bool) (v:AV) (H':Hp):Prop:=v = (.bool r)∧Out H0 Ri H' (R0) fun R=>True
def dW.p (F:Nat) (aa:Int) (ac:Int) (bb:List Int):Option (Bool):=(dp.p F aa 0 48).bind fun r2=>(bif r2 then ((dp.p F ac 0 48).bind fun r4=>(bif r4 then ((dw.p F bb).bind fun r6=>(bif (r6 == (IntKind.i64.wrap (aa * ac))) then ((eh.p F bb).bind fun r9=>some (!r9)) else (some false))) else (some false))) else (some false))
theorem dW.P {F:Nat} {aa ac:Int} {cV:ON} {bA:Nat} {cW:Cap} {bb:List Int} {H:Hp} {R0:List Rs} (fD:bA = bb.length) (h0:Inn H R0 fun R=>ROs (eInt .i64) H R ⟨cV,bA,cW⟩ bb) {r:Bool} (hp:dW.p F aa ac bb = some r):∃ v H',dW.tw F aa ac ⟨cV,bA,cW⟩ H = some (v,H')∧dW.Q H R0 R0  r v H':=by
 obtain ⟨w0,eW⟩:=h0
 subst fD
 unfold dW.p at hp
 unfold dW.tw dW.twX
 have s0:=w0.rf
 refine new_k w0 fun H1 w1 s1=>?_
 refine bind_ex (ldI_of (w1.ld (i:=0) rfl rfl)) ?_
 obtain ⟨r2,e2,hp⟩:=bind_some' hp
 refine call_ex (dp.P ⟨w1,trivial⟩ e2) ?_
 rintro _ H3 ⟨rfl,w3,s3,_⟩
 refine bind_ex rfl ?_
 refine bif_ex (fun hb=>?_) (fun hb=>?_)
 ·replace hp:=bif_t hb hp
  refine bind_ex (ldI_of (w3.ld (i:=0) rfl rfl)) ?_
  obtain ⟨r4,e4,hp⟩:=bind_some' hp
  refine call_ex (dp.P ⟨w3,trivial⟩ e4) ?_
  rintro _ H5 ⟨rfl,w5,s5,_⟩
  refine bind_ex rfl ?_
  refine bif_ex (fun hb=>?_) (fun hb=>?_)
  ·replace hp:=bif_t hb hp
   refine bind_ex (ldSl_of (w5.ld (i:=0) rfl rfl)) ?_
   obtain ⟨r6,e6,hp⟩:=bind_some' hp
   refine call_ex (dw.P rfl ⟨w5,(eW.step (s1.trans (s3.trans s5)))⟩ e6) ?_
   rintro _ H7 ⟨rfl,w7,s7,_⟩
   refine bind_ex rfl ?_
   refine ifs_ex (W.cons_of (Rn:=[]) w5 w7 s7) ?_
   refine bind_ex (ldI_of (w7.ld (i:=0) rfl rfl)) ?_
   refine bind_ex (ldI_of (w7.ld (i:=0) rfl rfl)) ?_
   refine bif_ex (fun hb=>?_) (fun hb=>?_)
   ·replace hp:=bif_t hb hp
    refine bind_ex (ldSl_of (w7.ld (i:=0) rfl rfl)) ?_
    obtain ⟨r9,e9,hp⟩:=bind_some' hp
    refine call_ex (eh.P rfl ⟨w7,(eW.step (s1.trans (s3.trans (s5.trans s7))))⟩ e9) ?_
    rintro _ H10 ⟨rfl,w10,s10,_⟩
    refine bind_ex rfl ?_
    obtain ⟨w11,s11⟩:=w10.pick' [] 1 rfl rfl rfl
    dsimp only [pk,pks,nth,List.drop] at w11 s11
    obtain rfl:=Option.some.inj hp
    exact ⟨_,_,rfl,rfl,w11,(s0.trans (s1.trans (s3.trans (s5.trans (s7.trans (s10.trans s11)))))),trivial⟩
   ·replace hp:=bif_f hb hp
    obtain ⟨w12,s12⟩:=w7.pick' [] 1 rfl rfl rfl
    dsimp only [pk,pks,nth,List.drop] at w12 s12
    obtain rfl:=Option.some.inj hp
    exact ⟨_,_,rfl,rfl,w12,(s0.trans (s1.trans (s3.trans (s5.trans (s7.trans s12))))),trivial⟩
  ·replace hp:=bif_f hb hp
   obtain ⟨w13,s13⟩:=w5.pick' [] 1 rfl rfl rfl
   dsimp only [pk,pks,nth,List.drop] at w13 s13
   obtain rfl:=Option.some.inj hp
   exact ⟨_,_,rfl,rfl,w13,(s0.trans (s1.trans (s3.trans (s5.trans s13)))),trivial⟩
 ·replace hp:=bif_f hb hp
  obtain ⟨w14,s14⟩:=w3.pick' [] 1 rfl rfl rfl
  dsimp only [pk,pks,nth,List.drop] at w14 s14
  obtain rfl:=Option.some.inj hp
  exact ⟨_,_,rfl,rfl,w14,(s0.trans (s1.trans (s3.trans s14))),trivial⟩
def ei.Q (H0:Hp) (Ri R0:List Rs)  (r:Int×Int×List Int) (v:AV) (H':Hp):Prop:=∃ o2a:ON,∃ o2n:Nat,∃ o2k:List AV,v = (.agg [(.int .i64 r.1),(.int .i64 r.2.1),(.sl ⟨o2a,o2n,.ex o2n⟩)])∧o2n = (r.2.2).length∧Out H0 Ri H' (Rs.own ⟨o2a,o2n,.ex o2n⟩ (eInt .i64).z o2k :: R0) fun R=>CR (eInt .i64) H' R o2k (r.2.2)
def ei.p (F:Nat) (aa:Int) (ag:Int):Option (Int×Int×List Int):=(mkn (IntKind.i64.wrap (aa * ag)) (0:Int)).bind fun l2=>some (aa,ag,l2)
theorem ei.P {F:Nat} {aa ag:Int} {H:Hp} {R0:List Rs}  (h0:Inn H R0 fun R=>True) {r:Int×Int×List Int} (hp:ei.p F aa ag = some r):∃ v H',ei.tw F aa ag H = some (v,H')∧ei.Q H R0 R0  r v H':=by
 obtain ⟨w0,_⟩:=h0
 unfold ei.p at hp
 unfold ei.tw ei.twX
 have s0:=w0.rf
 refine new_k w0 fun H1 w1 s1=>?_
 obtain ⟨l2,e2,hp⟩:=bind_some' hp
 refine mk_k (eInt .i64) (0:Int) w1 rfl rfl rfl e2 fun H3 k3 w3 s3 c3=>?_
 refine st_k w3 (i:=1) rfl rfl rfl fun H4 w4 s4=>?_
 dsimp only [List.set] at w4 s4
 refine st_k w4 (i:=1) rfl rfl rfl fun H5 w5 s5=>?_
 dsimp only [List.set] at w5 s5
 refine st_k w5 (i:=1) rfl rfl rfl fun H6 w6 s6=>?_
 dsimp only [List.set] at w6 s6
 refine bind_ex (ldI_of (w6.ld (i:=1) rfl rfl)) ?_
 refine bind_ex (ldI_of (w6.ld (i:=1) rfl rfl)) ?_
 refine bind_ex (ldSl_of (w6.ld (i:=1) rfl rfl)) ?_
 obtain ⟨w7,s7⟩:=w6.pick' [0] 2 rfl rfl rfl
 dsimp only [pk,pks,nth,List.drop] at w7 s7
 obtain rfl:=Option.some.inj hp
 exact ⟨_,_,rfl,_,_,_,rfl,rfl,w7,(s0.trans (s1.trans (s3.trans (s4.trans (s5.trans (s6.trans s7)))))),(c3.step (s4.trans (s5.trans (s6.trans s7))))⟩
def bP.Q (H0:Hp) (Ri R0:List Rs)  (r:Int×Int×List Int) (v:AV) (H':Hp):Prop:=∃ o2a:ON,∃ o2n:Nat,∃ o2c:Cap,∃ o2k:List AV,v = (.agg [(.int .i64 r.1),(.int .i64 r.2.1),(.sl ⟨o2a,o2n,o2c⟩)])∧o2n = (r.2.2).length∧Out H0 Ri H' (Rs.own ⟨o2a,o2n,o2c⟩ (eInt .i64).z o2k :: R0) fun R=>CR (eInt .i64) H' R o2k (r.2.2)
def bP.S29 (H0:Hp) (Ri R0:List Rs)  (C:Nat→Nat→Nat→Nat→Int→Int→Hp→OA) (pC:Int→Int→List Int→Int→Int→Option (Int×Int×List Int)):Prop:=∀ {nX nY kM kG jN iZ:Int} {mH mI:ON} {md ck mf fH:Nat} {mJ mK:Cap} {mL jT:List Int} {mM mN:List AV},∀ {H:Hp},md = mL.length→mf = jT.length→(Out H0 Ri H (Rs.own ⟨mH,md,mJ⟩ (eInt .i64).z mM :: Rs.blk ck [.int .i64 nX,.int .i64 nY,.sl ⟨mH,md,mJ⟩] :: Rs.own ⟨mI,mf,mK⟩ (eInt .i64).z mN :: Rs.blk fH [.int .i64 kM,.int .i64 kG,.sl ⟨mI,mf,mK⟩] :: R0) fun R=>CR (eInt .i64) H R mM mL∧CR (eInt .i64) H R mN jT)→∀ {r:Int×Int×List Int},pC kM kG jT jN iZ = some r→∃ v H',C ck 0 fH 0 jN iZ H = some (v,H')∧bP.Q H0 Ri R0  r v H'
def bP.pl29 (F:Nat) :Nat→Int→Int→List Int→Int→Int→Option (Int×Int×List Int)
 | 0,_,_,_,_,_=>none
 | k + 1,kM,kG,jT,jN,iZ=>(bif (decide (iZ < jN)) then ((ix jT (IntKind.i64.wrap ((IntKind.i64.wrap (iZ * kG)) + iZ))).bind fun n2=>(some (jT.set n2 1)).bind fun l3=>bP.pl29 F k kM kG l3 jN (IntKind.i64.wrap (iZ + 1))) else (some (kM,kG,jT)))
termination_by structural n=>n
theorem bP.l29_P {F:Nat} {H0:Hp} {Ri R0:List Rs}  :∀ k,bP.S29 H0 Ri R0  (bP.l29 F (ei.tw F) (aO.tw F)  k) (bP.pl29 F  k):=by
 intro k
 induction k with
 | zero=>
  intro nX nY kM kG jN iZ mH mI md ck mf fH mJ mK mL jT mM mN H p_ qa h0 r hp
  exact nomatch (show (none:Option (Int×Int×List Int)) = some r from hp)
 | succ k ih=>
  intro nX nY kM kG jN iZ mH mI md ck mf fH mJ mK mL jT mM mN H p_ qa h0 r hp
  obtain ⟨w0,s0,uE,nZ⟩:=h0
  subst p_
  subst qa
  unfold bP.pl29 at hp
  unfold bP.l29
  refine bif_ex (fun hb=>?_) (fun hb=>?_)
  ·replace hp:=bif_t hb hp
   refine bind_ex (ldI_of (w0.ld (i:=3) rfl rfl)) ?_
   refine bind_ex (ldI_of (w0.ld (i:=3) rfl rfl)) ?_
   refine bind_ex (ldSl_of (w0.ld (i:=3) rfl rfl)) ?_
   refine aO.inl ?_
   refine new_k w0 fun H1 w1 s1=>?_
   refine bind_ex (ldSl_of (w1.ld (i:=0) rfl rfl)) ?_
   refine bind_ex (ldI_of (w1.ld (i:=0) rfl rfl)) ?_
   obtain ⟨n2,g2,hp⟩:=bind_some' hp
   obtain ⟨p2,q2,i2,h2,j2⟩:=W.ixo (E:=(eInt .i64)) w1 (i:=3) rfl rfl (nZ.step s1) g2
   refine bind_ex i2 ?_
   refine ⟨_,_,rfl,?_⟩
   refine bind_ex rfl ?_
   obtain ⟨l3,e3,hp⟩:=bind_some' hp
   refine sto_k (eInt .i64) w1 (i:=3) (j:=0) (p:=p2) rfl rfl (nZ.step s1) g2 i2 e3 rfl rfl (fun _ h=>by have h:_ = [_]:=h; subst h; exact rfl) fun H4 k4 w4 s4 c4=>?_
   dsimp only [List.set] at w4 s4 c4
   obtain ⟨w5,s5⟩:=w4.pick' [1,2,3,4] 5 rfl rfl rfl
   dsimp only [pk,pks,nth,List.drop] at w5 s5
   exact ih rfl ((st_len e3).symm) ⟨w5,(s0.trans (s1.trans (s4.trans s5))),(uE.step (s1.trans (s4.trans s5))),(c4.step s5)⟩ hp
  ·replace hp:=bif_f hb hp
   refine bind_ex (ldI_of (w0.ld (i:=3) rfl rfl)) ?_
   refine bind_ex (ldI_of (w0.ld (i:=3) rfl rfl)) ?_
   refine bind_ex (ldSl_of (w0.ld (i:=3) rfl rfl)) ?_
   refine st_k w0 (i:=1) rfl rfl rfl fun H6 w6 s6=>?_
   dsimp only [List.set] at w6 s6
   refine st_k w6 (i:=1) rfl rfl rfl fun H7 w7 s7=>?_
   dsimp only [List.set] at w7 s7
   refine st_k w7 (i:=1) rfl rfl rfl fun H8 w8 s8=>?_
   dsimp only [List.set] at w8 s8
   refine bind_ex (ldI_of (w8.ld (i:=1) rfl rfl)) ?_
   refine bind_ex (ldI_of (w8.ld (i:=1) rfl rfl)) ?_
   refine bind_ex (ldSl_of (w8.ld (i:=1) rfl rfl)) ?_
   obtain ⟨w9,s9⟩:=w8.pick' [2] 4 rfl rfl rfl
   dsimp only [pk,pks,nth,List.drop] at w9 s9
   obtain rfl:=Option.some.inj hp
   exact ⟨_,_,rfl,_,_,_,_,rfl,rfl,w9,(s0.trans (s6.trans (s7.trans (s8.trans s9)))),(nZ.step (s6.trans (s7.trans (s8.trans s9))))⟩
def bP.p (F:Nat) (aa:Int):Option (Int×Int×List Int):=(ei.p F aa aa).bind fun r2=>bP.pl29 F F r2.1 r2.2.1 r2.2.2 aa 0
theorem bP.P {F:Nat} {aa:Int} {H:Hp} {R0:List Rs}  (h0:Inn H R0 fun R=>True) {r:Int×Int×List Int} (hp:bP.p F aa = some r):∃ v H',bP.tw F aa H = some (v,H')∧bP.Q H R0 R0  r v H':=by
 obtain ⟨w0,_⟩:=h0
 unfold bP.p at hp
 unfold bP.tw bP.twX
 have s0:=w0.rf
 refine new_k w0 fun H1 w1 s1=>?_
 obtain ⟨r2,e2,hp⟩:=bind_some' hp
 refine call_ex (ei.P ⟨w1,trivial⟩ e2) ?_
 rintro _ H3 ⟨o2a_3,o2n_3,o2k_3,rfl,rfl,w3,s3,f3_0⟩
 refine bind_ex rfl ?_
 refine bind_ex rfl ?_
 refine bind_ex rfl ?_
 refine bind_ex rfl ?_
 refine bind_ex rfl ?_
 refine bind_ex rfl ?_
 refine bind_ex rfl ?_
 refine new_k w3 fun H4 w4 s4=>?_
 refine st_k w4 (i:=0) rfl rfl rfl fun H5 w5 s5=>?_
 dsimp only [List.set] at w5 s5
 refine st_k w5 (i:=0) rfl rfl rfl fun H6 w6 s6=>?_
 dsimp only [List.set] at w6 s6
 refine st_k w6 (i:=0) rfl rfl rfl fun H7 w7 s7=>?_
 dsimp only [List.set] at w7 s7
 obtain ⟨w8,s8⟩:=w7.nilS (eInt .i64).z (by decide)
 obtain ⟨w9,s9⟩:=w8.pick' [0,3,2,1] 4 rfl rfl rfl
 dsimp only [pk,pks,nth,List.drop] at w9 s9
 exact bP.l29_P F rfl rfl ⟨w9,(s0.trans (s1.trans (s3.trans (s4.trans (s5.trans (s6.trans (s7.trans (s8.trans s9)))))))),((CR.empty:CR (eInt .i64) _ _ [] []).step s9),(f3_0.step (s4.trans (s5.trans (s6.trans (s7.trans (s8.trans s9))))))⟩ hp
def ev.Q (H0:Hp) (Ri R0:List Rs)  (r:List Int) (v:AV) (H':Hp):Prop:=∃ o0a:ON,∃ o0n:Nat,∃ o0c:Cap,∃ o0k:List AV,v = (.sl ⟨o0a,o0n,o0c⟩)∧o0n = (r).length∧Out H0 Ri H' (Rs.own ⟨o0a,o0n,o0c⟩ (eInt .i64).z o0k :: R0) fun R=>CR (eInt .i64) H' R o0k (r)
def ev.p (F:Nat) (bD:List Int):Option (List Int):=apn ([]:List Int) bD
theorem ev.P {F:Nat} {eL:ON} {dq:Nat} {eM:Cap} {bD:List Int} {H:Hp} {R0:List Rs} (gr:dq = bD.length) (h0:Inn H R0 fun R=>ROs (eInt .i64) H R ⟨eL,dq,eM⟩ bD) {r:List Int} (hp:ev.p F bD = some r):∃ v H',ev.tw F ⟨eL,dq,eM⟩ H = some (v,H')∧ev.Q H R0 R0  r v H':=by
 obtain ⟨w0,f0⟩:=h0
 subst gr
 unfold ev.p at hp
 unfold ev.tw ev.twX
 have s0:=w0.rf
 refine bif_ex (fun hb=>?_) (fun hb=>?_)
 ·obtain ⟨w1,s1⟩:=w0.nilS (eInt .i64).z (by decide)
  obtain rfl:=ROs.none_nil f0 (Option.isNone_iff_eq_none.1 hb)
  obtain rfl:r = []:=(apn_some hp).2
  exact ⟨_,_,rfl,none,0,.ex 0,[],rfl,rfl,w1,s0.trans s1,CR.empty⟩
 ·refine newS_k (eInt .i64) w0 (n:=0) (l:=[]) rfl CR.empty rfl fun H2 w2 s2 c2=>?_
  obtain ⟨xs,hx,cx⟩:=(f0.step s2).row rfl
  refine bind_ex hx ?_
  refine app_k (eInt .i64) w2 (i:=0) rfl rfl c2 cx rfl rfl hp fun a d H3 w3 s3 c3 _=>?_
  dsimp only [List.set] at w3 s3 c3
  exact ⟨_,_,rfl,_,_,_,_,rfl,rfl,w3,s0.trans (s2.trans s3),c3⟩
def dX.Q (H0:Hp) (Ri R0:List Rs)  (r:Int×Int×List Int) (v:AV) (H':Hp):Prop:=∃ o2a:ON,∃ o2n:Nat,∃ o2c:Cap,∃ o2k:List AV,v = (.agg [(.int .i64 r.1),(.int .i64 r.2.1),(.sl ⟨o2a,o2n,o2c⟩)])∧o2n = (r.2.2).length∧Out H0 Ri H' (Rs.own ⟨o2a,o2n,o2c⟩ (eInt .i64).z o2k :: R0) fun R=>CR (eInt .i64) H' R o2k (r.2.2)
def dX.p (F:Nat) (aa:Int) (ac:Int) (bb:List Int):Option (Int×Int×List Int):=(ev.p F bb).bind fun r3=>some (aa,ac,r3)
theorem dX.P {F:Nat} {aa ac:Int} {cV:ON} {bA:Nat} {cW:Cap} {bb:List Int} {H:Hp} {R0:List Rs} (fD:bA = bb.length) (h0:Inn H R0 fun R=>ROs (eInt .i64) H R ⟨cV,bA,cW⟩ bb) {r:Int×Int×List Int} (hp:dX.p F aa ac bb = some r):∃ v H',dX.tw F aa ac ⟨cV,bA,cW⟩ H = some (v,H')∧dX.Q H R0 R0  r v H':=by
 obtain ⟨w0,eW⟩:=h0
 subst fD
 unfold dX.p at hp
 unfold dX.tw dX.twX
 have s0:=w0.rf
 refine new_k w0 fun H1 w1 s1=>?_
 refine new_k w1 fun H2 w2 s2=>?_
 refine bind_ex (ldSl_of (w2.ld (i:=1) rfl rfl)) ?_
 obtain ⟨r3,e3,hp⟩:=bind_some' hp
 refine call_ex (ev.P rfl ⟨w2,(eW.step (s1.trans s2))⟩ e3) ?_
 rintro _ H4 ⟨o0a_4,o0n_4,o0c_4,o0k_4,rfl,rfl,w4,s4,f4_0⟩
 refine bind_ex rfl ?_
 refine st_k w4 (i:=2) rfl rfl rfl fun H5 w5 s5=>?_
 dsimp only [List.set] at w5 s5
 refine bind_ex (ldI_of (w5.ld (i:=2) rfl rfl)) ?_
 refine bind_ex (ldI_of (w5.ld (i:=2) rfl rfl)) ?_
 refine bind_ex (ldSl_of (w5.ld (i:=2) rfl rfl)) ?_
 refine st_k w5 (i:=1) rfl rfl rfl fun H6 w6 s6=>?_
 dsimp only [List.set] at w6 s6
 refine st_k w6 (i:=1) rfl rfl rfl fun H7 w7 s7=>?_
 dsimp only [List.set] at w7 s7
 refine st_k w7 (i:=1) rfl rfl rfl fun H8 w8 s8=>?_
 dsimp only [List.set] at w8 s8
 refine bind_ex (ldI_of (w8.ld (i:=1) rfl rfl)) ?_
 refine bind_ex (ldI_of (w8.ld (i:=1) rfl rfl)) ?_
 refine bind_ex (ldSl_of (w8.ld (i:=1) rfl rfl)) ?_
 obtain ⟨w9,s9⟩:=w8.pick' [0] 3 rfl rfl rfl
 dsimp only [pk,pks,nth,List.drop] at w9 s9
 obtain rfl:=Option.some.inj hp
 exact ⟨_,_,rfl,_,_,_,_,rfl,rfl,w9,(s0.trans (s1.trans (s2.trans (s4.trans (s5.trans (s6.trans (s7.trans (s8.trans s9)))))))),(f4_0.step (s5.trans (s6.trans (s7.trans (s8.trans s9)))))⟩
def cm.Q (H0:Hp) (Ri R0:List Rs)  (r:Int) (v:AV) (H':Hp):Prop:=v = (.int .i64 r)∧Out H0 Ri H' (R0) fun R=>True
def cm.p (F:Nat) (aa:Int):Option (Int):=(bif (decide (aa < 0)) then (some (IntKind.i64.wrap (0 - aa))) else (some aa))
theorem cm.P {F:Nat} {aa:Int} {H:Hp} {R0:List Rs}  (h0:Inn H R0 fun R=>True) {r:Int} (hp:cm.p F aa = some r):∃ v H',cm.tw F aa H = some (v,H')∧cm.Q H R0 R0  r v H':=by
 obtain ⟨w0,_⟩:=h0
 unfold cm.p at hp
 unfold cm.tw cm.twX
 have s0:=w0.rf
 refine bif_ex (fun hb=>?_) (fun hb=>?_)
 ·replace hp:=bif_t hb hp
  obtain rfl:=Option.some.inj hp
  exact ⟨_,_,rfl,rfl,w0,s0,trivial⟩
 ·replace hp:=bif_f hb hp
  obtain rfl:=Option.some.inj hp
  exact ⟨_,_,rfl,rfl,w0,s0,trivial⟩
def aI.Q (H0:Hp) (Ri R0:List Rs) (bk aX bl bc aY aT bf bg bw bh:Int) (eE dd de df:Sl) (cv:ON) (bC aa:Nat) (cw:Cap) (dk:List Int) (ax:Bool) (r:Int×Int×Bool) (v:AV) (H':Hp):Prop:=v = (.tup [(.int .i64 r.1),(.int .i64 r.2.1),(.bool r.2.2)])∧Out H0 Ri H' (Rs.blk aa [.int .i64 bk,.int .i64 aX,.sl eE,.int .i64 bl,.int .i64 bc,.sl dd,.int .i64 aY,.int .i64 aT,.sl ⟨cv,bC,cw⟩,.int .i64 bf,.int .i64 bg,.sl de,.int .i64 bw,.int .i64 bh,.sl df,.bool ax] :: R0) fun R=>True
def aI.S29 (H0:Hp) (Ri R0:List Rs) (ay ak aA ap aq ao au av aH aw:Int) (eF cL cM cN:Sl) (aM:ON) (aB az:Nat) (aN:Cap) (cj:List Int) (bz:Bool) (C:Int→Int→Int→Bool→Nat→Nat→Int→Hp→OA) (pC:Int→Int→Int→Bool→Int→Int→List Int→Int→Option (Int×Int×Bool)):Prop:=∀ {da fe fJ ox pS kj:Int} {jy:Bool} {kC:Nat},∀ {H:Hp},aB = cj.length→(Out H0 Ri H (Rs.blk kC [.int .i64 ox,.int .i64 pS,.sl ⟨aM,aB,aN⟩] :: Rs.blk az [.int .i64 ay,.int .i64 ak,.sl eF,.int .i64 aA,.int .i64 ap,.sl cL,.int .i64 aq,.int .i64 ao,.sl ⟨aM,aB,aN⟩,.int .i64 au,.int .i64 av,.sl cM,.int .i64 aH,.int .i64 aw,.sl cN,.bool bz] :: R0) fun R=>ROs (eInt .i64) H R ⟨aM,aB,aN⟩ cj)→∀ {r:Int×Int×Bool},pC da fe fJ jy ox pS cj kj = some r→∃ v H',C da fe fJ jy kC 0 kj H = some (v,H')∧aI.Q H0 Ri R0 ay ak aA ap aq ao au av aH aw eF cL cM cN aM aB az aN cj bz r v H'
def aI.S469 (H0:Hp) (Ri R0:List Rs) (ay ak aA ap aq ao au av aH aw:Int) (eF cL cM cN:Sl) (aM:ON) (aB az:Nat) (aN:Cap) (cj:List Int) (bz:Bool) (C:Int→Int→Int→Bool→Nat→Nat→Int→Int→Hp→OA) (pC:Int→Int→Int→Bool→Int→Int→List Int→Int→Int→Option (Int×Int×Bool)):Prop:=∀ {gC gU hG mA lj gw gD:Int} {hQ:Bool} {gV:Nat},∀ {H:Hp},aB = cj.length→(Out H0 Ri H (Rs.blk gV [.int .i64 mA,.int .i64 lj,.sl ⟨aM,aB,aN⟩] :: Rs.blk az [.int .i64 ay,.int .i64 ak,.sl eF,.int .i64 aA,.int .i64 ap,.sl cL,.int .i64 aq,.int .i64 ao,.sl ⟨aM,aB,aN⟩,.int .i64 au,.int .i64 av,.sl cM,.int .i64 aH,.int .i64 aw,.sl cN,.bool bz] :: R0) fun R=>ROs (eInt .i64) H R ⟨aM,aB,aN⟩ cj)→∀ {r:Int×Int×Bool},pC gC gU hG hQ mA lj cj gw gD = some r→∃ v H',C gC gU hG hQ gV 0 gw gD H = some (v,H')∧aI.Q H0 Ri R0 ay ak aA ap aq ao au av aH aw eF cL cM cN aM aB az aN cj bz r v H'
def aI.pj9 (F:Nat) (mP:Int→Int→Int→Bool→Int→Int→List Int→Int→Int→Option (Int×Int×Bool)) (pm:Int) (po:Int) (pp:Int) (pq:Bool) (tC:Int) (tD:Int) (cj:List Int) (pr:Int) (ps:Int):Option (Int×Int×Bool):=mP pm po pp pq tC tD cj pr (IntKind.i64.wrap (ps + 1))
theorem aI.j9_P {F:Nat} {H0:Hp} {Ri R0:List Rs} {ay ak aA ap aq ao au av aH aw:Int} {eF cL cM cN:Sl} {aM:ON} {aB az:Nat} {aN:Cap} {cj:List Int} {bz:Bool} {C469_:Int→Int→Int→Bool→Nat→Nat→Int→Int→Hp→OA} {mP:Int→Int→Int→Bool→Int→Int→List Int→Int→Int→Option (Int×Int×Bool)} (hC469:aI.S469 H0 Ri R0 ay ak aA ap aq ao au av aH aw eF cL cM cN aM aB az aN cj bz C469_ mP) {pm po pp tC tD pr ps:Int} {pq:Bool} {ry:Nat} {H:Hp} (jp:aB = cj.length) (h0:Out H0 Ri H (Rs.blk ry [.int .i64 tC,.int .i64 tD,.sl ⟨aM,aB,aN⟩] :: Rs.blk az [.int .i64 ay,.int .i64 ak,.sl eF,.int .i64 aA,.int .i64 ap,.sl cL,.int .i64 aq,.int .i64 ao,.sl ⟨aM,aB,aN⟩,.int .i64 au,.int .i64 av,.sl cM,.int .i64 aH,.int .i64 aw,.sl cN,.bool bz] :: R0) fun R=>ROs (eInt .i64) H R ⟨aM,aB,aN⟩ cj) {r:Int×Int×Bool} (hp:aI.pj9 F mP pm po pp pq tC tD cj pr ps = some r):∃ v H',aI.j9 F (aO.tw F) (cm.tw F) C469_ pm po pp pq ry 0 pr ps H = some (v,H')∧aI.Q H0 Ri R0 ay ak aA ap aq ao au av aH aw eF cL cM cN aM aB az aN cj bz r v H':=by
 obtain ⟨w0,s0,hB⟩:=h0
 subst jp
 unfold aI.pj9 at hp
 unfold aI.j9
 exact hC469 rfl ⟨w0,s0,hB⟩ hp
def aI.pj7 (F:Nat) (eD:Int→Int→Int→Bool→Int→Int→List Int→Int→Option (Int×Int×Bool)) (pb:Int) (pc:Int) (pd:Int) (pe:Bool) (tE:Int) (tF:Int) (cj:List Int) (pf:Int):Option (Int×Int×Bool):=eD pb pc pd pe tE tF cj (IntKind.i64.wrap (pf + 1))
theorem aI.j7_P {F:Nat} {H0:Hp} {Ri R0:List Rs} {ay ak aA ap aq ao au av aH aw:Int} {eF cL cM cN:Sl} {aM:ON} {aB az:Nat} {aN:Cap} {cj:List Int} {bz:Bool} {C29_:Int→Int→Int→Bool→Nat→Nat→Int→Hp→OA} {eD:Int→Int→Int→Bool→Int→Int→List Int→Int→Option (Int×Int×Bool)} (hC29:aI.S29 H0 Ri R0 ay ak aA ap aq ao au av aH aw eF cL cM cN aM aB az aN cj bz C29_ eD) {pb pc pd tE tF pf:Int} {pe:Bool} {rv:Nat} {H:Hp} (jp:aB = cj.length) (h0:Out H0 Ri H (Rs.blk rv [.int .i64 tE,.int .i64 tF,.sl ⟨aM,aB,aN⟩] :: Rs.blk az [.int .i64 ay,.int .i64 ak,.sl eF,.int .i64 aA,.int .i64 ap,.sl cL,.int .i64 aq,.int .i64 ao,.sl ⟨aM,aB,aN⟩,.int .i64 au,.int .i64 av,.sl cM,.int .i64 aH,.int .i64 aw,.sl cN,.bool bz] :: R0) fun R=>ROs (eInt .i64) H R ⟨aM,aB,aN⟩ cj) {r:Int×Int×Bool} (hp:aI.pj7 F eD pb pc pd pe tE tF cj pf = some r):∃ v H',aI.j7 F (aO.tw F) (cm.tw F) C29_ pb pc pd pe rv 0 pf H = some (v,H')∧aI.Q H0 Ri R0 ay ak aA ap aq ao au av aH aw eF cL cM cN aM aB az aN cj bz r v H':=by
 obtain ⟨w0,s0,hB⟩:=h0
 subst jp
 unfold aI.pj7 at hp
 unfold aI.j7
 exact hC29 rfl ⟨w0,s0,hB⟩ hp
def aI.pj8 (F:Nat) (eD:Int→Int→Int→Bool→Int→Int→List Int→Int→Option (Int×Int×Bool)) (pg:Int) (ph:Int) (pi:Int) (pj:Bool) (tG:Int) (tH:Int) (cj:List Int) (pl:Int):Option (Int×Int×Bool):=aI.pj7 F eD pg ph pi pj tG tH cj pl
theorem aI.j8_P {F:Nat} {H0:Hp} {Ri R0:List Rs} {ay ak aA ap aq ao au av aH aw:Int} {eF cL cM cN:Sl} {aM:ON} {aB az:Nat} {aN:Cap} {cj:List Int} {bz:Bool} {C29_:Int→Int→Int→Bool→Nat→Nat→Int→Hp→OA} {eD:Int→Int→Int→Bool→Int→Int→List Int→Int→Option (Int×Int×Bool)} (hC29:aI.S29 H0 Ri R0 ay ak aA ap aq ao au av aH aw eF cL cM cN aM aB az aN cj bz C29_ eD) {pg ph pi tG tH pl:Int} {pj:Bool} {rx:Nat} {H:Hp} (jp:aB = cj.length) (h0:Out H0 Ri H (Rs.blk rx [.int .i64 tG,.int .i64 tH,.sl ⟨aM,aB,aN⟩] :: Rs.blk az [.int .i64 ay,.int .i64 ak,.sl eF,.int .i64 aA,.int .i64 ap,.sl cL,.int .i64 aq,.int .i64 ao,.sl ⟨aM,aB,aN⟩,.int .i64 au,.int .i64 av,.sl cM,.int .i64 aH,.int .i64 aw,.sl cN,.bool bz] :: R0) fun R=>ROs (eInt .i64) H R ⟨aM,aB,aN⟩ cj) {r:Int×Int×Bool} (hp:aI.pj8 F eD pg ph pi pj tG tH cj pl = some r):∃ v H',aI.j8 F (aO.tw F) (cm.tw F) C29_ pg ph pi pj rx 0 pl H = some (v,H')∧aI.Q H0 Ri R0 ay ak aA ap aq ao au av aH aw eF cL cM cN aM aB az aN cj bz r v H':=by
 obtain ⟨w0,s0,hB⟩:=h0
 subst jp
 unfold aI.pj8 at hp
 unfold aI.j8
 exact aI.j7_P (@hC29) rfl ⟨w0,s0,hB⟩ hp
def aI.pl469 (F:Nat) (eD:Int→Int→Int→Bool→Int→Int→List Int→Int→Option (Int×Int×Bool)):Nat→Int→Int→Int→Bool→Int→Int→List Int→Int→Int→Option (Int×Int×Bool)
 | 0,_,_,_,_,_,_,_,_,_=>none
 | k + 1,gC,gU,hG,hQ,mA,lj,cj,gw,gD=>(bif (decide (gD < lj)) then ((ix cj (IntKind.i64.wrap ((IntKind.i64.wrap (gw * lj)) + gD))).bind fun n2=>(cm.p F (gt cj n2)).bind fun r3=>(bif (r3 != 0) then ((bif (!hQ) then (aI.pl469 F eD k gC gw gD true mA lj cj gw (IntKind.i64.wrap (gD + 1))) else ((ix cj (IntKind.i64.wrap ((IntKind.i64.wrap (gU * lj)) + hG))).bind fun n7=>(cm.p F (gt cj n7)).bind fun r8=>(bif (decide (r3 < r8)) then (aI.pj9 F (aI.pl469 F eD k) gC gw gD true mA lj cj gw gD) else (aI.pj9 F (aI.pl469 F eD k) gC gU hG hQ mA lj cj gw gD))))) else (aI.pl469 F eD k gC gU hG hQ mA lj cj gw (IntKind.i64.wrap (gD + 1))))) else (aI.pj8 F eD gC gU hG hQ mA lj cj gw))
termination_by structural n=>n
theorem aI.l469_P {F:Nat} {H0:Hp} {Ri R0:List Rs} {ay ak aA ap aq ao au av aH aw:Int} {eF cL cM cN:Sl} {aM:ON} {aB az:Nat} {aN:Cap} {cj:List Int} {bz:Bool} {C29_:Int→Int→Int→Bool→Nat→Nat→Int→Hp→OA} {eD:Int→Int→Int→Bool→Int→Int→List Int→Int→Option (Int×Int×Bool)} (hC29:aI.S29 H0 Ri R0 ay ak aA ap aq ao au av aH aw eF cL cM cN aM aB az aN cj bz C29_ eD):∀ k,aI.S469 H0 Ri R0 ay ak aA ap aq ao au av aH aw eF cL cM cN aM aB az aN cj bz (aI.l469 F (aO.tw F) (cm.tw F) C29_ k) (aI.pl469 F eD k):=by
 intro k
 induction k with
 | zero=>
  intro gC gU hG mA lj gw gD hQ gV H jp h0 r hp
  exact nomatch (show (none:Option (Int×Int×Bool)) = some r from hp)
 | succ k ih=>
  intro gC gU hG mA lj gw gD hQ gV H jp h0 r hp
  obtain ⟨w0,s0,hB⟩:=h0
  subst jp
  unfold aI.pl469 at hp
  unfold aI.l469
  refine bind_ex (ldI_of (w0.ld (i:=0) rfl rfl)) ?_
  refine bif_ex (fun hb=>?_) (fun hb=>?_)
  ·replace hp:=bif_t hb hp
   refine bind_ex (ldI_of (w0.ld (i:=0) rfl rfl)) ?_
   refine bind_ex (ldI_of (w0.ld (i:=0) rfl rfl)) ?_
   refine bind_ex (ldSl_of (w0.ld (i:=0) rfl rfl)) ?_
   refine aO.inl ?_
   refine new_k w0 fun H1 w1 s1=>?_
   refine bind_ex (ldSl_of (w1.ld (i:=0) rfl rfl)) ?_
   refine bind_ex (ldI_of (w1.ld (i:=0) rfl rfl)) ?_
   obtain ⟨n2,g2,hp⟩:=bind_some' hp
   obtain ⟨p2,q2,i2,h2,j2⟩:=ROs.ixr (hB.step s1) rfl g2
   refine bind_ex i2 ?_
   refine ⟨_,_,rfl,?_⟩
   refine bind_ex rfl ?_
   have h2:_ = [_]:=h2
   subst h2
   refine bind_ex (ldI_of (j2 0 _ rfl)) ?_
   obtain ⟨r3,e3,hp⟩:=bind_some' hp
   refine call_ex (cm.P ⟨w1,trivial⟩ e3) ?_
   rintro _ H4 ⟨rfl,w4,s4,_⟩
   refine bind_ex rfl ?_
   refine bif_ex (fun hb=>?_) (fun hb=>?_)
   ·replace hp:=bif_t hb hp
    refine bif_ex (fun hb=>?_) (fun hb=>?_)
    ·replace hp:=bif_t hb hp
     obtain ⟨w5,s5⟩:=w4.pick' [1,2] 3 rfl rfl rfl
     dsimp only [pk,pks,nth,List.drop] at w5 s5
     exact ih rfl ⟨w5,(s0.trans (s1.trans (s4.trans s5))),(hB.step (s1.trans (s4.trans s5)))⟩ hp
    ·replace hp:=bif_f hb hp
     refine bind_ex (ldI_of (w4.ld (i:=1) rfl rfl)) ?_
     refine bind_ex (ldI_of (w4.ld (i:=1) rfl rfl)) ?_
     refine bind_ex (ldSl_of (w4.ld (i:=1) rfl rfl)) ?_
     refine aO.inl ?_
     refine new_k w4 fun H6 w6 s6=>?_
     refine bind_ex (ldSl_of (w6.ld (i:=0) rfl rfl)) ?_
     refine bind_ex (ldI_of (w6.ld (i:=0) rfl rfl)) ?_
     obtain ⟨n7,g7,hp⟩:=bind_some' hp
     obtain ⟨p7,q7,i7,h7,j7⟩:=ROs.ixr (hB.step (s1.trans (s4.trans s6))) rfl g7
     refine bind_ex i7 ?_
     refine ⟨_,_,rfl,?_⟩
     refine bind_ex rfl ?_
     have h7:_ = [_]:=h7
     subst h7
     refine bind_ex (ldI_of (j7 0 _ rfl)) ?_
     obtain ⟨r8,e8,hp⟩:=bind_some' hp
     refine call_ex (cm.P ⟨w6,trivial⟩ e8) ?_
     rintro _ H9 ⟨rfl,w9,s9,_⟩
     refine bind_ex rfl ?_
     refine bif_ex (fun hb=>?_) (fun hb=>?_)
     ·replace hp:=bif_t hb hp
      obtain ⟨w10,s10⟩:=w9.pick' [2,3] 4 rfl rfl rfl
      dsimp only [pk,pks,nth,List.drop] at w10 s10
      exact aI.j9_P (@ih) rfl ⟨w10,(s0.trans (s1.trans (s4.trans (s6.trans (s9.trans s10))))),(hB.step (s1.trans (s4.trans (s6.trans (s9.trans s10)))))⟩ hp
     ·replace hp:=bif_f hb hp
      obtain ⟨w11,s11⟩:=w9.pick' [2,3] 4 rfl rfl rfl
      dsimp only [pk,pks,nth,List.drop] at w11 s11
      exact aI.j9_P (@ih) rfl ⟨w11,(s0.trans (s1.trans (s4.trans (s6.trans (s9.trans s11))))),(hB.step (s1.trans (s4.trans (s6.trans (s9.trans s11)))))⟩ hp
   ·replace hp:=bif_f hb hp
    obtain ⟨w12,s12⟩:=w4.pick' [1,2] 3 rfl rfl rfl
    dsimp only [pk,pks,nth,List.drop] at w12 s12
    exact ih rfl ⟨w12,(s0.trans (s1.trans (s4.trans s12))),(hB.step (s1.trans (s4.trans s12)))⟩ hp
  ·replace hp:=bif_f hb hp
   exact aI.j8_P (@hC29) rfl ⟨w0,s0,hB⟩ hp
def aI.pj5 (F:Nat)  (oZ:Int) (o_:Int) (pa:Bool):Option (Int×Int×Bool):=some (oZ,o_,pa)
theorem aI.j5_P {F:Nat} {H0:Hp} {Ri R0:List Rs} {ay ak aA ap aq ao au av aH aw:Int} {eF cL cM cN:Sl} {aM:ON} {aB az:Nat} {aN:Cap} {cj:List Int} {bz:Bool}  {oZ o_:Int} {pa:Bool} {H:Hp} (jp:aB = cj.length) (h0:Out H0 Ri H (Rs.blk az [.int .i64 ay,.int .i64 ak,.sl eF,.int .i64 aA,.int .i64 ap,.sl cL,.int .i64 aq,.int .i64 ao,.sl ⟨aM,aB,aN⟩,.int .i64 au,.int .i64 av,.sl cM,.int .i64 aH,.int .i64 aw,.sl cN,.bool bz] :: R0) fun R=>ROs (eInt .i64) H R ⟨aM,aB,aN⟩ cj) {r:Int×Int×Bool} (hp:aI.pj5 F  oZ o_ pa = some r):∃ v H',aI.j5 F (aO.tw F) (cm.tw F)  oZ o_ pa H = some (v,H')∧aI.Q H0 Ri R0 ay ak aA ap aq ao au av aH aw eF cL cM cN aM aB az aN cj bz r v H':=by
 obtain ⟨w0,s0,hB⟩:=h0
 subst jp
 unfold aI.pj5 at hp
 unfold aI.j5
 obtain rfl:=Option.some.inj hp
 exact ⟨_,_,rfl,rfl,w0,s0,trivial⟩
def aI.pl29 (F:Nat) :Nat→Int→Int→Int→Bool→Int→Int→List Int→Int→Option (Int×Int×Bool)
 | 0,_,_,_,_,_,_,_,_=>none
 | k + 1,da,fe,fJ,jy,ox,pS,cj,kj=>(bif (decide (kj < ox)) then (aI.pl469 F (aI.pl29 F k) F da fe fJ jy ox pS cj kj da) else (aI.pj5 F fe fJ jy))
termination_by structural n=>n
theorem aI.l29_P {F:Nat} {H0:Hp} {Ri R0:List Rs} {ay ak aA ap aq ao au av aH aw:Int} {eF cL cM cN:Sl} {aM:ON} {aB az:Nat} {aN:Cap} {cj:List Int} {bz:Bool} :∀ k,aI.S29 H0 Ri R0 ay ak aA ap aq ao au av aH aw eF cL cM cN aM aB az aN cj bz (aI.l29 F (aO.tw F) (cm.tw F)  k) (aI.pl29 F  k):=by
 intro k
 induction k with
 | zero=>
  intro da fe fJ ox pS kj jy kC H jp h0 r hp
  exact nomatch (show (none:Option (Int×Int×Bool)) = some r from hp)
 | succ k ih=>
  intro da fe fJ ox pS kj jy kC H jp h0 r hp
  obtain ⟨w0,s0,hB⟩:=h0
  subst jp
  unfold aI.pl29 at hp
  unfold aI.l29
  refine bind_ex (ldI_of (w0.ld (i:=0) rfl rfl)) ?_
  refine bif_ex (fun hb=>?_) (fun hb=>?_)
  ·replace hp:=bif_t hb hp
   exact aI.l469_P (@ih) F rfl ⟨w0,s0,hB⟩ hp
  ·replace hp:=bif_f hb hp
   obtain ⟨w1,s1⟩:=w0.pick' [1] 2 rfl rfl rfl
   dsimp only [pk,pks,nth,List.drop] at w1 s1
   exact aI.j5_P rfl ⟨w1,(s0.trans s1),(hB.step s1)⟩ hp
def aI.p (F:Nat) (aY:Int) (aT:Int) (dk:List Int) (ae:Int):Option (Int×Int×Bool):=aI.pl29 F F ae 0 0 false aY aT dk ae
theorem aI.P {F:Nat} {bk aX bl bc aY aT bf bg bw bh ae:Int} {eE dd de df:Sl} {cv:ON} {bC aa:Nat} {cw:Cap} {dk:List Int} {ax:Bool} {H:Hp} {R0:List Rs} (jo:bC = dk.length) (h0:Inn H (Rs.blk aa [.int .i64 bk,.int .i64 aX,.sl eE,.int .i64 bl,.int .i64 bc,.sl dd,.int .i64 aY,.int .i64 aT,.sl ⟨cv,bC,cw⟩,.int .i64 bf,.int .i64 bg,.sl de,.int .i64 bw,.int .i64 bh,.sl df,.bool ax] :: R0) fun R=>ROs (eInt .i64) H R ⟨cv,bC,cw⟩ dk) {r:Int×Int×Bool} (hp:aI.p F aY aT dk ae = some r):∃ v H',aI.tw F aa 0 ae H = some (v,H')∧aI.Q H (Rs.blk aa [.int .i64 bk,.int .i64 aX,.sl eE,.int .i64 bl,.int .i64 bc,.sl dd,.int .i64 aY,.int .i64 aT,.sl ⟨cv,bC,cw⟩,.int .i64 bf,.int .i64 bg,.sl de,.int .i64 bw,.int .i64 bh,.sl df,.bool ax] :: R0) R0 bk aX bl bc aY aT bf bg bw bh eE dd de df cv bC aa cw dk ax r v H':=by
 obtain ⟨w0,il⟩:=h0
 subst jo
 unfold aI.p at hp
 unfold aI.tw aI.twX
 have s0:=w0.rf
 refine bind_ex (ldI_of (w0.ld (i:=0) rfl rfl)) ?_
 refine bind_ex (ldI_of (w0.ld (i:=0) rfl rfl)) ?_
 refine bind_ex (ldSl_of (w0.ld (i:=0) rfl rfl)) ?_
 refine new_k w0 fun H1 w1 s1=>?_
 refine st_k w1 (i:=0) rfl rfl rfl fun H2 w2 s2=>?_
 dsimp only [List.set] at w2 s2
 refine st_k w2 (i:=0) rfl rfl rfl fun H3 w3 s3=>?_
 dsimp only [List.set] at w3 s3
 refine st_k w3 (i:=0) rfl rfl rfl fun H4 w4 s4=>?_
 dsimp only [List.set] at w4 s4
 exact aI.l29_P F rfl ⟨w4,(s0.trans (s1.trans (s2.trans (s3.trans s4)))),(il.step (s1.trans (s2.trans (s3.trans s4))))⟩ hp
def bT.Q (H0:Hp) (Ri R0:List Rs) (cV:ON) (bA:Nat) (cW:Cap) (gK:Bool) (gL gM:List AV) (r:List Int) (v:AV) (H':Hp):Prop:=∃ kV:List AV,v = (.tup [])∧bA = (r).length∧Out H0 Ri H' (Rs.ow gK ⟨cV,bA,cW⟩ (eInt .i64).z gL kV gM :: R0) fun R=>CR (eInt .i64) H' R kV (r)
def bT.S7 (H0:Hp) (Ri R0:List Rs) (iz:ON) (gW:Nat) (iA:Cap) (jU:Bool) (jV jW:List AV) (C:Int→Int→Nat→Nat→Int→Int→Hp→OA) (pC:Int→Int→Int→List Int→Int→Int→Option (List Int)):Prop:=∀ {fu fB oy kv gc fv:Int} {hT:List Int} {nk:List AV} {cP:Nat},∀ {H:Hp},gW = hT.length→(Out H0 Ri H (Rs.ow jU ⟨iz,gW,iA⟩ (eInt .i64).z jV nk jW :: Rs.blk cP [.int .i64 oy,.int .i64 kv,.sl ⟨iz,gW,iA⟩] :: R0) fun R=>CR (eInt .i64) H R nk hT)→∀ {r:List Int},pC fu fB kv hT gc fv = some r→∃ v H',C fu fB cP 0 gc fv H = some (v,H')∧bT.Q H0 Ri R0 iz gW iA jU jV jW r v H'
def bT.pl7 (F:Nat) :Nat→Int→Int→Int→List Int→Int→Int→Option (List Int)
 | 0,_,_,_,_,_,_=>none
 | k + 1,fu,fB,kv,hT,gc,fv=>(bif (decide (fv < gc)) then ((ix hT (IntKind.i64.wrap ((IntKind.i64.wrap (fu * kv)) + fv))).bind fun n2=>(ix hT (IntKind.i64.wrap ((IntKind.i64.wrap (fB * kv)) + fv))).bind fun n5=>(some (hT.set n2 (gt hT n5))).bind fun l7=>(some (l7.set n5 (gt hT n2))).bind fun l9=>bT.pl7 F k fu fB kv l9 gc (IntKind.i64.wrap (fv + 1))) else (some hT))
termination_by structural n=>n
theorem bT.l7_P {F:Nat} {H0:Hp} {Ri R0:List Rs} {iz:ON} {gW:Nat} {iA:Cap} {jU:Bool} {jV jW:List AV} :∀ k,bT.S7 H0 Ri R0 iz gW iA jU jV jW (bT.l7 F (aO.tw F)  k) (bT.pl7 F  k):=by
 intro k
 induction k with
 | zero=>
  intro fu fB oy kv gc fv hT nk cP H qH h0 r hp
  exact nomatch (show (none:Option (List Int)) = some r from hp)
 | succ k ih=>
  intro fu fB oy kv gc fv hT nk cP H qH h0 r hp
  obtain ⟨w0,s0,mm⟩:=h0
  subst qH
  unfold bT.pl7 at hp
  unfold bT.l7
  refine bif_ex (fun hb=>?_) (fun hb=>?_)
  ·replace hp:=bif_t hb hp
   refine bind_ex (ldI_of (w0.ld (i:=1) rfl rfl)) ?_
   refine bind_ex (ldI_of (w0.ld (i:=1) rfl rfl)) ?_
   refine bind_ex (ldSl_of (w0.ld (i:=1) rfl rfl)) ?_
   refine aO.inl ?_
   refine new_k w0 fun H1 w1 s1=>?_
   refine bind_ex (ldSl_of (w1.ld (i:=0) rfl rfl)) ?_
   refine bind_ex (ldI_of (w1.ld (i:=0) rfl rfl)) ?_
   obtain ⟨n2,g2,hp⟩:=bind_some' hp
   obtain ⟨p2,q2,i2,h2,j2⟩:=W.ixo (E:=(eInt .i64)) w1 (i:=1) rfl rfl (mm.step s1) g2
   refine bind_ex i2 ?_
   refine ⟨_,_,rfl,?_⟩
   refine bind_ex rfl ?_
   refine ifs_ex (W.cons_of (Rn:=[_]) w0 w1 s1) ?_
   refine bind_ex (ldI_of (w1.ld (i:=2) rfl rfl)) ?_
   refine bind_ex (ldI_of (w1.ld (i:=2) rfl rfl)) ?_
   refine bind_ex (ldSl_of (w1.ld (i:=2) rfl rfl)) ?_
   refine aO.inl ?_
   refine new_k w1 fun H4 w4 s4=>?_
   refine bind_ex (ldSl_of (w4.ld (i:=0) rfl rfl)) ?_
   refine bind_ex (ldI_of (w4.ld (i:=0) rfl rfl)) ?_
   obtain ⟨n5,g5,hp⟩:=bind_some' hp
   obtain ⟨p5,q5,i5,h5,j5⟩:=W.ixo (E:=(eInt .i64)) w4 (i:=2) rfl rfl (mm.step (s1.trans s4)) g5
   refine bind_ex i5 ?_
   refine ⟨_,_,rfl,?_⟩
   refine bind_ex rfl ?_
   have h5:_ = [_]:=h5
   subst h5
   refine bind_ex (ldI_of (j5 0 _ rfl)) ?_
   obtain ⟨p6,q6,i6,h6,j6⟩:=W.ixo (E:=(eInt .i64)) w4 (i:=2) rfl rfl (mm.step (s1.trans s4)) g2
   obtain rfl:=Option.some.inj (i2.symm.trans i6)
   have h6:_ = [_]:=h6
   subst h6
   refine bind_ex (ldI_of (j6 0 _ rfl)) ?_
   obtain ⟨l7,e7,hp⟩:=bind_some' hp
   refine sto_k (eInt .i64) w4 (i:=2) (j:=0) (p:=p2) rfl rfl (mm.step (s1.trans s4)) g2 i2 e7 rfl rfl (fun _ h=>by have h:_ = [_]:=h; subst h; exact rfl) fun H8 k8 w8 s8 c8=>?_
   dsimp only [List.set] at w8 s8 c8
   obtain ⟨l9,e9,hp⟩:=bind_some' hp
   refine sto_k (eInt .i64) w8 (i:=2) (j:=0) (p:=p5) rfl rfl c8 (ix_len g5 (st_len e7)) i5 e9 rfl rfl (fun _ h=>by have h:_ = [_]:=h; subst h; exact rfl) fun H10 k10 w10 s10 c10=>?_
   dsimp only [List.set] at w10 s10 c10
   obtain ⟨w11,s11⟩:=w10.pick' [2,3] 4 rfl rfl rfl
   dsimp only [pk,pks,nth,List.drop] at w11 s11
   exact ih ((st_len e7).symm.trans (st_len e9).symm) ⟨w11,(s0.trans (s1.trans (s4.trans (s8.trans (s10.trans s11))))),(c10.step s11)⟩ hp
  ·replace hp:=bif_f hb hp
   obtain ⟨w12,s12⟩:=w0.pick' [0] 2 rfl rfl rfl
   dsimp only [pk,pks,nth,List.drop] at w12 s12
   obtain rfl:=Option.some.inj hp
   exact ⟨_,_,rfl,_,rfl,rfl,w12,(s0.trans s12),(mm.step s12)⟩
def bT.p (F:Nat) (ac:Int) (bb:List Int) (af:Int) (bi:Int):Option (List Int):=bT.pl7 F F af bi ac bb ac 0
theorem bT.P {F:Nat} {aa ac af bi:Int} {cV:ON} {bA:Nat} {cW:Cap} {bb:List Int} {gK:Bool} {gL gM jX:List AV} {H:Hp} {R0:List Rs} (fD:bA = bb.length) (h0:Inn H (Rs.ow gK ⟨cV,bA,cW⟩ (eInt .i64).z gL jX gM :: R0) fun R=>CR (eInt .i64) H R jX bb) {r:List Int} (hp:bT.p F ac bb af bi = some r):∃ v H',bT.tw F aa ac ⟨cV,bA,cW⟩ af bi H = some (v,H')∧bT.Q H (Rs.ow gK ⟨cV,bA,cW⟩ (eInt .i64).z gL jX gM :: R0) R0 cV bA cW gK gL gM r v H':=by
 obtain ⟨w0,eW⟩:=h0
 subst fD
 unfold bT.p at hp
 unfold bT.tw bT.twX
 have s0:=w0.rf
 refine new_k w0 fun H1 w1 s1=>?_
 refine bind_ex (ldI_of (w1.ld (i:=0) rfl rfl)) ?_
 obtain ⟨w2,s2⟩:=w1.pick' [1,0] 2 rfl rfl rfl
 dsimp only [pk,pks,nth,List.drop] at w2 s2
 exact bT.l7_P F rfl ⟨w2,(s0.trans (s1.trans s2)),(eW.step (s1.trans s2))⟩ hp
def bU.Q (H0:Hp) (Ri R0:List Rs) (cV:ON) (bA:Nat) (cW:Cap) (gK:Bool) (gL gM:List AV) (r:List Int) (v:AV) (H':Hp):Prop:=∃ kV:List AV,v = (.tup [])∧bA = (r).length∧Out H0 Ri H' (Rs.ow gK ⟨cV,bA,cW⟩ (eInt .i64).z gL kV gM :: R0) fun R=>CR (eInt .i64) H' R kV (r)
def bU.S7 (H0:Hp) (Ri R0:List Rs) (iz:ON) (gW:Nat) (iA:Cap) (jU:Bool) (jV jW:List AV) (C:Int→Int→Nat→Nat→Int→Int→Hp→OA) (pC:Int→Int→Int→List Int→Int→Int→Option (List Int)):Prop:=∀ {fu fB oy kv gc fv:Int} {hT:List Int} {nk:List AV} {cP:Nat},∀ {H:Hp},gW = hT.length→(Out H0 Ri H (Rs.ow jU ⟨iz,gW,iA⟩ (eInt .i64).z jV nk jW :: Rs.blk cP [.int .i64 oy,.int .i64 kv,.sl ⟨iz,gW,iA⟩] :: R0) fun R=>CR (eInt .i64) H R nk hT)→∀ {r:List Int},pC fu fB kv hT gc fv = some r→∃ v H',C fu fB cP 0 gc fv H = some (v,H')∧bU.Q H0 Ri R0 iz gW iA jU jV jW r v H'
def bU.pl7 (F:Nat) :Nat→Int→Int→Int→List Int→Int→Int→Option (List Int)
 | 0,_,_,_,_,_,_=>none
 | k + 1,fu,fB,kv,hT,gc,fv=>(bif (decide (fv < gc)) then ((ix hT (IntKind.i64.wrap ((IntKind.i64.wrap (fv * kv)) + fu))).bind fun n2=>(ix hT (IntKind.i64.wrap ((IntKind.i64.wrap (fv * kv)) + fB))).bind fun n5=>(some (hT.set n2 (gt hT n5))).bind fun l7=>(some (l7.set n5 (gt hT n2))).bind fun l9=>bU.pl7 F k fu fB kv l9 gc (IntKind.i64.wrap (fv + 1))) else (some hT))
termination_by structural n=>n
theorem bU.l7_P {F:Nat} {H0:Hp} {Ri R0:List Rs} {iz:ON} {gW:Nat} {iA:Cap} {jU:Bool} {jV jW:List AV} :∀ k,bU.S7 H0 Ri R0 iz gW iA jU jV jW (bU.l7 F (aO.tw F)  k) (bU.pl7 F  k):=by
 intro k
 induction k with
 | zero=>
  intro fu fB oy kv gc fv hT nk cP H qH h0 r hp
  exact nomatch (show (none:Option (List Int)) = some r from hp)
 | succ k ih=>
  intro fu fB oy kv gc fv hT nk cP H qH h0 r hp
  obtain ⟨w0,s0,mm⟩:=h0
  subst qH
  unfold bU.pl7 at hp
  unfold bU.l7
  refine bif_ex (fun hb=>?_) (fun hb=>?_)
  ·replace hp:=bif_t hb hp
   refine bind_ex (ldI_of (w0.ld (i:=1) rfl rfl)) ?_
   refine bind_ex (ldI_of (w0.ld (i:=1) rfl rfl)) ?_
   refine bind_ex (ldSl_of (w0.ld (i:=1) rfl rfl)) ?_
   refine aO.inl ?_
   refine new_k w0 fun H1 w1 s1=>?_
   refine bind_ex (ldSl_of (w1.ld (i:=0) rfl rfl)) ?_
   refine bind_ex (ldI_of (w1.ld (i:=0) rfl rfl)) ?_
   obtain ⟨n2,g2,hp⟩:=bind_some' hp
   obtain ⟨p2,q2,i2,h2,j2⟩:=W.ixo (E:=(eInt .i64)) w1 (i:=1) rfl rfl (mm.step s1) g2
   refine bind_ex i2 ?_
   refine ⟨_,_,rfl,?_⟩
   refine bind_ex rfl ?_
   refine ifs_ex (W.cons_of (Rn:=[_]) w0 w1 s1) ?_
   refine bind_ex (ldI_of (w1.ld (i:=2) rfl rfl)) ?_
   refine bind_ex (ldI_of (w1.ld (i:=2) rfl rfl)) ?_
   refine bind_ex (ldSl_of (w1.ld (i:=2) rfl rfl)) ?_
   refine aO.inl ?_
   refine new_k w1 fun H4 w4 s4=>?_
   refine bind_ex (ldSl_of (w4.ld (i:=0) rfl rfl)) ?_
   refine bind_ex (ldI_of (w4.ld (i:=0) rfl rfl)) ?_
   obtain ⟨n5,g5,hp⟩:=bind_some' hp
   obtain ⟨p5,q5,i5,h5,j5⟩:=W.ixo (E:=(eInt .i64)) w4 (i:=2) rfl rfl (mm.step (s1.trans s4)) g5
   refine bind_ex i5 ?_
   refine ⟨_,_,rfl,?_⟩
   refine bind_ex rfl ?_
   have h5:_ = [_]:=h5
   subst h5
   refine bind_ex (ldI_of (j5 0 _ rfl)) ?_
   obtain ⟨p6,q6,i6,h6,j6⟩:=W.ixo (E:=(eInt .i64)) w4 (i:=2) rfl rfl (mm.step (s1.trans s4)) g2
   obtain rfl:=Option.some.inj (i2.symm.trans i6)
   have h6:_ = [_]:=h6
   subst h6
   refine bind_ex (ldI_of (j6 0 _ rfl)) ?_
   obtain ⟨l7,e7,hp⟩:=bind_some' hp
   refine sto_k (eInt .i64) w4 (i:=2) (j:=0) (p:=p2) rfl rfl (mm.step (s1.trans s4)) g2 i2 e7 rfl rfl (fun _ h=>by have h:_ = [_]:=h; subst h; exact rfl) fun H8 k8 w8 s8 c8=>?_
   dsimp only [List.set] at w8 s8 c8
   obtain ⟨l9,e9,hp⟩:=bind_some' hp
   refine sto_k (eInt .i64) w8 (i:=2) (j:=0) (p:=p5) rfl rfl c8 (ix_len g5 (st_len e7)) i5 e9 rfl rfl (fun _ h=>by have h:_ = [_]:=h; subst h; exact rfl) fun H10 k10 w10 s10 c10=>?_
   dsimp only [List.set] at w10 s10 c10
   obtain ⟨w11,s11⟩:=w10.pick' [2,3] 4 rfl rfl rfl
   dsimp only [pk,pks,nth,List.drop] at w11 s11
   exact ih ((st_len e7).symm.trans (st_len e9).symm) ⟨w11,(s0.trans (s1.trans (s4.trans (s8.trans (s10.trans s11))))),(c10.step s11)⟩ hp
  ·replace hp:=bif_f hb hp
   obtain ⟨w12,s12⟩:=w0.pick' [0] 2 rfl rfl rfl
   dsimp only [pk,pks,nth,List.drop] at w12 s12
   obtain rfl:=Option.some.inj hp
   exact ⟨_,_,rfl,_,rfl,rfl,w12,(s0.trans s12),(mm.step s12)⟩
def bU.p (F:Nat) (aa:Int) (ac:Int) (bb:List Int) (af:Int) (bi:Int):Option (List Int):=bU.pl7 F F af bi ac bb aa 0
theorem bU.P {F:Nat} {aa ac af bi:Int} {cV:ON} {bA:Nat} {cW:Cap} {bb:List Int} {gK:Bool} {gL gM jX:List AV} {H:Hp} {R0:List Rs} (fD:bA = bb.length) (h0:Inn H (Rs.ow gK ⟨cV,bA,cW⟩ (eInt .i64).z gL jX gM :: R0) fun R=>CR (eInt .i64) H R jX bb) {r:List Int} (hp:bU.p F aa ac bb af bi = some r):∃ v H',bU.tw F aa ac ⟨cV,bA,cW⟩ af bi H = some (v,H')∧bU.Q H (Rs.ow gK ⟨cV,bA,cW⟩ (eInt .i64).z gL jX gM :: R0) R0 cV bA cW gK gL gM r v H':=by
 obtain ⟨w0,eW⟩:=h0
 subst fD
 unfold bU.p at hp
 unfold bU.tw bU.twX
 have s0:=w0.rf
 refine new_k w0 fun H1 w1 s1=>?_
 refine bind_ex (ldI_of (w1.ld (i:=0) rfl rfl)) ?_
 obtain ⟨w2,s2⟩:=w1.pick' [1,0] 2 rfl rfl rfl
 dsimp only [pk,pks,nth,List.drop] at w2 s2
 exact bU.l7_P F rfl ⟨w2,(s0.trans (s1.trans s2)),(eW.step (s1.trans s2))⟩ hp
def cC.Q (H0:Hp) (Ri R0:List Rs)  (r:List Int) (v:AV) (H':Hp):Prop:=∃ o0a:ON,∃ o0n:Nat,∃ o0c:Cap,v = (.sl ⟨o0a,o0n,o0c⟩)∧o0n = (r).length∧Out H0 Ri H' (R0) fun R=>ROs (eInt .i64) H' R ⟨o0a,o0n,o0c⟩ (r)
def cC.p (F:Nat) (ac:Int) (bb:List Int) (af:Int):Option (List Int):=(cutf bb (IntKind.i64.wrap (af * ac)) (IntKind.i64.wrap ((IntKind.i64.wrap (af + 1)) * ac))).bind fun l2=>some l2
theorem cC.P {F:Nat} {aa ac af:Int} {cV:ON} {bA:Nat} {cW:Cap} {bb:List Int} {H:Hp} {R0:List Rs} (fD:bA = bb.length) (h0:Inn H R0 fun R=>ROs (eInt .i64) H R ⟨cV,bA,cW⟩ bb) {r:List Int} (hp:cC.p F ac bb af = some r):∃ v H',cC.tw F aa ac ⟨cV,bA,cW⟩ af H = some (v,H')∧cC.Q H R0 R0  r v H':=by
 obtain ⟨w0,eW⟩:=h0
 subst fD
 unfold cC.p at hp
 unfold cC.tw cC.twX
 have s0:=w0.rf
 refine new_k w0 fun H1 w1 s1=>?_
 refine bind_ex (ldSl_of (w1.ld (i:=0) rfl rfl)) ?_
 refine bind_ex (ldI_of (w1.ld (i:=0) rfl rfl)) ?_
 refine bind_ex (ldI_of (w1.ld (i:=0) rfl rfl)) ?_
 obtain ⟨l2,e2,hp⟩:=bind_some' hp
 obtain ⟨a2,d2,h2,f2⟩:=ROs.cutf (eW.step s1) rfl e2
 refine bind_ex h2 ?_
 obtain ⟨w3,s3⟩:=w1.pick' [] 1 rfl rfl rfl
 dsimp only [pk,pks,nth,List.drop] at w3 s3
 obtain rfl:=Option.some.inj hp
 exact ⟨_,_,rfl,_,_,_,rfl,rfl,w3,(s0.trans (s1.trans s3)),(f2.step s3)⟩
def aW.Q (H0:Hp) (Ri R0:List Rs) (bk aX bl bc aY aT bf bg bw bh:Int) (cX em cv en eo:ON) (bN dh bC di dj aa:Nat) (cY ep cw es et:Cap) (fi fM fj fN fO ax:Bool) (fk fl fP fQ fm fo fR fS fT fU:List AV) (r:Bool×List Int×List Int×List Int×List Int×List Int) (v:AV) (H':Hp):Prop:=∃ iC:List AV,∃ jD:List AV,∃ iD:List AV,∃ jE:List AV,∃ jF:List AV,v = (.bool r.1)∧bN = (r.2.1).length∧dh = (r.2.2.1).length∧bC = (r.2.2.2.1).length∧di = (r.2.2.2.2.1).length∧dj = (r.2.2.2.2.2).length∧Out H0 Ri H' (Rs.ow fi ⟨cX,bN,cY⟩ (eInt .i64).z fk iC fl :: Rs.ow fM ⟨em,dh,ep⟩ (eInt .i64).z fP jD fQ :: Rs.ow fj ⟨cv,bC,cw⟩ (eInt .i64).z fm iD fo :: Rs.ow fN ⟨en,di,es⟩ (eInt .i64).z fR jE fS :: Rs.ow fO ⟨eo,dj,et⟩ (eInt .i64).z fT jF fU :: Rs.blk aa [.int .i64 bk,.int .i64 aX,.sl ⟨cX,bN,cY⟩,.int .i64 bl,.int .i64 bc,.sl ⟨em,dh,ep⟩,.int .i64 aY,.int .i64 aT,.sl ⟨cv,bC,cw⟩,.int .i64 bf,.int .i64 bg,.sl ⟨en,di,es⟩,.int .i64 bw,.int .i64 bh,.sl ⟨eo,dj,et⟩,.bool ax] :: R0) fun R=>CR (eInt .i64) H' R iC (r.2.1)∧CR (eInt .i64) H' R jD (r.2.2.1)∧CR (eInt .i64) H' R iD (r.2.2.2.1)∧CR (eInt .i64) H' R jE (r.2.2.2.2.1)∧CR (eInt .i64) H' R jF (r.2.2.2.2.2)
theorem aW.neg_l {F:Nat} {C:Nat→Nat→Int→Sl→Int→Int→Hp→OA} {y0 o:Nat} {y1:Int} {y94:Sl} {y95 y96:Int} {R:List Rs} {t:Bool} {pre rest:List AV} {s:Sl} {i lo n:Nat} {c:Cap} {H:Hp} {cells:List AV} {l:List Int}
  (ht:∀ z o,c ≠ .tip z o) (hd:s.ad = s.a) (w:W H R) (hi:R[i]? = some (.ow t s (eInt .i64).z pre cells rest)) (cr:CR (eInt .i64) H R cells l) (hb:lo + n ≤ l.length):∀ (k j:Nat),n - j < k→j ≤ n→l.length < 4611686018427387904 →
  ∃ H' cells',aW.l2095707 F (aI.tw F) (bT.tw F) (bU.tw F) (aO.tw F) (cC.tw F) C k y0 o y1 y94 y95 y96 ⟨s.a.map (fun p=>(p.1,p.2 + lo * 1)),n,c⟩ (n:Int) (j:Int) H = C y0 o y1 y94 y95 (IntKind.i64.wrap (y96 + 1)) H' ∧
   W H' (R.set i (.ow t s (eInt .i64).z pre cells' rest))∧Fr H R H' (R.set i (.ow t s (eInt .i64).z pre cells' rest))∧CR (eInt .i64) H' (R.set i (.ow t s (eInt .i64).z pre cells' rest)) cells' (negr l (lo + j) (n - j)):=by
 intro k
 induction k generalizing H cells l R with
 | zero=>intro j h; exact absurd h (Nat.not_lt_zero _)
 | succ k ih=>
  intro j hk hj hlen
  unfold aW.l2095707
  by_cases c1:j < n
  ·have e1:decide ((j:Int) < (n:Int)) = true:=decide_eq_true (by omega)
   have hsn:=w.own_n hi cr
   have hix:ix l ((lo:Int) + j) = some (lo + j):=by unfold ix; rw [if_pos ⟨by omega,by omega⟩]; rfl
   obtain ⟨p,cs,g1,g2,g3⟩:=W.ixo (E:=eInt .i64) (z:=1) w hi rfl cr hix
   have g2:cs = [_]:=g2
   subst g2
   have hv:Sl.idx ⟨s.a.map (fun p=>(p.1,p.2 + lo * 1)),n,c⟩ (j:Int) 1 = some p:=by rw [vidx ht hd (by omega) (by omega) (by rw [hsn]; omega)]; exact g1
   have hset:∀ cells',(R.set i (.ow t s (eInt .i64).z pre cells' rest))[i]? = some (.ow t s (eInt .i64).z pre cells' rest):=fun cells'=>List.getElem?_set_self (List.getElem?_eq_some_iff.1 hi).1
   obtain ⟨H',cells',h1,h2,h3,h4⟩:=W.sto (E:=eInt .i64) (j:=0) (v:=.int .i64 (IntKind.i64.wrap (0 - gt l (lo + j)))) (x':=IntKind.i64.wrap (0 - gt l (lo + j))) w hi rfl cr (n:=lo + j) (k:=(lo:Int) + j) (by omega) (by omega) g1 (by decide) rfl (fun _ h=>by have h:_ = [_]:=h; subst h; rfl)
   have hw:IntKind.i64.wrap ((j:Int) + 1) = ((j + 1:Nat):Int):=by rw [w64_in (by omega) (by omega)]; omega
   have hp0:H.ldI .i64 p.1 p.2 = some (gt l (lo + j)):=ldI_of (g3 0 _ rfl)
   have hst:H.st p.1 p.2 (.int .i64 (IntKind.i64.wrap (0 - gt l (lo + j)))) = some H':=h1
   simp only [e1,cond_true,hv,Option.bind_some,hp0,hst,hw]
   obtain ⟨H2,cells2,q1,q2,q3,q4⟩:=ih h2 (hset _) h4 (by rw [List.length_set]; exact hb) (j + 1) (by omega) (by omega) (by rw [List.length_set]; exact hlen)
   refine ⟨H2,cells2,q1,?_,?_,?_⟩
   ·rw [List.set_set] at q2; exact q2
   ·rw [List.set_set] at q3; exact h3.trans q3
   ·rw [List.set_set] at q4
    rw [show n - j = (n - (j + 1)) + 1 by omega]
    exact q4
  ·have e1:decide ((j:Int) < (n:Int)) = false:=decide_eq_false (by omega)
   simp only [e1,cond_false]
   have:n - j = 0:=by omega
   refine ⟨H,cells,rfl,?_,?_,?_⟩
   all_goals
    have e:R.set i (.ow t s (eInt .i64).z pre cells rest) = R:=by
     apply List.ext_getElem?
     intro j
     by_cases ej:i = j
     ·subst ej; rw [List.getElem?_set_self (List.getElem?_eq_some_iff.1 hi).1,hi]
     ·rw [List.getElem?_set_ne ej]
    rw [e]
   ·exact w
   ·exact Fr.refl _ _
   ·rw [this]; exact cr
theorem aW.neg_k {F:Nat} {C:Nat→Nat→Int→Sl→Int→Int→Hp→OA} {y0 o:Nat} {y1:Int} {y94:Sl} {y95 y96:Int} {R:List Rs} {t:Bool} {pre rest:List AV} {s:Sl} {i:Nat} {c:Cap} {H:Hp} {cells:List AV} {l x:List Int} {a b:Int} {k:Nat} {Q:AV→Hp→Prop}
  (ht:∀ z o,c ≠ .tip z o) (hd:s.ad = s.a) (w:W H R) (hi:R[i]? = some (.ow t s (eInt .i64).z pre cells rest)) (cr:CR (eInt .i64) H R cells l) (hx:cuts l a b = some x) (hk:l.length < k) (hl:l.length ≤ 4294967296)
  (g:∀ H' cells',W H' (R.set i (.ow t s (eInt .i64).z pre cells' rest))→Fr H R H' (R.set i (.ow t s (eInt .i64).z pre cells' rest))→CR (eInt .i64) H' (R.set i (.ow t s (eInt .i64).z pre cells' rest)) cells' (negr l a.toNat x.length) →
   ∃ v H'',C y0 o y1 y94 y95 (IntKind.i64.wrap (y96 + 1)) H' = some (v,H'')∧Q v H'') :
  ∃ v H'',aW.l2095707 F (aI.tw F) (bT.tw F) (bU.tw F) (aO.tw F) (cC.tw F) C k y0 o y1 y94 y95 y96 ⟨s.a.map (fun p=>(p.1,p.2 + a.toNat * (eInt .i64).z)),x.length,c⟩ ((⟨s.a.map (fun p=>(p.1,p.2 + a.toNat * (eInt .i64).z)),x.length,c⟩:Sl).n:Int) 0 H = some (v,H'')∧Q v H'':=by
 obtain ⟨h1,h2,h3⟩:=cuts_some hx
 have hxl:x.length = b.toNat - a.toNat:=by rw [h2,List.length_drop,List.length_take]; omega
 obtain ⟨H',cells',e,q1,q2,q3⟩:=aW.neg_l (F:=F) (C:=C) (y0:=y0) (o:=o) (y1:=y1) (y94:=y94) (y95:=y95) (y96:=y96) (c:=c) (lo:=a.toNat) (n:=x.length) ht hd w hi cr (by omega) k 0 (by omega) (Nat.zero_le _) (by omega)
 rw [Nat.add_zero,Nat.sub_zero] at q3
 obtain ⟨v,H'',g1,g2⟩:=g H' cells' q1 q2 q3
 exact ⟨v,H'',Eq.trans e g1,g2⟩
def aW.S32747 (H0:Hp) (Ri R0:List Rs) (ay ak aA ap aq ao au av aH aw:Int) (aR bn aM bo bp:ON) (aF aZ aB a_ ba az:Nat) (aS br aN bs bt:Cap) (bV bW bX bY bZ bz:Bool) (b_ ca cb cc cd ce cf cg ch ci:List AV) (C:Nat→Nat→Int→Int→Int→Hp→OA) (pC:List Int→Int→List Int→List Int→List Int→List Int→Int→Int→Int→Option (Bool×List Int×List Int×List Int×List Int×List Int)):Prop:=∀ {aD aG aE aK aL:List Int} {cG cH cI cJ cK:List AV} {ja jO jb:Int},∀ {H:Hp},aF = aD.length→aZ = aG.length→aB = aE.length→a_ = aK.length→ba = aL.length→(Out H0 Ri H (Rs.ow bV ⟨aR,aF,aS⟩ (eInt .i64).z b_ cG ca :: Rs.ow bW ⟨bn,aZ,br⟩ (eInt .i64).z cb cH cc :: Rs.ow bX ⟨aM,aB,aN⟩ (eInt .i64).z cd cI ce :: Rs.ow bY ⟨bo,a_,bs⟩ (eInt .i64).z cf cJ cg :: Rs.ow bZ ⟨bp,ba,bt⟩ (eInt .i64).z ch cK ci :: Rs.blk az [.int .i64 ay,.int .i64 ak,.sl ⟨aR,aF,aS⟩,.int .i64 aA,.int .i64 ap,.sl ⟨bn,aZ,br⟩,.int .i64 aq,.int .i64 ao,.sl ⟨aM,aB,aN⟩,.int .i64 au,.int .i64 av,.sl ⟨bo,a_,bs⟩,.int .i64 aH,.int .i64 aw,.sl ⟨bp,ba,bt⟩,.bool bz] :: R0) fun R=>CR (eInt .i64) H R cG aD∧CR (eInt .i64) H R cH aG∧CR (eInt .i64) H R cI aE∧CR (eInt .i64) H R cJ aK∧CR (eInt .i64) H R cK aL)→∀ {r:Bool×List Int×List Int×List Int×List Int×List Int},pC aD ap aG aE aK aL ja jO jb = some r→∃ v H',C az 0 ja jO jb H = some (v,H')∧aW.Q H0 Ri R0 ay ak aA ap aq ao au av aH aw aR bn aM bo bp aF aZ aB a_ ba az aS br aN bs bt bV bW bX bY bZ bz b_ ca cb cc cd ce cf cg ch ci r v H'
def aW.pl32747 (F:Nat) :Nat→List Int→Int→List Int→List Int→List Int→List Int→Int→Int→Int→Option (Bool×List Int×List Int×List Int×List Int×List Int)
 | 0,_,_,_,_,_,_,_,_,_=>none
 | k + 1,aD,ap,aG,aE,aK,aL,ja,jO,jb=>(bif (decide (jb < jO)) then ((ix aG (IntKind.i64.wrap ((IntKind.i64.wrap (jb * ap)) + ja))).bind fun n2=>(ix aG (IntKind.i64.wrap ((IntKind.i64.wrap (jb * ap)) + ja))).bind fun n5=>(some (aG.set n2 (IntKind.i64.wrap (0 - (gt aG n5))))).bind fun l6=>aW.pl32747 F k aD ap l6 aE aK aL ja jO (IntKind.i64.wrap (jb + 1))) else (some (true,aD,aG,aE,aK,aL)))
termination_by structural n=>n
theorem aW.l32747_P {F:Nat} {H0:Hp} {Ri R0:List Rs} {ay ak aA ap aq ao au av aH aw:Int} {aR bn aM bo bp:ON} {aF aZ aB a_ ba az:Nat} {aS br aN bs bt:Cap} {bV bW bX bY bZ bz:Bool} {b_ ca cb cc cd ce cf cg ch ci:List AV} :∀ k,aW.S32747 H0 Ri R0 ay ak aA ap aq ao au av aH aw aR bn aM bo bp aF aZ aB a_ ba az aS br aN bs bt bV bW bX bY bZ bz b_ ca cb cc cd ce cf cg ch ci (aW.l32747 F (aI.tw F) (bT.tw F) (bU.tw F) (aO.tw F) (cC.tw F)  k) (aW.pl32747 F  k):=by
 intro k
 induction k with
 | zero=>
  intro aD aG aE aK aL cG cH cI cJ cK ja jO jb H eG eH eI eJ eK h0 r hp
  exact nomatch (show (none:Option (Bool×List Int×List Int×List Int×List Int×List Int)) = some r from hp)
 | succ k ih=>
  intro aD aG aE aK aL cG cH cI cJ cK ja jO jb H eG eH eI eJ eK h0 r hp
  obtain ⟨w0,s0,c_,dn,dc,dy,dz⟩:=h0
  subst eG
  subst eH
  subst eI
  subst eJ
  subst eK
  unfold aW.pl32747 at hp
  unfold aW.l32747
  refine bif_ex (fun hb=>?_) (fun hb=>?_)
  ·replace hp:=bif_t hb hp
   refine bind_ex (ldI_of (w0.ld (i:=5) rfl rfl)) ?_
   refine bind_ex (ldI_of (w0.ld (i:=5) rfl rfl)) ?_
   refine bind_ex (ldSl_of (w0.ld (i:=5) rfl rfl)) ?_
   refine aO.inl ?_
   refine new_k w0 fun H1 w1 s1=>?_
   refine bind_ex (ldSl_of (w1.ld (i:=0) rfl rfl)) ?_
   refine bind_ex (ldI_of (w1.ld (i:=0) rfl rfl)) ?_
   obtain ⟨n2,g2,hp⟩:=bind_some' hp
   obtain ⟨p2,q2,i2,h2,j2⟩:=W.ixo (E:=(eInt .i64)) w1 (i:=2) rfl rfl (dn.step s1) g2
   refine bind_ex i2 ?_
   refine ⟨_,_,rfl,?_⟩
   refine bind_ex rfl ?_
   refine ifs_ex (W.cons_of (Rn:=[_]) w0 w1 s1) ?_
   refine bind_ex (ldI_of (w1.ld (i:=6) rfl rfl)) ?_
   refine bind_ex (ldI_of (w1.ld (i:=6) rfl rfl)) ?_
   refine bind_ex (ldSl_of (w1.ld (i:=6) rfl rfl)) ?_
   refine aO.inl ?_
   refine new_k w1 fun H4 w4 s4=>?_
   refine bind_ex (ldSl_of (w4.ld (i:=0) rfl rfl)) ?_
   refine bind_ex (ldI_of (w4.ld (i:=0) rfl rfl)) ?_
   obtain ⟨n5,g5,hp⟩:=bind_some' hp
   obtain ⟨p5,q5,i5,h5,j5⟩:=W.ixo (E:=(eInt .i64)) w4 (i:=3) rfl rfl (dn.step (s1.trans s4)) g5
   refine bind_ex i5 ?_
   refine ⟨_,_,rfl,?_⟩
   refine bind_ex rfl ?_
   have h5:_ = [_]:=h5
   subst h5
   refine bind_ex (ldI_of (j5 0 _ rfl)) ?_
   obtain ⟨l6,e6,hp⟩:=bind_some' hp
   refine sto_k (eInt .i64) w4 (i:=3) (j:=0) (p:=p2) rfl rfl (dn.step (s1.trans s4)) g2 i2 e6 rfl rfl (fun _ h=>by have h:_ = [_]:=h; subst h; exact rfl) fun H7 k7 w7 s7 c7=>?_
   dsimp only [List.set] at w7 s7 c7
   obtain ⟨w8,s8⟩:=w7.pick' [2,3,4,5,6,7] 8 rfl rfl rfl
   dsimp only [pk,pks,nth,List.drop] at w8 s8
   exact ih rfl ((st_len e6).symm) rfl rfl rfl ⟨w8,(s0.trans (s1.trans (s4.trans (s7.trans s8)))),(c_.step (s1.trans (s4.trans (s7.trans s8)))),(c7.step s8),(dc.step (s1.trans (s4.trans (s7.trans s8)))),(dy.step (s1.trans (s4.trans (s7.trans s8)))),(dz.step (s1.trans (s4.trans (s7.trans s8))))⟩ hp
  ·replace hp:=bif_f hb hp
   obtain rfl:=Option.some.inj hp
   exact ⟨_,_,rfl,_,_,_,_,_,rfl,rfl,rfl,rfl,rfl,rfl,w0,s0,c_,dn,dc,dy,dz⟩
def aW.pj3 (F:Nat)  (aD:List Int) (aA:Int) (ap:Int) (aG:List Int) (aE:List Int) (aK:List Int) (aL:List Int) (pt:Int):Option (Bool×List Int×List Int×List Int×List Int×List Int):=aW.pl32747 F F aD ap aG aE aK aL pt aA 0
theorem aW.j3_P {F:Nat} {H0:Hp} {Ri R0:List Rs} {ay ak aA ap aq ao au av aH aw:Int} {aR bn aM bo bp:ON} {aF aZ aB a_ ba az:Nat} {aS br aN bs bt:Cap} {bV bW bX bY bZ bz:Bool} {b_ ca cb cc cd ce cf cg ch ci:List AV}  {aD aG aE aK aL:List Int} {cG cH cI cJ cK:List AV} {pt:Int} {H:Hp} (eG:aF = aD.length) (eH:aZ = aG.length) (eI:aB = aE.length) (eJ:a_ = aK.length) (eK:ba = aL.length) (h0:Out H0 Ri H (Rs.ow bV ⟨aR,aF,aS⟩ (eInt .i64).z b_ cG ca :: Rs.ow bW ⟨bn,aZ,br⟩ (eInt .i64).z cb cH cc :: Rs.ow bX ⟨aM,aB,aN⟩ (eInt .i64).z cd cI ce :: Rs.ow bY ⟨bo,a_,bs⟩ (eInt .i64).z cf cJ cg :: Rs.ow bZ ⟨bp,ba,bt⟩ (eInt .i64).z ch cK ci :: Rs.blk az [.int .i64 ay,.int .i64 ak,.sl ⟨aR,aF,aS⟩,.int .i64 aA,.int .i64 ap,.sl ⟨bn,aZ,br⟩,.int .i64 aq,.int .i64 ao,.sl ⟨aM,aB,aN⟩,.int .i64 au,.int .i64 av,.sl ⟨bo,a_,bs⟩,.int .i64 aH,.int .i64 aw,.sl ⟨bp,ba,bt⟩,.bool bz] :: R0) fun R=>CR (eInt .i64) H R cG aD∧CR (eInt .i64) H R cH aG∧CR (eInt .i64) H R cI aE∧CR (eInt .i64) H R cJ aK∧CR (eInt .i64) H R cK aL) {r:Bool×List Int×List Int×List Int×List Int×List Int} (hp:aW.pj3 F  aD aA ap aG aE aK aL pt = some r):∃ v H',aW.j3 F (aI.tw F) (bT.tw F) (bU.tw F) (aO.tw F) (cC.tw F)  az 0 pt H = some (v,H')∧aW.Q H0 Ri R0 ay ak aA ap aq ao au av aH aw aR bn aM bo bp aF aZ aB a_ ba az aS br aN bs bt bV bW bX bY bZ bz b_ ca cb cc cd ce cf cg ch ci r v H':=by
 obtain ⟨w0,s0,c_,dn,dc,dy,dz⟩:=h0
 subst eG
 subst eH
 subst eI
 subst eJ
 subst eK
 unfold aW.pj3 at hp
 unfold aW.j3
 refine bind_ex (ldI_of (w0.ld (i:=5) rfl rfl)) ?_
 exact aW.l32747_P F rfl rfl rfl rfl rfl ⟨w0,s0,c_,dn,dc,dy,dz⟩ hp
def aW.p (F:Nat) (aX:Int) (dI:List Int) (bl:Int) (bc:Int) (fE:List Int) (aY:Int) (aT:Int) (dk:List Int) (bf:Int) (bg:Int) (fF:List Int) (bh:Int) (fG:List Int) (ae:Int):Option (Bool×List Int×List Int×List Int×List Int×List Int):=(aI.p F aY aT dk ae).bind fun r3=>(bif (!r3.2.2) then (some (false,dI,fE,dk,fF,fG)) else ((bT.p F aT dk r3.1 ae).bind fun r7=>(bT.p F aX dI r3.1 ae).bind fun r10=>(bU.p F bl bc fE r3.1 ae).bind fun r13=>(bU.p F aY aT r7 r3.2.1 ae).bind fun r16=>(bU.p F bf bg fF r3.2.1 ae).bind fun r19=>(bT.p F bh fG r3.2.1 ae).bind fun r22=>(ix r16 (IntKind.i64.wrap ((IntKind.i64.wrap (ae * aT)) + ae))).bind fun n25=>(bif (decide ((gt r16 n25) < 0)) then ((cuts r16 (IntKind.i64.wrap (ae * aT)) (IntKind.i64.wrap ((IntKind.i64.wrap (ae + 1)) * aT))).bind fun x27=>(cuts r10 (IntKind.i64.wrap (ae * aX)) (IntKind.i64.wrap ((IntKind.i64.wrap (ae + 1)) * aX))).bind fun x29=>(if r16.length + 3 < F∧r10.length + 3 < F∧r16.length + r10.length ≤ 4294967296 then ((some (negr r16 ((IntKind.i64.wrap (ae * aT)):Int).toNat x27.length)).bind fun l32=>(some (negr r10 ((IntKind.i64.wrap (ae * aX)):Int).toNat x29.length)).bind fun l34=>aW.pj3 F l34 bl bc r13 l32 r19 r22 ae) else none)) else (some (true,r10,r13,r16,r19,r22)))))
theorem aW.P {F:Nat} {bk aX bl bc aY aT bf bg bw bh ae:Int} {cX em cv en eo:ON} {bN dh bC di dj aa:Nat} {cY ep cw es et:Cap} {dI fE dk fF fG:List Int} {fi fM fj fN fO ax:Bool} {fk fl gy fP fQ gX fm fo gz fR fS gY fT fU gZ:List AV} {H:Hp} {R0:List Rs} (jY:bN = dI.length) (lf:dh = fE.length) (jo:bC = dk.length) (lg:di = fF.length) (li:dj = fG.length) (h0:Inn H (Rs.ow fi ⟨cX,bN,cY⟩ (eInt .i64).z fk gy fl :: Rs.ow fM ⟨em,dh,ep⟩ (eInt .i64).z fP gX fQ :: Rs.ow fj ⟨cv,bC,cw⟩ (eInt .i64).z fm gz fo :: Rs.ow fN ⟨en,di,es⟩ (eInt .i64).z fR gY fS :: Rs.ow fO ⟨eo,dj,et⟩ (eInt .i64).z fT gZ fU :: Rs.blk aa [.int .i64 bk,.int .i64 aX,.sl ⟨cX,bN,cY⟩,.int .i64 bl,.int .i64 bc,.sl ⟨em,dh,ep⟩,.int .i64 aY,.int .i64 aT,.sl ⟨cv,bC,cw⟩,.int .i64 bf,.int .i64 bg,.sl ⟨en,di,es⟩,.int .i64 bw,.int .i64 bh,.sl ⟨eo,dj,et⟩,.bool ax] :: R0) fun R=>CR (eInt .i64) H R gy dI∧CR (eInt .i64) H R gX fE∧CR (eInt .i64) H R gz dk∧CR (eInt .i64) H R gY fF∧CR (eInt .i64) H R gZ fG) {r:Bool×List Int×List Int×List Int×List Int×List Int} (hp:aW.p F aX dI bl bc fE aY aT dk bf bg fF bh fG ae = some r):∃ v H',aW.tw F aa 0 ae H = some (v,H')∧aW.Q H (Rs.ow fi ⟨cX,bN,cY⟩ (eInt .i64).z fk gy fl :: Rs.ow fM ⟨em,dh,ep⟩ (eInt .i64).z fP gX fQ :: Rs.ow fj ⟨cv,bC,cw⟩ (eInt .i64).z fm gz fo :: Rs.ow fN ⟨en,di,es⟩ (eInt .i64).z fR gY fS :: Rs.ow fO ⟨eo,dj,et⟩ (eInt .i64).z fT gZ fU :: Rs.blk aa [.int .i64 bk,.int .i64 aX,.sl ⟨cX,bN,cY⟩,.int .i64 bl,.int .i64 bc,.sl ⟨em,dh,ep⟩,.int .i64 aY,.int .i64 aT,.sl ⟨cv,bC,cw⟩,.int .i64 bf,.int .i64 bg,.sl ⟨en,di,es⟩,.int .i64 bw,.int .i64 bh,.sl ⟨eo,dj,et⟩,.bool ax] :: R0) R0 bk aX bl bc aY aT bf bg bw bh cX em cv en eo bN dh bC di dj aa cY ep cw es et fi fM fj fN fO ax fk fl fP fQ fm fo fR fS fT fU r v H':=by
 obtain ⟨w0,jj,kN,il,kO,kP⟩:=h0
 subst jY
 subst lf
 subst jo
 subst lg
 subst li
 unfold aW.p at hp
 unfold aW.tw aW.twX
 have s0:=w0.rf
 obtain ⟨w1,s1⟩:=w0.pick' [2,5,0,1,3,4] 6 rfl rfl rfl
 dsimp only [pk,pks,nth,List.drop] at w1 s1
 have f2:=W.borrow1 (eInt .i64) w1 (il.step s1)
 obtain ⟨w2,s2⟩:=w1.right1
 obtain ⟨r3,e3,hp⟩:=bind_some' hp
 refine call_ex (aI.P rfl ⟨w2,f2⟩ e3) ?_
 rintro _ H4 ⟨rfl,w4,s4,_⟩
 obtain ⟨w5,s5⟩:=W.frame1 w1 w4 s4
 refine bind_ex rfl ?_
 refine bind_ex rfl ?_
 refine bind_ex rfl ?_
 refine bind_ex rfl ?_
 refine bind_ex rfl ?_
 refine bind_ex rfl ?_
 refine bind_ex rfl ?_
 refine bif_ex (fun hb=>?_) (fun hb=>?_)
 ·replace hp:=bif_t hb hp
  obtain ⟨w6,s6⟩:=w5.pick' [2,3,0,4,5,1] 6 rfl rfl rfl
  dsimp only [pk,pks,nth,List.drop] at w6 s6
  obtain rfl:=Option.some.inj hp
  exact ⟨_,_,rfl,_,_,_,_,_,rfl,rfl,rfl,rfl,rfl,rfl,w6,(s0.trans (s1.trans (s5.trans s6))),(jj.step (s1.trans (s5.trans s6))),(kN.step (s1.trans (s5.trans s6))),(il.step (s1.trans (s5.trans s6))),(kO.step (s1.trans (s5.trans s6))),(kP.step (s1.trans (s5.trans s6)))⟩
 ·replace hp:=bif_f hb hp
  refine bind_ex (ldI_of (w5.ld (i:=1) rfl rfl)) ?_
  refine bind_ex (ldI_of (w5.ld (i:=1) rfl rfl)) ?_
  refine bind_ex (ldSl_of (w5.ld (i:=1) rfl rfl)) ?_
  obtain ⟨r7,e7,hp⟩:=bind_some' hp
  refine call_ex (bT.P rfl ⟨w5,(il.step (s1.trans s5))⟩ e7) ?_
  rintro _ H8 ⟨Ba,rfl,hl8_0,w8,s8,f8_0⟩
  refine bind_ex (ldI_of (w8.ld (i:=1) rfl rfl)) ?_
  refine bind_ex (ldI_of (w8.ld (i:=1) rfl rfl)) ?_
  refine bind_ex (ldSl_of (w8.ld (i:=1) rfl rfl)) ?_
  obtain ⟨w9,s9⟩:=w8.pick' [2,0,1,3,4,5] 6 rfl rfl rfl
  dsimp only [pk,pks,nth,List.drop] at w9 s9
  obtain ⟨r10,e10,hp⟩:=bind_some' hp
  refine call_ex (bT.P rfl ⟨w9,(jj.step (s1.trans (s5.trans (s8.trans s9))))⟩ e10) ?_
  rintro _ H11 ⟨Bb,rfl,hl11_0,w11,s11,f11_0⟩
  refine bind_ex (ldI_of (w11.ld (i:=2) rfl rfl)) ?_
  refine bind_ex (ldI_of (w11.ld (i:=2) rfl rfl)) ?_
  refine bind_ex (ldSl_of (w11.ld (i:=2) rfl rfl)) ?_
  obtain ⟨w12,s12⟩:=w11.pick' [3,0,1,2,4,5] 6 rfl rfl rfl
  dsimp only [pk,pks,nth,List.drop] at w12 s12
  obtain ⟨r13,e13,hp⟩:=bind_some' hp
  refine call_ex (bU.P rfl ⟨w12,(kN.step (s1.trans (s5.trans (s8.trans (s9.trans (s11.trans s12))))))⟩ e13) ?_
  rintro _ H14 ⟨Bc,rfl,hl14_0,w14,s14,f14_0⟩
  refine bind_ex (ldI_of (w14.ld (i:=3) rfl rfl)) ?_
  refine bind_ex (ldI_of (w14.ld (i:=3) rfl rfl)) ?_
  refine bind_ex (ldSl_of (w14.ld (i:=3) rfl rfl)) ?_
  obtain ⟨w15,s15⟩:=w14.pick' [2,0,1,3,4,5] 6 rfl rfl rfl
  dsimp only [pk,pks,nth,List.drop] at w15 s15
  obtain ⟨r16,e16,hp⟩:=bind_some' hp
  refine call_ex (bU.P hl8_0 ⟨w15,(f8_0.step (s9.trans (s11.trans (s12.trans (s14.trans s15)))))⟩ e16) ?_
  rintro _ H17 ⟨Be,rfl,hl17_0,w17,s17,f17_0⟩
  refine bind_ex (ldI_of (w17.ld (i:=3) rfl rfl)) ?_
  refine bind_ex (ldI_of (w17.ld (i:=3) rfl rfl)) ?_
  refine bind_ex (ldSl_of (w17.ld (i:=3) rfl rfl)) ?_
  obtain ⟨w18,s18⟩:=w17.pick' [4,0,1,2,3,5] 6 rfl rfl rfl
  dsimp only [pk,pks,nth,List.drop] at w18 s18
  obtain ⟨r19,e19,hp⟩:=bind_some' hp
  refine call_ex (bU.P rfl ⟨w18,(kO.step (s1.trans (s5.trans (s8.trans (s9.trans (s11.trans (s12.trans (s14.trans (s15.trans (s17.trans s18))))))))))⟩ e19) ?_
  rintro _ H20 ⟨DR,rfl,hl20_0,w20,s20,f20_0⟩
  refine bind_ex (ldI_of (w20.ld (i:=4) rfl rfl)) ?_
  refine bind_ex (ldI_of (w20.ld (i:=4) rfl rfl)) ?_
  refine bind_ex (ldSl_of (w20.ld (i:=4) rfl rfl)) ?_
  obtain ⟨w21,s21⟩:=w20.pick' [5,0,1,2,3,4] 6 rfl rfl rfl
  dsimp only [pk,pks,nth,List.drop] at w21 s21
  obtain ⟨r22,e22,hp⟩:=bind_some' hp
  refine call_ex (bT.P rfl ⟨w21,(kP.step (s1.trans (s5.trans (s8.trans (s9.trans (s11.trans (s12.trans (s14.trans (s15.trans (s17.trans (s18.trans (s20.trans s21))))))))))))⟩ e22) ?_
  rintro _ H23 ⟨DS,rfl,hl23_0,w23,s23,f23_0⟩
  refine bind_ex (ldI_of (w23.ld (i:=5) rfl rfl)) ?_
  refine bind_ex (ldI_of (w23.ld (i:=5) rfl rfl)) ?_
  refine bind_ex (ldSl_of (w23.ld (i:=5) rfl rfl)) ?_
  refine aO.inl ?_
  refine new_k w23 fun H24 w24 s24=>?_
  refine bind_ex (ldSl_of (w24.ld (i:=0) rfl rfl)) ?_
  refine bind_ex (ldI_of (w24.ld (i:=0) rfl rfl)) ?_
  obtain ⟨n25,g25,hp⟩:=bind_some' hp
  obtain ⟨p25,q25,i25,h25,j25⟩:=W.ixo (E:=(eInt .i64)) w24 (i:=3) rfl rfl (f17_0.step (s18.trans (s20.trans (s21.trans (s23.trans s24))))) g25
  refine bind_ex i25 ?_
  refine ⟨_,_,rfl,?_⟩
  refine bind_ex rfl ?_
  have h25:_ = [_]:=h25
  subst h25
  refine bind_ex (ldI_of (j25 0 _ rfl)) ?_
  refine bif_ex (fun hb=>?_) (fun hb=>?_)
  ·replace hp:=bif_t hb hp
   refine bind_ex (ldI_of (w24.ld (i:=6) rfl rfl)) ?_
   refine bind_ex (ldI_of (w24.ld (i:=6) rfl rfl)) ?_
   refine bind_ex (ldSl_of (w24.ld (i:=6) rfl rfl)) ?_
   refine cC.inl ?_
   refine new_k w24 fun H26 w26 s26=>?_
   refine bind_ex (ldSl_of (w26.ld (i:=0) rfl rfl)) ?_
   refine bind_ex (ldI_of (w26.ld (i:=0) rfl rfl)) ?_
   refine bind_ex (ldI_of (w26.ld (i:=0) rfl rfl)) ?_
   obtain ⟨x27,e27,hp⟩:=bind_some' hp
   obtain ⟨d27,h27,t27,u27⟩:=W.cutv (E:=(eInt .i64)) w26 (i:=4) rfl (f17_0.step (s18.trans (s20.trans (s21.trans (s23.trans (s24.trans s26)))))) e27
   refine bind_ex h27 ?_
   refine ⟨_,_,rfl,?_⟩
   refine bind_ex rfl ?_
   refine ifs_ex (W.cons_of (Rn:=[_]) w24 w26 s26) ?_
   refine bind_ex (ldI_of (w26.ld (i:=7) rfl rfl)) ?_
   refine bind_ex (ldI_of (w26.ld (i:=7) rfl rfl)) ?_
   refine bind_ex (ldSl_of (w26.ld (i:=7) rfl rfl)) ?_
   refine cC.inl ?_
   refine new_k w26 fun H28 w28 s28=>?_
   refine bind_ex (ldSl_of (w28.ld (i:=0) rfl rfl)) ?_
   refine bind_ex (ldI_of (w28.ld (i:=0) rfl rfl)) ?_
   refine bind_ex (ldI_of (w28.ld (i:=0) rfl rfl)) ?_
   obtain ⟨x29,e29,hp⟩:=bind_some' hp
   obtain ⟨d29,h29,t29,u29⟩:=W.cutv (E:=(eInt .i64)) w28 (i:=7) rfl (f11_0.step (s12.trans (s14.trans (s15.trans (s17.trans (s18.trans (s20.trans (s21.trans (s23.trans (s24.trans (s26.trans s28))))))))))) e29
   refine bind_ex h29 ?_
   refine ⟨_,_,rfl,?_⟩
   refine bind_ex rfl ?_
   refine new_k w28 fun H30 w30 s30=>?_
   obtain ⟨⟨hF,hl6,hl0⟩,hp⟩:=ifs_p hp
   obtain ⟨k,rfl⟩:∃ k,F = k + 3:=⟨F - 3,by omega⟩
   unfold aW.l32745
   refine bif_ex (fun _=>?_) (fun hb=>absurd (show decide ((0:Int) < ((2:Nat):Int)) = false from hb) (by decide))
   refine bind_ex (show _ = some (_,_) from rfl) ?_
   refine bind_ex (ldSl_of (w30.ld (i:=0) rfl rfl)) ?_
   refine aW.neg_k (i:=6) t27 u27 w30 rfl (f17_0.step (s18.trans (s20.trans (s21.trans (s23.trans (s24.trans (s26.trans (s28.trans s30)))))))) e27 (by omega) (by omega) fun H31 k31 w31 s31 c31=>?_
   dsimp only [List.set] at w31 s31 c31
   obtain ⟨l32,e32,hp⟩:=bind_some' hp
   obtain rfl:=Option.some.inj e32
   unfold aW.l32745
   refine bif_ex (fun _=>?_) (fun hb=>absurd (show decide ((IntKind.i64.wrap (0 + 1)) < ((2:Nat):Int)) = false from hb) (by decide))
   refine bind_ex (show _ = some (_,_) from rfl) ?_
   refine bind_ex (ldSl_of (w31.ld (i:=0) rfl rfl)) ?_
   refine aW.neg_k (i:=8) t29 u29 w31 rfl (f11_0.step (s12.trans (s14.trans (s15.trans (s17.trans (s18.trans (s20.trans (s21.trans (s23.trans (s24.trans (s26.trans (s28.trans (s30.trans s31))))))))))))) e29 (by omega) (by omega) fun H33 k33 w33 s33 c33=>?_
   dsimp only [List.set] at w33 s33 c33
   obtain ⟨l34,e34,hp⟩:=bind_some' hp
   obtain rfl:=Option.some.inj e34
   unfold aW.l32745
   refine bif_ex (fun hb=>absurd (show decide (IntKind.i64.wrap (IntKind.i64.wrap (0 + 1) + 1) < ((2:Nat):Int)) = true from hb) (by decide)) (fun _=>?_)
   obtain ⟨w35,s35⟩:=w33.pick' [8,7,6,5,4,9] 10 rfl rfl rfl
   dsimp only [pk,pks,nth,List.drop] at w35 s35
   exact aW.j3_P (hl11_0.trans (negr_len _ _ _).symm) hl14_0 (hl17_0.trans (negr_len _ _ _).symm) hl20_0 hl23_0 ⟨w35,(s0.trans (s1.trans (s5.trans (s8.trans (s9.trans (s11.trans (s12.trans (s14.trans (s15.trans (s17.trans (s18.trans (s20.trans (s21.trans (s23.trans (s24.trans (s26.trans (s28.trans (s30.trans (s31.trans (s33.trans s35)))))))))))))))))))),(c33.step s35),(f14_0.step (s15.trans (s17.trans (s18.trans (s20.trans (s21.trans (s23.trans (s24.trans (s26.trans (s28.trans (s30.trans (s31.trans (s33.trans s35))))))))))))),(c31.step (s33.trans s35)),(f20_0.step (s21.trans (s23.trans (s24.trans (s26.trans (s28.trans (s30.trans (s31.trans (s33.trans s35))))))))),(f23_0.step (s24.trans (s26.trans (s28.trans (s30.trans (s31.trans (s33.trans s35)))))))⟩ hp
  ·replace hp:=bif_f hb hp
   obtain ⟨w36,s36⟩:=w24.pick' [5,4,3,2,1,6] 7 rfl rfl rfl
   dsimp only [pk,pks,nth,List.drop] at w36 s36
   obtain rfl:=Option.some.inj hp
   exact ⟨_,_,rfl,_,_,_,_,_,rfl,hl11_0,hl14_0,hl17_0,hl20_0,hl23_0,w36,(s0.trans (s1.trans (s5.trans (s8.trans (s9.trans (s11.trans (s12.trans (s14.trans (s15.trans (s17.trans (s18.trans (s20.trans (s21.trans (s23.trans (s24.trans s36))))))))))))))),(f11_0.step (s12.trans (s14.trans (s15.trans (s17.trans (s18.trans (s20.trans (s21.trans (s23.trans (s24.trans s36)))))))))),(f14_0.step (s15.trans (s17.trans (s18.trans (s20.trans (s21.trans (s23.trans (s24.trans s36)))))))),(f17_0.step (s18.trans (s20.trans (s21.trans (s23.trans (s24.trans s36)))))),(f20_0.step (s21.trans (s23.trans (s24.trans s36)))),(f23_0.step (s24.trans s36))⟩
def dC.Q (H0:Hp) (Ri R0:List Rs)  (r:Int) (v:AV) (H':Hp):Prop:=v = (.int .i64 r)∧Out H0 Ri H' (R0) fun R=>True
def dC.p (F:Nat) (aa:Int) (ag:Int):Option (Int):=(if ag = 0 then none else ((if ag = 0 then none else ((bif (decide ((Int.tmod aa ag) < 0)) then (some (IntKind.i64.wrap ((IntKind.i64.wrap (Int.tdiv aa ag)) - 1))) else (some (IntKind.i64.wrap (Int.tdiv aa ag))))))))
theorem dC.P {F:Nat} {aa ag:Int} {H:Hp} {R0:List Rs}  (h0:Inn H R0 fun R=>True) {r:Int} (hp:dC.p F aa ag = some r):∃ v H',dC.tw F aa ag H = some (v,H')∧dC.Q H R0 R0  r v H':=by
 obtain ⟨w0,_⟩:=h0
 unfold dC.p at hp
 unfold dC.tw dC.twX
 have s0:=w0.rf
 obtain ⟨g1,hp⟩:=ifn_p hp
 refine ifn_ex g1 ?_
 obtain ⟨g2,hp⟩:=ifn_p hp
 refine ifn_ex g2 ?_
 refine bif_ex (fun hb=>?_) (fun hb=>?_)
 ·replace hp:=bif_t hb hp
  obtain rfl:=Option.some.inj hp
  exact ⟨_,_,rfl,rfl,w0,s0,trivial⟩
 ·replace hp:=bif_f hb hp
  obtain rfl:=Option.some.inj hp
  exact ⟨_,_,rfl,rfl,w0,s0,trivial⟩
def dG.Q (H0:Hp) (Ri R0:List Rs)  (r:Int×Bool) (v:AV) (H':Hp):Prop:=v = (.tup [(.int .i64 r.1),(.bool r.2)])∧Out H0 Ri H' (R0) fun R=>True
def dG.p (F:Nat) (aa:Int) (ag:Int) (cO:Int):Option (Int×Bool):=(bif (aa != 0) then ((cm.p F ag).bind fun r1=>(cm.p F aa).bind fun r3=>(if r3 = 0 then none else ((bif (decide (r1 > (IntKind.i64.wrap (Int.tdiv cO r3)))) then (some (0,false)) else (some ((IntKind.i64.wrap (aa * ag)),true)))))) else (some ((IntKind.i64.wrap (aa * ag)),true)))
theorem dG.P {F:Nat} {aa ag cO:Int} {H:Hp} {R0:List Rs}  (h0:Inn H R0 fun R=>True) {r:Int×Bool} (hp:dG.p F aa ag cO = some r):∃ v H',dG.tw F aa ag cO H = some (v,H')∧dG.Q H R0 R0  r v H':=by
 obtain ⟨w0,_⟩:=h0
 unfold dG.p at hp
 unfold dG.tw dG.twX
 have s0:=w0.rf
 refine bif_ex (fun hb=>?_) (fun hb=>?_)
 ·replace hp:=bif_t hb hp
  obtain ⟨r1,e1,hp⟩:=bind_some' hp
  refine call_ex (cm.P ⟨w0,trivial⟩ e1) ?_
  rintro _ H2 ⟨rfl,w2,s2,_⟩
  refine bind_ex rfl ?_
  obtain ⟨r3,e3,hp⟩:=bind_some' hp
  refine call_ex (cm.P ⟨w2,trivial⟩ e3) ?_
  rintro _ H4 ⟨rfl,w4,s4,_⟩
  refine bind_ex rfl ?_
  obtain ⟨g5,hp⟩:=ifn_p hp
  refine ifn_ex g5 ?_
  refine bif_ex (fun hb=>?_) (fun hb=>?_)
  ·replace hp:=bif_t hb hp
   obtain rfl:=Option.some.inj hp
   exact ⟨_,_,rfl,rfl,w4,(s0.trans (s2.trans s4)),trivial⟩
  ·replace hp:=bif_f hb hp
   obtain rfl:=Option.some.inj hp
   exact ⟨_,_,rfl,rfl,w4,(s0.trans (s2.trans s4)),trivial⟩
 ·replace hp:=bif_f hb hp
  obtain rfl:=Option.some.inj hp
  exact ⟨_,_,rfl,rfl,w0,s0,trivial⟩
def dv.Q (H0:Hp) (Ri R0:List Rs) (bk aX bl bc aY aT bf bg bw bh:Int) (eE dd eU de df:Sl) (aa ae:Nat) (r:Bool×Int) (v:AV) (H':Hp):Prop:=v = (.tup [])∧Out H0 Ri H' (Rs.blk aa [.int .i64 bk,.int .i64 aX,.sl eE,.int .i64 bl,.int .i64 bc,.sl dd,.int .i64 aY,.int .i64 aT,.sl eU,.int .i64 bf,.int .i64 bg,.sl de,.int .i64 bw,.int .i64 bh,.sl df,.bool (r.1)] :: Rs.blk ae [.int .i64 (r.2)] :: R0) fun R=>True
def dv.p (F:Nat) (ax:Bool) (pT:Int) (bi:Int) (jz:Int):Option (Bool×Int):=(dG.p F bi jz 2000000000000).bind fun r1=>(bif (!r1.2) then (some (true,0)) else ((cm.p F (IntKind.i64.wrap (pT + r1.1))).bind fun r6=>(bif (decide (r6 > 1000000000000)) then (some (true,0)) else (some (ax,(IntKind.i64.wrap (pT + r1.1)))))))
theorem dv.P {F:Nat} {bk aX bl bc aY aT bf bg bw bh pT bi jz:Int} {eE dd eU de df:Sl} {ax:Bool} {aa ae:Nat} {H:Hp} {R0:List Rs}  (h0:Inn H (Rs.blk aa [.int .i64 bk,.int .i64 aX,.sl eE,.int .i64 bl,.int .i64 bc,.sl dd,.int .i64 aY,.int .i64 aT,.sl eU,.int .i64 bf,.int .i64 bg,.sl de,.int .i64 bw,.int .i64 bh,.sl df,.bool ax] :: Rs.blk ae [.int .i64 pT] :: R0) fun R=>True) {r:Bool×Int} (hp:dv.p F ax pT bi jz = some r):∃ v H',dv.tw F aa 0 ae 0 bi jz H = some (v,H')∧dv.Q H (Rs.blk aa [.int .i64 bk,.int .i64 aX,.sl eE,.int .i64 bl,.int .i64 bc,.sl dd,.int .i64 aY,.int .i64 aT,.sl eU,.int .i64 bf,.int .i64 bg,.sl de,.int .i64 bw,.int .i64 bh,.sl df,.bool ax] :: Rs.blk ae [.int .i64 pT] :: R0) R0 bk aX bl bc aY aT bf bg bw bh eE dd eU de df aa ae r v H':=by
 obtain ⟨w0,_⟩:=h0
 unfold dv.p at hp
 unfold dv.tw dv.twX
 have s0:=w0.rf
 obtain ⟨r1,e1,hp⟩:=bind_some' hp
 refine call_ex (dG.P ⟨w0,trivial⟩ e1) ?_
 rintro _ H2 ⟨rfl,w2,s2,_⟩
 refine bind_ex rfl ?_
 refine bind_ex rfl ?_
 refine bind_ex rfl ?_
 refine bind_ex rfl ?_
 refine bind_ex rfl ?_
 refine bind_ex (ldI_of (w2.ld (i:=1) rfl rfl)) ?_
 refine st_k w2 (i:=1) rfl rfl rfl fun H3 w3 s3=>?_
 dsimp only [List.set] at w3 s3
 refine bif_ex (fun hb=>?_) (fun hb=>?_)
 ·replace hp:=bif_t hb hp
  refine st_k w3 (i:=0) rfl rfl rfl fun H4 w4 s4=>?_
  dsimp only [List.set] at w4 s4
  refine st_k w4 (i:=1) rfl rfl rfl fun H5 w5 s5=>?_
  dsimp only [List.set] at w5 s5
  obtain rfl:=Option.some.inj hp
  exact ⟨_,_,rfl,rfl,w5,(s0.trans (s2.trans (s3.trans (s4.trans s5)))),trivial⟩
 ·replace hp:=bif_f hb hp
  refine bind_ex (ldI_of (w3.ld (i:=1) rfl rfl)) ?_
  obtain ⟨r6,e6,hp⟩:=bind_some' hp
  refine call_ex (cm.P ⟨w3,trivial⟩ e6) ?_
  rintro _ H7 ⟨rfl,w7,s7,_⟩
  refine bind_ex rfl ?_
  refine bif_ex (fun hb=>?_) (fun hb=>?_)
  ·replace hp:=bif_t hb hp
   refine st_k w7 (i:=0) rfl rfl rfl fun H8 w8 s8=>?_
   dsimp only [List.set] at w8 s8
   refine st_k w8 (i:=1) rfl rfl rfl fun H9 w9 s9=>?_
   dsimp only [List.set] at w9 s9
   obtain rfl:=Option.some.inj hp
   exact ⟨_,_,rfl,rfl,w9,(s0.trans (s2.trans (s3.trans (s7.trans (s8.trans s9))))),trivial⟩
  ·replace hp:=bif_f hb hp
   obtain rfl:=Option.some.inj hp
   exact ⟨_,_,rfl,rfl,w7,(s0.trans (s2.trans (s3.trans s7))),trivial⟩
def bJ.Q (H0:Hp) (Ri R0:List Rs) (bk aX bl bc aY aT bf bg bw bh:Int) (eE dd eU de df:Sl) (aa fz:Nat) (gj:ON) (gk:Cap) (gN:Bool) (gO gP:List AV) (r:Bool×List Int) (v:AV) (H':Hp):Prop:=∃ kW:List AV,v = (.tup [])∧fz = (r.2).length∧Out H0 Ri H' (Rs.blk aa [.int .i64 bk,.int .i64 aX,.sl eE,.int .i64 bl,.int .i64 bc,.sl dd,.int .i64 aY,.int .i64 aT,.sl eU,.int .i64 bf,.int .i64 bg,.sl de,.int .i64 bw,.int .i64 bh,.sl df,.bool (r.1)] :: Rs.ow gN ⟨gj,fz,gk⟩ (eInt .i64).z gO kW gP :: R0) fun R=>CR (eInt .i64) H' R kW (r.2)
def bJ.S7 (H0:Hp) (Ri R0:List Rs) (ay ak aA ap aq ao au av aH aw:Int) (eF cL e_ cM cN:Sl) (az g_:Nat) (iE:ON) (iF:Cap) (j_:Bool) (ka kb:List AV) (C:Nat→Nat→Int→Int→Int→Nat→Nat→Int→Int→Hp→OA) (pC:Bool→Int→Int→Int→Int→List Int→Int→Int→Option (Bool×List Int)):Prop:=∀ {ax:Bool} {ck dY dx oz jq fC fd:Int} {hU:List Int} {nl:List AV} {cS:Nat},∀ {H:Hp},g_ = hU.length→(Out H0 Ri H (Rs.blk az [.int .i64 ay,.int .i64 ak,.sl eF,.int .i64 aA,.int .i64 ap,.sl cL,.int .i64 aq,.int .i64 ao,.sl e_,.int .i64 au,.int .i64 av,.sl cM,.int .i64 aH,.int .i64 aw,.sl cN,.bool ax] :: Rs.ow j_ ⟨iE,g_,iF⟩ (eInt .i64).z ka nl kb :: Rs.blk cS [.int .i64 oz,.int .i64 jq,.sl ⟨iE,g_,iF⟩] :: R0) fun R=>CR (eInt .i64) H R nl hU)→∀ {r:Bool×List Int},pC ax ck dY dx jq hU fC fd = some r→∃ v H',C az 0 ck dY dx cS 0 fC fd H = some (v,H')∧bJ.Q H0 Ri R0 ay ak aA ap aq ao au av aH aw eF cL e_ cM cN az g_ iE iF j_ ka kb r v H'
def bJ.pl7 (F:Nat) :Nat→Bool→Int→Int→Int→Int→List Int→Int→Int→Option (Bool×List Int)
 | 0,_,_,_,_,_,_,_,_=>none
 | k + 1,ax,ck,dY,dx,jq,hU,fC,fd=>(bif (decide (fd < fC)) then ((ix hU (IntKind.i64.wrap ((IntKind.i64.wrap (ck * jq)) + fd))).bind fun n2=>(ix hU (IntKind.i64.wrap ((IntKind.i64.wrap (dY * jq)) + fd))).bind fun n5=>(dG.p F (gt hU n5) dx 2000000000000).bind fun r6=>(some (hU.set n2 (IntKind.i64.wrap ((gt hU n2) + r6.1)))).bind fun l9=>(bif (!r6.2) then ((some (l9.set n2 0)).bind fun l12=>bJ.pl7 F k true ck dY dx jq l12 fC (IntKind.i64.wrap (fd + 1))) else ((cm.p F (gt l9 n2)).bind fun r16=>(bif (decide (r16 > 1000000000000)) then ((some (l9.set n2 0)).bind fun l19=>bJ.pl7 F k true ck dY dx jq l19 fC (IntKind.i64.wrap (fd + 1))) else (bJ.pl7 F k ax ck dY dx jq l9 fC (IntKind.i64.wrap (fd + 1))))))) else (some (ax,hU)))
termination_by structural n=>n
theorem bJ.l7_P {F:Nat} {H0:Hp} {Ri R0:List Rs} {ay ak aA ap aq ao au av aH aw:Int} {eF cL e_ cM cN:Sl} {az g_:Nat} {iE:ON} {iF:Cap} {j_:Bool} {ka kb:List AV} :∀ k,bJ.S7 H0 Ri R0 ay ak aA ap aq ao au av aH aw eF cL e_ cM cN az g_ iE iF j_ ka kb (bJ.l7 F (aO.tw F) (dv.tw F)  k) (bJ.pl7 F  k):=by
 intro k
 induction k with
 | zero=>
  intro ax ck dY dx oz jq fC fd hU nl cS H qI h0 r hp
  exact nomatch (show (none:Option (Bool×List Int)) = some r from hp)
 | succ k ih=>
  intro ax ck dY dx oz jq fC fd hU nl cS H qI h0 r hp
  obtain ⟨w0,s0,mn⟩:=h0
  subst qI
  unfold bJ.pl7 at hp
  unfold bJ.l7
  refine bif_ex (fun hb=>?_) (fun hb=>?_)
  ·replace hp:=bif_t hb hp
   refine bind_ex (ldI_of (w0.ld (i:=2) rfl rfl)) ?_
   refine bind_ex (ldI_of (w0.ld (i:=2) rfl rfl)) ?_
   refine bind_ex (ldSl_of (w0.ld (i:=2) rfl rfl)) ?_
   refine aO.inl ?_
   refine new_k w0 fun H1 w1 s1=>?_
   refine bind_ex (ldSl_of (w1.ld (i:=0) rfl rfl)) ?_
   refine bind_ex (ldI_of (w1.ld (i:=0) rfl rfl)) ?_
   obtain ⟨n2,g2,hp⟩:=bind_some' hp
   obtain ⟨p2,q2,i2,h2,j2⟩:=W.ixo (E:=(eInt .i64)) w1 (i:=2) rfl rfl (mn.step s1) g2
   refine bind_ex i2 ?_
   refine ⟨_,_,rfl,?_⟩
   refine bind_ex rfl ?_
   refine ifs_ex (W.cons_of (Rn:=[_]) w0 w1 s1) ?_
   refine bind_ex (ldI_of (w1.ld (i:=3) rfl rfl)) ?_
   refine bind_ex (ldI_of (w1.ld (i:=3) rfl rfl)) ?_
   refine bind_ex (ldSl_of (w1.ld (i:=3) rfl rfl)) ?_
   refine aO.inl ?_
   refine new_k w1 fun H4 w4 s4=>?_
   refine bind_ex (ldSl_of (w4.ld (i:=0) rfl rfl)) ?_
   refine bind_ex (ldI_of (w4.ld (i:=0) rfl rfl)) ?_
   obtain ⟨n5,g5,hp⟩:=bind_some' hp
   obtain ⟨p5,q5,i5,h5,j5⟩:=W.ixo (E:=(eInt .i64)) w4 (i:=3) rfl rfl (mn.step (s1.trans s4)) g5
   refine bind_ex i5 ?_
   refine ⟨_,_,rfl,?_⟩
   refine bind_ex rfl ?_
   have h5:_ = [_]:=h5
   subst h5
   refine bind_ex (ldI_of (j5 0 _ rfl)) ?_
   refine dv.inl ?_
   obtain ⟨r6,e6,hp⟩:=bind_some' hp
   refine call_ex (dG.P ⟨w4,trivial⟩ e6) ?_
   rintro _ H7 ⟨rfl,w7,s7,_⟩
   refine bind_ex rfl ?_
   refine bind_ex rfl ?_
   refine bind_ex rfl ?_
   refine bind_ex rfl ?_
   refine bind_ex rfl ?_
   obtain ⟨p8,q8,i8,h8,j8⟩:=W.ixo (E:=(eInt .i64)) w7 (i:=3) rfl rfl (mn.step (s1.trans (s4.trans s7))) g2
   obtain rfl:=Option.some.inj (i2.symm.trans i8)
   have h8:_ = [_]:=h8
   subst h8
   refine bind_ex (ldI_of (j8 0 _ rfl)) ?_
   obtain ⟨l9,e9,hp⟩:=bind_some' hp
   refine sto_k (eInt .i64) w7 (i:=3) (j:=0) (p:=p2) rfl rfl (mn.step (s1.trans (s4.trans s7))) g2 i2 e9 rfl rfl (fun _ h=>by have h:_ = [_]:=h; subst h; exact rfl) fun H10 k10 w10 s10 c10=>?_
   dsimp only [List.set] at w10 s10 c10
   refine bif_ex (fun hb=>?_) (fun hb=>?_)
   ·replace hp:=bif_t hb hp
    refine st_k w10 (i:=2) rfl rfl rfl fun H11 w11 s11=>?_
    dsimp only [List.set] at w11 s11
    obtain ⟨l12,e12,hp⟩:=bind_some' hp
    refine sto_k (eInt .i64) w11 (i:=3) (j:=0) (p:=p2) rfl rfl (c10.step s11) (ix_len g2 (st_len e9)) i2 e12 rfl rfl (fun _ h=>by have h:_ = [_]:=h; subst h; exact rfl) fun H13 k13 w13 s13 c13=>?_
    dsimp only [List.set] at w13 s13 c13
    refine ⟨_,_,rfl,?_⟩
    obtain ⟨w14,s14⟩:=w13.pick' [2,3,4] 5 rfl rfl rfl
    dsimp only [pk,pks,nth,List.drop] at w14 s14
    exact ih ((st_len e9).symm.trans (st_len e12).symm) ⟨w14,(s0.trans (s1.trans (s4.trans (s7.trans (s10.trans (s11.trans (s13.trans s14))))))),(c13.step s14)⟩ hp
   ·replace hp:=bif_f hb hp
    obtain ⟨p15,q15,i15,h15,j15⟩:=W.ixo (E:=(eInt .i64)) w10 (i:=3) rfl rfl c10 (ix_len g2 (st_len e9))
    obtain rfl:=Option.some.inj (i2.symm.trans i15)
    have h15:_ = [_]:=h15
    subst h15
    refine bind_ex (ldI_of (j15 0 _ rfl)) ?_
    obtain ⟨r16,e16,hp⟩:=bind_some' hp
    refine call_ex (cm.P ⟨w10,trivial⟩ e16) ?_
    rintro _ H17 ⟨rfl,w17,s17,_⟩
    refine bind_ex rfl ?_
    refine bif_ex (fun hb=>?_) (fun hb=>?_)
    ·replace hp:=bif_t hb hp
     refine st_k w17 (i:=2) rfl rfl rfl fun H18 w18 s18=>?_
     dsimp only [List.set] at w18 s18
     obtain ⟨l19,e19,hp⟩:=bind_some' hp
     refine sto_k (eInt .i64) w18 (i:=3) (j:=0) (p:=p2) rfl rfl (c10.step (s17.trans s18)) (ix_len g2 (st_len e9)) i2 e19 rfl rfl (fun _ h=>by have h:_ = [_]:=h; subst h; exact rfl) fun H20 k20 w20 s20 c20=>?_
     dsimp only [List.set] at w20 s20 c20
     refine ⟨_,_,rfl,?_⟩
     obtain ⟨w21,s21⟩:=w20.pick' [2,3,4] 5 rfl rfl rfl
     dsimp only [pk,pks,nth,List.drop] at w21 s21
     exact ih ((st_len e9).symm.trans (st_len e19).symm) ⟨w21,(s0.trans (s1.trans (s4.trans (s7.trans (s10.trans (s17.trans (s18.trans (s20.trans s21)))))))),(c20.step s21)⟩ hp
    ·replace hp:=bif_f hb hp
     refine ⟨_,_,rfl,?_⟩
     obtain ⟨w22,s22⟩:=w17.pick' [2,3,4] 5 rfl rfl rfl
     dsimp only [pk,pks,nth,List.drop] at w22 s22
     exact ih ((st_len e9).symm) ⟨w22,(s0.trans (s1.trans (s4.trans (s7.trans (s10.trans (s17.trans s22)))))),(c10.step (s17.trans s22))⟩ hp
  ·replace hp:=bif_f hb hp
   obtain ⟨w23,s23⟩:=w0.pick' [0,1] 3 rfl rfl rfl
   dsimp only [pk,pks,nth,List.drop] at w23 s23
   obtain rfl:=Option.some.inj hp
   exact ⟨_,_,rfl,_,rfl,rfl,w23,(s0.trans s23),(mn.step s23)⟩
def bJ.p (F:Nat) (ax:Bool) (af:Int) (gA:List Int) (cQ:Int) (cR:Int) (cz:Int):Option (Bool×List Int):=bJ.pl7 F F ax cQ cR cz af gA af 0
theorem bJ.P {F:Nat} {bk aX bl bc aY aT bf bg bw bh ae af cQ cR cz:Int} {eE dd eU de df:Sl} {ax gN:Bool} {aa fz:Nat} {gj:ON} {gk:Cap} {gA:List Int} {gO gP jZ:List AV} {H:Hp} {R0:List Rs} (mQ:fz = gA.length) (h0:Inn H (Rs.blk aa [.int .i64 bk,.int .i64 aX,.sl eE,.int .i64 bl,.int .i64 bc,.sl dd,.int .i64 aY,.int .i64 aT,.sl eU,.int .i64 bf,.int .i64 bg,.sl de,.int .i64 bw,.int .i64 bh,.sl df,.bool ax] :: Rs.ow gN ⟨gj,fz,gk⟩ (eInt .i64).z gO jZ gP :: R0) fun R=>CR (eInt .i64) H R jZ gA) {r:Bool×List Int} (hp:bJ.p F ax af gA cQ cR cz = some r):∃ v H',bJ.tw F aa 0 ae af ⟨gj,fz,gk⟩ cQ cR cz H = some (v,H')∧bJ.Q H (Rs.blk aa [.int .i64 bk,.int .i64 aX,.sl eE,.int .i64 bl,.int .i64 bc,.sl dd,.int .i64 aY,.int .i64 aT,.sl eU,.int .i64 bf,.int .i64 bg,.sl de,.int .i64 bw,.int .i64 bh,.sl df,.bool ax] :: Rs.ow gN ⟨gj,fz,gk⟩ (eInt .i64).z gO jZ gP :: R0) R0 bk aX bl bc aY aT bf bg bw bh eE dd eU de df aa fz gj gk gN gO gP r v H':=by
 obtain ⟨w0,mi⟩:=h0
 subst mQ
 unfold bJ.p at hp
 unfold bJ.tw bJ.twX
 have s0:=w0.rf
 refine new_k w0 fun H1 w1 s1=>?_
 refine bind_ex (ldI_of (w1.ld (i:=0) rfl rfl)) ?_
 obtain ⟨w2,s2⟩:=w1.pick' [1,2,0] 3 rfl rfl rfl
 dsimp only [pk,pks,nth,List.drop] at w2 s2
 exact bJ.l7_P F rfl ⟨w2,(s0.trans (s1.trans s2)),(mi.step (s1.trans s2))⟩ hp
def bK.Q (H0:Hp) (Ri R0:List Rs) (bk aX bl bc aY aT bf bg bw bh:Int) (eE dd eU de df:Sl) (aa fz:Nat) (gj:ON) (gk:Cap) (gN:Bool) (gO gP:List AV) (r:Bool×List Int) (v:AV) (H':Hp):Prop:=∃ kW:List AV,v = (.tup [])∧fz = (r.2).length∧Out H0 Ri H' (Rs.blk aa [.int .i64 bk,.int .i64 aX,.sl eE,.int .i64 bl,.int .i64 bc,.sl dd,.int .i64 aY,.int .i64 aT,.sl eU,.int .i64 bf,.int .i64 bg,.sl de,.int .i64 bw,.int .i64 bh,.sl df,.bool (r.1)] :: Rs.ow gN ⟨gj,fz,gk⟩ (eInt .i64).z gO kW gP :: R0) fun R=>CR (eInt .i64) H' R kW (r.2)
def bK.S7 (H0:Hp) (Ri R0:List Rs) (ay ak aA ap aq ao au av aH aw:Int) (eF cL e_ cM cN:Sl) (az g_:Nat) (iE:ON) (iF:Cap) (j_:Bool) (ka kb:List AV) (C:Nat→Nat→Int→Int→Int→Nat→Nat→Int→Int→Hp→OA) (pC:Bool→Int→Int→Int→Int→List Int→Int→Int→Option (Bool×List Int)):Prop:=∀ {ax:Bool} {ck dY dx oz jq fC fd:Int} {hU:List Int} {nl:List AV} {cS:Nat},∀ {H:Hp},g_ = hU.length→(Out H0 Ri H (Rs.blk az [.int .i64 ay,.int .i64 ak,.sl eF,.int .i64 aA,.int .i64 ap,.sl cL,.int .i64 aq,.int .i64 ao,.sl e_,.int .i64 au,.int .i64 av,.sl cM,.int .i64 aH,.int .i64 aw,.sl cN,.bool ax] :: Rs.ow j_ ⟨iE,g_,iF⟩ (eInt .i64).z ka nl kb :: Rs.blk cS [.int .i64 oz,.int .i64 jq,.sl ⟨iE,g_,iF⟩] :: R0) fun R=>CR (eInt .i64) H R nl hU)→∀ {r:Bool×List Int},pC ax ck dY dx jq hU fC fd = some r→∃ v H',C az 0 ck dY dx cS 0 fC fd H = some (v,H')∧bK.Q H0 Ri R0 ay ak aA ap aq ao au av aH aw eF cL e_ cM cN az g_ iE iF j_ ka kb r v H'
def bK.pl7 (F:Nat) :Nat→Bool→Int→Int→Int→Int→List Int→Int→Int→Option (Bool×List Int)
 | 0,_,_,_,_,_,_,_,_=>none
 | k + 1,ax,ck,dY,dx,jq,hU,fC,fd=>(bif (decide (fd < fC)) then ((ix hU (IntKind.i64.wrap ((IntKind.i64.wrap (fd * jq)) + ck))).bind fun n2=>(ix hU (IntKind.i64.wrap ((IntKind.i64.wrap (fd * jq)) + dY))).bind fun n5=>(dG.p F (gt hU n5) dx 2000000000000).bind fun r6=>(some (hU.set n2 (IntKind.i64.wrap ((gt hU n2) + r6.1)))).bind fun l9=>(bif (!r6.2) then ((some (l9.set n2 0)).bind fun l12=>bK.pl7 F k true ck dY dx jq l12 fC (IntKind.i64.wrap (fd + 1))) else ((cm.p F (gt l9 n2)).bind fun r16=>(bif (decide (r16 > 1000000000000)) then ((some (l9.set n2 0)).bind fun l19=>bK.pl7 F k true ck dY dx jq l19 fC (IntKind.i64.wrap (fd + 1))) else (bK.pl7 F k ax ck dY dx jq l9 fC (IntKind.i64.wrap (fd + 1))))))) else (some (ax,hU)))
termination_by structural n=>n
theorem bK.l7_P {F:Nat} {H0:Hp} {Ri R0:List Rs} {ay ak aA ap aq ao au av aH aw:Int} {eF cL e_ cM cN:Sl} {az g_:Nat} {iE:ON} {iF:Cap} {j_:Bool} {ka kb:List AV} :∀ k,bK.S7 H0 Ri R0 ay ak aA ap aq ao au av aH aw eF cL e_ cM cN az g_ iE iF j_ ka kb (bK.l7 F (aO.tw F) (dv.tw F)  k) (bK.pl7 F  k):=by
 intro k
 induction k with
 | zero=>
  intro ax ck dY dx oz jq fC fd hU nl cS H qI h0 r hp
  exact nomatch (show (none:Option (Bool×List Int)) = some r from hp)
 | succ k ih=>
  intro ax ck dY dx oz jq fC fd hU nl cS H qI h0 r hp
  obtain ⟨w0,s0,mn⟩:=h0
  subst qI
  unfold bK.pl7 at hp
  unfold bK.l7
  refine bif_ex (fun hb=>?_) (fun hb=>?_)
  ·replace hp:=bif_t hb hp
   refine bind_ex (ldI_of (w0.ld (i:=2) rfl rfl)) ?_
   refine bind_ex (ldI_of (w0.ld (i:=2) rfl rfl)) ?_
   refine bind_ex (ldSl_of (w0.ld (i:=2) rfl rfl)) ?_
   refine aO.inl ?_
   refine new_k w0 fun H1 w1 s1=>?_
   refine bind_ex (ldSl_of (w1.ld (i:=0) rfl rfl)) ?_
   refine bind_ex (ldI_of (w1.ld (i:=0) rfl rfl)) ?_
   obtain ⟨n2,g2,hp⟩:=bind_some' hp
   obtain ⟨p2,q2,i2,h2,j2⟩:=W.ixo (E:=(eInt .i64)) w1 (i:=2) rfl rfl (mn.step s1) g2
   refine bind_ex i2 ?_
   refine ⟨_,_,rfl,?_⟩
   refine bind_ex rfl ?_
   refine ifs_ex (W.cons_of (Rn:=[_]) w0 w1 s1) ?_
   refine bind_ex (ldI_of (w1.ld (i:=3) rfl rfl)) ?_
   refine bind_ex (ldI_of (w1.ld (i:=3) rfl rfl)) ?_
   refine bind_ex (ldSl_of (w1.ld (i:=3) rfl rfl)) ?_
   refine aO.inl ?_
   refine new_k w1 fun H4 w4 s4=>?_
   refine bind_ex (ldSl_of (w4.ld (i:=0) rfl rfl)) ?_
   refine bind_ex (ldI_of (w4.ld (i:=0) rfl rfl)) ?_
   obtain ⟨n5,g5,hp⟩:=bind_some' hp
   obtain ⟨p5,q5,i5,h5,j5⟩:=W.ixo (E:=(eInt .i64)) w4 (i:=3) rfl rfl (mn.step (s1.trans s4)) g5
   refine bind_ex i5 ?_
   refine ⟨_,_,rfl,?_⟩
   refine bind_ex rfl ?_
   have h5:_ = [_]:=h5
   subst h5
   refine bind_ex (ldI_of (j5 0 _ rfl)) ?_
   refine dv.inl ?_
   obtain ⟨r6,e6,hp⟩:=bind_some' hp
   refine call_ex (dG.P ⟨w4,trivial⟩ e6) ?_
   rintro _ H7 ⟨rfl,w7,s7,_⟩
   refine bind_ex rfl ?_
   refine bind_ex rfl ?_
   refine bind_ex rfl ?_
   refine bind_ex rfl ?_
   refine bind_ex rfl ?_
   obtain ⟨p8,q8,i8,h8,j8⟩:=W.ixo (E:=(eInt .i64)) w7 (i:=3) rfl rfl (mn.step (s1.trans (s4.trans s7))) g2
   obtain rfl:=Option.some.inj (i2.symm.trans i8)
   have h8:_ = [_]:=h8
   subst h8
   refine bind_ex (ldI_of (j8 0 _ rfl)) ?_
   obtain ⟨l9,e9,hp⟩:=bind_some' hp
   refine sto_k (eInt .i64) w7 (i:=3) (j:=0) (p:=p2) rfl rfl (mn.step (s1.trans (s4.trans s7))) g2 i2 e9 rfl rfl (fun _ h=>by have h:_ = [_]:=h; subst h; exact rfl) fun H10 k10 w10 s10 c10=>?_
   dsimp only [List.set] at w10 s10 c10
   refine bif_ex (fun hb=>?_) (fun hb=>?_)
   ·replace hp:=bif_t hb hp
    refine st_k w10 (i:=2) rfl rfl rfl fun H11 w11 s11=>?_
    dsimp only [List.set] at w11 s11
    obtain ⟨l12,e12,hp⟩:=bind_some' hp
    refine sto_k (eInt .i64) w11 (i:=3) (j:=0) (p:=p2) rfl rfl (c10.step s11) (ix_len g2 (st_len e9)) i2 e12 rfl rfl (fun _ h=>by have h:_ = [_]:=h; subst h; exact rfl) fun H13 k13 w13 s13 c13=>?_
    dsimp only [List.set] at w13 s13 c13
    refine ⟨_,_,rfl,?_⟩
    obtain ⟨w14,s14⟩:=w13.pick' [2,3,4] 5 rfl rfl rfl
    dsimp only [pk,pks,nth,List.drop] at w14 s14
    exact ih ((st_len e9).symm.trans (st_len e12).symm) ⟨w14,(s0.trans (s1.trans (s4.trans (s7.trans (s10.trans (s11.trans (s13.trans s14))))))),(c13.step s14)⟩ hp
   ·replace hp:=bif_f hb hp
    obtain ⟨p15,q15,i15,h15,j15⟩:=W.ixo (E:=(eInt .i64)) w10 (i:=3) rfl rfl c10 (ix_len g2 (st_len e9))
    obtain rfl:=Option.some.inj (i2.symm.trans i15)
    have h15:_ = [_]:=h15
    subst h15
    refine bind_ex (ldI_of (j15 0 _ rfl)) ?_
    obtain ⟨r16,e16,hp⟩:=bind_some' hp
    refine call_ex (cm.P ⟨w10,trivial⟩ e16) ?_
    rintro _ H17 ⟨rfl,w17,s17,_⟩
    refine bind_ex rfl ?_
    refine bif_ex (fun hb=>?_) (fun hb=>?_)
    ·replace hp:=bif_t hb hp
     refine st_k w17 (i:=2) rfl rfl rfl fun H18 w18 s18=>?_
     dsimp only [List.set] at w18 s18
     obtain ⟨l19,e19,hp⟩:=bind_some' hp
     refine sto_k (eInt .i64) w18 (i:=3) (j:=0) (p:=p2) rfl rfl (c10.step (s17.trans s18)) (ix_len g2 (st_len e9)) i2 e19 rfl rfl (fun _ h=>by have h:_ = [_]:=h; subst h; exact rfl) fun H20 k20 w20 s20 c20=>?_
     dsimp only [List.set] at w20 s20 c20
     refine ⟨_,_,rfl,?_⟩
     obtain ⟨w21,s21⟩:=w20.pick' [2,3,4] 5 rfl rfl rfl
     dsimp only [pk,pks,nth,List.drop] at w21 s21
     exact ih ((st_len e9).symm.trans (st_len e19).symm) ⟨w21,(s0.trans (s1.trans (s4.trans (s7.trans (s10.trans (s17.trans (s18.trans (s20.trans s21)))))))),(c20.step s21)⟩ hp
    ·replace hp:=bif_f hb hp
     refine ⟨_,_,rfl,?_⟩
     obtain ⟨w22,s22⟩:=w17.pick' [2,3,4] 5 rfl rfl rfl
     dsimp only [pk,pks,nth,List.drop] at w22 s22
     exact ih ((st_len e9).symm) ⟨w22,(s0.trans (s1.trans (s4.trans (s7.trans (s10.trans (s17.trans s22)))))),(c10.step (s17.trans s22))⟩ hp
  ·replace hp:=bif_f hb hp
   obtain ⟨w23,s23⟩:=w0.pick' [0,1] 3 rfl rfl rfl
   dsimp only [pk,pks,nth,List.drop] at w23 s23
   obtain rfl:=Option.some.inj hp
   exact ⟨_,_,rfl,_,rfl,rfl,w23,(s0.trans s23),(mn.step s23)⟩
def bK.p (F:Nat) (ax:Bool) (ae:Int) (af:Int) (gA:List Int) (cQ:Int) (cR:Int) (cz:Int):Option (Bool×List Int):=bK.pl7 F F ax cQ cR cz af gA ae 0
theorem bK.P {F:Nat} {bk aX bl bc aY aT bf bg bw bh ae af cQ cR cz:Int} {eE dd eU de df:Sl} {ax gN:Bool} {aa fz:Nat} {gj:ON} {gk:Cap} {gA:List Int} {gO gP jZ:List AV} {H:Hp} {R0:List Rs} (mQ:fz = gA.length) (h0:Inn H (Rs.blk aa [.int .i64 bk,.int .i64 aX,.sl eE,.int .i64 bl,.int .i64 bc,.sl dd,.int .i64 aY,.int .i64 aT,.sl eU,.int .i64 bf,.int .i64 bg,.sl de,.int .i64 bw,.int .i64 bh,.sl df,.bool ax] :: Rs.ow gN ⟨gj,fz,gk⟩ (eInt .i64).z gO jZ gP :: R0) fun R=>CR (eInt .i64) H R jZ gA) {r:Bool×List Int} (hp:bK.p F ax ae af gA cQ cR cz = some r):∃ v H',bK.tw F aa 0 ae af ⟨gj,fz,gk⟩ cQ cR cz H = some (v,H')∧bK.Q H (Rs.blk aa [.int .i64 bk,.int .i64 aX,.sl eE,.int .i64 bl,.int .i64 bc,.sl dd,.int .i64 aY,.int .i64 aT,.sl eU,.int .i64 bf,.int .i64 bg,.sl de,.int .i64 bw,.int .i64 bh,.sl df,.bool ax] :: Rs.ow gN ⟨gj,fz,gk⟩ (eInt .i64).z gO jZ gP :: R0) R0 bk aX bl bc aY aT bf bg bw bh eE dd eU de df aa fz gj gk gN gO gP r v H':=by
 obtain ⟨w0,mi⟩:=h0
 subst mQ
 unfold bK.p at hp
 unfold bK.tw bK.twX
 have s0:=w0.rf
 refine new_k w0 fun H1 w1 s1=>?_
 refine bind_ex (ldI_of (w1.ld (i:=0) rfl rfl)) ?_
 obtain ⟨w2,s2⟩:=w1.pick' [1,2,0] 3 rfl rfl rfl
 dsimp only [pk,pks,nth,List.drop] at w2 s2
 exact bK.l7_P F rfl ⟨w2,(s0.trans (s1.trans s2)),(mi.step (s1.trans s2))⟩ hp
def cZ.Q (H0:Hp) (Ri R0:List Rs) (bk aX bl bc aY aT bf bg bw bh:Int) (cX em cv:ON) (bN dh bC aa:Nat) (cY ep cw:Cap) (fi fM fj:Bool) (fk fl fP fQ fm fo:List AV) (de df:Sl) (r:List Int×List Int×List Int×Bool) (v:AV) (H':Hp):Prop:=∃ iC:List AV,∃ jD:List AV,∃ iD:List AV,v = (.tup [])∧bN = (r.1).length∧dh = (r.2.1).length∧bC = (r.2.2.1).length∧Out H0 Ri H' (Rs.ow fi ⟨cX,bN,cY⟩ (eInt .i64).z fk iC fl :: Rs.ow fM ⟨em,dh,ep⟩ (eInt .i64).z fP jD fQ :: Rs.ow fj ⟨cv,bC,cw⟩ (eInt .i64).z fm iD fo :: Rs.blk aa [.int .i64 bk,.int .i64 aX,.sl ⟨cX,bN,cY⟩,.int .i64 bl,.int .i64 bc,.sl ⟨em,dh,ep⟩,.int .i64 aY,.int .i64 aT,.sl ⟨cv,bC,cw⟩,.int .i64 bf,.int .i64 bg,.sl de,.int .i64 bw,.int .i64 bh,.sl df,.bool (r.2.2.2)] :: R0) fun R=>CR (eInt .i64) H' R iC (r.1)∧CR (eInt .i64) H' R jD (r.2.1)∧CR (eInt .i64) H' R iD (r.2.2.1)
def cZ.p (F:Nat) (aX:Int) (dI:List Int) (bl:Int) (bc:Int) (fE:List Int) (aT:Int) (dk:List Int) (ax:Bool) (ae:Int) (bG:Int) (cA:Int):Option (List Int×List Int×List Int×Bool):=(bJ.p F ax aT dk ae bG cA).bind fun r2=>(bJ.p F r2.1 aX dI ae bG cA).bind fun r5=>(bK.p F r5.1 bl bc fE bG ae (IntKind.i64.wrap (0 - cA))).bind fun r8=>some (r5.2,r8.2,r2.2,r8.1)
end
end Go.Proofs.Ytnkgeongfneafaa.AE
