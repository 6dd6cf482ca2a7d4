import Derived.Test.YtppbogklbhfboaaGreatT2
import Derived.Test.YtppbogklbhfboaaGreatE2
set_option linter.unusedVariables false
set_option linter.unusedSimpArgs false
namespace Go.Proofs.YtppbogklbhfboaaGreat.AE
open Go Go.AE Go.Proofs
set_option linter.unusedVariables false
variable {F:Nat} {H H0:Hp} {Ri R0:List Rs}
set_option maxHeartbeats 4000000
set_option maxRecDepth 100000
noncomputable section
theorem bT.inl {aa:Int} {ac:Int} {aI:Sl} {aw:Int} {bS:Int} {K:AV×Hp->OA} {Q:AV->Hp->Prop} (h:∃ u H1,((Hp.new H [(.i aa),(.i ac),(.sl aI)]).bind λH6=>(Hp.ldSl H6 H.length 2).bind λs7=>(Hp.ldI H6 .i64 H.length 1).bind λn8=>(Sl.idx s7 (IntKind.i64.wrap ((IntKind.i64.wrap (aw * n8))+bS)) 1).bind λp9=>some ((.ptr p9.1 p9.2),H6))=some (u,H1)/\∃ v H',K (u,H1)=some (v,H')/\Q v H'):∃ v H',(bT.tw F aa ac aI aw bS H).bind K=some (v,H')/\Q v H':=Gv h
theorem fe.inl {aa:Int} {ac:Int} {aI:Sl} {aw:Int} {K:AV×Hp->OA} {Q:AV->Hp->Prop} (h:∃ u H1,((Hp.new H [(.i aa),(.i ac),(.sl aI)]).bind λH5=>(Hp.ldSl H5 H.length 2).bind λs6=>(Hp.ldI H5 .i64 H.length 1).bind λn7=>(Hp.ldI H5 .i64 H.length 1).bind λn8=>(Sl.cut s6 1 (IntKind.i64.wrap (aw * n7)) (IntKind.i64.wrap ((IntKind.i64.wrap (aw+1)) * n8))).bind λs9=>some ((.sl s9),H5))=some (u,H1)/\∃ v H',K (u,H1)=some (v,H')/\Q v H'):∃ v H',(fe.tw F aa ac aI aw H).bind K=some (v,H')/\Q v H':=Gv h
theorem gZ.inl {aa:Nat} {ac:Nat} {af:Nat} {aw:Nat} {bS:Int} {ol:Int} {K:AV×Hp->OA} {Q:AV->Hp->Prop} (h:∃ u H1,((fN.tw F bS ol 2000000000000 H).bind λr7=>((r7.1).asTup 2).bind λl8=>(l8[0]?).bind λv9=>((v9).asI .i64).bind λn10=>(l8[1]?).bind λv11=>((v11).asB).bind λb12=>(Hp.ldI r7.2 .i64 af aw).bind λn13=>(Hp.st r7.2 af aw (.i (IntKind.i64.wrap (n13+n10)))).bind λH14=>(bif (!b12) then ((Hp.st H14 aa (ac+15) (.bool true)).bind λH15=>(Hp.st H15 af aw (.i 0)).bind λH16=>some ((.tup []),H16)) else ((Hp.ldI H14 .i64 af aw).bind λn17=>(ev.tw F n17 H14).bind λr18=>((r18.1).asI .i64).bind λn19=>(bif (decide (n19>1000000000000)) then ((Hp.st r18.2 aa (ac+15) (.bool true)).bind λH20=>(Hp.st H20 af aw (.i 0)).bind λH21=>some ((.tup []),H21)) else (some ((.tup []),r18.2))))))=some (u,H1)/\∃ v H',K (u,H1)=some (v,H')/\Q v H'):∃ v H',(gZ.tw F aa ac af aw bS ol H).bind K=some (v,H')/\Q v H':=Gv h
theorem kG.inl {aa:Int} {ac:Int} {aI:Sl} {K:AV×Hp->OA} {Q:AV->Hp->Prop} (h:∃ u H1,((Hp.new H [(.i aa),(.i ac),(.sl aI)]).bind λH4=>(Hp.ldI H4 .i64 H.length 0).bind λn5=>(dO.tw F n5 H4).bind λr6=>((r6.1).asAgg 3).bind λl7=>(l7[0]?).bind λv8=>((v8).asI .i64).bind λn9=>(l7[1]?).bind λv10=>((v10).asI .i64).bind λn11=>(l7[2]?).bind λv12=>((v12).asSl).bind λs13=>(if bp H4 r6.2 then ((Hp.ldI r6.2 .i64 H.length 0).bind λn14=>(dO.tw F n14 r6.2).bind λr15=>((r15.1).asAgg 3).bind λl16=>(l16[0]?).bind λv17=>((v17).asI .i64).bind λn18=>(l16[1]?).bind λv19=>((v19).asI .i64).bind λn20=>(l16[2]?).bind λv21=>((v21).asSl).bind λs22=>(if bp r6.2 r15.2 then ((Hp.ldI r15.2 .i64 H.length 0).bind λn23=>(Hp.ldI r15.2 .i64 H.length (0+1)).bind λn24=>(Hp.ldSl r15.2 H.length (0+2)).bind λs25=>(je.tw F n23 n24 s25 r15.2).bind λr26=>((r26.1).asAgg 3).bind λl27=>(l27[0]?).bind λv28=>((v28).asI .i64).bind λn29=>(l27[1]?).bind λv30=>((v30).asI .i64).bind λn31=>(l27[2]?).bind λv32=>((v32).asSl).bind λs33=>(if bp r15.2 r26.2 then ((Hp.ldI r26.2 .i64 H.length 1).bind λn34=>(dO.tw F n34 r26.2).bind λr35=>((r35.1).asAgg 3).bind λl36=>(l36[0]?).bind λv37=>((v37).asI .i64).bind λn38=>(l36[1]?).bind λv39=>((v39).asI .i64).bind λn40=>(l36[2]?).bind λv41=>((v41).asSl).bind λs42=>(if bp r26.2 r35.2 then ((Hp.ldI r35.2 .i64 H.length 1).bind λn43=>(dO.tw F n43 r35.2).bind λr44=>((r44.1).asAgg 3).bind λl45=>(l45[0]?).bind λv46=>((v46).asI .i64).bind λn47=>(l45[1]?).bind λv48=>((v48).asI .i64).bind λn49=>(l45[2]?).bind λv50=>((v50).asSl).bind λs51=>(Hp.new r44.2 [(.i n9),(.i n11),(.sl s13),(.i n18),(.i n20),(.sl s22),(.i n29),(.i n31),(.sl s33),(.i n38),(.i n40),(.sl s42),(.i n47),(.i n49),(.sl s51),(.bool false)]).bind λH52=>some ((.ptr r44.2.length 0),H52)) else none)) else none)) else none)) else none))=some (u,H1)/\∃ v H',K (u,H1)=some (v,H')/\Q v H'):∃ v H',(kG.tw F aa ac aI H).bind K=some (v,H')/\Q v H':=Gv h
def ju.Q (H0:Hp) (Ri R0:List Rs)  (r:Int) (v:AV) (H':Hp):Prop:=v=(.i r)/\Out H0 Ri H' (R0) λR=>True
def ju.p (F:Nat) (ak:List (Int×Int×Int×Int×Int)) (ai:Int):Option (Int):=(bif (decide ((IntKind.i64.wrap (ai - (ak.length:Int)))<0)) then (some (-1)) else (some (IntKind.i64.wrap (ai - (ak.length:Int)))))
theorem ju.P {bE:ON} {aV:Nat} {bF:Cap} {ak:List (Int×Int×Int×Int×Int)} {ai:Int} (cR:aV=ak.length) (h0:Inn H R0 λR=>ROs (ag eI (ag eI (ag eI (ag eI eI)))) H R ⟨bE,aV,bF⟩ ak) {r:Int} (hp:ju.p F ak ai=some r):Rt (ju.tw F ⟨bE,aV,bF⟩ ai H) (ju.Q H R0 R0  r):=by
 obtain ⟨w0,cE⟩:=h0
 subst cR
 unfold ju.p at hp
 unfold ju.tw ju.twX
 have s0:=w0.rf
 refine aK hp (λhp=>?_) λhp=>?_
 ·exact aO hp ⟨rfl,w0,s0,trivial⟩
 ·exact aO hp ⟨rfl,w0,s0,trivial⟩
def iE.Q (H0:Hp) (Ri R0:List Rs)  (r:Int) (v:AV) (H':Hp):Prop:=v=(.i r)/\Out H0 Ri H' (R0) λR=>True
def iE.p (F:Nat) (ak:List (Int×Int×Int×Int×Int)) (af:Int):Option (Int):=(ju.p F ak af).bind λr2=>(bif (decide (r2<0)) then (some (-1)) else (some r2))
theorem iE.P {bE:ON} {aV:Nat} {bF:Cap} {ak:List (Int×Int×Int×Int×Int)} {ac af:Int} (cR:aV=ak.length) (h0:Inn H R0 λR=>ROs (ag eI (ag eI (ag eI (ag eI eI)))) H R ⟨bE,aV,bF⟩ ak) {r:Int} (hp:iE.p F ak af=some r):Rt (iE.tw F ⟨bE,aV,bF⟩ ac af H) (iE.Q H R0 R0  r):=by
 obtain ⟨w0,cE⟩:=h0
 subst cR
 unfold iE.p at hp
 unfold iE.tw iE.twX
 have s0:=w0.rf
 refine bR w0 λH1 w1 s1=>?_
 refine lSl w1 0 ?_
 obtain ⟨r2,e2,hp⟩:=ah hp
 refine aM (ju.P rfl ⟨w1,(cE.step s1)⟩ e2) ?_
 rintro _ H3 ⟨rfl,w3,s3,_⟩
 refine br ?_
 refine aK hp (λhp=>?_) λhp=>?_
 ·obtain ⟨w4,s4⟩:=w3.pp [] 1
  exact aO hp ⟨rfl,w4,(s0.trans (s1.trans (s3.trans s4))),trivial⟩
 ·obtain ⟨w5,s5⟩:=w3.pp [] 1
  exact aO hp ⟨rfl,w5,(s0.trans (s1.trans (s3.trans s5))),trivial⟩
def jm.Q (H0:Hp) (Ri R0:List Rs)  (r:Int×Int×Int×Int×Int) (v:AV) (H':Hp):Prop:=v=(.agg [(.i r.1),(.i r.2.1),(.i r.2.2.1),(.i r.2.2.2.1),(.i r.2.2.2.2)])/\Out H0 Ri H' (R0) λR=>True
def jm.p (F:Nat) (aa:Int) (ac:Int) (aI:Int) (cL:Int) (cG:Int):Option (Int×Int×Int×Int×Int):=some (aa,ac,aI,cL,cG)
theorem jm.P {aa ac aI cL cG:Int}  (h0:Inn H R0 λR=>True) {r:Int×Int×Int×Int×Int} (hp:jm.p F aa ac aI cL cG=some r):Rt (jm.tw F aa ac aI cL cG H) (jm.Q H R0 R0  r):=by
 obtain ⟨w0,_⟩:=h0
 unfold jm.p at hp
 unfold jm.tw jm.twX
 have s0:=w0.rf
 refine bR w0 λH1 w1 s1=>?_
 refine bR w1 λH2 w2 s2=>?_
 refine bR w2 λH3 w3 s3=>?_
 refine lI w3 2 ?_
 refine aJ w3 0 λH4 w4 s4=>?_
 refine lI w4 2 ?_
 refine aJ w4 0 λH5 w5 s5=>?_
 refine lI w5 2 ?_
 refine aJ w5 0 λH6 w6 s6=>?_
 refine lI w6 2 ?_
 refine aJ w6 0 λH7 w7 s7=>?_
 refine lI w7 2 ?_
 refine aJ w7 0 λH8 w8 s8=>?_
 refine lI w8 0 ?_
 refine lI w8 0 ?_
 refine lI w8 0 ?_
 refine lI w8 0 ?_
 refine lI w8 0 ?_
 refine aJ w8 1 λH9 w9 s9=>?_
 refine aJ w9 1 λH10 w10 s10=>?_
 refine aJ w10 1 λH11 w11 s11=>?_
 refine aJ w11 1 λH12 w12 s12=>?_
 dsimp only [pk,pks,nth,List.drop,List.set,List.eraseIdx] at w12 s4 s5 s6 s7 s8 s9 s10 s11 s12
 refine aJ w12 1 λH13 w13 s13=>?_
 refine lI w13 1 ?_
 refine lI w13 1 ?_
 refine lI w13 1 ?_
 refine lI w13 1 ?_
 refine lI w13 1 ?_
 obtain ⟨w14,s14⟩:=w13.pp [] 3
 exact aO hp ⟨rfl,w14,(s0.trans (s1.trans (s2.trans (s3.trans (s4.trans (s5.trans (s6.trans (s7.trans (s8.trans (s9.trans (s10.trans (s11.trans (s12.trans (s13.trans s14)))))))))))))),trivial⟩
def eF.Q (H0:Hp) (Ri R0:List Rs)  (r:(List (Int×Int×Int×Int×Int))) (v:AV) (H':Hp):Prop:=∃ o0a:ON,∃ o0n:Nat,∃ o0c:Cap,∃ o0k:List AV,v=(.sl ⟨o0a,o0n,o0c⟩)/\o0n=(r).length/\Out H0 Ri H' (Rs.own ⟨o0a,o0n,o0c⟩ (ag eI (ag eI (ag eI (ag eI eI)))).z o0k::R0) λR=>CR (ag eI (ag eI (ag eI (ag eI eI)))) H' R o0k (r)
def eF.S29 (H0:Hp) (Ri R0:List Rs)  (C:Sl->Sl->Int->Hp->OA) (pC:List (Int×Int×Int×Int×Int)->List (Int×Int×Int×Int×Int)->Int->Option ((List (Int×Int×Int×Int×Int)))):Prop:=∀ {vm GL:ON} {sH Dp:Nat} {vn GM:Cap} {jF qx:List (Int×Int×Int×Int×Int)} {GN:List AV} {mg:Int},∀ {H:Hp},sH=jF.length->Dp=qx.length->(Out H0 Ri H (Rs.own ⟨GL,Dp,GM⟩ (ag eI (ag eI (ag eI (ag eI eI)))).z GN::R0) λR=>ROs (ag eI (ag eI (ag eI (ag eI eI)))) H R ⟨vm,sH,vn⟩ jF/\CR (ag eI (ag eI (ag eI (ag eI eI)))) H R GN qx)->∀ {r:(List (Int×Int×Int×Int×Int))},pC jF qx mg=some r->Rt (C ⟨vm,sH,vn⟩ ⟨GL,Dp,GM⟩ mg H) (eF.Q H0 Ri R0  r)
def eF.pl29 (F:Nat) :Nat->List (Int×Int×Int×Int×Int)->List (Int×Int×Int×Int×Int)->Int->Option ((List (Int×Int×Int×Int×Int)))
 | 0,_,_,_=>none
 | k+1,jF,qx,mg=>(bif (decide (mg<(jF.length:Int))) then ((ix jF mg).bind λn1=>(jm.p F ((gt jF n1).1) ((gt jF n1).2.1) ((gt jF n1).2.2.1) ((gt jF n1).2.2.2.1) ((gt jF n1).2.2.2.2)).bind λr2=>(ix qx mg).bind λn4=>(some (qx.set n4 (r2.1,(gt qx n4).2.1,(gt qx n4).2.2.1,(gt qx n4).2.2.2.1,(gt qx n4).2.2.2.2))).bind λl5=>(some (l5.set n4 ((gt l5 n4).1,r2.2.1,(gt l5 n4).2.2.1,(gt l5 n4).2.2.2.1,(gt l5 n4).2.2.2.2))).bind λl7=>(some (l7.set n4 ((gt l7 n4).1,(gt l7 n4).2.1,r2.2.2.1,(gt l7 n4).2.2.2.1,(gt l7 n4).2.2.2.2))).bind λl9=>(some (l9.set n4 ((gt l9 n4).1,(gt l9 n4).2.1,(gt l9 n4).2.2.1,r2.2.2.2.1,(gt l9 n4).2.2.2.2))).bind λl11=>(some (l11.set n4 ((gt l11 n4).1,(gt l11 n4).2.1,(gt l11 n4).2.2.1,(gt l11 n4).2.2.2.1,r2.2.2.2.2))).bind λl13=>eF.pl29 F k jF l13 (IntKind.i64.wrap (mg+1))) else (some qx))
theorem eF.l29_P  :∀ k,eF.S29 H0 Ri R0  (eF.l29 F (jm.tw F)  k) (eF.pl29 F  k):=by
 intro k
 induction k with
 | zero=>unfold eF.S29;intros;rename_i hp;cases hp
 | succ k ih=>
  intro vm GL sH Dp vn GM jF qx GN mg H GO aab h0 r hp
  obtain ⟨w0,s0,AN,GP⟩:=h0
  subst GO
  subst aab
  unfold eF.pl29 at hp
  unfold eF.l29
  refine aK hp (λhp=>?_) λhp=>?_
  ·obtain ⟨n1,g1,hp⟩:=ah hp
   obtain ⟨p1,q1,i1,h1,j1⟩:=ROs.ixr AN rfl g1
   refine ar i1 ?_
   obtain ⟨_,_,rfl,rfl,_,_,rfl,rfl,_,_,rfl,rfl,_,_,rfl,rfl,rfl⟩:=h1
   refine ar (bA (j1 0 _ rfl)) ?_
   refine ar (bA (j1 1 _ rfl)) ?_
   refine ar (bA (j1 2 _ rfl)) ?_
   refine ar (bA (j1 3 _ rfl)) ?_
   refine ar (bA (j1 4 _ rfl)) ?_
   obtain ⟨r2,e2,hp⟩:=ah hp
   refine aM (jm.P ⟨w0,trivial⟩ e2) ?_
   rintro _ H3 ⟨rfl,w3,s3,_⟩
   refine br ?_
   refine br ?_
   refine br ?_
   refine br ?_
   refine br ?_
   refine br ?_
   refine br ?_
   refine br ?_
   refine br ?_
   refine br ?_
   refine br ?_
   obtain ⟨n4,g4,hp⟩:=ah hp
   obtain ⟨p4,q4,i4,h4,j4⟩:=W.ixo (E:=(ag eI (ag eI (ag eI (ag eI eI))))) w3 (i:=0) rfl rfl (GP.step s3) g4
   refine ar i4 ?_
   obtain ⟨l5,e5,hp⟩:=ah hp
   refine gd (ag eI (ag eI (ag eI (ag eI eI)))) w3 (i:=0) (j:=0) (p:=p4) rfl rfl (GP.step s3) g4 i4 e5 rfl rfl (λ_ h=>by obtain ⟨_,_,rfl,rfl,_,_,rfl,rfl,_,_,rfl,rfl,_,_,rfl,rfl,rfl⟩:=h;exact ⟨[_],_,rfl,rfl,[_],_,rfl,rfl,[_],_,rfl,rfl,[_],_,rfl,rfl,rfl⟩) λH6 k6 w6 s6 c6=>?_
   obtain ⟨l7,e7,hp⟩:=ah hp
   refine gd (ag eI (ag eI (ag eI (ag eI eI)))) w6 (i:=0) (j:=1) (p:=p4) rfl rfl c6 (pG g4 (et e5)) i4 e7 rfl rfl (λ_ h=>by obtain ⟨_,_,rfl,rfl,_,_,rfl,rfl,_,_,rfl,rfl,_,_,rfl,rfl,rfl⟩:=h;exact ⟨[_],_,rfl,rfl,[_],_,rfl,rfl,[_],_,rfl,rfl,[_],_,rfl,rfl,rfl⟩) λH8 k8 w8 s8 c8=>?_
   obtain ⟨l9,e9,hp⟩:=ah hp
   refine gd (ag eI (ag eI (ag eI (ag eI eI)))) w8 (i:=0) (j:=2) (p:=p4) rfl rfl c8 (pG g4 ((et e7).trans (et e5))) i4 e9 rfl rfl (λ_ h=>by obtain ⟨_,_,rfl,rfl,_,_,rfl,rfl,_,_,rfl,rfl,_,_,rfl,rfl,rfl⟩:=h;exact ⟨[_],_,rfl,rfl,[_],_,rfl,rfl,[_],_,rfl,rfl,[_],_,rfl,rfl,rfl⟩) λH10 k10 w10 s10 c10=>?_
   obtain ⟨l11,e11,hp⟩:=ah hp
   refine gd (ag eI (ag eI (ag eI (ag eI eI)))) w10 (i:=0) (j:=3) (p:=p4) rfl rfl c10 (pG g4 (((et e9).trans (et e7)).trans (et e5))) i4 e11 rfl rfl (λ_ h=>by obtain ⟨_,_,rfl,rfl,_,_,rfl,rfl,_,_,rfl,rfl,_,_,rfl,rfl,rfl⟩:=h;exact ⟨[_],_,rfl,rfl,[_],_,rfl,rfl,[_],_,rfl,rfl,[_],_,rfl,rfl,rfl⟩) λH12 k12 w12 s12 c12=>?_
   obtain ⟨l13,e13,hp⟩:=ah hp
   refine gd (ag eI (ag eI (ag eI (ag eI eI)))) w12 (i:=0) (j:=4) (p:=p4) rfl rfl c12 (pG g4 ((((et e11).trans (et e9)).trans (et e7)).trans (et e5))) i4 e13 rfl rfl (λ_ h=>by obtain ⟨_,_,rfl,rfl,_,_,rfl,rfl,_,_,rfl,rfl,_,_,rfl,rfl,rfl⟩:=h;exact ⟨[_],_,rfl,rfl,[_],_,rfl,rfl,[_],_,rfl,rfl,[_],_,rfl,rfl,rfl⟩) λH14 k14 w14 s14 c14=>?_
   exact ih rfl (((((et e5).symm.trans (et e7).symm).trans (et e9).symm).trans (et e11).symm).trans (et e13).symm) ⟨w14,(s0.trans (s3.trans (s6.trans (s8.trans (s10.trans (s12.trans s14)))))),(AN.step (s3.trans (s6.trans (s8.trans (s10.trans (s12.trans s14)))))),c14⟩ hp
  ·exact aO hp ⟨_,_,_,_,rfl,rfl,w0,s0,GP⟩
def eF.p (F:Nat) (ak:List (Int×Int×Int×Int×Int)):Option ((List (Int×Int×Int×Int×Int))):=(mkn (ak.length:Int) ((0:Int),(0:Int),(0:Int),(0:Int),(0:Int))).bind λl1=>eF.pl29 F F ak l1 0
theorem eF.P {bE:ON} {aV:Nat} {bF:Cap} {ak:List (Int×Int×Int×Int×Int)} (cR:aV=ak.length) (h0:Inn H R0 λR=>ROs (ag eI (ag eI (ag eI (ag eI eI)))) H R ⟨bE,aV,bF⟩ ak) {r:(List (Int×Int×Int×Int×Int))} (hp:eF.p F ak=some r):Rt (eF.tw F ⟨bE,aV,bF⟩ H) (eF.Q H R0 R0  r):=by
 obtain ⟨w0,cE⟩:=h0
 subst cR
 unfold eF.p at hp
 unfold eF.tw eF.twX
 have s0:=w0.rf
 obtain ⟨l1,e1,hp⟩:=ah hp
 refine uX (ag eI (ag eI (ag eI (ag eI eI)))) ((0:Int),(0:Int),(0:Int),(0:Int),(0:Int)) w0 ⟨[_],_,rfl,rfl,⟨[_],_,rfl,rfl,⟨[_],_,rfl,rfl,⟨[_],_,rfl,rfl,rfl⟩⟩⟩⟩ rfl rfl e1 λH2 k2 w2 s2 c2=>?_
 exact eF.l29_P F rfl rfl ⟨w2,(s0.trans s2),(cE.step s2),c2⟩ hp
def ip.Q (H0:Hp) (Ri R0:List Rs)  (r:(List (Int×Int×Int×Int×Int))×Int) (v:AV) (H':Hp):Prop:=∃ o0a:ON,∃ o0n:Nat,∃ o0c:Cap,∃ o0k:List AV,v=(.agg [(.sl ⟨o0a,o0n,o0c⟩),(.i r.2)])/\o0n=(r.1).length/\Out H0 Ri H' (Rs.own ⟨o0a,o0n,o0c⟩ (ag eI (ag eI (ag eI (ag eI eI)))).z o0k::R0) λR=>CR (ag eI (ag eI (ag eI (ag eI eI)))) H' R o0k (r.1)
def ip.p (F:Nat) (ak:List (Int×Int×Int×Int×Int)) (ac:Int):Option ((List (Int×Int×Int×Int×Int))×Int):=(eF.p F ak).bind λr4=>some (r4,ac)
theorem ip.P {bE:ON} {aV:Nat} {bF:Cap} {ak:List (Int×Int×Int×Int×Int)} {ac:Int} (cR:aV=ak.length) (h0:Inn H R0 λR=>ROs (ag eI (ag eI (ag eI (ag eI eI)))) H R ⟨bE,aV,bF⟩ ak) {r:(List (Int×Int×Int×Int×Int))×Int} (hp:ip.p F ak ac=some r):Rt (ip.tw F ⟨bE,aV,bF⟩ ac H) (ip.Q H R0 R0  r):=by
 obtain ⟨w0,cE⟩:=h0
 subst cR
 unfold ip.p at hp
 unfold ip.tw ip.twX
 have s0:=w0.rf
 refine bR w0 λH1 w1 s1=>?_
 refine bR w1 λH2 w2 s2=>?_
 refine bR w2 λH3 w3 s3=>?_
 refine lSl w3 2 ?_
 obtain ⟨r4,e4,hp⟩:=ah hp
 refine aM (eF.P rfl ⟨w3,(cE.step (s1.trans (s2.trans s3)))⟩ e4) ?_
 rintro _ H5 ⟨o0a_5,o0n_5,o0c_5,o0k_5,rfl,rfl,w5,s5,f5_0⟩
 refine br ?_
 refine aJ w5 1 λH6 w6 s6=>?_
 refine lI w6 3 ?_
 refine aJ w6 1 λH7 w7 s7=>?_
 refine lSl w7 1 ?_
 refine lI w7 1 ?_
 refine aJ w7 2 λH8 w8 s8=>?_
 refine aJ w8 2 λH9 w9 s9=>?_
 refine lSl w9 2 ?_
 refine lI w9 2 ?_
 obtain ⟨w10,s10⟩:=w9.pp [0] 4
 exact aO hp ⟨_,_,_,_,rfl,rfl,w10,(s0.trans (s1.trans (s2.trans (s3.trans (s5.trans (s6.trans (s7.trans (s8.trans (s9.trans s10))))))))),(f5_0.step (s6.trans (s7.trans (s8.trans (s9.trans s10)))))⟩
def fq.Q (H0:Hp) (Ri R0:List Rs)  (r:Bool) (v:AV) (H':Hp):Prop:=v=(.bool r)/\Out H0 Ri H' (R0) λR=>True
def fq.p (F:Nat) (aa:Int) (ai:Int) (cV:Int):Option (Bool):=(bif (decide (aa>=ai)) then (some (decide (aa<=cV))) else (some false))
theorem fq.P {aa ai cV:Int}  (h0:Inn H R0 λR=>True) {r:Bool} (hp:fq.p F aa ai cV=some r):Rt (fq.tw F aa ai cV H) (fq.Q H R0 R0  r):=by
 obtain ⟨w0,_⟩:=h0
 unfold fq.p at hp
 unfold fq.tw fq.twX
 have s0:=w0.rf
 refine aK hp (λhp=>?_) λhp=>?_
 ·exact aO hp ⟨rfl,w0,s0,trivial⟩
 ·exact aO hp ⟨rfl,w0,s0,trivial⟩
def ft.Q (H0:Hp) (Ri R0:List Rs)  (r:Int) (v:AV) (H':Hp):Prop:=v=(.i r)/\Out H0 Ri H' (R0) λR=>True
def ft.p (F:Nat) (aa:Int) (ac:Int) (aI:Int) (cL:Int) (eB:Int):Option (Int):=(ix ([aa,ac,aI,cL]:List Int) eB).bind λn3=>some (gt ([aa,ac,aI,cL]:List Int) n3)
theorem ft.P {aa ac aI cL cG eB:Int}  (h0:Inn H R0 λR=>True) {r:Int} (hp:ft.p F aa ac aI cL eB=some r):Rt (ft.tw F aa ac aI cL cG eB H) (ft.Q H R0 R0  r):=by
 obtain ⟨w0,_⟩:=h0
 unfold ft.p at hp
 unfold ft.tw ft.twX
 have s0:=w0.rf
 refine bR w0 λH1 w1 s1=>?_
 refine lI w1 0 ?_
 refine lI w1 0 ?_
 refine lI w1 0 ?_
 refine lI w1 0 ?_
 refine lg eI w1 (n:=4) (l:=([aa,ac,aI,cL]:List Int)) rfl (CR.cons1 rfl (CR.cons1 rfl (CR.cons1 rfl (CR.cons1 rfl CR.empty)))) rfl λH2 w2 s2 c2=>?_
 obtain ⟨n3,g3,hp⟩:=ah hp
 obtain ⟨p3,q3,i3,h3,j3⟩:=W.ixo (E:=eI) w2 (i:=0) rfl rfl c2 g3
 refine ar i3 ?_
 have h3:_=[_]:=h3
 subst h3
 refine ar (bA (j3 0 _ rfl)) ?_
 obtain ⟨w4,s4⟩:=w2.pp [] 2
 exact aO hp ⟨rfl,w4,(s0.trans (s1.trans (s2.trans s4))),trivial⟩
def fu.Q (H0:Hp) (Ri R0:List Rs)  (r:Bool) (v:AV) (H':Hp):Prop:=v=(.bool r)/\Out H0 Ri H' (R0) λR=>True
def fu.p (F:Nat) (cG:Int) (eB:Int):Option (Bool):=(bif (eB==0) then (some true) else ((bif (eB==3) then ((bif (cG==1) then (some true) else ((bif (eB==1) then (some (cG==(-1))) else (some false))))) else ((bif (eB==1) then (some (cG==(-1))) else (some false))))))
theorem fu.P {aa ac aI cL cG eB:Int}  (h0:Inn H R0 λR=>True) {r:Bool} (hp:fu.p F cG eB=some r):Rt (fu.tw F aa ac aI cL cG eB H) (fu.Q H R0 R0  r):=by
 obtain ⟨w0,_⟩:=h0
 unfold fu.p at hp
 unfold fu.tw fu.twX
 have s0:=w0.rf
 refine bR w0 λH1 w1 s1=>?_
 refine aK hp (λhp=>?_) λhp=>?_
 ·obtain ⟨w2,s2⟩:=w1.pp [] 1
  exact aO hp ⟨rfl,w2,(s0.trans (s1.trans s2)),trivial⟩
 ·refine aK hp (λhp=>?_) λhp=>?_
  ·refine lI w1 0 ?_
   refine aK hp (λhp=>?_) λhp=>?_
   ·obtain ⟨w3,s3⟩:=w1.pp [] 1
    exact aO hp ⟨rfl,w3,(s0.trans (s1.trans s3)),trivial⟩
   ·refine aK hp (λhp=>?_) λhp=>?_
    ·refine lI w1 0 ?_
     obtain ⟨w4,s4⟩:=w1.pp [] 1
     exact aO hp ⟨rfl,w4,(s0.trans (s1.trans s4)),trivial⟩
    ·obtain ⟨w5,s5⟩:=w1.pp [] 1
     exact aO hp ⟨rfl,w5,(s0.trans (s1.trans s5)),trivial⟩
  ·refine aK hp (λhp=>?_) λhp=>?_
   ·refine lI w1 0 ?_
    obtain ⟨w6,s6⟩:=w1.pp [] 1
    exact aO hp ⟨rfl,w6,(s0.trans (s1.trans s6)),trivial⟩
   ·obtain ⟨w7,s7⟩:=w1.pp [] 1
    exact aO hp ⟨rfl,w7,(s0.trans (s1.trans s7)),trivial⟩
def bW.Q (H0:Hp) (Ri R0:List Rs)  (r:Bool) (v:AV) (H':Hp):Prop:=v=(.bool r)/\Out H0 Ri H' (R0) λR=>True
def bW.S61 (H0:Hp) (Ri R0:List Rs)  (C:Nat->Nat->Int->Sl->Sl->Int->Hp->OA) (pC:List (Int×Int×Int×Int×Int)->Int->List Bool->List Bool->Int->Option (Bool)):Prop:=∀ {vo vp GQ:ON} {sI jv sJ Dq:Nat} {vq vr GR:Cap} {jh:List (Int×Int×Int×Int×Int)} {AO dP mj:Int} {nw vt:List Bool} {vu GS:List AV},∀ {H:Hp},sI=jh.length->sJ=nw.length->Dq=vt.length->(Out H0 Ri H (Rs.blk jv [.sl ⟨vo,sI,vq⟩,.i AO]::Rs.own ⟨vp,sJ,vr⟩ fI.z vu::Rs.own ⟨GQ,Dq,GR⟩ fI.z GS::R0) λR=>ROs (ag eI (ag eI (ag eI (ag eI eI)))) H R ⟨vo,sI,vq⟩ jh/\CR fI H R vu nw/\CR fI H R GS vt)->∀ {r:Bool},pC jh dP nw vt mj=some r->Rt (C jv 0 dP ⟨vp,sJ,vr⟩ ⟨GQ,Dq,GR⟩ mj H) (bW.Q H0 Ri R0  r)
def bW.S3927 (H0:Hp) (Ri R0:List Rs)  (C:Nat->Nat->Int->Sl->Sl->Int->Nat->Nat->Int->Hp->OA) (pC:List (Int×Int×Int×Int×Int)->Int->List Bool->List Bool->Int->Int->Int->Int->Int->Int->Int->Option (Bool)):Prop:=∀ {GT GU GV:ON} {Dr pJ Ds Dt kV:Nat} {GW GX GY:Cap} {uh:List (Int×Int×Int×Int×Int)} {PU mh jM vv vw vx vy vz ln:Int} {qX qY:List Bool} {GZ G_:List AV},∀ {H:Hp},Dr=uh.length->Ds=qX.length->Dt=qY.length->(Out H0 Ri H (Rs.blk pJ [.sl ⟨GT,Dr,GW⟩,.i PU]::Rs.own ⟨GU,Ds,GX⟩ fI.z GZ::Rs.own ⟨GV,Dt,GY⟩ fI.z G_::Rs.blk kV [.i vv,.i vw,.i vx,.i vy,.i vz]::R0) λR=>ROs (ag eI (ag eI (ag eI (ag eI eI)))) H R ⟨GT,Dr,GW⟩ uh/\CR fI H R GZ qX/\CR fI H R G_ qY)->∀ {r:Bool},pC uh mh qX qY jM vv vw vx vy vz ln=some r->Rt (C pJ 0 mh ⟨GU,Ds,GX⟩ ⟨GV,Dt,GY⟩ jM kV 0 ln H) (bW.Q H0 Ri R0  r)
def bW.pl3927 (F:Nat) (cg:List (Int×Int×Int×Int×Int)->Int->List Bool->List Bool->Int->Option (Bool)):Nat->List (Int×Int×Int×Int×Int)->Int->List Bool->List Bool->Int->Int->Int->Int->Int->Int->Int->Option (Bool)
 | 0,_,_,_,_,_,_,_,_,_,_,_=>none
 | k+1,uh,mh,qX,qY,jM,vv,vw,vx,vy,vz,ln=>(bif (decide (ln<4)) then ((ft.p F vv vw vx vy ln).bind λr1=>(fq.p F r1 0 (IntKind.i64.wrap (mh - 1))).bind λr3=>(bif (!r3) then (some false) else ((fu.p F vz ln).bind λr6=>(bif r6 then ((ix qX r1).bind λn8=>(bif (gt qX n8) then (some false) else ((ix qX r1).bind λn10=>(some (qX.set n10 true)).bind λl11=>bW.pl3927 F cg k uh mh l11 qY jM vv vw vx vy vz (IntKind.i64.wrap (ln+1))))) else ((ix qY r1).bind λn13=>(bif (gt qY n13) then (some false) else ((ix qY r1).bind λn15=>(some (qY.set n15 true)).bind λl16=>bW.pl3927 F cg k uh mh qX l16 jM vv vw vx vy vz (IntKind.i64.wrap (ln+1))))))))) else (cg uh mh qX qY (IntKind.i64.wrap (jM+1))))
theorem bW.l3927_P  {C61_:Nat->Nat->Int->Sl->Sl->Int->Hp->OA} {cg:List (Int×Int×Int×Int×Int)->Int->List Bool->List Bool->Int->Option (Bool)} (hC61:bW.S61 H0 Ri R0  C61_ cg):∀ k,bW.S3927 H0 Ri R0  (bW.l3927 F (ft.tw F) (fq.tw F) (fu.tw F) C61_ k) (bW.pl3927 F cg k):=by
 intro k
 induction k with
 | zero=>unfold bW.S3927;intros;rename_i hp;cases hp
 | succ k ih=>
  intro GT GU GV Dr pJ Ds Dt kV GW GX GY uh PU mh jM vv vw vx vy vz ln qX qY GZ G_ H aac aad aae h0 r hp
  obtain ⟨w0,s0,Ha,AP,AQ⟩:=h0
  subst aac
  subst aad
  subst aae
  unfold bW.pl3927 at hp
  unfold bW.l3927
  refine aK hp (λhp=>?_) λhp=>?_
  ·refine lI w0 3 ?_
   refine lI w0 3 ?_
   refine lI w0 3 ?_
   refine lI w0 3 ?_
   refine lI w0 3 ?_
   obtain ⟨r1,e1,hp⟩:=ah hp
   refine aM (ft.P ⟨w0,trivial⟩ e1) ?_
   rintro _ H2 ⟨rfl,w2,s2,_⟩
   refine br ?_
   obtain ⟨r3,e3,hp⟩:=ah hp
   refine aM (fq.P ⟨w2,trivial⟩ e3) ?_
   rintro _ H4 ⟨rfl,w4,s4,_⟩
   refine br ?_
   refine aK hp (λhp=>?_) λhp=>?_
   ·obtain ⟨w5,s5⟩:=w4.pp [] 4
    exact aO hp ⟨rfl,w5,(s0.trans (s2.trans (s4.trans s5))),trivial⟩
   ·refine lI w4 3 ?_
    refine lI w4 3 ?_
    refine lI w4 3 ?_
    refine lI w4 3 ?_
    refine lI w4 3 ?_
    obtain ⟨r6,e6,hp⟩:=ah hp
    refine aM (fu.P ⟨w4,trivial⟩ e6) ?_
    rintro _ H7 ⟨rfl,w7,s7,_⟩
    refine br ?_
    refine aK hp (λhp=>?_) λhp=>?_
    ·obtain ⟨n8,g8,hp⟩:=ah hp
     obtain ⟨p8,q8,i8,h8,j8⟩:=W.ixo (E:=fI) w7 (i:=1) rfl rfl (AP.step (s2.trans (s4.trans s7))) g8
     refine ar i8 ?_
     have h8:_=[_]:=h8
     subst h8
     refine ar (Av (j8 0 _ rfl)) ?_
     refine aK hp (λhp=>?_) λhp=>?_
     ·obtain ⟨w9,s9⟩:=w7.pp [] 4
      exact aO hp ⟨rfl,w9,(s0.trans (s2.trans (s4.trans (s7.trans s9)))),trivial⟩
     ·obtain ⟨n10,g10,hp⟩:=ah hp
      obtain ⟨p10,q10,i10,h10,j10⟩:=W.ixo (E:=fI) w7 (i:=1) rfl rfl (AP.step (s2.trans (s4.trans s7))) g10
      refine ar i10 ?_
      obtain ⟨l11,e11,hp⟩:=ah hp
      refine gd fI w7 (i:=1) (j:=0) (p:=p10) rfl rfl (AP.step (s2.trans (s4.trans s7))) g10 i10 e11 rfl rfl (λ_ h=>by have h:_=[_]:=h;subst h;exact rfl) λH12 k12 w12 s12 c12=>?_
      exact ih rfl ((et e11).symm) rfl ⟨w12,(s0.trans (s2.trans (s4.trans (s7.trans s12)))),(Ha.step (s2.trans (s4.trans (s7.trans s12)))),c12,(AQ.step (s2.trans (s4.trans (s7.trans s12))))⟩ hp
    ·obtain ⟨n13,g13,hp⟩:=ah hp
     obtain ⟨p13,q13,i13,h13,j13⟩:=W.ixo (E:=fI) w7 (i:=2) rfl rfl (AQ.step (s2.trans (s4.trans s7))) g13
     refine ar i13 ?_
     have h13:_=[_]:=h13
     subst h13
     refine ar (Av (j13 0 _ rfl)) ?_
     refine aK hp (λhp=>?_) λhp=>?_
     ·obtain ⟨w14,s14⟩:=w7.pp [] 4
      exact aO hp ⟨rfl,w14,(s0.trans (s2.trans (s4.trans (s7.trans s14)))),trivial⟩
     ·obtain ⟨n15,g15,hp⟩:=ah hp
      obtain ⟨p15,q15,i15,h15,j15⟩:=W.ixo (E:=fI) w7 (i:=2) rfl rfl (AQ.step (s2.trans (s4.trans s7))) g15
      refine ar i15 ?_
      obtain ⟨l16,e16,hp⟩:=ah hp
      refine gd fI w7 (i:=2) (j:=0) (p:=p15) rfl rfl (AQ.step (s2.trans (s4.trans s7))) g15 i15 e16 rfl rfl (λ_ h=>by have h:_=[_]:=h;subst h;exact rfl) λH17 k17 w17 s17 c17=>?_
      exact ih rfl rfl ((et e16).symm) ⟨w17,(s0.trans (s2.trans (s4.trans (s7.trans s17)))),(Ha.step (s2.trans (s4.trans (s7.trans s17)))),(AP.step (s2.trans (s4.trans (s7.trans s17)))),c17⟩ hp
  ·obtain ⟨w18,s18⟩:=w0.pp [0,1,2] 4
   exact hC61 rfl rfl rfl ⟨w18,(s0.trans s18),(Ha.step s18),(AP.step s18),(AQ.step s18)⟩ hp
def bW.pl61 (F:Nat) :Nat->List (Int×Int×Int×Int×Int)->Int->List Bool->List Bool->Int->Option (Bool)
 | 0,_,_,_,_,_=>none
 | k+1,jh,dP,nw,vt,mj=>(bif (decide (mj<(jh.length:Int))) then ((ix jh mj).bind λn1=>(bif (((gt jh n1).2.2.2.2) != 1) then ((bif (((gt jh n1).2.2.2.2) != (-1)) then (some false) else (bW.pl3927 F (bW.pl61 F k) F jh dP nw vt mj ((gt jh n1).1) ((gt jh n1).2.1) ((gt jh n1).2.2.1) ((gt jh n1).2.2.2.1) ((gt jh n1).2.2.2.2) 0))) else (bW.pl3927 F (bW.pl61 F k) F jh dP nw vt mj ((gt jh n1).1) ((gt jh n1).2.1) ((gt jh n1).2.2.1) ((gt jh n1).2.2.2.1) ((gt jh n1).2.2.2.2) 0))) else (some true))
theorem bW.l61_P  :∀ k,bW.S61 H0 Ri R0  (bW.l61 F (ft.tw F) (fq.tw F) (fu.tw F)  k) (bW.pl61 F  k):=by
 intro k
 induction k with
 | zero=>unfold bW.S61;intros;rename_i hp;cases hp
 | succ k ih=>
  intro vo vp GQ sI jv sJ Dq vq vr GR jh AO dP mj nw vt vu GS H Hb Hc aaf h0 r hp
  obtain ⟨w0,s0,zB,zC,PW⟩:=h0
  subst Hb
  subst Hc
  subst aaf
  unfold bW.pl61 at hp
  unfold bW.l61
  refine lSl w0 0 ?_
  refine aK hp (λhp=>?_) λhp=>?_
  ·refine lSl w0 0 ?_
   obtain ⟨n1,g1,hp⟩:=ah hp
   obtain ⟨p1,q1,i1,h1,j1⟩:=ROs.ixr zB rfl g1
   refine ar i1 ?_
   obtain ⟨_,_,rfl,rfl,_,_,rfl,rfl,_,_,rfl,rfl,_,_,rfl,rfl,rfl⟩:=h1
   refine ar (bA (j1 0 _ rfl)) ?_
   refine ar (bA (j1 1 _ rfl)) ?_
   refine ar (bA (j1 2 _ rfl)) ?_
   refine ar (bA (j1 3 _ rfl)) ?_
   refine ar (bA (j1 4 _ rfl)) ?_
   refine bR w0 λH2 w2 s2=>?_
   refine aJ w2 0 λH3 w3 s3=>?_
   refine aJ w3 0 λH4 w4 s4=>?_
   refine aJ w4 0 λH5 w5 s5=>?_
   refine aJ w5 0 λH6 w6 s6=>?_
   refine aJ w6 0 λH7 w7 s7=>?_
   refine lI w7 0 ?_
   refine aK hp (λhp=>?_) λhp=>?_
   ·refine lI w7 0 ?_
    refine aK hp (λhp=>?_) λhp=>?_
    ·obtain ⟨w8,s8⟩:=w7.pp [] 4
     exact aO hp ⟨rfl,w8,(s0.trans (s2.trans (s3.trans (s4.trans (s5.trans (s6.trans (s7.trans s8))))))),trivial⟩
    ·obtain ⟨w9,s9⟩:=w7.pp [1,2,3,0] 4
     exact bW.l3927_P (@ih) F rfl rfl rfl ⟨w9,(s0.trans (s2.trans (s3.trans (s4.trans (s5.trans (s6.trans (s7.trans s9))))))),(zB.step (s2.trans (s3.trans (s4.trans (s5.trans (s6.trans (s7.trans s9))))))),(zC.step (s2.trans (s3.trans (s4.trans (s5.trans (s6.trans (s7.trans s9))))))),(PW.step (s2.trans (s3.trans (s4.trans (s5.trans (s6.trans (s7.trans s9)))))))⟩ hp
   ·obtain ⟨w10,s10⟩:=w7.pp [1,2,3,0] 4
    exact bW.l3927_P (@ih) F rfl rfl rfl ⟨w10,(s0.trans (s2.trans (s3.trans (s4.trans (s5.trans (s6.trans (s7.trans s10))))))),(zB.step (s2.trans (s3.trans (s4.trans (s5.trans (s6.trans (s7.trans s10))))))),(zC.step (s2.trans (s3.trans (s4.trans (s5.trans (s6.trans (s7.trans s10))))))),(PW.step (s2.trans (s3.trans (s4.trans (s5.trans (s6.trans (s7.trans s10)))))))⟩ hp
  ·obtain ⟨w11,s11⟩:=w0.pp [] 3
   exact aO hp ⟨rfl,w11,(s0.trans s11),trivial⟩
def bW.p (F:Nat) (ak:List (Int×Int×Int×Int×Int)):Option (Bool):=(mkn (IntKind.i64.wrap (2 * (ak.length:Int))) false).bind λl2=>(mkn (IntKind.i64.wrap (2 * (ak.length:Int))) false).bind λl4=>bW.pl61 F F ak (IntKind.i64.wrap (2 * (ak.length:Int))) l2 l4 0
theorem bW.P {bE:ON} {aV:Nat} {bF:Cap} {ak:List (Int×Int×Int×Int×Int)} {ac:Int} (cR:aV=ak.length) (h0:Inn H R0 λR=>ROs (ag eI (ag eI (ag eI (ag eI eI)))) H R ⟨bE,aV,bF⟩ ak) {r:Bool} (hp:bW.p F ak=some r):Rt (bW.tw F ⟨bE,aV,bF⟩ ac H) (bW.Q H R0 R0  r):=by
 obtain ⟨w0,cE⟩:=h0
 subst cR
 unfold bW.p at hp
 unfold bW.tw bW.twX
 have s0:=w0.rf
 refine bR w0 λH1 w1 s1=>?_
 refine lSl w1 0 ?_
 obtain ⟨l2,e2,hp⟩:=ah hp
 refine uX fI false w1 rfl rfl rfl e2 λH3 k3 w3 s3 c3=>?_
 obtain ⟨l4,e4,hp⟩:=ah hp
 refine uX fI false w3 rfl rfl rfl e4 λH5 k5 w5 s5 c5=>?_
 obtain ⟨w6,s6⟩:=w5.pp [2,1,0] 3
 exact bW.l61_P F rfl rfl rfl ⟨w6,(s0.trans (s1.trans (s3.trans (s5.trans s6)))),(cE.step (s1.trans (s3.trans (s5.trans s6)))),(c3.step (s5.trans s6)),(c5.step s6)⟩ hp
def bo.Q (H0:Hp) (Ri R0:List Rs)  (r:Int×Int) (v:AV) (H':Hp):Prop:=v=(.tup [(.i r.1),(.i r.2)])/\Out H0 Ri H' (R0) λR=>True
def bo.S13 (H0:Hp) (Ri R0:List Rs)  (C:Int->Bool->Nat->Nat->Int->Hp->OA) (pC:Int->Bool->List (Int×Int×Int×Int×Int)->Int->Option (Int×Int)):Prop:=∀ {dl PX ov:Int} {pL:Bool} {Hd:ON} {Du lp:Nat} {He:Cap} {vA:List (Int×Int×Int×Int×Int)},∀ {H:Hp},Du=vA.length->(Out H0 Ri H (Rs.blk lp [.sl ⟨Hd,Du,He⟩,.i PX]::R0) λR=>ROs (ag eI (ag eI (ag eI (ag eI eI)))) H R ⟨Hd,Du,He⟩ vA)->∀ {r:Int×Int},pC dl pL vA ov=some r->Rt (C dl pL lp 0 ov H) (bo.Q H0 Ri R0  r)
def bo.S213 (H0:Hp) (Ri R0:List Rs)  (C:Int->Bool->Nat->Nat->Int->Int->Hp->OA) (pC:Int->Bool->List (Int×Int×Int×Int×Int)->Int->Int->Option (Int×Int)):Prop:=∀ {ml PY kt ku:Int} {mm:Bool} {Hf:ON} {Dv ou:Nat} {Hg:Cap} {oX:List (Int×Int×Int×Int×Int)},∀ {H:Hp},Dv=oX.length->(Out H0 Ri H (Rs.blk ou [.sl ⟨Hf,Dv,Hg⟩,.i PY]::R0) λR=>ROs (ag eI (ag eI (ag eI (ag eI eI)))) H R ⟨Hf,Dv,Hg⟩ oX)->∀ {r:Int×Int},pC ml mm oX kt ku=some r->Rt (C ml mm ou 0 kt ku H) (bo.Q H0 Ri R0  r)
def bo.pj3 (F:Nat) (g_:Int->Bool->List (Int×Int×Int×Int×Int)->Int->Option (Int×Int)) (pK:Int) (xa:Bool) (AR:List (Int×Int×Int×Int×Int)) (xc:Int):Option (Int×Int):=g_ pK xa AR (IntKind.i64.wrap (xc+1))
theorem bo.j3_P  {C13_:Int->Bool->Nat->Nat->Int->Hp->OA} {g_:Int->Bool->List (Int×Int×Int×Int×Int)->Int->Option (Int×Int)} (hC13:bo.S13 H0 Ri R0  C13_ g_) {pK ui xc:Int} {xa:Bool} {PZ:ON} {Hh ph:Nat} {P_:Cap} {AR:List (Int×Int×Int×Int×Int)} (aag:Hh=AR.length) (h0:Out H0 Ri H (Rs.blk ph [.sl ⟨PZ,Hh,P_⟩,.i ui]::R0) λR=>ROs (ag eI (ag eI (ag eI (ag eI eI)))) H R ⟨PZ,Hh,P_⟩ AR) {r:Int×Int} (hp:bo.pj3 F g_ pK xa AR xc=some r):Rt (bo.j3 F (ft.tw F) (fu.tw F) C13_ pK xa ph 0 xc H) (bo.Q H0 Ri R0  r):=by
 obtain ⟨w0,s0,aah⟩:=h0
 subst aag
 unfold bo.pj3 at hp
 unfold bo.j3
 exact hC13 rfl ⟨w0,s0,aah⟩ hp
def bo.pj4 (F:Nat) (g_:Int->Bool->List (Int×Int×Int×Int×Int)->Int->Option (Int×Int)) (xd:Int) (xe:Bool) (AS:List (Int×Int×Int×Int×Int)) (xf:Int):Option (Int×Int):=bo.pj3 F g_ xd xe AS xf
theorem bo.j4_P  {C13_:Int->Bool->Nat->Nat->Int->Hp->OA} {g_:Int->Bool->List (Int×Int×Int×Int×Int)->Int->Option (Int×Int)} (hC13:bo.S13 H0 Ri R0  C13_ g_) {xd aai xf:Int} {xe:Bool} {Qa:ON} {Hj CI:Nat} {Qb:Cap} {AS:List (Int×Int×Int×Int×Int)} (aaj:Hj=AS.length) (h0:Out H0 Ri H (Rs.blk CI [.sl ⟨Qa,Hj,Qb⟩,.i aai]::R0) λR=>ROs (ag eI (ag eI (ag eI (ag eI eI)))) H R ⟨Qa,Hj,Qb⟩ AS) {r:Int×Int} (hp:bo.pj4 F g_ xd xe AS xf=some r):Rt (bo.j4 F (ft.tw F) (fu.tw F) C13_ xd xe CI 0 xf H) (bo.Q H0 Ri R0  r):=by
 obtain ⟨w0,s0,aak⟩:=h0
 subst aaj
 unfold bo.pj4 at hp
 unfold bo.j4
 exact bo.j3_P (@hC13) rfl ⟨w0,s0,aak⟩ hp
def bo.pl213 (F:Nat) (g_:Int->Bool->List (Int×Int×Int×Int×Int)->Int->Option (Int×Int)):Nat->Int->Bool->List (Int×Int×Int×Int×Int)->Int->Int->Option (Int×Int)
 | 0,_,_,_,_,_=>none
 | k+1,ml,mm,oX,kt,ku=>(bif (decide (ku<4)) then ((ix oX kt).bind λn1=>(ft.p F ((gt oX n1).1) ((gt oX n1).2.1) ((gt oX n1).2.2.1) ((gt oX n1).2.2.2.1) ku).bind λr2=>(bif (r2==ml) then ((ix oX kt).bind λn4=>(fu.p F ((gt oX n4).2.2.2.2) ku).bind λr5=>(bif (r5==mm) then (some (kt,ku)) else (bo.pl213 F g_ k ml mm oX kt (IntKind.i64.wrap (ku+1))))) else (bo.pl213 F g_ k ml mm oX kt (IntKind.i64.wrap (ku+1))))) else (bo.pj4 F g_ ml mm oX kt))
theorem bo.l213_P  {C13_:Int->Bool->Nat->Nat->Int->Hp->OA} {g_:Int->Bool->List (Int×Int×Int×Int×Int)->Int->Option (Int×Int)} (hC13:bo.S13 H0 Ri R0  C13_ g_):∀ k,bo.S213 H0 Ri R0  (bo.l213 F (ft.tw F) (fu.tw F) C13_ k) (bo.pl213 F g_ k):=by
 intro k
 induction k with
 | zero=>unfold bo.S213;intros;rename_i hp;cases hp
 | succ k ih=>
  intro ml PY kt ku mm Hf Dv ou Hg oX H aal h0 r hp
  obtain ⟨w0,s0,AT⟩:=h0
  subst aal
  unfold bo.pl213 at hp
  unfold bo.l213
  refine aK hp (λhp=>?_) λhp=>?_
  ·refine lSl w0 0 ?_
   obtain ⟨n1,g1,hp⟩:=ah hp
   obtain ⟨p1,q1,i1,h1,j1⟩:=ROs.ixr AT rfl g1
   refine ar i1 ?_
   obtain ⟨_,_,rfl,rfl,_,_,rfl,rfl,_,_,rfl,rfl,_,_,rfl,rfl,rfl⟩:=h1
   refine ar (bA (j1 0 _ rfl)) ?_
   refine ar (bA (j1 1 _ rfl)) ?_
   refine ar (bA (j1 2 _ rfl)) ?_
   refine ar (bA (j1 3 _ rfl)) ?_
   refine ar (bA (j1 4 _ rfl)) ?_
   obtain ⟨r2,e2,hp⟩:=ah hp
   refine aM (ft.P ⟨w0,trivial⟩ e2) ?_
   rintro _ H3 ⟨rfl,w3,s3,_⟩
   refine br ?_
   refine aK hp (λhp=>?_) λhp=>?_
   ·refine lSl w3 0 ?_
    obtain ⟨n4,g4,hp⟩:=ah hp
    obtain ⟨p4,q4,i4,h4,j4⟩:=ROs.ixr (AT.step s3) rfl g4
    refine ar i4 ?_
    obtain ⟨_,_,rfl,rfl,_,_,rfl,rfl,_,_,rfl,rfl,_,_,rfl,rfl,rfl⟩:=h4
    refine ar (bA (j4 0 _ rfl)) ?_
    refine ar (bA (j4 1 _ rfl)) ?_
    refine ar (bA (j4 2 _ rfl)) ?_
    refine ar (bA (j4 3 _ rfl)) ?_
    refine ar (bA (j4 4 _ rfl)) ?_
    obtain ⟨r5,e5,hp⟩:=ah hp
    refine aM (fu.P ⟨w3,trivial⟩ e5) ?_
    rintro _ H6 ⟨rfl,w6,s6,_⟩
    refine br ?_
    refine aK hp (λhp=>?_) λhp=>?_
    ·obtain ⟨w7,s7⟩:=w6.pp [] 1
     exact aO hp ⟨rfl,w7,(s0.trans (s3.trans (s6.trans s7))),trivial⟩
    ·exact ih rfl ⟨w6,(s0.trans (s3.trans s6)),(AT.step (s3.trans s6))⟩ hp
   ·exact ih rfl ⟨w3,(s0.trans s3),(AT.step s3)⟩ hp
  ·exact bo.j4_P (@hC13) rfl ⟨w0,s0,AT⟩ hp
def bo.pl13 (F:Nat) :Nat->Int->Bool->List (Int×Int×Int×Int×Int)->Int->Option (Int×Int)
 | 0,_,_,_,_=>none
 | k+1,dl,pL,vA,ov=>(bif (decide (ov<(vA.length:Int))) then (bo.pl213 F (bo.pl13 F k) F dl pL vA ov 0) else (some ((-1),(-1))))
theorem bo.l13_P  :∀ k,bo.S13 H0 Ri R0  (bo.l13 F (ft.tw F) (fu.tw F)  k) (bo.pl13 F  k):=by
 intro k
 induction k with
 | zero=>unfold bo.S13;intros;rename_i hp;cases hp
 | succ k ih=>
  intro dl PX ov pL Hd Du lp He vA H aam h0 r hp
  obtain ⟨w0,s0,aan⟩:=h0
  subst aam
  unfold bo.pl13 at hp
  unfold bo.l13
  refine lSl w0 0 ?_
  refine aK hp (λhp=>?_) λhp=>?_
  ·exact bo.l213_P (@ih) F rfl ⟨w0,s0,aan⟩ hp
  ·obtain ⟨w1,s1⟩:=w0.pp [] 1
   exact aO hp ⟨rfl,w1,(s0.trans s1),trivial⟩
def bo.p (F:Nat) (ak:List (Int×Int×Int×Int×Int)) (af:Int) (cf:Bool):Option (Int×Int):=bo.pl13 F F af cf ak 0
theorem bo.P {bE:ON} {aV:Nat} {bF:Cap} {ak:List (Int×Int×Int×Int×Int)} {ac af:Int} {cf:Bool} (cR:aV=ak.length) (h0:Inn H R0 λR=>ROs (ag eI (ag eI (ag eI (ag eI eI)))) H R ⟨bE,aV,bF⟩ ak) {r:Int×Int} (hp:bo.p F ak af cf=some r):Rt (bo.tw F ⟨bE,aV,bF⟩ ac af cf H) (bo.Q H R0 R0  r):=by
 obtain ⟨w0,cE⟩:=h0
 subst cR
 unfold bo.p at hp
 unfold bo.tw bo.twX
 have s0:=w0.rf
 refine bR w0 λH1 w1 s1=>?_
 exact bo.l13_P F rfl ⟨w1,(s0.trans s1),(cE.step s1)⟩ hp
def gF.Q (H0:Hp) (Ri R0:List Rs)  (r:Int) (v:AV) (H':Hp):Prop:=v=(.i r)/\Out H0 Ri H' (R0) λR=>True
def gF.p (F:Nat) (ak:List (Int×Int×Int×Int×Int)) (af:Int):Option (Int):=(ix ak (IntKind.i64.wrap (Int.tdiv af 4))).bind λn2=>(ft.p F ((gt ak n2).1) ((gt ak n2).2.1) ((gt ak n2).2.2.1) ((gt ak n2).2.2.2.1) (Int.tmod (IntKind.i64.wrap ((Int.tmod af 4)+1)) 4)).bind λr9=>(fu.p F ((gt ak n2).2.2.2.2) (Int.tmod (IntKind.i64.wrap ((Int.tmod af 4)+1)) 4)).bind λr12=>(bo.p F ak r9 (!r12)).bind λr15=>some (IntKind.i64.wrap ((IntKind.i64.wrap (4 * r15.1))+r15.2))
theorem gF.P {bE:ON} {aV:Nat} {bF:Cap} {ak:List (Int×Int×Int×Int×Int)} {ac af:Int} (cR:aV=ak.length) (h0:Inn H R0 λR=>ROs (ag eI (ag eI (ag eI (ag eI eI)))) H R ⟨bE,aV,bF⟩ ak) {r:Int} (hp:gF.p F ak af=some r):Rt (gF.tw F ⟨bE,aV,bF⟩ ac af H) (gF.Q H R0 R0  r):=by
 obtain ⟨w0,cE⟩:=h0
 subst cR
 unfold gF.p at hp
 unfold gF.tw gF.twX
 have s0:=w0.rf
 refine bR w0 λH1 w1 s1=>?_
 refine lSl w1 0 ?_
 obtain ⟨n2,g2,hp⟩:=ah hp
 obtain ⟨p2,q2,i2,h2,j2⟩:=ROs.ixr (cE.step s1) rfl g2
 refine ar i2 ?_
 obtain ⟨_,_,rfl,rfl,_,_,rfl,rfl,_,_,rfl,rfl,_,_,rfl,rfl,rfl⟩:=h2
 refine ar (bA (j2 0 _ rfl)) ?_
 refine ar (bA (j2 1 _ rfl)) ?_
 refine ar (bA (j2 2 _ rfl)) ?_
 refine ar (bA (j2 3 _ rfl)) ?_
 refine ar (bA (j2 4 _ rfl)) ?_
 refine bR w1 λH3 w3 s3=>?_
 refine aJ w3 0 λH4 w4 s4=>?_
 refine aJ w4 0 λH5 w5 s5=>?_
 refine aJ w5 0 λH6 w6 s6=>?_
 refine aJ w6 0 λH7 w7 s7=>?_
 refine aJ w7 0 λH8 w8 s8=>?_
 refine lSl w8 1 ?_
 refine lI w8 1 ?_
 refine lI w8 0 ?_
 refine lI w8 0 ?_
 refine lI w8 0 ?_
 refine lI w8 0 ?_
 refine lI w8 0 ?_
 obtain ⟨r9,e9,hp⟩:=ah hp
 refine aM (ft.P ⟨w8,trivial⟩ e9) ?_
 rintro _ H10 ⟨rfl,w10,s10,_⟩
 refine br ?_
 refine fJ (W.cons_of (Rn:=[]) w8 w10 s10) ?_
 refine lI w10 0 ?_
 refine lI w10 0 ?_
 refine lI w10 0 ?_
 refine lI w10 0 ?_
 refine lI w10 0 ?_
 obtain ⟨r12,e12,hp⟩:=ah hp
 refine aM (fu.P ⟨w10,trivial⟩ e12) ?_
 rintro _ H13 ⟨rfl,w13,s13,_⟩
 refine br ?_
 refine fJ (W.cons_of (Rn:=[]) w10 w13 s13) ?_
 obtain ⟨r15,e15,hp⟩:=ah hp
 refine aM (bo.P rfl ⟨w13,(cE.step (s1.trans (s3.trans (s4.trans (s5.trans (s6.trans (s7.trans (s8.trans (s10.trans s13)))))))))⟩ e15) ?_
 rintro _ H16 ⟨rfl,w16,s16,_⟩
 refine br ?_
 refine br ?_
 refine br ?_
 refine br ?_
 refine br ?_
 obtain ⟨w17,s17⟩:=w16.pp [] 2
 exact aO hp ⟨rfl,w17,(s0.trans (s1.trans (s3.trans (s4.trans (s5.trans (s6.trans (s7.trans (s8.trans (s10.trans (s13.trans (s16.trans s17))))))))))),trivial⟩
def bC.Q (H0:Hp) (Ri R0:List Rs)  (r:List (List Int)) (v:AV) (H':Hp):Prop:=∃ o0a:ON,∃ o0n:Nat,∃ o0c:Cap,∃ o0k:List AV,v=(.sl ⟨o0a,o0n,o0c⟩)/\o0n=(r).length/\Out H0 Ri H' (Rs.own ⟨o0a,o0n,o0c⟩ (eSl eI).z o0k::R0) λR=>CR (eSl eI) H' R o0k (r)
def bC.S61 (H0:Hp) (Ri R0:List Rs)  (C:Nat->Nat->Sl->Sl->Int->Hp->OA) (pC:List (Int×Int×Int×Int×Int)->List (List Int)->List Bool->Int->Option (List (List Int))):Prop:=∀ {vo Hk vp:ON} {sI jv Dw sJ:Nat} {vq Hl vr:Cap} {jh:List (Int×Int×Int×Int×Int)} {AO iW:Int} {uj:List (List Int)} {Hm vu:List AV} {nw:List Bool},∀ {H:Hp},sI=jh.length->Dw=uj.length->sJ=nw.length->(Out H0 Ri H (Rs.blk jv [.sl ⟨vo,sI,vq⟩,.i AO]::Rs.own ⟨Hk,Dw,Hl⟩ (eSl eI).z Hm::Rs.own ⟨vp,sJ,vr⟩ fI.z vu::R0) λR=>ROs (ag eI (ag eI (ag eI (ag eI eI)))) H R ⟨vo,sI,vq⟩ jh/\CR (eSl eI) H R Hm uj/\CR fI H R vu nw)->∀ {r:List (List Int)},pC jh uj nw iW=some r->Rt (C jv 0 ⟨Hk,Dw,Hl⟩ ⟨vp,sJ,vr⟩ iW H) (bC.Q H0 Ri R0  r)
def bC.pj4 (F:Nat) (cg:List (Int×Int×Int×Int×Int)->List (List Int)->List Bool->Int->Option (List (List Int))) (AU:List (Int×Int×Int×Int×Int)) (AW:List (List Int)) (AX:List Bool) (mn:Int):Option (List (List Int)):=cg AU AW AX (IntKind.i64.wrap (mn+1))
theorem bC.j4_P  {C61_:Nat->Nat->Sl->Sl->Int->Hp->OA} {cg:List (Int×Int×Int×Int×Int)->List (List Int)->List Bool->Int->Option (List (List Int))} (hC61:bC.S61 H0 Ri R0  C61_ cg) {Qc Qd Qe:ON} {Hn CK Ho Hq:Nat} {Qf Qg Qh:Cap} {AU:List (Int×Int×Int×Int×Int)} {aao mn:Int} {AW:List (List Int)} {Qi Qj:List AV} {AX:List Bool} (aap:Hn=AU.length) (aaq:Ho=AW.length) (aar:Hq=AX.length) (h0:Out H0 Ri H (Rs.blk CK [.sl ⟨Qc,Hn,Qf⟩,.i aao]::Rs.own ⟨Qd,Ho,Qg⟩ (eSl eI).z Qi::Rs.own ⟨Qe,Hq,Qh⟩ fI.z Qj::R0) λR=>ROs (ag eI (ag eI (ag eI (ag eI eI)))) H R ⟨Qc,Hn,Qf⟩ AU/\CR (eSl eI) H R Qi AW/\CR fI H R Qj AX) {r:List (List Int)} (hp:bC.pj4 F cg AU AW AX mn=some r):Rt (bC.j4 F (gF.tw F) C61_ CK 0 ⟨Qd,Ho,Qg⟩ ⟨Qe,Hq,Qh⟩ mn H) (bC.Q H0 Ri R0  r):=by
 obtain ⟨w0,s0,aas,aat,aau⟩:=h0
 subst aap
 subst aaq
 subst aar
 unfold bC.pj4 at hp
 unfold bC.j4
 exact hC61 rfl rfl rfl ⟨w0,s0,aas,aat,aau⟩ hp
def bC.S7853 (H0:Hp) (Ri R0:List Rs)  (C:Nat->Nat->Sl->Sl->Int->Sl->Int->Hp->OA) (pC:List (Int×Int×Int×Int×Int)->List (List Int)->List Bool->Int->List Int->Int->Option (List (List Int))):Prop:=∀ {Hr Hs Ht Hu:ON} {Dx pi Dy Dz DA:Nat} {Hv Hw Hy Hz:Cap} {uk:List (Int×Int×Int×Int×Int)} {Qk ox lq:Int} {vB:List (List Int)} {HA HB HC:List AV} {rM:List Bool} {vC:List Int},∀ {H:Hp},Dx=uk.length->Dy=vB.length->Dz=rM.length->DA=vC.length->(Out H0 Ri H (Rs.blk pi [.sl ⟨Hr,Dx,Hv⟩,.i Qk]::Rs.own ⟨Hs,Dy,Hw⟩ (eSl eI).z HA::Rs.own ⟨Ht,Dz,Hy⟩ fI.z HB::Rs.own ⟨Hu,DA,Hz⟩ eI.z HC::R0) λR=>ROs (ag eI (ag eI (ag eI (ag eI eI)))) H R ⟨Hr,Dx,Hv⟩ uk/\CR (eSl eI) H R HA vB/\CR fI H R HB rM/\CR eI H R HC vC)->∀ {r:List (List Int)},pC uk vB rM ox vC lq=some r->Rt (C pi 0 ⟨Hs,Dy,Hw⟩ ⟨Ht,Dz,Hy⟩ ox ⟨Hu,DA,Hz⟩ lq H) (bC.Q H0 Ri R0  r)
def bC.pj5 (F:Nat) (cg:List (Int×Int×Int×Int×Int)->List (List Int)->List Bool->Int->Option (List (List Int))) (AY:List (Int×Int×Int×Int×Int)) (AZ:List (List Int)) (A_:List Bool) (xh:Int):Option (List (List Int)):=cg AY AZ A_ (IntKind.i64.wrap (xh+1))
theorem bC.j5_P  {C61_:Nat->Nat->Sl->Sl->Int->Hp->OA} {cg:List (Int×Int×Int×Int×Int)->List (List Int)->List Bool->Int->Option (List (List Int))} (hC61:bC.S61 H0 Ri R0  C61_ cg) {Ql Qm Qn:ON} {HD CL HE HF:Nat} {Qo Qp Qq:Cap} {AY:List (Int×Int×Int×Int×Int)} {aav xh:Int} {AZ:List (List Int)} {Qr Qs:List AV} {A_:List Bool} (aaw:HD=AY.length) (aax:HE=AZ.length) (aay:HF=A_.length) (h0:Out H0 Ri H (Rs.blk CL [.sl ⟨Ql,HD,Qo⟩,.i aav]::Rs.own ⟨Qm,HE,Qp⟩ (eSl eI).z Qr::Rs.own ⟨Qn,HF,Qq⟩ fI.z Qs::R0) λR=>ROs (ag eI (ag eI (ag eI (ag eI eI)))) H R ⟨Ql,HD,Qo⟩ AY/\CR (eSl eI) H R Qr AZ/\CR fI H R Qs A_) {r:List (List Int)} (hp:bC.pj5 F cg AY AZ A_ xh=some r):Rt (bC.j5 F (gF.tw F) C61_ CL 0 ⟨Qm,HE,Qp⟩ ⟨Qn,HF,Qq⟩ xh H) (bC.Q H0 Ri R0  r):=by
 obtain ⟨w0,s0,aaz,aaA,aaB⟩:=h0
 subst aaw
 subst aax
 subst aay
 unfold bC.pj5 at hp
 unfold bC.j5
 exact hC61 rfl rfl rfl ⟨w0,s0,aaz,aaA,aaB⟩ hp
def bC.pj6 (F:Nat) (cg:List (Int×Int×Int×Int×Int)->List (List Int)->List Bool->Int->Option (List (List Int))) (Ba:List (Int×Int×Int×Int×Int)) (Bb:List (List Int)) (Bc:List Bool) (xj:Int) (vD:List Int):Option (List (List Int)):=(apn Bb ([vD]:List (List Int))).bind λl3=>bC.pj5 F cg Ba l3 Bc xj
theorem bC.j6_P  {C61_:Nat->Nat->Sl->Sl->Int->Hp->OA} {cg:List (Int×Int×Int×Int×Int)->List (List Int)->List Bool->Int->Option (List (List Int))} (hC61:bC.S61 H0 Ri R0  C61_ cg) {Qt Qu Qv Qw:ON} {HG CN HI HJ HK:Nat} {Qx Qy Qz QA:Cap} {Ba:List (Int×Int×Int×Int×Int)} {aaC xj:Int} {Bb:List (List Int)} {QB QC QD:List AV} {Bc:List Bool} {vD:List Int} (aaD:HG=Ba.length) (aaE:HI=Bb.length) (aaF:HJ=Bc.length) (aaG:HK=vD.length) (h0:Out H0 Ri H (Rs.blk CN [.sl ⟨Qt,HG,Qx⟩,.i aaC]::Rs.own ⟨Qu,HI,Qy⟩ (eSl eI).z QB::Rs.own ⟨Qv,HJ,Qz⟩ fI.z QC::Rs.own ⟨Qw,HK,QA⟩ eI.z QD::R0) λR=>ROs (ag eI (ag eI (ag eI (ag eI eI)))) H R ⟨Qt,HG,Qx⟩ Ba/\CR (eSl eI) H R QB Bb/\CR fI H R QC Bc/\CR eI H R QD vD) {r:List (List Int)} (hp:bC.pj6 F cg Ba Bb Bc xj vD=some r):Rt (bC.j6 F (gF.tw F) C61_ CN 0 ⟨Qu,HI,Qy⟩ ⟨Qv,HJ,Qz⟩ xj ⟨Qw,HK,QA⟩ H) (bC.Q H0 Ri R0  r):=by
 obtain ⟨w0,s0,aaH,aaI,aaJ,aaK⟩:=h0
 subst aaD
 subst aaE
 subst aaF
 subst aaG
 unfold bC.pj6 at hp
 unfold bC.j6
 obtain ⟨w1,s1,f1⟩:=w0.frz (i:=3) eI rfl aaK
 refine lg (eSl eI) w1 (n:=1) (l:=([vD]:List (List Int))) rfl (CR.cons1 ⟨_,rfl,f1⟩ CR.empty) rfl λH2 w2 s2 c2=>?_
 refine ar (w2.rowo (i:=0) rfl) ?_
 obtain ⟨l3,e3,hp⟩:=ah hp
 refine qk (eSl eI) w2 (i:=2) rfl rfl (aaI.step (s1.trans s2)) c2 (show 1=List.length ([vD]:List (List Int)) from rfl) rfl e3 λa4 d4 H4 w4 s4 c4 x4=>?_
 obtain ⟨w5,s5⟩:=w4.pp [1,2,3] 4
 exact bC.j5_P (@hC61) rfl rfl rfl ⟨w5,(s0.trans (s1.trans (s2.trans (s4.trans s5)))),(aaH.step (s1.trans (s2.trans (s4.trans s5)))),(c4.step s5),(aaJ.step (s1.trans (s2.trans (s4.trans s5))))⟩ hp
def bC.pl7853 (F:Nat) (cg:List (Int×Int×Int×Int×Int)->List (List Int)->List Bool->Int->Option (List (List Int))):Nat->List (Int×Int×Int×Int×Int)->List (List Int)->List Bool->Int->List Int->Int->Option (List (List Int))
 | 0,_,_,_,_,_,_=>none
 | k+1,uk,vB,rM,ox,vC,lq=>(ix rM lq).bind λn1=>(bif (!(gt rM n1)) then ((ix rM lq).bind λn2=>(some (rM.set n2 true)).bind λl3=>(apn vC ([lq]:List Int)).bind λl6=>(gF.p F uk lq).bind λr8=>bC.pl7853 F cg k uk vB l3 ox l6 r8) else (bC.pj6 F cg uk vB rM ox vC))
theorem bC.l7853_P  {C61_:Nat->Nat->Sl->Sl->Int->Hp->OA} {cg:List (Int×Int×Int×Int×Int)->List (List Int)->List Bool->Int->Option (List (List Int))} (hC61:bC.S61 H0 Ri R0  C61_ cg):∀ k,bC.S7853 H0 Ri R0  (bC.l7853 F (gF.tw F) C61_ k) (bC.pl7853 F cg k):=by
 intro k
 induction k with
 | zero=>unfold bC.S7853;intros;rename_i hp;cases hp
 | succ k ih=>
  intro Hr Hs Ht Hu Dx pi Dy Dz DA Hv Hw Hy Hz uk Qk ox lq vB HA HB HC rM vC H aaL aaM aaN aaO h0 r hp
  obtain ⟨w0,s0,HL,QE,DB,QF⟩:=h0
  subst aaL
  subst aaM
  subst aaN
  subst aaO
  unfold bC.pl7853 at hp
  unfold bC.l7853
  obtain ⟨n1,g1,hp⟩:=ah hp
  obtain ⟨p1,q1,i1,h1,j1⟩:=W.ixo (E:=fI) w0 (i:=2) rfl rfl DB g1
  refine ar i1 ?_
  have h1:_=[_]:=h1
  subst h1
  refine ar (Av (j1 0 _ rfl)) ?_
  refine aK hp (λhp=>?_) λhp=>?_
  ·obtain ⟨n2,g2,hp⟩:=ah hp
   obtain ⟨p2,q2,i2,h2,j2⟩:=W.ixo (E:=fI) w0 (i:=2) rfl rfl DB g2
   refine ar i2 ?_
   obtain ⟨l3,e3,hp⟩:=ah hp
   refine gd fI w0 (i:=2) (j:=0) (p:=p2) rfl rfl DB g2 i2 e3 rfl rfl (λ_ h=>by have h:_=[_]:=h;subst h;exact rfl) λH4 k4 w4 s4 c4=>?_
   refine lg eI w4 (n:=1) (l:=([lq]:List Int)) rfl (CR.cons1 rfl CR.empty) rfl λH5 w5 s5 c5=>?_
   refine ar (w5.rowo (i:=0) rfl) ?_
   obtain ⟨l6,e6,hp⟩:=ah hp
   refine qk eI w5 (i:=4) rfl rfl (QF.step (s4.trans s5)) c5 (show 1=List.length ([lq]:List Int) from rfl) rfl e6 λa7 d7 H7 w7 s7 c7 x7=>?_
   refine lSl w7 1 ?_
   refine lI w7 1 ?_
   obtain ⟨r8,e8,hp⟩:=ah hp
   refine aM (gF.P rfl ⟨w7,(HL.step (s4.trans (s5.trans s7)))⟩ e8) ?_
   rintro _ H9 ⟨rfl,w9,s9,_⟩
   refine br ?_
   obtain ⟨w10,s10⟩:=w9.pp [1,2,3,4] 5
   exact ih rfl rfl ((et e3).symm) rfl ⟨w10,(s0.trans (s4.trans (s5.trans (s7.trans (s9.trans s10))))),(HL.step (s4.trans (s5.trans (s7.trans (s9.trans s10))))),(QE.step (s4.trans (s5.trans (s7.trans (s9.trans s10))))),(c4.step (s5.trans (s7.trans (s9.trans s10)))),(c7.step (s9.trans s10))⟩ hp
  ·exact bC.j6_P (@hC61) rfl rfl rfl rfl ⟨w0,s0,HL,QE,DB,QF⟩ hp
def bC.pl61 (F:Nat) :Nat->List (Int×Int×Int×Int×Int)->List (List Int)->List Bool->Int->Option (List (List Int))
 | 0,_,_,_,_=>none
 | k+1,jh,uj,nw,iW=>(bif (decide (iW<(nw.length:Int))) then ((ix nw iW).bind λn1=>(bif (gt nw n1) then (bC.pj4 F (bC.pl61 F k) jh uj nw iW) else (bC.pl7853 F (bC.pl61 F k) F jh uj nw iW ([]:List Int) iW))) else (some uj))
theorem bC.l61_P  :∀ k,bC.S61 H0 Ri R0  (bC.l61 F (gF.tw F)  k) (bC.pl61 F  k):=by
 intro k
 induction k with
 | zero=>unfold bC.S61;intros;rename_i hp;cases hp
 | succ k ih=>
  intro vo Hk vp sI jv Dw sJ vq Hl vr jh AO iW uj Hm vu nw H Hb aaP Hc h0 r hp
  obtain ⟨w0,s0,zB,HM,zC⟩:=h0
  subst Hb
  subst aaP
  subst Hc
  unfold bC.pl61 at hp
  unfold bC.l61
  refine aK hp (λhp=>?_) λhp=>?_
  ·obtain ⟨n1,g1,hp⟩:=ah hp
   obtain ⟨p1,q1,i1,h1,j1⟩:=W.ixo (E:=fI) w0 (i:=2) rfl rfl zC g1
   refine ar i1 ?_
   have h1:_=[_]:=h1
   subst h1
   refine ar (Av (j1 0 _ rfl)) ?_
   refine aK hp (λhp=>?_) λhp=>?_
   ·exact bC.j4_P (@ih) rfl rfl rfl ⟨w0,s0,zB,HM,zC⟩ hp
   ·refine lg eI w0 (n:=0) (l:=([]:List Int)) rfl CR.empty rfl λH2 w2 s2 c2=>?_
    obtain ⟨w3,s3⟩:=w2.pp [1,2,3,0] 4
    exact bC.l7853_P (@ih) F rfl rfl rfl (show 0=List.length ([]:List Int) from rfl) ⟨w3,(s0.trans (s2.trans s3)),(zB.step (s2.trans s3)),(HM.step (s2.trans s3)),(zC.step (s2.trans s3)),(c2.step s3)⟩ hp
  ·obtain ⟨w4,s4⟩:=w0.pp [1] 3
   exact aO hp ⟨_,_,_,_,rfl,rfl,w4,(s0.trans s4),(HM.step s4)⟩
def bC.p (F:Nat) (ak:List (Int×Int×Int×Int×Int)):Option (List (List Int)):=(mkn (IntKind.i64.wrap (4 * (ak.length:Int))) false).bind λl3=>bC.pl61 F F ak ([]:List (List Int)) l3 0
theorem bC.P {bE:ON} {aV:Nat} {bF:Cap} {ak:List (Int×Int×Int×Int×Int)} {ac:Int} (cR:aV=ak.length) (h0:Inn H R0 λR=>ROs (ag eI (ag eI (ag eI (ag eI eI)))) H R ⟨bE,aV,bF⟩ ak) {r:List (List Int)} (hp:bC.p F ak=some r):Rt (bC.tw F ⟨bE,aV,bF⟩ ac H) (bC.Q H R0 R0  r):=by
 obtain ⟨w0,cE⟩:=h0
 subst cR
 unfold bC.p at hp
 unfold bC.tw bC.twX
 have s0:=w0.rf
 refine bR w0 λH1 w1 s1=>?_
 refine lg (eSl eI) w1 (n:=0) (l:=([]:List (List Int))) rfl CR.empty rfl λH2 w2 s2 c2=>?_
 refine lSl w2 1 ?_
 obtain ⟨l3,e3,hp⟩:=ah hp
 refine uX fI false w2 rfl rfl rfl e3 λH4 k4 w4 s4 c4=>?_
 obtain ⟨w5,s5⟩:=w4.pp [2,1,0] 3
 exact bC.l61_P F rfl (show 0=List.length ([]:List (List Int)) from rfl) rfl ⟨w5,(s0.trans (s1.trans (s2.trans (s4.trans s5)))),(cE.step (s1.trans (s2.trans (s4.trans s5)))),(c2.step (s4.trans s5)),(c4.step s5)⟩ hp
def aP.Q (H0:Hp) (Ri R0:List Rs)  (r:List Int) (v:AV) (H':Hp):Prop:=∃ o0a:ON,∃ o0n:Nat,∃ o0c:Cap,∃ o0k:List AV,v=(.sl ⟨o0a,o0n,o0c⟩)/\o0n=(r).length/\Out H0 Ri H' (Rs.own ⟨o0a,o0n,o0c⟩ eI.z o0k::R0) λR=>CR eI H' R o0k (r)
def aP.S29 (H0:Hp) (Ri R0:List Rs)  (C:Nat->Nat->Sl->Int->Hp->OA) (pC:List (Int×Int×Int×Int×Int)->List Int->Int->Option (List Int)):Prop:=∀ {vE HN:ON} {sK jw DC:Nat} {vF HO:Cap} {nY:List (Int×Int×Int×Int×Int)} {sL jn:Int} {vG:List Int} {HP:List AV},∀ {H:Hp},sK=nY.length->DC=vG.length->(Out H0 Ri H (Rs.blk jw [.sl ⟨vE,sK,vF⟩,.i sL]::Rs.own ⟨HN,DC,HO⟩ eI.z HP::R0) λR=>ROs (ag eI (ag eI (ag eI (ag eI eI)))) H R ⟨vE,sK,vF⟩ nY/\CR eI H R HP vG)->∀ {r:List Int},pC nY vG jn=some r->Rt (C jw 0 ⟨HN,DC,HO⟩ jn H) (aP.Q H0 Ri R0  r)
def aP.S61 (H0:Hp) (Ri R0:List Rs)  (C:Nat->Nat->Sl->Int->Hp->OA) (pC:List (Int×Int×Int×Int×Int)->List Int->Int->Option (List Int)):Prop:=∀ {vH HQ:ON} {sM ja DE:Nat} {vI HR:Cap} {lY:List (Int×Int×Int×Int×Int)} {Be gh:Int} {qZ:List Int} {HS:List AV},∀ {H:Hp},sM=lY.length->DE=qZ.length->(Out H0 Ri H (Rs.blk ja [.sl ⟨vH,sM,vI⟩,.i Be]::Rs.own ⟨HQ,DE,HR⟩ eI.z HS::R0) λR=>ROs (ag eI (ag eI (ag eI (ag eI eI)))) H R ⟨vH,sM,vI⟩ lY/\CR eI H R HS qZ)->∀ {r:List Int},pC lY qZ gh=some r->Rt (C ja 0 ⟨HQ,DE,HR⟩ gh H) (aP.Q H0 Ri R0  r)
def aP.S7855 (H0:Hp) (Ri R0:List Rs)  (C:Nat->Nat->Sl->Int->Int->Int->Int->Hp->OA) (pC:List (Int×Int×Int×Int×Int)->List Int->Int->Int->Int->Int->Option (List Int)):Prop:=∀ {HT HU:ON} {DF pM DH:Nat} {HV HW:Cap} {ul:List (Int×Int×Int×Int×Int)} {QG nz kv kw lr:Int} {qy:List Int} {HX:List AV},∀ {H:Hp},DF=ul.length->DH=qy.length->(Out H0 Ri H (Rs.blk pM [.sl ⟨HT,DF,HV⟩,.i QG]::Rs.own ⟨HU,DH,HW⟩ eI.z HX::R0) λR=>ROs (ag eI (ag eI (ag eI (ag eI eI)))) H R ⟨HT,DF,HV⟩ ul/\CR eI H R HX qy)->∀ {r:List Int},pC ul qy nz kv kw lr=some r->Rt (C pM 0 ⟨HU,DH,HW⟩ nz kv kw lr H) (aP.Q H0 Ri R0  r)
def aP.pj8 (F:Nat) (DI:List (Int×Int×Int×Int×Int)->List Int->Int->Int->Int->Int->Option (List Int)) (Bf:List (Int×Int×Int×Int×Int)) (Bg:List Int) (xn:Int) (xo:Int) (xp:Int) (xq:Int):Option (List Int):=DI Bf Bg xn xo xp (IntKind.i64.wrap (xq+1))
theorem aP.j8_P  {C7855_:Nat->Nat->Sl->Int->Int->Int->Int->Hp->OA} {DI:List (Int×Int×Int×Int×Int)->List Int->Int->Int->Int->Int->Option (List Int)} (hC7855:aP.S7855 H0 Ri R0  C7855_ DI) {QH QI:ON} {HY CQ HZ:Nat} {QJ QK:Cap} {Bf:List (Int×Int×Int×Int×Int)} {aaQ xn xo xp xq:Int} {Bg:List Int} {QL:List AV} (aaR:HY=Bf.length) (aaS:HZ=Bg.length) (h0:Out H0 Ri H (Rs.blk CQ [.sl ⟨QH,HY,QJ⟩,.i aaQ]::Rs.own ⟨QI,HZ,QK⟩ eI.z QL::R0) λR=>ROs (ag eI (ag eI (ag eI (ag eI eI)))) H R ⟨QH,HY,QJ⟩ Bf/\CR eI H R QL Bg) {r:List Int} (hp:aP.pj8 F DI Bf Bg xn xo xp xq=some r):Rt (aP.j8 F (bo.tw F) C7855_ CQ 0 ⟨QI,HZ,QK⟩ xn xo xp xq H) (aP.Q H0 Ri R0  r):=by
 obtain ⟨w0,s0,aaT,aaU⟩:=h0
 subst aaR
 subst aaS
 unfold aP.pj8 at hp
 unfold aP.j8
 exact hC7855 rfl rfl ⟨w0,s0,aaT,aaU⟩ hp
def aP.pj6 (F:Nat) (cg:List (Int×Int×Int×Int×Int)->List Int->Int->Option (List Int)) (Bh:List (Int×Int×Int×Int×Int)) (Bi:List Int) (xk:Int):Option (List Int):=cg Bh Bi (IntKind.i64.wrap (xk+1))
theorem aP.j6_P  {C61_:Nat->Nat->Sl->Int->Hp->OA} {cg:List (Int×Int×Int×Int×Int)->List Int->Int->Option (List Int)} (hC61:aP.S61 H0 Ri R0  C61_ cg) {QM QN:ON} {H_ CO Ia:Nat} {QO QP:Cap} {Bh:List (Int×Int×Int×Int×Int)} {aaV xk:Int} {Bi:List Int} {QQ:List AV} (aaW:H_=Bh.length) (aaX:Ia=Bi.length) (h0:Out H0 Ri H (Rs.blk CO [.sl ⟨QM,H_,QO⟩,.i aaV]::Rs.own ⟨QN,Ia,QP⟩ eI.z QQ::R0) λR=>ROs (ag eI (ag eI (ag eI (ag eI eI)))) H R ⟨QM,H_,QO⟩ Bh/\CR eI H R QQ Bi) {r:List Int} (hp:aP.pj6 F cg Bh Bi xk=some r):Rt (aP.j6 F (bo.tw F) C61_ CO 0 ⟨QN,Ia,QP⟩ xk H) (aP.Q H0 Ri R0  r):=by
 obtain ⟨w0,s0,aaY,aaZ⟩:=h0
 subst aaW
 subst aaX
 unfold aP.pj6 at hp
 unfold aP.j6
 exact hC61 rfl rfl ⟨w0,s0,aaY,aaZ⟩ hp
def aP.pj7 (F:Nat) (cg:List (Int×Int×Int×Int×Int)->List Int->Int->Option (List Int)) (Bj:List (Int×Int×Int×Int×Int)) (Bk:List Int) (tC:Int):Option (List Int):=aP.pj6 F cg Bj Bk tC
theorem aP.j7_P  {C61_:Nat->Nat->Sl->Int->Hp->OA} {cg:List (Int×Int×Int×Int×Int)->List Int->Int->Option (List Int)} (hC61:aP.S61 H0 Ri R0  C61_ cg) {QR QT:ON} {Ib CP Ic:Nat} {QU QV:Cap} {Bj:List (Int×Int×Int×Int×Int)} {aa0 tC:Int} {Bk:List Int} {QW:List AV} (aa1:Ib=Bj.length) (aa2:Ic=Bk.length) (h0:Out H0 Ri H (Rs.blk CP [.sl ⟨QR,Ib,QU⟩,.i aa0]::Rs.own ⟨QT,Ic,QV⟩ eI.z QW::R0) λR=>ROs (ag eI (ag eI (ag eI (ag eI eI)))) H R ⟨QR,Ib,QU⟩ Bj/\CR eI H R QW Bk) {r:List Int} (hp:aP.pj7 F cg Bj Bk tC=some r):Rt (aP.j7 F (bo.tw F) C61_ CP 0 ⟨QT,Ic,QV⟩ tC H) (aP.Q H0 Ri R0  r):=by
 obtain ⟨w0,s0,aa3,aa4⟩:=h0
 subst aa1
 subst aa2
 unfold aP.pj7 at hp
 unfold aP.j7
 exact aP.j6_P (@hC61) rfl rfl ⟨w0,s0,aa3,aa4⟩ hp
def aP.pl7855 (F:Nat) (cg:List (Int×Int×Int×Int×Int)->List Int->Int->Option (List Int)):Nat->List (Int×Int×Int×Int×Int)->List Int->Int->Int->Int->Int->Option (List Int)
 | 0,_,_,_,_,_,_=>none
 | k+1,ul,qy,nz,kv,kw,lr=>(bif (decide (lr<(qy.length:Int))) then ((ix qy lr).bind λn1=>(bif ((gt qy n1)==(if kw>kv then kw else kv)) then ((ix qy lr).bind λn2=>(some (qy.set n2 (if kw<kv then kw else kv))).bind λl3=>aP.pj8 F (aP.pl7855 F cg k) ul l3 nz kv kw lr) else (aP.pj8 F (aP.pl7855 F cg k) ul qy nz kv kw lr))) else (aP.pj7 F cg ul qy nz))
theorem aP.l7855_P  {C61_:Nat->Nat->Sl->Int->Hp->OA} {cg:List (Int×Int×Int×Int×Int)->List Int->Int->Option (List Int)} (hC61:aP.S61 H0 Ri R0  C61_ cg):∀ k,aP.S7855 H0 Ri R0  (aP.l7855 F (bo.tw F) C61_ k) (aP.pl7855 F cg k):=by
 intro k
 induction k with
 | zero=>unfold aP.S7855;intros;rename_i hp;cases hp
 | succ k ih=>
  intro HT HU DF pM DH HV HW ul QG nz kv kw lr qy HX H aa5 aa6 h0 r hp
  obtain ⟨w0,s0,Id,Bl⟩:=h0
  subst aa5
  subst aa6
  unfold aP.pl7855 at hp
  unfold aP.l7855
  refine aK hp (λhp=>?_) λhp=>?_
  ·obtain ⟨n1,g1,hp⟩:=ah hp
   obtain ⟨p1,q1,i1,h1,j1⟩:=W.ixo (E:=eI) w0 (i:=1) rfl rfl Bl g1
   refine ar i1 ?_
   have h1:_=[_]:=h1
   subst h1
   refine ar (bA (j1 0 _ rfl)) ?_
   refine aK hp (λhp=>?_) λhp=>?_
   ·obtain ⟨n2,g2,hp⟩:=ah hp
    obtain ⟨p2,q2,i2,h2,j2⟩:=W.ixo (E:=eI) w0 (i:=1) rfl rfl Bl g2
    refine ar i2 ?_
    obtain ⟨l3,e3,hp⟩:=ah hp
    refine gd eI w0 (i:=1) (j:=0) (p:=p2) rfl rfl Bl g2 i2 e3 rfl rfl (λ_ h=>by have h:_=[_]:=h;subst h;exact rfl) λH4 k4 w4 s4 c4=>?_
    exact aP.j8_P (@ih) rfl ((et e3).symm) ⟨w4,(s0.trans s4),(Id.step s4),c4⟩ hp
   ·exact aP.j8_P (@ih) rfl rfl ⟨w0,s0,Id,Bl⟩ hp
  ·exact aP.j7_P (@hC61) rfl rfl ⟨w0,s0,Id,Bl⟩ hp
def aP.pl61 (F:Nat) :Nat->List (Int×Int×Int×Int×Int)->List Int->Int->Option (List Int)
 | 0,_,_,_=>none
 | k+1,lY,qZ,gh=>(bif (decide (gh<(IntKind.i64.wrap (2 * (lY.length:Int))))) then ((bo.p F lY gh true).bind λr1=>(bo.p F lY gh false).bind λr3=>(ix qZ r1.1).bind λn5=>(ix qZ r3.1).bind λn6=>aP.pl7855 F (aP.pl61 F k) F lY qZ gh (gt qZ n5) (gt qZ n6) 0) else (some qZ))
theorem aP.l61_P  :∀ k,aP.S61 H0 Ri R0  (aP.l61 F (bo.tw F)  k) (aP.pl61 F  k):=by
 intro k
 induction k with
 | zero=>unfold aP.S61;intros;rename_i hp;cases hp
 | succ k ih=>
  intro vH HQ sM ja DE vI HR lY Be gh qZ HS H Ie aa7 h0 r hp
  obtain ⟨w0,s0,zD,DJ⟩:=h0
  subst Ie
  subst aa7
  unfold aP.pl61 at hp
  unfold aP.l61
  refine lSl w0 0 ?_
  refine aK hp (λhp=>?_) λhp=>?_
  ·refine lSl w0 0 ?_
   refine lI w0 0 ?_
   obtain ⟨r1,e1,hp⟩:=ah hp
   refine aM (bo.P rfl ⟨w0,zD⟩ e1) ?_
   rintro _ H2 ⟨rfl,w2,s2,_⟩
   refine br ?_
   refine br ?_
   refine br ?_
   refine br ?_
   refine br ?_
   refine lSl w2 0 ?_
   refine lI w2 0 ?_
   obtain ⟨r3,e3,hp⟩:=ah hp
   refine aM (bo.P rfl ⟨w2,(zD.step s2)⟩ e3) ?_
   rintro _ H4 ⟨rfl,w4,s4,_⟩
   refine br ?_
   refine br ?_
   refine br ?_
   refine br ?_
   refine br ?_
   obtain ⟨n5,g5,hp⟩:=ah hp
   obtain ⟨p5,q5,i5,h5,j5⟩:=W.ixo (E:=eI) w4 (i:=1) rfl rfl (DJ.step (s2.trans s4)) g5
   refine ar i5 ?_
   have h5:_=[_]:=h5
   subst h5
   refine ar (bA (j5 0 _ rfl)) ?_
   obtain ⟨n6,g6,hp⟩:=ah hp
   obtain ⟨p6,q6,i6,h6,j6⟩:=W.ixo (E:=eI) w4 (i:=1) rfl rfl (DJ.step (s2.trans s4)) g6
   refine ar i6 ?_
   have h6:_=[_]:=h6
   subst h6
   refine ar (bA (j6 0 _ rfl)) ?_
   exact aP.l7855_P (@ih) F rfl rfl ⟨w4,(s0.trans (s2.trans s4)),(zD.step (s2.trans s4)),(DJ.step (s2.trans s4))⟩ hp
  ·obtain ⟨w7,s7⟩:=w0.pp [1] 2
   exact aO hp ⟨_,_,_,_,rfl,rfl,w7,(s0.trans s7),(DJ.step s7)⟩
def aP.pj9 (F:Nat)  (Bm:List (Int×Int×Int×Int×Int)) (Bn:List Int):Option (List Int):=aP.pl61 F F Bm Bn 0
theorem aP.j9_P   {QX QY:ON} {If CS Ig:Nat} {QZ Q_:Cap} {Bm:List (Int×Int×Int×Int×Int)} {aa8:Int} {Bn:List Int} {Ra:List AV} (aa9:If=Bm.length) (aa_:Ig=Bn.length) (h0:Out H0 Ri H (Rs.blk CS [.sl ⟨QX,If,QZ⟩,.i aa8]::Rs.own ⟨QY,Ig,Q_⟩ eI.z Ra::R0) λR=>ROs (ag eI (ag eI (ag eI (ag eI eI)))) H R ⟨QX,If,QZ⟩ Bm/\CR eI H R Ra Bn) {r:List Int} (hp:aP.pj9 F  Bm Bn=some r):Rt (aP.j9 F (bo.tw F)  CS 0 ⟨QY,Ig,Q_⟩ H) (aP.Q H0 Ri R0  r):=by
 obtain ⟨w0,s0,aba,abb⟩:=h0
 subst aa9
 subst aa_
 unfold aP.pj9 at hp
 unfold aP.j9
 exact aP.l61_P F rfl rfl ⟨w0,s0,aba,abb⟩ hp
def aP.pl29 (F:Nat) :Nat->List (Int×Int×Int×Int×Int)->List Int->Int->Option (List Int)
 | 0,_,_,_=>none
 | k+1,nY,vG,jn=>(bif (decide (jn<(nY.length:Int))) then ((apn vG ([jn]:List Int)).bind λl2=>aP.pl29 F k nY l2 (IntKind.i64.wrap (jn+1))) else (aP.pj9 F nY vG))
theorem aP.l29_P  :∀ k,aP.S29 H0 Ri R0  (aP.l29 F (bo.tw F)  k) (aP.pl29 F  k):=by
 intro k
 induction k with
 | zero=>unfold aP.S29;intros;rename_i hp;cases hp
 | succ k ih=>
  intro vE HN sK jw DC vF HO nY sL jn vG HP H Ih abc h0 r hp
  obtain ⟨w0,s0,Bo,Rc⟩:=h0
  subst Ih
  subst abc
  unfold aP.pl29 at hp
  unfold aP.l29
  refine lSl w0 0 ?_
  refine aK hp (λhp=>?_) λhp=>?_
  ·refine lg eI w0 (n:=1) (l:=([jn]:List Int)) rfl (CR.cons1 rfl CR.empty) rfl λH1 w1 s1 c1=>?_
   refine ar (w1.rowo (i:=0) rfl) ?_
   obtain ⟨l2,e2,hp⟩:=ah hp
   refine qk eI w1 (i:=2) rfl rfl (Rc.step s1) c1 (show 1=List.length ([jn]:List Int) from rfl) rfl e2 λa3 d3 H3 w3 s3 c3 x3=>?_
   obtain ⟨w4,s4⟩:=w3.pp [1,2] 3
   exact ih rfl rfl ⟨w4,(s0.trans (s1.trans (s3.trans s4))),(Bo.step (s1.trans (s3.trans s4))),(c3.step s4)⟩ hp
  ·exact aP.j9_P rfl rfl ⟨w0,s0,Bo,Rc⟩ hp
def aP.p (F:Nat) (ak:List (Int×Int×Int×Int×Int)):Option (List Int):=aP.pl29 F F ak ([]:List Int) 0
theorem aP.P {bE:ON} {aV:Nat} {bF:Cap} {ak:List (Int×Int×Int×Int×Int)} {ac:Int} (cR:aV=ak.length) (h0:Inn H R0 λR=>ROs (ag eI (ag eI (ag eI (ag eI eI)))) H R ⟨bE,aV,bF⟩ ak) {r:List Int} (hp:aP.p F ak=some r):Rt (aP.tw F ⟨bE,aV,bF⟩ ac H) (aP.Q H R0 R0  r):=by
 obtain ⟨w0,cE⟩:=h0
 subst cR
 unfold aP.p at hp
 unfold aP.tw aP.twX
 have s0:=w0.rf
 refine bR w0 λH1 w1 s1=>?_
 refine lg eI w1 (n:=0) (l:=([]:List Int)) rfl CR.empty rfl λH2 w2 s2 c2=>?_
 obtain ⟨w3,s3⟩:=w2.pp [1,0] 2
 exact aP.l29_P F rfl (show 0=List.length ([]:List Int) from rfl) ⟨w3,(s0.trans (s1.trans (s2.trans s3))),(cE.step (s1.trans (s2.trans s3))),(c2.step s3)⟩ hp
def dd.Q (H0:Hp) (Ri R0:List Rs)  (r:Int) (v:AV) (H':Hp):Prop:=v=(.i r)/\Out H0 Ri H' (R0) λR=>True
def dd.S61 (H0:Hp) (Ri R0:List Rs)  (C:Int->Sl->Int->Hp->OA) (pC:Int->List Int->Int->Option (Int)):Prop:=∀ {cJ eX:Int} {Ii:ON} {DK:Nat} {Ij:Cap} {rN:List Int} {Ik:List AV},∀ {H:Hp},DK=rN.length->(Out H0 Ri H (Rs.own ⟨Ii,DK,Ij⟩ eI.z Ik::R0) λR=>CR eI H R Ik rN)->∀ {r:Int},pC cJ rN eX=some r->Rt (C cJ ⟨Ii,DK,Ij⟩ eX H) (dd.Q H0 Ri R0  r)
def dd.pj2 (F:Nat) (cg:Int->List Int->Int->Option (Int)) (xt:Int) (Bp:List Int) (xu:Int):Option (Int):=cg xt Bp (IntKind.i64.wrap (xu+1))
theorem dd.j2_P  {C61_:Int->Sl->Int->Hp->OA} {cg:Int->List Int->Int->Option (Int)} (hC61:dd.S61 H0 Ri R0  C61_ cg) {xt xu:Int} {Rd:ON} {Il:Nat} {Re:Cap} {Bp:List Int} {Rf:List AV} (abd:Il=Bp.length) (h0:Out H0 Ri H (Rs.own ⟨Rd,Il,Re⟩ eI.z Rf::R0) λR=>CR eI H R Rf Bp) {r:Int} (hp:dd.pj2 F cg xt Bp xu=some r):Rt (dd.j2 F (aP.tw F) C61_ xt ⟨Rd,Il,Re⟩ xu H) (dd.Q H0 Ri R0  r):=by
 obtain ⟨w0,s0,abe⟩:=h0
 subst abd
 unfold dd.pj2 at hp
 unfold dd.j2
 exact hC61 rfl ⟨w0,s0,abe⟩ hp
def dd.pl61 (F:Nat) :Nat->Int->List Int->Int->Option (Int)
 | 0,_,_,_=>none
 | k+1,cJ,rN,eX=>(bif (decide (eX<(rN.length:Int))) then ((ix rN eX).bind λn1=>(bif ((gt rN n1)==eX) then (dd.pj2 F (dd.pl61 F k) (IntKind.i64.wrap (cJ+1)) rN eX) else (dd.pj2 F (dd.pl61 F k) cJ rN eX))) else (some cJ))
theorem dd.l61_P  :∀ k,dd.S61 H0 Ri R0  (dd.l61 F (aP.tw F)  k) (dd.pl61 F  k):=by
 intro k
 induction k with
 | zero=>unfold dd.S61;intros;rename_i hp;cases hp
 | succ k ih=>
  intro cJ eX Ii DK Ij rN Ik H abf h0 r hp
  obtain ⟨w0,s0,Im⟩:=h0
  subst abf
  unfold dd.pl61 at hp
  unfold dd.l61
  refine aK hp (λhp=>?_) λhp=>?_
  ·obtain ⟨n1,g1,hp⟩:=ah hp
   obtain ⟨p1,q1,i1,h1,j1⟩:=W.ixo (E:=eI) w0 (i:=0) rfl rfl Im g1
   refine ar i1 ?_
   have h1:_=[_]:=h1
   subst h1
   refine ar (bA (j1 0 _ rfl)) ?_
   refine aK hp (λhp=>?_) λhp=>?_
   ·exact dd.j2_P (@ih) rfl ⟨w0,s0,Im⟩ hp
   ·exact dd.j2_P (@ih) rfl ⟨w0,s0,Im⟩ hp
  ·obtain ⟨w2,s2⟩:=w0.pp [] 1
   exact aO hp ⟨rfl,w2,(s0.trans s2),trivial⟩
def dd.p (F:Nat) (ak:List (Int×Int×Int×Int×Int)):Option (Int):=(aP.p F ak).bind λr2=>dd.pl61 F F 0 r2 0
theorem dd.P {bE:ON} {aV:Nat} {bF:Cap} {ak:List (Int×Int×Int×Int×Int)} {ac:Int} (cR:aV=ak.length) (h0:Inn H R0 λR=>ROs (ag eI (ag eI (ag eI (ag eI eI)))) H R ⟨bE,aV,bF⟩ ak) {r:Int} (hp:dd.p F ak=some r):Rt (dd.tw F ⟨bE,aV,bF⟩ ac H) (dd.Q H R0 R0  r):=by
 obtain ⟨w0,cE⟩:=h0
 subst cR
 unfold dd.p at hp
 unfold dd.tw dd.twX
 have s0:=w0.rf
 refine bR w0 λH1 w1 s1=>?_
 refine lSl w1 0 ?_
 refine lI w1 0 ?_
 obtain ⟨r2,e2,hp⟩:=ah hp
 refine aM (aP.P rfl ⟨w1,(cE.step s1)⟩ e2) ?_
 rintro _ H3 ⟨o0a_3,o0n_3,o0c_3,o0k_3,rfl,rfl,w3,s3,f3_0⟩
 refine br ?_
 obtain ⟨w4,s4⟩:=w3.pp [0] 2
 exact dd.l61_P F rfl ⟨w4,(s0.trans (s1.trans (s3.trans s4))),(f3_0.step s4)⟩ hp
def gR.Q (H0:Hp) (Ri R0:List Rs)  (r:Bool) (v:AV) (H':Hp):Prop:=v=(.bool r)/\Out H0 Ri H' (R0) λR=>True
def gR.p (F:Nat) (ak:List (Int×Int×Int×Int×Int)) (ac:Int):Option (Bool):=(bif (decide ((ak.length:Int)>10)) then (some false) else ((fq.p F ac 0 8).bind λr3=>(bif (!r3) then (some false) else ((bW.p F ak).bind λr6=>(bif (!r6) then (some false) else ((bC.p F ak).bind λr9=>(dd.p F ak).bind λr12=>some ((r9.length:Int)==(IntKind.i64.wrap ((ak.length:Int)+(IntKind.i64.wrap (2 * r12)))))))))))
theorem gR.P {bE:ON} {aV:Nat} {bF:Cap} {ak:List (Int×Int×Int×Int×Int)} {ac:Int} (cR:aV=ak.length) (h0:Inn H R0 λR=>ROs (ag eI (ag eI (ag eI (ag eI eI)))) H R ⟨bE,aV,bF⟩ ak) {r:Bool} (hp:gR.p F ak ac=some r):Rt (gR.tw F ⟨bE,aV,bF⟩ ac H) (gR.Q H R0 R0  r):=by
 obtain ⟨w0,cE⟩:=h0
 subst cR
 unfold gR.p at hp
 unfold gR.tw gR.twX
 have s0:=w0.rf
 refine bR w0 λH1 w1 s1=>?_
 refine lSl w1 0 ?_
 refine aK hp (λhp=>?_) λhp=>?_
 ·obtain ⟨w2,s2⟩:=w1.pp [] 1
  exact aO hp ⟨rfl,w2,(s0.trans (s1.trans s2)),trivial⟩
 ·refine lI w1 0 ?_
  obtain ⟨r3,e3,hp⟩:=ah hp
  refine aM (fq.P ⟨w1,trivial⟩ e3) ?_
  rintro _ H4 ⟨rfl,w4,s4,_⟩
  refine br ?_
  refine aK hp (λhp=>?_) λhp=>?_
  ·obtain ⟨w5,s5⟩:=w4.pp [] 1
   exact aO hp ⟨rfl,w5,(s0.trans (s1.trans (s4.trans s5))),trivial⟩
  ·refine lSl w4 0 ?_
   refine lI w4 0 ?_
   obtain ⟨r6,e6,hp⟩:=ah hp
   refine aM (bW.P rfl ⟨w4,(cE.step (s1.trans s4))⟩ e6) ?_
   rintro _ H7 ⟨rfl,w7,s7,_⟩
   refine br ?_
   refine aK hp (λhp=>?_) λhp=>?_
   ·obtain ⟨w8,s8⟩:=w7.pp [] 1
    exact aO hp ⟨rfl,w8,(s0.trans (s1.trans (s4.trans (s7.trans s8)))),trivial⟩
   ·refine lSl w7 0 ?_
    refine lI w7 0 ?_
    obtain ⟨r9,e9,hp⟩:=ah hp
    refine aM (bC.P rfl ⟨w7,(cE.step (s1.trans (s4.trans s7)))⟩ e9) ?_
    rintro _ H10 ⟨o0a_10,o0n_10,o0c_10,o0k_10,rfl,rfl,w10,s10,f10_0⟩
    refine br ?_
    refine fJ (W.cons_of (Rn:=[_]) w7 w10 s10) ?_
    refine lSl w10 1 ?_
    refine lSl w10 1 ?_
    refine lI w10 1 ?_
    obtain ⟨r12,e12,hp⟩:=ah hp
    refine aM (dd.P rfl ⟨w10,(cE.step (s1.trans (s4.trans (s7.trans s10))))⟩ e12) ?_
    rintro _ H13 ⟨rfl,w13,s13,_⟩
    refine br ?_
    refine fJ (W.cons_of (Rn:=[]) w10 w13 s13) ?_
    obtain ⟨w15,s15⟩:=w13.pp [] 2
    exact aO hp ⟨rfl,w15,(s0.trans (s1.trans (s4.trans (s7.trans (s10.trans (s13.trans s15)))))),trivial⟩
def aB.Q (H0:Hp) (Ri R0:List Rs)  (r:List Int×Int) (v:AV) (H':Hp):Prop:=∃ o0a:ON,∃ o0n:Nat,∃ o0c:Cap,∃ o0k:List AV,v=(.tup [(.sl ⟨o0a,o0n,o0c⟩),(.i r.2)])/\o0n=(r.1).length/\Out H0 Ri H' (Rs.own ⟨o0a,o0n,o0c⟩ eI.z o0k::R0) λR=>CR eI H' R o0k (r.1)
def aB.S29 (H0:Hp) (Ri R0:List Rs)  (C:Nat->Nat->Sl->Int->Hp->OA) (pC:List (Int×Int×Int×Int×Int)->Int->List Int->Int->Option (List Int×Int)):Prop:=∀ {vE In:ON} {sK jw DL:Nat} {vF Io:Cap} {nY:List (Int×Int×Int×Int×Int)} {sL mp:Int} {vJ:List Int} {Ip:List AV},∀ {H:Hp},sK=nY.length->DL=vJ.length->(Out H0 Ri H (Rs.blk jw [.sl ⟨vE,sK,vF⟩,.i sL]::Rs.own ⟨In,DL,Io⟩ eI.z Ip::R0) λR=>ROs (ag eI (ag eI (ag eI (ag eI eI)))) H R ⟨vE,sK,vF⟩ nY/\CR eI H R Ip vJ)->∀ {r:List Int×Int},pC nY sL vJ mp=some r->Rt (C jw 0 ⟨In,DL,Io⟩ mp H) (aB.Q H0 Ri R0  r)
def aB.S61 (H0:Hp) (Ri R0:List Rs)  (C:Nat->Nat->Sl->Int->Hp->OA) (pC:List (Int×Int×Int×Int×Int)->Int->List Int->Int->Option (List Int×Int)):Prop:=∀ {Iq Ir:ON} {DM oy DN:Nat} {Is It:Cap} {q_:List (Int×Int×Int×Int×Int)} {zE mo:Int} {ra:List Int} {Iu:List AV},∀ {H:Hp},DM=q_.length->DN=ra.length->(Out H0 Ri H (Rs.blk oy [.sl ⟨Iq,DM,Is⟩,.i zE]::Rs.own ⟨Ir,DN,It⟩ eI.z Iu::R0) λR=>ROs (ag eI (ag eI (ag eI (ag eI eI)))) H R ⟨Iq,DM,Is⟩ q_/\CR eI H R Iu ra)->∀ {r:List Int×Int},pC q_ zE ra mo=some r->Rt (C oy 0 ⟨Ir,DN,It⟩ mo H) (aB.Q H0 Ri R0  r)
def aB.S1963 (H0:Hp) (Ri R0:List Rs)  (C:Nat->Nat->Sl->Int->Int->Int->Int->Hp->OA) (pC:List (Int×Int×Int×Int×Int)->Int->List Int->Int->Int->Int->Int->Option (List Int×Int)):Prop:=∀ {Iv Iw:ON} {DO pO DP:Nat} {Ix Iy:Cap} {um:List (Int×Int×Int×Int×Int)} {vK nA ky kz lx:Int} {qz:List Int} {Iz:List AV},∀ {H:Hp},DO=um.length->DP=qz.length->(Out H0 Ri H (Rs.blk pO [.sl ⟨Iv,DO,Ix⟩,.i vK]::Rs.own ⟨Iw,DP,Iy⟩ eI.z Iz::R0) λR=>ROs (ag eI (ag eI (ag eI (ag eI eI)))) H R ⟨Iv,DO,Ix⟩ um/\CR eI H R Iz qz)->∀ {r:List Int×Int},pC um vK qz nA ky kz lx=some r->Rt (C pO 0 ⟨Iw,DP,Iy⟩ nA ky kz lx H) (aB.Q H0 Ri R0  r)
def aB.pj12 (F:Nat) (DQ:List (Int×Int×Int×Int×Int)->Int->List Int->Int->Int->Int->Int->Option (List Int×Int)) (Bq:List (Int×Int×Int×Int×Int)) (DR:Int) (Br:List Int) (xD:Int) (xE:Int) (xF:Int) (xG:Int):Option (List Int×Int):=DQ Bq DR Br xD xE xF (IntKind.i64.wrap (xG+1))
theorem aB.j12_P  {C1963_:Nat->Nat->Sl->Int->Int->Int->Int->Hp->OA} {DQ:List (Int×Int×Int×Int×Int)->Int->List Int->Int->Int->Int->Int->Option (List Int×Int)} (hC1963:aB.S1963 H0 Ri R0  C1963_ DQ) {Rh Rj:ON} {IA CY IB:Nat} {Rk Rl:Cap} {Bq:List (Int×Int×Int×Int×Int)} {DR xD xE xF xG:Int} {Br:List Int} {Rm:List AV} (abg:IA=Bq.length) (abh:IB=Br.length) (h0:Out H0 Ri H (Rs.blk CY [.sl ⟨Rh,IA,Rk⟩,.i DR]::Rs.own ⟨Rj,IB,Rl⟩ eI.z Rm::R0) λR=>ROs (ag eI (ag eI (ag eI (ag eI eI)))) H R ⟨Rh,IA,Rk⟩ Bq/\CR eI H R Rm Br) {r:List Int×Int} (hp:aB.pj12 F DQ Bq DR Br xD xE xF xG=some r):Rt (aB.j12 F  C1963_ CY 0 ⟨Rj,IB,Rl⟩ xD xE xF xG H) (aB.Q H0 Ri R0  r):=by
 obtain ⟨w0,s0,abi,abj⟩:=h0
 subst abg
 subst abh
 unfold aB.pj12 at hp
 unfold aB.j12
 exact hC1963 rfl rfl ⟨w0,s0,abi,abj⟩ hp
def aB.pj10 (F:Nat) (cg:List (Int×Int×Int×Int×Int)->Int->List Int->Int->Option (List Int×Int)) (Bs:List (Int×Int×Int×Int×Int)) (DS:Int) (Bt:List Int) (xB:Int):Option (List Int×Int):=cg Bs DS Bt (IntKind.i64.wrap (xB+1))
theorem aB.j10_P  {C61_:Nat->Nat->Sl->Int->Hp->OA} {cg:List (Int×Int×Int×Int×Int)->Int->List Int->Int->Option (List Int×Int)} (hC61:aB.S61 H0 Ri R0  C61_ cg) {Rp Rq:ON} {IC CW ID:Nat} {Rr Ru:Cap} {Bs:List (Int×Int×Int×Int×Int)} {DS xB:Int} {Bt:List Int} {Rv:List AV} (abk:IC=Bs.length) (abl:ID=Bt.length) (h0:Out H0 Ri H (Rs.blk CW [.sl ⟨Rp,IC,Rr⟩,.i DS]::Rs.own ⟨Rq,ID,Ru⟩ eI.z Rv::R0) λR=>ROs (ag eI (ag eI (ag eI (ag eI eI)))) H R ⟨Rp,IC,Rr⟩ Bs/\CR eI H R Rv Bt) {r:List Int×Int} (hp:aB.pj10 F cg Bs DS Bt xB=some r):Rt (aB.j10 F  C61_ CW 0 ⟨Rq,ID,Ru⟩ xB H) (aB.Q H0 Ri R0  r):=by
 obtain ⟨w0,s0,abm,abn⟩:=h0
 subst abk
 subst abl
 unfold aB.pj10 at hp
 unfold aB.j10
 exact hC61 rfl rfl ⟨w0,s0,abm,abn⟩ hp
def aB.pj11 (F:Nat) (cg:List (Int×Int×Int×Int×Int)->Int->List Int->Int->Option (List Int×Int)) (Bu:List (Int×Int×Int×Int×Int)) (DT:Int) (Bv:List Int) (xC:Int):Option (List Int×Int):=aB.pj10 F cg Bu DT Bv xC
theorem aB.j11_P  {C61_:Nat->Nat->Sl->Int->Hp->OA} {cg:List (Int×Int×Int×Int×Int)->Int->List Int->Int->Option (List Int×Int)} (hC61:aB.S61 H0 Ri R0  C61_ cg) {Rw Rx:ON} {IE CX IF:Nat} {Ry Rz:Cap} {Bu:List (Int×Int×Int×Int×Int)} {DT xC:Int} {Bv:List Int} {RA:List AV} (abo:IE=Bu.length) (abp:IF=Bv.length) (h0:Out H0 Ri H (Rs.blk CX [.sl ⟨Rw,IE,Ry⟩,.i DT]::Rs.own ⟨Rx,IF,Rz⟩ eI.z RA::R0) λR=>ROs (ag eI (ag eI (ag eI (ag eI eI)))) H R ⟨Rw,IE,Ry⟩ Bu/\CR eI H R RA Bv) {r:List Int×Int} (hp:aB.pj11 F cg Bu DT Bv xC=some r):Rt (aB.j11 F  C61_ CX 0 ⟨Rx,IF,Rz⟩ xC H) (aB.Q H0 Ri R0  r):=by
 obtain ⟨w0,s0,abq,abr⟩:=h0
 subst abo
 subst abp
 unfold aB.pj11 at hp
 unfold aB.j11
 exact aB.j10_P (@hC61) rfl rfl ⟨w0,s0,abq,abr⟩ hp
def aB.pl1963 (F:Nat) (cg:List (Int×Int×Int×Int×Int)->Int->List Int->Int->Option (List Int×Int)):Nat->List (Int×Int×Int×Int×Int)->Int->List Int->Int->Int->Int->Int->Option (List Int×Int)
 | 0,_,_,_,_,_,_,_=>none
 | k+1,um,vK,qz,nA,ky,kz,lx=>(bif (decide (lx<(qz.length:Int))) then ((ix qz lx).bind λn1=>(bif ((gt qz n1)==(if kz>ky then kz else ky)) then ((ix qz lx).bind λn2=>(some (qz.set n2 (if kz<ky then kz else ky))).bind λl3=>aB.pj12 F (aB.pl1963 F cg k) um vK l3 nA ky kz lx) else (aB.pj12 F (aB.pl1963 F cg k) um vK qz nA ky kz lx))) else (aB.pj11 F cg um vK qz nA))
theorem aB.l1963_P  {C61_:Nat->Nat->Sl->Int->Hp->OA} {cg:List (Int×Int×Int×Int×Int)->Int->List Int->Int->Option (List Int×Int)} (hC61:aB.S61 H0 Ri R0  C61_ cg):∀ k,aB.S1963 H0 Ri R0  (aB.l1963 F  C61_ k) (aB.pl1963 F cg k):=by
 intro k
 induction k with
 | zero=>unfold aB.S1963;intros;rename_i hp;cases hp
 | succ k ih=>
  intro Iv Iw DO pO DP Ix Iy um vK nA ky kz lx qz Iz H abt abu h0 r hp
  obtain ⟨w0,s0,IG,Bw⟩:=h0
  subst abt
  subst abu
  unfold aB.pl1963 at hp
  unfold aB.l1963
  refine aK hp (λhp=>?_) λhp=>?_
  ·obtain ⟨n1,g1,hp⟩:=ah hp
   obtain ⟨p1,q1,i1,h1,j1⟩:=W.ixo (E:=eI) w0 (i:=1) rfl rfl Bw g1
   refine ar i1 ?_
   have h1:_=[_]:=h1
   subst h1
   refine ar (bA (j1 0 _ rfl)) ?_
   refine aK hp (λhp=>?_) λhp=>?_
   ·obtain ⟨n2,g2,hp⟩:=ah hp
    obtain ⟨p2,q2,i2,h2,j2⟩:=W.ixo (E:=eI) w0 (i:=1) rfl rfl Bw g2
    refine ar i2 ?_
    obtain ⟨l3,e3,hp⟩:=ah hp
    refine gd eI w0 (i:=1) (j:=0) (p:=p2) rfl rfl Bw g2 i2 e3 rfl rfl (λ_ h=>by have h:_=[_]:=h;subst h;exact rfl) λH4 k4 w4 s4 c4=>?_
    exact aB.j12_P (@ih) rfl ((et e3).symm) ⟨w4,(s0.trans s4),(IG.step s4),c4⟩ hp
   ·exact aB.j12_P (@ih) rfl rfl ⟨w0,s0,IG,Bw⟩ hp
  ·exact aB.j11_P (@hC61) rfl rfl ⟨w0,s0,IG,Bw⟩ hp
def aB.S509 (H0:Hp) (Ri R0:List Rs)  (C:Nat->Nat->Sl->Sl->Int->Int->Hp->OA) (pC:Int->List Int->List Int->Int->Int->Option (List Int×Int)):Prop:=∀ {IH II IJ:ON} {DU pN DV DW:Nat} {IK IL IM:Cap} {IN:List (Int×Int×Int×Int×Int)} {vL lw kx:Int} {qA qB:List Int} {IP IQ:List AV},∀ {H:Hp},DU=IN.length->DV=qA.length->DW=qB.length->(Out H0 Ri H (Rs.blk pN [.sl ⟨IH,DU,IK⟩,.i vL]::Rs.own ⟨II,DV,IL⟩ eI.z IP::Rs.own ⟨IJ,DW,IM⟩ eI.z IQ::R0) λR=>ROs (ag eI (ag eI (ag eI (ag eI eI)))) H R ⟨IH,DU,IK⟩ IN/\CR eI H R IP qA/\CR eI H R IQ qB)->∀ {r:List Int×Int},pC vL qA qB lw kx=some r->Rt (C pN 0 ⟨II,DV,IL⟩ ⟨IJ,DW,IM⟩ lw kx H) (aB.Q H0 Ri R0  r)
def aB.pj7 (F:Nat) (sS:Int->List Int->List Int->Int->Int->Option (List Int×Int)) (DX:Int) (Bx:List Int) (By:List Int) (xz:Int) (xA:Int):Option (List Int×Int):=sS DX Bx By xz (IntKind.i64.wrap (xA+1))
theorem aB.j7_P  {C509_:Nat->Nat->Sl->Sl->Int->Int->Hp->OA} {sS:Int->List Int->List Int->Int->Int->Option (List Int×Int)} (hC509:aB.S509 H0 Ri R0  C509_ sS) {RB RC RD:ON} {IR CU IS IT:Nat} {RE RF RG:Cap} {RH:List (Int×Int×Int×Int×Int)} {DX xz xA:Int} {Bx By:List Int} {RI RJ:List AV} (abv:IR=RH.length) (abw:IS=Bx.length) (abx:IT=By.length) (h0:Out H0 Ri H (Rs.blk CU [.sl ⟨RB,IR,RE⟩,.i DX]::Rs.own ⟨RC,IS,RF⟩ eI.z RI::Rs.own ⟨RD,IT,RG⟩ eI.z RJ::R0) λR=>ROs (ag eI (ag eI (ag eI (ag eI eI)))) H R ⟨RB,IR,RE⟩ RH/\CR eI H R RI Bx/\CR eI H R RJ By) {r:List Int×Int} (hp:aB.pj7 F sS DX Bx By xz xA=some r):Rt (aB.j7 F  C509_ CU 0 ⟨RC,IS,RF⟩ ⟨RD,IT,RG⟩ xz xA H) (aB.Q H0 Ri R0  r):=by
 obtain ⟨w0,s0,aby,abz,abA⟩:=h0
 subst abv
 subst abw
 subst abx
 unfold aB.pj7 at hp
 unfold aB.j7
 exact hC509 rfl rfl rfl ⟨w0,s0,aby,abz,abA⟩ hp
def aB.pj6 (F:Nat)  (DY:Int) (Bz:List Int) (xy:Int):Option (List Int×Int):=some (Bz,(IntKind.i64.wrap (xy+DY)))
theorem aB.j6_P   {RK RL:ON} {IU CT IV:Nat} {RM RN:Cap} {RO:List (Int×Int×Int×Int×Int)} {DY xy:Int} {Bz:List Int} {RP:List AV} (abB:IU=RO.length) (abC:IV=Bz.length) (h0:Out H0 Ri H (Rs.blk CT [.sl ⟨RK,IU,RM⟩,.i DY]::Rs.own ⟨RL,IV,RN⟩ eI.z RP::R0) λR=>ROs (ag eI (ag eI (ag eI (ag eI eI)))) H R ⟨RK,IU,RM⟩ RO/\CR eI H R RP Bz) {r:List Int×Int} (hp:aB.pj6 F  DY Bz xy=some r):Rt (aB.j6 F   CT 0 ⟨RL,IV,RN⟩ xy H) (aB.Q H0 Ri R0  r):=by
 obtain ⟨w0,s0,agQ,abD⟩:=h0
 subst abB
 subst abC
 unfold aB.pj6 at hp
 unfold aB.j6
 refine lI w0 0 ?_
 obtain ⟨w1,s1⟩:=w0.pp [1] 2
 exact aO hp ⟨_,_,_,_,rfl,rfl,w1,(s0.trans s1),(abD.step s1)⟩
def aB.pl509 (F:Nat) :Nat->Int->List Int->List Int->Int->Int->Option (List Int×Int)
 | 0,_,_,_,_,_=>none
 | k+1,vL,qA,qB,lw,kx=>(bif (decide (kx<(qA.length:Int))) then ((ix qA kx).bind λn1=>(bif ((gt qA n1)==kx) then ((apn qB ([lw]:List Int)).bind λl3=>aB.pj7 F (aB.pl509 F k) vL qA l3 (IntKind.i64.wrap (lw+1)) kx) else ((ix qA kx).bind λn6=>(ix qB (gt qA n6)).bind λn7=>(apn qB ([(gt qB n7)]:List Int)).bind λl9=>aB.pj7 F (aB.pl509 F k) vL qA l9 lw kx))) else (aB.pj6 F vL qB lw))
theorem aB.l509_P  :∀ k,aB.S509 H0 Ri R0  (aB.l509 F   k) (aB.pl509 F  k):=by
 intro k
 induction k with
 | zero=>unfold aB.S509;intros;rename_i hp;cases hp
 | succ k ih=>
  intro IH II IJ DU pN DV DW IK IL IM IN vL lw kx qA qB IP IQ H abE abF abG h0 r hp
  obtain ⟨w0,s0,IW,DZ,D_⟩:=h0
  subst abE
  subst abF
  subst abG
  unfold aB.pl509 at hp
  unfold aB.l509
  refine aK hp (λhp=>?_) λhp=>?_
  ·obtain ⟨n1,g1,hp⟩:=ah hp
   obtain ⟨p1,q1,i1,h1,j1⟩:=W.ixo (E:=eI) w0 (i:=1) rfl rfl DZ g1
   refine ar i1 ?_
   have h1:_=[_]:=h1
   subst h1
   refine ar (bA (j1 0 _ rfl)) ?_
   refine aK hp (λhp=>?_) λhp=>?_
   ·refine lg eI w0 (n:=1) (l:=([lw]:List Int)) rfl (CR.cons1 rfl CR.empty) rfl λH2 w2 s2 c2=>?_
    refine ar (w2.rowo (i:=0) rfl) ?_
    obtain ⟨l3,e3,hp⟩:=ah hp
    refine qk eI w2 (i:=3) rfl rfl (D_.step s2) c2 (show 1=List.length ([lw]:List Int) from rfl) rfl e3 λa4 d4 H4 w4 s4 c4 x4=>?_
    obtain ⟨w5,s5⟩:=w4.pp [1,2,3] 4
    exact aB.j7_P (@ih) rfl rfl rfl ⟨w5,(s0.trans (s2.trans (s4.trans s5))),(IW.step (s2.trans (s4.trans s5))),(DZ.step (s2.trans (s4.trans s5))),(c4.step s5)⟩ hp
   ·obtain ⟨n6,g6,hp⟩:=ah hp
    obtain ⟨p6,q6,i6,h6,j6⟩:=W.ixo (E:=eI) w0 (i:=1) rfl rfl DZ g6
    refine ar i6 ?_
    have h6:_=[_]:=h6
    subst h6
    refine ar (bA (j6 0 _ rfl)) ?_
    obtain ⟨n7,g7,hp⟩:=ah hp
    obtain ⟨p7,q7,i7,h7,j7⟩:=W.ixo (E:=eI) w0 (i:=2) rfl rfl D_ g7
    refine ar i7 ?_
    have h7:_=[_]:=h7
    subst h7
    refine ar (bA (j7 0 _ rfl)) ?_
    refine lg eI w0 (n:=1) (l:=([(gt qB n7)]:List Int)) rfl (CR.cons1 rfl CR.empty) rfl λH8 w8 s8 c8=>?_
    refine ar (w8.rowo (i:=0) rfl) ?_
    obtain ⟨l9,e9,hp⟩:=ah hp
    refine qk eI w8 (i:=3) rfl rfl (D_.step s8) c8 (show 1=List.length ([(gt qB n7)]:List Int) from rfl) rfl e9 λa10 d10 H10 w10 s10 c10 x10=>?_
    obtain ⟨w11,s11⟩:=w10.pp [1,2,3] 4
    exact aB.j7_P (@ih) rfl rfl rfl ⟨w11,(s0.trans (s8.trans (s10.trans s11))),(IW.step (s8.trans (s10.trans s11))),(DZ.step (s8.trans (s10.trans s11))),(c10.step s11)⟩ hp
  ·obtain ⟨w12,s12⟩:=w0.pp [0,2] 3
   exact aB.j6_P rfl rfl ⟨w12,(s0.trans s12),(IW.step s12),(D_.step s12)⟩ hp
def aB.pj8 (F:Nat)  (Ea:Int) (BA:List Int):Option (List Int×Int):=aB.pl509 F F Ea BA ([]:List Int) 0 0
theorem aB.j8_P   {RQ RR:ON} {IX CV IY:Nat} {RS RT:Cap} {RU:List (Int×Int×Int×Int×Int)} {Ea:Int} {BA:List Int} {RV:List AV} (abH:IX=RU.length) (abI:IY=BA.length) (h0:Out H0 Ri H (Rs.blk CV [.sl ⟨RQ,IX,RS⟩,.i Ea]::Rs.own ⟨RR,IY,RT⟩ eI.z RV::R0) λR=>ROs (ag eI (ag eI (ag eI (ag eI eI)))) H R ⟨RQ,IX,RS⟩ RU/\CR eI H R RV BA) {r:List Int×Int} (hp:aB.pj8 F  Ea BA=some r):Rt (aB.j8 F   CV 0 ⟨RR,IY,RT⟩ H) (aB.Q H0 Ri R0  r):=by
 obtain ⟨w0,s0,abJ,abK⟩:=h0
 subst abH
 subst abI
 unfold aB.pj8 at hp
 unfold aB.j8
 refine lg eI w0 (n:=0) (l:=([]:List Int)) rfl CR.empty rfl λH1 w1 s1 c1=>?_
 obtain ⟨w2,s2⟩:=w1.pp [1,2,0] 3
 exact aB.l509_P F rfl rfl (show 0=List.length ([]:List Int) from rfl) ⟨w2,(s0.trans (s1.trans s2)),(abJ.step (s1.trans s2)),(abK.step (s1.trans s2)),(c1.step s2)⟩ hp
def aB.pl61 (F:Nat) :Nat->List (Int×Int×Int×Int×Int)->Int->List Int->Int->Option (List Int×Int)
 | 0,_,_,_,_=>none
 | k+1,q_,zE,ra,mo=>(bif (decide (mo<(q_.length:Int))) then ((ix q_ mo).bind λn1=>(ix ra ((gt q_ n1).2.1)).bind λn2=>(ix q_ mo).bind λn3=>(ix ra ((gt q_ n3).2.2.2.1)).bind λn4=>aB.pl1963 F (aB.pl61 F k) F q_ zE ra mo (gt ra n2) (gt ra n4) 0) else (aB.pj8 F zE ra))
theorem aB.l61_P  :∀ k,aB.S61 H0 Ri R0  (aB.l61 F   k) (aB.pl61 F  k):=by
 intro k
 induction k with
 | zero=>unfold aB.S61;intros;rename_i hp;cases hp
 | succ k ih=>
  intro Iq Ir DM oy DN Is It q_ zE mo ra Iu H abL abM h0 r hp
  obtain ⟨w0,s0,Eb,Ec⟩:=h0
  subst abL
  subst abM
  unfold aB.pl61 at hp
  unfold aB.l61
  refine lSl w0 0 ?_
  refine aK hp (λhp=>?_) λhp=>?_
  ·refine lSl w0 0 ?_
   obtain ⟨n1,g1,hp⟩:=ah hp
   obtain ⟨p1,q1,i1,h1,j1⟩:=ROs.ixr Eb rfl g1
   refine ar i1 ?_
   obtain ⟨_,_,rfl,rfl,_,_,rfl,rfl,_,_,rfl,rfl,_,_,rfl,rfl,rfl⟩:=h1
   refine ar (bA (j1 1 _ rfl)) ?_
   obtain ⟨n2,g2,hp⟩:=ah hp
   obtain ⟨p2,q2,i2,h2,j2⟩:=W.ixo (E:=eI) w0 (i:=1) rfl rfl Ec g2
   refine ar i2 ?_
   have h2:_=[_]:=h2
   subst h2
   refine ar (bA (j2 0 _ rfl)) ?_
   refine lSl w0 0 ?_
   obtain ⟨n3,g3,hp⟩:=ah hp
   obtain ⟨p3,q3,i3,h3,j3⟩:=ROs.ixr Eb rfl g3
   refine ar i3 ?_
   obtain ⟨_,_,rfl,rfl,_,_,rfl,rfl,_,_,rfl,rfl,_,_,rfl,rfl,rfl⟩:=h3
   refine ar (bA (j3 3 _ rfl)) ?_
   obtain ⟨n4,g4,hp⟩:=ah hp
   obtain ⟨p4,q4,i4,h4,j4⟩:=W.ixo (E:=eI) w0 (i:=1) rfl rfl Ec g4
   refine ar i4 ?_
   have h4:_=[_]:=h4
   subst h4
   refine ar (bA (j4 0 _ rfl)) ?_
   exact aB.l1963_P (@ih) F rfl rfl ⟨w0,s0,Eb,Ec⟩ hp
  ·exact aB.j8_P rfl rfl ⟨w0,s0,Eb,Ec⟩ hp
def aB.pj13 (F:Nat)  (BB:List (Int×Int×Int×Int×Int)) (Ed:Int) (BC:List Int):Option (List Int×Int):=aB.pl61 F F BB Ed BC 0
theorem aB.j13_P   {RW RX:ON} {IZ xr I_:Nat} {RY RZ:Cap} {BB:List (Int×Int×Int×Int×Int)} {Ed:Int} {BC:List Int} {R_:List AV} (abN:IZ=BB.length) (abO:I_=BC.length) (h0:Out H0 Ri H (Rs.blk xr [.sl ⟨RW,IZ,RY⟩,.i Ed]::Rs.own ⟨RX,I_,RZ⟩ eI.z R_::R0) λR=>ROs (ag eI (ag eI (ag eI (ag eI eI)))) H R ⟨RW,IZ,RY⟩ BB/\CR eI H R R_ BC) {r:List Int×Int} (hp:aB.pj13 F  BB Ed BC=some r):Rt (aB.j13 F   xr 0 ⟨RX,I_,RZ⟩ H) (aB.Q H0 Ri R0  r):=by
 obtain ⟨w0,s0,abQ,abR⟩:=h0
 subst abN
 subst abO
 unfold aB.pj13 at hp
 unfold aB.j13
 exact aB.l61_P F rfl rfl ⟨w0,s0,abQ,abR⟩ hp
def aB.pl29 (F:Nat) :Nat->List (Int×Int×Int×Int×Int)->Int->List Int->Int->Option (List Int×Int)
 | 0,_,_,_,_=>none
 | k+1,nY,sL,vJ,mp=>(bif (decide (mp<(IntKind.i64.wrap (2 * (nY.length:Int))))) then ((apn vJ ([mp]:List Int)).bind λl2=>aB.pl29 F k nY sL l2 (IntKind.i64.wrap (mp+1))) else (aB.pj13 F nY sL vJ))
theorem aB.l29_P  :∀ k,aB.S29 H0 Ri R0  (aB.l29 F   k) (aB.pl29 F  k):=by
 intro k
 induction k with
 | zero=>unfold aB.S29;intros;rename_i hp;cases hp
 | succ k ih=>
  intro vE In sK jw DL vF Io nY sL mp vJ Ip H Ih abS h0 r hp
  obtain ⟨w0,s0,Bo,Sa⟩:=h0
  subst Ih
  subst abS
  unfold aB.pl29 at hp
  unfold aB.l29
  refine lSl w0 0 ?_
  refine aK hp (λhp=>?_) λhp=>?_
  ·refine lg eI w0 (n:=1) (l:=([mp]:List Int)) rfl (CR.cons1 rfl CR.empty) rfl λH1 w1 s1 c1=>?_
   refine ar (w1.rowo (i:=0) rfl) ?_
   obtain ⟨l2,e2,hp⟩:=ah hp
   refine qk eI w1 (i:=2) rfl rfl (Sa.step s1) c1 (show 1=List.length ([mp]:List Int) from rfl) rfl e2 λa3 d3 H3 w3 s3 c3 x3=>?_
   obtain ⟨w4,s4⟩:=w3.pp [1,2] 3
   exact ih rfl rfl ⟨w4,(s0.trans (s1.trans (s3.trans s4))),(Bo.step (s1.trans (s3.trans s4))),(c3.step s4)⟩ hp
  ·exact aB.j13_P rfl rfl ⟨w0,s0,Bo,Sa⟩ hp
def aB.p (F:Nat) (ak:List (Int×Int×Int×Int×Int)) (ac:Int):Option (List Int×Int):=aB.pl29 F F ak ac ([]:List Int) 0
theorem aB.P {bE:ON} {aV:Nat} {bF:Cap} {ak:List (Int×Int×Int×Int×Int)} {ac:Int} (cR:aV=ak.length) (h0:Inn H R0 λR=>ROs (ag eI (ag eI (ag eI (ag eI eI)))) H R ⟨bE,aV,bF⟩ ak) {r:List Int×Int} (hp:aB.p F ak ac=some r):Rt (aB.tw F ⟨bE,aV,bF⟩ ac H) (aB.Q H R0 R0  r):=by
 obtain ⟨w0,cE⟩:=h0
 subst cR
 unfold aB.p at hp
 unfold aB.tw aB.twX
 have s0:=w0.rf
 refine bR w0 λH1 w1 s1=>?_
 refine lg eI w1 (n:=0) (l:=([]:List Int)) rfl CR.empty rfl λH2 w2 s2 c2=>?_
 obtain ⟨w3,s3⟩:=w2.pp [1,0] 2
 exact aB.l29_P F rfl (show 0=List.length ([]:List Int) from rfl) ⟨w3,(s0.trans (s1.trans (s2.trans s3))),(cE.step (s1.trans (s2.trans s3))),(c2.step s3)⟩ hp
def gS.Q (H0:Hp) (Ri R0:List Rs)  (r:Int×Int×List Int) (v:AV) (H':Hp):Prop:=∃ o2a:ON,∃ o2n:Nat,∃ o2k:List AV,v=(.agg [(.i r.1),(.i r.2.1),(.sl ⟨o2a,o2n,.ex o2n⟩)])/\o2n=(r.2.2).length/\Out H0 Ri H' (Rs.own ⟨o2a,o2n,.ex o2n⟩ eI.z o2k::R0) λR=>CR eI H' R o2k (r.2.2)
def gS.p (F:Nat) (aa:Int) (ai:Int):Option (Int×Int×List Int):=(mkn (IntKind.i64.wrap (aa * ai)) (0:Int)).bind λl2=>some (aa,ai,l2)
theorem gS.P {aa ai:Int}  (h0:Inn H R0 λR=>True) {r:Int×Int×List Int} (hp:gS.p F aa ai=some r):Rt (gS.tw F aa ai H) (gS.Q H R0 R0  r):=by
 obtain ⟨w0,_⟩:=h0
 unfold gS.p at hp
 unfold gS.tw gS.twX
 have s0:=w0.rf
 refine bR w0 λH1 w1 s1=>?_
 obtain ⟨l2,e2,hp⟩:=ah hp
 refine uX eI (0:Int) w1 rfl rfl rfl e2 λH3 k3 w3 s3 c3=>?_
 refine aJ w3 1 λH4 w4 s4=>?_
 refine aJ w4 1 λH5 w5 s5=>?_
 refine aJ w5 1 λH6 w6 s6=>?_
 refine lI w6 1 ?_
 refine lI w6 1 ?_
 refine lSl w6 1 ?_
 obtain ⟨w7,s7⟩:=w6.pp [0] 2
 exact aO hp ⟨_,_,_,rfl,rfl,w7,(s0.trans (s1.trans (s3.trans (s4.trans (s5.trans (s6.trans s7)))))),(c3.step (s4.trans (s5.trans (s6.trans s7))))⟩
def dQ.Q (H0:Hp) (Ri R0:List Rs)  (r:Int×Int×List Int) (v:AV) (H':Hp):Prop:=∃ o2a:ON,∃ o2n:Nat,∃ o2c:Cap,∃ o2k:List AV,v=(.agg [(.i r.1),(.i r.2.1),(.sl ⟨o2a,o2n,o2c⟩)])/\o2n=(r.2.2).length/\Out H0 Ri H' (Rs.own ⟨o2a,o2n,o2c⟩ eI.z o2k::R0) λR=>CR eI H' R o2k (r.2.2)
def dQ.S61 (H0:Hp) (Ri R0:List Rs)  (C:Nat->Nat->Nat->Nat->Sl->Int->Nat->Nat->Int->Hp->OA) (pC:List (Int×Int×Int×Int×Int)->List Int->Int->Int->Int->List Int->Int->Option (Int×Int×List Int)):Prop:=∀ {vH Ja Jb Jc:ON} {sM ja Ee nB Ef Eg gh:Nat} {vI Jd Je Jf:Cap} {lY:List (Int×Int×Int×Int×Int)} {Be Sb Sd jV vM zF jb:Int} {Jg oY rO:List Int} {Jh Ji Jj:List AV},∀ {H:Hp},sM=lY.length->Ee=Jg.length->Ef=oY.length->Eg=rO.length->(Out H0 Ri H (Rs.blk ja [.sl ⟨vH,sM,vI⟩,.i Be]::Rs.own ⟨Ja,Ee,Jd⟩ eI.z Jh::Rs.blk nB [.i Sb,.i Sd,.sl ⟨Ja,Ee,Jd⟩]::Rs.own ⟨Jb,Ef,Je⟩ eI.z Ji::Rs.own ⟨Jc,Eg,Jf⟩ eI.z Jj::Rs.blk gh [.i vM,.i zF,.sl ⟨Jc,Eg,Jf⟩]::R0) λR=>ROs (ag eI (ag eI (ag eI (ag eI eI)))) H R ⟨vH,sM,vI⟩ lY/\CR eI H R Jh Jg/\CR eI H R Ji oY/\CR eI H R Jj rO)->∀ {r:Int×Int×List Int},pC lY oY jV vM zF rO jb=some r->Rt (C ja 0 nB 0 ⟨Jb,Ef,Je⟩ jV gh 0 jb H) (dQ.Q H0 Ri R0  r)
def dQ.pl61 (F:Nat) :Nat->List (Int×Int×Int×Int×Int)->List Int->Int->Int->Int->List Int->Int->Option (Int×Int×List Int)
 | 0,_,_,_,_,_,_,_=>none
 | k+1,lY,oY,jV,vM,zF,rO,jb=>(bif (decide (jb<vM)) then ((ix lY jb).bind λn1=>(ix oY ((gt lY n1).1)).bind λn8=>(ix oY ((gt lY n1).2.2.1)).bind λn9=>(ix oY ((gt lY n1).2.1)).bind λn10=>(ix rO (IntKind.i64.wrap ((IntKind.i64.wrap (jb * jV))+(gt oY n8)))).bind λn11=>(ix rO (IntKind.i64.wrap ((IntKind.i64.wrap (jb * jV))+(gt oY n8)))).bind λn12=>(some (rO.set n12 (IntKind.i64.wrap ((gt rO n11) - 1)))).bind λl13=>(ix l13 (IntKind.i64.wrap ((IntKind.i64.wrap (jb * jV))+(gt oY n9)))).bind λn15=>(ix l13 (IntKind.i64.wrap ((IntKind.i64.wrap (jb * jV))+(gt oY n9)))).bind λn16=>(some (l13.set n16 (IntKind.i64.wrap ((gt l13 n15) - 1)))).bind λl17=>(ix l17 (IntKind.i64.wrap ((IntKind.i64.wrap (jb * jV))+(gt oY n10)))).bind λn19=>(ix l17 (IntKind.i64.wrap ((IntKind.i64.wrap (jb * jV))+(gt oY n10)))).bind λn20=>(some (l17.set n20 (IntKind.i64.wrap ((gt l17 n19)+2)))).bind λl21=>dQ.pl61 F k lY oY jV vM zF l21 (IntKind.i64.wrap (jb+1))) else (some (vM,zF,rO)))
theorem dQ.l61_P  :∀ k,dQ.S61 H0 Ri R0  (dQ.l61 F (aB.tw F) (gS.tw F)  k) (dQ.pl61 F  k):=by
 intro k
 induction k with
 | zero=>unfold dQ.S61;intros;rename_i hp;cases hp
 | succ k ih=>
  intro vH Ja Jb Jc sM ja Ee nB Ef Eg gh vI Jd Je Jf lY Be Sb Sd jV vM zF jb Jg oY rO Jh Ji Jj H Ie abT abU abV h0 r hp
  obtain ⟨w0,s0,zD,abW,Eh,Ei⟩:=h0
  subst Ie
  subst abT
  subst abU
  subst abV
  unfold dQ.pl61 at hp
  unfold dQ.l61
  refine lI w0 5 ?_
  refine aK hp (λhp=>?_) λhp=>?_
  ·refine lSl w0 0 ?_
   obtain ⟨n1,g1,hp⟩:=ah hp
   obtain ⟨p1,q1,i1,h1,j1⟩:=ROs.ixr zD rfl g1
   refine ar i1 ?_
   obtain ⟨_,_,rfl,rfl,_,_,rfl,rfl,_,_,rfl,rfl,_,_,rfl,rfl,rfl⟩:=h1
   refine ar (bA (j1 0 _ rfl)) ?_
   refine ar (bA (j1 1 _ rfl)) ?_
   refine ar (bA (j1 2 _ rfl)) ?_
   refine ar (bA (j1 3 _ rfl)) ?_
   refine ar (bA (j1 4 _ rfl)) ?_
   refine bR w0 λH2 w2 s2=>?_
   refine aJ w2 0 λH3 w3 s3=>?_
   refine aJ w3 0 λH4 w4 s4=>?_
   refine aJ w4 0 λH5 w5 s5=>?_
   refine aJ w5 0 λH6 w6 s6=>?_
   refine aJ w6 0 λH7 w7 s7=>?_
   refine lI w7 0 ?_
   obtain ⟨n8,g8,hp⟩:=ah hp
   obtain ⟨p8,q8,i8,h8,j8⟩:=W.ixo (E:=eI) w7 (i:=4) rfl rfl (Eh.step (s2.trans (s3.trans (s4.trans (s5.trans (s6.trans s7)))))) g8
   refine ar i8 ?_
   have h8:_=[_]:=h8
   subst h8
   refine ar (bA (j8 0 _ rfl)) ?_
   refine lI w7 0 ?_
   obtain ⟨n9,g9,hp⟩:=ah hp
   obtain ⟨p9,q9,i9,h9,j9⟩:=W.ixo (E:=eI) w7 (i:=4) rfl rfl (Eh.step (s2.trans (s3.trans (s4.trans (s5.trans (s6.trans s7)))))) g9
   refine ar i9 ?_
   have h9:_=[_]:=h9
   subst h9
   refine ar (bA (j9 0 _ rfl)) ?_
   refine lI w7 0 ?_
   obtain ⟨n10,g10,hp⟩:=ah hp
   obtain ⟨p10,q10,i10,h10,j10⟩:=W.ixo (E:=eI) w7 (i:=4) rfl rfl (Eh.step (s2.trans (s3.trans (s4.trans (s5.trans (s6.trans s7)))))) g10
   refine ar i10 ?_
   have h10:_=[_]:=h10
   subst h10
   refine ar (bA (j10 0 _ rfl)) ?_
   refine lSl w7 6 ?_
   refine lSl w7 6 ?_
   obtain ⟨n11,g11,hp⟩:=ah hp
   obtain ⟨p11,q11,i11,h11,j11⟩:=W.ixo (E:=eI) w7 (i:=5) rfl rfl (Ei.step (s2.trans (s3.trans (s4.trans (s5.trans (s6.trans s7)))))) g11
   refine ar i11 ?_
   have h11:_=[_]:=h11
   subst h11
   refine ar (bA (j11 0 _ rfl)) ?_
   obtain ⟨n12,g12,hp⟩:=ah hp
   obtain ⟨p12,q12,i12,h12,j12⟩:=W.ixo (E:=eI) w7 (i:=5) rfl rfl (Ei.step (s2.trans (s3.trans (s4.trans (s5.trans (s6.trans s7)))))) g12
   refine ar i12 ?_
   obtain ⟨l13,e13,hp⟩:=ah hp
   refine gd eI w7 (i:=5) (j:=0) (p:=p12) rfl rfl (Ei.step (s2.trans (s3.trans (s4.trans (s5.trans (s6.trans s7)))))) g12 i12 e13 rfl rfl (λ_ h=>by have h:_=[_]:=h;subst h;exact rfl) λH14 k14 w14 s14 c14=>?_
   refine lSl w14 6 ?_
   refine lSl w14 6 ?_
   obtain ⟨n15,g15,hp⟩:=ah hp
   obtain ⟨p15,q15,i15,h15,j15⟩:=W.ixo (E:=eI) w14 (i:=5) rfl rfl c14 g15
   refine ar i15 ?_
   have h15:_=[_]:=h15
   subst h15
   refine ar (bA (j15 0 _ rfl)) ?_
   obtain ⟨n16,g16,hp⟩:=ah hp
   obtain ⟨p16,q16,i16,h16,j16⟩:=W.ixo (E:=eI) w14 (i:=5) rfl rfl c14 g16
   refine ar i16 ?_
   obtain ⟨l17,e17,hp⟩:=ah hp
   refine gd eI w14 (i:=5) (j:=0) (p:=p16) rfl rfl c14 g16 i16 e17 rfl rfl (λ_ h=>by have h:_=[_]:=h;subst h;exact rfl) λH18 k18 w18 s18 c18=>?_
   refine lSl w18 6 ?_
   refine lSl w18 6 ?_
   obtain ⟨n19,g19,hp⟩:=ah hp
   obtain ⟨p19,q19,i19,h19,j19⟩:=W.ixo (E:=eI) w18 (i:=5) rfl rfl c18 g19
   refine ar i19 ?_
   have h19:_=[_]:=h19
   subst h19
   refine ar (bA (j19 0 _ rfl)) ?_
   obtain ⟨n20,g20,hp⟩:=ah hp
   obtain ⟨p20,q20,i20,h20,j20⟩:=W.ixo (E:=eI) w18 (i:=5) rfl rfl c18 g20
   refine ar i20 ?_
   obtain ⟨l21,e21,hp⟩:=ah hp
   refine gd eI w18 (i:=5) (j:=0) (p:=p20) rfl rfl c18 g20 i20 e21 rfl rfl (λ_ h=>by have h:_=[_]:=h;subst h;exact rfl) λH22 k22 w22 s22 c22=>?_
   obtain ⟨w23,s23⟩:=w22.pp [1,2,3,4,5,6] 7
   dsimp only [pk,pks,nth,List.drop,List.set,List.eraseIdx] at w23 s3 s4 s5 s6 s7 s14 c14 s18 c18 s22 c22 s23
   exact ih rfl rfl rfl (((et e13).symm.trans (et e17).symm).trans (et e21).symm) ⟨w23,(s0.trans (s2.trans (s3.trans (s4.trans (s5.trans (s6.trans (s7.trans (s14.trans (s18.trans (s22.trans s23)))))))))),(zD.step (s2.trans (s3.trans (s4.trans (s5.trans (s6.trans (s7.trans (s14.trans (s18.trans (s22.trans s23)))))))))),(abW.step (s2.trans (s3.trans (s4.trans (s5.trans (s6.trans (s7.trans (s14.trans (s18.trans (s22.trans s23)))))))))),(Eh.step (s2.trans (s3.trans (s4.trans (s5.trans (s6.trans (s7.trans (s14.trans (s18.trans (s22.trans s23)))))))))),(c22.step s23)⟩ hp
  ·refine lI w0 5 ?_
   refine lI w0 5 ?_
   refine lSl w0 5 ?_
   refine aJ w0 2 λH24 w24 s24=>?_
   refine aJ w24 2 λH25 w25 s25=>?_
   refine aJ w25 2 λH26 w26 s26=>?_
   refine lI w26 2 ?_
   refine lI w26 2 ?_
   refine lSl w26 2 ?_
   obtain ⟨w27,s27⟩:=w26.pp [4] 6
   exact aO hp ⟨_,_,_,_,rfl,rfl,w27,(s0.trans (s24.trans (s25.trans (s26.trans s27)))),(Ei.step (s24.trans (s25.trans (s26.trans s27))))⟩
def dQ.p (F:Nat) (ak:List (Int×Int×Int×Int×Int)) (ac:Int):Option (Int×Int×List Int):=(aB.p F ak ac).bind λr3=>(gS.p F (ak.length:Int) r3.2).bind λr5=>dQ.pl61 F F ak r3.1 r3.2 r5.1 r5.2.1 r5.2.2 0
theorem dQ.P {bE:ON} {aV:Nat} {bF:Cap} {ak:List (Int×Int×Int×Int×Int)} {ac:Int} (cR:aV=ak.length) (h0:Inn H R0 λR=>ROs (ag eI (ag eI (ag eI (ag eI eI)))) H R ⟨bE,aV,bF⟩ ak) {r:Int×Int×List Int} (hp:dQ.p F ak ac=some r):Rt (dQ.tw F ⟨bE,aV,bF⟩ ac H) (dQ.Q H R0 R0  r):=by
 obtain ⟨w0,cE⟩:=h0
 subst cR
 unfold dQ.p at hp
 unfold dQ.tw dQ.twX
 have s0:=w0.rf
 refine bR w0 λH1 w1 s1=>?_
 refine bR w1 λH2 w2 s2=>?_
 refine lSl w2 1 ?_
 refine lI w2 1 ?_
 obtain ⟨r3,e3,hp⟩:=ah hp
 refine aM (aB.P rfl ⟨w2,(cE.step (s1.trans s2))⟩ e3) ?_
 rintro _ H4 ⟨o0a_4,o0n_4,o0c_4,o0k_4,rfl,rfl,w4,s4,f4_0⟩
 refine br ?_
 refine br ?_
 refine br ?_
 refine br ?_
 refine br ?_
 refine lSl w4 2 ?_
 obtain ⟨r5,e5,hp⟩:=ah hp
 refine aM (gS.P ⟨w4,trivial⟩ e5) ?_
 rintro _ H6 ⟨o2a_6,o2n_6,o2k_6,rfl,rfl,w6,s6,f6_0⟩
 refine br ?_
 refine br ?_
 refine br ?_
 refine br ?_
 refine br ?_
 refine br ?_
 refine br ?_
 refine bR w6 λH7 w7 s7=>?_
 refine aJ w7 0 λH8 w8 s8=>?_
 refine aJ w8 0 λH9 w9 s9=>?_
 refine aJ w9 0 λH10 w10 s10=>?_
 obtain ⟨w11,s11⟩:=w10.nilS eI.z (by decide)
 obtain ⟨w12,s12⟩:=w11.pp [5,0,4,3,2,1] 6
 exact dQ.l61_P F rfl rfl rfl rfl ⟨w12,(s0.trans (s1.trans (s2.trans (s4.trans (s6.trans (s7.trans (s8.trans (s9.trans (s10.trans (s11.trans s12)))))))))),(cE.step (s1.trans (s2.trans (s4.trans (s6.trans (s7.trans (s8.trans (s9.trans (s10.trans (s11.trans s12)))))))))),((CR.empty:CR eI _ _ [] []).step s12),(f4_0.step (s6.trans (s7.trans (s8.trans (s9.trans (s10.trans (s11.trans s12))))))),(f6_0.step (s7.trans (s8.trans (s9.trans (s10.trans (s11.trans s12))))))⟩ hp
def dK.Q (H0:Hp) (Ri R0:List Rs)  (r:Int×Int×List Int) (v:AV) (H':Hp):Prop:=∃ o2a:ON,∃ o2n:Nat,∃ o2c:Cap,∃ o2k:List AV,v=(.agg [(.i r.1),(.i r.2.1),(.sl ⟨o2a,o2n,o2c⟩)])/\o2n=(r.2.2).length/\Out H0 Ri H' (Rs.own ⟨o2a,o2n,o2c⟩ eI.z o2k::R0) λR=>CR eI H' R o2k (r.2.2)
def dK.S29 (H0:Hp) (Ri R0:List Rs)  (C:Int->Nat->Nat->Nat->Nat->Int->Hp->OA) (pC:Int->Int->Int->List Int->Int->Option (Int×Int×List Int)):Prop:=∀ {nD BD BE qf pA mq:Int} {vN vO:ON} {sT dR sU iq:Nat} {vP vQ:Cap} {vR nZ:List Int} {vS vT:List AV},∀ {H:Hp},sT=vR.length->sU=nZ.length->(Out H0 Ri H (Rs.own ⟨vN,sT,vP⟩ eI.z vS::Rs.blk dR [.i BD,.i BE,.sl ⟨vN,sT,vP⟩]::Rs.own ⟨vO,sU,vQ⟩ eI.z vT::Rs.blk iq [.i qf,.i pA,.sl ⟨vO,sU,vQ⟩]::R0) λR=>CR eI H R vS vR/\CR eI H R vT nZ)->∀ {r:Int×Int×List Int},pC nD qf pA nZ mq=some r->Rt (C nD dR 0 iq 0 mq H) (dK.Q H0 Ri R0  r)
def dK.pl29 (F:Nat) :Nat->Int->Int->Int->List Int->Int->Option (Int×Int×List Int)
 | 0,_,_,_,_,_=>none
 | k+1,nD,qf,pA,nZ,mq=>(bif (decide (mq<nD)) then ((ix nZ (IntKind.i64.wrap ((IntKind.i64.wrap (mq * nD))+mq))).bind λn1=>(some (nZ.set n1 1)).bind λl2=>dK.pl29 F k nD qf pA l2 (IntKind.i64.wrap (mq+1))) else (some (qf,pA,nZ)))
theorem dK.l29_P  :∀ k,dK.S29 H0 Ri R0  (dK.l29 F (gS.tw F)  k) (dK.pl29 F  k):=by
 intro k
 induction k with
 | zero=>unfold dK.S29;intros;rename_i hp;cases hp
 | succ k ih=>
  intro nD BD BE qf pA mq vN vO sT dR sU iq vP vQ vR nZ vS vT H Jk Jl h0 r hp
  obtain ⟨w0,s0,Jm,vU⟩:=h0
  subst Jk
  subst Jl
  unfold dK.pl29 at hp
  unfold dK.l29
  refine aK hp (λhp=>?_) λhp=>?_
  ·refine lSl w0 3 ?_
   obtain ⟨n1,g1,hp⟩:=ah hp
   obtain ⟨p1,q1,i1,h1,j1⟩:=W.ixo (E:=eI) w0 (i:=2) rfl rfl vU g1
   refine ar i1 ?_
   obtain ⟨l2,e2,hp⟩:=ah hp
   refine gd eI w0 (i:=2) (j:=0) (p:=p1) rfl rfl vU g1 i1 e2 rfl rfl (λ_ h=>by have h:_=[_]:=h;subst h;exact rfl) λH3 k3 w3 s3 c3=>?_
   exact ih rfl ((et e2).symm) ⟨w3,(s0.trans s3),(Jm.step s3),c3⟩ hp
  ·refine lI w0 3 ?_
   refine lI w0 3 ?_
   refine lSl w0 3 ?_
   refine aJ w0 1 λH4 w4 s4=>?_
   refine aJ w4 1 λH5 w5 s5=>?_
   refine aJ w5 1 λH6 w6 s6=>?_
   refine lI w6 1 ?_
   refine lI w6 1 ?_
   refine lSl w6 1 ?_
   obtain ⟨w7,s7⟩:=w6.pp [2] 4
   exact aO hp ⟨_,_,_,_,rfl,rfl,w7,(s0.trans (s4.trans (s5.trans (s6.trans s7)))),(vU.step (s4.trans (s5.trans (s6.trans s7))))⟩
def dK.p (F:Nat) (aa:Int):Option (Int×Int×List Int):=(gS.p F aa aa).bind λr2=>dK.pl29 F F aa r2.1 r2.2.1 r2.2.2 0
theorem dK.P {aa:Int}  (h0:Inn H R0 λR=>True) {r:Int×Int×List Int} (hp:dK.p F aa=some r):Rt (dK.tw F aa H) (dK.Q H R0 R0  r):=by
 obtain ⟨w0,_⟩:=h0
 unfold dK.p at hp
 unfold dK.tw dK.twX
 have s0:=w0.rf
 refine bR w0 λH1 w1 s1=>?_
 obtain ⟨r2,e2,hp⟩:=ah hp
 refine aM (gS.P ⟨w1,trivial⟩ e2) ?_
 rintro _ H3 ⟨o2a_3,o2n_3,o2k_3,rfl,rfl,w3,s3,f3_0⟩
 refine br ?_
 refine br ?_
 refine br ?_
 refine br ?_
 refine br ?_
 refine br ?_
 refine br ?_
 refine bR w3 λH4 w4 s4=>?_
 refine aJ w4 0 λH5 w5 s5=>?_
 refine aJ w5 0 λH6 w6 s6=>?_
 refine aJ w6 0 λH7 w7 s7=>?_
 obtain ⟨w8,s8⟩:=w7.nilS eI.z (by decide)
 obtain ⟨w9,s9⟩:=w8.pp [0,3,2,1] 4
 exact dK.l29_P F rfl rfl ⟨w9,(s0.trans (s1.trans (s3.trans (s4.trans (s5.trans (s6.trans (s7.trans (s8.trans s9)))))))),((CR.empty:CR eI _ _ [] []).step s9),(f3_0.step (s4.trans (s5.trans (s6.trans (s7.trans (s8.trans s9))))))⟩ hp
def bB.Q (H0:Hp) (Ri R0:List Rs)  (r:Int) (v:AV) (H':Hp):Prop:=v=(.i r)/\Out H0 Ri H' (R0) λR=>True
def bB.p (F:Nat) (ac:Int) (eu:List Int) (aw:Int) (bS:Int):Option (Int):=(ix eu (IntKind.i64.wrap ((IntKind.i64.wrap (aw * ac))+bS))).bind λn2=>some (gt eu n2)
theorem bB.P {aa ac aw bS:Int} {fo:ON} {eE:Nat} {fp:Cap} {eu:List Int} (lQ:eE=eu.length) (h0:Inn H R0 λR=>ROs eI H R ⟨fo,eE,fp⟩ eu) {r:Int} (hp:bB.p F ac eu aw bS=some r):Rt (bB.tw F aa ac ⟨fo,eE,fp⟩ aw bS H) (bB.Q H R0 R0  r):=by
 obtain ⟨w0,kI⟩:=h0
 subst lQ
 unfold bB.p at hp
 unfold bB.tw bB.twX
 have s0:=w0.rf
 refine bR w0 λH1 w1 s1=>?_
 refine lSl w1 0 ?_
 refine lI w1 0 ?_
 obtain ⟨n2,g2,hp⟩:=ah hp
 obtain ⟨p2,q2,i2,h2,j2⟩:=ROs.ixr (kI.step s1) rfl g2
 refine ar i2 ?_
 have h2:_=[_]:=h2
 subst h2
 refine ar (bA (j2 0 _ rfl)) ?_
 obtain ⟨w3,s3⟩:=w1.pp [] 1
 exact aO hp ⟨rfl,w3,(s0.trans (s1.trans s3)),trivial⟩
def e_.Q (H0:Hp) (Ri R0:List Rs)  (r:Int) (v:AV) (H':Hp):Prop:=v=(.i r)/\Out H0 Ri H' (R0) λR=>True
def e_.p (F:Nat) (aa:Int):Option (Int):=some (if (IntKind.i64.wrap (0 - aa))>aa then (IntKind.i64.wrap (0 - aa)) else aa)
theorem e_.P {aa:Int}  (h0:Inn H R0 λR=>True) {r:Int} (hp:e_.p F aa=some r):Rt (e_.tw F aa H) (e_.Q H R0 R0  r):=by
 obtain ⟨w0,_⟩:=h0
 unfold e_.p at hp
 unfold e_.tw e_.twX
 have s0:=w0.rf
 exact aO hp ⟨rfl,w0,s0,trivial⟩
def da.Q (H0:Hp) (Ri R0:List Rs) (fo:ON) (eE:Nat) (fp:Cap) (kJ:Bool) (kK kL:List AV) (r:List Int) (v:AV) (H':Hp):Prop:=∃ rb:List AV,v=(.tup [])/\eE=(r).length/\Out H0 Ri H' (Rs.ow kJ ⟨fo,eE,fp⟩ eI.z kK rb kL::R0) λR=>CR eI H' R rb (r)
def da.S7 (H0:Hp) (Ri R0:List Rs) (kM:ON) (jG:Nat) (kN:Cap) (mW:Bool) (mX mY:List AV) (C:Int->Int->Nat->Nat->Int->Hp->OA) (pC:Int->Int->Int->List Int->Int->Option (List Int)):Prop:=∀ {eW hQ sV lZ fv:Int} {lR:List Int} {vV:List AV} {dP:Nat},∀ {H:Hp},jG=lR.length->(Out H0 Ri H (Rs.ow mW ⟨kM,jG,kN⟩ eI.z mX vV mY::Rs.blk dP [.i sV,.i lZ,.sl ⟨kM,jG,kN⟩]::R0) λR=>CR eI H R vV lR)->∀ {r:List Int},pC eW hQ lZ lR fv=some r->Rt (C eW hQ dP 0 fv H) (da.Q H0 Ri R0 kM jG kN mW mX mY r)
def da.pl7 (F:Nat) :Nat->Int->Int->Int->List Int->Int->Option (List Int)
 | 0,_,_,_,_,_=>none
 | k+1,eW,hQ,lZ,lR,fv=>(bif (decide (fv<lZ)) then ((bB.p F lZ lR eW fv).bind λr2=>(bB.p F lZ lR hQ fv).bind λr6=>(ix lR (IntKind.i64.wrap ((IntKind.i64.wrap (eW * lZ))+fv))).bind λn10=>(some (lR.set n10 r6)).bind λl11=>(ix l11 (IntKind.i64.wrap ((IntKind.i64.wrap (hQ * lZ))+fv))).bind λn13=>(some (l11.set n13 r2)).bind λl14=>da.pl7 F k eW hQ lZ l14 (IntKind.i64.wrap (fv+1))) else (some lR))
theorem da.l7_P {kM:ON} {jG:Nat} {kN:Cap} {mW:Bool} {mX mY:List AV} :∀ k,da.S7 H0 Ri R0 kM jG kN mW mX mY (da.l7 F (bB.tw F)  k) (da.pl7 F  k):=by
 intro k
 induction k with
 | zero=>unfold da.S7;intros;rename_i hp;cases hp
 | succ k ih=>
  intro eW hQ sV lZ fv lR vV dP H Jn h0 r hp
  obtain ⟨w0,s0,rc⟩:=h0
  subst Jn
  unfold da.pl7 at hp
  unfold da.l7
  refine lI w0 1 ?_
  refine aK hp (λhp=>?_) λhp=>?_
  ·refine lI w0 1 ?_
   refine lI w0 1 ?_
   refine lSl w0 1 ?_
   have f1:=W.borrow1 eI w0 rc
   obtain ⟨w1,s1⟩:=w0.right1
   obtain ⟨r2,e2,hp⟩:=ah hp
   refine aM (bB.P rfl ⟨w1,f1⟩ e2) ?_
   rintro _ H3 ⟨rfl,w3,s3,_⟩
   obtain ⟨w4,s4⟩:=W.frame1 w0 w3 s3
   refine br ?_
   refine lSl w4 1 ?_
   refine lI w4 1 ?_
   refine lI w4 1 ?_
   refine lI w4 1 ?_
   refine lSl w4 1 ?_
   have f5:=W.borrow1 eI w4 (rc.step s4)
   obtain ⟨w5,s5⟩:=w4.right1
   obtain ⟨r6,e6,hp⟩:=ah hp
   refine aM (bB.P rfl ⟨w5,f5⟩ e6) ?_
   rintro _ H7 ⟨rfl,w7,s7,_⟩
   obtain ⟨w8,s8⟩:=W.frame1 w4 w7 s7
   refine br ?_
   refine fJ (W.cons_of (Rn:=[]) w5 w7 s7) ?_
   obtain ⟨n10,g10,hp⟩:=ah hp
   obtain ⟨p10,q10,i10,h10,j10⟩:=W.ixo (E:=eI) w8 (i:=0) rfl rfl (rc.step (s4.trans s8)) g10
   refine ar i10 ?_
   obtain ⟨l11,e11,hp⟩:=ah hp
   refine gd eI w8 (i:=0) (j:=0) (p:=p10) rfl rfl (rc.step (s4.trans s8)) g10 i10 e11 rfl rfl (λ_ h=>by have h:_=[_]:=h;subst h;exact rfl) λH12 k12 w12 s12 c12=>?_
   refine lSl w12 1 ?_
   refine lI w12 1 ?_
   obtain ⟨n13,g13,hp⟩:=ah hp
   obtain ⟨p13,q13,i13,h13,j13⟩:=W.ixo (E:=eI) w12 (i:=0) rfl rfl c12 g13
   refine ar i13 ?_
   obtain ⟨l14,e14,hp⟩:=ah hp
   refine gd eI w12 (i:=0) (j:=0) (p:=p13) rfl rfl c12 g13 i13 e14 rfl rfl (λ_ h=>by have h:_=[_]:=h;subst h;exact rfl) λH15 k15 w15 s15 c15=>?_
   exact ih ((et e11).symm.trans (et e14).symm) ⟨w15,(s0.trans (s4.trans (s8.trans (s12.trans s15)))),c15⟩ hp
  ·obtain ⟨w16,s16⟩:=w0.pp [0] 2
   exact aO hp ⟨_,rfl,rfl,w16,(s0.trans s16),(rc.step s16)⟩
def da.p (F:Nat) (ac:Int) (eu:List Int) (aw:Int) (bS:Int):Option (List Int):=da.pl7 F F aw bS ac eu 0
theorem da.P {aa ac aw bS:Int} {fo:ON} {eE:Nat} {fp:Cap} {eu:List Int} {kJ:Bool} {kK kL oZ:List AV} (lQ:eE=eu.length) (h0:Inn H (Rs.ow kJ ⟨fo,eE,fp⟩ eI.z kK oZ kL::R0) λR=>CR eI H R oZ eu) {r:List Int} (hp:da.p F ac eu aw bS=some r):Rt (da.tw F aa ac ⟨fo,eE,fp⟩ aw bS H) (da.Q H (Rs.ow kJ ⟨fo,eE,fp⟩ eI.z kK oZ kL::R0) R0 fo eE fp kJ kK kL r):=by
 obtain ⟨w0,kI⟩:=h0
 subst lQ
 unfold da.p at hp
 unfold da.tw da.twX
 have s0:=w0.rf
 refine bR w0 λH1 w1 s1=>?_
 obtain ⟨w2,s2⟩:=w1.pp [1,0] 2
 exact da.l7_P F rfl ⟨w2,(s0.trans (s1.trans s2)),(kI.step (s1.trans s2))⟩ hp
def db.Q (H0:Hp) (Ri R0:List Rs) (fo:ON) (eE:Nat) (fp:Cap) (kJ:Bool) (kK kL:List AV) (r:List Int) (v:AV) (H':Hp):Prop:=∃ rb:List AV,v=(.tup [])/\eE=(r).length/\Out H0 Ri H' (Rs.ow kJ ⟨fo,eE,fp⟩ eI.z kK rb kL::R0) λR=>CR eI H' R rb (r)
def db.S7 (H0:Hp) (Ri R0:List Rs) (kM:ON) (jG:Nat) (kN:Cap) (mW:Bool) (mX mY:List AV) (C:Int->Int->Nat->Nat->Int->Hp->OA) (pC:Int->Int->Int->Int->List Int->Int->Option (List Int)):Prop:=∀ {eW hQ sV lZ fv:Int} {lR:List Int} {vV:List AV} {dP:Nat},∀ {H:Hp},jG=lR.length->(Out H0 Ri H (Rs.ow mW ⟨kM,jG,kN⟩ eI.z mX vV mY::Rs.blk dP [.i sV,.i lZ,.sl ⟨kM,jG,kN⟩]::R0) λR=>CR eI H R vV lR)->∀ {r:List Int},pC eW hQ sV lZ lR fv=some r->Rt (C eW hQ dP 0 fv H) (db.Q H0 Ri R0 kM jG kN mW mX mY r)
def db.pl7 (F:Nat) :Nat->Int->Int->Int->Int->List Int->Int->Option (List Int)
 | 0,_,_,_,_,_,_=>none
 | k+1,eW,hQ,sV,lZ,lR,fv=>(bif (decide (fv<sV)) then ((bB.p F lZ lR fv eW).bind λr2=>(bB.p F lZ lR fv hQ).bind λr6=>(ix lR (IntKind.i64.wrap ((IntKind.i64.wrap (fv * lZ))+eW))).bind λn10=>(some (lR.set n10 r6)).bind λl11=>(ix l11 (IntKind.i64.wrap ((IntKind.i64.wrap (fv * lZ))+hQ))).bind λn13=>(some (l11.set n13 r2)).bind λl14=>db.pl7 F k eW hQ sV lZ l14 (IntKind.i64.wrap (fv+1))) else (some lR))
theorem db.l7_P {kM:ON} {jG:Nat} {kN:Cap} {mW:Bool} {mX mY:List AV} :∀ k,db.S7 H0 Ri R0 kM jG kN mW mX mY (db.l7 F (bB.tw F)  k) (db.pl7 F  k):=by
 intro k
 induction k with
 | zero=>unfold db.S7;intros;rename_i hp;cases hp
 | succ k ih=>
  intro eW hQ sV lZ fv lR vV dP H Jn h0 r hp
  obtain ⟨w0,s0,rc⟩:=h0
  subst Jn
  unfold db.pl7 at hp
  unfold db.l7
  refine lI w0 1 ?_
  refine aK hp (λhp=>?_) λhp=>?_
  ·refine lI w0 1 ?_
   refine lI w0 1 ?_
   refine lSl w0 1 ?_
   have f1:=W.borrow1 eI w0 rc
   obtain ⟨w1,s1⟩:=w0.right1
   obtain ⟨r2,e2,hp⟩:=ah hp
   refine aM (bB.P rfl ⟨w1,f1⟩ e2) ?_
   rintro _ H3 ⟨rfl,w3,s3,_⟩
   obtain ⟨w4,s4⟩:=W.frame1 w0 w3 s3
   refine br ?_
   refine lSl w4 1 ?_
   refine lI w4 1 ?_
   refine lI w4 1 ?_
   refine lI w4 1 ?_
   refine lSl w4 1 ?_
   have f5:=W.borrow1 eI w4 (rc.step s4)
   obtain ⟨w5,s5⟩:=w4.right1
   obtain ⟨r6,e6,hp⟩:=ah hp
   refine aM (bB.P rfl ⟨w5,f5⟩ e6) ?_
   rintro _ H7 ⟨rfl,w7,s7,_⟩
   obtain ⟨w8,s8⟩:=W.frame1 w4 w7 s7
   refine br ?_
   refine fJ (W.cons_of (Rn:=[]) w5 w7 s7) ?_
   obtain ⟨n10,g10,hp⟩:=ah hp
   obtain ⟨p10,q10,i10,h10,j10⟩:=W.ixo (E:=eI) w8 (i:=0) rfl rfl (rc.step (s4.trans s8)) g10
   refine ar i10 ?_
   obtain ⟨l11,e11,hp⟩:=ah hp
   refine gd eI w8 (i:=0) (j:=0) (p:=p10) rfl rfl (rc.step (s4.trans s8)) g10 i10 e11 rfl rfl (λ_ h=>by have h:_=[_]:=h;subst h;exact rfl) λH12 k12 w12 s12 c12=>?_
   refine lSl w12 1 ?_
   refine lI w12 1 ?_
   obtain ⟨n13,g13,hp⟩:=ah hp
   obtain ⟨p13,q13,i13,h13,j13⟩:=W.ixo (E:=eI) w12 (i:=0) rfl rfl c12 g13
   refine ar i13 ?_
   obtain ⟨l14,e14,hp⟩:=ah hp
   refine gd eI w12 (i:=0) (j:=0) (p:=p13) rfl rfl c12 g13 i13 e14 rfl rfl (λ_ h=>by have h:_=[_]:=h;subst h;exact rfl) λH15 k15 w15 s15 c15=>?_
   exact ih ((et e11).symm.trans (et e14).symm) ⟨w15,(s0.trans (s4.trans (s8.trans (s12.trans s15)))),c15⟩ hp
  ·obtain ⟨w16,s16⟩:=w0.pp [0] 2
   exact aO hp ⟨_,rfl,rfl,w16,(s0.trans s16),(rc.step s16)⟩
def db.p (F:Nat) (aa:Int) (ac:Int) (eu:List Int) (aw:Int) (bS:Int):Option (List Int):=db.pl7 F F aw bS aa ac eu 0
theorem db.P {aa ac aw bS:Int} {fo:ON} {eE:Nat} {fp:Cap} {eu:List Int} {kJ:Bool} {kK kL oZ:List AV} (lQ:eE=eu.length) (h0:Inn H (Rs.ow kJ ⟨fo,eE,fp⟩ eI.z kK oZ kL::R0) λR=>CR eI H R oZ eu) {r:List Int} (hp:db.p F aa ac eu aw bS=some r):Rt (db.tw F aa ac ⟨fo,eE,fp⟩ aw bS H) (db.Q H (Rs.ow kJ ⟨fo,eE,fp⟩ eI.z kK oZ kL::R0) R0 fo eE fp kJ kK kL r):=by
 obtain ⟨w0,kI⟩:=h0
 subst lQ
 unfold db.p at hp
 unfold db.tw db.twX
 have s0:=w0.rf
 refine bR w0 λH1 w1 s1=>?_
 obtain ⟨w2,s2⟩:=w1.pp [1,0] 2
 exact db.l7_P F rfl ⟨w2,(s0.trans (s1.trans s2)),(kI.step (s1.trans s2))⟩ hp
def aE.Q (H0:Hp) (Ri R0:List Rs) (bG bi bI bu bj bf bv bw bU bz:Int) (cS eJ cH eK eL:ON) (cb dC bX dD dE aa:Nat) (cT eM cI eN eO:Cap) (el:List Int) (fx gn fy gp gq aD:Bool) (fz fA gr gu fB fC gv gw gy gz:List AV) (r:Bool×List Int×List Int×List Int×List Int×List Int) (v:AV) (H':Hp):Prop:=∃ kO:List AV,∃ l_:List AV,∃ kP:List AV,∃ ma:List AV,∃ mb:List AV,v=(.bool r.1)/\cb=(r.2.1).length/\dC=(r.2.2.1).length/\bX=(r.2.2.2.1).length/\dD=(r.2.2.2.2.1).length/\dE=(r.2.2.2.2.2).length/\Out H0 Ri H' (Rs.ow fx ⟨cS,cb,cT⟩ eI.z fz kO fA::Rs.ow gn ⟨eJ,dC,eM⟩ eI.z gr l_ gu::Rs.ow fy ⟨cH,bX,cI⟩ eI.z fB kP fC::Rs.ow gp ⟨eK,dD,eN⟩ eI.z gv ma gw::Rs.ow gq ⟨eL,dE,eO⟩ eI.z gy mb gz::Rs.blk aa [.i bG,.i bi,.sl ⟨cS,cb,cT⟩,.i bI,.i bu,.sl ⟨eJ,dC,eM⟩,.i bj,.i bf,.sl ⟨cH,bX,cI⟩,.i bv,.i bw,.sl ⟨eK,dD,eN⟩,.i bU,.i bz,.sl ⟨eL,dE,eO⟩,.bool aD]::R0) λR=>CR eI H' R kO (r.2.1)/\CR eI H' R l_ (r.2.2.1)/\CR eI H' R kP (r.2.2.2.1)/\CR eI H' R ma (r.2.2.2.2.1)/\CR eI H' R mb (r.2.2.2.2.2)
def aE.S29 (H0:Hp) (Ri R0:List Rs) (aC aq aG av ax au ay az aN aA:Int) (a_ bL aS bM bN:ON) (aL bk aH bl bm aF:Nat) (ba bO aT bP bQ:Cap) (cF:List Int) (ch ci cj ck cl bV:Bool) (cn co cp cq ct cu cv cw cz cA:List AV) (C:Nat->Nat->Int->Int->Int->Int->Hp->OA) (pC:Int->Int->List Int->Int->List Int->Int->Int->List Int->Int->Int->List Int->Int->List Int->Int->Int->Int->Int->Option (Bool×List Int×List Int×List Int×List Int×List Int)):Prop:=∀ {aQ aU aR aX aY:List Int} {df dg dh di dj:List AV} {fd fk oz oA:Int},∀ {H:Hp},aL=aQ.length->bk=aU.length->aH=aR.length->bl=aX.length->bm=aY.length->(Out H0 Ri H (Rs.ow ch ⟨a_,aL,ba⟩ eI.z cn df co::Rs.ow ci ⟨bL,bk,bO⟩ eI.z cp dg cq::Rs.ow cj ⟨aS,aH,aT⟩ eI.z ct dh cu::Rs.ow ck ⟨bM,bl,bP⟩ eI.z cv di cw::Rs.ow cl ⟨bN,bm,bQ⟩ eI.z cz dj cA::Rs.blk aF [.i aC,.i aq,.sl ⟨a_,aL,ba⟩,.i aG,.i av,.sl ⟨bL,bk,bO⟩,.i ax,.i au,.sl ⟨aS,aH,aT⟩,.i ay,.i az,.sl ⟨bM,bl,bP⟩,.i aN,.i aA,.sl ⟨bN,bm,bQ⟩,.bool bV]::R0) λR=>CR eI H R df aQ/\CR eI H R dg aU/\CR eI H R dh aR/\CR eI H R di aX/\CR eI H R dj aY)->∀ {r:Bool×List Int×List Int×List Int×List Int×List Int},pC aC aq aQ av aU ax au aR ay az aX aA aY fd fk oz oA=some r->Rt (C aF 0 fd fk oz oA H) (aE.Q H0 Ri R0 aC aq aG av ax au ay az aN aA a_ bL aS bM bN aL bk aH bl bm aF ba bO aT bP bQ cF ch ci cj ck cl bV cn co cp cq ct cu cv cw cz cA r)
def aE.S469 (H0:Hp) (Ri R0:List Rs) (aC aq aG av ax au ay az aN aA:Int) (a_ bL aS bM bN:ON) (aL bk aH bl bm aF:Nat) (ba bO aT bP bQ:Cap) (cF:List Int) (ch ci cj ck cl bV:Bool) (cn co cp cq ct cu cv cw cz cA:List AV) (C:Nat->Nat->Int->Int->Int->Int->Int->Hp->OA) (pC:Int->Int->List Int->Int->List Int->Int->Int->List Int->Int->Int->List Int->Int->List Int->Int->Int->Int->Int->Int->Option (Bool×List Int×List Int×List Int×List Int×List Int)):Prop:=∀ {aQ aU aR aX aY:List Int} {df dg dh di dj:List AV} {lA lC mu jy jz:Int},∀ {H:Hp},aL=aQ.length->bk=aU.length->aH=aR.length->bl=aX.length->bm=aY.length->(Out H0 Ri H (Rs.ow ch ⟨a_,aL,ba⟩ eI.z cn df co::Rs.ow ci ⟨bL,bk,bO⟩ eI.z cp dg cq::Rs.ow cj ⟨aS,aH,aT⟩ eI.z ct dh cu::Rs.ow ck ⟨bM,bl,bP⟩ eI.z cv di cw::Rs.ow cl ⟨bN,bm,bQ⟩ eI.z cz dj cA::Rs.blk aF [.i aC,.i aq,.sl ⟨a_,aL,ba⟩,.i aG,.i av,.sl ⟨bL,bk,bO⟩,.i ax,.i au,.sl ⟨aS,aH,aT⟩,.i ay,.i az,.sl ⟨bM,bl,bP⟩,.i aN,.i aA,.sl ⟨bN,bm,bQ⟩,.bool bV]::R0) λR=>CR eI H R df aQ/\CR eI H R dg aU/\CR eI H R dh aR/\CR eI H R di aX/\CR eI H R dj aY)->∀ {r:Bool×List Int×List Int×List Int×List Int×List Int},pC aC aq aQ av aU ax au aR ay az aX aA aY lA lC mu jy jz=some r->Rt (C aF 0 lA lC mu jy jz H) (aE.Q H0 Ri R0 aC aq aG av ax au ay az aN aA a_ bL aS bM bN aL bk aH bl bm aF ba bO aT bP bQ cF ch ci cj ck cl bV cn co cp cq ct cu cv cw cz cA r)
def aE.pj10 (F:Nat) (sW:Int->Int->List Int->Int->List Int->Int->Int->List Int->Int->Int->List Int->Int->List Int->Int->Int->Int->Int->Int->Option (Bool×List Int×List Int×List Int×List Int×List Int)) (aC:Int) (aq:Int) (aQ:List Int) (av:Int) (aU:List Int) (ax:Int) (au:Int) (aR:List Int) (ay:Int) (az:Int) (aX:List Int) (aA:Int) (aY:List Int) (xQ:Int) (xR:Int) (xS:Int) (xT:Int) (xU:Int):Option (Bool×List Int×List Int×List Int×List Int×List Int):=sW aC aq aQ av aU ax au aR ay az aX aA aY xQ xR xS xT (IntKind.i64.wrap (xU+1))
theorem aE.j10_P {aC aq aG av ax au ay az aN aA:Int} {a_ bL aS bM bN:ON} {aL bk aH bl bm aF:Nat} {ba bO aT bP bQ:Cap} {cF:List Int} {ch ci cj ck cl bV:Bool} {cn co cp cq ct cu cv cw cz cA:List AV} {C469_:Nat->Nat->Int->Int->Int->Int->Int->Hp->OA} {sW:Int->Int->List Int->Int->List Int->Int->Int->List Int->Int->Int->List Int->Int->List Int->Int->Int->Int->Int->Int->Option (Bool×List Int×List Int×List Int×List Int×List Int)} (hC469:aE.S469 H0 Ri R0 aC aq aG av ax au ay az aN aA a_ bL aS bM bN aL bk aH bl bm aF ba bO aT bP bQ cF ch ci cj ck cl bV cn co cp cq ct cu cv cw cz cA C469_ sW) {aQ aU aR aX aY:List Int} {df dg dh di dj:List AV} {xQ xR xS xT xU:Int} (fD:aL=aQ.length) (fE:bk=aU.length) (fF:aH=aR.length) (fG:bl=aX.length) (fH:bm=aY.length) (h0:Out H0 Ri H (Rs.ow ch ⟨a_,aL,ba⟩ eI.z cn df co::Rs.ow ci ⟨bL,bk,bO⟩ eI.z cp dg cq::Rs.ow cj ⟨aS,aH,aT⟩ eI.z ct dh cu::Rs.ow ck ⟨bM,bl,bP⟩ eI.z cv di cw::Rs.ow cl ⟨bN,bm,bQ⟩ eI.z cz dj cA::Rs.blk aF [.i aC,.i aq,.sl ⟨a_,aL,ba⟩,.i aG,.i av,.sl ⟨bL,bk,bO⟩,.i ax,.i au,.sl ⟨aS,aH,aT⟩,.i ay,.i az,.sl ⟨bM,bl,bP⟩,.i aN,.i aA,.sl ⟨bN,bm,bQ⟩,.bool bV]::R0) λR=>CR eI H R df aQ/\CR eI H R dg aU/\CR eI H R dh aR/\CR eI H R di aX/\CR eI H R dj aY) {r:Bool×List Int×List Int×List Int×List Int×List Int} (hp:aE.pj10 F sW aC aq aQ av aU ax au aR ay az aX aA aY xQ xR xS xT xU=some r):Rt (aE.j10 F (bB.tw F) (e_.tw F) (da.tw F) (db.tw F) C469_ aF 0 xQ xR xS xT xU H) (aE.Q H0 Ri R0 aC aq aG av ax au ay az aN aA a_ bL aS bM bN aL bk aH bl bm aF ba bO aT bP bQ cF ch ci cj ck cl bV cn co cp cq ct cu cv cw cz cA r):=by
 obtain ⟨w0,s0,dk,dJ,dy,dX,dY⟩:=h0
 subst fD
 subst fE
 subst fF
 subst fG
 subst fH
 unfold aE.pj10 at hp
 unfold aE.j10
 exact hC469 rfl rfl rfl rfl rfl ⟨w0,s0,dk,dJ,dy,dX,dY⟩ hp
def aE.pj8 (F:Nat) (eZ:Int->Int->List Int->Int->List Int->Int->Int->List Int->Int->Int->List Int->Int->List Int->Int->Int->Int->Int->Option (Bool×List Int×List Int×List Int×List Int×List Int)) (aC:Int) (aq:Int) (aQ:List Int) (av:Int) (aU:List Int) (ax:Int) (au:Int) (aR:List Int) (ay:Int) (az:Int) (aX:List Int) (aA:Int) (aY:List Int) (xI:Int) (xJ:Int) (xK:Int) (xL:Int):Option (Bool×List Int×List Int×List Int×List Int×List Int):=eZ aC aq aQ av aU ax au aR ay az aX aA aY xI xJ xK (IntKind.i64.wrap (xL+1))
theorem aE.j8_P {aC aq aG av ax au ay az aN aA:Int} {a_ bL aS bM bN:ON} {aL bk aH bl bm aF:Nat} {ba bO aT bP bQ:Cap} {cF:List Int} {ch ci cj ck cl bV:Bool} {cn co cp cq ct cu cv cw cz cA:List AV} {C29_:Nat->Nat->Int->Int->Int->Int->Hp->OA} {eZ:Int->Int->List Int->Int->List Int->Int->Int->List Int->Int->Int->List Int->Int->List Int->Int->Int->Int->Int->Option (Bool×List Int×List Int×List Int×List Int×List Int)} (hC29:aE.S29 H0 Ri R0 aC aq aG av ax au ay az aN aA a_ bL aS bM bN aL bk aH bl bm aF ba bO aT bP bQ cF ch ci cj ck cl bV cn co cp cq ct cu cv cw cz cA C29_ eZ) {aQ aU aR aX aY:List Int} {df dg dh di dj:List AV} {xI xJ xK xL:Int} (fD:aL=aQ.length) (fE:bk=aU.length) (fF:aH=aR.length) (fG:bl=aX.length) (fH:bm=aY.length) (h0:Out H0 Ri H (Rs.ow ch ⟨a_,aL,ba⟩ eI.z cn df co::Rs.ow ci ⟨bL,bk,bO⟩ eI.z cp dg cq::Rs.ow cj ⟨aS,aH,aT⟩ eI.z ct dh cu::Rs.ow ck ⟨bM,bl,bP⟩ eI.z cv di cw::Rs.ow cl ⟨bN,bm,bQ⟩ eI.z cz dj cA::Rs.blk aF [.i aC,.i aq,.sl ⟨a_,aL,ba⟩,.i aG,.i av,.sl ⟨bL,bk,bO⟩,.i ax,.i au,.sl ⟨aS,aH,aT⟩,.i ay,.i az,.sl ⟨bM,bl,bP⟩,.i aN,.i aA,.sl ⟨bN,bm,bQ⟩,.bool bV]::R0) λR=>CR eI H R df aQ/\CR eI H R dg aU/\CR eI H R dh aR/\CR eI H R di aX/\CR eI H R dj aY) {r:Bool×List Int×List Int×List Int×List Int×List Int} (hp:aE.pj8 F eZ aC aq aQ av aU ax au aR ay az aX aA aY xI xJ xK xL=some r):Rt (aE.j8 F (bB.tw F) (e_.tw F) (da.tw F) (db.tw F) C29_ aF 0 xI xJ xK xL H) (aE.Q H0 Ri R0 aC aq aG av ax au ay az aN aA a_ bL aS bM bN aL bk aH bl bm aF ba bO aT bP bQ cF ch ci cj ck cl bV cn co cp cq ct cu cv cw cz cA r):=by
 obtain ⟨w0,s0,dk,dJ,dy,dX,dY⟩:=h0
 subst fD
 subst fE
 subst fF
 subst fG
 subst fH
 unfold aE.pj8 at hp
 unfold aE.j8
 exact hC29 rfl rfl rfl rfl rfl ⟨w0,s0,dk,dJ,dy,dX,dY⟩ hp
def aE.pj9 (F:Nat) (eZ:Int->Int->List Int->Int->List Int->Int->Int->List Int->Int->Int->List Int->Int->List Int->Int->Int->Int->Int->Option (Bool×List Int×List Int×List Int×List Int×List Int)) (aC:Int) (aq:Int) (aQ:List Int) (av:Int) (aU:List Int) (ax:Int) (au:Int) (aR:List Int) (ay:Int) (az:Int) (aX:List Int) (aA:Int) (aY:List Int) (xM:Int) (xN:Int) (xO:Int) (xP:Int):Option (Bool×List Int×List Int×List Int×List Int×List Int):=aE.pj8 F eZ aC aq aQ av aU ax au aR ay az aX aA aY xM xN xO xP
theorem aE.j9_P {aC aq aG av ax au ay az aN aA:Int} {a_ bL aS bM bN:ON} {aL bk aH bl bm aF:Nat} {ba bO aT bP bQ:Cap} {cF:List Int} {ch ci cj ck cl bV:Bool} {cn co cp cq ct cu cv cw cz cA:List AV} {C29_:Nat->Nat->Int->Int->Int->Int->Hp->OA} {eZ:Int->Int->List Int->Int->List Int->Int->Int->List Int->Int->Int->List Int->Int->List Int->Int->Int->Int->Int->Option (Bool×List Int×List Int×List Int×List Int×List Int)} (hC29:aE.S29 H0 Ri R0 aC aq aG av ax au ay az aN aA a_ bL aS bM bN aL bk aH bl bm aF ba bO aT bP bQ cF ch ci cj ck cl bV cn co cp cq ct cu cv cw cz cA C29_ eZ) {aQ aU aR aX aY:List Int} {df dg dh di dj:List AV} {xM xN xO xP:Int} (fD:aL=aQ.length) (fE:bk=aU.length) (fF:aH=aR.length) (fG:bl=aX.length) (fH:bm=aY.length) (h0:Out H0 Ri H (Rs.ow ch ⟨a_,aL,ba⟩ eI.z cn df co::Rs.ow ci ⟨bL,bk,bO⟩ eI.z cp dg cq::Rs.ow cj ⟨aS,aH,aT⟩ eI.z ct dh cu::Rs.ow ck ⟨bM,bl,bP⟩ eI.z cv di cw::Rs.ow cl ⟨bN,bm,bQ⟩ eI.z cz dj cA::Rs.blk aF [.i aC,.i aq,.sl ⟨a_,aL,ba⟩,.i aG,.i av,.sl ⟨bL,bk,bO⟩,.i ax,.i au,.sl ⟨aS,aH,aT⟩,.i ay,.i az,.sl ⟨bM,bl,bP⟩,.i aN,.i aA,.sl ⟨bN,bm,bQ⟩,.bool bV]::R0) λR=>CR eI H R df aQ/\CR eI H R dg aU/\CR eI H R dh aR/\CR eI H R di aX/\CR eI H R dj aY) {r:Bool×List Int×List Int×List Int×List Int×List Int} (hp:aE.pj9 F eZ aC aq aQ av aU ax au aR ay az aX aA aY xM xN xO xP=some r):Rt (aE.j9 F (bB.tw F) (e_.tw F) (da.tw F) (db.tw F) C29_ aF 0 xM xN xO xP H) (aE.Q H0 Ri R0 aC aq aG av ax au ay az aN aA a_ bL aS bM bN aL bk aH bl bm aF ba bO aT bP bQ cF ch ci cj ck cl bV cn co cp cq ct cu cv cw cz cA r):=by
 obtain ⟨w0,s0,dk,dJ,dy,dX,dY⟩:=h0
 subst fD
 subst fE
 subst fF
 subst fG
 subst fH
 unfold aE.pj9 at hp
 unfold aE.j9
 exact aE.j8_P (@hC29) rfl rfl rfl rfl rfl ⟨w0,s0,dk,dJ,dy,dX,dY⟩ hp
def aE.pl469 (F:Nat) (eZ:Int->Int->List Int->Int->List Int->Int->Int->List Int->Int->Int->List Int->Int->List Int->Int->Int->Int->Int->Option (Bool×List Int×List Int×List Int×List Int×List Int)):Nat->Int->Int->List Int->Int->List Int->Int->Int->List Int->Int->Int->List Int->Int->List Int->Int->Int->Int->Int->Int->Option (Bool×List Int×List Int×List Int×List Int×List Int)
 | 0,_,_,_,_,_,_,_,_,_,_,_,_,_,_,_,_,_,_=>none
 | k+1,aC,aq,aQ,av,aU,ax,au,aR,ay,az,aX,aA,aY,lA,lC,mu,jy,jz=>(bif (decide (jz<aq)) then ((bB.p F aq aQ jy jz).bind λr2=>(e_.p F r2).bind λr5=>(bif (decide (r5>0)) then ((bif (decide (lC<0)) then (aE.pl469 F eZ k aC aq aQ av aU ax au aR ay az aX aA aY lA jy jz jy (IntKind.i64.wrap (jz+1))) else ((bB.p F aq aQ lC mu).bind λr8=>(e_.p F r8).bind λr11=>(bif (decide (r5<r11)) then (aE.pj10 F (aE.pl469 F eZ k) aC aq aQ av aU ax au aR ay az aX aA aY lA jy jz jy jz) else (aE.pj10 F (aE.pl469 F eZ k) aC aq aQ av aU ax au aR ay az aX aA aY lA lC mu jy jz))))) else (aE.pl469 F eZ k aC aq aQ av aU ax au aR ay az aX aA aY lA lC mu jy (IntKind.i64.wrap (jz+1))))) else (aE.pj9 F eZ aC aq aQ av aU ax au aR ay az aX aA aY lA lC mu jy))
theorem aE.l469_P {aC aq aG av ax au ay az aN aA:Int} {a_ bL aS bM bN:ON} {aL bk aH bl bm aF:Nat} {ba bO aT bP bQ:Cap} {cF:List Int} {ch ci cj ck cl bV:Bool} {cn co cp cq ct cu cv cw cz cA:List AV} {C29_:Nat->Nat->Int->Int->Int->Int->Hp->OA} {eZ:Int->Int->List Int->Int->List Int->Int->Int->List Int->Int->Int->List Int->Int->List Int->Int->Int->Int->Int->Option (Bool×List Int×List Int×List Int×List Int×List Int)} (hC29:aE.S29 H0 Ri R0 aC aq aG av ax au ay az aN aA a_ bL aS bM bN aL bk aH bl bm aF ba bO aT bP bQ cF ch ci cj ck cl bV cn co cp cq ct cu cv cw cz cA C29_ eZ):∀ k,aE.S469 H0 Ri R0 aC aq aG av ax au ay az aN aA a_ bL aS bM bN aL bk aH bl bm aF ba bO aT bP bQ cF ch ci cj ck cl bV cn co cp cq ct cu cv cw cz cA (aE.l469 F (bB.tw F) (e_.tw F) (da.tw F) (db.tw F) C29_ k) (aE.pl469 F eZ k):=by
 intro k
 induction k with
 | zero=>unfold aE.S469;intros;rename_i hp;cases hp
 | succ k ih=>
  intro aQ aU aR aX aY df dg dh di dj lA lC mu jy jz H fD fE fF fG fH h0 r hp
  obtain ⟨w0,s0,dk,dJ,dy,dX,dY⟩:=h0
  subst fD
  subst fE
  subst fF
  subst fG
  subst fH
  unfold aE.pl469 at hp
  unfold aE.l469
  refine lI w0 5 ?_
  refine aK hp (λhp=>?_) λhp=>?_
  ·refine lI w0 5 ?_
   refine lI w0 5 ?_
   refine lSl w0 5 ?_
   have f1:=W.borrow1 eI w0 dk
   obtain ⟨w1,s1⟩:=w0.right1
   obtain ⟨r2,e2,hp⟩:=ah hp
   refine aM (bB.P rfl ⟨w1,f1⟩ e2) ?_
   rintro _ H3 ⟨rfl,w3,s3,_⟩
   obtain ⟨w4,s4⟩:=W.frame1 w0 w3 s3
   refine br ?_
   obtain ⟨r5,e5,hp⟩:=ah hp
   refine aM (e_.P ⟨w4,trivial⟩ e5) ?_
   rintro _ H6 ⟨rfl,w6,s6,_⟩
   refine br ?_
   refine aK hp (λhp=>?_) λhp=>?_
   ·refine aK hp (λhp=>?_) λhp=>?_
    ·exact ih rfl rfl rfl rfl rfl ⟨w6,(s0.trans (s4.trans s6)),(dk.step (s4.trans s6)),(dJ.step (s4.trans s6)),(dy.step (s4.trans s6)),(dX.step (s4.trans s6)),(dY.step (s4.trans s6))⟩ hp
    ·refine lI w6 5 ?_
     refine lI w6 5 ?_
     refine lSl w6 5 ?_
     have f7:=W.borrow1 eI w6 (dk.step (s4.trans s6))
     obtain ⟨w7,s7⟩:=w6.right1
     obtain ⟨r8,e8,hp⟩:=ah hp
     refine aM (bB.P rfl ⟨w7,f7⟩ e8) ?_
     rintro _ H9 ⟨rfl,w9,s9,_⟩
     obtain ⟨w10,s10⟩:=W.frame1 w6 w9 s9
     refine br ?_
     obtain ⟨r11,e11,hp⟩:=ah hp
     refine aM (e_.P ⟨w10,trivial⟩ e11) ?_
     rintro _ H12 ⟨rfl,w12,s12,_⟩
     refine br ?_
     refine aK hp (λhp=>?_) λhp=>?_
     ·exact aE.j10_P (@ih) rfl rfl rfl rfl rfl ⟨w12,(s0.trans (s4.trans (s6.trans (s10.trans s12)))),(dk.step (s4.trans (s6.trans (s10.trans s12)))),(dJ.step (s4.trans (s6.trans (s10.trans s12)))),(dy.step (s4.trans (s6.trans (s10.trans s12)))),(dX.step (s4.trans (s6.trans (s10.trans s12)))),(dY.step (s4.trans (s6.trans (s10.trans s12))))⟩ hp
     ·exact aE.j10_P (@ih) rfl rfl rfl rfl rfl ⟨w12,(s0.trans (s4.trans (s6.trans (s10.trans s12)))),(dk.step (s4.trans (s6.trans (s10.trans s12)))),(dJ.step (s4.trans (s6.trans (s10.trans s12)))),(dy.step (s4.trans (s6.trans (s10.trans s12)))),(dX.step (s4.trans (s6.trans (s10.trans s12)))),(dY.step (s4.trans (s6.trans (s10.trans s12))))⟩ hp
   ·exact ih rfl rfl rfl rfl rfl ⟨w6,(s0.trans (s4.trans s6)),(dk.step (s4.trans s6)),(dJ.step (s4.trans s6)),(dy.step (s4.trans s6)),(dX.step (s4.trans s6)),(dY.step (s4.trans s6))⟩ hp
  ·exact aE.j9_P (@hC29) rfl rfl rfl rfl rfl ⟨w0,s0,dk,dJ,dy,dX,dY⟩ hp
def aE.S65513 (H0:Hp) (Ri R0:List Rs) (aC aq aG av ax au ay az aN aA:Int) (a_ bL aS bM bN:ON) (aL bk aH bl bm aF:Nat) (ba bO aT bP bQ:Cap) (cF:List Int) (ch ci cj ck cl bV:Bool) (cn co cp cq ct cu cv cw cz cA:List AV) (C:Nat->Nat->Int->Int->Hp->OA) (pC:Int->List Int->Int->List Int->Int->List Int->List Int->List Int->Int->Int->Option (Bool×List Int×List Int×List Int×List Int×List Int)):Prop:=∀ {aQ aU aR aX aY:List Int} {df dg dh di dj:List AV} {mr ms:Int},∀ {H:Hp},aL=aQ.length->bk=aU.length->aH=aR.length->bl=aX.length->bm=aY.length->(Out H0 Ri H (Rs.ow ch ⟨a_,aL,ba⟩ eI.z cn df co::Rs.ow ci ⟨bL,bk,bO⟩ eI.z cp dg cq::Rs.ow cj ⟨aS,aH,aT⟩ eI.z ct dh cu::Rs.ow ck ⟨bM,bl,bP⟩ eI.z cv di cw::Rs.ow cl ⟨bN,bm,bQ⟩ eI.z cz dj cA::Rs.blk aF [.i aC,.i aq,.sl ⟨a_,aL,ba⟩,.i aG,.i av,.sl ⟨bL,bk,bO⟩,.i ax,.i au,.sl ⟨aS,aH,aT⟩,.i ay,.i az,.sl ⟨bM,bl,bP⟩,.i aN,.i aA,.sl ⟨bN,bm,bQ⟩,.bool bV]::R0) λR=>CR eI H R df aQ/\CR eI H R dg aU/\CR eI H R dh aR/\CR eI H R di aX/\CR eI H R dj aY)->∀ {r:Bool×List Int×List Int×List Int×List Int×List Int},pC aq aQ av aU au aR aX aY mr ms=some r->Rt (C aF 0 mr ms H) (aE.Q H0 Ri R0 aC aq aG av ax au ay az aN aA a_ bL aS bM bN aL bk aH bl bm aF ba bO aT bP bQ cF ch ci cj ck cl bV cn co cp cq ct cu cv cw cz cA r)
def aE.S65515 (H0:Hp) (Ri R0:List Rs) (aC aq aG av ax au ay az aN aA:Int) (a_ bL aS bM bN:ON) (aL bk aH bl bm aF:Nat) (ba bO aT bP bQ:Cap) (cF:List Int) (ch ci cj ck cl bV:Bool) (cn co cp cq ct cu cv cw cz cA:List AV) (C:Nat->Nat->Int->Int->Hp->OA) (pC:List Int->Int->List Int->Int->List Int->List Int->List Int->Int->Int->Option (Bool×List Int×List Int×List Int×List Int×List Int)):Prop:=∀ {aQ aU aR aX aY:List Int} {df dg dh di dj:List AV} {lz kA:Int},∀ {H:Hp},aL=aQ.length->bk=aU.length->aH=aR.length->bl=aX.length->bm=aY.length->(Out H0 Ri H (Rs.ow ch ⟨a_,aL,ba⟩ eI.z cn df co::Rs.ow ci ⟨bL,bk,bO⟩ eI.z cp dg cq::Rs.ow cj ⟨aS,aH,aT⟩ eI.z ct dh cu::Rs.ow ck ⟨bM,bl,bP⟩ eI.z cv di cw::Rs.ow cl ⟨bN,bm,bQ⟩ eI.z cz dj cA::Rs.blk aF [.i aC,.i aq,.sl ⟨a_,aL,ba⟩,.i aG,.i av,.sl ⟨bL,bk,bO⟩,.i ax,.i au,.sl ⟨aS,aH,aT⟩,.i ay,.i az,.sl ⟨bM,bl,bP⟩,.i aN,.i aA,.sl ⟨bN,bm,bQ⟩,.bool bV]::R0) λR=>CR eI H R df aQ/\CR eI H R dg aU/\CR eI H R dh aR/\CR eI H R di aX/\CR eI H R dj aY)->∀ {r:Bool×List Int×List Int×List Int×List Int×List Int},pC aQ av aU au aR aX aY lz kA=some r->Rt (C aF 0 lz kA H) (aE.Q H0 Ri R0 aC aq aG av ax au ay az aN aA a_ bL aS bM bN aL bk aH bl bm aF ba bO aT bP bQ cF ch ci cj ck cl bV cn co cp cq ct cu cv cw cz cA r)
def aE.pl65515 (F:Nat) :Nat->List Int->Int->List Int->Int->List Int->List Int->List Int->Int->Int->Option (Bool×List Int×List Int×List Int×List Int×List Int)
 | 0,_,_,_,_,_,_,_,_,_=>none
 | k+1,aQ,av,aU,au,aR,aX,aY,lz,kA=>(bif (decide (kA<av)) then ((bB.p F av aU lz kA).bind λr3=>(ix aU (IntKind.i64.wrap ((IntKind.i64.wrap (lz * av))+kA))).bind λn7=>(some (aU.set n7 (IntKind.i64.wrap (0 - r3)))).bind λl8=>(bB.p F au aR kA lz).bind λr12=>(ix aR (IntKind.i64.wrap ((IntKind.i64.wrap (kA * au))+lz))).bind λn16=>(some (aR.set n16 (IntKind.i64.wrap (0 - r12)))).bind λl17=>aE.pl65515 F k aQ av l8 au l17 aX aY lz (IntKind.i64.wrap (kA+1))) else (some (true,aQ,aU,aR,aX,aY)))
theorem aE.l65515_P {aC aq aG av ax au ay az aN aA:Int} {a_ bL aS bM bN:ON} {aL bk aH bl bm aF:Nat} {ba bO aT bP bQ:Cap} {cF:List Int} {ch ci cj ck cl bV:Bool} {cn co cp cq ct cu cv cw cz cA:List AV} :∀ k,aE.S65515 H0 Ri R0 aC aq aG av ax au ay az aN aA a_ bL aS bM bN aL bk aH bl bm aF ba bO aT bP bQ cF ch ci cj ck cl bV cn co cp cq ct cu cv cw cz cA (aE.l65515 F (bB.tw F) (e_.tw F) (da.tw F) (db.tw F)  k) (aE.pl65515 F  k):=by
 intro k
 induction k with
 | zero=>unfold aE.S65515;intros;rename_i hp;cases hp
 | succ k ih=>
  intro aQ aU aR aX aY df dg dh di dj lz kA H fD fE fF fG fH h0 r hp
  obtain ⟨w0,s0,dk,dJ,dy,dX,dY⟩:=h0
  subst fD
  subst fE
  subst fF
  subst fG
  subst fH
  unfold aE.pl65515 at hp
  unfold aE.l65515
  refine lI w0 5 ?_
  refine aK hp (λhp=>?_) λhp=>?_
  ·refine lSl w0 5 ?_
   refine lI w0 5 ?_
   refine lI w0 5 ?_
   refine lI w0 5 ?_
   refine lSl w0 5 ?_
   obtain ⟨w1,s1⟩:=w0.pp [1,0,2,3,4,5] 6
   have f2:=W.borrow1 eI w1 (dJ.step s1)
   obtain ⟨w2,s2⟩:=w1.right1
   obtain ⟨r3,e3,hp⟩:=ah hp
   refine aM (bB.P rfl ⟨w2,f2⟩ e3) ?_
   rintro _ H4 ⟨rfl,w4,s4,_⟩
   obtain ⟨w5,s5⟩:=W.frame1 w1 w4 s4
   refine br ?_
   refine fJ (bp.tr (bp.refl _) s1 (W.cons_of (Rn:=[]) w2 w4 s4)) ?_
   obtain ⟨n7,g7,hp⟩:=ah hp
   obtain ⟨p7,q7,i7,h7,j7⟩:=W.ixo (E:=eI) w5 (i:=0) rfl rfl (dJ.step (s1.trans s5)) g7
   refine ar i7 ?_
   obtain ⟨l8,e8,hp⟩:=ah hp
   refine gd eI w5 (i:=0) (j:=0) (p:=p7) rfl rfl (dJ.step (s1.trans s5)) g7 i7 e8 rfl rfl (λ_ h=>by have h:_=[_]:=h;subst h;exact rfl) λH9 k9 w9 s9 c9=>?_
   refine lSl w9 5 ?_
   refine lI w9 5 ?_
   refine lI w9 5 ?_
   refine lI w9 5 ?_
   refine lSl w9 5 ?_
   obtain ⟨w10,s10⟩:=w9.pp [2,0,1,3,4,5] 6
   have f11:=W.borrow1 eI w10 (dy.step (s1.trans (s5.trans (s9.trans s10))))
   obtain ⟨w11,s11⟩:=w10.right1
   obtain ⟨r12,e12,hp⟩:=ah hp
   refine aM (bB.P rfl ⟨w11,f11⟩ e12) ?_
   rintro _ H13 ⟨rfl,w13,s13,_⟩
   obtain ⟨w14,s14⟩:=W.frame1 w10 w13 s13
   refine br ?_
   refine fJ (bp.tr (bp.refl _) s10 (W.cons_of (Rn:=[]) w11 w13 s13)) ?_
   obtain ⟨n16,g16,hp⟩:=ah hp
   obtain ⟨p16,q16,i16,h16,j16⟩:=W.ixo (E:=eI) w14 (i:=0) rfl rfl (dy.step (s1.trans (s5.trans (s9.trans (s10.trans s14))))) g16
   refine ar i16 ?_
   obtain ⟨l17,e17,hp⟩:=ah hp
   refine gd eI w14 (i:=0) (j:=0) (p:=p16) rfl rfl (dy.step (s1.trans (s5.trans (s9.trans (s10.trans s14))))) g16 i16 e17 rfl rfl (λ_ h=>by have h:_=[_]:=h;subst h;exact rfl) λH18 k18 w18 s18 c18=>?_
   obtain ⟨w19,s19⟩:=w18.pp [2,1,0,3,4,5] 6
   exact ih rfl ((et e8).symm) ((et e17).symm) rfl rfl ⟨w19,(s0.trans (s1.trans (s5.trans (s9.trans (s10.trans (s14.trans (s18.trans s19))))))),(dk.step (s1.trans (s5.trans (s9.trans (s10.trans (s14.trans (s18.trans s19))))))),(c9.step (s10.trans (s14.trans (s18.trans s19)))),(c18.step s19),(dX.step (s1.trans (s5.trans (s9.trans (s10.trans (s14.trans (s18.trans s19))))))),(dY.step (s1.trans (s5.trans (s9.trans (s10.trans (s14.trans (s18.trans s19)))))))⟩ hp
  ·exact aO hp ⟨_,_,_,_,_,rfl,rfl,rfl,rfl,rfl,rfl,w0,s0,dk,dJ,dy,dX,dY⟩
def aE.pj5 (F:Nat)  (aQ:List Int) (av:Int) (aU:List Int) (au:Int) (aR:List Int) (aX:List Int) (aY:List Int) (xH:Int):Option (Bool×List Int×List Int×List Int×List Int×List Int):=aE.pl65515 F F aQ av aU au aR aX aY xH 0
theorem aE.j5_P {aC aq aG av ax au ay az aN aA:Int} {a_ bL aS bM bN:ON} {aL bk aH bl bm aF:Nat} {ba bO aT bP bQ:Cap} {cF:List Int} {ch ci cj ck cl bV:Bool} {cn co cp cq ct cu cv cw cz cA:List AV}  {aQ aU aR aX aY:List Int} {df dg dh di dj:List AV} {xH:Int} (fD:aL=aQ.length) (fE:bk=aU.length) (fF:aH=aR.length) (fG:bl=aX.length) (fH:bm=aY.length) (h0:Out H0 Ri H (Rs.ow ch ⟨a_,aL,ba⟩ eI.z cn df co::Rs.ow ci ⟨bL,bk,bO⟩ eI.z cp dg cq::Rs.ow cj ⟨aS,aH,aT⟩ eI.z ct dh cu::Rs.ow ck ⟨bM,bl,bP⟩ eI.z cv di cw::Rs.ow cl ⟨bN,bm,bQ⟩ eI.z cz dj cA::Rs.blk aF [.i aC,.i aq,.sl ⟨a_,aL,ba⟩,.i aG,.i av,.sl ⟨bL,bk,bO⟩,.i ax,.i au,.sl ⟨aS,aH,aT⟩,.i ay,.i az,.sl ⟨bM,bl,bP⟩,.i aN,.i aA,.sl ⟨bN,bm,bQ⟩,.bool bV]::R0) λR=>CR eI H R df aQ/\CR eI H R dg aU/\CR eI H R dh aR/\CR eI H R di aX/\CR eI H R dj aY) {r:Bool×List Int×List Int×List Int×List Int×List Int} (hp:aE.pj5 F  aQ av aU au aR aX aY xH=some r):Rt (aE.j5 F (bB.tw F) (e_.tw F) (da.tw F) (db.tw F)  aF 0 xH H) (aE.Q H0 Ri R0 aC aq aG av ax au ay az aN aA a_ bL aS bM bN aL bk aH bl bm aF ba bO aT bP bQ cF ch ci cj ck cl bV cn co cp cq ct cu cv cw cz cA r):=by
 obtain ⟨w0,s0,dk,dJ,dy,dX,dY⟩:=h0
 subst fD
 subst fE
 subst fF
 subst fG
 subst fH
 unfold aE.pj5 at hp
 unfold aE.j5
 exact aE.l65515_P F rfl rfl rfl rfl rfl ⟨w0,s0,dk,dJ,dy,dX,dY⟩ hp
def aE.pl65513 (F:Nat) :Nat->Int->List Int->Int->List Int->Int->List Int->List Int->List Int->Int->Int->Option (Bool×List Int×List Int×List Int×List Int×List Int)
 | 0,_,_,_,_,_,_,_,_,_,_=>none
 | k+1,aq,aQ,av,aU,au,aR,aX,aY,mr,ms=>(bif (decide (ms<aq)) then ((bB.p F aq aQ mr ms).bind λr2=>(ix aQ (IntKind.i64.wrap ((IntKind.i64.wrap (mr * aq))+ms))).bind λn6=>(some (aQ.set n6 (IntKind.i64.wrap (0 - r2)))).bind λl7=>aE.pl65513 F k aq l7 av aU au aR aX aY mr (IntKind.i64.wrap (ms+1))) else (aE.pj5 F aQ av aU au aR aX aY mr))
theorem aE.l65513_P {aC aq aG av ax au ay az aN aA:Int} {a_ bL aS bM bN:ON} {aL bk aH bl bm aF:Nat} {ba bO aT bP bQ:Cap} {cF:List Int} {ch ci cj ck cl bV:Bool} {cn co cp cq ct cu cv cw cz cA:List AV} :∀ k,aE.S65513 H0 Ri R0 aC aq aG av ax au ay az aN aA a_ bL aS bM bN aL bk aH bl bm aF ba bO aT bP bQ cF ch ci cj ck cl bV cn co cp cq ct cu cv cw cz cA (aE.l65513 F (bB.tw F) (e_.tw F) (da.tw F) (db.tw F)  k) (aE.pl65513 F  k):=by
 intro k
 induction k with
 | zero=>unfold aE.S65513;intros;rename_i hp;cases hp
 | succ k ih=>
  intro aQ aU aR aX aY df dg dh di dj mr ms H fD fE fF fG fH h0 r hp
  obtain ⟨w0,s0,dk,dJ,dy,dX,dY⟩:=h0
  subst fD
  subst fE
  subst fF
  subst fG
  subst fH
  unfold aE.pl65513 at hp
  unfold aE.l65513
  refine lI w0 5 ?_
  refine aK hp (λhp=>?_) λhp=>?_
  ·refine lSl w0 5 ?_
   refine lI w0 5 ?_
   refine lI w0 5 ?_
   refine lI w0 5 ?_
   refine lSl w0 5 ?_
   have f1:=W.borrow1 eI w0 dk
   obtain ⟨w1,s1⟩:=w0.right1
   obtain ⟨r2,e2,hp⟩:=ah hp
   refine aM (bB.P rfl ⟨w1,f1⟩ e2) ?_
   rintro _ H3 ⟨rfl,w3,s3,_⟩
   obtain ⟨w4,s4⟩:=W.frame1 w0 w3 s3
   refine br ?_
   refine fJ (W.cons_of (Rn:=[]) w1 w3 s3) ?_
   obtain ⟨n6,g6,hp⟩:=ah hp
   obtain ⟨p6,q6,i6,h6,j6⟩:=W.ixo (E:=eI) w4 (i:=0) rfl rfl (dk.step s4) g6
   refine ar i6 ?_
   obtain ⟨l7,e7,hp⟩:=ah hp
   refine gd eI w4 (i:=0) (j:=0) (p:=p6) rfl rfl (dk.step s4) g6 i6 e7 rfl rfl (λ_ h=>by have h:_=[_]:=h;subst h;exact rfl) λH8 k8 w8 s8 c8=>?_
   exact ih ((et e7).symm) rfl rfl rfl rfl ⟨w8,(s0.trans (s4.trans s8)),c8,(dJ.step (s4.trans s8)),(dy.step (s4.trans s8)),(dX.step (s4.trans s8)),(dY.step (s4.trans s8))⟩ hp
  ·exact aE.j5_P rfl rfl rfl rfl rfl ⟨w0,s0,dk,dJ,dy,dX,dY⟩ hp
def aE.pj6 (F:Nat)  (aC:Int) (aq:Int) (aQ:List Int) (av:Int) (aU:List Int) (ax:Int) (au:Int) (aR:List Int) (ay:Int) (az:Int) (aX:List Int) (aA:Int) (aY:List Int) (kY:Int) (mn:Int) (rB:Int):Option (Bool×List Int×List Int×List Int×List Int×List Int):=(bif (decide (mn<0)) then (some (false,aQ,aU,aR,aX,aY)) else ((da.p F aq aQ mn kY).bind λr1=>(da.p F av aU mn kY).bind λr4=>(db.p F ax au aR mn kY).bind λr7=>(db.p F aC aq r1 rB kY).bind λr10=>(db.p F ay az aX rB kY).bind λr13=>(da.p F aA aY rB kY).bind λr16=>(bB.p F aq r10 kY kY).bind λr20=>(bif (decide (r20<0)) then (aE.pl65513 F F aq r10 av r4 au r7 r13 r16 kY 0) else (some (true,r10,r4,r7,r13,r16)))))
theorem aE.j6_P {aC aq aG av ax au ay az aN aA:Int} {a_ bL aS bM bN:ON} {aL bk aH bl bm aF:Nat} {ba bO aT bP bQ:Cap} {cF:List Int} {ch ci cj ck cl bV:Bool} {cn co cp cq ct cu cv cw cz cA:List AV}  {aQ aU aR aX aY:List Int} {df dg dh di dj:List AV} {kY mn rB:Int} (fD:aL=aQ.length) (fE:bk=aU.length) (fF:aH=aR.length) (fG:bl=aX.length) (fH:bm=aY.length) (h0:Out H0 Ri H (Rs.ow ch ⟨a_,aL,ba⟩ eI.z cn df co::Rs.ow ci ⟨bL,bk,bO⟩ eI.z cp dg cq::Rs.ow cj ⟨aS,aH,aT⟩ eI.z ct dh cu::Rs.ow ck ⟨bM,bl,bP⟩ eI.z cv di cw::Rs.ow cl ⟨bN,bm,bQ⟩ eI.z cz dj cA::Rs.blk aF [.i aC,.i aq,.sl ⟨a_,aL,ba⟩,.i aG,.i av,.sl ⟨bL,bk,bO⟩,.i ax,.i au,.sl ⟨aS,aH,aT⟩,.i ay,.i az,.sl ⟨bM,bl,bP⟩,.i aN,.i aA,.sl ⟨bN,bm,bQ⟩,.bool bV]::R0) λR=>CR eI H R df aQ/\CR eI H R dg aU/\CR eI H R dh aR/\CR eI H R di aX/\CR eI H R dj aY) {r:Bool×List Int×List Int×List Int×List Int×List Int} (hp:aE.pj6 F  aC aq aQ av aU ax au aR ay az aX aA aY kY mn rB=some r):Rt (aE.j6 F (bB.tw F) (e_.tw F) (da.tw F) (db.tw F)  aF 0 kY mn rB H) (aE.Q H0 Ri R0 aC aq aG av ax au ay az aN aA a_ bL aS bM bN aL bk aH bl bm aF ba bO aT bP bQ cF ch ci cj ck cl bV cn co cp cq ct cu cv cw cz cA r):=by
 obtain ⟨w0,s0,dk,dJ,dy,dX,dY⟩:=h0
 subst fD
 subst fE
 subst fF
 subst fG
 subst fH
 unfold aE.pj6 at hp
 unfold aE.j6
 refine aK hp (λhp=>?_) λhp=>?_
 ·exact aO hp ⟨_,_,_,_,_,rfl,rfl,rfl,rfl,rfl,rfl,w0,s0,dk,dJ,dy,dX,dY⟩
 ·refine lI w0 5 ?_
  refine lI w0 5 ?_
  refine lSl w0 5 ?_
  obtain ⟨r1,e1,hp⟩:=ah hp
  refine aM (da.P rfl ⟨w0,dk⟩ e1) ?_
  rintro _ H2 ⟨agR,rfl,hl2_0,w2,s2,f2_0⟩
  refine lI w2 5 ?_
  refine lI w2 5 ?_
  refine lSl w2 5 ?_
  obtain ⟨w3,s3⟩:=w2.pp [1,0,2,3,4,5] 6
  obtain ⟨r4,e4,hp⟩:=ah hp
  refine aM (da.P rfl ⟨w3,(dJ.step (s2.trans s3))⟩ e4) ?_
  rintro _ H5 ⟨agS,rfl,hl5_0,w5,s5,f5_0⟩
  refine lI w5 5 ?_
  refine lI w5 5 ?_
  refine lSl w5 5 ?_
  obtain ⟨w6,s6⟩:=w5.pp [2,0,1,3,4,5] 6
  obtain ⟨r7,e7,hp⟩:=ah hp
  refine aM (db.P rfl ⟨w6,(dy.step (s2.trans (s3.trans (s5.trans s6))))⟩ e7) ?_
  rintro _ H8 ⟨abX,rfl,hl8_0,w8,s8,f8_0⟩
  refine lI w8 5 ?_
  refine lI w8 5 ?_
  refine lSl w8 5 ?_
  obtain ⟨w9,s9⟩:=w8.pp [2,0,1,3,4,5] 6
  obtain ⟨r10,e10,hp⟩:=ah hp
  refine aM (db.P hl2_0 ⟨w9,(f2_0.step (s3.trans (s5.trans (s6.trans (s8.trans s9)))))⟩ e10) ?_
  rintro _ H11 ⟨abY,rfl,hl11_0,w11,s11,f11_0⟩
  refine lI w11 5 ?_
  refine lI w11 5 ?_
  refine lSl w11 5 ?_
  obtain ⟨w12,s12⟩:=w11.pp [3,0,1,2,4,5] 6
  obtain ⟨r13,e13,hp⟩:=ah hp
  refine aM (db.P rfl ⟨w12,(dX.step (s2.trans (s3.trans (s5.trans (s6.trans (s8.trans (s9.trans (s11.trans s12))))))))⟩ e13) ?_
  rintro _ H14 ⟨abZ,rfl,hl14_0,w14,s14,f14_0⟩
  refine lI w14 5 ?_
  refine lI w14 5 ?_
  refine lSl w14 5 ?_
  obtain ⟨w15,s15⟩:=w14.pp [4,0,1,2,3,5] 6
  obtain ⟨r16,e16,hp⟩:=ah hp
  refine aM (da.P rfl ⟨w15,(dY.step (s2.trans (s3.trans (s5.trans (s6.trans (s8.trans (s9.trans (s11.trans (s12.trans (s14.trans s15))))))))))⟩ e16) ?_
  rintro _ H17 ⟨ab0,rfl,hl17_0,w17,s17,f17_0⟩
  refine lI w17 5 ?_
  refine lI w17 5 ?_
  refine lSl w17 5 ?_
  obtain ⟨w18,s18⟩:=w17.pp [2,0,1,3,4,5] 6
  have f19:=W.borrow1 eI w18 (f11_0.step (s12.trans (s14.trans (s15.trans (s17.trans s18)))))
  obtain ⟨w19,s19⟩:=w18.right1
  obtain ⟨r20,e20,hp⟩:=ah hp
  refine aM (bB.P hl11_0 ⟨w19,f19⟩ e20) ?_
  rintro _ H21 ⟨rfl,w21,s21,_⟩
  obtain ⟨w22,s22⟩:=W.frame1 w18 w21 s21
  refine br ?_
  refine aK hp (λhp=>?_) λhp=>?_
  ·obtain ⟨w23,s23⟩:=w22.pp [0,4,3,2,1,5] 6
   exact aE.l65513_P F hl11_0 hl5_0 hl8_0 hl14_0 hl17_0 ⟨w23,(s0.trans (s2.trans (s3.trans (s5.trans (s6.trans (s8.trans (s9.trans (s11.trans (s12.trans (s14.trans (s15.trans (s17.trans (s18.trans (s22.trans s23)))))))))))))),(f11_0.step (s12.trans (s14.trans (s15.trans (s17.trans (s18.trans (s22.trans s23))))))),(f5_0.step (s6.trans (s8.trans (s9.trans (s11.trans (s12.trans (s14.trans (s15.trans (s17.trans (s18.trans (s22.trans s23))))))))))),(f8_0.step (s9.trans (s11.trans (s12.trans (s14.trans (s15.trans (s17.trans (s18.trans (s22.trans s23))))))))),(f14_0.step (s15.trans (s17.trans (s18.trans (s22.trans s23))))),(f17_0.step (s18.trans (s22.trans s23)))⟩ hp
  ·obtain ⟨w24,s24⟩:=w22.pp [0,4,3,2,1,5] 6
   exact aO hp ⟨_,_,_,_,_,rfl,hl11_0,hl5_0,hl8_0,hl14_0,hl17_0,w24,(s0.trans (s2.trans (s3.trans (s5.trans (s6.trans (s8.trans (s9.trans (s11.trans (s12.trans (s14.trans (s15.trans (s17.trans (s18.trans (s22.trans s24)))))))))))))),(f11_0.step (s12.trans (s14.trans (s15.trans (s17.trans (s18.trans (s22.trans s24))))))),(f5_0.step (s6.trans (s8.trans (s9.trans (s11.trans (s12.trans (s14.trans (s15.trans (s17.trans (s18.trans (s22.trans s24))))))))))),(f8_0.step (s9.trans (s11.trans (s12.trans (s14.trans (s15.trans (s17.trans (s18.trans (s22.trans s24))))))))),(f14_0.step (s15.trans (s17.trans (s18.trans (s22.trans s24))))),(f17_0.step (s18.trans (s22.trans s24)))⟩
def aE.pl29 (F:Nat) :Nat->Int->Int->List Int->Int->List Int->Int->Int->List Int->Int->Int->List Int->Int->List Int->Int->Int->Int->Int->Option (Bool×List Int×List Int×List Int×List Int×List Int)
 | 0,_,_,_,_,_,_,_,_,_,_,_,_,_,_,_,_,_=>none
 | k+1,aC,aq,aQ,av,aU,ax,au,aR,ay,az,aX,aA,aY,fd,fk,oz,oA=>(bif (decide (oA<aC)) then (aE.pl469 F (aE.pl29 F k) F aC aq aQ av aU ax au aR ay az aX aA aY fd fk oz oA fd) else (aE.pj6 F aC aq aQ av aU ax au aR ay az aX aA aY fd fk oz))
theorem aE.l29_P {aC aq aG av ax au ay az aN aA:Int} {a_ bL aS bM bN:ON} {aL bk aH bl bm aF:Nat} {ba bO aT bP bQ:Cap} {cF:List Int} {ch ci cj ck cl bV:Bool} {cn co cp cq ct cu cv cw cz cA:List AV} :∀ k,aE.S29 H0 Ri R0 aC aq aG av ax au ay az aN aA a_ bL aS bM bN aL bk aH bl bm aF ba bO aT bP bQ cF ch ci cj ck cl bV cn co cp cq ct cu cv cw cz cA (aE.l29 F (bB.tw F) (e_.tw F) (da.tw F) (db.tw F)  k) (aE.pl29 F  k):=by
 intro k
 induction k with
 | zero=>unfold aE.S29;intros;rename_i hp;cases hp
 | succ k ih=>
  intro aQ aU aR aX aY df dg dh di dj fd fk oz oA H fD fE fF fG fH h0 r hp
  obtain ⟨w0,s0,dk,dJ,dy,dX,dY⟩:=h0
  subst fD
  subst fE
  subst fF
  subst fG
  subst fH
  unfold aE.pl29 at hp
  unfold aE.l29
  refine lI w0 5 ?_
  refine aK hp (λhp=>?_) λhp=>?_
  ·exact aE.l469_P (@ih) F rfl rfl rfl rfl rfl ⟨w0,s0,dk,dJ,dy,dX,dY⟩ hp
  ·exact aE.j6_P rfl rfl rfl rfl rfl ⟨w0,s0,dk,dJ,dy,dX,dY⟩ hp
def aE.p (F:Nat) (bG:Int) (bi:Int) (el:List Int) (bu:Int) (ga:List Int) (bj:Int) (bf:Int) (dG:List Int) (bv:Int) (bw:Int) (gb:List Int) (bz:Int) (gc:List Int) (af:Int):Option (Bool×List Int×List Int×List Int×List Int×List Int):=aE.pl29 F F bG bi el bu ga bj bf dG bv bw gb bz gc af (-1) (-1) af
theorem aE.P {bG bi bI bu bj bf bv bw bU bz af:Int} {cS eJ cH eK eL:ON} {cb dC bX dD dE aa:Nat} {cT eM cI eN eO:Cap} {el ga dG gb gc:List Int} {fx gn fy gp gq aD:Bool} {fz fA iS gr gu jH fB fC iT gv gw jI gy gz jJ:List AV} (mZ:cb=el.length) (qg:dC=ga.length) (lT:bX=dG.length) (qh:dD=gb.length) (qi:dE=gc.length) (h0:Inn H (Rs.ow fx ⟨cS,cb,cT⟩ eI.z fz iS fA::Rs.ow gn ⟨eJ,dC,eM⟩ eI.z gr jH gu::Rs.ow fy ⟨cH,bX,cI⟩ eI.z fB iT fC::Rs.ow gp ⟨eK,dD,eN⟩ eI.z gv jI gw::Rs.ow gq ⟨eL,dE,eO⟩ eI.z gy jJ gz::Rs.blk aa [.i bG,.i bi,.sl ⟨cS,cb,cT⟩,.i bI,.i bu,.sl ⟨eJ,dC,eM⟩,.i bj,.i bf,.sl ⟨cH,bX,cI⟩,.i bv,.i bw,.sl ⟨eK,dD,eN⟩,.i bU,.i bz,.sl ⟨eL,dE,eO⟩,.bool aD]::R0) λR=>CR eI H R iS el/\CR eI H R jH ga/\CR eI H R iT dG/\CR eI H R jI gb/\CR eI H R jJ gc) {r:Bool×List Int×List Int×List Int×List Int×List Int} (hp:aE.p F bG bi el bu ga bj bf dG bv bw gb bz gc af=some r):Rt (aE.tw F aa 0 af H) (aE.Q H (Rs.ow fx ⟨cS,cb,cT⟩ eI.z fz iS fA::Rs.ow gn ⟨eJ,dC,eM⟩ eI.z gr jH gu::Rs.ow fy ⟨cH,bX,cI⟩ eI.z fB iT fC::Rs.ow gp ⟨eK,dD,eN⟩ eI.z gv jI gw::Rs.ow gq ⟨eL,dE,eO⟩ eI.z gy jJ gz::Rs.blk aa [.i bG,.i bi,.sl ⟨cS,cb,cT⟩,.i bI,.i bu,.sl ⟨eJ,dC,eM⟩,.i bj,.i bf,.sl ⟨cH,bX,cI⟩,.i bv,.i bw,.sl ⟨eK,dD,eN⟩,.i bU,.i bz,.sl ⟨eL,dE,eO⟩,.bool aD]::R0) R0 bG bi bI bu bj bf bv bw bU bz cS eJ cH eK eL cb dC bX dD dE aa cT eM cI eN eO el fx gn fy gp gq aD fz fA gr gu fB fC gv gw gy gz r):=by
 obtain ⟨w0,k_,o_,ko,pa,pb⟩:=h0
 subst mZ
 subst qg
 subst lT
 subst qh
 subst qi
 unfold aE.p at hp
 unfold aE.tw aE.twX
 have s0:=w0.rf
 exact aE.l29_P F rfl rfl rfl rfl rfl ⟨w0,s0,k_,o_,ko,pa,pb⟩ hp
def ii.Q (H0:Hp) (Ri R0:List Rs)  (r:Int) (v:AV) (H':Hp):Prop:=v=(.i r)/\Out H0 Ri H' (R0) λR=>True
def ii.p (F:Nat) (aa:Int) (ai:Int):Option (Int):=(if ai=0 then none else ((if ai=0 then none else ((bif (decide ((Int.tmod aa ai)<0)) then (some (IntKind.i64.wrap ((IntKind.i64.wrap (Int.tdiv aa ai)) - 1))) else (some (IntKind.i64.wrap (Int.tdiv aa ai))))))))
theorem ii.P {aa ai:Int}  (h0:Inn H R0 λR=>True) {r:Int} (hp:ii.p F aa ai=some r):Rt (ii.tw F aa ai H) (ii.Q H R0 R0  r):=by
 obtain ⟨w0,_⟩:=h0
 unfold ii.p at hp
 unfold ii.tw ii.twX
 have s0:=w0.rf
 obtain ⟨g1,hp⟩:=rW hp
 refine rX g1 ?_
 obtain ⟨g2,hp⟩:=rW hp
 refine rX g2 ?_
 refine aK hp (λhp=>?_) λhp=>?_
 ·exact aO hp ⟨rfl,w0,s0,trivial⟩
 ·exact aO hp ⟨rfl,w0,s0,trivial⟩
def gC.Q (H0:Hp) (Ri R0:List Rs)  (r:Int×Bool) (v:AV) (H':Hp):Prop:=v=(.tup [(.i r.1),(.bool r.2)])/\Out H0 Ri H' (R0) λR=>True
def gC.p (F:Nat) (aa:Int) (ai:Int) (cV:Int):Option (Int×Bool):=(bif (aa != 0) then ((e_.p F ai).bind λr1=>(e_.p F aa).bind λr3=>(if r3=0 then none else ((bif (decide (r1>(IntKind.i64.wrap (Int.tdiv cV r3)))) then (some (0,false)) else (some ((IntKind.i64.wrap (aa * ai)),true)))))) else (some ((IntKind.i64.wrap (aa * ai)),true)))
theorem gC.P {aa ai cV:Int}  (h0:Inn H R0 λR=>True) {r:Int×Bool} (hp:gC.p F aa ai cV=some r):Rt (gC.tw F aa ai cV H) (gC.Q H R0 R0  r):=by
 obtain ⟨w0,_⟩:=h0
 unfold gC.p at hp
 unfold gC.tw gC.twX
 have s0:=w0.rf
 refine aK hp (λhp=>?_) λhp=>?_
 ·obtain ⟨r1,e1,hp⟩:=ah hp
  refine aM (e_.P ⟨w0,trivial⟩ e1) ?_
  rintro _ H2 ⟨rfl,w2,s2,_⟩
  refine br ?_
  obtain ⟨r3,e3,hp⟩:=ah hp
  refine aM (e_.P ⟨w2,trivial⟩ e3) ?_
  rintro _ H4 ⟨rfl,w4,s4,_⟩
  refine br ?_
  obtain ⟨g5,hp⟩:=rW hp
  refine rX g5 ?_
  refine aK hp (λhp=>?_) λhp=>?_
  ·exact aO hp ⟨rfl,w4,(s0.trans (s2.trans s4)),trivial⟩
  ·exact aO hp ⟨rfl,w4,(s0.trans (s2.trans s4)),trivial⟩
 ·exact aO hp ⟨rfl,w0,s0,trivial⟩
def gG.Q (H0:Hp) (Ri R0:List Rs)  (r:Int) (v:AV) (H':Hp):Prop:=v=(.i r)/\Out H0 Ri H' (R0) λR=>True
def gG.p (F:Nat) (aa:Int) (ai:Int) (cV:Int):Option (Int):=(gC.p F ai cV 2000000000000).bind λr1=>(bif (!r1.2) then (some 3000000000000) else (some (IntKind.i64.wrap (aa - r1.1))))
theorem gG.P {aa ai cV:Int}  (h0:Inn H R0 λR=>True) {r:Int} (hp:gG.p F aa ai cV=some r):Rt (gG.tw F aa ai cV H) (gG.Q H R0 R0  r):=by
 obtain ⟨w0,_⟩:=h0
 unfold gG.p at hp
 unfold gG.tw gG.twX
 have s0:=w0.rf
 obtain ⟨r1,e1,hp⟩:=ah hp
 refine aM (gC.P ⟨w0,trivial⟩ e1) ?_
 rintro _ H2 ⟨rfl,w2,s2,_⟩
 refine br ?_
 refine br ?_
 refine br ?_
 refine br ?_
 refine br ?_
 refine aK hp (λhp=>?_) λhp=>?_
 ·exact aO hp ⟨rfl,w2,(s0.trans s2),trivial⟩
 ·exact aO hp ⟨rfl,w2,(s0.trans s2),trivial⟩
def gH.Q (H0:Hp) (Ri R0:List Rs) (bG bi bI bu bj bf bv bw bU bz:Int) (eR dz fb dA dB:Sl) (aa fQ:Nat) (im:ON) (io:Cap) (ji:Bool) (jj jk:List AV) (r:Bool×List Int) (v:AV) (H':Hp):Prop:=∃ pB:List AV,v=(.tup [])/\fQ=(r.2).length/\Out H0 Ri H' (Rs.blk aa [.i bG,.i bi,.sl eR,.i bI,.i bu,.sl dz,.i bj,.i bf,.sl fb,.i bv,.i bw,.sl dA,.i bU,.i bz,.sl dB,.bool (r.1)]::Rs.ow ji ⟨im,fQ,io⟩ eI.z jj pB jk::R0) λR=>CR eI H' R pB (r.2)
def gH.p (F:Nat) (aD:Bool) (aw:Int) (iU:List Int) (cP:Int) (ef:Int) (dU:Int):Option (Bool×List Int):=(e_.p F dU).bind λr2=>(bif (decide (r2>1000000000000)) then (some (true,iU)) else ((ix iU (IntKind.i64.wrap ((IntKind.i64.wrap (cP * aw))+ef))).bind λn6=>(some (iU.set n6 dU)).bind λl7=>some (aD,l7)))
theorem gH.P {bG bi bI bu bj bf bv bw bU bz af aw cP ef dU:Int} {eR dz fb dA dB:Sl} {aD ji:Bool} {aa fQ:Nat} {im:ON} {io:Cap} {iU:List Int} {jj jk m_:List AV} (sX:fQ=iU.length) (h0:Inn H (Rs.blk aa [.i bG,.i bi,.sl eR,.i bI,.i bu,.sl dz,.i bj,.i bf,.sl fb,.i bv,.i bw,.sl dA,.i bU,.i bz,.sl dB,.bool aD]::Rs.ow ji ⟨im,fQ,io⟩ eI.z jj m_ jk::R0) λR=>CR eI H R m_ iU) {r:Bool×List Int} (hp:gH.p F aD aw iU cP ef dU=some r):Rt (gH.tw F aa 0 af aw ⟨im,fQ,io⟩ cP ef dU H) (gH.Q H (Rs.blk aa [.i bG,.i bi,.sl eR,.i bI,.i bu,.sl dz,.i bj,.i bf,.sl fb,.i bv,.i bw,.sl dA,.i bU,.i bz,.sl dB,.bool aD]::Rs.ow ji ⟨im,fQ,io⟩ eI.z jj m_ jk::R0) R0 bG bi bI bu bj bf bv bw bU bz eR dz fb dA dB aa fQ im io ji jj jk r):=by
 obtain ⟨w0,rd⟩:=h0
 subst sX
 unfold gH.p at hp
 unfold gH.tw gH.twX
 have s0:=w0.rf
 refine bR w0 λH1 w1 s1=>?_
 obtain ⟨r2,e2,hp⟩:=ah hp
 refine aM (e_.P ⟨w1,trivial⟩ e2) ?_
 rintro _ H3 ⟨rfl,w3,s3,_⟩
 refine br ?_
 refine aK hp (λhp=>?_) λhp=>?_
 ·refine aJ w3 1 λH4 w4 s4=>?_
  obtain ⟨w5,s5⟩:=w4.pp [1,2] 3
  exact aO hp ⟨_,rfl,rfl,w5,(s0.trans (s1.trans (s3.trans (s4.trans s5)))),(rd.step (s1.trans (s3.trans (s4.trans s5))))⟩
 ·refine lSl w3 0 ?_
  refine lI w3 0 ?_
  obtain ⟨n6,g6,hp⟩:=ah hp
  obtain ⟨p6,q6,i6,h6,j6⟩:=W.ixo (E:=eI) w3 (i:=2) rfl rfl (rd.step (s1.trans s3)) g6
  refine ar i6 ?_
  obtain ⟨l7,e7,hp⟩:=ah hp
  refine gd eI w3 (i:=2) (j:=0) (p:=p6) rfl rfl (rd.step (s1.trans s3)) g6 i6 e7 rfl rfl (λ_ h=>by have h:_=[_]:=h;subst h;exact rfl) λH8 k8 w8 s8 c8=>?_
  obtain ⟨w9,s9⟩:=w8.pp [1,2] 3
  exact aO hp ⟨_,rfl,(et e7).symm,w9,(s0.trans (s1.trans (s3.trans (s8.trans s9)))),(c8.step s9)⟩
def dp.Q (H0:Hp) (Ri R0:List Rs) (bG bi bI bu bj bf bv bw bU bz:Int) (eR dz fb dA dB:Sl) (aa fQ:Nat) (im:ON) (io:Cap) (ji:Bool) (jj jk:List AV) (r:Bool×List Int) (v:AV) (H':Hp):Prop:=∃ pB:List AV,v=(.tup [])/\fQ=(r.2).length/\Out H0 Ri H' (Rs.blk aa [.i bG,.i bi,.sl eR,.i bI,.i bu,.sl dz,.i bj,.i bf,.sl fb,.i bv,.i bw,.sl dA,.i bU,.i bz,.sl dB,.bool (r.1)]::Rs.ow ji ⟨im,fQ,io⟩ eI.z jj pB jk::R0) λR=>CR eI H' R pB (r.2)
def dp.S7 (H0:Hp) (Ri R0:List Rs) (aC aq aG av ax au ay az aN aA:Int) (eT cM fh cN cO:Sl) (aF jK:Nat) (kQ:ON) (kR:Cap) (na:Bool) (nb ng:List AV) (C:Nat->Nat->Int->Int->Int->Nat->Nat->Int->Hp->OA) (pC:Bool->Int->Int->Int->Int->List Int->Int->Option (Bool×List Int)):Prop:=∀ {aD:Bool} {hU fa iG sY nx fW:Int} {lU:List Int} {vW:List AV} {fV:Nat},∀ {H:Hp},jK=lU.length->(Out H0 Ri H (Rs.blk aF [.i aC,.i aq,.sl eT,.i aG,.i av,.sl cM,.i ax,.i au,.sl fh,.i ay,.i az,.sl cN,.i aN,.i aA,.sl cO,.bool aD]::Rs.ow na ⟨kQ,jK,kR⟩ eI.z nb vW ng::Rs.blk fV [.i sY,.i nx,.sl ⟨kQ,jK,kR⟩]::R0) λR=>CR eI H R vW lU)->∀ {r:Bool×List Int},pC aD hU fa iG nx lU fW=some r->Rt (C aF 0 hU fa iG fV 0 fW H) (dp.Q H0 Ri R0 aC aq aG av ax au ay az aN aA eT cM fh cN cO aF jK kQ kR na nb ng r)
def dp.pl7 (F:Nat) :Nat->Bool->Int->Int->Int->Int->List Int->Int->Option (Bool×List Int)
 | 0,_,_,_,_,_,_,_=>none
 | k+1,aD,hU,fa,iG,nx,lU,fW=>(bif (decide (fW<nx)) then ((bif (!aD) then ((bB.p F nx lU hU fW).bind λr3=>(bB.p F nx lU fa fW).bind λr8=>(gG.p F r3 iG r8).bind λr12=>(gH.p F aD nx lU hU fW r12).bind λr16=>dp.pl7 F k r16.1 hU fa iG nx r16.2 (IntKind.i64.wrap (fW+1))) else (some (aD,lU)))) else (some (aD,lU)))
theorem dp.l7_P {aC aq aG av ax au ay az aN aA:Int} {eT cM fh cN cO:Sl} {aF jK:Nat} {kQ:ON} {kR:Cap} {na:Bool} {nb ng:List AV} :∀ k,dp.S7 H0 Ri R0 aC aq aG av ax au ay az aN aA eT cM fh cN cO aF jK kQ kR na nb ng (dp.l7 F (bB.tw F) (gG.tw F) (gH.tw F)  k) (dp.pl7 F  k):=by
 intro k
 induction k with
 | zero=>unfold dp.S7;intros;rename_i hp;cases hp
 | succ k ih=>
  intro aD hU fa iG sY nx fW lU vW fV H Jo h0 r hp
  obtain ⟨w0,s0,rh⟩:=h0
  subst Jo
  unfold dp.pl7 at hp
  unfold dp.l7
  refine lI w0 2 ?_
  refine aK hp (λhp=>?_) λhp=>?_
  ·refine lB w0 0 ?_
   refine aK hp (λhp=>?_) λhp=>?_
   ·refine lI w0 2 ?_
    refine lI w0 2 ?_
    refine lSl w0 2 ?_
    refine lI w0 2 ?_
    refine lI w0 2 ?_
    refine lSl w0 2 ?_
    obtain ⟨w1,s1⟩:=w0.pp [1,0,2] 3
    have f2:=W.borrow1 eI w1 (rh.step s1)
    obtain ⟨w2,s2⟩:=w1.right1
    obtain ⟨r3,e3,hp⟩:=ah hp
    refine aM (bB.P rfl ⟨w2,f2⟩ e3) ?_
    rintro _ H4 ⟨rfl,w4,s4,_⟩
    obtain ⟨w5,s5⟩:=W.frame1 w1 w4 s4
    refine br ?_
    refine fJ (bp.tr (bp.refl _) s1 (W.cons_of (Rn:=[]) w2 w4 s4)) ?_
    refine lI w5 2 ?_
    refine lI w5 2 ?_
    refine lSl w5 2 ?_
    have f7:=W.borrow1 eI w5 (rh.step (s1.trans s5))
    obtain ⟨w7,s7⟩:=w5.right1
    obtain ⟨r8,e8,hp⟩:=ah hp
    refine aM (bB.P rfl ⟨w7,f7⟩ e8) ?_
    rintro _ H9 ⟨rfl,w9,s9,_⟩
    obtain ⟨w10,s10⟩:=W.frame1 w5 w9 s9
    refine br ?_
    refine fJ (W.cons_of (Rn:=[]) w7 w9 s9) ?_
    obtain ⟨r12,e12,hp⟩:=ah hp
    refine aM (gG.P ⟨w10,trivial⟩ e12) ?_
    rintro _ H13 ⟨rfl,w13,s13,_⟩
    refine br ?_
    refine fJ (W.cons_of (Rn:=[]) w10 w13 s13) ?_
    obtain ⟨w15,s15⟩:=w13.pp [1,0,2] 3
    obtain ⟨r16,e16,hp⟩:=ah hp
    refine aM (gH.P rfl ⟨w15,(rh.step (s1.trans (s5.trans (s10.trans (s13.trans s15)))))⟩ e16) ?_
    rintro _ H17 ⟨ab1,rfl,hl17_0,w17,s17,f17_0⟩
    exact ih hl17_0 ⟨w17,(s0.trans (s1.trans (s5.trans (s10.trans (s13.trans (s15.trans s17)))))),f17_0⟩ hp
   ·obtain ⟨w18,s18⟩:=w0.pp [0,1] 3
    exact aO hp ⟨_,rfl,rfl,w18,(s0.trans s18),(rh.step s18)⟩
  ·obtain ⟨w19,s19⟩:=w0.pp [0,1] 3
   exact aO hp ⟨_,rfl,rfl,w19,(s0.trans s19),(rh.step s19)⟩
def dp.p (F:Nat) (aD:Bool) (aw:Int) (iU:List Int) (cP:Int) (ef:Int) (dU:Int):Option (Bool×List Int):=dp.pl7 F F aD cP ef dU aw iU 0
theorem dp.P {bG bi bI bu bj bf bv bw bU bz af aw cP ef dU:Int} {eR dz fb dA dB:Sl} {aD ji:Bool} {aa fQ:Nat} {im:ON} {io:Cap} {iU:List Int} {jj jk m_:List AV} (sX:fQ=iU.length) (h0:Inn H (Rs.blk aa [.i bG,.i bi,.sl eR,.i bI,.i bu,.sl dz,.i bj,.i bf,.sl fb,.i bv,.i bw,.sl dA,.i bU,.i bz,.sl dB,.bool aD]::Rs.ow ji ⟨im,fQ,io⟩ eI.z jj m_ jk::R0) λR=>CR eI H R m_ iU) {r:Bool×List Int} (hp:dp.p F aD aw iU cP ef dU=some r):Rt (dp.tw F aa 0 af aw ⟨im,fQ,io⟩ cP ef dU H) (dp.Q H (Rs.blk aa [.i bG,.i bi,.sl eR,.i bI,.i bu,.sl dz,.i bj,.i bf,.sl fb,.i bv,.i bw,.sl dA,.i bU,.i bz,.sl dB,.bool aD]::Rs.ow ji ⟨im,fQ,io⟩ eI.z jj m_ jk::R0) R0 bG bi bI bu bj bf bv bw bU bz eR dz fb dA dB aa fQ im io ji jj jk r):=by
 obtain ⟨w0,rd⟩:=h0
 subst sX
 unfold dp.p at hp
 unfold dp.tw dp.twX
 have s0:=w0.rf
 refine bR w0 λH1 w1 s1=>?_
 obtain ⟨w2,s2⟩:=w1.pp [1,2,0] 3
 exact dp.l7_P F rfl ⟨w2,(s0.trans (s1.trans s2)),(rd.step (s1.trans s2))⟩ hp
def dr.Q (H0:Hp) (Ri R0:List Rs) (bG bi bI bu bj bf bv bw bU bz:Int) (eR dz fb dA dB:Sl) (aa fQ:Nat) (im:ON) (io:Cap) (ji:Bool) (jj jk:List AV) (r:Bool×List Int) (v:AV) (H':Hp):Prop:=∃ pB:List AV,v=(.tup [])/\fQ=(r.2).length/\Out H0 Ri H' (Rs.blk aa [.i bG,.i bi,.sl eR,.i bI,.i bu,.sl dz,.i bj,.i bf,.sl fb,.i bv,.i bw,.sl dA,.i bU,.i bz,.sl dB,.bool (r.1)]::Rs.ow ji ⟨im,fQ,io⟩ eI.z jj pB jk::R0) λR=>CR eI H' R pB (r.2)
def dr.S7 (H0:Hp) (Ri R0:List Rs) (aC aq aG av ax au ay az aN aA:Int) (eT cM fh cN cO:Sl) (aF jK:Nat) (kQ:ON) (kR:Cap) (na:Bool) (nb ng:List AV) (C:Nat->Nat->Int->Int->Int->Nat->Nat->Int->Hp->OA) (pC:Bool->Int->Int->Int->Int->Int->List Int->Int->Option (Bool×List Int)):Prop:=∀ {aD:Bool} {hU fa iG sY nx fW:Int} {lU:List Int} {vW:List AV} {fV:Nat},∀ {H:Hp},jK=lU.length->(Out H0 Ri H (Rs.blk aF [.i aC,.i aq,.sl eT,.i aG,.i av,.sl cM,.i ax,.i au,.sl fh,.i ay,.i az,.sl cN,.i aN,.i aA,.sl cO,.bool aD]::Rs.ow na ⟨kQ,jK,kR⟩ eI.z nb vW ng::Rs.blk fV [.i sY,.i nx,.sl ⟨kQ,jK,kR⟩]::R0) λR=>CR eI H R vW lU)->∀ {r:Bool×List Int},pC aD hU fa iG sY nx lU fW=some r->Rt (C aF 0 hU fa iG fV 0 fW H) (dr.Q H0 Ri R0 aC aq aG av ax au ay az aN aA eT cM fh cN cO aF jK kQ kR na nb ng r)
def dr.pl7 (F:Nat) :Nat->Bool->Int->Int->Int->Int->Int->List Int->Int->Option (Bool×List Int)
 | 0,_,_,_,_,_,_,_,_=>none
 | k+1,aD,hU,fa,iG,sY,nx,lU,fW=>(bif (decide (fW<sY)) then ((bif (!aD) then ((bB.p F nx lU fW hU).bind λr3=>(bB.p F nx lU fW fa).bind λr8=>(gG.p F r3 iG r8).bind λr12=>(gH.p F aD nx lU fW hU r12).bind λr16=>dr.pl7 F k r16.1 hU fa iG sY nx r16.2 (IntKind.i64.wrap (fW+1))) else (some (aD,lU)))) else (some (aD,lU)))
theorem dr.l7_P {aC aq aG av ax au ay az aN aA:Int} {eT cM fh cN cO:Sl} {aF jK:Nat} {kQ:ON} {kR:Cap} {na:Bool} {nb ng:List AV} :∀ k,dr.S7 H0 Ri R0 aC aq aG av ax au ay az aN aA eT cM fh cN cO aF jK kQ kR na nb ng (dr.l7 F (bB.tw F) (gG.tw F) (gH.tw F)  k) (dr.pl7 F  k):=by
 intro k
 induction k with
 | zero=>unfold dr.S7;intros;rename_i hp;cases hp
 | succ k ih=>
  intro aD hU fa iG sY nx fW lU vW fV H Jo h0 r hp
  obtain ⟨w0,s0,rh⟩:=h0
  subst Jo
  unfold dr.pl7 at hp
  unfold dr.l7
  refine lI w0 2 ?_
  refine aK hp (λhp=>?_) λhp=>?_
  ·refine lB w0 0 ?_
   refine aK hp (λhp=>?_) λhp=>?_
   ·refine lI w0 2 ?_
    refine lI w0 2 ?_
    refine lSl w0 2 ?_
    refine lI w0 2 ?_
    refine lI w0 2 ?_
    refine lSl w0 2 ?_
    obtain ⟨w1,s1⟩:=w0.pp [1,0,2] 3
    have f2:=W.borrow1 eI w1 (rh.step s1)
    obtain ⟨w2,s2⟩:=w1.right1
    obtain ⟨r3,e3,hp⟩:=ah hp
    refine aM (bB.P rfl ⟨w2,f2⟩ e3) ?_
    rintro _ H4 ⟨rfl,w4,s4,_⟩
    obtain ⟨w5,s5⟩:=W.frame1 w1 w4 s4
    refine br ?_
    refine fJ (bp.tr (bp.refl _) s1 (W.cons_of (Rn:=[]) w2 w4 s4)) ?_
    refine lI w5 2 ?_
    refine lI w5 2 ?_
    refine lSl w5 2 ?_
    have f7:=W.borrow1 eI w5 (rh.step (s1.trans s5))
    obtain ⟨w7,s7⟩:=w5.right1
    obtain ⟨r8,e8,hp⟩:=ah hp
    refine aM (bB.P rfl ⟨w7,f7⟩ e8) ?_
    rintro _ H9 ⟨rfl,w9,s9,_⟩
    obtain ⟨w10,s10⟩:=W.frame1 w5 w9 s9
    refine br ?_
    refine fJ (W.cons_of (Rn:=[]) w7 w9 s9) ?_
    obtain ⟨r12,e12,hp⟩:=ah hp
    refine aM (gG.P ⟨w10,trivial⟩ e12) ?_
    rintro _ H13 ⟨rfl,w13,s13,_⟩
    refine br ?_
    refine fJ (W.cons_of (Rn:=[]) w10 w13 s13) ?_
    obtain ⟨w15,s15⟩:=w13.pp [1,0,2] 3
    obtain ⟨r16,e16,hp⟩:=ah hp
    refine aM (gH.P rfl ⟨w15,(rh.step (s1.trans (s5.trans (s10.trans (s13.trans s15)))))⟩ e16) ?_
    rintro _ H17 ⟨ab1,rfl,hl17_0,w17,s17,f17_0⟩
    exact ih hl17_0 ⟨w17,(s0.trans (s1.trans (s5.trans (s10.trans (s13.trans (s15.trans s17)))))),f17_0⟩ hp
   ·obtain ⟨w18,s18⟩:=w0.pp [0,1] 3
    exact aO hp ⟨_,rfl,rfl,w18,(s0.trans s18),(rh.step s18)⟩
  ·obtain ⟨w19,s19⟩:=w0.pp [0,1] 3
   exact aO hp ⟨_,rfl,rfl,w19,(s0.trans s19),(rh.step s19)⟩
def dr.p (F:Nat) (aD:Bool) (af:Int) (aw:Int) (iU:List Int) (cP:Int) (ef:Int) (dU:Int):Option (Bool×List Int):=dr.pl7 F F aD cP ef dU af aw iU 0
theorem dr.P {bG bi bI bu bj bf bv bw bU bz af aw cP ef dU:Int} {eR dz fb dA dB:Sl} {aD ji:Bool} {aa fQ:Nat} {im:ON} {io:Cap} {iU:List Int} {jj jk m_:List AV} (sX:fQ=iU.length) (h0:Inn H (Rs.blk aa [.i bG,.i bi,.sl eR,.i bI,.i bu,.sl dz,.i bj,.i bf,.sl fb,.i bv,.i bw,.sl dA,.i bU,.i bz,.sl dB,.bool aD]::Rs.ow ji ⟨im,fQ,io⟩ eI.z jj m_ jk::R0) λR=>CR eI H R m_ iU) {r:Bool×List Int} (hp:dr.p F aD af aw iU cP ef dU=some r):Rt (dr.tw F aa 0 af aw ⟨im,fQ,io⟩ cP ef dU H) (dr.Q H (Rs.blk aa [.i bG,.i bi,.sl eR,.i bI,.i bu,.sl dz,.i bj,.i bf,.sl fb,.i bv,.i bw,.sl dA,.i bU,.i bz,.sl dB,.bool aD]::Rs.ow ji ⟨im,fQ,io⟩ eI.z jj m_ jk::R0) R0 bG bi bI bu bj bf bv bw bU bz eR dz fb dA dB aa fQ im io ji jj jk r):=by
 obtain ⟨w0,rd⟩:=h0
 subst sX
 unfold dr.p at hp
 unfold dr.tw dr.twX
 have s0:=w0.rf
 refine bR w0 λH1 w1 s1=>?_
 obtain ⟨w2,s2⟩:=w1.pp [1,2,0] 3
 exact dr.l7_P F rfl ⟨w2,(s0.trans (s1.trans s2)),(rd.step (s1.trans s2))⟩ hp
def gT.Q (H0:Hp) (Ri R0:List Rs) (bG bi bI bu bj bf bv bw bU bz:Int) (cS eJ cH:ON) (cb dC bX aa:Nat) (cT eM cI:Cap) (fx gn fy:Bool) (fz fA gr gu fB fC:List AV) (dA dB:Sl) (r:List Int×List Int×List Int×Bool) (v:AV) (H':Hp):Prop:=∃ kO:List AV,∃ l_:List AV,∃ kP:List AV,v=(.tup [])/\cb=(r.1).length/\dC=(r.2.1).length/\bX=(r.2.2.1).length/\Out H0 Ri H' (Rs.ow fx ⟨cS,cb,cT⟩ eI.z fz kO fA::Rs.ow gn ⟨eJ,dC,eM⟩ eI.z gr l_ gu::Rs.ow fy ⟨cH,bX,cI⟩ eI.z fB kP fC::Rs.blk aa [.i bG,.i bi,.sl ⟨cS,cb,cT⟩,.i bI,.i bu,.sl ⟨eJ,dC,eM⟩,.i bj,.i bf,.sl ⟨cH,bX,cI⟩,.i bv,.i bw,.sl dA,.i bU,.i bz,.sl dB,.bool (r.2.2.2)]::R0) λR=>CR eI H' R kO (r.1)/\CR eI H' R l_ (r.2.1)/\CR eI H' R kP (r.2.2.1)
def gT.p (F:Nat) (bi:Int) (el:List Int) (bu:Int) (ga:List Int) (bj:Int) (bf:Int) (dG:List Int) (aD:Bool) (af:Int) (cf:Int) (dH:Int):Option (List Int×List Int×List Int×Bool):=(bif (dH != 0) then ((dp.p F aD bi el af cf dH).bind λr2=>(dp.p F r2.1 bu ga af cf dH).bind λr5=>(dr.p F r5.1 bj bf dG cf af (IntKind.i64.wrap (0 - dH))).bind λr8=>some (r2.2,r5.2,r8.2,r8.1)) else (some (el,ga,dG,aD)))
theorem gT.P {bG bi bI bu bj bf bv bw bU bz af cf dH:Int} {cS eJ cH:ON} {cb dC bX aa:Nat} {cT eM cI:Cap} {el ga dG:List Int} {fx gn fy aD:Bool} {fz fA iS gr gu jH fB fC iT:List AV} {dA dB:Sl} (mZ:cb=el.length) (qg:dC=ga.length) (lT:bX=dG.length) (h0:Inn H (Rs.ow fx ⟨cS,cb,cT⟩ eI.z fz iS fA::Rs.ow gn ⟨eJ,dC,eM⟩ eI.z gr jH gu::Rs.ow fy ⟨cH,bX,cI⟩ eI.z fB iT fC::Rs.blk aa [.i bG,.i bi,.sl ⟨cS,cb,cT⟩,.i bI,.i bu,.sl ⟨eJ,dC,eM⟩,.i bj,.i bf,.sl ⟨cH,bX,cI⟩,.i bv,.i bw,.sl dA,.i bU,.i bz,.sl dB,.bool aD]::R0) λR=>CR eI H R iS el/\CR eI H R jH ga/\CR eI H R iT dG) {r:List Int×List Int×List Int×Bool} (hp:gT.p F bi el bu ga bj bf dG aD af cf dH=some r):Rt (gT.tw F aa 0 af cf dH H) (gT.Q H (Rs.ow fx ⟨cS,cb,cT⟩ eI.z fz iS fA::Rs.ow gn ⟨eJ,dC,eM⟩ eI.z gr jH gu::Rs.ow fy ⟨cH,bX,cI⟩ eI.z fB iT fC::Rs.blk aa [.i bG,.i bi,.sl ⟨cS,cb,cT⟩,.i bI,.i bu,.sl ⟨eJ,dC,eM⟩,.i bj,.i bf,.sl ⟨cH,bX,cI⟩,.i bv,.i bw,.sl dA,.i bU,.i bz,.sl dB,.bool aD]::R0) R0 bG bi bI bu bj bf bv bw bU bz cS eJ cH cb dC bX aa cT eM cI fx gn fy fz fA gr gu fB fC dA dB r):=by
 obtain ⟨w0,k_,o_,ko⟩:=h0
 subst mZ
 subst qg
 subst lT
 unfold gT.p at hp
 unfold gT.tw gT.twX
 have s0:=w0.rf
 refine aK hp (λhp=>?_) λhp=>?_
 ·refine lI w0 3 ?_
  refine lI w0 3 ?_
  refine lSl w0 3 ?_
  obtain ⟨w1,s1⟩:=w0.pp [3,0,1,2] 4
  obtain ⟨r2,e2,hp⟩:=ah hp
  refine aM (dp.P rfl ⟨w1,(k_.step s1)⟩ e2) ?_
  rintro _ H3 ⟨Jp,rfl,hl3_0,w3,s3,f3_0⟩
  refine lI w3 0 ?_
  refine lI w3 0 ?_
  refine lSl w3 0 ?_
  obtain ⟨w4,s4⟩:=w3.pp [0,2,1,3] 4
  obtain ⟨r5,e5,hp⟩:=ah hp
  refine aM (dp.P rfl ⟨w4,(o_.step (s1.trans (s3.trans s4)))⟩ e5) ?_
  rintro _ H6 ⟨Jq,rfl,hl6_0,w6,s6,f6_0⟩
  refine lI w6 0 ?_
  refine lI w6 0 ?_
  refine lSl w6 0 ?_
  obtain ⟨w7,s7⟩:=w6.pp [0,3,1,2] 4
  obtain ⟨r8,e8,hp⟩:=ah hp
  refine aM (dr.P rfl ⟨w7,(ko.step (s1.trans (s3.trans (s4.trans (s6.trans s7)))))⟩ e8) ?_
  rintro _ H9 ⟨Jr,rfl,hl9_0,w9,s9,f9_0⟩
  obtain ⟨w10,s10⟩:=w9.pp [3,2,1,0] 4
  exact aO hp ⟨_,_,_,rfl,hl3_0,hl6_0,hl9_0,w10,(s0.trans (s1.trans (s3.trans (s4.trans (s6.trans (s7.trans (s9.trans s10))))))),(f3_0.step (s4.trans (s6.trans (s7.trans (s9.trans s10))))),(f6_0.step (s7.trans (s9.trans s10))),(f9_0.step s10)⟩
 ·exact aO hp ⟨_,_,_,rfl,rfl,rfl,rfl,w0,s0,k_,o_,ko⟩
def hY.Q (H0:Hp) (Ri R0:List Rs) (bG bi bI bu bj bf bv bw bU bz:Int) (cS eK eL:ON) (cb dD dE aa:Nat) (cT eN eO:Cap) (fx gp gq:Bool) (fz fA gv gw gy gz:List AV) (dz fb:Sl) (r:List Int×List Int×List Int×Bool) (v:AV) (H':Hp):Prop:=∃ kO:List AV,∃ ma:List AV,∃ mb:List AV,v=(.tup [])/\cb=(r.1).length/\dD=(r.2.1).length/\dE=(r.2.2.1).length/\Out H0 Ri H' (Rs.ow fx ⟨cS,cb,cT⟩ eI.z fz kO fA::Rs.ow gp ⟨eK,dD,eN⟩ eI.z gv ma gw::Rs.ow gq ⟨eL,dE,eO⟩ eI.z gy mb gz::Rs.blk aa [.i bG,.i bi,.sl ⟨cS,cb,cT⟩,.i bI,.i bu,.sl dz,.i bj,.i bf,.sl fb,.i bv,.i bw,.sl ⟨eK,dD,eN⟩,.i bU,.i bz,.sl ⟨eL,dE,eO⟩,.bool (r.2.2.2)]::R0) λR=>CR eI H' R kO (r.1)/\CR eI H' R ma (r.2.1)/\CR eI H' R mb (r.2.2.1)
def hY.p (F:Nat) (bG:Int) (bi:Int) (el:List Int) (bv:Int) (bw:Int) (gb:List Int) (bz:Int) (gc:List Int) (aD:Bool) (af:Int) (cf:Int) (dH:Int):Option (List Int×List Int×List Int×Bool):=(bif (dH != 0) then ((dr.p F aD bG bi el af cf dH).bind λr2=>(dr.p F r2.1 bv bw gb af cf dH).bind λr5=>(dp.p F r5.1 bz gc cf af (IntKind.i64.wrap (0 - dH))).bind λr8=>some (r2.2,r5.2,r8.2,r8.1)) else (some (el,gb,gc,aD)))
theorem hY.P {bG bi bI bu bj bf bv bw bU bz af cf dH:Int} {cS eK eL:ON} {cb dD dE aa:Nat} {cT eN eO:Cap} {el gb gc:List Int} {fx gp gq aD:Bool} {fz fA iS gv gw jI gy gz jJ:List AV} {dz fb:Sl} (mZ:cb=el.length) (qh:dD=gb.length) (qi:dE=gc.length) (h0:Inn H (Rs.ow fx ⟨cS,cb,cT⟩ eI.z fz iS fA::Rs.ow gp ⟨eK,dD,eN⟩ eI.z gv jI gw::Rs.ow gq ⟨eL,dE,eO⟩ eI.z gy jJ gz::Rs.blk aa [.i bG,.i bi,.sl ⟨cS,cb,cT⟩,.i bI,.i bu,.sl dz,.i bj,.i bf,.sl fb,.i bv,.i bw,.sl ⟨eK,dD,eN⟩,.i bU,.i bz,.sl ⟨eL,dE,eO⟩,.bool aD]::R0) λR=>CR eI H R iS el/\CR eI H R jI gb/\CR eI H R jJ gc) {r:List Int×List Int×List Int×Bool} (hp:hY.p F bG bi el bv bw gb bz gc aD af cf dH=some r):Rt (hY.tw F aa 0 af cf dH H) (hY.Q H (Rs.ow fx ⟨cS,cb,cT⟩ eI.z fz iS fA::Rs.ow gp ⟨eK,dD,eN⟩ eI.z gv jI gw::Rs.ow gq ⟨eL,dE,eO⟩ eI.z gy jJ gz::Rs.blk aa [.i bG,.i bi,.sl ⟨cS,cb,cT⟩,.i bI,.i bu,.sl dz,.i bj,.i bf,.sl fb,.i bv,.i bw,.sl ⟨eK,dD,eN⟩,.i bU,.i bz,.sl ⟨eL,dE,eO⟩,.bool aD]::R0) R0 bG bi bI bu bj bf bv bw bU bz cS eK eL cb dD dE aa cT eN eO fx gp gq fz fA gv gw gy gz dz fb r):=by
 obtain ⟨w0,k_,pa,pb⟩:=h0
 subst mZ
 subst qh
 subst qi
 unfold hY.p at hp
 unfold hY.tw hY.twX
 have s0:=w0.rf
 refine aK hp (λhp=>?_) λhp=>?_
 ·refine lI w0 3 ?_
  refine lI w0 3 ?_
  refine lSl w0 3 ?_
  obtain ⟨w1,s1⟩:=w0.pp [3,0,1,2] 4
  obtain ⟨r2,e2,hp⟩:=ah hp
  refine aM (dr.P rfl ⟨w1,(k_.step s1)⟩ e2) ?_
  rintro _ H3 ⟨Jp,rfl,hl3_0,w3,s3,f3_0⟩
  refine lI w3 0 ?_
  refine lI w3 0 ?_
  refine lSl w3 0 ?_
  obtain ⟨w4,s4⟩:=w3.pp [0,2,1,3] 4
  obtain ⟨r5,e5,hp⟩:=ah hp
  refine aM (dr.P rfl ⟨w4,(pa.step (s1.trans (s3.trans s4)))⟩ e5) ?_
  rintro _ H6 ⟨Jq,rfl,hl6_0,w6,s6,f6_0⟩
  refine lI w6 0 ?_
  refine lI w6 0 ?_
  refine lSl w6 0 ?_
  obtain ⟨w7,s7⟩:=w6.pp [0,3,1,2] 4
  obtain ⟨r8,e8,hp⟩:=ah hp
  refine aM (dp.P rfl ⟨w7,(pb.step (s1.trans (s3.trans (s4.trans (s6.trans s7)))))⟩ e8) ?_
  rintro _ H9 ⟨Jr,rfl,hl9_0,w9,s9,f9_0⟩
  obtain ⟨w10,s10⟩:=w9.pp [3,2,1,0] 4
  exact aO hp ⟨_,_,_,rfl,hl3_0,hl6_0,hl9_0,w10,(s0.trans (s1.trans (s3.trans (s4.trans (s6.trans (s7.trans (s9.trans s10))))))),(f3_0.step (s4.trans (s6.trans (s7.trans (s9.trans s10))))),(f6_0.step (s7.trans (s9.trans s10))),(f9_0.step s10)⟩
 ·exact aO hp ⟨_,_,_,rfl,rfl,rfl,rfl,w0,s0,k_,pa,pb⟩
def bY.Q (H0:Hp) (Ri R0:List Rs) (bG bi bI bu bj bf bv bw bU bz:Int) (cS:ON) (cb aa:Nat) (cT:Cap) (el:List Int) (dz fb dA dB:Sl) (aD:Bool) (r:Bool) (v:AV) (H':Hp):Prop:=v=(.bool r)/\Out H0 Ri H' (Rs.blk aa [.i bG,.i bi,.sl ⟨cS,cb,cT⟩,.i bI,.i bu,.sl dz,.i bj,.i bf,.sl fb,.i bv,.i bw,.sl dA,.i bU,.i bz,.sl dB,.bool aD]::R0) λR=>True
def bY.S13 (H0:Hp) (Ri R0:List Rs) (aC aq aG av ax au ay az aN aA:Int) (a_:ON) (aL aF:Nat) (ba:Cap) (cF:List Int) (cM fh cN cO:Sl) (bV:Bool) (C:Nat->Nat->Int->Int->Hp->OA) (pC:Int->Int->List Int->Int->Int->Option (Bool)):Prop:=∀ {fd fk:Int},∀ {H:Hp},aL=cF.length->(Out H0 Ri H (Rs.blk aF [.i aC,.i aq,.sl ⟨a_,aL,ba⟩,.i aG,.i av,.sl cM,.i ax,.i au,.sl fh,.i ay,.i az,.sl cN,.i aN,.i aA,.sl cO,.bool bV]::R0) λR=>ROs eI H R ⟨a_,aL,ba⟩ cF)->∀ {r:Bool},pC aC aq cF fd fk=some r->Rt (C aF 0 fd fk H) (bY.Q H0 Ri R0 aC aq aG av ax au ay az aN aA a_ aL aF ba cF cM fh cN cO bV r)
def bY.S29 (H0:Hp) (Ri R0:List Rs) (aC aq aG av ax au ay az aN aA:Int) (a_:ON) (aL aF:Nat) (ba:Cap) (cF:List Int) (cM fh cN cO:Sl) (bV:Bool) (C:Nat->Nat->Int->Int->Hp->OA) (pC:Int->List Int->Int->Int->Option (Bool)):Prop:=∀ {oB nE:Int},∀ {H:Hp},aL=cF.length->(Out H0 Ri H (Rs.blk aF [.i aC,.i aq,.sl ⟨a_,aL,ba⟩,.i aG,.i av,.sl cM,.i ax,.i au,.sl fh,.i ay,.i az,.sl cN,.i aN,.i aA,.sl cO,.bool bV]::R0) λR=>ROs eI H R ⟨a_,aL,ba⟩ cF)->∀ {r:Bool},pC aq cF oB nE=some r->Rt (C aF 0 oB nE H) (bY.Q H0 Ri R0 aC aq aG av ax au ay az aN aA a_ aL aF ba cF cM fh cN cO bV r)
def bY.pl29 (F:Nat) :Nat->Int->List Int->Int->Int->Option (Bool)
 | 0,_,_,_,_=>none
 | k+1,aq,cF,oB,nE=>(bif (decide (nE<aq)) then ((bB.p F aq cF oB nE).bind λr1=>(bif (r1 != 0) then (some false) else (bY.pl29 F k aq cF oB (IntKind.i64.wrap (nE+1))))) else (some true))
theorem bY.l29_P {aC aq aG av ax au ay az aN aA:Int} {a_:ON} {aL aF:Nat} {ba:Cap} {cF:List Int} {cM fh cN cO:Sl} {bV:Bool} :∀ k,bY.S29 H0 Ri R0 aC aq aG av ax au ay az aN aA a_ aL aF ba cF cM fh cN cO bV (bY.l29 F (bB.tw F)  k) (bY.pl29 F  k):=by
 intro k
 induction k with
 | zero=>unfold bY.S29;intros;rename_i hp;cases hp
 | succ k ih=>
  intro oB nE H qj h0 r hp
  obtain ⟨w0,s0,nh⟩:=h0
  subst qj
  unfold bY.pl29 at hp
  unfold bY.l29
  refine lI w0 0 ?_
  refine aK hp (λhp=>?_) λhp=>?_
  ·refine lI w0 0 ?_
   refine lI w0 0 ?_
   refine lSl w0 0 ?_
   obtain ⟨r1,e1,hp⟩:=ah hp
   refine aM (bB.P rfl ⟨w0,nh⟩ e1) ?_
   rintro _ H2 ⟨rfl,w2,s2,_⟩
   refine br ?_
   refine aK hp (λhp=>?_) λhp=>?_
   ·exact aO hp ⟨rfl,w2,(s0.trans s2),trivial⟩
   ·exact ih rfl ⟨w2,(s0.trans s2),(nh.step s2)⟩ hp
  ·exact aO hp ⟨rfl,w0,s0,trivial⟩
def bY.pj1 (F:Nat)  (aq:Int) (cF:List Int) (tD:Int):Option (Bool):=bY.pl29 F F aq cF tD (IntKind.i64.wrap (tD+1))
theorem bY.j1_P {aC aq aG av ax au ay az aN aA:Int} {a_:ON} {aL aF:Nat} {ba:Cap} {cF:List Int} {cM fh cN cO:Sl} {bV:Bool}  {tD:Int} (qj:aL=cF.length) (h0:Out H0 Ri H (Rs.blk aF [.i aC,.i aq,.sl ⟨a_,aL,ba⟩,.i aG,.i av,.sl cM,.i ax,.i au,.sl fh,.i ay,.i az,.sl cN,.i aN,.i aA,.sl cO,.bool bV]::R0) λR=>ROs eI H R ⟨a_,aL,ba⟩ cF) {r:Bool} (hp:bY.pj1 F  aq cF tD=some r):Rt (bY.j1 F (bB.tw F)  aF 0 tD H) (bY.Q H0 Ri R0 aC aq aG av ax au ay az aN aA a_ aL aF ba cF cM fh cN cO bV r):=by
 obtain ⟨w0,s0,nh⟩:=h0
 subst qj
 unfold bY.pj1 at hp
 unfold bY.j1
 exact bY.l29_P F rfl ⟨w0,s0,nh⟩ hp
def bY.pl13 (F:Nat) :Nat->Int->Int->List Int->Int->Int->Option (Bool)
 | 0,_,_,_,_,_=>none
 | k+1,aC,aq,cF,fd,fk=>(bif (decide (fk<aC)) then ((bB.p F aq cF fk fd).bind λr1=>(bif (r1 != 0) then (some false) else (bY.pl13 F k aC aq cF fd (IntKind.i64.wrap (fk+1))))) else (bY.pj1 F aq cF fd))
theorem bY.l13_P {aC aq aG av ax au ay az aN aA:Int} {a_:ON} {aL aF:Nat} {ba:Cap} {cF:List Int} {cM fh cN cO:Sl} {bV:Bool} :∀ k,bY.S13 H0 Ri R0 aC aq aG av ax au ay az aN aA a_ aL aF ba cF cM fh cN cO bV (bY.l13 F (bB.tw F)  k) (bY.pl13 F  k):=by
 intro k
 induction k with
 | zero=>unfold bY.S13;intros;rename_i hp;cases hp
 | succ k ih=>
  intro fd fk H qj h0 r hp
  obtain ⟨w0,s0,nh⟩:=h0
  subst qj
  unfold bY.pl13 at hp
  unfold bY.l13
  refine lI w0 0 ?_
  refine aK hp (λhp=>?_) λhp=>?_
  ·refine lI w0 0 ?_
   refine lI w0 0 ?_
   refine lSl w0 0 ?_
   obtain ⟨r1,e1,hp⟩:=ah hp
   refine aM (bB.P rfl ⟨w0,nh⟩ e1) ?_
   rintro _ H2 ⟨rfl,w2,s2,_⟩
   refine br ?_
   refine aK hp (λhp=>?_) λhp=>?_
   ·exact aO hp ⟨rfl,w2,(s0.trans s2),trivial⟩
   ·exact ih rfl ⟨w2,(s0.trans s2),(nh.step s2)⟩ hp
  ·exact bY.j1_P rfl ⟨w0,s0,nh⟩ hp
def bY.p (F:Nat) (bG:Int) (bi:Int) (el:List Int) (af:Int):Option (Bool):=bY.pl13 F F bG bi el af (IntKind.i64.wrap (af+1))
theorem bY.P {bG bi bI bu bj bf bv bw bU bz af:Int} {cS:ON} {cb aa:Nat} {cT:Cap} {el:List Int} {dz fb dA dB:Sl} {aD:Bool} (mZ:cb=el.length) (h0:Inn H (Rs.blk aa [.i bG,.i bi,.sl ⟨cS,cb,cT⟩,.i bI,.i bu,.sl dz,.i bj,.i bf,.sl fb,.i bv,.i bw,.sl dA,.i bU,.i bz,.sl dB,.bool aD]::R0) λR=>ROs eI H R ⟨cS,cb,cT⟩ el) {r:Bool} (hp:bY.p F bG bi el af=some r):Rt (bY.tw F aa 0 af H) (bY.Q H (Rs.blk aa [.i bG,.i bi,.sl ⟨cS,cb,cT⟩,.i bI,.i bu,.sl dz,.i bj,.i bf,.sl fb,.i bv,.i bw,.sl dA,.i bU,.i bz,.sl dB,.bool aD]::R0) R0 bG bi bI bu bj bf bv bw bU bz cS cb aa cT el dz fb dA dB aD r):=by
 obtain ⟨w0,k_⟩:=h0
 subst mZ
 unfold bY.p at hp
 unfold bY.tw bY.twX
 have s0:=w0.rf
 exact bY.l13_P F rfl ⟨w0,s0,k_⟩ hp
def bH.Q (H0:Hp) (Ri R0:List Rs) (bG bi bI bu bj bf bv bw bU bz:Int) (cS:ON) (cb aa:Nat) (cT:Cap) (el:List Int) (dz fb dA dB:Sl) (aD:Bool) (r:Int) (v:AV) (H':Hp):Prop:=v=(.i r)/\Out H0 Ri H' (Rs.blk aa [.i bG,.i bi,.sl ⟨cS,cb,cT⟩,.i bI,.i bu,.sl dz,.i bj,.i bf,.sl fb,.i bv,.i bw,.sl dA,.i bU,.i bz,.sl dB,.bool aD]::R0) λR=>True
def bH.S13 (H0:Hp) (Ri R0:List Rs) (aC aq aG av ax au ay az aN aA:Int) (a_:ON) (aL aF:Nat) (ba:Cap) (cF:List Int) (cM fh cN cO:Sl) (bV:Bool) (C:Nat->Nat->Int->Int->Hp->OA) (pC:Int->Int->List Int->Int->Int->Option (Int)):Prop:=∀ {fd fk:Int},∀ {H:Hp},aL=cF.length->(Out H0 Ri H (Rs.blk aF [.i aC,.i aq,.sl ⟨a_,aL,ba⟩,.i aG,.i av,.sl cM,.i ax,.i au,.sl fh,.i ay,.i az,.sl cN,.i aN,.i aA,.sl cO,.bool bV]::R0) λR=>ROs eI H R ⟨a_,aL,ba⟩ cF)->∀ {r:Int},pC aC aq cF fd fk=some r->Rt (C aF 0 fd fk H) (bH.Q H0 Ri R0 aC aq aG av ax au ay az aN aA a_ aL aF ba cF cM fh cN cO bV r)
def bH.S213 (H0:Hp) (Ri R0:List Rs) (aC aq aG av ax au ay az aN aA:Int) (a_:ON) (aL aF:Nat) (ba:Cap) (cF:List Int) (cM fh cN cO:Sl) (bV:Bool) (C:Nat->Nat->Int->Int->Int->Hp->OA) (pC:Int->Int->List Int->Int->Int->Int->Option (Int)):Prop:=∀ {mw mz nF:Int},∀ {H:Hp},aL=cF.length->(Out H0 Ri H (Rs.blk aF [.i aC,.i aq,.sl ⟨a_,aL,ba⟩,.i aG,.i av,.sl cM,.i ax,.i au,.sl fh,.i ay,.i az,.sl cN,.i aN,.i aA,.sl cO,.bool bV]::R0) λR=>ROs eI H R ⟨a_,aL,ba⟩ cF)->∀ {r:Int},pC aC aq cF mw mz nF=some r->Rt (C aF 0 mw mz nF H) (bH.Q H0 Ri R0 aC aq aG av ax au ay az aN aA a_ aL aF ba cF cM fh cN cO bV r)
def bH.pj3 (F:Nat) (g_:Int->Int->List Int->Int->Int->Option (Int)) (aC:Int) (aq:Int) (cF:List Int) (xV:Int) (xW:Int):Option (Int):=g_ aC aq cF xV (IntKind.i64.wrap (xW+1))
theorem bH.j3_P {aC aq aG av ax au ay az aN aA:Int} {a_:ON} {aL aF:Nat} {ba:Cap} {cF:List Int} {cM fh cN cO:Sl} {bV:Bool} {C13_:Nat->Nat->Int->Int->Hp->OA} {g_:Int->Int->List Int->Int->Int->Option (Int)} (hC13:bH.S13 H0 Ri R0 aC aq aG av ax au ay az aN aA a_ aL aF ba cF cM fh cN cO bV C13_ g_) {xV xW:Int} (qj:aL=cF.length) (h0:Out H0 Ri H (Rs.blk aF [.i aC,.i aq,.sl ⟨a_,aL,ba⟩,.i aG,.i av,.sl cM,.i ax,.i au,.sl fh,.i ay,.i az,.sl cN,.i aN,.i aA,.sl cO,.bool bV]::R0) λR=>ROs eI H R ⟨a_,aL,ba⟩ cF) {r:Int} (hp:bH.pj3 F g_ aC aq cF xV xW=some r):Rt (bH.j3 F (bB.tw F) C13_ aF 0 xV xW H) (bH.Q H0 Ri R0 aC aq aG av ax au ay az aN aA a_ aL aF ba cF cM fh cN cO bV r):=by
 obtain ⟨w0,s0,nh⟩:=h0
 subst qj
 unfold bH.pj3 at hp
 unfold bH.j3
 exact hC13 rfl ⟨w0,s0,nh⟩ hp
def bH.pj4 (F:Nat) (g_:Int->Int->List Int->Int->Int->Option (Int)) (aC:Int) (aq:Int) (cF:List Int) (xX:Int) (tE:Int):Option (Int):=bH.pj3 F g_ aC aq cF xX tE
theorem bH.j4_P {aC aq aG av ax au ay az aN aA:Int} {a_:ON} {aL aF:Nat} {ba:Cap} {cF:List Int} {cM fh cN cO:Sl} {bV:Bool} {C13_:Nat->Nat->Int->Int->Hp->OA} {g_:Int->Int->List Int->Int->Int->Option (Int)} (hC13:bH.S13 H0 Ri R0 aC aq aG av ax au ay az aN aA a_ aL aF ba cF cM fh cN cO bV C13_ g_) {xX tE:Int} (qj:aL=cF.length) (h0:Out H0 Ri H (Rs.blk aF [.i aC,.i aq,.sl ⟨a_,aL,ba⟩,.i aG,.i av,.sl cM,.i ax,.i au,.sl fh,.i ay,.i az,.sl cN,.i aN,.i aA,.sl cO,.bool bV]::R0) λR=>ROs eI H R ⟨a_,aL,ba⟩ cF) {r:Int} (hp:bH.pj4 F g_ aC aq cF xX tE=some r):Rt (bH.j4 F (bB.tw F) C13_ aF 0 xX tE H) (bH.Q H0 Ri R0 aC aq aG av ax au ay az aN aA a_ aL aF ba cF cM fh cN cO bV r):=by
 obtain ⟨w0,s0,nh⟩:=h0
 subst qj
 unfold bH.pj4 at hp
 unfold bH.j4
 exact bH.j3_P (@hC13) rfl ⟨w0,s0,nh⟩ hp
def bH.pl213 (F:Nat) (g_:Int->Int->List Int->Int->Int->Option (Int)):Nat->Int->Int->List Int->Int->Int->Int->Option (Int)
 | 0,_,_,_,_,_,_=>none
 | k+1,aC,aq,cF,mw,mz,nF=>(bif (decide (nF<aq)) then ((bB.p F aq cF mz nF).bind λr1=>(bB.p F aq cF mw mw).bind λr4=>(if r4=0 then none else ((bif ((Int.tmod r1 r4) != 0) then (some mz) else (bH.pl213 F g_ k aC aq cF mw mz (IntKind.i64.wrap (nF+1))))))) else (bH.pj4 F g_ aC aq cF mw mz))
theorem bH.l213_P {aC aq aG av ax au ay az aN aA:Int} {a_:ON} {aL aF:Nat} {ba:Cap} {cF:List Int} {cM fh cN cO:Sl} {bV:Bool} {C13_:Nat->Nat->Int->Int->Hp->OA} {g_:Int->Int->List Int->Int->Int->Option (Int)} (hC13:bH.S13 H0 Ri R0 aC aq aG av ax au ay az aN aA a_ aL aF ba cF cM fh cN cO bV C13_ g_):∀ k,bH.S213 H0 Ri R0 aC aq aG av ax au ay az aN aA a_ aL aF ba cF cM fh cN cO bV (bH.l213 F (bB.tw F) C13_ k) (bH.pl213 F g_ k):=by
 intro k
 induction k with
 | zero=>unfold bH.S213;intros;rename_i hp;cases hp
 | succ k ih=>
  intro mw mz nF H qj h0 r hp
  obtain ⟨w0,s0,nh⟩:=h0
  subst qj
  unfold bH.pl213 at hp
  unfold bH.l213
  refine lI w0 0 ?_
  refine aK hp (λhp=>?_) λhp=>?_
  ·refine lI w0 0 ?_
   refine lI w0 0 ?_
   refine lSl w0 0 ?_
   obtain ⟨r1,e1,hp⟩:=ah hp
   refine aM (bB.P rfl ⟨w0,nh⟩ e1) ?_
   rintro _ H2 ⟨rfl,w2,s2,_⟩
   refine br ?_
   refine fJ (W.cons_of (Rn:=[]) w0 w2 s2) ?_
   refine lI w2 0 ?_
   refine lI w2 0 ?_
   refine lSl w2 0 ?_
   obtain ⟨r4,e4,hp⟩:=ah hp
   refine aM (bB.P rfl ⟨w2,(nh.step s2)⟩ e4) ?_
   rintro _ H5 ⟨rfl,w5,s5,_⟩
   refine br ?_
   obtain ⟨g6,hp⟩:=rW hp
   refine rX g6 ?_
   refine aK hp (λhp=>?_) λhp=>?_
   ·exact aO hp ⟨rfl,w5,(s0.trans (s2.trans s5)),trivial⟩
   ·exact ih rfl ⟨w5,(s0.trans (s2.trans s5)),(nh.step (s2.trans s5))⟩ hp
  ·exact bH.j4_P (@hC13) rfl ⟨w0,s0,nh⟩ hp
def bH.pl13 (F:Nat) :Nat->Int->Int->List Int->Int->Int->Option (Int)
 | 0,_,_,_,_,_=>none
 | k+1,aC,aq,cF,fd,fk=>(bif (decide (fk<aC)) then (bH.pl213 F (bH.pl13 F k) F aC aq cF fd fk (IntKind.i64.wrap (fd+1))) else (some (-1)))
theorem bH.l13_P {aC aq aG av ax au ay az aN aA:Int} {a_:ON} {aL aF:Nat} {ba:Cap} {cF:List Int} {cM fh cN cO:Sl} {bV:Bool} :∀ k,bH.S13 H0 Ri R0 aC aq aG av ax au ay az aN aA a_ aL aF ba cF cM fh cN cO bV (bH.l13 F (bB.tw F)  k) (bH.pl13 F  k):=by
 intro k
 induction k with
 | zero=>unfold bH.S13;intros;rename_i hp;cases hp
 | succ k ih=>
  intro fd fk H qj h0 r hp
  obtain ⟨w0,s0,nh⟩:=h0
  subst qj
  unfold bH.pl13 at hp
  unfold bH.l13
  refine lI w0 0 ?_
  refine aK hp (λhp=>?_) λhp=>?_
  ·exact bH.l213_P (@ih) F rfl ⟨w0,s0,nh⟩ hp
  ·exact aO hp ⟨rfl,w0,s0,trivial⟩
def bH.p (F:Nat) (bG:Int) (bi:Int) (el:List Int) (af:Int):Option (Int):=bH.pl13 F F bG bi el af (IntKind.i64.wrap (af+1))
theorem bH.P {bG bi bI bu bj bf bv bw bU bz af:Int} {cS:ON} {cb aa:Nat} {cT:Cap} {el:List Int} {dz fb dA dB:Sl} {aD:Bool} (mZ:cb=el.length) (h0:Inn H (Rs.blk aa [.i bG,.i bi,.sl ⟨cS,cb,cT⟩,.i bI,.i bu,.sl dz,.i bj,.i bf,.sl fb,.i bv,.i bw,.sl dA,.i bU,.i bz,.sl dB,.bool aD]::R0) λR=>ROs eI H R ⟨cS,cb,cT⟩ el) {r:Int} (hp:bH.p F bG bi el af=some r):Rt (bH.tw F aa 0 af H) (bH.Q H (Rs.blk aa [.i bG,.i bi,.sl ⟨cS,cb,cT⟩,.i bI,.i bu,.sl dz,.i bj,.i bf,.sl fb,.i bv,.i bw,.sl dA,.i bU,.i bz,.sl dB,.bool aD]::R0) R0 bG bi bI bu bj bf bv bw bU bz cS cb aa cT el dz fb dA dB aD r):=by
 obtain ⟨w0,k_⟩:=h0
 subst mZ
 unfold bH.p at hp
 unfold bH.tw bH.twX
 have s0:=w0.rf
 exact bH.l13_P F rfl ⟨w0,s0,k_⟩ hp
def bs.Q (H0:Hp) (Ri R0:List Rs) (bG bi bI bu bj bf bv bw bU bz:Int) (cS eJ cH eK eL:ON) (cb dC bX dD dE aa:Nat) (cT eM cI eN eO:Cap) (fx gn fy gp gq:Bool) (fz fA gr gu fB fC gv gw gy gz:List AV) (r:Bool×Bool×List Int×List Int×List Int×List Int×List Int×Bool) (v:AV) (H':Hp):Prop:=∃ kO:List AV,∃ l_:List AV,∃ kP:List AV,∃ ma:List AV,∃ mb:List AV,v=(.tup [(.bool r.1),(.bool r.2.1)])/\cb=(r.2.2.1).length/\dC=(r.2.2.2.1).length/\bX=(r.2.2.2.2.1).length/\dD=(r.2.2.2.2.2.1).length/\dE=(r.2.2.2.2.2.2.1).length/\Out H0 Ri H' (Rs.ow fx ⟨cS,cb,cT⟩ eI.z fz kO fA::Rs.ow gn ⟨eJ,dC,eM⟩ eI.z gr l_ gu::Rs.ow fy ⟨cH,bX,cI⟩ eI.z fB kP fC::Rs.ow gp ⟨eK,dD,eN⟩ eI.z gv ma gw::Rs.ow gq ⟨eL,dE,eO⟩ eI.z gy mb gz::Rs.blk aa [.i bG,.i bi,.sl ⟨cS,cb,cT⟩,.i bI,.i bu,.sl ⟨eJ,dC,eM⟩,.i bj,.i bf,.sl ⟨cH,bX,cI⟩,.i bv,.i bw,.sl ⟨eK,dD,eN⟩,.i bU,.i bz,.sl ⟨eL,dE,eO⟩,.bool (r.2.2.2.2.2.2.2)]::R0) λR=>CR eI H' R kO (r.2.2.1)/\CR eI H' R l_ (r.2.2.2.1)/\CR eI H' R kP (r.2.2.2.2.1)/\CR eI H' R ma (r.2.2.2.2.2.1)/\CR eI H' R mb (r.2.2.2.2.2.2.1)
def bs.S29 (H0:Hp) (Ri R0:List Rs) (aC aq aG av ax au ay az aN aA:Int) (a_ bL aS bM bN:ON) (aL bk aH bl bm aF:Nat) (ba bO aT bP bQ:Cap) (ch ci cj ck cl:Bool) (cn co cp cq ct cu cv cw cz cA:List AV) (C:Nat->Nat->Int->Int->Hp->OA) (pC:Int->Int->List Int->Int->List Int->Int->Int->List Int->Int->Int->List Int->Int->List Int->Bool->Int->Int->Option (Bool×Bool×List Int×List Int×List Int×List Int×List Int×Bool)):Prop:=∀ {aQ aU aR aX aY:List Int} {df dg dh di dj:List AV} {aD:Bool} {dl mB:Int},∀ {H:Hp},aL=aQ.length->bk=aU.length->aH=aR.length->bl=aX.length->bm=aY.length->(Out H0 Ri H (Rs.ow ch ⟨a_,aL,ba⟩ eI.z cn df co::Rs.ow ci ⟨bL,bk,bO⟩ eI.z cp dg cq::Rs.ow cj ⟨aS,aH,aT⟩ eI.z ct dh cu::Rs.ow ck ⟨bM,bl,bP⟩ eI.z cv di cw::Rs.ow cl ⟨bN,bm,bQ⟩ eI.z cz dj cA::Rs.blk aF [.i aC,.i aq,.sl ⟨a_,aL,ba⟩,.i aG,.i av,.sl ⟨bL,bk,bO⟩,.i ax,.i au,.sl ⟨aS,aH,aT⟩,.i ay,.i az,.sl ⟨bM,bl,bP⟩,.i aN,.i aA,.sl ⟨bN,bm,bQ⟩,.bool aD]::R0) λR=>CR eI H R df aQ/\CR eI H R dg aU/\CR eI H R dh aR/\CR eI H R di aX/\CR eI H R dj aY)->∀ {r:Bool×Bool×List Int×List Int×List Int×List Int×List Int×Bool},pC aC aq aQ av aU ax au aR ay az aX aA aY aD dl mB=some r->Rt (C aF 0 dl mB H) (bs.Q H0 Ri R0 aC aq aG av ax au ay az aN aA a_ bL aS bM bN aL bk aH bl bm aF ba bO aT bP bQ ch ci cj ck cl cn co cp cq ct cu cv cw cz cA r)
def bs.S61 (H0:Hp) (Ri R0:List Rs) (aC aq aG av ax au ay az aN aA:Int) (a_ bL aS bM bN:ON) (aL bk aH bl bm aF:Nat) (ba bO aT bP bQ:Cap) (ch ci cj ck cl:Bool) (cn co cp cq ct cu cv cw cz cA:List AV) (C:Nat->Nat->Int->Int->Hp->OA) (pC:Int->Int->List Int->Int->List Int->Int->Int->List Int->Int->Int->List Int->Int->List Int->Bool->Int->Int->Option (Bool×Bool×List Int×List Int×List Int×List Int×List Int×Bool)):Prop:=∀ {aQ aU aR aX aY:List Int} {df dg dh di dj:List AV} {aD:Bool} {jW mA:Int},∀ {H:Hp},aL=aQ.length->bk=aU.length->aH=aR.length->bl=aX.length->bm=aY.length->(Out H0 Ri H (Rs.ow ch ⟨a_,aL,ba⟩ eI.z cn df co::Rs.ow ci ⟨bL,bk,bO⟩ eI.z cp dg cq::Rs.ow cj ⟨aS,aH,aT⟩ eI.z ct dh cu::Rs.ow ck ⟨bM,bl,bP⟩ eI.z cv di cw::Rs.ow cl ⟨bN,bm,bQ⟩ eI.z cz dj cA::Rs.blk aF [.i aC,.i aq,.sl ⟨a_,aL,ba⟩,.i aG,.i av,.sl ⟨bL,bk,bO⟩,.i ax,.i au,.sl ⟨aS,aH,aT⟩,.i ay,.i az,.sl ⟨bM,bl,bP⟩,.i aN,.i aA,.sl ⟨bN,bm,bQ⟩,.bool aD]::R0) λR=>CR eI H R df aQ/\CR eI H R dg aU/\CR eI H R dh aR/\CR eI H R di aX/\CR eI H R dj aY)->∀ {r:Bool×Bool×List Int×List Int×List Int×List Int×List Int×Bool},pC aC aq aQ av aU ax au aR ay az aX aA aY aD jW mA=some r->Rt (C aF 0 jW mA H) (bs.Q H0 Ri R0 aC aq aG av ax au ay az aN aA a_ bL aS bM bN aL bk aH bl bm aF ba bO aT bP bQ ch ci cj ck cl cn co cp cq ct cu cv cw cz cA r)
def bs.pj1 (F:Nat)  (aC:Int) (aq:Int) (aQ:List Int) (av:Int) (aU:List Int) (ax:Int) (au:Int) (aR:List Int) (aX:List Int) (aY:List Int) (aD:Bool) (rC:Int):Option (Bool×Bool×List Int×List Int×List Int×List Int×List Int×Bool):=(bif aD then (some (false,false,aQ,aU,aR,aX,aY,aD)) else ((bY.p F aC aq aQ rC).bind λr3=>(bif (!r3) then (some (false,false,aQ,aU,aR,aX,aY,aD)) else ((bH.p F aC aq aQ rC).bind λr8=>(bif (decide (r8<0)) then (some (true,false,aQ,aU,aR,aX,aY,aD)) else ((gT.p F aq aQ av aU ax au aR aD rC r8 (-1)).bind λr13=>some (false,false,r13.1,r13.2.1,r13.2.2.1,aX,aY,r13.2.2.2)))))))
theorem bs.j1_P {aC aq aG av ax au ay az aN aA:Int} {a_ bL aS bM bN:ON} {aL bk aH bl bm aF:Nat} {ba bO aT bP bQ:Cap} {ch ci cj ck cl:Bool} {cn co cp cq ct cu cv cw cz cA:List AV}  {aQ aU aR aX aY:List Int} {df dg dh di dj:List AV} {aD:Bool} {rC:Int} (fD:aL=aQ.length) (fE:bk=aU.length) (fF:aH=aR.length) (fG:bl=aX.length) (fH:bm=aY.length) (h0:Out H0 Ri H (Rs.ow ch ⟨a_,aL,ba⟩ eI.z cn df co::Rs.ow ci ⟨bL,bk,bO⟩ eI.z cp dg cq::Rs.ow cj ⟨aS,aH,aT⟩ eI.z ct dh cu::Rs.ow ck ⟨bM,bl,bP⟩ eI.z cv di cw::Rs.ow cl ⟨bN,bm,bQ⟩ eI.z cz dj cA::Rs.blk aF [.i aC,.i aq,.sl ⟨a_,aL,ba⟩,.i aG,.i av,.sl ⟨bL,bk,bO⟩,.i ax,.i au,.sl ⟨aS,aH,aT⟩,.i ay,.i az,.sl ⟨bM,bl,bP⟩,.i aN,.i aA,.sl ⟨bN,bm,bQ⟩,.bool aD]::R0) λR=>CR eI H R df aQ/\CR eI H R dg aU/\CR eI H R dh aR/\CR eI H R di aX/\CR eI H R dj aY) {r:Bool×Bool×List Int×List Int×List Int×List Int×List Int×Bool} (hp:bs.pj1 F  aC aq aQ av aU ax au aR aX aY aD rC=some r):Rt (bs.j1 F (aE.tw F) (bB.tw F) (ii.tw F) (gT.tw F) (hY.tw F) (bY.tw F) (bH.tw F)  aF 0 rC H) (bs.Q H0 Ri R0 aC aq aG av ax au ay az aN aA a_ bL aS bM bN aL bk aH bl bm aF ba bO aT bP bQ ch ci cj ck cl cn co cp cq ct cu cv cw cz cA r):=by
 obtain ⟨w0,s0,dk,dJ,dy,dX,dY⟩:=h0
 subst fD
 subst fE
 subst fF
 subst fG
 subst fH
 unfold bs.pj1 at hp
 unfold bs.j1
 refine lB w0 5 ?_
 refine aK hp (λhp=>?_) λhp=>?_
 ·exact aO hp ⟨_,_,_,_,_,rfl,rfl,rfl,rfl,rfl,rfl,w0,s0,dk,dJ,dy,dX,dY⟩
 ·obtain ⟨w1,s1⟩:=w0.pp [0,5,1,2,3,4] 6
  have f2:=W.borrow1 eI w1 (dk.step s1)
  obtain ⟨w2,s2⟩:=w1.right1
  obtain ⟨r3,e3,hp⟩:=ah hp
  refine aM (bY.P rfl ⟨w2,f2⟩ e3) ?_
  rintro _ H4 ⟨rfl,w4,s4,_⟩
  obtain ⟨w5,s5⟩:=W.frame1 w1 w4 s4
  refine br ?_
  refine aK hp (λhp=>?_) λhp=>?_
  ·obtain ⟨w6,s6⟩:=w5.pp [0,2,3,4,5,1] 6
   exact aO hp ⟨_,_,_,_,_,rfl,rfl,rfl,rfl,rfl,rfl,w6,(s0.trans (s1.trans (s5.trans s6))),(dk.step (s1.trans (s5.trans s6))),(dJ.step (s1.trans (s5.trans s6))),(dy.step (s1.trans (s5.trans s6))),(dX.step (s1.trans (s5.trans s6))),(dY.step (s1.trans (s5.trans s6)))⟩
  ·have f7:=W.borrow1 eI w5 (dk.step (s1.trans s5))
   obtain ⟨w7,s7⟩:=w5.right1
   obtain ⟨r8,e8,hp⟩:=ah hp
   refine aM (bH.P rfl ⟨w7,f7⟩ e8) ?_
   rintro _ H9 ⟨rfl,w9,s9,_⟩
   obtain ⟨w10,s10⟩:=W.frame1 w5 w9 s9
   refine br ?_
   refine aK hp (λhp=>?_) λhp=>?_
   ·obtain ⟨w11,s11⟩:=w10.pp [0,2,3,4,5,1] 6
    exact aO hp ⟨_,_,_,_,_,rfl,rfl,rfl,rfl,rfl,rfl,w11,(s0.trans (s1.trans (s5.trans (s10.trans s11)))),(dk.step (s1.trans (s5.trans (s10.trans s11)))),(dJ.step (s1.trans (s5.trans (s10.trans s11)))),(dy.step (s1.trans (s5.trans (s10.trans s11)))),(dX.step (s1.trans (s5.trans (s10.trans s11)))),(dY.step (s1.trans (s5.trans (s10.trans s11))))⟩
   ·obtain ⟨w12,s12⟩:=w10.pp [0,2,3,1,4,5] 6
    obtain ⟨r13,e13,hp⟩:=ah hp
    refine aM (gT.P rfl rfl rfl ⟨w12,(dk.step (s1.trans (s5.trans (s10.trans s12)))),(dJ.step (s1.trans (s5.trans (s10.trans s12)))),(dy.step (s1.trans (s5.trans (s10.trans s12))))⟩ e13) ?_
    rintro _ H14 ⟨Se,ab2,ab3,rfl,hl14_0,hl14_1,hl14_2,w14,s14,f14_0,f14_1,f14_2⟩
    obtain ⟨w15,s15⟩:=w14.pp [0,1,2,4,5,3] 6
    exact aO hp ⟨_,_,_,_,_,rfl,hl14_0,hl14_1,hl14_2,rfl,rfl,w15,(s0.trans (s1.trans (s5.trans (s10.trans (s12.trans (s14.trans s15)))))),(f14_0.step s15),(f14_1.step s15),(f14_2.step s15),(dX.step (s1.trans (s5.trans (s10.trans (s12.trans (s14.trans s15)))))),(dY.step (s1.trans (s5.trans (s10.trans (s12.trans (s14.trans s15))))))⟩
def bs.pl61 (F:Nat) :Nat->Int->Int->List Int->Int->List Int->Int->Int->List Int->Int->Int->List Int->Int->List Int->Bool->Int->Int->Option (Bool×Bool×List Int×List Int×List Int×List Int×List Int×Bool)
 | 0,_,_,_,_,_,_,_,_,_,_,_,_,_,_,_,_=>none
 | k+1,aC,aq,aQ,av,aU,ax,au,aR,ay,az,aX,aA,aY,aD,jW,mA=>(bif (decide (mA<aq)) then ((bif (!aD) then ((bB.p F aq aQ jW mA).bind λr2=>(bB.p F aq aQ jW jW).bind λr7=>(ii.p F r2 r7).bind λr10=>(hY.p F aC aq aQ ay az aX aA aY aD mA jW r10).bind λr13=>bs.pl61 F k aC aq r13.1 av aU ax au aR ay az r13.2.1 aA r13.2.2.1 r13.2.2.2 jW (IntKind.i64.wrap (mA+1))) else (bs.pj1 F aC aq aQ av aU ax au aR aX aY aD jW))) else (bs.pj1 F aC aq aQ av aU ax au aR aX aY aD jW))
theorem bs.l61_P {aC aq aG av ax au ay az aN aA:Int} {a_ bL aS bM bN:ON} {aL bk aH bl bm aF:Nat} {ba bO aT bP bQ:Cap} {ch ci cj ck cl:Bool} {cn co cp cq ct cu cv cw cz cA:List AV} :∀ k,bs.S61 H0 Ri R0 aC aq aG av ax au ay az aN aA a_ bL aS bM bN aL bk aH bl bm aF ba bO aT bP bQ ch ci cj ck cl cn co cp cq ct cu cv cw cz cA (bs.l61 F (aE.tw F) (bB.tw F) (ii.tw F) (gT.tw F) (hY.tw F) (bY.tw F) (bH.tw F)  k) (bs.pl61 F  k):=by
 intro k
 induction k with
 | zero=>unfold bs.S61;intros;rename_i hp;cases hp
 | succ k ih=>
  intro aQ aU aR aX aY df dg dh di dj aD jW mA H fD fE fF fG fH h0 r hp
  obtain ⟨w0,s0,dk,dJ,dy,dX,dY⟩:=h0
  subst fD
  subst fE
  subst fF
  subst fG
  subst fH
  unfold bs.pl61 at hp
  unfold bs.l61
  refine lI w0 5 ?_
  refine aK hp (λhp=>?_) λhp=>?_
  ·refine lB w0 5 ?_
   refine aK hp (λhp=>?_) λhp=>?_
   ·refine lI w0 5 ?_
    refine lI w0 5 ?_
    refine lSl w0 5 ?_
    have f1:=W.borrow1 eI w0 dk
    obtain ⟨w1,s1⟩:=w0.right1
    obtain ⟨r2,e2,hp⟩:=ah hp
    refine aM (bB.P rfl ⟨w1,f1⟩ e2) ?_
    rintro _ H3 ⟨rfl,w3,s3,_⟩
    obtain ⟨w4,s4⟩:=W.frame1 w0 w3 s3
    refine br ?_
    refine fJ (W.cons_of (Rn:=[]) w1 w3 s3) ?_
    refine lI w4 5 ?_
    refine lI w4 5 ?_
    refine lSl w4 5 ?_
    have f6:=W.borrow1 eI w4 (dk.step s4)
    obtain ⟨w6,s6⟩:=w4.right1
    obtain ⟨r7,e7,hp⟩:=ah hp
    refine aM (bB.P rfl ⟨w6,f6⟩ e7) ?_
    rintro _ H8 ⟨rfl,w8,s8,_⟩
    obtain ⟨w9,s9⟩:=W.frame1 w4 w8 s8
    refine br ?_
    obtain ⟨r10,e10,hp⟩:=ah hp
    refine aM (ii.P ⟨w9,trivial⟩ e10) ?_
    rintro _ H11 ⟨rfl,w11,s11,_⟩
    refine br ?_
    obtain ⟨w12,s12⟩:=w11.pp [0,3,4,5,1,2] 6
    obtain ⟨r13,e13,hp⟩:=ah hp
    refine aM (hY.P rfl rfl rfl ⟨w12,(dk.step (s4.trans (s9.trans (s11.trans s12)))),(dX.step (s4.trans (s9.trans (s11.trans s12)))),(dY.step (s4.trans (s9.trans (s11.trans s12))))⟩ e13) ?_
    rintro _ H14 ⟨Se,agT,agU,rfl,hl14_0,hl14_1,hl14_2,w14,s14,f14_0,f14_1,f14_2⟩
    obtain ⟨w15,s15⟩:=w14.pp [0,4,5,1,2,3] 6
    exact ih hl14_0 rfl rfl hl14_1 hl14_2 ⟨w15,(s0.trans (s4.trans (s9.trans (s11.trans (s12.trans (s14.trans s15)))))),(f14_0.step s15),(dJ.step (s4.trans (s9.trans (s11.trans (s12.trans (s14.trans s15)))))),(dy.step (s4.trans (s9.trans (s11.trans (s12.trans (s14.trans s15)))))),(f14_1.step s15),(f14_2.step s15)⟩ hp
   ·exact bs.j1_P rfl rfl rfl rfl rfl ⟨w0,s0,dk,dJ,dy,dX,dY⟩ hp
  ·exact bs.j1_P rfl rfl rfl rfl rfl ⟨w0,s0,dk,dJ,dy,dX,dY⟩ hp
def bs.pj2 (F:Nat)  (aC:Int) (aq:Int) (aQ:List Int) (av:Int) (aU:List Int) (ax:Int) (au:Int) (aR:List Int) (ay:Int) (az:Int) (aX:List Int) (aA:Int) (aY:List Int) (aD:Bool) (tF:Int):Option (Bool×Bool×List Int×List Int×List Int×List Int×List Int×Bool):=bs.pl61 F F aC aq aQ av aU ax au aR ay az aX aA aY aD tF (IntKind.i64.wrap (tF+1))
theorem bs.j2_P {aC aq aG av ax au ay az aN aA:Int} {a_ bL aS bM bN:ON} {aL bk aH bl bm aF:Nat} {ba bO aT bP bQ:Cap} {ch ci cj ck cl:Bool} {cn co cp cq ct cu cv cw cz cA:List AV}  {aQ aU aR aX aY:List Int} {df dg dh di dj:List AV} {aD:Bool} {tF:Int} (fD:aL=aQ.length) (fE:bk=aU.length) (fF:aH=aR.length) (fG:bl=aX.length) (fH:bm=aY.length) (h0:Out H0 Ri H (Rs.ow ch ⟨a_,aL,ba⟩ eI.z cn df co::Rs.ow ci ⟨bL,bk,bO⟩ eI.z cp dg cq::Rs.ow cj ⟨aS,aH,aT⟩ eI.z ct dh cu::Rs.ow ck ⟨bM,bl,bP⟩ eI.z cv di cw::Rs.ow cl ⟨bN,bm,bQ⟩ eI.z cz dj cA::Rs.blk aF [.i aC,.i aq,.sl ⟨a_,aL,ba⟩,.i aG,.i av,.sl ⟨bL,bk,bO⟩,.i ax,.i au,.sl ⟨aS,aH,aT⟩,.i ay,.i az,.sl ⟨bM,bl,bP⟩,.i aN,.i aA,.sl ⟨bN,bm,bQ⟩,.bool aD]::R0) λR=>CR eI H R df aQ/\CR eI H R dg aU/\CR eI H R dh aR/\CR eI H R di aX/\CR eI H R dj aY) {r:Bool×Bool×List Int×List Int×List Int×List Int×List Int×Bool} (hp:bs.pj2 F  aC aq aQ av aU ax au aR ay az aX aA aY aD tF=some r):Rt (bs.j2 F (aE.tw F) (bB.tw F) (ii.tw F) (gT.tw F) (hY.tw F) (bY.tw F) (bH.tw F)  aF 0 tF H) (bs.Q H0 Ri R0 aC aq aG av ax au ay az aN aA a_ bL aS bM bN aL bk aH bl bm aF ba bO aT bP bQ ch ci cj ck cl cn co cp cq ct cu cv cw cz cA r):=by
 obtain ⟨w0,s0,dk,dJ,dy,dX,dY⟩:=h0
 subst fD
 subst fE
 subst fF
 subst fG
 subst fH
 unfold bs.pj2 at hp
 unfold bs.j2
 exact bs.l61_P F rfl rfl rfl rfl rfl ⟨w0,s0,dk,dJ,dy,dX,dY⟩ hp
def bs.pl29 (F:Nat) :Nat->Int->Int->List Int->Int->List Int->Int->Int->List Int->Int->Int->List Int->Int->List Int->Bool->Int->Int->Option (Bool×Bool×List Int×List Int×List Int×List Int×List Int×Bool)
 | 0,_,_,_,_,_,_,_,_,_,_,_,_,_,_,_,_=>none
 | k+1,aC,aq,aQ,av,aU,ax,au,aR,ay,az,aX,aA,aY,aD,dl,mB=>(bif (decide (mB<aC)) then ((bif (!aD) then ((bB.p F aq aQ mB dl).bind λr2=>(bB.p F aq aQ dl dl).bind λr7=>(ii.p F r2 r7).bind λr10=>(gT.p F aq aQ av aU ax au aR aD mB dl r10).bind λr13=>bs.pl29 F k aC aq r13.1 av r13.2.1 ax au r13.2.2.1 ay az aX aA aY r13.2.2.2 dl (IntKind.i64.wrap (mB+1))) else (bs.pj2 F aC aq aQ av aU ax au aR ay az aX aA aY aD dl))) else (bs.pj2 F aC aq aQ av aU ax au aR ay az aX aA aY aD dl))
theorem bs.l29_P {aC aq aG av ax au ay az aN aA:Int} {a_ bL aS bM bN:ON} {aL bk aH bl bm aF:Nat} {ba bO aT bP bQ:Cap} {ch ci cj ck cl:Bool} {cn co cp cq ct cu cv cw cz cA:List AV} :∀ k,bs.S29 H0 Ri R0 aC aq aG av ax au ay az aN aA a_ bL aS bM bN aL bk aH bl bm aF ba bO aT bP bQ ch ci cj ck cl cn co cp cq ct cu cv cw cz cA (bs.l29 F (aE.tw F) (bB.tw F) (ii.tw F) (gT.tw F) (hY.tw F) (bY.tw F) (bH.tw F)  k) (bs.pl29 F  k):=by
 intro k
 induction k with
 | zero=>unfold bs.S29;intros;rename_i hp;cases hp
 | succ k ih=>
  intro aQ aU aR aX aY df dg dh di dj aD dl mB H fD fE fF fG fH h0 r hp
  obtain ⟨w0,s0,dk,dJ,dy,dX,dY⟩:=h0
  subst fD
  subst fE
  subst fF
  subst fG
  subst fH
  unfold bs.pl29 at hp
  unfold bs.l29
  refine lI w0 5 ?_
  refine aK hp (λhp=>?_) λhp=>?_
  ·refine lB w0 5 ?_
   refine aK hp (λhp=>?_) λhp=>?_
   ·refine lI w0 5 ?_
    refine lI w0 5 ?_
    refine lSl w0 5 ?_
    have f1:=W.borrow1 eI w0 dk
    obtain ⟨w1,s1⟩:=w0.right1
    obtain ⟨r2,e2,hp⟩:=ah hp
    refine aM (bB.P rfl ⟨w1,f1⟩ e2) ?_
    rintro _ H3 ⟨rfl,w3,s3,_⟩
    obtain ⟨w4,s4⟩:=W.frame1 w0 w3 s3
    refine br ?_
    refine fJ (W.cons_of (Rn:=[]) w1 w3 s3) ?_
    refine lI w4 5 ?_
    refine lI w4 5 ?_
    refine lSl w4 5 ?_
    have f6:=W.borrow1 eI w4 (dk.step s4)
    obtain ⟨w6,s6⟩:=w4.right1
    obtain ⟨r7,e7,hp⟩:=ah hp
    refine aM (bB.P rfl ⟨w6,f6⟩ e7) ?_
    rintro _ H8 ⟨rfl,w8,s8,_⟩
    obtain ⟨w9,s9⟩:=W.frame1 w4 w8 s8
    refine br ?_
    obtain ⟨r10,e10,hp⟩:=ah hp
    refine aM (ii.P ⟨w9,trivial⟩ e10) ?_
    rintro _ H11 ⟨rfl,w11,s11,_⟩
    refine br ?_
    obtain ⟨w12,s12⟩:=w11.pp [0,1,2,5,3,4] 6
    obtain ⟨r13,e13,hp⟩:=ah hp
    refine aM (gT.P rfl rfl rfl ⟨w12,(dk.step (s4.trans (s9.trans (s11.trans s12)))),(dJ.step (s4.trans (s9.trans (s11.trans s12)))),(dy.step (s4.trans (s9.trans (s11.trans s12))))⟩ e13) ?_
    rintro _ H14 ⟨Se,ab2,ab3,rfl,hl14_0,hl14_1,hl14_2,w14,s14,f14_0,f14_1,f14_2⟩
    obtain ⟨w15,s15⟩:=w14.pp [0,1,2,4,5,3] 6
    exact ih hl14_0 hl14_1 hl14_2 rfl rfl ⟨w15,(s0.trans (s4.trans (s9.trans (s11.trans (s12.trans (s14.trans s15)))))),(f14_0.step s15),(f14_1.step s15),(f14_2.step s15),(dX.step (s4.trans (s9.trans (s11.trans (s12.trans (s14.trans s15)))))),(dY.step (s4.trans (s9.trans (s11.trans (s12.trans (s14.trans s15))))))⟩ hp
   ·exact bs.j2_P rfl rfl rfl rfl rfl ⟨w0,s0,dk,dJ,dy,dX,dY⟩ hp
  ·exact bs.j2_P rfl rfl rfl rfl rfl ⟨w0,s0,dk,dJ,dy,dX,dY⟩ hp
def bs.p (F:Nat) (bG:Int) (bi:Int) (el:List Int) (bu:Int) (ga:List Int) (bj:Int) (bf:Int) (dG:List Int) (bv:Int) (bw:Int) (gb:List Int) (bz:Int) (gc:List Int) (aD:Bool) (af:Int):Option (Bool×Bool×List Int×List Int×List Int×List Int×List Int×Bool):=(aE.p F bG bi el bu ga bj bf dG bv bw gb bz gc af).bind λr1=>(bif (!r1.1) then (some (true,true,r1.2.1,r1.2.2.1,r1.2.2.2.1,r1.2.2.2.2.1,r1.2.2.2.2.2,aD)) else (bs.pl29 F F bG bi r1.2.1 bu r1.2.2.1 bj bf r1.2.2.2.1 bv bw r1.2.2.2.2.1 bz r1.2.2.2.2.2 aD af (IntKind.i64.wrap (af+1))))
theorem bs.P {bG bi bI bu bj bf bv bw bU bz af:Int} {cS eJ cH eK eL:ON} {cb dC bX dD dE aa:Nat} {cT eM cI eN eO:Cap} {el ga dG gb gc:List Int} {fx gn fy gp gq aD:Bool} {fz fA iS gr gu jH fB fC iT gv gw jI gy gz jJ:List AV} (mZ:cb=el.length) (qg:dC=ga.length) (lT:bX=dG.length) (qh:dD=gb.length) (qi:dE=gc.length) (h0:Inn H (Rs.ow fx ⟨cS,cb,cT⟩ eI.z fz iS fA::Rs.ow gn ⟨eJ,dC,eM⟩ eI.z gr jH gu::Rs.ow fy ⟨cH,bX,cI⟩ eI.z fB iT fC::Rs.ow gp ⟨eK,dD,eN⟩ eI.z gv jI gw::Rs.ow gq ⟨eL,dE,eO⟩ eI.z gy jJ gz::Rs.blk aa [.i bG,.i bi,.sl ⟨cS,cb,cT⟩,.i bI,.i bu,.sl ⟨eJ,dC,eM⟩,.i bj,.i bf,.sl ⟨cH,bX,cI⟩,.i bv,.i bw,.sl ⟨eK,dD,eN⟩,.i bU,.i bz,.sl ⟨eL,dE,eO⟩,.bool aD]::R0) λR=>CR eI H R iS el/\CR eI H R jH ga/\CR eI H R iT dG/\CR eI H R jI gb/\CR eI H R jJ gc) {r:Bool×Bool×List Int×List Int×List Int×List Int×List Int×Bool} (hp:bs.p F bG bi el bu ga bj bf dG bv bw gb bz gc aD af=some r):Rt (bs.tw F aa 0 af H) (bs.Q H (Rs.ow fx ⟨cS,cb,cT⟩ eI.z fz iS fA::Rs.ow gn ⟨eJ,dC,eM⟩ eI.z gr jH gu::Rs.ow fy ⟨cH,bX,cI⟩ eI.z fB iT fC::Rs.ow gp ⟨eK,dD,eN⟩ eI.z gv jI gw::Rs.ow gq ⟨eL,dE,eO⟩ eI.z gy jJ gz::Rs.blk aa [.i bG,.i bi,.sl ⟨cS,cb,cT⟩,.i bI,.i bu,.sl ⟨eJ,dC,eM⟩,.i bj,.i bf,.sl ⟨cH,bX,cI⟩,.i bv,.i bw,.sl ⟨eK,dD,eN⟩,.i bU,.i bz,.sl ⟨eL,dE,eO⟩,.bool aD]::R0) R0 bG bi bI bu bj bf bv bw bU bz cS eJ cH eK eL cb dC bX dD dE aa cT eM cI eN eO fx gn fy gp gq fz fA gr gu fB fC gv gw gy gz r):=by
 obtain ⟨w0,k_,o_,ko,pa,pb⟩:=h0
 subst mZ
 subst qg
 subst lT
 subst qh
 subst qi
 unfold bs.p at hp
 unfold bs.tw bs.twX
 have s0:=w0.rf
 obtain ⟨r1,e1,hp⟩:=ah hp
 refine aM (aE.P rfl rfl rfl rfl rfl ⟨w0,k_,o_,ko,pa,pb⟩ e1) ?_
 rintro _ H2 ⟨ab4,ab5,ab6,ab7,ab8,rfl,hl2_0,hl2_1,hl2_2,hl2_3,hl2_4,w2,s2,f2_0,f2_1,f2_2,f2_3,f2_4⟩
 refine br ?_
 refine aK hp (λhp=>?_) λhp=>?_
 ·exact aO hp ⟨_,_,_,_,_,rfl,hl2_0,hl2_1,hl2_2,hl2_3,hl2_4,w2,(s0.trans s2),f2_0,f2_1,f2_2,f2_3,f2_4⟩
 ·exact bs.l29_P F hl2_0 hl2_1 hl2_2 hl2_3 hl2_4 ⟨w2,(s0.trans s2),f2_0,f2_1,f2_2,f2_3,f2_4⟩ hp
def bD.Q (H0:Hp) (Ri R0:List Rs)  (r:Int×Int×List Int×Int×Int×List Int×Int×Int×List Int×Int×Int×List Int×Int×Int×List Int×Bool) (v:AV) (H':Hp):Prop:=∃ o2a:ON,∃ o2n:Nat,∃ o2c:Cap,∃ o2k:List AV,∃ o5a:ON,∃ o5n:Nat,∃ o5c:Cap,∃ o5k:List AV,∃ o8a:ON,∃ o8n:Nat,∃ o8c:Cap,∃ o8k:List AV,∃ o11a:ON,∃ o11n:Nat,∃ o11c:Cap,∃ o11k:List AV,∃ o14a:ON,∃ o14n:Nat,∃ o14c:Cap,∃ o14k:List AV,∃ ob0:Nat,v=(.ptr ob0 0)/\o2n=(r.2.2.1).length/\o5n=(r.2.2.2.2.2.1).length/\o8n=(r.2.2.2.2.2.2.2.2.1).length/\o11n=(r.2.2.2.2.2.2.2.2.2.2.2.1).length/\o14n=(r.2.2.2.2.2.2.2.2.2.2.2.2.2.2.1).length/\Out H0 Ri H' (Rs.own ⟨o2a,o2n,o2c⟩ eI.z o2k::Rs.own ⟨o5a,o5n,o5c⟩ eI.z o5k::Rs.own ⟨o8a,o8n,o8c⟩ eI.z o8k::Rs.own ⟨o11a,o11n,o11c⟩ eI.z o11k::Rs.own ⟨o14a,o14n,o14c⟩ eI.z o14k::Rs.blk ob0 [.i r.1,.i r.2.1,.sl ⟨o2a,o2n,o2c⟩,.i r.2.2.2.1,.i r.2.2.2.2.1,.sl ⟨o5a,o5n,o5c⟩,.i r.2.2.2.2.2.2.1,.i r.2.2.2.2.2.2.2.1,.sl ⟨o8a,o8n,o8c⟩,.i r.2.2.2.2.2.2.2.2.2.1,.i r.2.2.2.2.2.2.2.2.2.2.1,.sl ⟨o11a,o11n,o11c⟩,.i r.2.2.2.2.2.2.2.2.2.2.2.2.1,.i r.2.2.2.2.2.2.2.2.2.2.2.2.2.1,.sl ⟨o14a,o14n,o14c⟩,.bool r.2.2.2.2.2.2.2.2.2.2.2.2.2.2.2]::R0) λR=>CR eI H' R o2k (r.2.2.1)/\CR eI H' R o5k (r.2.2.2.2.2.1)/\CR eI H' R o8k (r.2.2.2.2.2.2.2.2.1)/\CR eI H' R o11k (r.2.2.2.2.2.2.2.2.2.2.2.1)/\CR eI H' R o14k (r.2.2.2.2.2.2.2.2.2.2.2.2.2.2.1)
def bD.S29 (H0:Hp) (Ri R0:List Rs)  (C:Nat->Nat->Nat->Nat->Int->Hp->OA) (pC:Int->Int->Int->Int->List Int->Int->Int->List Int->Int->Int->List Int->Int->Int->List Int->Int->Int->List Int->Bool->Int->Option (Int×Int×List Int×Int×Int×List Int×Int×Int×List Int×Int×Int×List Int×Int×Int×List Int×Bool)):Prop:=∀ {vX vY zG zH zI zJ zK zL zM zN zO zP oG:Int} {Js Jt Ju Jv Jw Jx:ON} {Ej pS Ek El Em En Er qt:Nat} {Jy Jz JA JB JC JD:Cap} {JE vZ v_ wa wb wc:List Int} {JF JG JH JI JJ:List AV} {zQ:Bool},∀ {H:Hp},Ej=JE.length->Ek=vZ.length->El=v_.length->Em=wa.length->En=wb.length->Er=wc.length->(Out H0 Ri H (Rs.blk pS [.i vX,.i vY,.sl ⟨Js,Ej,Jy⟩]::Rs.own ⟨Jt,Ek,Jz⟩ eI.z JF::Rs.own ⟨Ju,El,JA⟩ eI.z JG::Rs.own ⟨Jv,Em,JB⟩ eI.z JH::Rs.own ⟨Jw,En,JC⟩ eI.z JI::Rs.own ⟨Jx,Er,JD⟩ eI.z JJ::Rs.blk qt [.i zG,.i zH,.sl ⟨Jt,Ek,Jz⟩,.i zI,.i zJ,.sl ⟨Ju,El,JA⟩,.i zK,.i zL,.sl ⟨Jv,Em,JB⟩,.i zM,.i zN,.sl ⟨Jw,En,JC⟩,.i zO,.i zP,.sl ⟨Jx,Er,JD⟩,.bool zQ]::R0) λR=>ROs eI H R ⟨Js,Ej,Jy⟩ JE/\CR eI H R JF vZ/\CR eI H R JG v_/\CR eI H R JH wa/\CR eI H R JI wb/\CR eI H R JJ wc)->∀ {r:Int×Int×List Int×Int×Int×List Int×Int×Int×List Int×Int×Int×List Int×Int×Int×List Int×Bool},pC vX vY zG zH vZ zI zJ v_ zK zL wa zM zN wb zO zP wc zQ oG=some r->Rt (C pS 0 qt 0 oG H) (bD.Q H0 Ri R0  r)
def bD.S938 (H0:Hp) (Ri R0:List Rs)  (C:Nat->Nat->Nat->Nat->Int->Bool->Bool->Hp->OA) (pC:Int->Int->Int->Int->List Int->Int->Int->List Int->Int->Int->List Int->Int->Int->List Int->Int->Int->List Int->Bool->Int->Bool->Bool->Option (Int×Int×List Int×Int×Int×List Int×Int×Int×List Int×Int×Int×List Int×Int×Int×List Int×Bool)):Prop:=∀ {wd wg un uo wh uq ur ut uu uv wi uw mC:Int} {JK JL JM JN JO JP:ON} {Es pQ Et Eu Ev Ew Ex oE:Nat} {JQ JR JS JT JU JV:Cap} {JW ux uy uz uA uB:List Int} {JX JY JZ J_ Ka:List AV} {uC pR oF:Bool},∀ {H:Hp},Es=JW.length->Et=ux.length->Eu=uy.length->Ev=uz.length->Ew=uA.length->Ex=uB.length->(Out H0 Ri H (Rs.blk pQ [.i wd,.i wg,.sl ⟨JK,Es,JQ⟩]::Rs.own ⟨JL,Et,JR⟩ eI.z JX::Rs.own ⟨JM,Eu,JS⟩ eI.z JY::Rs.own ⟨JN,Ev,JT⟩ eI.z JZ::Rs.own ⟨JO,Ew,JU⟩ eI.z J_::Rs.own ⟨JP,Ex,JV⟩ eI.z Ka::Rs.blk oE [.i un,.i uo,.sl ⟨JL,Et,JR⟩,.i wh,.i uq,.sl ⟨JM,Eu,JS⟩,.i ur,.i ut,.sl ⟨JN,Ev,JT⟩,.i uu,.i uv,.sl ⟨JO,Ew,JU⟩,.i wi,.i uw,.sl ⟨JP,Ex,JV⟩,.bool uC]::R0) λR=>ROs eI H R ⟨JK,Es,JQ⟩ JW/\CR eI H R JX ux/\CR eI H R JY uy/\CR eI H R JZ uz/\CR eI H R J_ uA/\CR eI H R Ka uB)->∀ {r:Int×Int×List Int×Int×Int×List Int×Int×Int×List Int×Int×Int×List Int×Int×Int×List Int×Bool},pC wd wg un uo ux wh uq uy ur ut uz uu uv uA wi uw uB uC mC pR oF=some r->Rt (C pQ 0 oE 0 mC pR oF H) (bD.Q H0 Ri R0  r)
def bD.pj3 (F:Nat) (eZ:Int->Int->Int->Int->List Int->Int->Int->List Int->Int->Int->List Int->Int->Int->List Int->Int->Int->List Int->Bool->Int->Option (Int×Int×List Int×Int×Int×List Int×Int×Int×List Int×Int×Int×List Int×Int×Int×List Int×Bool)) (Ey:Int) (Ez:Int) (EA:Int) (EB:Int) (BF:List Int) (EC:Int) (ED:Int) (BG:List Int) (EE:Int) (EF:Int) (BH:List Int) (EG:Int) (EH:Int) (BI:List Int) (EI:Int) (EJ:Int) (BJ:List Int) (EK:Bool) (x_:Int):Option (Int×Int×List Int×Int×Int×List Int×Int×Int×List Int×Int×Int×List Int×Int×Int×List Int×Bool):=eZ Ey Ez EA EB BF EC ED BG EE EF BH EG EH BI EI EJ BJ EK (IntKind.i64.wrap (x_+1))
theorem bD.j3_P  {C29_:Nat->Nat->Nat->Nat->Int->Hp->OA} {eZ:Int->Int->Int->Int->List Int->Int->Int->List Int->Int->Int->List Int->Int->Int->List Int->Int->Int->List Int->Bool->Int->Option (Int×Int×List Int×Int×Int×List Int×Int×Int×List Int×Int×Int×List Int×Int×Int×List Int×Bool)} (hC29:bD.S29 H0 Ri R0  C29_ eZ) {Ey Ez EA EB EC ED EE EF EG EH EI EJ x_:Int} {Sf Sg Sh Si Sj Sk:ON} {Kb CZ Kc Kd Ke Kf Kg C_:Nat} {Sm Sn So Sp Sq Sr:Cap} {Ss BF BG BH BI BJ:List Int} {Su Sv Sw Sx Sy:List AV} {EK:Bool} (ab9:Kb=Ss.length) (ab_:Kc=BF.length) (aca:Kd=BG.length) (acb:Ke=BH.length) (acd:Kf=BI.length) (ace:Kg=BJ.length) (h0:Out H0 Ri H (Rs.blk CZ [.i Ey,.i Ez,.sl ⟨Sf,Kb,Sm⟩]::Rs.own ⟨Sg,Kc,Sn⟩ eI.z Su::Rs.own ⟨Sh,Kd,So⟩ eI.z Sv::Rs.own ⟨Si,Ke,Sp⟩ eI.z Sw::Rs.own ⟨Sj,Kf,Sq⟩ eI.z Sx::Rs.own ⟨Sk,Kg,Sr⟩ eI.z Sy::Rs.blk C_ [.i EA,.i EB,.sl ⟨Sg,Kc,Sn⟩,.i EC,.i ED,.sl ⟨Sh,Kd,So⟩,.i EE,.i EF,.sl ⟨Si,Ke,Sp⟩,.i EG,.i EH,.sl ⟨Sj,Kf,Sq⟩,.i EI,.i EJ,.sl ⟨Sk,Kg,Sr⟩,.bool EK]::R0) λR=>ROs eI H R ⟨Sf,Kb,Sm⟩ Ss/\CR eI H R Su BF/\CR eI H R Sv BG/\CR eI H R Sw BH/\CR eI H R Sx BI/\CR eI H R Sy BJ) {r:Int×Int×List Int×Int×Int×List Int×Int×Int×List Int×Int×Int×List Int×Int×Int×List Int×Bool} (hp:bD.pj3 F eZ Ey Ez EA EB BF EC ED BG EE EF BH EG EH BI EI EJ BJ EK x_=some r):Rt (bD.j3 F (dK.tw F) (bs.tw F) C29_ CZ 0 C_ 0 x_ H) (bD.Q H0 Ri R0  r):=by
 obtain ⟨w0,s0,acf,acg,ach,aci,acj,ack⟩:=h0
 subst ab9
 subst ab_
 subst aca
 subst acb
 subst acd
 subst ace
 unfold bD.pj3 at hp
 unfold bD.j3
 exact hC29 rfl rfl rfl rfl rfl rfl ⟨w0,s0,acf,acg,ach,aci,acj,ack⟩ hp
def bD.pj4 (F:Nat) (eZ:Int->Int->Int->Int->List Int->Int->Int->List Int->Int->Int->List Int->Int->Int->List Int->Int->Int->List Int->Bool->Int->Option (Int×Int×List Int×Int×Int×List Int×Int×Int×List Int×Int×Int×List Int×Int×Int×List Int×Bool)) (EL:Int) (EM:Int) (zR:Int) (ui:Int) (wj:List Int) (zS:Int) (zT:Int) (wk:List Int) (zU:Int) (zV:Int) (wl:List Int) (zW:Int) (zX:Int) (wo:List Int) (zY:Int) (zZ:Int) (wq:List Int) (wt:Bool) (tG:Int) (tz:Bool):Option (Int×Int×List Int×Int×Int×List Int×Int×Int×List Int×Int×Int×List Int×Int×Int×List Int×Bool):=(bif tz then (some (zR,ui,wj,zS,zT,wk,zU,zV,wl,zW,zX,wo,zY,zZ,wq,wt)) else ((bif wt then (some (zR,ui,wj,zS,zT,wk,zU,zV,wl,zW,zX,wo,zY,zZ,wq,wt)) else (bD.pj3 F eZ EL EM zR ui wj zS zT wk zU zV wl zW zX wo zY zZ wq wt tG))))
theorem bD.j4_P  {C29_:Nat->Nat->Nat->Nat->Int->Hp->OA} {eZ:Int->Int->Int->Int->List Int->Int->Int->List Int->Int->Int->List Int->Int->Int->List Int->Int->Int->List Int->Bool->Int->Option (Int×Int×List Int×Int×Int×List Int×Int×Int×List Int×Int×Int×List Int×Int×Int×List Int×Bool)} (hC29:bD.S29 H0 Ri R0  C29_ eZ) {EL EM zR ui zS zT zU zV zW zX zY zZ tG:Int} {Sz SA SB SC SD SF:ON} {Kh pK Ki Kj Kk Kl Km ph:Nat} {SG SH SJ SK SL SM:Cap} {SN wj wk wl wo wq:List Int} {SO SP SQ SU SV:List AV} {wt tz:Bool} (acl:Kh=SN.length) (acm:Ki=wj.length) (acn:Kj=wk.length) (aco:Kk=wl.length) (acp:Kl=wo.length) (acq:Km=wq.length) (h0:Out H0 Ri H (Rs.blk pK [.i EL,.i EM,.sl ⟨Sz,Kh,SG⟩]::Rs.own ⟨SA,Ki,SH⟩ eI.z SO::Rs.own ⟨SB,Kj,SJ⟩ eI.z SP::Rs.own ⟨SC,Kk,SK⟩ eI.z SQ::Rs.own ⟨SD,Kl,SL⟩ eI.z SU::Rs.own ⟨SF,Km,SM⟩ eI.z SV::Rs.blk ph [.i zR,.i ui,.sl ⟨SA,Ki,SH⟩,.i zS,.i zT,.sl ⟨SB,Kj,SJ⟩,.i zU,.i zV,.sl ⟨SC,Kk,SK⟩,.i zW,.i zX,.sl ⟨SD,Kl,SL⟩,.i zY,.i zZ,.sl ⟨SF,Km,SM⟩,.bool wt]::R0) λR=>ROs eI H R ⟨Sz,Kh,SG⟩ SN/\CR eI H R SO wj/\CR eI H R SP wk/\CR eI H R SQ wl/\CR eI H R SU wo/\CR eI H R SV wq) {r:Int×Int×List Int×Int×Int×List Int×Int×Int×List Int×Int×Int×List Int×Int×Int×List Int×Bool} (hp:bD.pj4 F eZ EL EM zR ui wj zS zT wk zU zV wl zW zX wo zY zZ wq wt tG tz=some r):Rt (bD.j4 F (dK.tw F) (bs.tw F) C29_ pK 0 ph 0 tG tz H) (bD.Q H0 Ri R0  r):=by
 obtain ⟨w0,s0,acr,Ko,Kp,Kq,Ks,Kt⟩:=h0
 subst acl
 subst acm
 subst acn
 subst aco
 subst acp
 subst acq
 unfold bD.pj4 at hp
 unfold bD.j4
 refine aK hp (λhp=>?_) λhp=>?_
 ·obtain ⟨w1,s1⟩:=w0.pp [1,2,3,4,5,6] 7
  exact aO hp ⟨_,_,_,_,_,_,_,_,_,_,_,_,_,_,_,_,_,_,_,_,_,rfl,rfl,rfl,rfl,rfl,rfl,w1,(s0.trans s1),(Ko.step s1),(Kp.step s1),(Kq.step s1),(Ks.step s1),(Kt.step s1)⟩
 ·refine lB w0 6 ?_
  refine aK hp (λhp=>?_) λhp=>?_
  ·obtain ⟨w2,s2⟩:=w0.pp [1,2,3,4,5,6] 7
   exact aO hp ⟨_,_,_,_,_,_,_,_,_,_,_,_,_,_,_,_,_,_,_,_,_,rfl,rfl,rfl,rfl,rfl,rfl,w2,(s0.trans s2),(Ko.step s2),(Kp.step s2),(Kq.step s2),(Ks.step s2),(Kt.step s2)⟩
  ·exact bD.j3_P (@hC29) rfl rfl rfl rfl rfl rfl ⟨w0,s0,acr,Ko,Kp,Kq,Ks,Kt⟩ hp
def bD.pl938 (F:Nat) (eZ:Int->Int->Int->Int->List Int->Int->Int->List Int->Int->Int->List Int->Int->Int->List Int->Int->Int->List Int->Bool->Int->Option (Int×Int×List Int×Int×Int×List Int×Int×Int×List Int×Int×Int×List Int×Int×Int×List Int×Bool)):Nat->Int->Int->Int->Int->List Int->Int->Int->List Int->Int->Int->List Int->Int->Int->List Int->Int->Int->List Int->Bool->Int->Bool->Bool->Option (Int×Int×List Int×Int×Int×List Int×Int×Int×List Int×Int×Int×List Int×Int×Int×List Int×Bool)
 | 0,_,_,_,_,_,_,_,_,_,_,_,_,_,_,_,_,_,_,_,_,_=>none
 | k+1,wd,wg,un,uo,ux,wh,uq,uy,ur,ut,uz,uu,uv,uA,wi,uw,uB,uC,mC,pR,oF=>(bif (!pR) then ((bif (!uC) then ((bs.p F un uo ux uq uy ur ut uz uu uv uA uw uB uC mC).bind λr2=>bD.pl938 F eZ k wd wg un uo r2.2.2.1 wh uq r2.2.2.2.1 ur ut r2.2.2.2.2.1 uu uv r2.2.2.2.2.2.1 wi uw r2.2.2.2.2.2.2.1 r2.2.2.2.2.2.2.2 mC r2.1 r2.2.1) else (bD.pj4 F eZ wd wg un uo ux wh uq uy ur ut uz uu uv uA wi uw uB uC mC oF))) else (bD.pj4 F eZ wd wg un uo ux wh uq uy ur ut uz uu uv uA wi uw uB uC mC oF))
theorem bD.l938_P  {C29_:Nat->Nat->Nat->Nat->Int->Hp->OA} {eZ:Int->Int->Int->Int->List Int->Int->Int->List Int->Int->Int->List Int->Int->Int->List Int->Int->Int->List Int->Bool->Int->Option (Int×Int×List Int×Int×Int×List Int×Int×Int×List Int×Int×Int×List Int×Int×Int×List Int×Bool)} (hC29:bD.S29 H0 Ri R0  C29_ eZ):∀ k,bD.S938 H0 Ri R0  (bD.l938 F (dK.tw F) (bs.tw F) C29_ k) (bD.pl938 F eZ k):=by
 intro k
 induction k with
 | zero=>unfold bD.S938;intros;rename_i hp;cases hp
 | succ k ih=>
  intro wd wg un uo wh uq ur ut uu uv wi uw mC JK JL JM JN JO JP Es pQ Et Eu Ev Ew Ex oE JQ JR JS JT JU JV JW ux uy uz uA uB JX JY JZ J_ Ka uC pR oF H acs act acu acv acw acx h0 r hp
  obtain ⟨w0,s0,Ku,Kv,Kw,Ky,Kz,KA⟩:=h0
  subst acs
  subst act
  subst acu
  subst acv
  subst acw
  subst acx
  unfold bD.pl938 at hp
  unfold bD.l938
  refine aK hp (λhp=>?_) λhp=>?_
  ·refine lB w0 6 ?_
   refine aK hp (λhp=>?_) λhp=>?_
   ·obtain ⟨w1,s1⟩:=w0.pp [1,2,3,4,5,6,0] 7
    obtain ⟨r2,e2,hp⟩:=ah hp
    refine aM (bs.P rfl rfl rfl rfl rfl ⟨w1,(Kv.step s1),(Kw.step s1),(Ky.step s1),(Kz.step s1),(KA.step s1)⟩ e2) ?_
    rintro _ H3 ⟨agV,agW,agX,agY,agZ,rfl,hl3_0,hl3_1,hl3_2,hl3_3,hl3_4,w3,s3,f3_0,f3_1,f3_2,f3_3,f3_4⟩
    refine br ?_
    refine br ?_
    refine br ?_
    refine br ?_
    refine br ?_
    obtain ⟨w4,s4⟩:=w3.pp [6,0,1,2,3,4,5] 7
    exact ih rfl hl3_0 hl3_1 hl3_2 hl3_3 hl3_4 ⟨w4,(s0.trans (s1.trans (s3.trans s4))),(Ku.step (s1.trans (s3.trans s4))),(f3_0.step s4),(f3_1.step s4),(f3_2.step s4),(f3_3.step s4),(f3_4.step s4)⟩ hp
   ·exact bD.j4_P (@hC29) rfl rfl rfl rfl rfl rfl ⟨w0,s0,Ku,Kv,Kw,Ky,Kz,KA⟩ hp
  ·exact bD.j4_P (@hC29) rfl rfl rfl rfl rfl rfl ⟨w0,s0,Ku,Kv,Kw,Ky,Kz,KA⟩ hp
def bD.pl29 (F:Nat) :Nat->Int->Int->Int->Int->List Int->Int->Int->List Int->Int->Int->List Int->Int->Int->List Int->Int->Int->List Int->Bool->Int->Option (Int×Int×List Int×Int×Int×List Int×Int×Int×List Int×Int×Int×List Int×Int×Int×List Int×Bool)
 | 0,_,_,_,_,_,_,_,_,_,_,_,_,_,_,_,_,_,_,_=>none
 | k+1,vX,vY,zG,zH,vZ,zI,zJ,v_,zK,zL,wa,zM,zN,wb,zO,zP,wc,zQ,oG=>(bif (decide (oG<(if vY<vX then vY else vX))) then (bD.pl938 F (bD.pl29 F k) F vX vY zG zH vZ zI zJ v_ zK zL wa zM zN wb zO zP wc zQ oG false false) else (some (zG,zH,vZ,zI,zJ,v_,zK,zL,wa,zM,zN,wb,zO,zP,wc,zQ)))
theorem bD.l29_P  :∀ k,bD.S29 H0 Ri R0  (bD.l29 F (dK.tw F) (bs.tw F)  k) (bD.pl29 F  k):=by
 intro k
 induction k with
 | zero=>unfold bD.S29;intros;rename_i hp;cases hp
 | succ k ih=>
  intro vX vY zG zH zI zJ zK zL zM zN zO zP oG Js Jt Ju Jv Jw Jx Ej pS Ek El Em En Er qt Jy Jz JA JB JC JD JE vZ v_ wa wb wc JF JG JH JI JJ zQ H acy acz acA acB acC acD h0 r hp
  obtain ⟨w0,s0,acE,SW,SX,SY,SZ,S_⟩:=h0
  subst acy
  subst acz
  subst acA
  subst acB
  subst acC
  subst acD
  unfold bD.pl29 at hp
  unfold bD.l29
  refine lI w0 0 ?_
  refine lI w0 0 ?_
  refine aK hp (λhp=>?_) λhp=>?_
  ·exact bD.l938_P (@ih) F rfl rfl rfl rfl rfl rfl ⟨w0,s0,acE,SW,SX,SY,SZ,S_⟩ hp
  ·obtain ⟨w1,s1⟩:=w0.pp [1,2,3,4,5,6] 7
   exact aO hp ⟨_,_,_,_,_,_,_,_,_,_,_,_,_,_,_,_,_,_,_,_,_,rfl,rfl,rfl,rfl,rfl,rfl,w1,(s0.trans s1),(SW.step s1),(SX.step s1),(SY.step s1),(SZ.step s1),(S_.step s1)⟩
def bD.p (F:Nat) (aa:Int) (ac:Int) (eu:List Int):Option (Int×Int×List Int×Int×Int×List Int×Int×Int×List Int×Int×Int×List Int×Int×Int×List Int×Bool):=(apn ([]:List Int) eu).bind λl4=>(dK.p F aa).bind λr7=>(dK.p F aa).bind λr10=>(dK.p F ac).bind λr13=>(dK.p F ac).bind λr16=>bD.pl29 F F aa ac aa ac l4 r7.1 r7.2.1 r7.2.2 r10.1 r10.2.1 r10.2.2 r13.1 r13.2.1 r13.2.2 r16.1 r16.2.1 r16.2.2 false 0
theorem bD.P {aa ac:Int} {fo:ON} {eE:Nat} {fp:Cap} {eu:List Int} (lQ:eE=eu.length) (h0:Inn H R0 λR=>ROs eI H R ⟨fo,eE,fp⟩ eu) {r:Int×Int×List Int×Int×Int×List Int×Int×Int×List Int×Int×Int×List Int×Int×Int×List Int×Bool} (hp:bD.p F aa ac eu=some r):Rt (bD.tw F aa ac ⟨fo,eE,fp⟩ H) (bD.Q H R0 R0  r):=by
 obtain ⟨w0,kI⟩:=h0
 subst lQ
 unfold bD.p at hp
 unfold bD.tw bD.twX
 have s0:=w0.rf
 refine bR w0 λH1 w1 s1=>?_
 refine lI w1 0 ?_
 refine lI w1 0 ?_
 refine lg eI w1 (n:=0) (l:=([]:List Int)) rfl CR.empty rfl λH2 w2 s2 c2=>?_
 refine lSl w2 1 ?_
 obtain ⟨x3,h3,c3⟩:=(kI.step (s1.trans s2)).row rfl
 refine ar h3 ?_
 obtain ⟨l4,e4,hp⟩:=ah hp
 refine qk eI w2 (i:=0) rfl rfl c2 c3 rfl rfl e4 λa5 d5 H5 w5 s5 c5 x5=>?_
 refine fJ (x5 ⟨_,rfl⟩) ?_
 refine lI w5 1 ?_
 obtain ⟨r7,e7,hp⟩:=ah hp
 refine aM (dK.P ⟨w5,trivial⟩ e7) ?_
 rintro _ H8 ⟨o2a_8,o2n_8,o2c_8,o2k_8,rfl,rfl,w8,s8,f8_0⟩
 refine br ?_
 refine br ?_
 refine br ?_
 refine br ?_
 refine br ?_
 refine br ?_
 refine br ?_
 refine fJ (W.cons_of (Rn:=[_]) w5 w8 s8) ?_
 refine lI w8 2 ?_
 obtain ⟨r10,e10,hp⟩:=ah hp
 refine aM (dK.P ⟨w8,trivial⟩ e10) ?_
 rintro _ H11 ⟨o2a_11,o2n_11,o2c_11,o2k_11,rfl,rfl,w11,s11,f11_0⟩
 refine br ?_
 refine br ?_
 refine br ?_
 refine br ?_
 refine br ?_
 refine br ?_
 refine br ?_
 refine fJ (W.cons_of (Rn:=[_]) w8 w11 s11) ?_
 refine lI w11 3 ?_
 obtain ⟨r13,e13,hp⟩:=ah hp
 refine aM (dK.P ⟨w11,trivial⟩ e13) ?_
 rintro _ H14 ⟨o2a_14,o2n_14,o2c_14,o2k_14,rfl,rfl,w14,s14,f14_0⟩
 refine br ?_
 refine br ?_
 refine br ?_
 refine br ?_
 refine br ?_
 refine br ?_
 refine br ?_
 refine fJ (W.cons_of (Rn:=[_]) w11 w14 s14) ?_
 refine lI w14 4 ?_
 obtain ⟨r16,e16,hp⟩:=ah hp
 refine aM (dK.P ⟨w14,trivial⟩ e16) ?_
 rintro _ H17 ⟨o2a_17,o2n_17,o2c_17,o2k_17,rfl,rfl,w17,s17,f17_0⟩
 refine br ?_
 refine br ?_
 refine br ?_
 refine br ?_
 refine br ?_
 refine br ?_
 refine br ?_
 refine fJ (W.cons_of (Rn:=[_]) w14 w17 s17) ?_
 refine bR w17 λH19 w19 s19=>?_
 obtain ⟨w20,s20⟩:=w19.pp [6,5,4,3,2,1,0] 7
 exact bD.l29_P F rfl rfl rfl rfl rfl rfl ⟨w20,(s0.trans (s1.trans (s2.trans (s5.trans (s8.trans (s11.trans (s14.trans (s17.trans (s19.trans s20))))))))),(kI.step (s1.trans (s2.trans (s5.trans (s8.trans (s11.trans (s14.trans (s17.trans (s19.trans s20))))))))),(c5.step (s8.trans (s11.trans (s14.trans (s17.trans (s19.trans s20)))))),(f8_0.step (s11.trans (s14.trans (s17.trans (s19.trans s20))))),(f11_0.step (s14.trans (s17.trans (s19.trans s20)))),(f14_0.step (s17.trans (s19.trans s20))),(f17_0.step (s19.trans s20))⟩ hp
def b_.Q (H0:Hp) (Ri R0:List Rs)  (r:List Int×Bool) (v:AV) (H':Hp):Prop:=∃ o0a:ON,∃ o0n:Nat,∃ o0c:Cap,∃ o0k:List AV,v=(.tup [(.sl ⟨o0a,o0n,o0c⟩),(.bool r.2)])/\o0n=(r.1).length/\Out H0 Ri H' (Rs.own ⟨o0a,o0n,o0c⟩ eI.z o0k::R0) λR=>CR eI H' R o0k (r.1)
def b_.S61 (H0:Hp) (Ri R0:List Rs)  (C:Nat->Nat->Nat->Nat->Sl->Int->Hp->OA) (pC:Int->Int->Int->List Int->Bool->List Int->Int->Option (List Int×Bool)):Prop:=∀ {uD uE Ta wu Tc Td Te Tf Tg Th Ti Tj gj:Int} {KB KC KD KE KF KG KH:ON} {EN pr EO EP EQ ER ES eY ET:Nat} {KI KJ KK KL KM KN KO:Cap} {KP uF KQ KR KS KT sZ:List Int} {KU KV KW KX KY KZ:List AV} {s_:Bool},∀ {H:Hp},EN=KP.length->EO=uF.length->EP=KQ.length->EQ=KR.length->ER=KS.length->ES=KT.length->ET=sZ.length->(Out H0 Ri H (Rs.blk pr [.i uD,.i uE,.sl ⟨KB,EN,KI⟩]::Rs.own ⟨KC,EO,KJ⟩ eI.z KU::Rs.own ⟨KD,EP,KK⟩ eI.z KV::Rs.own ⟨KE,EQ,KL⟩ eI.z KW::Rs.own ⟨KF,ER,KM⟩ eI.z KX::Rs.own ⟨KG,ES,KN⟩ eI.z KY::Rs.blk eY [.i Ta,.i wu,.sl ⟨KC,EO,KJ⟩,.i Tc,.i Td,.sl ⟨KD,EP,KK⟩,.i Te,.i Tf,.sl ⟨KE,EQ,KL⟩,.i Tg,.i Th,.sl ⟨KF,ER,KM⟩,.i Ti,.i Tj,.sl ⟨KG,ES,KN⟩,.bool s_]::Rs.own ⟨KH,ET,KO⟩ eI.z KZ::R0) λR=>ROs eI H R ⟨KB,EN,KI⟩ KP/\CR eI H R KU uF/\CR eI H R KV KQ/\CR eI H R KW KR/\CR eI H R KX KS/\CR eI H R KY KT/\CR eI H R KZ sZ)->∀ {r:List Int×Bool},pC uD uE wu uF s_ sZ gj=some r->Rt (C pr 0 eY 0 ⟨KH,ET,KO⟩ gj H) (b_.Q H0 Ri R0  r)
def b_.pj3 (F:Nat) (cg:Int->Int->Int->List Int->Bool->List Int->Int->Option (List Int×Bool)) (EU:Int) (EV:Int) (EW:Int) (BK:List Int) (EY:Bool) (BL:List Int) (ya:Int):Option (List Int×Bool):=cg EU EV EW BK EY BL (IntKind.i64.wrap (ya+1))
theorem b_.j3_P  {C61_:Nat->Nat->Nat->Nat->Sl->Int->Hp->OA} {cg:Int->Int->Int->List Int->Bool->List Int->Int->Option (List Int×Bool)} (hC61:b_.S61 H0 Ri R0  C61_ cg) {EU EV acF EW acG acH acI acJ acK acL acM acN ya:Int} {Tk Tl Tn To Tp Tq Ts:ON} {K_ Db La Lb Lc Ld Le Dc Lf:Nat} {Tt Tu Tv Tw Tx Ty Tz:Cap} {TA BK TC TE TF TG BL:List Int} {TH TJ TK TL TN TO:List AV} {EY:Bool} (acO:K_=TA.length) (acP:La=BK.length) (acQ:Lb=TC.length) (acR:Lc=TE.length) (acS:Ld=TF.length) (acT:Le=TG.length) (acU:Lf=BL.length) (h0:Out H0 Ri H (Rs.blk Db [.i EU,.i EV,.sl ⟨Tk,K_,Tt⟩]::Rs.own ⟨Tl,La,Tu⟩ eI.z TH::Rs.own ⟨Tn,Lb,Tv⟩ eI.z TJ::Rs.own ⟨To,Lc,Tw⟩ eI.z TK::Rs.own ⟨Tp,Ld,Tx⟩ eI.z TL::Rs.own ⟨Tq,Le,Ty⟩ eI.z TN::Rs.blk Dc [.i acF,.i EW,.sl ⟨Tl,La,Tu⟩,.i acG,.i acH,.sl ⟨Tn,Lb,Tv⟩,.i acI,.i acJ,.sl ⟨To,Lc,Tw⟩,.i acK,.i acL,.sl ⟨Tp,Ld,Tx⟩,.i acM,.i acN,.sl ⟨Tq,Le,Ty⟩,.bool EY]::Rs.own ⟨Ts,Lf,Tz⟩ eI.z TO::R0) λR=>ROs eI H R ⟨Tk,K_,Tt⟩ TA/\CR eI H R TH BK/\CR eI H R TJ TC/\CR eI H R TK TE/\CR eI H R TL TF/\CR eI H R TN TG/\CR eI H R TO BL) {r:List Int×Bool} (hp:b_.pj3 F cg EU EV EW BK EY BL ya=some r):Rt (b_.j3 F (bD.tw F) (bB.tw F) C61_ Db 0 Dc 0 ⟨Ts,Lf,Tz⟩ ya H) (b_.Q H0 Ri R0  r):=by
 obtain ⟨w0,s0,acV,acW,acX,acY,acZ,ac0,ac1⟩:=h0
 subst acO
 subst acP
 subst acQ
 subst acR
 subst acS
 subst acT
 subst acU
 unfold b_.pj3 at hp
 unfold b_.j3
 exact hC61 rfl rfl rfl rfl rfl rfl rfl ⟨w0,s0,acV,acW,acX,acY,acZ,ac0,ac1⟩ hp
def b_.pj2 (F:Nat)  (EZ:Bool) (BM:List Int):Option (List Int×Bool):=some (BM,(!EZ))
theorem b_.j2_P   {ac2 ac3 ac4 ac5 ac6 ac7 ac8 ac9 ac_ ada:Int} {TP TQ TT TU TV TW:ON} {Lg Lh Li Lj Lk Da Ll:Nat} {TX TY TZ T_ Ua Ub:Cap} {Uc Ud Ue Uf Ug BM:List Int} {Uh Ui Uj Uk Ul Um:List AV} {EZ:Bool} (adb:Lg=Uc.length) (adc:Lh=Ud.length) (ade:Li=Ue.length) (adf:Lj=Uf.length) (adg:Lk=Ug.length) (adh:Ll=BM.length) (h0:Out H0 Ri H (Rs.own ⟨TP,Lg,TX⟩ eI.z Uh::Rs.own ⟨TQ,Lh,TY⟩ eI.z Ui::Rs.own ⟨TT,Li,TZ⟩ eI.z Uj::Rs.own ⟨TU,Lj,T_⟩ eI.z Uk::Rs.own ⟨TV,Lk,Ua⟩ eI.z Ul::Rs.blk Da [.i ac2,.i ac3,.sl ⟨TP,Lg,TX⟩,.i ac4,.i ac5,.sl ⟨TQ,Lh,TY⟩,.i ac6,.i ac7,.sl ⟨TT,Li,TZ⟩,.i ac8,.i ac9,.sl ⟨TU,Lj,T_⟩,.i ac_,.i ada,.sl ⟨TV,Lk,Ua⟩,.bool EZ]::Rs.own ⟨TW,Ll,Ub⟩ eI.z Um::R0) λR=>CR eI H R Uh Uc/\CR eI H R Ui Ud/\CR eI H R Uj Ue/\CR eI H R Uk Uf/\CR eI H R Ul Ug/\CR eI H R Um BM) {r:List Int×Bool} (hp:b_.pj2 F  EZ BM=some r):Rt (b_.j2 F (bD.tw F) (bB.tw F)  Da 0 ⟨TW,Ll,Ub⟩ H) (b_.Q H0 Ri R0  r):=by
 obtain ⟨w0,s0,ag0,ag2,ag3,ag4,ag5,adi⟩:=h0
 subst adb
 subst adc
 subst ade
 subst adf
 subst adg
 subst adh
 unfold b_.pj2 at hp
 unfold b_.j2
 refine lB w0 5 ?_
 obtain ⟨w1,s1⟩:=w0.pp [6] 7
 exact aO hp ⟨_,_,_,_,rfl,rfl,w1,(s0.trans s1),(adi.step s1)⟩
def b_.pl61 (F:Nat) :Nat->Int->Int->Int->List Int->Bool->List Int->Int->Option (List Int×Bool)
 | 0,_,_,_,_,_,_,_=>none
 | k+1,uD,uE,wu,uF,s_,sZ,gj=>(bif (decide (gj<(if uE<uD then uE else uD))) then ((bif (!s_) then ((bB.p F wu uF gj gj).bind λr3=>(bif (r3 != 0) then ((apn sZ ([r3]:List Int)).bind λl7=>b_.pj3 F (b_.pl61 F k) uD uE wu uF s_ l7 gj) else (b_.pj3 F (b_.pl61 F k) uD uE wu uF s_ sZ gj))) else (b_.pj2 F s_ sZ))) else (b_.pj2 F s_ sZ))
theorem b_.l61_P  :∀ k,b_.S61 H0 Ri R0  (b_.l61 F (bD.tw F) (bB.tw F)  k) (b_.pl61 F  k):=by
 intro k
 induction k with
 | zero=>unfold b_.S61;intros;rename_i hp;cases hp
 | succ k ih=>
  intro uD uE Ta wu Tc Td Te Tf Tg Th Ti Tj gj KB KC KD KE KF KG KH EN pr EO EP EQ ER ES eY ET KI KJ KK KL KM KN KO KP uF KQ KR KS KT sZ KU KV KW KX KY KZ s_ H adj adk adl adm adn ado adp h0 r hp
  obtain ⟨w0,s0,Un,BN,E_,Fa,Fb,Fc,Fd⟩:=h0
  subst adj
  subst adk
  subst adl
  subst adm
  subst adn
  subst ado
  subst adp
  unfold b_.pl61 at hp
  unfold b_.l61
  refine lI w0 0 ?_
  refine lI w0 0 ?_
  refine aK hp (λhp=>?_) λhp=>?_
  ·refine lB w0 6 ?_
   refine aK hp (λhp=>?_) λhp=>?_
   ·refine lI w0 6 ?_
    refine lI w0 6 ?_
    refine lSl w0 6 ?_
    obtain ⟨w1,s1⟩:=w0.pp [1,0,2,3,4,5,6,7] 8
    have f2:=W.borrow1 eI w1 (BN.step s1)
    obtain ⟨w2,s2⟩:=w1.right1
    obtain ⟨r3,e3,hp⟩:=ah hp
    refine aM (bB.P rfl ⟨w2,f2⟩ e3) ?_
    rintro _ H4 ⟨rfl,w4,s4,_⟩
    obtain ⟨w5,s5⟩:=W.frame1 w1 w4 s4
    refine br ?_
    refine aK hp (λhp=>?_) λhp=>?_
    ·refine lg eI w5 (n:=1) (l:=([r3]:List Int)) rfl (CR.cons1 rfl CR.empty) rfl λH6 w6 s6 c6=>?_
     refine ar (w6.rowo (i:=0) rfl) ?_
     obtain ⟨l7,e7,hp⟩:=ah hp
     refine qk eI w6 (i:=8) rfl rfl (Fd.step (s1.trans (s5.trans s6))) c6 (show 1=List.length ([r3]:List Int) from rfl) rfl e7 λa8 d8 H8 w8 s8 c8 x8=>?_
     obtain ⟨w9,s9⟩:=w8.pp [2,1,3,4,5,6,7,8] 9
     exact b_.j3_P (@ih) rfl rfl rfl rfl rfl rfl rfl ⟨w9,(s0.trans (s1.trans (s5.trans (s6.trans (s8.trans s9))))),(Un.step (s1.trans (s5.trans (s6.trans (s8.trans s9))))),(BN.step (s1.trans (s5.trans (s6.trans (s8.trans s9))))),(E_.step (s1.trans (s5.trans (s6.trans (s8.trans s9))))),(Fa.step (s1.trans (s5.trans (s6.trans (s8.trans s9))))),(Fb.step (s1.trans (s5.trans (s6.trans (s8.trans s9))))),(Fc.step (s1.trans (s5.trans (s6.trans (s8.trans s9))))),(c8.step s9)⟩ hp
    ·obtain ⟨w10,s10⟩:=w5.pp [1,0,2,3,4,5,6,7] 8
     exact b_.j3_P (@ih) rfl rfl rfl rfl rfl rfl rfl ⟨w10,(s0.trans (s1.trans (s5.trans s10))),(Un.step (s1.trans (s5.trans s10))),(BN.step (s1.trans (s5.trans s10))),(E_.step (s1.trans (s5.trans s10))),(Fa.step (s1.trans (s5.trans s10))),(Fb.step (s1.trans (s5.trans s10))),(Fc.step (s1.trans (s5.trans s10))),(Fd.step (s1.trans (s5.trans s10)))⟩ hp
   ·obtain ⟨w11,s11⟩:=w0.pp [1,2,3,4,5,6,7] 8
    exact b_.j2_P rfl rfl rfl rfl rfl rfl ⟨w11,(s0.trans s11),(BN.step s11),(E_.step s11),(Fa.step s11),(Fb.step s11),(Fc.step s11),(Fd.step s11)⟩ hp
  ·obtain ⟨w12,s12⟩:=w0.pp [1,2,3,4,5,6,7] 8
   exact b_.j2_P rfl rfl rfl rfl rfl rfl ⟨w12,(s0.trans s12),(BN.step s12),(E_.step s12),(Fa.step s12),(Fb.step s12),(Fc.step s12),(Fd.step s12)⟩ hp
def b_.p (F:Nat) (aa:Int) (ac:Int) (eu:List Int):Option (List Int×Bool):=(bD.p F aa ac eu).bind λr2=>b_.pl61 F F aa ac r2.2.1 r2.2.2.1 r2.2.2.2.2.2.2.2.2.2.2.2.2.2.2.2 ([]:List Int) 0
theorem b_.P {aa ac:Int} {fo:ON} {eE:Nat} {fp:Cap} {eu:List Int} (lQ:eE=eu.length) (h0:Inn H R0 λR=>ROs eI H R ⟨fo,eE,fp⟩ eu) {r:List Int×Bool} (hp:b_.p F aa ac eu=some r):Rt (b_.tw F aa ac ⟨fo,eE,fp⟩ H) (b_.Q H R0 R0  r):=by
 obtain ⟨w0,kI⟩:=h0
 subst lQ
 unfold b_.p at hp
 unfold b_.tw b_.twX
 have s0:=w0.rf
 refine bR w0 λH1 w1 s1=>?_
 refine lI w1 0 ?_
 refine lI w1 0 ?_
 refine lSl w1 0 ?_
 obtain ⟨r2,e2,hp⟩:=ah hp
 refine aM (bD.P rfl ⟨w1,(kI.step s1)⟩ e2) ?_
 rintro _ H3 ⟨o2a_3,o2n_3,o2c_3,o2k_3,o5a_3,o5n_3,o5c_3,o5k_3,o8a_3,o8n_3,o8c_3,o8k_3,o11a_3,o11n_3,o11c_3,o11k_3,o14a_3,o14n_3,o14c_3,o14k_3,ob0_3,rfl,rfl,rfl,rfl,rfl,rfl,w3,s3,f3_0,f3_1,f3_2,f3_3,f3_4⟩
 refine br ?_
 refine lg eI w3 (n:=0) (l:=([]:List Int)) rfl CR.empty rfl λH4 w4 s4 c4=>?_
 obtain ⟨w5,s5⟩:=w4.pp [7,1,2,3,4,5,6,0] 8
 exact b_.l61_P F rfl rfl rfl rfl rfl rfl (show 0=List.length ([]:List Int) from rfl) ⟨w5,(s0.trans (s1.trans (s3.trans (s4.trans s5)))),(kI.step (s1.trans (s3.trans (s4.trans s5)))),(f3_0.step (s4.trans s5)),(f3_1.step (s4.trans s5)),(f3_2.step (s4.trans s5)),(f3_3.step (s4.trans s5)),(f3_4.step (s4.trans s5)),(c4.step s5)⟩ hp
def eA.Q (H0:Hp) (Ri R0:List Rs)  (r:Int) (v:AV) (H':Hp):Prop:=v=(.i r)/\Out H0 Ri H' (R0) λR=>True
def eA.S6 (H0:Hp) (Ri R0:List Rs)  (C:Int->Int->Hp->OA) (pC:Int->Int->Option (Int)):Prop:=∀ {eV jp:Int},∀ {H:Hp},(Out H0 Ri H R0 λR=>True)->∀ {r:Int},pC eV jp=some r->Rt (C eV jp H) (eA.Q H0 Ri R0  r)
def eA.pl6 (F:Nat) :Nat->Int->Int->Option (Int)
 | 0,_,_=>none
 | k+1,eV,jp=>(bif (decide (jp>0)) then ((if jp=0 then none else (eA.pl6 F k jp (Int.tmod eV jp)))) else (some eV))
theorem eA.l6_P  :∀ k,eA.S6 H0 Ri R0  (eA.l6 F   k) (eA.pl6 F  k):=by
 intro k
 induction k with
 | zero=>unfold eA.S6;intros;rename_i hp;cases hp
 | succ k ih=>
  intro eV jp H h0 r hp
  obtain ⟨w0,s0,_⟩:=h0
  unfold eA.pl6 at hp
  unfold eA.l6
  refine aK hp (λhp=>?_) λhp=>?_
  ·obtain ⟨g1,hp⟩:=rW hp
   refine rX g1 ?_
   exact ih ⟨w0,s0,trivial⟩ hp
  ·exact aO hp ⟨rfl,w0,s0,trivial⟩
def eA.p (F:Nat) (aa:Int) (ai:Int):Option (Int):=eA.pl6 F F aa ai
theorem eA.P {aa ai:Int}  (h0:Inn H R0 λR=>True) {r:Int} (hp:eA.p F aa ai=some r):Rt (eA.tw F aa ai H) (eA.Q H R0 R0  r):=by
 obtain ⟨w0,_⟩:=h0
 unfold eA.p at hp
 unfold eA.tw eA.twX
 have s0:=w0.rf
 exact eA.l6_P F ⟨w0,s0,trivial⟩ hp
def cX.Q (H0:Hp) (Ri R0:List Rs)  (r:Int×Int) (v:AV) (H':Hp):Prop:=v=(.tup [(.i r.1),(.i r.2)])/\Out H0 Ri H' (R0) λR=>True
def cX.S1021 (H0:Hp) (Ri R0:List Rs)  (C:Int->Nat->Nat->Sl->Int->Int->Hp->OA) (pC:Int->Int->List Int->Int->Int->Option (Int×Int)):Prop:=∀ {mD Uo wv nG lD:Int} {Lm Ln:ON} {Fe pT Ff:Nat} {Lo Lp:Cap} {Lq rP:List Int} {Lr Lt:List AV},∀ {H:Hp},Fe=Lq.length->Ff=rP.length->(Out H0 Ri H (Rs.own ⟨Lm,Fe,Lo⟩ eI.z Lr::Rs.blk pT [.i Uo,.i wv,.sl ⟨Lm,Fe,Lo⟩]::Rs.own ⟨Ln,Ff,Lp⟩ eI.z Lt::R0) λR=>CR eI H R Lr Lq/\CR eI H R Lt rP)->∀ {r:Int×Int},pC mD wv rP nG lD=some r->Rt (C mD pT 0 ⟨Ln,Ff,Lp⟩ nG lD H) (cX.Q H0 Ri R0  r)
def cX.pj2 (F:Nat) (Fg:Int->Int->List Int->Int->Int->Option (Int×Int)) (yb:Int) (Fh:Int) (BO:List Int) (yc:Int) (yd:Int) (ye:Int):Option (Int×Int):=(gC.p F yc ye 1000000000000).bind λr1=>(bif (!r1.2) then (some (0,3)) else (Fg yb Fh BO r1.1 (IntKind.i64.wrap (yd+1))))
theorem cX.j2_P  {C1021_:Int->Nat->Nat->Sl->Int->Int->Hp->OA} {Fg:Int->Int->List Int->Int->Int->Option (Int×Int)} (hC1021:cX.S1021 H0 Ri R0  C1021_ Fg) {yb adq Fh yc yd ye:Int} {Up Uq:ON} {Lu Dd Lv:Nat} {Ur Us:Cap} {Ut BO:List Int} {Uu Uv:List AV} (ads:Lu=Ut.length) (adt:Lv=BO.length) (h0:Out H0 Ri H (Rs.own ⟨Up,Lu,Ur⟩ eI.z Uu::Rs.blk Dd [.i adq,.i Fh,.sl ⟨Up,Lu,Ur⟩]::Rs.own ⟨Uq,Lv,Us⟩ eI.z Uv::R0) λR=>CR eI H R Uu Ut/\CR eI H R Uv BO) {r:Int×Int} (hp:cX.pj2 F Fg yb Fh BO yc yd ye=some r):Rt (cX.j2 F (gR.tw F) (fq.tw F) (dQ.tw F) (b_.tw F) (eA.tw F) (gC.tw F) C1021_ yb Dd 0 ⟨Uq,Lv,Us⟩ yc yd ye H) (cX.Q H0 Ri R0  r):=by
 obtain ⟨w0,s0,adu,adv⟩:=h0
 subst ads
 subst adt
 unfold cX.pj2 at hp
 unfold cX.j2
 obtain ⟨r1,e1,hp⟩:=ah hp
 refine aM (gC.P ⟨w0,trivial⟩ e1) ?_
 rintro _ H2 ⟨rfl,w2,s2,_⟩
 refine br ?_
 refine br ?_
 refine br ?_
 refine br ?_
 refine br ?_
 refine aK hp (λhp=>?_) λhp=>?_
 ·obtain ⟨w3,s3⟩:=w2.pp [] 3
  exact aO hp ⟨rfl,w3,(s0.trans (s2.trans s3)),trivial⟩
 ·exact hC1021 rfl rfl ⟨w2,(s0.trans s2),(adu.step s2),(adv.step s2)⟩ hp
def cX.pl1021 (F:Nat) :Nat->Int->Int->List Int->Int->Int->Option (Int×Int)
 | 0,_,_,_,_,_=>none
 | k+1,mD,wv,rP,nG,lD=>(bif (decide (lD<wv)) then ((bif (decide (lD<(rP.length:Int))) then ((ix rP lD).bind λn1=>(eA.p F mD (gt rP n1)).bind λr2=>cX.pj2 F (cX.pl1021 F k) mD wv rP nG lD r2) else (cX.pj2 F (cX.pl1021 F k) mD wv rP nG lD mD))) else (some (nG,0)))
theorem cX.l1021_P  :∀ k,cX.S1021 H0 Ri R0  (cX.l1021 F (gR.tw F) (fq.tw F) (dQ.tw F) (b_.tw F) (eA.tw F) (gC.tw F)  k) (cX.pl1021 F  k):=by
 intro k
 induction k with
 | zero=>unfold cX.S1021;intros;rename_i hp;cases hp
 | succ k ih=>
  intro mD Uo wv nG lD Lm Ln Fe pT Ff Lo Lp Lq rP Lr Lt H adw adx h0 r hp
  obtain ⟨w0,s0,Uw,Lw⟩:=h0
  subst adw
  subst adx
  unfold cX.pl1021 at hp
  unfold cX.l1021
  refine lI w0 1 ?_
  refine aK hp (λhp=>?_) λhp=>?_
  ·refine aK hp (λhp=>?_) λhp=>?_
   ·obtain ⟨n1,g1,hp⟩:=ah hp
    obtain ⟨p1,q1,i1,h1,j1⟩:=W.ixo (E:=eI) w0 (i:=2) rfl rfl Lw g1
    refine ar i1 ?_
    have h1:_=[_]:=h1
    subst h1
    refine ar (bA (j1 0 _ rfl)) ?_
    obtain ⟨r2,e2,hp⟩:=ah hp
    refine aM (eA.P ⟨w0,trivial⟩ e2) ?_
    rintro _ H3 ⟨rfl,w3,s3,_⟩
    refine br ?_
    exact cX.j2_P (@ih) rfl rfl ⟨w3,(s0.trans s3),(Uw.step s3),(Lw.step s3)⟩ hp
   ·exact cX.j2_P (@ih) rfl rfl ⟨w0,s0,Uw,Lw⟩ hp
  ·obtain ⟨w4,s4⟩:=w0.pp [] 3
   exact aO hp ⟨rfl,w4,(s0.trans s4),trivial⟩
def cX.p (F:Nat) (ak:List (Int×Int×Int×Int×Int)) (ac:Int) (af:Int):Option (Int×Int):=(gR.p F ak ac).bind λr2=>(bif (!r2) then (some (0,1)) else ((fq.p F af 1 30).bind λr5=>(bif (!r5) then (some (0,2)) else ((dQ.p F ak ac).bind λr8=>(b_.p F r8.1 r8.2.1 r8.2.2).bind λr16=>(bif (!r16.2) then (some (0,3)) else (cX.pl1021 F F af r8.2.1 r16.1 1 0))))))
theorem cX.P {bE:ON} {aV:Nat} {bF:Cap} {ak:List (Int×Int×Int×Int×Int)} {ac af:Int} (cR:aV=ak.length) (h0:Inn H R0 λR=>ROs (ag eI (ag eI (ag eI (ag eI eI)))) H R ⟨bE,aV,bF⟩ ak) {r:Int×Int} (hp:cX.p F ak ac af=some r):Rt (cX.tw F ⟨bE,aV,bF⟩ ac af H) (cX.Q H R0 R0  r):=by
 obtain ⟨w0,cE⟩:=h0
 subst cR
 unfold cX.p at hp
 unfold cX.tw cX.twX
 have s0:=w0.rf
 refine bR w0 λH1 w1 s1=>?_
 refine lSl w1 0 ?_
 refine lI w1 0 ?_
 obtain ⟨r2,e2,hp⟩:=ah hp
 refine aM (gR.P rfl ⟨w1,(cE.step s1)⟩ e2) ?_
 rintro _ H3 ⟨rfl,w3,s3,_⟩
 refine br ?_
 refine aK hp (λhp=>?_) λhp=>?_
 ·obtain ⟨w4,s4⟩:=w3.pp [] 1
  exact aO hp ⟨rfl,w4,(s0.trans (s1.trans (s3.trans s4))),trivial⟩
 ·obtain ⟨r5,e5,hp⟩:=ah hp
  refine aM (fq.P ⟨w3,trivial⟩ e5) ?_
  rintro _ H6 ⟨rfl,w6,s6,_⟩
  refine br ?_
  refine aK hp (λhp=>?_) λhp=>?_
  ·obtain ⟨w7,s7⟩:=w6.pp [] 1
   exact aO hp ⟨rfl,w7,(s0.trans (s1.trans (s3.trans (s6.trans s7)))),trivial⟩
  ·refine lSl w6 0 ?_
   refine lI w6 0 ?_
   obtain ⟨r8,e8,hp⟩:=ah hp
   refine aM (dQ.P rfl ⟨w6,(cE.step (s1.trans (s3.trans s6)))⟩ e8) ?_
   rintro _ H9 ⟨o2a_9,o2n_9,o2c_9,o2k_9,rfl,rfl,w9,s9,f9_0⟩
   refine br ?_
   refine br ?_
   refine br ?_
   refine br ?_
   refine br ?_
   refine br ?_
   refine br ?_
   refine bR w9 λH10 w10 s10=>?_
   refine aJ w10 0 λH11 w11 s11=>?_
   refine aJ w11 0 λH12 w12 s12=>?_
   refine aJ w12 0 λH13 w13 s13=>?_
   refine lI w13 0 ?_
   refine lI w13 0 ?_
   refine lSl w13 0 ?_
   obtain ⟨w14,s14⟩:=w13.pp [1,0,2] 3
   have f15:=W.borrow1 eI w14 (f9_0.step (s10.trans (s11.trans (s12.trans (s13.trans s14)))))
   obtain ⟨w15,s15⟩:=w14.right1
   obtain ⟨r16,e16,hp⟩:=ah hp
   refine aM (b_.P rfl ⟨w15,f15⟩ e16) ?_
   rintro _ H17 ⟨o0a_17,o0n_17,o0c_17,o0k_17,rfl,rfl,w17,s17,f17_0⟩
   obtain ⟨w18,s18⟩:=W.frame1 w14 w17 s17
   refine br ?_
   refine br ?_
   refine br ?_
   refine br ?_
   refine br ?_
   refine aK hp (λhp=>?_) λhp=>?_
   ·obtain ⟨w19,s19⟩:=w18.pp [] 4
    exact aO hp ⟨rfl,w19,(s0.trans (s1.trans (s3.trans (s6.trans (s9.trans (s10.trans (s11.trans (s12.trans (s13.trans (s14.trans (s18.trans s19))))))))))),trivial⟩
   ·obtain ⟨w20,s20⟩:=w18.pp [0,2,1] 4
    exact cX.l1021_P F rfl rfl ⟨w20,(s0.trans (s1.trans (s3.trans (s6.trans (s9.trans (s10.trans (s11.trans (s12.trans (s13.trans (s14.trans (s18.trans s20))))))))))),(f9_0.step (s10.trans (s11.trans (s12.trans (s13.trans (s14.trans (s18.trans s20))))))),((CR.flat (tj .i64) f17_0).step s20)⟩ hp
def eS.Q (H0:Hp) (Ri R0:List Rs)  (r:Int) (v:AV) (H':Hp):Prop:=v=(.i r)/\Out H0 Ri H' (R0) λR=>True
def eS.p (F:Nat) (ak:List (Int×Int×Int×Int×Int)):Option (Int):=some (ak.length:Int)
theorem eS.P {bE:ON} {aV:Nat} {bF:Cap} {ak:List (Int×Int×Int×Int×Int)} (cR:aV=ak.length) (h0:Inn H R0 λR=>ROs (ag eI (ag eI (ag eI (ag eI eI)))) H R ⟨bE,aV,bF⟩ ak) {r:Int} (hp:eS.p F ak=some r):Rt (eS.tw F ⟨bE,aV,bF⟩ H) (eS.Q H R0 R0  r):=by
 obtain ⟨w0,cE⟩:=h0
 subst cR
 unfold eS.p at hp
 unfold eS.tw eS.twX
 have s0:=w0.rf
 exact aO hp ⟨rfl,w0,s0,trivial⟩
def gk.Q (H0:Hp) (Ri R0:List Rs)  (r:Bool) (v:AV) (H':Hp):Prop:=v=(.bool r)/\Out H0 Ri H' (R0) λR=>True
def gk.p (F:Nat) (aa:Int) (ai:Int) (cV:Int):Option (Bool):=(bif (decide (ai<=aa)) then (some (decide (aa<=cV))) else (some false))
theorem gk.P {aa ai cV:Int}  (h0:Inn H R0 λR=>True) {r:Bool} (hp:gk.p F aa ai cV=some r):Rt (gk.tw F aa ai cV H) (gk.Q H R0 R0  r):=by
 obtain ⟨w0,_⟩:=h0
 unfold gk.p at hp
 unfold gk.tw gk.twX
 have s0:=w0.rf
 refine aK hp (λhp=>?_) λhp=>?_
 ·exact aO hp ⟨rfl,w0,s0,trivial⟩
 ·exact aO hp ⟨rfl,w0,s0,trivial⟩
def jq.Q (H0:Hp) (Ri R0:List Rs)  (r:Bool) (v:AV) (H':Hp):Prop:=v=(.bool r)/\Out H0 Ri H' (R0) λR=>True
def jq.p (F:Nat) (cG:Int):Option (Bool):=(bif (cG != 1) then (some (cG != (-1))) else (some false))
theorem jq.P {aa ac aI cL cG:Int}  (h0:Inn H R0 λR=>True) {r:Bool} (hp:jq.p F cG=some r):Rt (jq.tw F aa ac aI cL cG H) (jq.Q H R0 R0  r):=by
 obtain ⟨w0,_⟩:=h0
 unfold jq.p at hp
 unfold jq.tw jq.twX
 have s0:=w0.rf
 refine bR w0 λH1 w1 s1=>?_
 refine lI w1 0 ?_
 refine aK hp (λhp=>?_) λhp=>?_
 ·refine lI w1 0 ?_
  obtain ⟨w2,s2⟩:=w1.pp [] 1
  exact aO hp ⟨rfl,w2,(s0.trans (s1.trans s2)),trivial⟩
 ·obtain ⟨w3,s3⟩:=w1.pp [] 1
  exact aO hp ⟨rfl,w3,(s0.trans (s1.trans s3)),trivial⟩
def eD.Q (H0:Hp) (Ri R0:List Rs)  (r:Int) (v:AV) (H':Hp):Prop:=v=(.i r)/\Out H0 Ri H' (R0) λR=>True
def eD.S13 (H0:Hp) (Ri R0:List Rs)  (C:Sl->Int->Int->Hp->OA) (pC:List (Int×Int×Int×Int×Int)->Int->Int->Option (Int)):Prop:=∀ {ww:ON} {ta:Nat} {wx:Cap} {n_:List (Int×Int×Int×Int×Int)} {iH gI:Int},∀ {H:Hp},ta=n_.length->(Out H0 Ri H R0 λR=>ROs (ag eI (ag eI (ag eI (ag eI eI)))) H R ⟨ww,ta,wx⟩ n_)->∀ {r:Int},pC n_ iH gI=some r->Rt (C ⟨ww,ta,wx⟩ iH gI H) (eD.Q H0 Ri R0  r)
def eD.pl13 (F:Nat) :Nat->List (Int×Int×Int×Int×Int)->Int->Int->Option (Int)
 | 0,_,_,_=>none
 | k+1,n_,iH,gI=>(bif (decide (gI<iH)) then ((ix n_ gI).bind λn1=>(jq.p F ((gt n_ n1).2.2.2.2)).bind λr2=>(bif r2 then (some gI) else (eD.pl13 F k n_ iH (IntKind.i64.wrap (gI+1))))) else (some (-1)))
theorem eD.l13_P  :∀ k,eD.S13 H0 Ri R0  (eD.l13 F (jq.tw F)  k) (eD.pl13 F  k):=by
 intro k
 induction k with
 | zero=>unfold eD.S13;intros;rename_i hp;cases hp
 | succ k ih=>
  intro ww ta wx n_ iH gI H Lx h0 r hp
  obtain ⟨w0,s0,BP⟩:=h0
  subst Lx
  unfold eD.pl13 at hp
  unfold eD.l13
  refine aK hp (λhp=>?_) λhp=>?_
  ·obtain ⟨n1,g1,hp⟩:=ah hp
   obtain ⟨p1,q1,i1,h1,j1⟩:=ROs.ixr BP rfl g1
   refine ar i1 ?_
   obtain ⟨_,_,rfl,rfl,_,_,rfl,rfl,_,_,rfl,rfl,_,_,rfl,rfl,rfl⟩:=h1
   refine ar (bA (j1 0 _ rfl)) ?_
   refine ar (bA (j1 1 _ rfl)) ?_
   refine ar (bA (j1 2 _ rfl)) ?_
   refine ar (bA (j1 3 _ rfl)) ?_
   refine ar (bA (j1 4 _ rfl)) ?_
   obtain ⟨r2,e2,hp⟩:=ah hp
   refine aM (jq.P ⟨w0,trivial⟩ e2) ?_
   rintro _ H3 ⟨rfl,w3,s3,_⟩
   refine br ?_
   refine aK hp (λhp=>?_) λhp=>?_
   ·exact aO hp ⟨rfl,w3,(s0.trans s3),trivial⟩
   ·exact ih rfl ⟨w3,(s0.trans s3),(BP.step s3)⟩ hp
  ·exact aO hp ⟨rfl,w0,s0,trivial⟩
def eD.p (F:Nat) (ak:List (Int×Int×Int×Int×Int)):Option (Int):=eD.pl13 F F ak (ak.length:Int) 0
theorem eD.P {bE:ON} {aV:Nat} {bF:Cap} {ak:List (Int×Int×Int×Int×Int)} (cR:aV=ak.length) (h0:Inn H R0 λR=>ROs (ag eI (ag eI (ag eI (ag eI eI)))) H R ⟨bE,aV,bF⟩ ak) {r:Int} (hp:eD.p F ak=some r):Rt (eD.tw F ⟨bE,aV,bF⟩ H) (eD.Q H R0 R0  r):=by
 obtain ⟨w0,cE⟩:=h0
 subst cR
 unfold eD.p at hp
 unfold eD.tw eD.twX
 have s0:=w0.rf
 exact eD.l13_P F rfl ⟨w0,s0,cE⟩ hp
def jc.Q (H0:Hp) (Ri R0:List Rs)  (r:Bool) (v:AV) (H':Hp):Prop:=v=(.bool r)/\Out H0 Ri H' (R0) λR=>True
def jc.p (F:Nat) (ak:List (Int×Int×Int×Int×Int)):Option (Bool):=(eD.p F ak).bind λr1=>some (decide (r1>=0))
theorem jc.P {bE:ON} {aV:Nat} {bF:Cap} {ak:List (Int×Int×Int×Int×Int)} (cR:aV=ak.length) (h0:Inn H R0 λR=>ROs (ag eI (ag eI (ag eI (ag eI eI)))) H R ⟨bE,aV,bF⟩ ak) {r:Bool} (hp:jc.p F ak=some r):Rt (jc.tw F ⟨bE,aV,bF⟩ H) (jc.Q H R0 R0  r):=by
 obtain ⟨w0,cE⟩:=h0
 subst cR
 unfold jc.p at hp
 unfold jc.tw jc.twX
 have s0:=w0.rf
 obtain ⟨r1,e1,hp⟩:=ah hp
 refine aM (eD.P rfl ⟨w0,cE⟩ e1) ?_
 rintro _ H2 ⟨rfl,w2,s2,_⟩
 refine br ?_
 exact aO hp ⟨rfl,w2,(s0.trans s2),trivial⟩
def bits_Mul64.Q (H0:Hp) (Ri R0:List Rs)  (r:Int×Int) (v:AV) (H':Hp):Prop:=v=(.tup [(.int .u64 r.1),(.int .u64 r.2)])/\Out H0 Ri H' (R0) λR=>True
def bits_Mul64.p (F:Nat) (aa:Int) (ai:Int):Option (Int×Int):=some ((IntKind.u64.wrap ((IntKind.u64.wrap ((IntKind.u64.wrap ((Int.fdiv aa (2 ^ (min (32:Int).toNat (IntKind.u64).bits))) * (Int.fdiv ai (2 ^ (min (32:Int).toNat (IntKind.u64).bits)))))+(Int.fdiv (IntKind.u64.wrap ((IntKind.u64.wrap ((Int.fdiv aa (2 ^ (min (32:Int).toNat (IntKind.u64).bits))) * (Go.bits .and .u64 ai 4294967295)))+(Int.fdiv (IntKind.u64.wrap ((Go.bits .and .u64 aa 4294967295) * (Go.bits .and .u64 ai 4294967295))) (2 ^ (min (32:Int).toNat (IntKind.u64).bits))))) (2 ^ (min (32:Int).toNat (IntKind.u64).bits)))))+(Int.fdiv (IntKind.u64.wrap ((Go.bits .and .u64 (IntKind.u64.wrap ((IntKind.u64.wrap ((Int.fdiv aa (2 ^ (min (32:Int).toNat (IntKind.u64).bits))) * (Go.bits .and .u64 ai 4294967295)))+(Int.fdiv (IntKind.u64.wrap ((Go.bits .and .u64 aa 4294967295) * (Go.bits .and .u64 ai 4294967295))) (2 ^ (min (32:Int).toNat (IntKind.u64).bits))))) 4294967295)+(IntKind.u64.wrap ((Go.bits .and .u64 aa 4294967295) * (Int.fdiv ai (2 ^ (min (32:Int).toNat (IntKind.u64).bits))))))) (2 ^ (min (32:Int).toNat (IntKind.u64).bits))))),(IntKind.u64.wrap (aa * ai)))
theorem bits_Mul64.P {aa ai:Int}  (h0:Inn H R0 λR=>True) {r:Int×Int} (hp:bits_Mul64.p F aa ai=some r):Rt (bits_Mul64.tw F aa ai H) (bits_Mul64.Q H R0 R0  r):=by
 obtain ⟨w0,_⟩:=h0
 unfold bits_Mul64.p at hp
 unfold bits_Mul64.tw bits_Mul64.twX
 have s0:=w0.rf
 exact aO hp ⟨rfl,w0,s0,trivial⟩
def bits_Mul.Q (H0:Hp) (Ri R0:List Rs)  (r:Int×Int) (v:AV) (H':Hp):Prop:=v=(.tup [(.int .u64 r.1),(.int .u64 r.2)])/\Out H0 Ri H' (R0) λR=>True
def bits_Mul.p (F:Nat) (aa:Int) (ai:Int):Option (Int×Int):=(bits_Mul64.p F aa ai).bind λr1=>some (r1.1,r1.2)
theorem bits_Mul.P {aa ai:Int}  (h0:Inn H R0 λR=>True) {r:Int×Int} (hp:bits_Mul.p F aa ai=some r):Rt (bits_Mul.tw F aa ai H) (bits_Mul.Q H R0 R0  r):=by
 obtain ⟨w0,_⟩:=h0
 unfold bits_Mul.p at hp
 unfold bits_Mul.tw bits_Mul.twX
 have s0:=w0.rf
 obtain ⟨r1,e1,hp⟩:=ah hp
 refine aM (bits_Mul64.P ⟨w0,trivial⟩ e1) ?_
 rintro _ H2 ⟨rfl,w2,s2,_⟩
 refine br ?_
 refine br ?_
 refine br ?_
 refine br ?_
 refine br ?_
 exact aO hp ⟨rfl,w2,(s0.trans s2),trivial⟩
def dc.Q (H0:Hp) (Ri R0:List Rs)  (r:(List (Int×Int))) (v:AV) (H':Hp):Prop:=∃ o0a:ON,∃ o0n:Nat,∃ o0k:List AV,v=(.sl ⟨o0a,o0n,.ex o0n⟩)/\o0n=(r).length/\Out H0 Ri H' (Rs.own ⟨o0a,o0n,.ex o0n⟩ (ag eI eI).z o0k::R0) λR=>CR (ag eI eI) H' R o0k (r)
def dc.pj1 (F:Nat)  (z_:List (Int×Int)) (vj:Int):Option ((List (Int×Int))):=(mkn (IntKind.i64.wrap vj) ((0:Int),(0:Int))).bind λl1=>(some (cpl l1 z_)).bind λl3=>(Aw F l3 ((min z_.length l1.length:Nat):Int)).bind λl5=>some l5
theorem dc.j1_P   {Ux:ON} {Ly:Nat} {Uy:Cap} {z_:List (Int×Int)} {vj:Int} (ady:Ly=z_.length) (h0:Out H0 Ri H R0 λR=>ROs (ag eI eI) H R ⟨Ux,Ly,Uy⟩ z_) {r:(List (Int×Int))} (hp:dc.pj1 F  z_ vj=some r):Rt (dc.j1 F (bits_Mul.tw F)  ⟨Ux,Ly,Uy⟩ vj H) (dc.Q H0 Ri R0  r):=by
 obtain ⟨w0,s0,adz⟩:=h0
 subst ady
 unfold dc.pj1 at hp
 unfold dc.j1
 obtain ⟨l1,e1,hp⟩:=ah hp
 refine uX (ag eI eI) ((0:Int),(0:Int)) w0 ⟨[_],_,rfl,rfl,rfl⟩ rfl rfl e1 λH2 k2 w2 s2 c2=>?_
 obtain ⟨x3,h3,c3⟩:=(adz.step s2).row (z:=(ag eI eI).z) rfl
 obtain ⟨l3,e3,hp⟩:=ah hp
 refine afL (ag eI eI) w2 (i:=0) rfl rfl c2 h3 c3 rfl rfl e3 λk4 H4 w4 s4 c4=>?_
 obtain ⟨l5,e5,hp⟩:=ah hp
 refine afM (ag eI eI) rfl (L:=dc.l254 F (bits_Mul.tw F)) (λ_ _ _ _=>rfl) w4 (i:=0) rfl c4 e5 λH6 k6 w6 s6 c6=>?_
 dsimp only [List.set] at w6 s6 c6
 exact aO hp ⟨_,_,_,rfl,((afN e3).symm.trans (afO e5).symm),w6,(s0.trans (s2.trans (s4.trans s6))),c6⟩
def dc.pj2 (F:Nat)  (Aa:List (Int×Int)) (yh:Int):Option ((List (Int×Int))):=(bits_Mul.p F (IntKind.u64.wrap (Aa.length:Int)) (IntKind.u64.wrap yh)).bind λr1=>(bif (decide (r1.1>0)) then (none) else ((bif (decide (r1.2>9223372036854775807)) then (none) else (dc.pj1 F Aa r1.2))))
theorem dc.j2_P   {Uz:ON} {Lz:Nat} {UA:Cap} {Aa:List (Int×Int)} {yh:Int} (adA:Lz=Aa.length) (h0:Out H0 Ri H R0 λR=>ROs (ag eI eI) H R ⟨Uz,Lz,UA⟩ Aa) {r:(List (Int×Int))} (hp:dc.pj2 F  Aa yh=some r):Rt (dc.j2 F (bits_Mul.tw F)  ⟨Uz,Lz,UA⟩ yh H) (dc.Q H0 Ri R0  r):=by
 obtain ⟨w0,s0,adB⟩:=h0
 subst adA
 unfold dc.pj2 at hp
 unfold dc.j2
 obtain ⟨r1,e1,hp⟩:=ah hp
 refine aM (bits_Mul.P ⟨w0,trivial⟩ e1) ?_
 rintro _ H2 ⟨rfl,w2,s2,_⟩
 refine br ?_
 refine br ?_
 refine br ?_
 refine br ?_
 refine br ?_
 refine aK hp (λhp=>?_) λhp=>?_
 ·cases hp
 ·refine aK hp (λhp=>?_) λhp=>?_
  ·cases hp
  ·exact dc.j1_P rfl ⟨w2,(s0.trans s2),(adB.step s2)⟩ hp
def dc.p (F:Nat) (ak:List (Int×Int)) (ai:Int):Option ((List (Int×Int))):=(bif (decide (ai<0)) then (none) else (dc.pj2 F ak ai))
theorem dc.P {bE:ON} {aV:Nat} {bF:Cap} {ak:List (Int×Int)} {ai:Int} (cR:aV=ak.length) (h0:Inn H R0 λR=>ROs (ag eI eI) H R ⟨bE,aV,bF⟩ ak) {r:(List (Int×Int))} (hp:dc.p F ak ai=some r):Rt (dc.tw F ⟨bE,aV,bF⟩ ai H) (dc.Q H R0 R0  r):=by
 obtain ⟨w0,cE⟩:=h0
 subst cR
 unfold dc.p at hp
 unfold dc.tw dc.twX
 have s0:=w0.rf
 refine aK hp (λhp=>?_) λhp=>?_
 ·cases hp
 ·exact dc.j2_P rfl ⟨w0,s0,cE⟩ hp
def hJ.Q (H0:Hp) (Ri R0:List Rs)  (r:Int×Int×Int×Int) (v:AV) (H':Hp):Prop:=v=(.agg [(.i r.1),(.i r.2.1),(.i r.2.2.1),(.i r.2.2.2)])/\Out H0 Ri H' (R0) λR=>True
def hJ.p (F:Nat) (aa:Int) (ac:Int) (aI:Int) (cL:Int):Option (Int×Int×Int×Int):=some (aa,ac,aI,cL)
theorem hJ.P {aa ac aI cL cG:Int}  (h0:Inn H R0 λR=>True) {r:Int×Int×Int×Int} (hp:hJ.p F aa ac aI cL=some r):Rt (hJ.tw F aa ac aI cL cG H) (hJ.Q H R0 R0  r):=by
 obtain ⟨w0,_⟩:=h0
 unfold hJ.p at hp
 unfold hJ.tw hJ.twX
 have s0:=w0.rf
 refine bR w0 λH1 w1 s1=>?_
 refine bR w1 λH2 w2 s2=>?_
 refine lI w2 1 ?_
 refine lI w2 1 ?_
 refine lI w2 1 ?_
 refine lI w2 1 ?_
 refine aJ w2 0 λH3 w3 s3=>?_
 refine aJ w3 0 λH4 w4 s4=>?_
 refine aJ w4 0 λH5 w5 s5=>?_
 refine aJ w5 0 λH6 w6 s6=>?_
 refine lI w6 0 ?_
 refine lI w6 0 ?_
 refine lI w6 0 ?_
 refine lI w6 0 ?_
 obtain ⟨w7,s7⟩:=w6.pp [] 2
 exact aO hp ⟨rfl,w7,(s0.trans (s1.trans (s2.trans (s3.trans (s4.trans (s5.trans (s6.trans s7))))))),trivial⟩
def hK.Q (H0:Hp) (Ri R0:List Rs)  (r:Bool) (v:AV) (H':Hp):Prop:=v=(.bool r)/\Out H0 Ri H' (R0) λR=>True
def hK.p (F:Nat) (cG:Int) (eB:Int):Option (Bool):=(bif (eB==0) then (some true) else (some (eB==(IntKind.i64.wrap (2+cG)))))
theorem hK.P {aa ac aI cL cG eB:Int}  (h0:Inn H R0 λR=>True) {r:Bool} (hp:hK.p F cG eB=some r):Rt (hK.tw F aa ac aI cL cG eB H) (hK.Q H R0 R0  r):=by
 obtain ⟨w0,_⟩:=h0
 unfold hK.p at hp
 unfold hK.tw hK.twX
 have s0:=w0.rf
 refine bR w0 λH1 w1 s1=>?_
 refine aK hp (λhp=>?_) λhp=>?_
 ·obtain ⟨w2,s2⟩:=w1.pp [] 1
  exact aO hp ⟨rfl,w2,(s0.trans (s1.trans s2)),trivial⟩
 ·refine lI w1 0 ?_
  obtain ⟨w3,s3⟩:=w1.pp [] 1
  exact aO hp ⟨rfl,w3,(s0.trans (s1.trans s3)),trivial⟩
def jP.Q (H0:Hp) (Ri R0:List Rs)  (r:Int) (v:AV) (H':Hp):Prop:=v=(.i r)/\Out H0 Ri H' (R0) λR=>True
def jP.p (F:Nat) (ak:List (Int×Int)):Option (Int):=some (ak.length:Int)
theorem jP.P {bE:ON} {aV:Nat} {bF:Cap} {ak:List (Int×Int)} (cR:aV=ak.length) (h0:Inn H R0 λR=>ROs (ag eI eI) H R ⟨bE,aV,bF⟩ ak) {r:Int} (hp:jP.p F ak=some r):Rt (jP.tw F ⟨bE,aV,bF⟩ H) (jP.Q H R0 R0  r):=by
 obtain ⟨w0,cE⟩:=h0
 subst cR
 unfold jP.p at hp
 unfold jP.tw jP.twX
 have s0:=w0.rf
 exact aO hp ⟨rfl,w0,s0,trivial⟩
def ik.Q (H0:Hp) (Ri R0:List Rs)  (r:Bool) (v:AV) (H':Hp):Prop:=v=(.bool r)/\Out H0 Ri H' (R0) λR=>True
def ik.p (F:Nat) (ak:List (Int×Int)) (ai:Int):Option (Bool):=(jP.p F ak).bind λr1=>(gk.p F ai 0 (IntKind.i64.wrap (r1 - 1))).bind λr3=>some r3
theorem ik.P {bE:ON} {aV:Nat} {bF:Cap} {ak:List (Int×Int)} {ai:Int} (cR:aV=ak.length) (h0:Inn H R0 λR=>ROs (ag eI eI) H R ⟨bE,aV,bF⟩ ak) {r:Bool} (hp:ik.p F ak ai=some r):Rt (ik.tw F ⟨bE,aV,bF⟩ ai H) (ik.Q H R0 R0  r):=by
 obtain ⟨w0,cE⟩:=h0
 subst cR
 unfold ik.p at hp
 unfold ik.tw ik.twX
 have s0:=w0.rf
 obtain ⟨r1,e1,hp⟩:=ah hp
 refine aM (jP.P rfl ⟨w0,cE⟩ e1) ?_
 rintro _ H2 ⟨rfl,w2,s2,_⟩
 refine br ?_
 obtain ⟨r3,e3,hp⟩:=ah hp
 refine aM (gk.P ⟨w2,trivial⟩ e3) ?_
 rintro _ H4 ⟨rfl,w4,s4,_⟩
 refine br ?_
 exact aO hp ⟨rfl,w4,(s0.trans (s2.trans s4)),trivial⟩
def bZ.Q (H0:Hp) (Ri R0:List Rs)  (r:(List (Int×Int))×(List (Int×Int))×Bool) (v:AV) (H':Hp):Prop:=∃ o0a:ON,∃ o0n:Nat,∃ o0c:Cap,∃ o0k:List AV,∃ o1a:ON,∃ o1n:Nat,∃ o1c:Cap,∃ o1k:List AV,v=(.tup [(.agg [(.sl ⟨o0a,o0n,o0c⟩),(.sl ⟨o1a,o1n,o1c⟩)]),(.bool r.2.2)])/\o0n=(r.1).length/\o1n=(r.2.1).length/\Out H0 Ri H' (Rs.own ⟨o0a,o0n,o0c⟩ (ag eI eI).z o0k::Rs.own ⟨o1a,o1n,o1c⟩ (ag eI eI).z o1k::R0) λR=>CR (ag eI eI) H' R o0k (r.1)/\CR (ag eI eI) H' R o1k (r.2.1)
def bZ.S61 (H0:Hp) (Ri R0:List Rs)  (C:Nat->Nat->Nat->Nat->Sl->Int->Int->Hp->OA) (pC:List (Int×Int)->List (Int×Int)->List (Int×Int×Int×Int×Int)->Int->Int->Option ((List (Int×Int))×(List (Int×Int))×Bool)):Prop:=∀ {LA LB LC LD LE:ON} {Fi Fj oH Fk Fl pV Fm:Nat} {LF LG LI LJ LL:Cap} {LM LN wy wz:List (Int×Int)} {LP LQ LR LS:List AV} {qC:List (Int×Int×Int×Int×Int)} {oI mG:Int},∀ {H:Hp},Fi=LM.length->Fj=LN.length->Fk=wy.length->Fl=wz.length->Fm=qC.length->(Out H0 Ri H (Rs.own ⟨LA,Fi,LF⟩ (ag eI eI).z LP::Rs.own ⟨LB,Fj,LG⟩ (ag eI eI).z LQ::Rs.blk oH [.sl ⟨LA,Fi,LF⟩,.sl ⟨LB,Fj,LG⟩]::Rs.own ⟨LC,Fk,LI⟩ (ag eI eI).z LR::Rs.own ⟨LD,Fl,LJ⟩ (ag eI eI).z LS::Rs.blk pV [.sl ⟨LC,Fk,LI⟩,.sl ⟨LD,Fl,LJ⟩]::R0) λR=>CR (ag eI eI) H R LP LM/\CR (ag eI eI) H R LQ LN/\CR (ag eI eI) H R LR wy/\CR (ag eI eI) H R LS wz/\ROs (ag eI (ag eI (ag eI (ag eI eI)))) H R ⟨LE,Fm,LL⟩ qC)->∀ {r:(List (Int×Int))×(List (Int×Int))×Bool},pC wy wz qC oI mG=some r->Rt (C oH 0 pV 0 ⟨LE,Fm,LL⟩ oI mG H) (bZ.Q H0 Ri R0  r)
def bZ.S3931 (H0:Hp) (Ri R0:List Rs)  (C:Nat->Nat->Nat->Nat->Sl->Int->Int->Nat->Nat->Int->Int->Int->Int->Int->Int->Hp->OA) (pC:List (Int×Int)->List (Int×Int)->List (Int×Int×Int×Int×Int)->Int->Int->Int->Int->Int->Int->Int->Int->Int->Option ((List (Int×Int))×(List (Int×Int))×Bool)):Prop:=∀ {LT LU LV LW LX:ON} {Fn Fo jd Fp Fq kC Fs nK:Nat} {LY LZ L_ Ma Mb:Cap} {Mc Md oa ob:List (Int×Int)} {Me Mf Mg Mh:List AV} {uG:List (Int×Int×Int×Int×Int)} {nI nJ UB UC UD UE wA mF ki kj kl kn ia:Int},∀ {H:Hp},Fn=Mc.length->Fo=Md.length->Fp=oa.length->Fq=ob.length->Fs=uG.length->(Out H0 Ri H (Rs.own ⟨LT,Fn,LY⟩ (ag eI eI).z Me::Rs.own ⟨LU,Fo,LZ⟩ (ag eI eI).z Mf::Rs.blk jd [.sl ⟨LT,Fn,LY⟩,.sl ⟨LU,Fo,LZ⟩]::Rs.own ⟨LV,Fp,L_⟩ (ag eI eI).z Mg::Rs.own ⟨LW,Fq,Ma⟩ (ag eI eI).z Mh::Rs.blk kC [.sl ⟨LV,Fp,L_⟩,.sl ⟨LW,Fq,Ma⟩]::Rs.blk nK [.i UB,.i UC,.i UD,.i UE,.i wA]::R0) λR=>CR (ag eI eI) H R Me Mc/\CR (ag eI eI) H R Mf Md/\CR (ag eI eI) H R Mg oa/\CR (ag eI eI) H R Mh ob/\ROs (ag eI (ag eI (ag eI (ag eI eI)))) H R ⟨LX,Fs,Mb⟩ uG)->∀ {r:(List (Int×Int))×(List (Int×Int))×Bool},pC oa ob uG nI nJ wA mF ki kj kl kn ia=some r->Rt (C jd 0 kC 0 ⟨LX,Fs,Mb⟩ nI nJ nK 0 mF ki kj kl kn ia H) (bZ.Q H0 Ri R0  r)
def bZ.pl3931 (F:Nat) (cg:List (Int×Int)->List (Int×Int)->List (Int×Int×Int×Int×Int)->Int->Int->Option ((List (Int×Int))×(List (Int×Int))×Bool)):Nat->List (Int×Int)->List (Int×Int)->List (Int×Int×Int×Int×Int)->Int->Int->Int->Int->Int->Int->Int->Int->Int->Option ((List (Int×Int))×(List (Int×Int))×Bool)
 | 0,_,_,_,_,_,_,_,_,_,_,_,_=>none
 | k+1,oa,ob,uG,nI,nJ,wA,mF,ki,kj,kl,kn,ia=>(bif (decide (ia<4)) then ((if 0<=ia/\ia<(4:Int) then ((hK.p F wA ia).bind λr2=>(bif r2 then ((ik.p F ob (gt ([ki,kj,kl,kn]:List Int) (ia:Int).toNat)).bind λr6=>(bif (!r6) then (some (oa,ob,false)) else ((ix ob (gt ([ki,kj,kl,kn]:List Int) (ia:Int).toNat)).bind λn12=>(bif (decide (((gt ob n12).1)>=0)) then (some (oa,ob,false)) else ((ix ob (gt ([ki,kj,kl,kn]:List Int) (ia:Int).toNat)).bind λn16=>(some (ob.set n16 (mF,(gt ob n16).2))).bind λl17=>(some (l17.set n16 ((gt l17 n16).1,ia))).bind λl19=>bZ.pl3931 F cg k oa l19 uG nI nJ wA mF ki kj kl kn (IntKind.i64.wrap (ia+1))))))) else ((ik.p F oa (gt ([ki,kj,kl,kn]:List Int) (ia:Int).toNat)).bind λr24=>(bif (!r24) then (some (oa,ob,false)) else ((ix oa (gt ([ki,kj,kl,kn]:List Int) (ia:Int).toNat)).bind λn30=>(bif (decide (((gt oa n30).1)>=0)) then (some (oa,ob,false)) else ((ix oa (gt ([ki,kj,kl,kn]:List Int) (ia:Int).toNat)).bind λn34=>(some (oa.set n34 (mF,(gt oa n34).2))).bind λl35=>(some (l35.set n34 ((gt l35 n34).1,ia))).bind λl37=>bZ.pl3931 F cg k l37 ob uG nI nJ wA mF ki kj kl kn (IntKind.i64.wrap (ia+1))))))))) else none)) else (cg oa ob uG nI (IntKind.i64.wrap (nJ+1))))
theorem bZ.l3931_P  {C61_:Nat->Nat->Nat->Nat->Sl->Int->Int->Hp->OA} {cg:List (Int×Int)->List (Int×Int)->List (Int×Int×Int×Int×Int)->Int->Int->Option ((List (Int×Int))×(List (Int×Int))×Bool)} (hC61:bZ.S61 H0 Ri R0  C61_ cg):∀ k,bZ.S3931 H0 Ri R0  (bZ.l3931 F (dc.tw F) (hJ.tw F) (hK.tw F) (ik.tw F) C61_ k) (bZ.pl3931 F cg k):=by
 intro k
 induction k with
 | zero=>unfold bZ.S3931;intros;rename_i hp;cases hp
 | succ k ih=>
  intro LT LU LV LW LX Fn Fo jd Fp Fq kC Fs nK LY LZ L_ Ma Mb Mc Md oa ob Me Mf Mg Mh uG nI nJ UB UC UD UE wA mF ki kj kl kn ia H adD adE adF adG adH h0 r hp
  obtain ⟨w0,s0,Mi,Mj,rQ,rR,Ml⟩:=h0
  subst adD
  subst adE
  subst adF
  subst adG
  subst adH
  unfold bZ.pl3931 at hp
  unfold bZ.l3931
  refine aK hp (λhp=>?_) λhp=>?_
  ·obtain ⟨g1,hp⟩:=mf hp
   refine fJ g1 ?_
   refine ar (a:=AV.int .i64 (gt ([ki,kj,kl,kn]:List Int) (ia:Int).toNat)) (by rw [Nat.mul_one];exact W_ (k:=.i64) (l:=[ki,kj,kl,kn]) rfl (by have:=g1;simp only [List.length_cons,List.length_nil];omega)) ?_
   refine br ?_
   refine lSl w0 5 ?_
   refine lI w0 6 ?_
   refine lI w0 6 ?_
   refine lI w0 6 ?_
   refine lI w0 6 ?_
   refine lI w0 6 ?_
   obtain ⟨r2,e2,hp⟩:=ah hp
   refine aM (hK.P ⟨w0,trivial⟩ e2) ?_
   rintro _ H3 ⟨rfl,w3,s3,_⟩
   refine br ?_
   refine aK hp (λhp=>?_) λhp=>?_
   ·refine lSl w3 5 ?_
    obtain ⟨w4,s4⟩:=w3.pp [4,0,1,2,3,5,6] 7
    have f5:=W.borrow1 (ag eI eI) w4 (rR.step (s3.trans s4))
    obtain ⟨w5,s5⟩:=w4.right1
    obtain ⟨r6,e6,hp⟩:=ah hp
    refine aM (ik.P rfl ⟨w5,f5⟩ e6) ?_
    rintro _ H7 ⟨rfl,w7,s7,_⟩
    obtain ⟨w8,s8⟩:=W.frame1 w4 w7 s7
    refine br ?_
    refine aK hp (λhp=>?_) λhp=>?_
    ·refine lSl w8 5 ?_
     refine lSl w8 5 ?_
     refine aJ w8 3 λH9 w9 s9=>?_
     refine aJ w9 3 λH10 w10 s10=>?_
     refine lSl w10 3 ?_
     refine lSl w10 3 ?_
     obtain ⟨w11,s11⟩:=w10.pp [4,0] 7
     exact aO hp ⟨_,_,_,_,_,_,_,_,rfl,rfl,rfl,w11,(s0.trans (s3.trans (s4.trans (s8.trans (s9.trans (s10.trans s11)))))),(rQ.step (s3.trans (s4.trans (s8.trans (s9.trans (s10.trans s11)))))),(rR.step (s3.trans (s4.trans (s8.trans (s9.trans (s10.trans s11))))))⟩
    ·obtain ⟨n12,g12,hp⟩:=ah hp
     obtain ⟨p12,q12,i12,h12,j12⟩:=W.ixo (E:=(ag eI eI)) w8 (i:=0) rfl rfl (rR.step (s3.trans (s4.trans s8))) g12
     refine ar i12 ?_
     obtain ⟨_,_,rfl,rfl,rfl⟩:=h12
     refine ar (bA (j12 0 _ rfl)) ?_
     refine aK hp (λhp=>?_) λhp=>?_
     ·refine lSl w8 5 ?_
      refine lSl w8 5 ?_
      refine aJ w8 3 λH13 w13 s13=>?_
      refine aJ w13 3 λH14 w14 s14=>?_
      refine lSl w14 3 ?_
      refine lSl w14 3 ?_
      obtain ⟨w15,s15⟩:=w14.pp [4,0] 7
      exact aO hp ⟨_,_,_,_,_,_,_,_,rfl,rfl,rfl,w15,(s0.trans (s3.trans (s4.trans (s8.trans (s13.trans (s14.trans s15)))))),(rQ.step (s3.trans (s4.trans (s8.trans (s13.trans (s14.trans s15)))))),(rR.step (s3.trans (s4.trans (s8.trans (s13.trans (s14.trans s15))))))⟩
     ·obtain ⟨n16,g16,hp⟩:=ah hp
      obtain ⟨p16,q16,i16,h16,j16⟩:=W.ixo (E:=(ag eI eI)) w8 (i:=0) rfl rfl (rR.step (s3.trans (s4.trans s8))) g16
      refine ar i16 ?_
      obtain ⟨l17,e17,hp⟩:=ah hp
      refine gd (ag eI eI) w8 (i:=0) (j:=0) (p:=p16) rfl rfl (rR.step (s3.trans (s4.trans s8))) g16 i16 e17 rfl rfl (λ_ h=>by obtain ⟨_,_,rfl,rfl,rfl⟩:=h;exact ⟨[_],_,rfl,rfl,rfl⟩) λH18 k18 w18 s18 c18=>?_
      obtain ⟨l19,e19,hp⟩:=ah hp
      refine gd (ag eI eI) w18 (i:=0) (j:=1) (p:=p16) rfl rfl c18 (pG g16 (et e17)) i16 e19 rfl rfl (λ_ h=>by obtain ⟨_,_,rfl,rfl,rfl⟩:=h;exact ⟨[_],_,rfl,rfl,rfl⟩) λH20 k20 w20 s20 c20=>?_
      obtain ⟨w21,s21⟩:=w20.pp [1,2,3,4,0,5,6] 7
      exact ih rfl rfl rfl ((et e17).symm.trans (et e19).symm) rfl ⟨w21,(s0.trans (s3.trans (s4.trans (s8.trans (s18.trans (s20.trans s21)))))),(Mi.step (s3.trans (s4.trans (s8.trans (s18.trans (s20.trans s21)))))),(Mj.step (s3.trans (s4.trans (s8.trans (s18.trans (s20.trans s21)))))),(rQ.step (s3.trans (s4.trans (s8.trans (s18.trans (s20.trans s21)))))),(c20.step s21),(Ml.step (s3.trans (s4.trans (s8.trans (s18.trans (s20.trans s21))))))⟩ hp
   ·obtain ⟨w22,s22⟩:=w3.pp [3,0,1,2,4,5,6] 7
    have f23:=W.borrow1 (ag eI eI) w22 (rQ.step (s3.trans s22))
    obtain ⟨w23,s23⟩:=w22.right1
    obtain ⟨r24,e24,hp⟩:=ah hp
    refine aM (ik.P rfl ⟨w23,f23⟩ e24) ?_
    rintro _ H25 ⟨rfl,w25,s25,_⟩
    obtain ⟨w26,s26⟩:=W.frame1 w22 w25 s25
    refine br ?_
    refine aK hp (λhp=>?_) λhp=>?_
    ·refine lSl w26 5 ?_
     refine lSl w26 5 ?_
     refine aJ w26 3 λH27 w27 s27=>?_
     refine aJ w27 3 λH28 w28 s28=>?_
     refine lSl w28 3 ?_
     refine lSl w28 3 ?_
     obtain ⟨w29,s29⟩:=w28.pp [0,4] 7
     exact aO hp ⟨_,_,_,_,_,_,_,_,rfl,rfl,rfl,w29,(s0.trans (s3.trans (s22.trans (s26.trans (s27.trans (s28.trans s29)))))),(rQ.step (s3.trans (s22.trans (s26.trans (s27.trans (s28.trans s29)))))),(rR.step (s3.trans (s22.trans (s26.trans (s27.trans (s28.trans s29))))))⟩
    ·obtain ⟨n30,g30,hp⟩:=ah hp
     obtain ⟨p30,q30,i30,h30,j30⟩:=W.ixo (E:=(ag eI eI)) w26 (i:=0) rfl rfl (rQ.step (s3.trans (s22.trans s26))) g30
     refine ar i30 ?_
     obtain ⟨_,_,rfl,rfl,rfl⟩:=h30
     refine ar (bA (j30 0 _ rfl)) ?_
     refine aK hp (λhp=>?_) λhp=>?_
     ·refine lSl w26 5 ?_
      refine lSl w26 5 ?_
      refine aJ w26 3 λH31 w31 s31=>?_
      refine aJ w31 3 λH32 w32 s32=>?_
      refine lSl w32 3 ?_
      refine lSl w32 3 ?_
      obtain ⟨w33,s33⟩:=w32.pp [0,4] 7
      exact aO hp ⟨_,_,_,_,_,_,_,_,rfl,rfl,rfl,w33,(s0.trans (s3.trans (s22.trans (s26.trans (s31.trans (s32.trans s33)))))),(rQ.step (s3.trans (s22.trans (s26.trans (s31.trans (s32.trans s33)))))),(rR.step (s3.trans (s22.trans (s26.trans (s31.trans (s32.trans s33))))))⟩
     ·obtain ⟨n34,g34,hp⟩:=ah hp
      obtain ⟨p34,q34,i34,h34,j34⟩:=W.ixo (E:=(ag eI eI)) w26 (i:=0) rfl rfl (rQ.step (s3.trans (s22.trans s26))) g34
      refine ar i34 ?_
      obtain ⟨l35,e35,hp⟩:=ah hp
      refine gd (ag eI eI) w26 (i:=0) (j:=0) (p:=p34) rfl rfl (rQ.step (s3.trans (s22.trans s26))) g34 i34 e35 rfl rfl (λ_ h=>by obtain ⟨_,_,rfl,rfl,rfl⟩:=h;exact ⟨[_],_,rfl,rfl,rfl⟩) λH36 k36 w36 s36 c36=>?_
      obtain ⟨l37,e37,hp⟩:=ah hp
      refine gd (ag eI eI) w36 (i:=0) (j:=1) (p:=p34) rfl rfl c36 (pG g34 (et e35)) i34 e37 rfl rfl (λ_ h=>by obtain ⟨_,_,rfl,rfl,rfl⟩:=h;exact ⟨[_],_,rfl,rfl,rfl⟩) λH38 k38 w38 s38 c38=>?_
      obtain ⟨w39,s39⟩:=w38.pp [1,2,3,0,4,5,6] 7
      exact ih rfl rfl ((et e35).symm.trans (et e37).symm) rfl rfl ⟨w39,(s0.trans (s3.trans (s22.trans (s26.trans (s36.trans (s38.trans s39)))))),(Mi.step (s3.trans (s22.trans (s26.trans (s36.trans (s38.trans s39)))))),(Mj.step (s3.trans (s22.trans (s26.trans (s36.trans (s38.trans s39)))))),(c38.step s39),(rR.step (s3.trans (s22.trans (s26.trans (s36.trans (s38.trans s39)))))),(Ml.step (s3.trans (s22.trans (s26.trans (s36.trans (s38.trans s39))))))⟩ hp
  ·obtain ⟨w40,s40⟩:=w0.pp [0,1,2,3,4,5] 7
   exact hC61 rfl rfl rfl rfl rfl ⟨w40,(s0.trans s40),(Mi.step s40),(Mj.step s40),(rQ.step s40),(rR.step s40),(Ml.step s40)⟩ hp
def bZ.pl61 (F:Nat) :Nat->List (Int×Int)->List (Int×Int)->List (Int×Int×Int×Int×Int)->Int->Int->Option ((List (Int×Int))×(List (Int×Int))×Bool)
 | 0,_,_,_,_,_=>none
 | k+1,wy,wz,qC,oI,mG=>(bif (decide (mG<oI)) then ((ix qC mG).bind λn1=>(hJ.p F ((gt qC n1).1) ((gt qC n1).2.1) ((gt qC n1).2.2.1) ((gt qC n1).2.2.2.1)).bind λr8=>bZ.pl3931 F (bZ.pl61 F k) F wy wz qC oI mG ((gt qC n1).2.2.2.2) mG r8.1 r8.2.1 r8.2.2.1 r8.2.2.2 0) else (some (wy,wz,true)))
theorem bZ.l61_P  :∀ k,bZ.S61 H0 Ri R0  (bZ.l61 F (dc.tw F) (hJ.tw F) (hK.tw F) (ik.tw F)  k) (bZ.pl61 F  k):=by
 intro k
 induction k with
 | zero=>unfold bZ.S61;intros;rename_i hp;cases hp
 | succ k ih=>
  intro LA LB LC LD LE Fi Fj oH Fk Fl pV Fm LF LG LI LJ LL LM LN wy wz LP LQ LR LS qC oI mG H adI adJ adK adL adM h0 r hp
  obtain ⟨w0,s0,adN,adO,UG,UH,UI⟩:=h0
  subst adI
  subst adJ
  subst adK
  subst adL
  subst adM
  unfold bZ.pl61 at hp
  unfold bZ.l61
  refine aK hp (λhp=>?_) λhp=>?_
  ·obtain ⟨n1,g1,hp⟩:=ah hp
   obtain ⟨p1,q1,i1,h1,j1⟩:=ROs.ixr UI rfl g1
   refine ar i1 ?_
   obtain ⟨_,_,rfl,rfl,_,_,rfl,rfl,_,_,rfl,rfl,_,_,rfl,rfl,rfl⟩:=h1
   refine ar (bA (j1 0 _ rfl)) ?_
   refine ar (bA (j1 1 _ rfl)) ?_
   refine ar (bA (j1 2 _ rfl)) ?_
   refine ar (bA (j1 3 _ rfl)) ?_
   refine ar (bA (j1 4 _ rfl)) ?_
   refine bR w0 λH2 w2 s2=>?_
   refine aJ w2 0 λH3 w3 s3=>?_
   refine aJ w3 0 λH4 w4 s4=>?_
   refine aJ w4 0 λH5 w5 s5=>?_
   refine aJ w5 0 λH6 w6 s6=>?_
   refine aJ w6 0 λH7 w7 s7=>?_
   refine lI w7 0 ?_
   refine lI w7 0 ?_
   refine lI w7 0 ?_
   refine lI w7 0 ?_
   refine lI w7 0 ?_
   obtain ⟨r8,e8,hp⟩:=ah hp
   refine aM (hJ.P ⟨w7,trivial⟩ e8) ?_
   rintro _ H9 ⟨rfl,w9,s9,_⟩
   refine br ?_
   refine br ?_
   refine br ?_
   refine br ?_
   refine br ?_
   refine br ?_
   refine br ?_
   refine br ?_
   refine br ?_
   obtain ⟨w10,s10⟩:=w9.pp [1,2,3,4,5,6,0] 7
   exact bZ.l3931_P (@ih) F rfl rfl rfl rfl rfl ⟨w10,(s0.trans (s2.trans (s3.trans (s4.trans (s5.trans (s6.trans (s7.trans (s9.trans s10)))))))),(adN.step (s2.trans (s3.trans (s4.trans (s5.trans (s6.trans (s7.trans (s9.trans s10)))))))),(adO.step (s2.trans (s3.trans (s4.trans (s5.trans (s6.trans (s7.trans (s9.trans s10)))))))),(UG.step (s2.trans (s3.trans (s4.trans (s5.trans (s6.trans (s7.trans (s9.trans s10)))))))),(UH.step (s2.trans (s3.trans (s4.trans (s5.trans (s6.trans (s7.trans (s9.trans s10)))))))),(UI.step (s2.trans (s3.trans (s4.trans (s5.trans (s6.trans (s7.trans (s9.trans s10))))))))⟩ hp
  ·refine lSl w0 5 ?_
   refine lSl w0 5 ?_
   refine aJ w0 2 λH11 w11 s11=>?_
   refine aJ w11 2 λH12 w12 s12=>?_
   refine lSl w12 2 ?_
   refine lSl w12 2 ?_
   obtain ⟨w13,s13⟩:=w12.pp [3,4] 6
   exact aO hp ⟨_,_,_,_,_,_,_,_,rfl,rfl,rfl,w13,(s0.trans (s11.trans (s12.trans s13))),(UG.step (s11.trans (s12.trans s13))),(UH.step (s11.trans (s12.trans s13)))⟩
def bZ.p (F:Nat) (ak:List (Int×Int×Int×Int×Int)):Option ((List (Int×Int))×(List (Int×Int))×Bool):=(dc.p F ([((-1),0)]:List (Int×Int)) (IntKind.i64.wrap (2 * (ak.length:Int)))).bind λr5=>(dc.p F ([((-1),0)]:List (Int×Int)) (IntKind.i64.wrap (2 * (ak.length:Int)))).bind λr10=>bZ.pl61 F F r5 r10 ak (ak.length:Int) 0
theorem bZ.P {bE:ON} {aV:Nat} {bF:Cap} {ak:List (Int×Int×Int×Int×Int)} {ac:Int} (cR:aV=ak.length) (h0:Inn H R0 λR=>ROs (ag eI (ag eI (ag eI (ag eI eI)))) H R ⟨bE,aV,bF⟩ ak) {r:(List (Int×Int))×(List (Int×Int))×Bool} (hp:bZ.p F ak=some r):Rt (bZ.tw F ⟨bE,aV,bF⟩ ac H) (bZ.Q H R0 R0  r):=by
 obtain ⟨w0,cE⟩:=h0
 subst cR
 unfold bZ.p at hp
 unfold bZ.tw bZ.twX
 have s0:=w0.rf
 refine bR w0 λH1 w1 s1=>?_
 refine bR w1 λH2 w2 s2=>?_
 refine lSl w2 1 ?_
 refine lg (ag eI eI) w2 (n:=1) (l:=([((-1),0)]:List (Int×Int))) rfl (CR.cons (c:=[_,_]) ⟨[_],_,rfl,rfl,rfl⟩ CR.empty) rfl λH3 w3 s3 c3=>?_
 have f4:=W.borrow1 (ag eI eI) w3 c3
 obtain ⟨w4,s4⟩:=w3.right1
 obtain ⟨r5,e5,hp⟩:=ah hp
 refine aM (dc.P (show 1=List.length ([((-1),0)]:List (Int×Int)) from rfl) ⟨w4,f4⟩ e5) ?_
 rintro _ H6 ⟨o0a_6,o0n_6,o0k_6,rfl,rfl,w6,s6,f6_0⟩
 obtain ⟨w7,s7⟩:=W.frame1 w3 w6 s6
 refine br ?_
 refine lg (ag eI eI) w7 (n:=1) (l:=([((-1),0)]:List (Int×Int))) rfl (CR.cons (c:=[_,_]) ⟨[_],_,rfl,rfl,rfl⟩ CR.empty) rfl λH8 w8 s8 c8=>?_
 have f9:=W.borrow1 (ag eI eI) w8 c8
 obtain ⟨w9,s9⟩:=w8.right1
 obtain ⟨r10,e10,hp⟩:=ah hp
 refine aM (dc.P (show 1=List.length ([((-1),0)]:List (Int×Int)) from rfl) ⟨w9,f9⟩ e10) ?_
 rintro _ H11 ⟨o0a_11,o0n_11,o0k_11,rfl,rfl,w11,s11,f11_0⟩
 obtain ⟨w12,s12⟩:=W.frame1 w8 w11 s11
 refine br ?_
 refine bR w12 λH13 w13 s13=>?_
 refine aJ w13 0 λH14 w14 s14=>?_
 refine aJ w14 0 λH15 w15 s15=>?_
 refine lSl w15 6 ?_
 obtain ⟨w16,s16⟩:=w15.nilS (ag eI eI).z (by decide)
 obtain ⟨w17,s17⟩:=w16.nilS (ag eI eI).z (by decide)
 obtain ⟨w18,s18⟩:=w17.pp [1,0,7,6,4,2] 9
 exact bZ.l61_P F rfl rfl rfl rfl rfl ⟨w18,(s0.trans (s1.trans (s2.trans (s3.trans (s7.trans (s8.trans (s12.trans (s13.trans (s14.trans (s15.trans (s16.trans (s17.trans s18)))))))))))),((CR.empty:CR (ag eI eI) _ _ [] []).step (s17.trans s18)),((CR.empty:CR (ag eI eI) _ _ [] []).step s18),((CR.flat (Xa (tj .i64) (tj .i64)) f6_0).step (s8.trans (s12.trans (s13.trans (s14.trans (s15.trans (s16.trans (s17.trans s18)))))))),((CR.flat (Xa (tj .i64) (tj .i64)) f11_0).step (s13.trans (s14.trans (s15.trans (s16.trans (s17.trans s18)))))),(cE.step (s1.trans (s2.trans (s3.trans (s7.trans (s8.trans (s12.trans (s13.trans (s14.trans (s15.trans (s16.trans (s17.trans s18))))))))))))⟩ hp
def gP.Q (H0:Hp) (Ri R0:List Rs)  (r:Int×Int) (v:AV) (H':Hp):Prop:=v=(.agg [(.i r.1),(.i r.2)])/\Out H0 Ri H' (R0) λR=>True
def gP.p (F:Nat) (ak:List (Int×Int×Int×Int×Int)) (jS:List (Int×Int)) (ni:List (Int×Int)) (bS:Int) (cP:Int):Option (Int×Int):=(ix ak bS).bind λn5=>(hJ.p F ((gt ak n5).1) ((gt ak n5).2.1) ((gt ak n5).2.2.1) ((gt ak n5).2.2.2.1)).bind λr12=>(if 0<=cP/\cP<(4:Int) then ((hK.p F ((gt ak n5).2.2.2.2) cP).bind λr16=>(bif r16 then ((ix jS (gt ([r12.1,r12.2.1,r12.2.2.1,r12.2.2.2]:List Int) (cP:Int).toNat)).bind λn18=>some (((gt jS n18).1),((gt jS n18).2))) else ((ix ni (gt ([r12.1,r12.2.1,r12.2.2.1,r12.2.2.2]:List Int) (cP:Int).toNat)).bind λn22=>some (((gt ni n22).1),((gt ni n22).2))))) else none)
theorem gP.P {bE ri uH:ON} {aV pc rj:Nat} {bF rl uI:Cap} {ak:List (Int×Int×Int×Int×Int)} {ac bS cP:Int} {jS ni:List (Int×Int)} (cR:aV=ak.length) (wB:pc=jS.length) (BQ:rj=ni.length) (h0:Inn H R0 λR=>ROs (ag eI (ag eI (ag eI (ag eI eI)))) H R ⟨bE,aV,bF⟩ ak/\ROs (ag eI eI) H R ⟨ri,pc,rl⟩ jS/\ROs (ag eI eI) H R ⟨uH,rj,uI⟩ ni) {r:Int×Int} (hp:gP.p F ak jS ni bS cP=some r):Rt (gP.tw F ⟨bE,aV,bF⟩ ac ⟨ri,pc,rl⟩ ⟨uH,rj,uI⟩ bS cP H) (gP.Q H R0 R0  r):=by
 obtain ⟨w0,cE,wC,BR⟩:=h0
 subst cR
 subst wB
 subst BQ
 unfold gP.p at hp
 unfold gP.tw gP.twX
 have s0:=w0.rf
 refine bR w0 λH1 w1 s1=>?_
 refine bR w1 λH2 w2 s2=>?_
 refine bR w2 λH3 w3 s3=>?_
 refine bR w3 λH4 w4 s4=>?_
 refine lSl w4 3 ?_
 refine lI w4 1 ?_
 obtain ⟨n5,g5,hp⟩:=ah hp
 obtain ⟨p5,q5,i5,h5,j5⟩:=ROs.ixr (cE.step (s1.trans (s2.trans (s3.trans s4)))) rfl g5
 refine ar i5 ?_
 obtain ⟨_,_,rfl,rfl,_,_,rfl,rfl,_,_,rfl,rfl,_,_,rfl,rfl,rfl⟩:=h5
 refine ar (bA (j5 0 _ rfl)) ?_
 refine ar (bA (j5 1 _ rfl)) ?_
 refine ar (bA (j5 2 _ rfl)) ?_
 refine ar (bA (j5 3 _ rfl)) ?_
 refine ar (bA (j5 4 _ rfl)) ?_
 refine bR w4 λH6 w6 s6=>?_
 refine aJ w6 0 λH7 w7 s7=>?_
 refine aJ w7 0 λH8 w8 s8=>?_
 refine aJ w8 0 λH9 w9 s9=>?_
 refine aJ w9 0 λH10 w10 s10=>?_
 refine aJ w10 0 λH11 w11 s11=>?_
 refine lI w11 0 ?_
 refine lI w11 0 ?_
 refine lI w11 0 ?_
 refine lI w11 0 ?_
 refine lI w11 0 ?_
 obtain ⟨r12,e12,hp⟩:=ah hp
 refine aM (hJ.P ⟨w11,trivial⟩ e12) ?_
 rintro _ H13 ⟨rfl,w13,s13,_⟩
 refine br ?_
 refine br ?_
 refine br ?_
 refine br ?_
 refine br ?_
 refine br ?_
 refine br ?_
 refine br ?_
 refine br ?_
 refine fJ (W.cons_of (Rn:=[]) w11 w13 s13) ?_
 refine lI w13 2 ?_
 obtain ⟨g15,hp⟩:=mf hp
 refine fJ g15 ?_
 refine ar (a:=AV.int .i64 (gt ([r12.1,r12.2.1,r12.2.2.1,r12.2.2.2]:List Int) (cP:Int).toNat)) (by rw [Nat.mul_one];exact W_ (k:=.i64) (l:=[r12.1,r12.2.1,r12.2.2.1,r12.2.2.2]) rfl (by have:=g15;simp only [List.length_cons,List.length_nil];omega)) ?_
 refine br ?_
 refine lI w13 0 ?_
 refine lI w13 0 ?_
 refine lI w13 0 ?_
 refine lI w13 0 ?_
 refine lI w13 0 ?_
 refine lI w13 2 ?_
 obtain ⟨r16,e16,hp⟩:=ah hp
 refine aM (hK.P ⟨w13,trivial⟩ e16) ?_
 rintro _ H17 ⟨rfl,w17,s17,_⟩
 refine br ?_
 refine aK hp (λhp=>?_) λhp=>?_
 ·refine lSl w17 3 ?_
  obtain ⟨n18,g18,hp⟩:=ah hp
  obtain ⟨p18,q18,i18,h18,j18⟩:=ROs.ixr (wC.step (s1.trans (s2.trans (s3.trans (s4.trans (s6.trans (s7.trans (s8.trans (s9.trans (s10.trans (s11.trans (s13.trans s17)))))))))))) rfl g18
  refine ar i18 ?_
  obtain ⟨_,_,rfl,rfl,rfl⟩:=h18
  refine ar (bA (j18 0 _ rfl)) ?_
  refine ar (bA (j18 1 _ rfl)) ?_
  refine aJ w17 1 λH19 w19 s19=>?_
  refine aJ w19 1 λH20 w20 s20=>?_
  refine lI w20 1 ?_
  refine lI w20 1 ?_
  obtain ⟨w21,s21⟩:=w20.pp [] 5
  exact aO hp ⟨rfl,w21,(s0.trans (s1.trans (s2.trans (s3.trans (s4.trans (s6.trans (s7.trans (s8.trans (s9.trans (s10.trans (s11.trans (s13.trans (s17.trans (s19.trans (s20.trans s21))))))))))))))),trivial⟩
 ·refine lSl w17 3 ?_
  obtain ⟨n22,g22,hp⟩:=ah hp
  obtain ⟨p22,q22,i22,h22,j22⟩:=ROs.ixr (BR.step (s1.trans (s2.trans (s3.trans (s4.trans (s6.trans (s7.trans (s8.trans (s9.trans (s10.trans (s11.trans (s13.trans s17)))))))))))) rfl g22
  refine ar i22 ?_
  obtain ⟨_,_,rfl,rfl,rfl⟩:=h22
  refine ar (bA (j22 0 _ rfl)) ?_
  refine ar (bA (j22 1 _ rfl)) ?_
  refine aJ w17 1 λH23 w23 s23=>?_
  refine aJ w23 1 λH24 w24 s24=>?_
  refine lI w24 1 ?_
  refine lI w24 1 ?_
  obtain ⟨w25,s25⟩:=w24.pp [] 5
  exact aO hp ⟨rfl,w25,(s0.trans (s1.trans (s2.trans (s3.trans (s4.trans (s6.trans (s7.trans (s8.trans (s9.trans (s10.trans (s11.trans (s13.trans (s17.trans (s23.trans (s24.trans s25))))))))))))))),trivial⟩
def bt.Q (H0:Hp) (Ri R0:List Rs)  (r:List (List Int)) (v:AV) (H':Hp):Prop:=∃ o0a:ON,∃ o0n:Nat,∃ o0c:Cap,∃ o0k:List AV,v=(.sl ⟨o0a,o0n,o0c⟩)/\o0n=(r).length/\Out H0 Ri H' (Rs.own ⟨o0a,o0n,o0c⟩ (eSl eI).z o0k::R0) λR=>CR (eSl eI) H' R o0k (r)
def bt.S61 (H0:Hp) (Ri R0:List Rs)  (C:Nat->Nat->Nat->Nat->Sl->Sl->Int->Int->Hp->OA) (pC:List (Int×Int×Int×Int×Int)->List (Int×Int)->List (Int×Int)->List (List Int)->List Bool->Int->Int->Option (List (List Int))):Prop:=∀ {Mm Mn Mo Mp Mq:ON} {Ft qU Fu Fv qV Fw Fx:Nat} {Mr Ms Mt Mu Mv:Cap} {Ab:List (Int×Int×Int×Int×Int)} {UJ oL nL:Int} {Ac Ad:List (Int×Int)} {wD:List (List Int)} {Mw Mx:List AV} {Ae:List Bool},∀ {H:Hp},Ft=Ab.length->Fu=Ac.length->Fv=Ad.length->Fw=wD.length->Fx=Ae.length->(Out H0 Ri H (Rs.blk qU [.sl ⟨Mm,Ft,Mr⟩,.i UJ]::Rs.blk qV [.sl ⟨Mn,Fu,Ms⟩,.sl ⟨Mo,Fv,Mt⟩]::Rs.own ⟨Mp,Fw,Mu⟩ (eSl eI).z Mw::Rs.own ⟨Mq,Fx,Mv⟩ fI.z Mx::R0) λR=>ROs (ag eI (ag eI (ag eI (ag eI eI)))) H R ⟨Mm,Ft,Mr⟩ Ab/\ROs (ag eI eI) H R ⟨Mn,Fu,Ms⟩ Ac/\ROs (ag eI eI) H R ⟨Mo,Fv,Mt⟩ Ad/\CR (eSl eI) H R Mw wD/\CR fI H R Mx Ae)->∀ {r:List (List Int)},pC Ab Ac Ad wD Ae oL nL=some r->Rt (C qU 0 qV 0 ⟨Mp,Fw,Mu⟩ ⟨Mq,Fx,Mv⟩ oL nL H) (bt.Q H0 Ri R0  r)
def bt.S15725 (H0:Hp) (Ri R0:List Rs)  (C:Nat->Nat->Nat->Nat->Sl->Sl->Int->Int->Sl->Int->Hp->OA) (pC:List (Int×Int×Int×Int×Int)->List (Int×Int)->List (Int×Int)->List (List Int)->List Bool->Int->Int->List Int->Int->Option (List (List Int))):Prop:=∀ {My Mz MA MB MC MD:ON} {Fy pu Fz FA pv FB FC FD:Nat} {ME MF MG MH MI MJ:Cap} {uJ:List (Int×Int×Int×Int×Int)} {UK oJ oK kD:Int} {uK uL:List (Int×Int)} {wE:List (List Int)} {MK ML MM:List AV} {rS:List Bool} {wF:List Int},∀ {H:Hp},Fy=uJ.length->Fz=uK.length->FA=uL.length->FB=wE.length->FC=rS.length->FD=wF.length->(Out H0 Ri H (Rs.blk pu [.sl ⟨My,Fy,ME⟩,.i UK]::Rs.blk pv [.sl ⟨Mz,Fz,MF⟩,.sl ⟨MA,FA,MG⟩]::Rs.own ⟨MB,FB,MH⟩ (eSl eI).z MK::Rs.own ⟨MC,FC,MI⟩ fI.z ML::Rs.own ⟨MD,FD,MJ⟩ eI.z MM::R0) λR=>ROs (ag eI (ag eI (ag eI (ag eI eI)))) H R ⟨My,Fy,ME⟩ uJ/\ROs (ag eI eI) H R ⟨Mz,Fz,MF⟩ uK/\ROs (ag eI eI) H R ⟨MA,FA,MG⟩ uL/\CR (eSl eI) H R MK wE/\CR fI H R ML rS/\CR eI H R MM wF)->∀ {r:List (List Int)},pC uJ uK uL wE rS oJ oK wF kD=some r->Rt (C pu 0 pv 0 ⟨MB,FB,MH⟩ ⟨MC,FC,MI⟩ oJ oK ⟨MD,FD,MJ⟩ kD H) (bt.Q H0 Ri R0  r)
def bt.pj4 (F:Nat) (cg:List (Int×Int×Int×Int×Int)->List (Int×Int)->List (Int×Int)->List (List Int)->List Bool->Int->Int->Option (List (List Int))) (BS:List (Int×Int×Int×Int×Int)) (BT:List (Int×Int)) (BU:List (Int×Int)) (BV:List (List Int)) (BW:List Bool) (yj:Int) (yk:Int):Option (List (List Int)):=cg BS BT BU BV BW yj (IntKind.i64.wrap (yk+1))
theorem bt.j4_P  {C61_:Nat->Nat->Nat->Nat->Sl->Sl->Int->Int->Hp->OA} {cg:List (Int×Int×Int×Int×Int)->List (Int×Int)->List (Int×Int)->List (List Int)->List Bool->Int->Int->Option (List (List Int))} (hC61:bt.S61 H0 Ri R0  C61_ cg) {UL UM UN UO UP:ON} {MN De MO MP Df MQ MR:Nat} {UQ UR US UT UU:Cap} {BS:List (Int×Int×Int×Int×Int)} {adP yj yk:Int} {BT BU:List (Int×Int)} {BV:List (List Int)} {UV UW:List AV} {BW:List Bool} (adQ:MN=BS.length) (adS:MO=BT.length) (adT:MP=BU.length) (adU:MQ=BV.length) (adV:MR=BW.length) (h0:Out H0 Ri H (Rs.blk De [.sl ⟨UL,MN,UQ⟩,.i adP]::Rs.blk Df [.sl ⟨UM,MO,UR⟩,.sl ⟨UN,MP,US⟩]::Rs.own ⟨UO,MQ,UT⟩ (eSl eI).z UV::Rs.own ⟨UP,MR,UU⟩ fI.z UW::R0) λR=>ROs (ag eI (ag eI (ag eI (ag eI eI)))) H R ⟨UL,MN,UQ⟩ BS/\ROs (ag eI eI) H R ⟨UM,MO,UR⟩ BT/\ROs (ag eI eI) H R ⟨UN,MP,US⟩ BU/\CR (eSl eI) H R UV BV/\CR fI H R UW BW) {r:List (List Int)} (hp:bt.pj4 F cg BS BT BU BV BW yj yk=some r):Rt (bt.j4 F (gP.tw F) C61_ De 0 Df 0 ⟨UO,MQ,UT⟩ ⟨UP,MR,UU⟩ yj yk H) (bt.Q H0 Ri R0  r):=by
 obtain ⟨w0,s0,adW,adX,adY,adZ,ad0⟩:=h0
 subst adQ
 subst adS
 subst adT
 subst adU
 subst adV
 unfold bt.pj4 at hp
 unfold bt.j4
 exact hC61 rfl rfl rfl rfl rfl ⟨w0,s0,adW,adX,adY,adZ,ad0⟩ hp
def bt.pj5 (F:Nat) (cg:List (Int×Int×Int×Int×Int)->List (Int×Int)->List (Int×Int)->List (List Int)->List Bool->Int->Int->Option (List (List Int))) (BX:List (Int×Int×Int×Int×Int)) (BY:List (Int×Int)) (BZ:List (Int×Int)) (B_:List (List Int)) (Ca:List Bool) (ym:Int) (yn:Int):Option (List (List Int)):=bt.pj4 F cg BX BY BZ B_ Ca ym yn
theorem bt.j5_P  {C61_:Nat->Nat->Nat->Nat->Sl->Sl->Int->Int->Hp->OA} {cg:List (Int×Int×Int×Int×Int)->List (Int×Int)->List (Int×Int)->List (List Int)->List Bool->Int->Int->Option (List (List Int))} (hC61:bt.S61 H0 Ri R0  C61_ cg) {UX UY UZ U_ Va:ON} {MS Dg MT MU xm MV MW:Nat} {Vb Vc Vd Ve Vf:Cap} {BX:List (Int×Int×Int×Int×Int)} {ad2 ym yn:Int} {BY BZ:List (Int×Int)} {B_:List (List Int)} {Vg Vh:List AV} {Ca:List Bool} (ad3:MS=BX.length) (ad4:MT=BY.length) (ad5:MU=BZ.length) (ad6:MV=B_.length) (ad7:MW=Ca.length) (h0:Out H0 Ri H (Rs.blk Dg [.sl ⟨UX,MS,Vb⟩,.i ad2]::Rs.blk xm [.sl ⟨UY,MT,Vc⟩,.sl ⟨UZ,MU,Vd⟩]::Rs.own ⟨U_,MV,Ve⟩ (eSl eI).z Vg::Rs.own ⟨Va,MW,Vf⟩ fI.z Vh::R0) λR=>ROs (ag eI (ag eI (ag eI (ag eI eI)))) H R ⟨UX,MS,Vb⟩ BX/\ROs (ag eI eI) H R ⟨UY,MT,Vc⟩ BY/\ROs (ag eI eI) H R ⟨UZ,MU,Vd⟩ BZ/\CR (eSl eI) H R Vg B_/\CR fI H R Vh Ca) {r:List (List Int)} (hp:bt.pj5 F cg BX BY BZ B_ Ca ym yn=some r):Rt (bt.j5 F (gP.tw F) C61_ Dg 0 xm 0 ⟨U_,MV,Ve⟩ ⟨Va,MW,Vf⟩ ym yn H) (bt.Q H0 Ri R0  r):=by
 obtain ⟨w0,s0,ad8,ad9,ad_,aea,aeb⟩:=h0
 subst ad3
 subst ad4
 subst ad5
 subst ad6
 subst ad7
 unfold bt.pj5 at hp
 unfold bt.j5
 exact bt.j4_P (@hC61) rfl rfl rfl rfl rfl ⟨w0,s0,ad8,ad9,ad_,aea,aeb⟩ hp
def bt.pj6 (F:Nat) (cg:List (Int×Int×Int×Int×Int)->List (Int×Int)->List (Int×Int)->List (List Int)->List Bool->Int->Int->Option (List (List Int))) (Af:List (Int×Int×Int×Int×Int)) (Ag:List (Int×Int)) (Ah:List (Int×Int)) (Ai:List (List Int)) (Aj:List Bool) (uM:List Int) (tJ:Int) (tK:Int):Option (List (List Int)):=(bif (decide ((uM.length:Int)>0)) then ((apn Ai ([uM]:List (List Int))).bind λl3=>bt.pj5 F cg Af Ag Ah l3 Aj tJ tK) else (bt.pj5 F cg Af Ag Ah Ai Aj tJ tK))
theorem bt.j6_P  {C61_:Nat->Nat->Nat->Nat->Sl->Sl->Int->Int->Hp->OA} {cg:List (Int×Int×Int×Int×Int)->List (Int×Int)->List (Int×Int)->List (List Int)->List Bool->Int->Int->Option (List (List Int))} (hC61:bt.S61 H0 Ri R0  C61_ cg) {Vi Vj Vk Vl Vm Vn:ON} {MX AL MY MZ AM M_ Na Nb:Nat} {Vo Vp Vq Vr Vs Vt:Cap} {Af:List (Int×Int×Int×Int×Int)} {aec tJ tK:Int} {Ag Ah:List (Int×Int)} {Ai:List (List Int)} {Vu Vv Vw:List AV} {Aj:List Bool} {uM:List Int} (aed:MX=Af.length) (aee:MY=Ag.length) (aef:MZ=Ah.length) (aeg:M_=Ai.length) (aeh:Na=Aj.length) (aei:Nb=uM.length) (h0:Out H0 Ri H (Rs.blk AL [.sl ⟨Vi,MX,Vo⟩,.i aec]::Rs.blk AM [.sl ⟨Vj,MY,Vp⟩,.sl ⟨Vk,MZ,Vq⟩]::Rs.own ⟨Vl,M_,Vr⟩ (eSl eI).z Vu::Rs.own ⟨Vm,Na,Vs⟩ fI.z Vv::Rs.own ⟨Vn,Nb,Vt⟩ eI.z Vw::R0) λR=>ROs (ag eI (ag eI (ag eI (ag eI eI)))) H R ⟨Vi,MX,Vo⟩ Af/\ROs (ag eI eI) H R ⟨Vj,MY,Vp⟩ Ag/\ROs (ag eI eI) H R ⟨Vk,MZ,Vq⟩ Ah/\CR (eSl eI) H R Vu Ai/\CR fI H R Vv Aj/\CR eI H R Vw uM) {r:List (List Int)} (hp:bt.pj6 F cg Af Ag Ah Ai Aj uM tJ tK=some r):Rt (bt.j6 F (gP.tw F) C61_ AL 0 AM 0 ⟨Vl,M_,Vr⟩ ⟨Vm,Na,Vs⟩ ⟨Vn,Nb,Vt⟩ tJ tK H) (bt.Q H0 Ri R0  r):=by
 obtain ⟨w0,s0,Vx,Vy,Vz,VA,VB,aej⟩:=h0
 subst aed
 subst aee
 subst aef
 subst aeg
 subst aeh
 subst aei
 unfold bt.pj6 at hp
 unfold bt.j6
 refine aK hp (λhp=>?_) λhp=>?_
 ·obtain ⟨w1,s1,f1⟩:=w0.frz (i:=4) eI rfl aej
  refine lg (eSl eI) w1 (n:=1) (l:=([uM]:List (List Int))) rfl (CR.cons1 ⟨_,rfl,f1⟩ CR.empty) rfl λH2 w2 s2 c2=>?_
  refine ar (w2.rowo (i:=0) rfl) ?_
  obtain ⟨l3,e3,hp⟩:=ah hp
  refine qk (eSl eI) w2 (i:=3) rfl rfl (VA.step (s1.trans s2)) c2 (show 1=List.length ([uM]:List (List Int)) from rfl) rfl e3 λa4 d4 H4 w4 s4 c4 x4=>?_
  obtain ⟨w5,s5⟩:=w4.pp [1,2,3,4] 5
  exact bt.j5_P (@hC61) rfl rfl rfl rfl rfl ⟨w5,(s0.trans (s1.trans (s2.trans (s4.trans s5)))),(Vx.step (s1.trans (s2.trans (s4.trans s5)))),(Vy.step (s1.trans (s2.trans (s4.trans s5)))),(Vz.step (s1.trans (s2.trans (s4.trans s5)))),(c4.step s5),(VB.step (s1.trans (s2.trans (s4.trans s5))))⟩ hp
 ·obtain ⟨w6,s6⟩:=w0.pp [0,1,2,3] 5
  exact bt.j5_P (@hC61) rfl rfl rfl rfl rfl ⟨w6,(s0.trans s6),(Vx.step s6),(Vy.step s6),(Vz.step s6),(VA.step s6),(VB.step s6)⟩ hp
def bt.pl15725 (F:Nat) (cg:List (Int×Int×Int×Int×Int)->List (Int×Int)->List (Int×Int)->List (List Int)->List Bool->Int->Int->Option (List (List Int))):Nat->List (Int×Int×Int×Int×Int)->List (Int×Int)->List (Int×Int)->List (List Int)->List Bool->Int->Int->List Int->Int->Option (List (List Int))
 | 0,_,_,_,_,_,_,_,_,_=>none
 | k+1,uJ,uK,uL,wE,rS,oJ,oK,wF,kD=>(ix rS kD).bind λn1=>(bif (!(gt rS n1)) then ((ix rS kD).bind λn2=>(some (rS.set n2 true)).bind λl3=>(apn wF ([kD]:List Int)).bind λl6=>(gP.p F uJ uK uL (IntKind.i64.wrap (Int.tdiv kD 4)) (Int.tmod (IntKind.i64.wrap (kD+1)) 4)).bind λr8=>bt.pl15725 F cg k uJ uK uL wE l3 oJ oK l6 (IntKind.i64.wrap ((IntKind.i64.wrap (4 * r8.1))+r8.2))) else (bt.pj6 F cg uJ uK uL wE rS wF oJ oK))
theorem bt.l15725_P  {C61_:Nat->Nat->Nat->Nat->Sl->Sl->Int->Int->Hp->OA} {cg:List (Int×Int×Int×Int×Int)->List (Int×Int)->List (Int×Int)->List (List Int)->List Bool->Int->Int->Option (List (List Int))} (hC61:bt.S61 H0 Ri R0  C61_ cg):∀ k,bt.S15725 H0 Ri R0  (bt.l15725 F (gP.tw F) C61_ k) (bt.pl15725 F cg k):=by
 intro k
 induction k with
 | zero=>unfold bt.S15725;intros;rename_i hp;cases hp
 | succ k ih=>
  intro My Mz MA MB MC MD Fy pu Fz FA pv FB FC FD ME MF MG MH MI MJ uJ UK oJ oK kD uK uL wE MK ML MM rS wF H aek ael aem aen aeo aep h0 r hp
  obtain ⟨w0,s0,Nc,Nd,Nf,VC,FE,VD⟩:=h0
  subst aek
  subst ael
  subst aem
  subst aen
  subst aeo
  subst aep
  unfold bt.pl15725 at hp
  unfold bt.l15725
  obtain ⟨n1,g1,hp⟩:=ah hp
  obtain ⟨p1,q1,i1,h1,j1⟩:=W.ixo (E:=fI) w0 (i:=3) rfl rfl FE g1
  refine ar i1 ?_
  have h1:_=[_]:=h1
  subst h1
  refine ar (Av (j1 0 _ rfl)) ?_
  refine aK hp (λhp=>?_) λhp=>?_
  ·obtain ⟨n2,g2,hp⟩:=ah hp
   obtain ⟨p2,q2,i2,h2,j2⟩:=W.ixo (E:=fI) w0 (i:=3) rfl rfl FE g2
   refine ar i2 ?_
   obtain ⟨l3,e3,hp⟩:=ah hp
   refine gd fI w0 (i:=3) (j:=0) (p:=p2) rfl rfl FE g2 i2 e3 rfl rfl (λ_ h=>by have h:_=[_]:=h;subst h;exact rfl) λH4 k4 w4 s4 c4=>?_
   refine lg eI w4 (n:=1) (l:=([kD]:List Int)) rfl (CR.cons1 rfl CR.empty) rfl λH5 w5 s5 c5=>?_
   refine ar (w5.rowo (i:=0) rfl) ?_
   obtain ⟨l6,e6,hp⟩:=ah hp
   refine qk eI w5 (i:=5) rfl rfl (VD.step (s4.trans s5)) c5 (show 1=List.length ([kD]:List Int) from rfl) rfl e6 λa7 d7 H7 w7 s7 c7 x7=>?_
   refine lSl w7 1 ?_
   refine lI w7 1 ?_
   refine lSl w7 2 ?_
   refine lSl w7 2 ?_
   obtain ⟨r8,e8,hp⟩:=ah hp
   refine aM (gP.P rfl rfl rfl ⟨w7,(Nc.step (s4.trans (s5.trans s7))),(Nd.step (s4.trans (s5.trans s7))),(Nf.step (s4.trans (s5.trans s7)))⟩ e8) ?_
   rintro _ H9 ⟨rfl,w9,s9,_⟩
   refine br ?_
   refine br ?_
   refine br ?_
   refine br ?_
   refine br ?_
   refine bR w9 λH10 w10 s10=>?_
   refine aJ w10 0 λH11 w11 s11=>?_
   refine aJ w11 0 λH12 w12 s12=>?_
   refine lI w12 0 ?_
   refine lI w12 0 ?_
   obtain ⟨w13,s13⟩:=w12.pp [2,3,4,5,6] 7
   exact ih rfl rfl rfl rfl ((et e3).symm) rfl ⟨w13,(s0.trans (s4.trans (s5.trans (s7.trans (s9.trans (s10.trans (s11.trans (s12.trans s13)))))))),(Nc.step (s4.trans (s5.trans (s7.trans (s9.trans (s10.trans (s11.trans (s12.trans s13)))))))),(Nd.step (s4.trans (s5.trans (s7.trans (s9.trans (s10.trans (s11.trans (s12.trans s13)))))))),(Nf.step (s4.trans (s5.trans (s7.trans (s9.trans (s10.trans (s11.trans (s12.trans s13)))))))),(VC.step (s4.trans (s5.trans (s7.trans (s9.trans (s10.trans (s11.trans (s12.trans s13)))))))),(c4.step (s5.trans (s7.trans (s9.trans (s10.trans (s11.trans (s12.trans s13))))))),(c7.step (s9.trans (s10.trans (s11.trans (s12.trans s13)))))⟩ hp
  ·exact bt.j6_P (@hC61) rfl rfl rfl rfl rfl rfl ⟨w0,s0,Nc,Nd,Nf,VC,FE,VD⟩ hp
def bt.pl61 (F:Nat) :Nat->List (Int×Int×Int×Int×Int)->List (Int×Int)->List (Int×Int)->List (List Int)->List Bool->Int->Int->Option (List (List Int))
 | 0,_,_,_,_,_,_,_=>none
 | k+1,Ab,Ac,Ad,wD,Ae,oL,nL=>(bif (decide (nL<oL)) then (bt.pl15725 F (bt.pl61 F k) F Ab Ac Ad wD Ae oL nL ([]:List Int) nL) else (some wD))
theorem bt.l61_P  :∀ k,bt.S61 H0 Ri R0  (bt.l61 F (gP.tw F)  k) (bt.pl61 F  k):=by
 intro k
 induction k with
 | zero=>unfold bt.S61;intros;rename_i hp;cases hp
 | succ k ih=>
  intro Mm Mn Mo Mp Mq Ft qU Fu Fv qV Fw Fx Mr Ms Mt Mu Mv Ab UJ oL nL Ac Ad wD Mw Mx Ae H aeq aer aes aet aeu h0 r hp
  obtain ⟨w0,s0,aev,aew,aex,VE,aey⟩:=h0
  subst aeq
  subst aer
  subst aes
  subst aet
  subst aeu
  unfold bt.pl61 at hp
  unfold bt.l61
  refine aK hp (λhp=>?_) λhp=>?_
  ·obtain ⟨w1,s1⟩:=w0.nilS eI.z (by decide)
   obtain ⟨w2,s2⟩:=w1.pp [1,2,3,4,0] 5
   exact bt.l15725_P (@ih) F rfl rfl rfl rfl rfl rfl ⟨w2,(s0.trans (s1.trans s2)),(aev.step (s1.trans s2)),(aew.step (s1.trans s2)),(aex.step (s1.trans s2)),(VE.step (s1.trans s2)),(aey.step (s1.trans s2)),((CR.empty:CR eI _ _ [] []).step s2)⟩ hp
  ·obtain ⟨w3,s3⟩:=w0.pp [2] 4
   exact aO hp ⟨_,_,_,_,rfl,rfl,w3,(s0.trans s3),(VE.step s3)⟩
def bt.p (F:Nat) (ak:List (Int×Int×Int×Int×Int)) (jS:List (Int×Int)) (ni:List (Int×Int)):Option (List (List Int)):=(mkn (IntKind.i64.wrap (4 * (ak.length:Int))) false).bind λl3=>bt.pl61 F F ak jS ni ([]:List (List Int)) l3 (l3.length:Int) 0
theorem bt.P {bE ri uH:ON} {aV pc rj:Nat} {bF rl uI:Cap} {ak:List (Int×Int×Int×Int×Int)} {ac:Int} {jS ni:List (Int×Int)} (cR:aV=ak.length) (wB:pc=jS.length) (BQ:rj=ni.length) (h0:Inn H R0 λR=>ROs (ag eI (ag eI (ag eI (ag eI eI)))) H R ⟨bE,aV,bF⟩ ak/\ROs (ag eI eI) H R ⟨ri,pc,rl⟩ jS/\ROs (ag eI eI) H R ⟨uH,rj,uI⟩ ni) {r:List (List Int)} (hp:bt.p F ak jS ni=some r):Rt (bt.tw F ⟨bE,aV,bF⟩ ac ⟨ri,pc,rl⟩ ⟨uH,rj,uI⟩ H) (bt.Q H R0 R0  r):=by
 obtain ⟨w0,cE,wC,BR⟩:=h0
 subst cR
 subst wB
 subst BQ
 unfold bt.p at hp
 unfold bt.tw bt.twX
 have s0:=w0.rf
 refine bR w0 λH1 w1 s1=>?_
 refine bR w1 λH2 w2 s2=>?_
 refine lSl w2 1 ?_
 obtain ⟨l3,e3,hp⟩:=ah hp
 refine uX fI false w2 rfl rfl rfl e3 λH4 k4 w4 s4 c4=>?_
 obtain ⟨w5,s5⟩:=w4.nilS (eSl eI).z (by decide)
 obtain ⟨w6,s6⟩:=w5.pp [3,2,0,1] 4
 exact bt.l61_P F rfl rfl rfl rfl rfl ⟨w6,(s0.trans (s1.trans (s2.trans (s4.trans (s5.trans s6))))),(cE.step (s1.trans (s2.trans (s4.trans (s5.trans s6))))),(wC.step (s1.trans (s2.trans (s4.trans (s5.trans s6))))),(BR.step (s1.trans (s2.trans (s4.trans (s5.trans s6))))),((CR.empty:CR (eSl eI) _ _ [] []).step s6),(c4.step (s5.trans s6))⟩ hp
def jQ.Q (H0:Hp) (Ri R0:List Rs)  (r:Int) (v:AV) (H':Hp):Prop:=v=(.i r)/\Out H0 Ri H' (R0) λR=>True
def jQ.p (F:Nat) (ak:List (List Int)):Option (Int):=some (ak.length:Int)
theorem jQ.P {bE:ON} {aV:Nat} {bF:Cap} {ak:List (List Int)} (cR:aV=ak.length) (h0:Inn H R0 λR=>ROs (eSl eI) H R ⟨bE,aV,bF⟩ ak) {r:Int} (hp:jQ.p F ak=some r):Rt (jQ.tw F ⟨bE,aV,bF⟩ H) (jQ.Q H R0 R0  r):=by
 obtain ⟨w0,cE⟩:=h0
 subst cR
 unfold jQ.p at hp
 unfold jQ.tw jQ.twX
 have s0:=w0.rf
 exact aO hp ⟨rfl,w0,s0,trivial⟩
def dV.Q (H0:Hp) (Ri R0:List Rs)  (r:List Int) (v:AV) (H':Hp):Prop:=∃ o0a:ON,∃ o0n:Nat,∃ o0c:Cap,∃ o0k:List AV,v=(.sl ⟨o0a,o0n,o0c⟩)/\o0n=(r).length/\Out H0 Ri H' (Rs.own ⟨o0a,o0n,o0c⟩ eI.z o0k::R0) λR=>CR eI H' R o0k (r)
def dV.S29 (H0:Hp) (Ri R0:List Rs)  (C:Sl->Int->Int->Hp->OA) (pC:List Int->Int->Int->Option (List Int)):Prop:=∀ {Ng:ON} {FF:Nat} {Nh:Cap} {wG:List Int} {Ni:List AV} {oM mH:Int},∀ {H:Hp},FF=wG.length->(Out H0 Ri H (Rs.own ⟨Ng,FF,Nh⟩ eI.z Ni::R0) λR=>CR eI H R Ni wG)->∀ {r:List Int},pC wG oM mH=some r->Rt (C ⟨Ng,FF,Nh⟩ oM mH H) (dV.Q H0 Ri R0  r)
def dV.pl29 (F:Nat) :Nat->List Int->Int->Int->Option (List Int)
 | 0,_,_,_=>none
 | k+1,wG,oM,mH=>(bif (decide (mH<oM)) then ((apn wG ([mH]:List Int)).bind λl2=>dV.pl29 F k l2 oM (IntKind.i64.wrap (mH+1))) else (some wG))
theorem dV.l29_P  :∀ k,dV.S29 H0 Ri R0  (dV.l29 F   k) (dV.pl29 F  k):=by
 intro k
 induction k with
 | zero=>unfold dV.S29;intros;rename_i hp;cases hp
 | succ k ih=>
  intro Ng FF Nh wG Ni oM mH H aez h0 r hp
  obtain ⟨w0,s0,VF⟩:=h0
  subst aez
  unfold dV.pl29 at hp
  unfold dV.l29
  refine aK hp (λhp=>?_) λhp=>?_
  ·refine lg eI w0 (n:=1) (l:=([mH]:List Int)) rfl (CR.cons1 rfl CR.empty) rfl λH1 w1 s1 c1=>?_
   refine ar (w1.rowo (i:=0) rfl) ?_
   obtain ⟨l2,e2,hp⟩:=ah hp
   refine qk eI w1 (i:=1) rfl rfl (VF.step s1) c1 (show 1=List.length ([mH]:List Int) from rfl) rfl e2 λa3 d3 H3 w3 s3 c3 x3=>?_
   obtain ⟨w4,s4⟩:=w3.pp [1] 2
   exact ih rfl ⟨w4,(s0.trans (s1.trans (s3.trans s4))),(c3.step s4)⟩ hp
  ·exact aO hp ⟨_,_,_,_,rfl,rfl,w0,s0,VF⟩
def dV.p (F:Nat) (aa:Int):Option (List Int):=dV.pl29 F F ([]:List Int) aa 0
theorem dV.P {aa:Int}  (h0:Inn H R0 λR=>True) {r:List Int} (hp:dV.p F aa=some r):Rt (dV.tw F aa H) (dV.Q H R0 R0  r):=by
 obtain ⟨w0,_⟩:=h0
 unfold dV.p at hp
 unfold dV.tw dV.twX
 have s0:=w0.rf
 obtain ⟨w1,s1⟩:=w0.nilS eI.z (by decide)
 exact dV.l29_P F rfl ⟨w1,(s0.trans s1),(CR.empty:CR eI _ _ [] [])⟩ hp
def cK.Q (H0:Hp) (Ri R0:List Rs) (bE:ON) (aV:Nat) (bF:Cap) (Cb:Bool) (Cc Cd:List AV) (r:List Int) (v:AV) (H':Hp):Prop:=∃ VG:List AV,v=(.tup [])/\aV=(r).length/\Out H0 Ri H' (Rs.ow Cb ⟨bE,aV,bF⟩ eI.z Cc VG Cd::R0) λR=>CR eI H' R VG (r)
def cK.S7 (H0:Hp) (Ri R0:List Rs) (qD:ON) (pE:Nat) (qE:Cap) (uN:Bool) (uO uP:List AV) (C:Sl->Int->Int->Sl->Int->Int->Hp->OA) (pC:List Int->Int->Int->Int->Int->Option (List Int)):Prop:=∀ {lf:List Int} {Nj:List AV} {nM nN nO lF:Int},∀ {H:Hp},pE=lf.length->(Out H0 Ri H (Rs.ow uN ⟨qD,pE,qE⟩ eI.z uO Nj uP::R0) λR=>CR eI H R Nj lf)->∀ {r:List Int},pC lf nM nN nO lF=some r->Rt (C ⟨qD,pE,qE⟩ nM nN ⟨qD,pE,qE⟩ nO lF H) (cK.Q H0 Ri R0 qD pE qE uN uO uP r)
def cK.pj2 (F:Nat) (FG:List Int->Int->Int->Int->Int->Option (List Int)) (Ce:List Int) (yo:Int) (yp:Int) (yq:Int) (yr:Int):Option (List Int):=FG Ce yo yp yq (IntKind.i64.wrap (yr+1))
theorem cK.j2_P {qD:ON} {pE:Nat} {qE:Cap} {uN:Bool} {uO uP:List AV} {C7_:Sl->Int->Int->Sl->Int->Int->Hp->OA} {FG:List Int->Int->Int->Int->Int->Option (List Int)} (hC7:cK.S7 H0 Ri R0 qD pE qE uN uO uP C7_ FG) {Ce:List Int} {VH:List AV} {yo yp yq yr:Int} (aeA:pE=Ce.length) (h0:Out H0 Ri H (Rs.ow uN ⟨qD,pE,qE⟩ eI.z uO VH uP::R0) λR=>CR eI H R VH Ce) {r:List Int} (hp:cK.pj2 F FG Ce yo yp yq yr=some r):Rt (cK.j2 F  C7_ ⟨qD,pE,qE⟩ yo yp ⟨qD,pE,qE⟩ yq yr H) (cK.Q H0 Ri R0 qD pE qE uN uO uP r):=by
 obtain ⟨w0,s0,aeB⟩:=h0
 subst aeA
 unfold cK.pj2 at hp
 unfold cK.j2
 exact hC7 rfl ⟨w0,s0,aeB⟩ hp
def cK.pl7 (F:Nat) :Nat->List Int->Int->Int->Int->Int->Option (List Int)
 | 0,_,_,_,_,_=>none
 | k+1,lf,nM,nN,nO,lF=>(bif (decide (lF<nO)) then ((ix lf lF).bind λn1=>(bif ((gt lf n1)==nM) then ((ix lf lF).bind λn2=>(some (lf.set n2 nN)).bind λl3=>cK.pj2 F (cK.pl7 F k) l3 nM nN nO lF) else (cK.pj2 F (cK.pl7 F k) lf nM nN nO lF))) else (some lf))
theorem cK.l7_P {qD:ON} {pE:Nat} {qE:Cap} {uN:Bool} {uO uP:List AV} :∀ k,cK.S7 H0 Ri R0 qD pE qE uN uO uP (cK.l7 F   k) (cK.pl7 F  k):=by
 intro k
 induction k with
 | zero=>unfold cK.S7;intros;rename_i hp;cases hp
 | succ k ih=>
  intro lf Nj nM nN nO lF H Nk h0 r hp
  obtain ⟨w0,s0,uQ⟩:=h0
  subst Nk
  unfold cK.pl7 at hp
  unfold cK.l7
  refine aK hp (λhp=>?_) λhp=>?_
  ·obtain ⟨n1,g1,hp⟩:=ah hp
   obtain ⟨p1,q1,i1,h1,j1⟩:=W.ixo (E:=eI) w0 (i:=0) rfl rfl uQ g1
   refine ar i1 ?_
   have h1:_=[_]:=h1
   subst h1
   refine ar (bA (j1 0 _ rfl)) ?_
   refine aK hp (λhp=>?_) λhp=>?_
   ·obtain ⟨n2,g2,hp⟩:=ah hp
    obtain ⟨p2,q2,i2,h2,j2⟩:=W.ixo (E:=eI) w0 (i:=0) rfl rfl uQ g2
    refine ar i2 ?_
    obtain ⟨l3,e3,hp⟩:=ah hp
    refine gd eI w0 (i:=0) (j:=0) (p:=p2) rfl rfl uQ g2 i2 e3 rfl rfl (λ_ h=>by have h:_=[_]:=h;subst h;exact rfl) λH4 k4 w4 s4 c4=>?_
    exact cK.j2_P (@ih) ((et e3).symm) ⟨w4,(s0.trans s4),c4⟩ hp
   ·exact cK.j2_P (@ih) rfl ⟨w0,s0,uQ⟩ hp
  ·exact aO hp ⟨_,rfl,rfl,w0,s0,uQ⟩
def cK.p (F:Nat) (ak:List Int) (ai:Int) (cV:Int):Option (List Int):=(ix ak cV).bind λn1=>(ix ak ai).bind λn2=>cK.pl7 F F ak (gt ak n1) (gt ak n2) (ak.length:Int) 0
theorem cK.P {bE:ON} {aV:Nat} {bF:Cap} {ak:List Int} {Cb:Bool} {Cc Cd Nl:List AV} {ai cV:Int} (cR:aV=ak.length) (h0:Inn H (Rs.ow Cb ⟨bE,aV,bF⟩ eI.z Cc Nl Cd::R0) λR=>CR eI H R Nl ak) {r:List Int} (hp:cK.p F ak ai cV=some r):Rt (cK.tw F ⟨bE,aV,bF⟩ ai cV H) (cK.Q H (Rs.ow Cb ⟨bE,aV,bF⟩ eI.z Cc Nl Cd::R0) R0 bE aV bF Cb Cc Cd r):=by
 obtain ⟨w0,cE⟩:=h0
 subst cR
 unfold cK.p at hp
 unfold cK.tw cK.twX
 have s0:=w0.rf
 obtain ⟨n1,g1,hp⟩:=ah hp
 obtain ⟨p1,q1,i1,h1,j1⟩:=W.ixo (E:=eI) w0 (i:=0) rfl rfl cE g1
 refine ar i1 ?_
 have h1:_=[_]:=h1
 subst h1
 refine ar (bA (j1 0 _ rfl)) ?_
 obtain ⟨n2,g2,hp⟩:=ah hp
 obtain ⟨p2,q2,i2,h2,j2⟩:=W.ixo (E:=eI) w0 (i:=0) rfl rfl cE g2
 refine ar i2 ?_
 have h2:_=[_]:=h2
 subst h2
 refine ar (bA (j2 0 _ rfl)) ?_
 exact cK.l7_P F rfl ⟨w0,s0,cE⟩ hp
def gJ.Q (H0:Hp) (Ri R0:List Rs)  (r:List Int) (v:AV) (H':Hp):Prop:=∃ o0a:ON,∃ o0n:Nat,∃ o0c:Cap,∃ o0k:List AV,v=(.sl ⟨o0a,o0n,o0c⟩)/\o0n=(r).length/\Out H0 Ri H' (Rs.own ⟨o0a,o0n,o0c⟩ eI.z o0k::R0) λR=>CR eI H' R o0k (r)
def gJ.p (F:Nat) (ak:List Int):Option (List Int):=(if ak.length<=4294967296/\wfs ak=true then some (qJ ak) else none)
theorem gJ.P {bE:ON} {aV:Nat} {bF:Cap} {ak:List Int} (cR:aV=ak.length) (h0:Inn H R0 λR=>ROs eI H R ⟨bE,aV,bF⟩ ak) {r:List Int} (hp:gJ.p F ak=some r):Rt (gJ.tw F ⟨bE,aV,bF⟩ H) (gJ.Q H R0 R0  r):=by
 obtain ⟨w0,f0⟩:=h0
 subst cR
 unfold gJ.p at hp
 unfold gJ.tw Cx
 have s0:=w0.rf
 obtain ⟨hc,hp⟩:=mf hp
 have hp:=Option.some.inj hp
 obtain ⟨xs,hx,cx⟩:=f0.row rfl
 refine ar hx ?_
 obtain rfl:=cx.ints_eq
 refine ar (Xb _) ?_
 refine fJ hc ?_
 by_cases hz:ak.length=0
 ·rw [if_pos hz]
  obtain ⟨w1,s1⟩:=w0.nilS eI.z (by decide)
  obtain rfl:r=[]:=List.length_eq_zero_iff.1 (by rw [<- hp,OX,hz])
  exact ⟨_,_,rfl,none,0,.ex 0,[],rfl,rfl,w1,s0.trans s1,CR.empty⟩
 ·rw [if_neg hz]
  obtain ⟨H2,e2,w2,s2⟩:=w0.newF ((qJ ak).map (AV.int .i64)) ak.length eI.z (by rw [List.length_map,OX];exact (Nat.mul_one _).symm) (by decide)
  subst e2
  subst hp
  exact ⟨_,_,rfl,some (_,0),_,.full 1,_,rfl,(OX _).symm,w2,s0.trans s2,CR.ints _ _ _ _⟩
def eg.Q (H0:Hp) (Ri R0:List Rs)  (r:List Int) (v:AV) (H':Hp):Prop:=∃ o0a:ON,∃ o0n:Nat,∃ o0c:Cap,∃ o0k:List AV,v=(.sl ⟨o0a,o0n,o0c⟩)/\o0n=(r).length/\Out H0 Ri H' (Rs.own ⟨o0a,o0n,o0c⟩ eI.z o0k::R0) λR=>CR eI H' R o0k (r)
def eg.S29 (H0:Hp) (Ri R0:List Rs)  (C:Nat->Nat->Sl->Sl->Int->Int->Hp->OA) (pC:List (Int×Int)->List (Int×Int)->List Int->Int->Int->Option (List Int)):Prop:=∀ {FH Nm Nn:ON} {Cf FI gL FJ:Nat} {FK No Np:Cap} {uR uS:List (Int×Int)} {wH:List Int} {Nq:List AV} {oN mJ:Int},∀ {H:Hp},Cf=uR.length->FI=uS.length->FJ=wH.length->(Out H0 Ri H (Rs.blk gL [.sl ⟨FH,Cf,FK⟩,.sl ⟨Nm,FI,No⟩]::Rs.own ⟨Nn,FJ,Np⟩ eI.z Nq::R0) λR=>ROs (ag eI eI) H R ⟨FH,Cf,FK⟩ uR/\ROs (ag eI eI) H R ⟨Nm,FI,No⟩ uS/\CR eI H R Nq wH)->∀ {r:List Int},pC uR uS wH oN mJ=some r->Rt (C gL 0 ⟨Nn,FJ,Np⟩ ⟨FH,Cf,FK⟩ oN mJ H) (eg.Q H0 Ri R0  r)
def eg.pl29 (F:Nat) :Nat->List (Int×Int)->List (Int×Int)->List Int->Int->Int->Option (List Int)
 | 0,_,_,_,_,_=>none
 | k+1,uR,uS,wH,oN,mJ=>(bif (decide (mJ<oN)) then ((ix uR mJ).bind λn1=>(ix uS mJ).bind λn5=>(cK.p F wH ((gt uR n1).1) ((gt uS n5).1)).bind λr7=>eg.pl29 F k uR uS r7 oN (IntKind.i64.wrap (mJ+1))) else ((gJ.p F wH).bind λr12=>some r12))
end
end Go.Proofs.YtppbogklbhfboaaGreat.AE
