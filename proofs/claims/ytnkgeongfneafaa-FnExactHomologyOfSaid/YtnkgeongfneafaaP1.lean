import Derived.Test.YtnkgeongfneafaaT2
import Derived.Test.YtnkgeongfneafaaE2
set_option linter.unusedVariables false
set_option linter.unusedSimpArgs false
namespace Go.Proofs.Ytnkgeongfneafaa.AE
open Go Go.AE Go.Proofs
set_option linter.unusedVariables false
set_option maxHeartbeats 4000000
set_option maxRecDepth 100000
noncomputable section
theorem bI.inl {F:Nat} {aa:Int} {af:Int} {aC:Sl} {aj:Int} {bW:Int} {H:Hp} {K:AV×Hp->OA} {Q:AV->Hp->Prop} (h:∃ u H1,((Hp.new H [(.i aa),(.i af),(.sl aC)]).bind λH6=>(Hp.ldSl H6 H.length 2).bind λs7=>(Hp.ldI H6 .i64 H.length 1).bind λn8=>(Sl.idx s7 (IntKind.i64.wrap ((IntKind.i64.wrap (aj * n8))+bW)) 1).bind λp9=>some ((.ptr p9.1 p9.2),H6))=some (u,H1)/\∃ v H',K (u,H1)=some (v,H')/\Q v H'):∃ v H',(bI.tw F aa af aC aj bW H).bind K=some (v,H')/\Q v H':=AJ h
theorem eS.inl {F:Nat} {aa:Int} {af:Int} {aC:Sl} {aj:Int} {H:Hp} {K:AV×Hp->OA} {Q:AV->Hp->Prop} (h:∃ u H1,((Hp.new H [(.i aa),(.i af),(.sl aC)]).bind λH5=>(Hp.ldSl H5 H.length 2).bind λs6=>(Hp.ldI H5 .i64 H.length 1).bind λn7=>(Hp.ldI H5 .i64 H.length 1).bind λn8=>(Sl.cut s6 1 (IntKind.i64.wrap (aj * n7)) (IntKind.i64.wrap ((IntKind.i64.wrap (aj+1)) * n8))).bind λs9=>some ((.sl s9),H5))=some (u,H1)/\∃ v H',K (u,H1)=some (v,H')/\Q v H'):∃ v H',(eS.tw F aa af aC aj H).bind K=some (v,H')/\Q v H':=AJ h
theorem gw.inl {F:Nat} {aa:Nat} {af:Nat} {ai:Nat} {aj:Nat} {bW:Int} {mB:Int} {H:Hp} {K:AV×Hp->OA} {Q:AV->Hp->Prop} (h:∃ u H1,((fB.tw F bW mB 2000000000000 H).bind λr7=>((r7.1).asTup 2).bind λl8=>(l8[0]?).bind λv9=>((v9).asI .i64).bind λn10=>(l8[1]?).bind λv11=>((v11).asB).bind λb12=>(Hp.ldI r7.2 .i64 ai aj).bind λn13=>(Hp.st r7.2 ai aj (.i (IntKind.i64.wrap (n13+n10)))).bind λH14=>(bif (!b12) then ((Hp.st H14 aa (af+15) (.bool true)).bind λH15=>(Hp.st H15 ai aj (.i 0)).bind λH16=>some ((.tup []),H16)) else ((Hp.ldI H14 .i64 ai aj).bind λn17=>(d_.tw F n17 H14).bind λr18=>((r18.1).asI .i64).bind λn19=>(bif (decide (n19>1000000000000)) then ((Hp.st r18.2 aa (af+15) (.bool true)).bind λH20=>(Hp.st H20 ai aj (.i 0)).bind λH21=>some ((.tup []),H21)) else (some ((.tup []),r18.2))))))=some (u,H1)/\∃ v H',K (u,H1)=some (v,H')/\Q v H'):∃ v H',(gw.tw F aa af ai aj bW mB H).bind K=some (v,H')/\Q v H':=AJ h
theorem jw.inl {F:Nat} {aa:Int} {af:Int} {aC:Sl} {H:Hp} {K:AV×Hp->OA} {Q:AV->Hp->Prop} (h:∃ u H1,((Hp.new H [(.i aa),(.i af),(.sl aC)]).bind λH4=>(Hp.ldI H4 .i64 H.length 0).bind λn5=>(dA.tw F n5 H4).bind λr6=>((r6.1).asAgg 3).bind λl7=>(l7[0]?).bind λv8=>((v8).asI .i64).bind λn9=>(l7[1]?).bind λv10=>((v10).asI .i64).bind λn11=>(l7[2]?).bind λv12=>((v12).asSl).bind λs13=>(if bt H4 r6.2 then ((Hp.ldI r6.2 .i64 H.length 0).bind λn14=>(dA.tw F n14 r6.2).bind λr15=>((r15.1).asAgg 3).bind λl16=>(l16[0]?).bind λv17=>((v17).asI .i64).bind λn18=>(l16[1]?).bind λv19=>((v19).asI .i64).bind λn20=>(l16[2]?).bind λv21=>((v21).asSl).bind λs22=>(if bt r6.2 r15.2 then ((Hp.ldI r15.2 .i64 H.length 0).bind λn23=>(Hp.ldI r15.2 .i64 H.length (0+1)).bind λn24=>(Hp.ldSl r15.2 H.length (0+2)).bind λs25=>(iz.tw F n23 n24 s25 r15.2).bind λr26=>((r26.1).asAgg 3).bind λl27=>(l27[0]?).bind λv28=>((v28).asI .i64).bind λn29=>(l27[1]?).bind λv30=>((v30).asI .i64).bind λn31=>(l27[2]?).bind λv32=>((v32).asSl).bind λs33=>(if bt r15.2 r26.2 then ((Hp.ldI r26.2 .i64 H.length 1).bind λn34=>(dA.tw F n34 r26.2).bind λr35=>((r35.1).asAgg 3).bind λl36=>(l36[0]?).bind λv37=>((v37).asI .i64).bind λn38=>(l36[1]?).bind λv39=>((v39).asI .i64).bind λn40=>(l36[2]?).bind λv41=>((v41).asSl).bind λs42=>(if bt r26.2 r35.2 then ((Hp.ldI r35.2 .i64 H.length 1).bind λn43=>(dA.tw F n43 r35.2).bind λr44=>((r44.1).asAgg 3).bind λl45=>(l45[0]?).bind λv46=>((v46).asI .i64).bind λn47=>(l45[1]?).bind λv48=>((v48).asI .i64).bind λn49=>(l45[2]?).bind λv50=>((v50).asSl).bind λs51=>(Hp.new r44.2 [(.i n9),(.i n11),(.sl s13),(.i n18),(.i n20),(.sl s22),(.i n29),(.i n31),(.sl s33),(.i n38),(.i n40),(.sl s42),(.i n47),(.i n49),(.sl s51),(.bool false)]).bind λH52=>some ((.ptr r44.2.length 0),H52)) else none)) else none)) else none)) else none))=some (u,H1)/\∃ v H',K (u,H1)=some (v,H')/\Q v H'):∃ v H',(jw.tw F aa af aC H).bind K=some (v,H')/\Q v H':=AJ h
def iX.Q (H0:Hp) (Ri R0:List Rs)  (r:Int) (v:AV) (H':Hp):Prop:=v=(.i r)/\Out H0 Ri H' (R0) λR=>True
def iX.p (F:Nat) (bQ:List Int) (ax:Int):Option (Int):=(bif (decide ((IntKind.i64.wrap (ax - (bQ.length:Int)))<0)) then (some (-1)) else (some (IntKind.i64.wrap (ax - (bQ.length:Int)))))
theorem iX.P {F:Nat} {ef:ON} {cR:Nat} {eg:Cap} {bQ:List Int} {ax:Int} {H:Hp} {R0:List Rs} (gz:cR=bQ.length) (h0:Inn H R0 λR=>ROs (ae .i64) H R ⟨ef,cR,eg⟩ bQ) {r:Int} (hp:iX.p F bQ ax=some r):∃ v H',iX.tw F ⟨ef,cR,eg⟩ ax H=some (v,H')/\iX.Q H R0 R0  r v H':=by
 obtain ⟨w0,gL⟩:=h0
 subst gz
 unfold iX.p at hp
 unfold iX.tw iX.twX
 have s0:=w0.rf
 refine aW hp (λhp=>?_) λhp=>?_
 ·exact aS hp ⟨rfl,w0,s0,trivial⟩
 ·exact aS hp ⟨rfl,w0,s0,trivial⟩
def gT.Q (H0:Hp) (Ri R0:List Rs)  (r:Int) (v:AV) (H':Hp):Prop:=v=(.i r)/\Out H0 Ri H' (R0) λR=>True
def gT.p (F:Nat) (bg:List Int) (aj:Int):Option (Int):=(iX.p F bg aj).bind λr2=>(bif (decide (r2<0)) then (some (-1)) else (some r2))
theorem gT.P {F:Nat} {aa af aj:Int} {cB:ON} {bR:Nat} {cC:Cap} {bg:List Int} {H:Hp} {R0:List Rs} (fc:bR=bg.length) (h0:Inn H R0 λR=>ROs (ae .i64) H R ⟨cB,bR,cC⟩ bg) {r:Int} (hp:gT.p F bg aj=some r):∃ v H',gT.tw F aa af ⟨cB,bR,cC⟩ aj H=some (v,H')/\gT.Q H R0 R0  r v H':=by
 obtain ⟨w0,eC⟩:=h0
 subst fc
 unfold gT.p at hp
 unfold gT.tw gT.twX
 have s0:=w0.rf
 refine cv w0 λH1 w1 s1=>?_
 refine ac (aF (w1.ld (i:=0) rfl rfl)) ?_
 obtain ⟨r2,e2,hp⟩:=aq hp
 refine aT (iX.P rfl ⟨w1,(eC.step s1)⟩ e2) ?_
 rintro _ H3 ⟨rfl,w3,s3,_⟩
 refine ac rfl ?_
 refine aW hp (λhp=>?_) λhp=>?_
 ·obtain ⟨w4,s4⟩:=w3.pick' [] 1 rfl rfl rfl
  exact aS hp ⟨rfl,w4,(s0.trans (s1.trans (s3.trans s4))),trivial⟩
 ·obtain ⟨w5,s5⟩:=w3.pick' [] 1 rfl rfl rfl
  exact aS hp ⟨rfl,w5,(s0.trans (s1.trans (s3.trans s5))),trivial⟩
def eb.Q (H0:Hp) (Ri R0:List Rs)  (r:List Int) (v:AV) (H':Hp):Prop:=∃ o0a:ON,∃ o0n:Nat,∃ o0c:Cap,∃ o0k:List AV,v=(.sl ⟨o0a,o0n,o0c⟩)/\o0n=(r).length/\Out H0 Ri H' (Rs.own ⟨o0a,o0n,o0c⟩ (ae .i64).z o0k :: R0) λR=>CR (ae .i64) H' R o0k (r)
def eb.S29 (H0:Hp) (Ri R0:List Rs)  (C:Sl->Sl->Int->Hp->OA) (pC:List Int->List Int->Int->Option (List Int)):Prop:=∀ {mP rD:ON} {kX pR:Nat} {mQ rE:Cap} {eL lM:List Int} {rF:List AV} {fE:Int},∀ {H:Hp},kX=eL.length->pR=lM.length->(Out H0 Ri H (Rs.own ⟨rD,pR,rE⟩ (ae .i64).z rF :: R0) λR=>ROs (ae .i64) H R ⟨mP,kX,mQ⟩ eL/\CR (ae .i64) H R rF lM)->∀ {r:List Int},pC eL lM fE=some r->∃ v H',C ⟨mP,kX,mQ⟩ ⟨rD,pR,rE⟩ fE H=some (v,H')/\eb.Q H0 Ri R0  r v H'
def eb.pl29 (F:Nat) :Nat->List Int->List Int->Int->Option (List Int)
 | 0,_,_,_=>none
 | k+1,eL,lM,fE=>(bif (decide (fE<(eL.length:Int))) then ((ix eL fE).bind λn1=>(ix lM fE).bind λn2=>(some (lM.set n2 (gt eL n1))).bind λl3=>eb.pl29 F k eL l3 (IntKind.i64.wrap (fE+1))) else (some lM))
termination_by structural n=>n
theorem eb.l29_P {F:Nat} {H0:Hp} {Ri R0:List Rs}  :∀ k,eb.S29 H0 Ri R0  (eb.l29 F   k) (eb.pl29 F  k):=by
 intro k
 induction k with
 | zero=>unfold eb.S29;intros;rename_i hp;cases hp
 | succ k ih=>
  intro mP rD kX pR mQ rE eL lM rF fE H pS Bb h0 r hp
  obtain ⟨w0,s0,lN,rG⟩:=h0
  subst pS
  subst Bb
  unfold eb.pl29 at hp
  unfold eb.l29
  refine aW hp (λhp=>?_) λhp=>?_
  ·obtain ⟨n1,g1,hp⟩:=aq hp
   obtain ⟨p1,q1,i1,h1,j1⟩:=ROs.ixr lN rfl g1
   refine ac i1 ?_
   have h1:_=[_]:=h1
   subst h1
   refine ac (ag (j1 0 _ rfl)) ?_
   obtain ⟨n2,g2,hp⟩:=aq hp
   obtain ⟨p2,q2,i2,h2,j2⟩:=W.ixo (E:=(ae .i64)) w0 (i:=0) rfl rfl rG g2
   refine ac i2 ?_
   obtain ⟨l3,e3,hp⟩:=aq hp
   refine jj (ae .i64) w0 (i:=0) (j:=0) (p:=p2) rfl rfl rG g2 i2 e3 rfl rfl (λ_ h=>by have h:_=[_]:=h;subst h;exact rfl) λH4 k4 w4 s4 c4=>?_
   exact ih rfl ((gp e3).symm) ⟨w4,(s0.trans s4),(lN.step s4),c4⟩ hp
  ·exact aS hp ⟨_,_,_,_,rfl,rfl,w0,s0,rG⟩
def eb.p (F:Nat) (bQ:List Int):Option (List Int):=(mkn (bQ.length:Int) (0:Int)).bind λl1=>eb.pl29 F F bQ l1 0
theorem eb.P {F:Nat} {ef:ON} {cR:Nat} {eg:Cap} {bQ:List Int} {H:Hp} {R0:List Rs} (gz:cR=bQ.length) (h0:Inn H R0 λR=>ROs (ae .i64) H R ⟨ef,cR,eg⟩ bQ) {r:List Int} (hp:eb.p F bQ=some r):∃ v H',eb.tw F ⟨ef,cR,eg⟩ H=some (v,H')/\eb.Q H R0 R0  r v H':=by
 obtain ⟨w0,gL⟩:=h0
 subst gz
 unfold eb.p at hp
 unfold eb.tw eb.twX
 have s0:=w0.rf
 obtain ⟨l1,e1,hp⟩:=aq hp
 refine Gd (ae .i64) (0:Int) w0 rfl rfl rfl e1 λH2 k2 w2 s2 c2=>?_
 exact eb.l29_P F rfl rfl ⟨w2,(s0.trans s2),(gL.step s2),c2⟩ hp
def fF.Q (H0:Hp) (Ri R0:List Rs)  (r:Int×Int×List Int) (v:AV) (H':Hp):Prop:=∃ o2a:ON,∃ o2n:Nat,∃ o2c:Cap,∃ o2k:List AV,v=(.agg [(.i r.1),(.i r.2.1),(.sl ⟨o2a,o2n,o2c⟩)])/\o2n=(r.2.2).length/\Out H0 Ri H' (Rs.own ⟨o2a,o2n,o2c⟩ (ae .i64).z o2k :: R0) λR=>CR (ae .i64) H' R o2k (r.2.2)
def fF.p (F:Nat) (aa:Int) (af:Int) (bg:List Int):Option (Int×Int×List Int):=(eb.p F bg).bind λr6=>some (aa,af,r6)
theorem fF.P {F:Nat} {aa af:Int} {cB:ON} {bR:Nat} {cC:Cap} {bg:List Int} {H:Hp} {R0:List Rs} (fc:bR=bg.length) (h0:Inn H R0 λR=>ROs (ae .i64) H R ⟨cB,bR,cC⟩ bg) {r:Int×Int×List Int} (hp:fF.p F aa af bg=some r):∃ v H',fF.tw F aa af ⟨cB,bR,cC⟩ H=some (v,H')/\fF.Q H R0 R0  r v H':=by
 obtain ⟨w0,eC⟩:=h0
 subst fc
 unfold fF.p at hp
 unfold fF.tw fF.twX
 have s0:=w0.rf
 refine cv w0 λH1 w1 s1=>?_
 refine cv w1 λH2 w2 s2=>?_
 refine cv w2 λH3 w3 s3=>?_
 refine ac (ag (w3.ld (i:=2) rfl rfl)) ?_
 refine aY w3 (i:=0) rfl rfl rfl λH4 w4 s4=>?_
 refine ac (ag (w4.ld (i:=2) rfl rfl)) ?_
 refine aY w4 (i:=0) rfl rfl rfl λH5 w5 s5=>?_
 refine ac (aF (w5.ld (i:=2) rfl rfl)) ?_
 obtain ⟨r6,e6,hp⟩:=aq hp
 refine aT (eb.P rfl ⟨w5,(eC.step (s1.trans (s2.trans (s3.trans (s4.trans s5)))))⟩ e6) ?_
 rintro _ H7 ⟨o0a_7,o0n_7,o0c_7,o0k_7,rfl,rfl,w7,s7,f7_0⟩
 refine ac rfl ?_
 refine aY w7 (i:=1) rfl rfl rfl λH8 w8 s8=>?_
 dsimp only [pk,pks,nth,List.drop,List.set,List.eraseIdx] at w8 s8
 refine ac (ag (w8.ld (i:=1) rfl rfl)) ?_
 refine ac (ag (w8.ld (i:=1) rfl rfl)) ?_
 refine ac (aF (w8.ld (i:=1) rfl rfl)) ?_
 refine aY w8 (i:=2) rfl rfl rfl λH9 w9 s9=>?_
 refine aY w9 (i:=2) rfl rfl rfl λH10 w10 s10=>?_
 refine aY w10 (i:=2) rfl rfl rfl λH11 w11 s11=>?_
 dsimp only [pk,pks,nth,List.drop,List.set,List.eraseIdx] at w11 s11
 refine ac (ag (w11.ld (i:=2) rfl rfl)) ?_
 refine ac (ag (w11.ld (i:=2) rfl rfl)) ?_
 refine ac (aF (w11.ld (i:=2) rfl rfl)) ?_
 obtain ⟨w12,s12⟩:=w11.pick' [0] 4 rfl rfl rfl
 exact aS hp ⟨_,_,_,_,rfl,rfl,w12,(s0.trans (s1.trans (s2.trans (s3.trans (s4.trans (s5.trans (s7.trans (s8.trans (s9.trans (s10.trans (s11.trans s12))))))))))),(f7_0.step (s8.trans (s9.trans (s10.trans (s11.trans s12)))))⟩
def gU.Q (H0:Hp) (Ri R0:List Rs)  (r:Bool) (v:AV) (H':Hp):Prop:=v=(.bool r)/\Out H0 Ri H' (R0) λR=>True
def gU.p (F:Nat) (aa:Int) (ax:Int) (dJ:Int):Option (Bool):=(bif (decide (aa>=ax)) then (some (decide (aa<=dJ))) else (some false))
theorem gU.P {F:Nat} {aa ax dJ:Int} {H:Hp} {R0:List Rs}  (h0:Inn H R0 λR=>True) {r:Bool} (hp:gU.p F aa ax dJ=some r):∃ v H',gU.tw F aa ax dJ H=some (v,H')/\gU.Q H R0 R0  r v H':=by
 obtain ⟨w0,_⟩:=h0
 unfold gU.p at hp
 unfold gU.tw gU.twX
 have s0:=w0.rf
 refine aW hp (λhp=>?_) λhp=>?_
 ·exact aS hp ⟨rfl,w0,s0,trivial⟩
 ·exact aS hp ⟨rfl,w0,s0,trivial⟩
def dQ.Q (H0:Hp) (Ri R0:List Rs)  (r:Bool) (v:AV) (H':Hp):Prop:=v=(.bool r)/\Out H0 Ri H' (R0) λR=>True
def dQ.S29 (H0:Hp) (Ri R0:List Rs)  (C:Nat->Nat->Int->Hp->OA) (pC:List Int->Int->Option (Bool)):Prop:=∀ {GM GN ln:Int} {Bc:ON} {yj nb:Nat} {Be:Cap} {pT:List Int},∀ {H:Hp},yj=pT.length->(Out H0 Ri H (Rs.blk nb [.i GM,.i GN,.sl ⟨Bc,yj,Be⟩] :: R0) λR=>ROs (ae .i64) H R ⟨Bc,yj,Be⟩ pT)->∀ {r:Bool},pC pT ln=some r->∃ v H',C nb 0 ln H=some (v,H')/\dQ.Q H0 Ri R0  r v H'
def dQ.pl29 (F:Nat) :Nat->List Int->Int->Option (Bool)
 | 0,_,_=>none
 | k+1,pT,ln=>(bif (decide (ln<(pT.length:Int))) then ((ix pT ln).bind λn1=>(gU.p F (gt pT n1) (-1000000000000) 1000000000000).bind λr2=>(bif (!r2) then (some false) else (dQ.pl29 F k pT (IntKind.i64.wrap (ln+1))))) else (some true))
termination_by structural n=>n
theorem dQ.l29_P {F:Nat} {H0:Hp} {Ri R0:List Rs}  :∀ k,dQ.S29 H0 Ri R0  (dQ.l29 F (gU.tw F)  k) (dQ.pl29 F  k):=by
 intro k
 induction k with
 | zero=>unfold dQ.S29;intros;rename_i hp;cases hp
 | succ k ih=>
  intro GM GN ln Bc yj nb Be pT H OQ h0 r hp
  obtain ⟨w0,s0,GO⟩:=h0
  subst OQ
  unfold dQ.pl29 at hp
  unfold dQ.l29
  refine ac (aF (w0.ld (i:=0) rfl rfl)) ?_
  refine aW hp (λhp=>?_) λhp=>?_
  ·refine ac (aF (w0.ld (i:=0) rfl rfl)) ?_
   obtain ⟨n1,g1,hp⟩:=aq hp
   obtain ⟨p1,q1,i1,h1,j1⟩:=ROs.ixr GO rfl g1
   refine ac i1 ?_
   have h1:_=[_]:=h1
   subst h1
   refine ac (ag (j1 0 _ rfl)) ?_
   obtain ⟨r2,e2,hp⟩:=aq hp
   refine aT (gU.P ⟨w0,trivial⟩ e2) ?_
   rintro _ H3 ⟨rfl,w3,s3,_⟩
   refine ac rfl ?_
   refine aW hp (λhp=>?_) λhp=>?_
   ·obtain ⟨w4,s4⟩:=w3.pick' [] 1 rfl rfl rfl
    exact aS hp ⟨rfl,w4,(s0.trans (s3.trans s4)),trivial⟩
   ·exact ih rfl ⟨w3,(s0.trans s3),(GO.step s3)⟩ hp
  ·obtain ⟨w5,s5⟩:=w0.pick' [] 1 rfl rfl rfl
   exact aS hp ⟨rfl,w5,(s0.trans s5),trivial⟩
def dQ.p (F:Nat) (aa:Int) (af:Int) (bg:List Int):Option (Bool):=(gU.p F aa 0 48).bind λr2=>(bif (!r2) then (some false) else ((gU.p F af 0 48).bind λr5=>(bif (!r5) then (some false) else ((bif ((bg.length:Int) != (IntKind.i64.wrap (aa * af))) then (some false) else (dQ.pl29 F F bg 0))))))
theorem dQ.P {F:Nat} {aa af:Int} {cB:ON} {bR:Nat} {cC:Cap} {bg:List Int} {H:Hp} {R0:List Rs} (fc:bR=bg.length) (h0:Inn H R0 λR=>ROs (ae .i64) H R ⟨cB,bR,cC⟩ bg) {r:Bool} (hp:dQ.p F aa af bg=some r):∃ v H',dQ.tw F aa af ⟨cB,bR,cC⟩ H=some (v,H')/\dQ.Q H R0 R0  r v H':=by
 obtain ⟨w0,eC⟩:=h0
 subst fc
 unfold dQ.p at hp
 unfold dQ.tw dQ.twX
 have s0:=w0.rf
 refine cv w0 λH1 w1 s1=>?_
 refine ac (ag (w1.ld (i:=0) rfl rfl)) ?_
 obtain ⟨r2,e2,hp⟩:=aq hp
 refine aT (gU.P ⟨w1,trivial⟩ e2) ?_
 rintro _ H3 ⟨rfl,w3,s3,_⟩
 refine ac rfl ?_
 refine aW hp (λhp=>?_) λhp=>?_
 ·obtain ⟨w4,s4⟩:=w3.pick' [] 1 rfl rfl rfl
  exact aS hp ⟨rfl,w4,(s0.trans (s1.trans (s3.trans s4))),trivial⟩
 ·refine ac (ag (w3.ld (i:=0) rfl rfl)) ?_
  obtain ⟨r5,e5,hp⟩:=aq hp
  refine aT (gU.P ⟨w3,trivial⟩ e5) ?_
  rintro _ H6 ⟨rfl,w6,s6,_⟩
  refine ac rfl ?_
  refine aW hp (λhp=>?_) λhp=>?_
  ·obtain ⟨w7,s7⟩:=w6.pick' [] 1 rfl rfl rfl
   exact aS hp ⟨rfl,w7,(s0.trans (s1.trans (s3.trans (s6.trans s7)))),trivial⟩
  ·refine ac (aF (w6.ld (i:=0) rfl rfl)) ?_
   refine ac (ag (w6.ld (i:=0) rfl rfl)) ?_
   refine ac (ag (w6.ld (i:=0) rfl rfl)) ?_
   refine aW hp (λhp=>?_) λhp=>?_
   ·obtain ⟨w8,s8⟩:=w6.pick' [] 1 rfl rfl rfl
    exact aS hp ⟨rfl,w8,(s0.trans (s1.trans (s3.trans (s6.trans s8)))),trivial⟩
   ·exact dQ.l29_P F rfl ⟨w6,(s0.trans (s1.trans (s3.trans s6))),(eC.step (s1.trans (s3.trans s6)))⟩ hp
def eV.Q (H0:Hp) (Ri R0:List Rs)  (r:Int×Int×List Int) (v:AV) (H':Hp):Prop:=∃ o2a:ON,∃ o2n:Nat,∃ o2k:List AV,v=(.agg [(.i r.1),(.i r.2.1),(.sl ⟨o2a,o2n,.ex o2n⟩)])/\o2n=(r.2.2).length/\Out H0 Ri H' (Rs.own ⟨o2a,o2n,.ex o2n⟩ (ae .i64).z o2k :: R0) λR=>CR (ae .i64) H' R o2k (r.2.2)
def eV.p (F:Nat) (aa:Int) (ax:Int):Option (Int×Int×List Int):=(mkn (IntKind.i64.wrap (aa * ax)) (0:Int)).bind λl2=>some (aa,ax,l2)
theorem eV.P {F:Nat} {aa ax:Int} {H:Hp} {R0:List Rs}  (h0:Inn H R0 λR=>True) {r:Int×Int×List Int} (hp:eV.p F aa ax=some r):∃ v H',eV.tw F aa ax H=some (v,H')/\eV.Q H R0 R0  r v H':=by
 obtain ⟨w0,_⟩:=h0
 unfold eV.p at hp
 unfold eV.tw eV.twX
 have s0:=w0.rf
 refine cv w0 λH1 w1 s1=>?_
 obtain ⟨l2,e2,hp⟩:=aq hp
 refine Gd (ae .i64) (0:Int) w1 rfl rfl rfl e2 λH3 k3 w3 s3 c3=>?_
 refine aY w3 (i:=1) rfl rfl rfl λH4 w4 s4=>?_
 refine aY w4 (i:=1) rfl rfl rfl λH5 w5 s5=>?_
 refine aY w5 (i:=1) rfl rfl rfl λH6 w6 s6=>?_
 dsimp only [pk,pks,nth,List.drop,List.set,List.eraseIdx] at w6 s6
 refine ac (ag (w6.ld (i:=1) rfl rfl)) ?_
 refine ac (ag (w6.ld (i:=1) rfl rfl)) ?_
 refine ac (aF (w6.ld (i:=1) rfl rfl)) ?_
 obtain ⟨w7,s7⟩:=w6.pick' [0] 2 rfl rfl rfl
 exact aS hp ⟨_,_,_,rfl,rfl,w7,(s0.trans (s1.trans (s3.trans (s4.trans (s5.trans (s6.trans s7)))))),(c3.step (s4.trans (s5.trans (s6.trans s7))))⟩
def bh.Q (H0:Hp) (Ri R0:List Rs)  (r:Int) (v:AV) (H':Hp):Prop:=v=(.i r)/\Out H0 Ri H' (R0) λR=>True
def bh.p (F:Nat) (af:Int) (bg:List Int) (aj:Int) (bW:Int):Option (Int):=(ix bg (IntKind.i64.wrap ((IntKind.i64.wrap (aj * af))+bW))).bind λn2=>some (gt bg n2)
theorem bh.P {F:Nat} {aa af aj bW:Int} {cB:ON} {bR:Nat} {cC:Cap} {bg:List Int} {H:Hp} {R0:List Rs} (fc:bR=bg.length) (h0:Inn H R0 λR=>ROs (ae .i64) H R ⟨cB,bR,cC⟩ bg) {r:Int} (hp:bh.p F af bg aj bW=some r):∃ v H',bh.tw F aa af ⟨cB,bR,cC⟩ aj bW H=some (v,H')/\bh.Q H R0 R0  r v H':=by
 obtain ⟨w0,eC⟩:=h0
 subst fc
 unfold bh.p at hp
 unfold bh.tw bh.twX
 have s0:=w0.rf
 refine cv w0 λH1 w1 s1=>?_
 refine ac (aF (w1.ld (i:=0) rfl rfl)) ?_
 refine ac (ag (w1.ld (i:=0) rfl rfl)) ?_
 obtain ⟨n2,g2,hp⟩:=aq hp
 obtain ⟨p2,q2,i2,h2,j2⟩:=ROs.ixr (eC.step s1) rfl g2
 refine ac i2 ?_
 have h2:_=[_]:=h2
 subst h2
 refine ac (ag (j2 0 _ rfl)) ?_
 obtain ⟨w3,s3⟩:=w1.pick' [] 1 rfl rfl rfl
 exact aS hp ⟨rfl,w3,(s0.trans (s1.trans s3)),trivial⟩
def dR.Q (H0:Hp) (Ri R0:List Rs)  (r:Int) (v:AV) (H':Hp):Prop:=v=(.i r)/\Out H0 Ri H' (R0) λR=>True
def dR.p (F:Nat) (aa:Int):Option (Int):=some (if (IntKind.i64.wrap (0 - aa))>aa then (IntKind.i64.wrap (0 - aa)) else aa)
theorem dR.P {F:Nat} {aa:Int} {H:Hp} {R0:List Rs}  (h0:Inn H R0 λR=>True) {r:Int} (hp:dR.p F aa=some r):∃ v H',dR.tw F aa H=some (v,H')/\dR.Q H R0 R0  r v H':=by
 obtain ⟨w0,_⟩:=h0
 unfold dR.p at hp
 unfold dR.tw dR.twX
 have s0:=w0.rf
 exact aS hp ⟨rfl,w0,s0,trivial⟩
def fq.Q (H0:Hp) (Ri R0:List Rs)  (r:Int×Bool) (v:AV) (H':Hp):Prop:=v=(.tup [(.i r.1),(.bool r.2)])/\Out H0 Ri H' (R0) λR=>True
def fq.p (F:Nat) (aa:Int) (ax:Int) (dJ:Int):Option (Int×Bool):=(bif (aa != 0) then ((dR.p F ax).bind λr1=>(dR.p F aa).bind λr3=>(if r3=0 then none else ((bif (decide (r1>(IntKind.i64.wrap (Int.tdiv dJ r3)))) then (some (0,false)) else (some ((IntKind.i64.wrap (aa * ax)),true)))))) else (some ((IntKind.i64.wrap (aa * ax)),true)))
theorem fq.P {F:Nat} {aa ax dJ:Int} {H:Hp} {R0:List Rs}  (h0:Inn H R0 λR=>True) {r:Int×Bool} (hp:fq.p F aa ax dJ=some r):∃ v H',fq.tw F aa ax dJ H=some (v,H')/\fq.Q H R0 R0  r v H':=by
 obtain ⟨w0,_⟩:=h0
 unfold fq.p at hp
 unfold fq.tw fq.twX
 have s0:=w0.rf
 refine aW hp (λhp=>?_) λhp=>?_
 ·obtain ⟨r1,e1,hp⟩:=aq hp
  refine aT (dR.P ⟨w0,trivial⟩ e1) ?_
  rintro _ H2 ⟨rfl,w2,s2,_⟩
  refine ac rfl ?_
  obtain ⟨r3,e3,hp⟩:=aq hp
  refine aT (dR.P ⟨w2,trivial⟩ e3) ?_
  rintro _ H4 ⟨rfl,w4,s4,_⟩
  refine ac rfl ?_
  obtain ⟨g5,hp⟩:=rb hp
  refine rc g5 ?_
  refine aW hp (λhp=>?_) λhp=>?_
  ·exact aS hp ⟨rfl,w4,(s0.trans (s2.trans s4)),trivial⟩
  ·exact aS hp ⟨rfl,w4,(s0.trans (s2.trans s4)),trivial⟩
 ·exact aS hp ⟨rfl,w0,s0,trivial⟩
def aK.Q (H0:Hp) (Ri R0:List Rs)  (r:Int×Int×List Int×Bool) (v:AV) (H':Hp):Prop:=∃ o2a:ON,∃ o2n:Nat,∃ o2c:Cap,∃ o2k:List AV,v=(.tup [(.agg [(.i r.1),(.i r.2.1),(.sl ⟨o2a,o2n,o2c⟩)]),(.bool r.2.2.2)])/\o2n=(r.2.2.1).length/\Out H0 Ri H' (Rs.own ⟨o2a,o2n,o2c⟩ (ae .i64).z o2k :: R0) λR=>CR (ae .i64) H' R o2k (r.2.2.1)
def aK.S29 (H0:Hp) (Ri R0:List Rs)  (C:Nat->Nat->Nat->Nat->Nat->Nat->Nat->Nat->Int->Hp->OA) (pC:Int->Int->List Int->Int->List Int->Int->Int->List Int->Int->Option (Int×Int×List Int×Bool)):Prop:=∀ {uP v_ GP wa GQ GR uQ uR lY:Int} {Bf Bg Bh Bi:ON} {yk nJ ym oc yn lu yo mG:Nat} {Bj Bk Bl Bm:Cap} {uS uT Bn rH:List Int} {Bo Bp:List AV},∀ {H:Hp},yk=uS.length->ym=uT.length->yn=Bn.length->yo=rH.length->(Out H0 Ri H (Rs.blk nJ [.i uP,.i v_,.sl ⟨Bf,yk,Bj⟩] :: Rs.blk oc [.i GP,.i wa,.sl ⟨Bg,ym,Bk⟩] :: Rs.own ⟨Bh,yn,Bl⟩ (ae .i64).z Bo :: Rs.blk lu [.i GQ,.i GR,.sl ⟨Bh,yn,Bl⟩] :: Rs.own ⟨Bi,yo,Bm⟩ (ae .i64).z Bp :: Rs.blk mG [.i uQ,.i uR,.sl ⟨Bi,yo,Bm⟩] :: R0) λR=>ROs (ae .i64) H R ⟨Bf,yk,Bj⟩ uS/\ROs (ae .i64) H R ⟨Bg,ym,Bk⟩ uT/\CR (ae .i64) H R Bo Bn/\CR (ae .i64) H R Bp rH)->∀ {r:Int×Int×List Int×Bool},pC uP v_ uS wa uT uQ uR rH lY=some r->∃ v H',C nJ 0 oc 0 lu 0 mG 0 lY H=some (v,H')/\aK.Q H0 Ri R0  r v H'
def aK.S469 (H0:Hp) (Ri R0:List Rs)  (C:Nat->Nat->Nat->Nat->Nat->Nat->Nat->Nat->Int->Int->Hp->OA) (pC:Int->Int->List Int->Int->List Int->Int->Int->List Int->Int->Int->Option (Int×Int×List Int×Bool)):Prop:=∀ {uU uV GS rI GT GU uW uX lW lX:Int} {Bq Br Bs Bt:ON} {yp nG yq ne yr nH ys nI:Nat} {Bu Bv Bw Bx:Cap} {rJ rK By rL:List Int} {Bz BA:List AV},∀ {H:Hp},yp=rJ.length->yq=rK.length->yr=By.length->ys=rL.length->(Out H0 Ri H (Rs.blk nG [.i uU,.i uV,.sl ⟨Bq,yp,Bu⟩] :: Rs.blk ne [.i GS,.i rI,.sl ⟨Br,yq,Bv⟩] :: Rs.own ⟨Bs,yr,Bw⟩ (ae .i64).z Bz :: Rs.blk nH [.i GT,.i GU,.sl ⟨Bs,yr,Bw⟩] :: Rs.own ⟨Bt,ys,Bx⟩ (ae .i64).z BA :: Rs.blk nI [.i uW,.i uX,.sl ⟨Bt,ys,Bx⟩] :: R0) λR=>ROs (ae .i64) H R ⟨Bq,yp,Bu⟩ rJ/\ROs (ae .i64) H R ⟨Br,yq,Bv⟩ rK/\CR (ae .i64) H R Bz By/\CR (ae .i64) H R BA rL)->∀ {r:Int×Int×List Int×Bool},pC uU uV rJ rI rK uW uX rL lW lX=some r->∃ v H',C nG 0 ne 0 nH 0 nI 0 lW lX H=some (v,H')/\aK.Q H0 Ri R0  r v H'
def aK.S30037 (H0:Hp) (Ri R0:List Rs)  (C:Nat->Nat->Nat->Nat->Nat->Nat->Nat->Nat->Int->Int->Int->Int->Int->Hp->OA) (pC:Int->Int->List Int->Int->List Int->Int->Int->List Int->Int->Int->Int->Int->Int->Option (Int×Int×List Int×Bool)):Prop:=∀ {uY qx GV rM GW GX uZ u_ lp lq lU lV ki:Int} {BB BC BD BE:ON} {yt lK yu lT yw jk yx nF:Nat} {BF BG BH BI:Cap} {qy qz BJ rN:List Int} {BK BL:List AV},∀ {H:Hp},yt=qy.length->yu=qz.length->yw=BJ.length->yx=rN.length->(Out H0 Ri H (Rs.blk lK [.i uY,.i qx,.sl ⟨BB,yt,BF⟩] :: Rs.blk lT [.i GV,.i rM,.sl ⟨BC,yu,BG⟩] :: Rs.own ⟨BD,yw,BH⟩ (ae .i64).z BK :: Rs.blk jk [.i GW,.i GX,.sl ⟨BD,yw,BH⟩] :: Rs.own ⟨BE,yx,BI⟩ (ae .i64).z BL :: Rs.blk nF [.i uZ,.i u_,.sl ⟨BE,yx,BI⟩] :: R0) λR=>ROs (ae .i64) H R ⟨BB,yt,BF⟩ qy/\ROs (ae .i64) H R ⟨BC,yu,BG⟩ qz/\CR (ae .i64) H R BK BJ/\CR (ae .i64) H R BL rN)->∀ {r:Int×Int×List Int×Bool},pC uY qx qy rM qz uZ u_ rN lp lq lU lV ki=some r->∃ v H',C lK 0 lT 0 jk 0 nF 0 lp lq lU lV ki H=some (v,H')/\aK.Q H0 Ri R0  r v H'
def aK.pj11 (F:Nat) (jm:Int->Int->List Int->Int->List Int->Int->Int->List Int->Int->Int->Option (Int×Int×List Int×Bool)) (yy:Int) (yz:Int) (wb:List Int) (yA:Int) (wc:List Int) (yB:Int) (yC:Int) (wd:List Int) (td:Int) (te:Int):Option (Int×Int×List Int×Bool):=jm yy yz wb yA wc yB yC wd td (IntKind.i64.wrap (te+1))
theorem aK.j11_P {F:Nat} {H0:Hp} {Ri R0:List Rs}  {C469_:Nat->Nat->Nat->Nat->Nat->Nat->Nat->Nat->Int->Int->Hp->OA} {jm:Int->Int->List Int->Int->List Int->Int->Int->List Int->Int->Int->Option (Int×Int×List Int×Bool)} (hC469:aK.S469 H0 Ri R0  C469_ jm) {yy yz OR yA OS OU yB yC td te:Int} {GY GZ G_ Ha:ON} {BM xG BN xH BO xI BP xJ:Nat} {Hb Hc Hd He:Cap} {wb wc Hf wd:List Int} {Hg Hh:List AV} {H:Hp} (OV:BM=wb.length) (OW:BN=wc.length) (OX:BO=Hf.length) (OY:BP=wd.length) (h0:Out H0 Ri H (Rs.blk xG [.i yy,.i yz,.sl ⟨GY,BM,Hb⟩] :: Rs.blk xH [.i OR,.i yA,.sl ⟨GZ,BN,Hc⟩] :: Rs.own ⟨G_,BO,Hd⟩ (ae .i64).z Hg :: Rs.blk xI [.i OS,.i OU,.sl ⟨G_,BO,Hd⟩] :: Rs.own ⟨Ha,BP,He⟩ (ae .i64).z Hh :: Rs.blk xJ [.i yB,.i yC,.sl ⟨Ha,BP,He⟩] :: R0) λR=>ROs (ae .i64) H R ⟨GY,BM,Hb⟩ wb/\ROs (ae .i64) H R ⟨GZ,BN,Hc⟩ wc/\CR (ae .i64) H R Hg Hf/\CR (ae .i64) H R Hh wd) {r:Int×Int×List Int×Bool} (hp:aK.pj11 F jm yy yz wb yA wc yB yC wd td te=some r):∃ v H',aK.j11 F (eV.tw F) (bh.tw F) (fq.tw F) (dR.tw F) C469_ xG 0 xH 0 xI 0 xJ 0 td te H=some (v,H')/\aK.Q H0 Ri R0  r v H':=by
 obtain ⟨w0,s0,OZ,O_,Pa,Pb⟩:=h0
 subst OV
 subst OW
 subst OX
 subst OY
 unfold aK.pj11 at hp
 unfold aK.j11
 exact hC469 rfl rfl rfl rfl ⟨w0,s0,OZ,O_,Pa,Pb⟩ hp
def aK.pj12 (F:Nat) (jm:Int->Int->List Int->Int->List Int->Int->Int->List Int->Int->Int->Option (Int×Int×List Int×Bool)) (yD:Int) (yE:Int) (wg:List Int) (wh:Int) (wi:List Int) (yF:Int) (yG:Int) (va:List Int) (ql:Int) (qm:Int) (tf:Int):Option (Int×Int×List Int×Bool):=(ix va (IntKind.i64.wrap ((IntKind.i64.wrap (ql * wh))+qm))).bind λn1=>(some (va.set n1 tf)).bind λl2=>aK.pj11 F jm yD yE wg wh wi yF yG l2 ql qm
theorem aK.j12_P {F:Nat} {H0:Hp} {Ri R0:List Rs}  {C469_:Nat->Nat->Nat->Nat->Nat->Nat->Nat->Nat->Int->Int->Hp->OA} {jm:Int->Int->List Int->Int->List Int->Int->Int->List Int->Int->Int->Option (Int×Int×List Int×Bool)} (hC469:aK.S469 H0 Ri R0  C469_ jm) {yD yE Pc wh Pd Pe yF yG ql qm tf:Int} {Hj Hk Hl Hm:ON} {BQ xK BR vY BS xL BT vZ:Nat} {Hn Ho Hq Hr:Cap} {wg wi Hs va:List Int} {Ht Hu:List AV} {H:Hp} (Pf:BQ=wg.length) (Pg:BR=wi.length) (Ph:BS=Hs.length) (Pi:BT=va.length) (h0:Out H0 Ri H (Rs.blk xK [.i yD,.i yE,.sl ⟨Hj,BQ,Hn⟩] :: Rs.blk vY [.i Pc,.i wh,.sl ⟨Hk,BR,Ho⟩] :: Rs.own ⟨Hl,BS,Hq⟩ (ae .i64).z Ht :: Rs.blk xL [.i Pd,.i Pe,.sl ⟨Hl,BS,Hq⟩] :: Rs.own ⟨Hm,BT,Hr⟩ (ae .i64).z Hu :: Rs.blk vZ [.i yF,.i yG,.sl ⟨Hm,BT,Hr⟩] :: R0) λR=>ROs (ae .i64) H R ⟨Hj,BQ,Hn⟩ wg/\ROs (ae .i64) H R ⟨Hk,BR,Ho⟩ wi/\CR (ae .i64) H R Ht Hs/\CR (ae .i64) H R Hu va) {r:Int×Int×List Int×Bool} (hp:aK.pj12 F jm yD yE wg wh wi yF yG va ql qm tf=some r):∃ v H',aK.j12 F (eV.tw F) (bh.tw F) (fq.tw F) (dR.tw F) C469_ xK 0 vY 0 xL 0 vZ 0 ql qm tf H=some (v,H')/\aK.Q H0 Ri R0  r v H':=by
 obtain ⟨w0,s0,Pj,Pm,Pn,Hv⟩:=h0
 subst Pf
 subst Pg
 subst Ph
 subst Pi
 unfold aK.pj12 at hp
 unfold aK.j12
 refine ac (aF (w0.ld (i:=5) rfl rfl)) ?_
 refine ac (ag (w0.ld (i:=1) rfl rfl)) ?_
 obtain ⟨n1,g1,hp⟩:=aq hp
 obtain ⟨p1,q1,i1,h1,j1⟩:=W.ixo (E:=(ae .i64)) w0 (i:=4) rfl rfl Hv g1
 refine ac i1 ?_
 obtain ⟨l2,e2,hp⟩:=aq hp
 refine jj (ae .i64) w0 (i:=4) (j:=0) (p:=p1) rfl rfl Hv g1 i1 e2 rfl rfl (λ_ h=>by have h:_=[_]:=h;subst h;exact rfl) λH3 k3 w3 s3 c3=>?_
 exact aK.j11_P (@hC469) rfl rfl rfl ((gp e2).symm) ⟨w3,(s0.trans s3),(Pj.step s3),(Pm.step s3),(Pn.step s3),c3⟩ hp
def aK.pl30037 (F:Nat) (cW:Int->Int->List Int->Int->List Int->Int->Int->List Int->Int->Option (Int×Int×List Int×Bool)) (jm:Int->Int->List Int->Int->List Int->Int->Int->List Int->Int->Int->Option (Int×Int×List Int×Bool)):Nat->Int->Int->List Int->Int->List Int->Int->Int->List Int->Int->Int->Int->Int->Int->Option (Int×Int×List Int×Bool)
 | 0,_,_,_,_,_,_,_,_,_,_,_,_,_=>none
 | k+1,uY,qx,qy,rM,qz,uZ,u_,rN,lp,lq,lU,lV,ki=>(bif (decide (ki<qx)) then ((bh.p F qx qy lp ki).bind λr1=>(bh.p F rM qz ki lq).bind λr4=>(fq.p F r1 r4 1000000000000).bind λr6=>(dR.p F r6.1).bind λr8=>(bif (!r6.2) then (some (0,0,([]:List Int),false)) else ((bif (decide ((IntKind.i64.wrap (lV+r8))>1000000000000)) then (some (0,0,([]:List Int),false)) else (aK.pl30037 F cW jm k uY qx qy rM qz uZ u_ rN lp lq (IntKind.i64.wrap (lU+r6.1)) (IntKind.i64.wrap (lV+r8)) (IntKind.i64.wrap (ki+1))))))) else (aK.pj12 F jm uY qx qy rM qz uZ u_ rN lp lq lU))
termination_by structural n=>n
theorem aK.l30037_P {F:Nat} {H0:Hp} {Ri R0:List Rs}  {C29_:Nat->Nat->Nat->Nat->Nat->Nat->Nat->Nat->Int->Hp->OA} {cW:Int->Int->List Int->Int->List Int->Int->Int->List Int->Int->Option (Int×Int×List Int×Bool)} (hC29:aK.S29 H0 Ri R0  C29_ cW) {C469_:Nat->Nat->Nat->Nat->Nat->Nat->Nat->Nat->Int->Int->Hp->OA} {jm:Int->Int->List Int->Int->List Int->Int->Int->List Int->Int->Int->Option (Int×Int×List Int×Bool)} (hC469:aK.S469 H0 Ri R0  C469_ jm):∀ k,aK.S30037 H0 Ri R0  (aK.l30037 F (eV.tw F) (bh.tw F) (fq.tw F) (dR.tw F) C29_ C469_ k) (aK.pl30037 F cW jm k):=by
 intro k
 induction k with
 | zero=>unfold aK.S30037;intros;rename_i hp;cases hp
 | succ k ih=>
  intro uY qx GV rM GW GX uZ u_ lp lq lU lV ki BB BC BD BE yt lK yu lT yw jk yx nF BF BG BH BI qy qz BJ rN BK BL H Po Pp Pq Pr h0 r hp
  obtain ⟨w0,s0,BU,BV,Hw,Hy⟩:=h0
  subst Po
  subst Pp
  subst Pq
  subst Pr
  unfold aK.pl30037 at hp
  unfold aK.l30037
  refine ac (ag (w0.ld (i:=0) rfl rfl)) ?_
  refine aW hp (λhp=>?_) λhp=>?_
  ·refine ac (ag (w0.ld (i:=0) rfl rfl)) ?_
   refine ac (ag (w0.ld (i:=0) rfl rfl)) ?_
   refine ac (aF (w0.ld (i:=0) rfl rfl)) ?_
   obtain ⟨r1,e1,hp⟩:=aq hp
   refine aT (bh.P rfl ⟨w0,BU⟩ e1) ?_
   rintro _ H2 ⟨rfl,w2,s2,_⟩
   refine ac rfl ?_
   refine eZ (W.cons_of (Rn:=[]) w0 w2 s2) ?_
   refine ac (ag (w2.ld (i:=1) rfl rfl)) ?_
   refine ac (ag (w2.ld (i:=1) rfl rfl)) ?_
   refine ac (aF (w2.ld (i:=1) rfl rfl)) ?_
   obtain ⟨r4,e4,hp⟩:=aq hp
   refine aT (bh.P rfl ⟨w2,(BV.step s2)⟩ e4) ?_
   rintro _ H5 ⟨rfl,w5,s5,_⟩
   refine ac rfl ?_
   obtain ⟨r6,e6,hp⟩:=aq hp
   refine aT (fq.P ⟨w5,trivial⟩ e6) ?_
   rintro _ H7 ⟨rfl,w7,s7,_⟩
   refine ac rfl ?_
   refine ac rfl ?_
   refine ac rfl ?_
   refine ac rfl ?_
   refine ac rfl ?_
   obtain ⟨r8,e8,hp⟩:=aq hp
   refine aT (dR.P ⟨w7,trivial⟩ e8) ?_
   rintro _ H9 ⟨rfl,w9,s9,_⟩
   refine ac rfl ?_
   refine aW hp (λhp=>?_) λhp=>?_
   ·refine aY w9 (i:=3) rfl rfl rfl λH10 w10 s10=>?_
    refine aY w10 (i:=3) rfl rfl rfl λH11 w11 s11=>?_
    refine aY w11 (i:=3) rfl rfl rfl λH12 w12 s12=>?_
    dsimp only [pk,pks,nth,List.drop,List.set,List.eraseIdx] at w12 s12
    refine ac (ag (w12.ld (i:=3) rfl rfl)) ?_
    refine ac (ag (w12.ld (i:=3) rfl rfl)) ?_
    refine ac (aF (w12.ld (i:=3) rfl rfl)) ?_
    obtain ⟨w13,s13⟩:=w12.nilS (ae .i64).z (by decide)
    obtain ⟨w14,s14⟩:=w13.pick' [0] 7 rfl rfl rfl
    exact aS hp ⟨_,_,_,_,rfl,rfl,w14,(s0.trans (s2.trans (s5.trans (s7.trans (s9.trans (s10.trans (s11.trans (s12.trans (s13.trans s14))))))))),((CR.empty:CR (ae .i64) _ _ [] []).step s14)⟩
   ·refine aW hp (λhp=>?_) λhp=>?_
    ·refine aY w9 (i:=3) rfl rfl rfl λH15 w15 s15=>?_
     refine aY w15 (i:=3) rfl rfl rfl λH16 w16 s16=>?_
     refine aY w16 (i:=3) rfl rfl rfl λH17 w17 s17=>?_
     dsimp only [pk,pks,nth,List.drop,List.set,List.eraseIdx] at w17 s17
     refine ac (ag (w17.ld (i:=3) rfl rfl)) ?_
     refine ac (ag (w17.ld (i:=3) rfl rfl)) ?_
     refine ac (aF (w17.ld (i:=3) rfl rfl)) ?_
     obtain ⟨w18,s18⟩:=w17.nilS (ae .i64).z (by decide)
     obtain ⟨w19,s19⟩:=w18.pick' [0] 7 rfl rfl rfl
     exact aS hp ⟨_,_,_,_,rfl,rfl,w19,(s0.trans (s2.trans (s5.trans (s7.trans (s9.trans (s15.trans (s16.trans (s17.trans (s18.trans s19))))))))),((CR.empty:CR (ae .i64) _ _ [] []).step s19)⟩
    ·exact ih rfl rfl rfl rfl ⟨w9,(s0.trans (s2.trans (s5.trans (s7.trans s9)))),(BU.step (s2.trans (s5.trans (s7.trans s9)))),(BV.step (s2.trans (s5.trans (s7.trans s9)))),(Hw.step (s2.trans (s5.trans (s7.trans s9)))),(Hy.step (s2.trans (s5.trans (s7.trans s9))))⟩ hp
  ·exact aK.j12_P (@hC469) rfl rfl rfl rfl ⟨w0,s0,BU,BV,Hw,Hy⟩ hp
def aK.pj9 (F:Nat) (cW:Int->Int->List Int->Int->List Int->Int->Int->List Int->Int->Option (Int×Int×List Int×Bool)) (yH:Int) (yI:Int) (wj:List Int) (yJ:Int) (wk:List Int) (yK:Int) (yL:Int) (wl:List Int) (ta:Int):Option (Int×Int×List Int×Bool):=cW yH yI wj yJ wk yK yL wl (IntKind.i64.wrap (ta+1))
theorem aK.j9_P {F:Nat} {H0:Hp} {Ri R0:List Rs}  {C29_:Nat->Nat->Nat->Nat->Nat->Nat->Nat->Nat->Int->Hp->OA} {cW:Int->Int->List Int->Int->List Int->Int->Int->List Int->Int->Option (Int×Int×List Int×Bool)} (hC29:aK.S29 H0 Ri R0  C29_ cW) {yH yI Ps yJ Pt Pu yK yL ta:Int} {Hz HA HB HC:ON} {BW xy BX xz BY xA BZ xB:Nat} {HD HE HF HG:Cap} {wj wk HI wl:List Int} {HJ HK:List AV} {H:Hp} (Pv:BW=wj.length) (Pw:BX=wk.length) (Px:BY=HI.length) (Py:BZ=wl.length) (h0:Out H0 Ri H (Rs.blk xy [.i yH,.i yI,.sl ⟨Hz,BW,HD⟩] :: Rs.blk xz [.i Ps,.i yJ,.sl ⟨HA,BX,HE⟩] :: Rs.own ⟨HB,BY,HF⟩ (ae .i64).z HJ :: Rs.blk xA [.i Pt,.i Pu,.sl ⟨HB,BY,HF⟩] :: Rs.own ⟨HC,BZ,HG⟩ (ae .i64).z HK :: Rs.blk xB [.i yK,.i yL,.sl ⟨HC,BZ,HG⟩] :: R0) λR=>ROs (ae .i64) H R ⟨Hz,BW,HD⟩ wj/\ROs (ae .i64) H R ⟨HA,BX,HE⟩ wk/\CR (ae .i64) H R HJ HI/\CR (ae .i64) H R HK wl) {r:Int×Int×List Int×Bool} (hp:aK.pj9 F cW yH yI wj yJ wk yK yL wl ta=some r):∃ v H',aK.j9 F (eV.tw F) (bh.tw F) (fq.tw F) (dR.tw F) C29_ xy 0 xz 0 xA 0 xB 0 ta H=some (v,H')/\aK.Q H0 Ri R0  r v H':=by
 obtain ⟨w0,s0,Pz,PA,PB,PC⟩:=h0
 subst Pv
 subst Pw
 subst Px
 subst Py
 unfold aK.pj9 at hp
 unfold aK.j9
 exact hC29 rfl rfl rfl rfl ⟨w0,s0,Pz,PA,PB,PC⟩ hp
def aK.pj10 (F:Nat) (cW:Int->Int->List Int->Int->List Int->Int->Int->List Int->Int->Option (Int×Int×List Int×Bool)) (yM:Int) (yN:Int) (wo:List Int) (yO:Int) (wq:List Int) (yP:Int) (yQ:Int) (wr:List Int) (tc:Int):Option (Int×Int×List Int×Bool):=aK.pj9 F cW yM yN wo yO wq yP yQ wr tc
theorem aK.j10_P {F:Nat} {H0:Hp} {Ri R0:List Rs}  {C29_:Nat->Nat->Nat->Nat->Nat->Nat->Nat->Nat->Int->Hp->OA} {cW:Int->Int->List Int->Int->List Int->Int->Int->List Int->Int->Option (Int×Int×List Int×Bool)} (hC29:aK.S29 H0 Ri R0  C29_ cW) {yM yN PD yO PE PF yP yQ tc:Int} {HL HM HN HO:ON} {B_ xC Ca xD Cb xE Cc xF:Nat} {HP HQ HR HS:Cap} {wo wq HT wr:List Int} {HU HV:List AV} {H:Hp} (PG:B_=wo.length) (PH:Ca=wq.length) (PI:Cb=HT.length) (PJ:Cc=wr.length) (h0:Out H0 Ri H (Rs.blk xC [.i yM,.i yN,.sl ⟨HL,B_,HP⟩] :: Rs.blk xD [.i PD,.i yO,.sl ⟨HM,Ca,HQ⟩] :: Rs.own ⟨HN,Cb,HR⟩ (ae .i64).z HU :: Rs.blk xE [.i PE,.i PF,.sl ⟨HN,Cb,HR⟩] :: Rs.own ⟨HO,Cc,HS⟩ (ae .i64).z HV :: Rs.blk xF [.i yP,.i yQ,.sl ⟨HO,Cc,HS⟩] :: R0) λR=>ROs (ae .i64) H R ⟨HL,B_,HP⟩ wo/\ROs (ae .i64) H R ⟨HM,Ca,HQ⟩ wq/\CR (ae .i64) H R HU HT/\CR (ae .i64) H R HV wr) {r:Int×Int×List Int×Bool} (hp:aK.pj10 F cW yM yN wo yO wq yP yQ wr tc=some r):∃ v H',aK.j10 F (eV.tw F) (bh.tw F) (fq.tw F) (dR.tw F) C29_ xC 0 xD 0 xE 0 xF 0 tc H=some (v,H')/\aK.Q H0 Ri R0  r v H':=by
 obtain ⟨w0,s0,PK,PL,PM,PO⟩:=h0
 subst PG
 subst PH
 subst PI
 subst PJ
 unfold aK.pj10 at hp
 unfold aK.j10
 exact aK.j9_P (@hC29) rfl rfl rfl rfl ⟨w0,s0,PK,PL,PM,PO⟩ hp
def aK.pl469 (F:Nat) (cW:Int->Int->List Int->Int->List Int->Int->Int->List Int->Int->Option (Int×Int×List Int×Bool)):Nat->Int->Int->List Int->Int->List Int->Int->Int->List Int->Int->Int->Option (Int×Int×List Int×Bool)
 | 0,_,_,_,_,_,_,_,_,_,_=>none
 | k+1,uU,uV,rJ,rI,rK,uW,uX,rL,lW,lX=>(bif (decide (lX<rI)) then (aK.pl30037 F cW (aK.pl469 F cW k) F uU uV rJ rI rK uW uX rL lW lX 0 0 0) else (aK.pj10 F cW uU uV rJ rI rK uW uX rL lW))
termination_by structural n=>n
theorem aK.l469_P {F:Nat} {H0:Hp} {Ri R0:List Rs}  {C29_:Nat->Nat->Nat->Nat->Nat->Nat->Nat->Nat->Int->Hp->OA} {cW:Int->Int->List Int->Int->List Int->Int->Int->List Int->Int->Option (Int×Int×List Int×Bool)} (hC29:aK.S29 H0 Ri R0  C29_ cW):∀ k,aK.S469 H0 Ri R0  (aK.l469 F (eV.tw F) (bh.tw F) (fq.tw F) (dR.tw F) C29_ k) (aK.pl469 F cW k):=by
 intro k
 induction k with
 | zero=>unfold aK.S469;intros;rename_i hp;cases hp
 | succ k ih=>
  intro uU uV GS rI GT GU uW uX lW lX Bq Br Bs Bt yp nG yq ne yr nH ys nI Bu Bv Bw Bx rJ rK By rL Bz BA H PP PQ PR PS h0 r hp
  obtain ⟨w0,s0,HW,HX,HY,HZ⟩:=h0
  subst PP
  subst PQ
  subst PR
  subst PS
  unfold aK.pl469 at hp
  unfold aK.l469
  refine ac (ag (w0.ld (i:=1) rfl rfl)) ?_
  refine aW hp (λhp=>?_) λhp=>?_
  ·exact aK.l30037_P (@hC29) (@ih) F rfl rfl rfl rfl ⟨w0,s0,HW,HX,HY,HZ⟩ hp
  ·exact aK.j10_P (@hC29) rfl rfl rfl rfl ⟨w0,s0,HW,HX,HY,HZ⟩ hp
def aK.pl29 (F:Nat) :Nat->Int->Int->List Int->Int->List Int->Int->Int->List Int->Int->Option (Int×Int×List Int×Bool)
 | 0,_,_,_,_,_,_,_,_,_=>none
 | k+1,uP,v_,uS,wa,uT,uQ,uR,rH,lY=>(bif (decide (lY<uP)) then (aK.pl469 F (aK.pl29 F k) F uP v_ uS wa uT uQ uR rH lY 0) else (some (uQ,uR,rH,true)))
termination_by structural n=>n
theorem aK.l29_P {F:Nat} {H0:Hp} {Ri R0:List Rs}  :∀ k,aK.S29 H0 Ri R0  (aK.l29 F (eV.tw F) (bh.tw F) (fq.tw F) (dR.tw F)  k) (aK.pl29 F  k):=by
 intro k
 induction k with
 | zero=>unfold aK.S29;intros;rename_i hp;cases hp
 | succ k ih=>
  intro uP v_ GP wa GQ GR uQ uR lY Bf Bg Bh Bi yk nJ ym oc yn lu yo mG Bj Bk Bl Bm uS uT Bn rH Bo Bp H PT PU PW PX h0 r hp
  obtain ⟨w0,s0,PY,PZ,P_,H_⟩:=h0
  subst PT
  subst PU
  subst PW
  subst PX
  unfold aK.pl29 at hp
  unfold aK.l29
  refine ac (ag (w0.ld (i:=0) rfl rfl)) ?_
  refine aW hp (λhp=>?_) λhp=>?_
  ·exact aK.l469_P (@ih) F rfl rfl rfl rfl ⟨w0,s0,PY,PZ,P_,H_⟩ hp
  ·refine ac (ag (w0.ld (i:=5) rfl rfl)) ?_
   refine ac (ag (w0.ld (i:=5) rfl rfl)) ?_
   refine ac (aF (w0.ld (i:=5) rfl rfl)) ?_
   refine aY w0 (i:=3) rfl rfl rfl λH1 w1 s1=>?_
   refine aY w1 (i:=3) rfl rfl rfl λH2 w2 s2=>?_
   refine aY w2 (i:=3) rfl rfl rfl λH3 w3 s3=>?_
   dsimp only [pk,pks,nth,List.drop,List.set,List.eraseIdx] at w3 s3
   refine ac (ag (w3.ld (i:=3) rfl rfl)) ?_
   refine ac (ag (w3.ld (i:=3) rfl rfl)) ?_
   refine ac (aF (w3.ld (i:=3) rfl rfl)) ?_
   obtain ⟨w4,s4⟩:=w3.pick' [4] 6 rfl rfl rfl
   exact aS hp ⟨_,_,_,_,rfl,rfl,w4,(s0.trans (s1.trans (s2.trans (s3.trans s4)))),(H_.step (s1.trans (s2.trans (s3.trans s4))))⟩
def aK.p (F:Nat) (aa:Int) (af:Int) (bg:List Int) (aJ:Int) (ev:List Int):Option (Int×Int×List Int×Bool):=(eV.p F aa aJ).bind λr4=>aK.pl29 F F aa af bg aJ ev r4.1 r4.2.1 r4.2.2 0
theorem aK.P {F:Nat} {aa af aj aJ:Int} {cB jy:ON} {bR ii:Nat} {cC jz:Cap} {bg ev:List Int} {H:Hp} {R0:List Rs} (fc:bR=bg.length) (mR:ii=ev.length) (h0:Inn H R0 λR=>ROs (ae .i64) H R ⟨cB,bR,cC⟩ bg/\ROs (ae .i64) H R ⟨jy,ii,jz⟩ ev) {r:Int×Int×List Int×Bool} (hp:aK.p F aa af bg aJ ev=some r):∃ v H',aK.tw F aa af ⟨cB,bR,cC⟩ aj aJ ⟨jy,ii,jz⟩ H=some (v,H')/\aK.Q H R0 R0  r v H':=by
 obtain ⟨w0,eC,jA⟩:=h0
 subst fc
 subst mR
 unfold aK.p at hp
 unfold aK.tw aK.twX
 have s0:=w0.rf
 refine cv w0 λH1 w1 s1=>?_
 refine cv w1 λH2 w2 s2=>?_
 refine cv w2 λH3 w3 s3=>?_
 refine ac (ag (w3.ld (i:=2) rfl rfl)) ?_
 refine ac (ag (w3.ld (i:=1) rfl rfl)) ?_
 obtain ⟨r4,e4,hp⟩:=aq hp
 refine aT (eV.P ⟨w3,trivial⟩ e4) ?_
 rintro _ H5 ⟨o2a_5,o2n_5,o2k_5,rfl,rfl,w5,s5,f5_0⟩
 refine ac rfl ?_
 refine ac rfl ?_
 refine ac rfl ?_
 refine ac rfl ?_
 refine ac rfl ?_
 refine ac rfl ?_
 refine ac rfl ?_
 refine cv w5 λH6 w6 s6=>?_
 refine aY w6 (i:=0) rfl rfl rfl λH7 w7 s7=>?_
 refine aY w7 (i:=0) rfl rfl rfl λH8 w8 s8=>?_
 refine aY w8 (i:=0) rfl rfl rfl λH9 w9 s9=>?_
 dsimp only [pk,pks,nth,List.drop,List.set,List.eraseIdx] at w9 s9
 obtain ⟨w10,s10⟩:=w9.nilS (ae .i64).z (by decide)
 obtain ⟨w11,s11⟩:=w10.pick' [5,4,0,3,2,1] 6 rfl rfl rfl
 exact aK.l29_P F rfl rfl rfl rfl ⟨w11,(s0.trans (s1.trans (s2.trans (s3.trans (s5.trans (s6.trans (s7.trans (s8.trans (s9.trans (s10.trans s11)))))))))),(eC.step (s1.trans (s2.trans (s3.trans (s5.trans (s6.trans (s7.trans (s8.trans (s9.trans (s10.trans s11)))))))))),(jA.step (s1.trans (s2.trans (s3.trans (s5.trans (s6.trans (s7.trans (s8.trans (s9.trans (s10.trans s11)))))))))),((CR.empty:CR (ae .i64) _ _ [] []).step s11),(f5_0.step (s6.trans (s7.trans (s8.trans (s9.trans (s10.trans s11))))))⟩ hp
def dV.Q (H0:Hp) (Ri R0:List Rs)  (r:Bool) (v:AV) (H':Hp):Prop:=v=(.bool r)/\Out H0 Ri H' (R0) λR=>True
def dV.S29 (H0:Hp) (Ri R0:List Rs)  (C:Nat->Nat->Nat->Nat->Int->Hp->OA) (pC:List Int->List Int->Int->Option (Bool)):Prop:=∀ {Ia Ib Ic Id kj:Int} {Cd Ce:ON} {yR nh yS nK:Nat} {Cf Cg:Cap} {pU qA:List Int},∀ {H:Hp},yR=pU.length->yS=qA.length->(Out H0 Ri H (Rs.blk nh [.i Ia,.i Ib,.sl ⟨Cd,yR,Cf⟩] :: Rs.blk nK [.i Ic,.i Id,.sl ⟨Ce,yS,Cg⟩] :: R0) λR=>ROs (ae .i64) H R ⟨Cd,yR,Cf⟩ pU/\ROs (ae .i64) H R ⟨Ce,yS,Cg⟩ qA)->∀ {r:Bool},pC pU qA kj=some r->∃ v H',C nh 0 nK 0 kj H=some (v,H')/\dV.Q H0 Ri R0  r v H'
def dV.pl29 (F:Nat) :Nat->List Int->List Int->Int->Option (Bool)
 | 0,_,_,_=>none
 | k+1,pU,qA,kj=>(bif (decide (kj<(pU.length:Int))) then ((ix pU kj).bind λn1=>(ix qA kj).bind λn2=>(bif ((gt pU n1) != (gt qA n2)) then (some false) else (dV.pl29 F k pU qA (IntKind.i64.wrap (kj+1))))) else (some true))
termination_by structural n=>n
theorem dV.l29_P {F:Nat} {H0:Hp} {Ri R0:List Rs}  :∀ k,dV.S29 H0 Ri R0  (dV.l29 F   k) (dV.pl29 F  k):=by
 intro k
 induction k with
 | zero=>unfold dV.S29;intros;rename_i hp;cases hp
 | succ k ih=>
  intro Ia Ib Ic Id kj Cd Ce yR nh yS nK Cf Cg pU qA H Qa Qb h0 r hp
  obtain ⟨w0,s0,Ie,If⟩:=h0
  subst Qa
  subst Qb
  unfold dV.pl29 at hp
  unfold dV.l29
  refine ac (aF (w0.ld (i:=0) rfl rfl)) ?_
  refine aW hp (λhp=>?_) λhp=>?_
  ·refine ac (aF (w0.ld (i:=0) rfl rfl)) ?_
   obtain ⟨n1,g1,hp⟩:=aq hp
   obtain ⟨p1,q1,i1,h1,j1⟩:=ROs.ixr Ie rfl g1
   refine ac i1 ?_
   have h1:_=[_]:=h1
   subst h1
   refine ac (ag (j1 0 _ rfl)) ?_
   refine ac (aF (w0.ld (i:=1) rfl rfl)) ?_
   obtain ⟨n2,g2,hp⟩:=aq hp
   obtain ⟨p2,q2,i2,h2,j2⟩:=ROs.ixr If rfl g2
   refine ac i2 ?_
   have h2:_=[_]:=h2
   subst h2
   refine ac (ag (j2 0 _ rfl)) ?_
   refine aW hp (λhp=>?_) λhp=>?_
   ·obtain ⟨w3,s3⟩:=w0.pick' [] 2 rfl rfl rfl
    exact aS hp ⟨rfl,w3,(s0.trans s3),trivial⟩
   ·exact ih rfl rfl ⟨w0,s0,Ie,If⟩ hp
  ·obtain ⟨w4,s4⟩:=w0.pick' [] 2 rfl rfl rfl
   exact aS hp ⟨rfl,w4,(s0.trans s4),trivial⟩
def dV.p (F:Nat) (aa:Int) (af:Int) (bg:List Int) (aj:Int) (aJ:Int) (ev:List Int):Option (Bool):=(bif (aa != aj) then (some false) else ((bif (af != aJ) then (some false) else ((bif ((bg.length:Int) != (ev.length:Int)) then (some false) else (dV.pl29 F F bg ev 0))))))
theorem dV.P {F:Nat} {aa af aj aJ:Int} {cB jy:ON} {bR ii:Nat} {cC jz:Cap} {bg ev:List Int} {H:Hp} {R0:List Rs} (fc:bR=bg.length) (mR:ii=ev.length) (h0:Inn H R0 λR=>ROs (ae .i64) H R ⟨cB,bR,cC⟩ bg/\ROs (ae .i64) H R ⟨jy,ii,jz⟩ ev) {r:Bool} (hp:dV.p F aa af bg aj aJ ev=some r):∃ v H',dV.tw F aa af ⟨cB,bR,cC⟩ aj aJ ⟨jy,ii,jz⟩ H=some (v,H')/\dV.Q H R0 R0  r v H':=by
 obtain ⟨w0,eC,jA⟩:=h0
 subst fc
 subst mR
 unfold dV.p at hp
 unfold dV.tw dV.twX
 have s0:=w0.rf
 refine cv w0 λH1 w1 s1=>?_
 refine cv w1 λH2 w2 s2=>?_
 refine ac (ag (w2.ld (i:=1) rfl rfl)) ?_
 refine ac (ag (w2.ld (i:=0) rfl rfl)) ?_
 refine aW hp (λhp=>?_) λhp=>?_
 ·obtain ⟨w3,s3⟩:=w2.pick' [] 2 rfl rfl rfl
  exact aS hp ⟨rfl,w3,(s0.trans (s1.trans (s2.trans s3))),trivial⟩
 ·refine ac (ag (w2.ld (i:=1) rfl rfl)) ?_
  refine ac (ag (w2.ld (i:=0) rfl rfl)) ?_
  refine aW hp (λhp=>?_) λhp=>?_
  ·obtain ⟨w4,s4⟩:=w2.pick' [] 2 rfl rfl rfl
   exact aS hp ⟨rfl,w4,(s0.trans (s1.trans (s2.trans s4))),trivial⟩
  ·refine ac (aF (w2.ld (i:=1) rfl rfl)) ?_
   refine ac (aF (w2.ld (i:=0) rfl rfl)) ?_
   refine aW hp (λhp=>?_) λhp=>?_
   ·obtain ⟨w5,s5⟩:=w2.pick' [] 2 rfl rfl rfl
    exact aS hp ⟨rfl,w5,(s0.trans (s1.trans (s2.trans s5))),trivial⟩
   ·obtain ⟨w6,s6⟩:=w2.pick' [1,0] 2 rfl rfl rfl
    exact dV.l29_P F rfl rfl ⟨w6,(s0.trans (s1.trans (s2.trans s6))),(eC.step (s1.trans (s2.trans s6))),(jA.step (s1.trans (s2.trans s6)))⟩ hp
def dp.Q (H0:Hp) (Ri R0:List Rs)  (r:Int×Int×List Int) (v:AV) (H':Hp):Prop:=∃ o2a:ON,∃ o2n:Nat,∃ o2c:Cap,∃ o2k:List AV,v=(.agg [(.i r.1),(.i r.2.1),(.sl ⟨o2a,o2n,o2c⟩)])/\o2n=(r.2.2).length/\Out H0 Ri H' (Rs.own ⟨o2a,o2n,o2c⟩ (ae .i64).z o2k :: R0) λR=>CR (ae .i64) H' R o2k (r.2.2)
def dp.S29 (H0:Hp) (Ri R0:List Rs)  (C:Int->Nat->Nat->Nat->Nat->Int->Hp->OA) (pC:Int->Int->Int->List Int->Int->Option (Int×Int×List Int)):Prop:=∀ {lw wt wu nT nw gB:Int} {rO rP:ON} {pV dw pW gE:Nat} {rQ rR:Cap} {rS lO:List Int} {rT rU:List AV},∀ {H:Hp},pV=rS.length->pW=lO.length->(Out H0 Ri H (Rs.own ⟨rO,pV,rQ⟩ (ae .i64).z rT :: Rs.blk dw [.i wt,.i wu,.sl ⟨rO,pV,rQ⟩] :: Rs.own ⟨rP,pW,rR⟩ (ae .i64).z rU :: Rs.blk gE [.i nT,.i nw,.sl ⟨rP,pW,rR⟩] :: R0) λR=>CR (ae .i64) H R rT rS/\CR (ae .i64) H R rU lO)->∀ {r:Int×Int×List Int},pC lw nT nw lO gB=some r->∃ v H',C lw dw 0 gE 0 gB H=some (v,H')/\dp.Q H0 Ri R0  r v H'
def dp.pl29 (F:Nat) :Nat->Int->Int->Int->List Int->Int->Option (Int×Int×List Int)
 | 0,_,_,_,_,_=>none
 | k+1,lw,nT,nw,lO,gB=>(bif (decide (gB<lw)) then ((ix lO (IntKind.i64.wrap ((IntKind.i64.wrap (gB * lw))+gB))).bind λn1=>(some (lO.set n1 1)).bind λl2=>dp.pl29 F k lw nT nw l2 (IntKind.i64.wrap (gB+1))) else (some (nT,nw,lO)))
termination_by structural n=>n
theorem dp.l29_P {F:Nat} {H0:Hp} {Ri R0:List Rs}  :∀ k,dp.S29 H0 Ri R0  (dp.l29 F (eV.tw F)  k) (dp.pl29 F  k):=by
 intro k
 induction k with
 | zero=>unfold dp.S29;intros;rename_i hp;cases hp
 | succ k ih=>
  intro lw wt wu nT nw gB rO rP pV dw pW gE rQ rR rS lO rT rU H Ch Ci h0 r hp
  obtain ⟨w0,s0,Cj,rV⟩:=h0
  subst Ch
  subst Ci
  unfold dp.pl29 at hp
  unfold dp.l29
  refine aW hp (λhp=>?_) λhp=>?_
  ·refine ac (aF (w0.ld (i:=3) rfl rfl)) ?_
   obtain ⟨n1,g1,hp⟩:=aq hp
   obtain ⟨p1,q1,i1,h1,j1⟩:=W.ixo (E:=(ae .i64)) w0 (i:=2) rfl rfl rV g1
   refine ac i1 ?_
   obtain ⟨l2,e2,hp⟩:=aq hp
   refine jj (ae .i64) w0 (i:=2) (j:=0) (p:=p1) rfl rfl rV g1 i1 e2 rfl rfl (λ_ h=>by have h:_=[_]:=h;subst h;exact rfl) λH3 k3 w3 s3 c3=>?_
   exact ih rfl ((gp e2).symm) ⟨w3,(s0.trans s3),(Cj.step s3),c3⟩ hp
  ·refine ac (ag (w0.ld (i:=3) rfl rfl)) ?_
   refine ac (ag (w0.ld (i:=3) rfl rfl)) ?_
   refine ac (aF (w0.ld (i:=3) rfl rfl)) ?_
   refine aY w0 (i:=1) rfl rfl rfl λH4 w4 s4=>?_
   refine aY w4 (i:=1) rfl rfl rfl λH5 w5 s5=>?_
   refine aY w5 (i:=1) rfl rfl rfl λH6 w6 s6=>?_
   dsimp only [pk,pks,nth,List.drop,List.set,List.eraseIdx] at w6 s6
   refine ac (ag (w6.ld (i:=1) rfl rfl)) ?_
   refine ac (ag (w6.ld (i:=1) rfl rfl)) ?_
   refine ac (aF (w6.ld (i:=1) rfl rfl)) ?_
   obtain ⟨w7,s7⟩:=w6.pick' [2] 4 rfl rfl rfl
   exact aS hp ⟨_,_,_,_,rfl,rfl,w7,(s0.trans (s4.trans (s5.trans (s6.trans s7)))),(rV.step (s4.trans (s5.trans (s6.trans s7))))⟩
def dp.p (F:Nat) (aa:Int):Option (Int×Int×List Int):=(eV.p F aa aa).bind λr2=>dp.pl29 F F aa r2.1 r2.2.1 r2.2.2 0
theorem dp.P {F:Nat} {aa:Int} {H:Hp} {R0:List Rs}  (h0:Inn H R0 λR=>True) {r:Int×Int×List Int} (hp:dp.p F aa=some r):∃ v H',dp.tw F aa H=some (v,H')/\dp.Q H R0 R0  r v H':=by
 obtain ⟨w0,_⟩:=h0
 unfold dp.p at hp
 unfold dp.tw dp.twX
 have s0:=w0.rf
 refine cv w0 λH1 w1 s1=>?_
 obtain ⟨r2,e2,hp⟩:=aq hp
 refine aT (eV.P ⟨w1,trivial⟩ e2) ?_
 rintro _ H3 ⟨o2a_3,o2n_3,o2k_3,rfl,rfl,w3,s3,f3_0⟩
 refine ac rfl ?_
 refine ac rfl ?_
 refine ac rfl ?_
 refine ac rfl ?_
 refine ac rfl ?_
 refine ac rfl ?_
 refine ac rfl ?_
 refine cv w3 λH4 w4 s4=>?_
 refine aY w4 (i:=0) rfl rfl rfl λH5 w5 s5=>?_
 refine aY w5 (i:=0) rfl rfl rfl λH6 w6 s6=>?_
 refine aY w6 (i:=0) rfl rfl rfl λH7 w7 s7=>?_
 dsimp only [pk,pks,nth,List.drop,List.set,List.eraseIdx] at w7 s7
 obtain ⟨w8,s8⟩:=w7.nilS (ae .i64).z (by decide)
 obtain ⟨w9,s9⟩:=w8.pick' [0,3,2,1] 4 rfl rfl rfl
 exact dp.l29_P F rfl rfl ⟨w9,(s0.trans (s1.trans (s3.trans (s4.trans (s5.trans (s6.trans (s7.trans (s8.trans s9)))))))),((CR.empty:CR (ae .i64) _ _ [] []).step s9),(f3_0.step (s4.trans (s5.trans (s6.trans (s7.trans (s8.trans s9))))))⟩ hp
def cN.Q (H0:Hp) (Ri R0:List Rs) (cB:ON) (bR:Nat) (cC:Cap) (iD:Bool) (iE iF:List AV) (r:List Int) (v:AV) (H':Hp):Prop:=∃ nx:List AV,v=(.tup [])/\bR=(r).length/\Out H0 Ri H' (Rs.ow iD ⟨cB,bR,cC⟩ (ae .i64).z iE nx iF :: R0) λR=>CR (ae .i64) H' R nx (r)
def cN.S7 (H0:Hp) (Ri R0:List Rs) (jB:ON) (iZ:Nat) (jC:Cap) (kY:Bool) (kZ k_:List AV) (C:Int->Int->Nat->Nat->Int->Hp->OA) (pC:Int->Int->Int->List Int->Int->Option (List Int)):Prop:=∀ {gq gr pX kG eW:Int} {kd:List Int} {rW:List AV} {e_:Nat},∀ {H:Hp},iZ=kd.length->(Out H0 Ri H (Rs.ow kY ⟨jB,iZ,jC⟩ (ae .i64).z kZ rW k_ :: Rs.blk e_ [.i pX,.i kG,.sl ⟨jB,iZ,jC⟩] :: R0) λR=>CR (ae .i64) H R rW kd)->∀ {r:List Int},pC gq gr kG kd eW=some r->∃ v H',C gq gr e_ 0 eW H=some (v,H')/\cN.Q H0 Ri R0 jB iZ jC kY kZ k_ r v H'
def cN.pl7 (F:Nat) :Nat->Int->Int->Int->List Int->Int->Option (List Int)
 | 0,_,_,_,_,_=>none
 | k+1,gq,gr,kG,kd,eW=>(bif (decide (eW<kG)) then ((bh.p F kG kd gq eW).bind λr2=>(bh.p F kG kd gr eW).bind λr6=>(ix kd (IntKind.i64.wrap ((IntKind.i64.wrap (gq * kG))+eW))).bind λn10=>(some (kd.set n10 r6)).bind λl11=>(ix l11 (IntKind.i64.wrap ((IntKind.i64.wrap (gr * kG))+eW))).bind λn13=>(some (l11.set n13 r2)).bind λl14=>cN.pl7 F k gq gr kG l14 (IntKind.i64.wrap (eW+1))) else (some kd))
termination_by structural n=>n
theorem cN.l7_P {F:Nat} {H0:Hp} {Ri R0:List Rs} {jB:ON} {iZ:Nat} {jC:Cap} {kY:Bool} {kZ k_:List AV} :∀ k,cN.S7 H0 Ri R0 jB iZ jC kY kZ k_ (cN.l7 F (bh.tw F)  k) (cN.pl7 F  k):=by
 intro k
 induction k with
 | zero=>unfold cN.S7;intros;rename_i hp;cases hp
 | succ k ih=>
  intro gq gr pX kG eW kd rW e_ H Ck h0 r hp
  obtain ⟨w0,s0,oJ⟩:=h0
  subst Ck
  unfold cN.pl7 at hp
  unfold cN.l7
  refine ac (ag (w0.ld (i:=1) rfl rfl)) ?_
  refine aW hp (λhp=>?_) λhp=>?_
  ·refine ac (ag (w0.ld (i:=1) rfl rfl)) ?_
   refine ac (ag (w0.ld (i:=1) rfl rfl)) ?_
   refine ac (aF (w0.ld (i:=1) rfl rfl)) ?_
   have f1:=W.borrow1 (ae .i64) w0 oJ
   obtain ⟨w1,s1⟩:=w0.right1
   obtain ⟨r2,e2,hp⟩:=aq hp
   refine aT (bh.P rfl ⟨w1,f1⟩ e2) ?_
   rintro _ H3 ⟨rfl,w3,s3,_⟩
   obtain ⟨w4,s4⟩:=W.frame1 w0 w3 s3
   refine ac rfl ?_
   refine ac (aF (w4.ld (i:=1) rfl rfl)) ?_
   refine ac (ag (w4.ld (i:=1) rfl rfl)) ?_
   refine ac (ag (w4.ld (i:=1) rfl rfl)) ?_
   refine ac (ag (w4.ld (i:=1) rfl rfl)) ?_
   refine ac (aF (w4.ld (i:=1) rfl rfl)) ?_
   have f5:=W.borrow1 (ae .i64) w4 (oJ.step s4)
   obtain ⟨w5,s5⟩:=w4.right1
   obtain ⟨r6,e6,hp⟩:=aq hp
   refine aT (bh.P rfl ⟨w5,f5⟩ e6) ?_
   rintro _ H7 ⟨rfl,w7,s7,_⟩
   obtain ⟨w8,s8⟩:=W.frame1 w4 w7 s7
   refine ac rfl ?_
   refine eZ (W.cons_of (Rn:=[]) w5 w7 s7) ?_
   obtain ⟨n10,g10,hp⟩:=aq hp
   obtain ⟨p10,q10,i10,h10,j10⟩:=W.ixo (E:=(ae .i64)) w8 (i:=0) rfl rfl (oJ.step (s4.trans s8)) g10
   refine ac i10 ?_
   obtain ⟨l11,e11,hp⟩:=aq hp
   refine jj (ae .i64) w8 (i:=0) (j:=0) (p:=p10) rfl rfl (oJ.step (s4.trans s8)) g10 i10 e11 rfl rfl (λ_ h=>by have h:_=[_]:=h;subst h;exact rfl) λH12 k12 w12 s12 c12=>?_
   refine ac (aF (w12.ld (i:=1) rfl rfl)) ?_
   refine ac (ag (w12.ld (i:=1) rfl rfl)) ?_
   obtain ⟨n13,g13,hp⟩:=aq hp
   obtain ⟨p13,q13,i13,h13,j13⟩:=W.ixo (E:=(ae .i64)) w12 (i:=0) rfl rfl c12 g13
   refine ac i13 ?_
   obtain ⟨l14,e14,hp⟩:=aq hp
   refine jj (ae .i64) w12 (i:=0) (j:=0) (p:=p13) rfl rfl c12 g13 i13 e14 rfl rfl (λ_ h=>by have h:_=[_]:=h;subst h;exact rfl) λH15 k15 w15 s15 c15=>?_
   exact ih ((gp e11).symm.trans (gp e14).symm) ⟨w15,(s0.trans (s4.trans (s8.trans (s12.trans s15)))),c15⟩ hp
  ·obtain ⟨w16,s16⟩:=w0.pick' [0] 2 rfl rfl rfl
   exact aS hp ⟨_,rfl,rfl,w16,(s0.trans s16),(oJ.step s16)⟩
def cN.p (F:Nat) (af:Int) (bg:List Int) (aj:Int) (bW:Int):Option (List Int):=cN.pl7 F F aj bW af bg 0
theorem cN.P {F:Nat} {aa af aj bW:Int} {cB:ON} {bR:Nat} {cC:Cap} {bg:List Int} {iD:Bool} {iE iF la:List AV} {H:Hp} {R0:List Rs} (fc:bR=bg.length) (h0:Inn H (Rs.ow iD ⟨cB,bR,cC⟩ (ae .i64).z iE la iF :: R0) λR=>CR (ae .i64) H R la bg) {r:List Int} (hp:cN.p F af bg aj bW=some r):∃ v H',cN.tw F aa af ⟨cB,bR,cC⟩ aj bW H=some (v,H')/\cN.Q H (Rs.ow iD ⟨cB,bR,cC⟩ (ae .i64).z iE la iF :: R0) R0 cB bR cC iD iE iF r v H':=by
 obtain ⟨w0,eC⟩:=h0
 subst fc
 unfold cN.p at hp
 unfold cN.tw cN.twX
 have s0:=w0.rf
 refine cv w0 λH1 w1 s1=>?_
 obtain ⟨w2,s2⟩:=w1.pick' [1,0] 2 rfl rfl rfl
 exact cN.l7_P F rfl ⟨w2,(s0.trans (s1.trans s2)),(eC.step (s1.trans s2))⟩ hp
def cO.Q (H0:Hp) (Ri R0:List Rs) (cB:ON) (bR:Nat) (cC:Cap) (iD:Bool) (iE iF:List AV) (r:List Int) (v:AV) (H':Hp):Prop:=∃ nx:List AV,v=(.tup [])/\bR=(r).length/\Out H0 Ri H' (Rs.ow iD ⟨cB,bR,cC⟩ (ae .i64).z iE nx iF :: R0) λR=>CR (ae .i64) H' R nx (r)
def cO.S7 (H0:Hp) (Ri R0:List Rs) (jB:ON) (iZ:Nat) (jC:Cap) (kY:Bool) (kZ k_:List AV) (C:Int->Int->Nat->Nat->Int->Hp->OA) (pC:Int->Int->Int->Int->List Int->Int->Option (List Int)):Prop:=∀ {gq gr pX kG eW:Int} {kd:List Int} {rW:List AV} {e_:Nat},∀ {H:Hp},iZ=kd.length->(Out H0 Ri H (Rs.ow kY ⟨jB,iZ,jC⟩ (ae .i64).z kZ rW k_ :: Rs.blk e_ [.i pX,.i kG,.sl ⟨jB,iZ,jC⟩] :: R0) λR=>CR (ae .i64) H R rW kd)->∀ {r:List Int},pC gq gr pX kG kd eW=some r->∃ v H',C gq gr e_ 0 eW H=some (v,H')/\cO.Q H0 Ri R0 jB iZ jC kY kZ k_ r v H'
def cO.pl7 (F:Nat) :Nat->Int->Int->Int->Int->List Int->Int->Option (List Int)
 | 0,_,_,_,_,_,_=>none
 | k+1,gq,gr,pX,kG,kd,eW=>(bif (decide (eW<pX)) then ((bh.p F kG kd eW gq).bind λr2=>(bh.p F kG kd eW gr).bind λr6=>(ix kd (IntKind.i64.wrap ((IntKind.i64.wrap (eW * kG))+gq))).bind λn10=>(some (kd.set n10 r6)).bind λl11=>(ix l11 (IntKind.i64.wrap ((IntKind.i64.wrap (eW * kG))+gr))).bind λn13=>(some (l11.set n13 r2)).bind λl14=>cO.pl7 F k gq gr pX kG l14 (IntKind.i64.wrap (eW+1))) else (some kd))
termination_by structural n=>n
theorem cO.l7_P {F:Nat} {H0:Hp} {Ri R0:List Rs} {jB:ON} {iZ:Nat} {jC:Cap} {kY:Bool} {kZ k_:List AV} :∀ k,cO.S7 H0 Ri R0 jB iZ jC kY kZ k_ (cO.l7 F (bh.tw F)  k) (cO.pl7 F  k):=by
 intro k
 induction k with
 | zero=>unfold cO.S7;intros;rename_i hp;cases hp
 | succ k ih=>
  intro gq gr pX kG eW kd rW e_ H Ck h0 r hp
  obtain ⟨w0,s0,oJ⟩:=h0
  subst Ck
  unfold cO.pl7 at hp
  unfold cO.l7
  refine ac (ag (w0.ld (i:=1) rfl rfl)) ?_
  refine aW hp (λhp=>?_) λhp=>?_
  ·refine ac (ag (w0.ld (i:=1) rfl rfl)) ?_
   refine ac (ag (w0.ld (i:=1) rfl rfl)) ?_
   refine ac (aF (w0.ld (i:=1) rfl rfl)) ?_
   have f1:=W.borrow1 (ae .i64) w0 oJ
   obtain ⟨w1,s1⟩:=w0.right1
   obtain ⟨r2,e2,hp⟩:=aq hp
   refine aT (bh.P rfl ⟨w1,f1⟩ e2) ?_
   rintro _ H3 ⟨rfl,w3,s3,_⟩
   obtain ⟨w4,s4⟩:=W.frame1 w0 w3 s3
   refine ac rfl ?_
   refine ac (aF (w4.ld (i:=1) rfl rfl)) ?_
   refine ac (ag (w4.ld (i:=1) rfl rfl)) ?_
   refine ac (ag (w4.ld (i:=1) rfl rfl)) ?_
   refine ac (ag (w4.ld (i:=1) rfl rfl)) ?_
   refine ac (aF (w4.ld (i:=1) rfl rfl)) ?_
   have f5:=W.borrow1 (ae .i64) w4 (oJ.step s4)
   obtain ⟨w5,s5⟩:=w4.right1
   obtain ⟨r6,e6,hp⟩:=aq hp
   refine aT (bh.P rfl ⟨w5,f5⟩ e6) ?_
   rintro _ H7 ⟨rfl,w7,s7,_⟩
   obtain ⟨w8,s8⟩:=W.frame1 w4 w7 s7
   refine ac rfl ?_
   refine eZ (W.cons_of (Rn:=[]) w5 w7 s7) ?_
   obtain ⟨n10,g10,hp⟩:=aq hp
   obtain ⟨p10,q10,i10,h10,j10⟩:=W.ixo (E:=(ae .i64)) w8 (i:=0) rfl rfl (oJ.step (s4.trans s8)) g10
   refine ac i10 ?_
   obtain ⟨l11,e11,hp⟩:=aq hp
   refine jj (ae .i64) w8 (i:=0) (j:=0) (p:=p10) rfl rfl (oJ.step (s4.trans s8)) g10 i10 e11 rfl rfl (λ_ h=>by have h:_=[_]:=h;subst h;exact rfl) λH12 k12 w12 s12 c12=>?_
   refine ac (aF (w12.ld (i:=1) rfl rfl)) ?_
   refine ac (ag (w12.ld (i:=1) rfl rfl)) ?_
   obtain ⟨n13,g13,hp⟩:=aq hp
   obtain ⟨p13,q13,i13,h13,j13⟩:=W.ixo (E:=(ae .i64)) w12 (i:=0) rfl rfl c12 g13
   refine ac i13 ?_
   obtain ⟨l14,e14,hp⟩:=aq hp
   refine jj (ae .i64) w12 (i:=0) (j:=0) (p:=p13) rfl rfl c12 g13 i13 e14 rfl rfl (λ_ h=>by have h:_=[_]:=h;subst h;exact rfl) λH15 k15 w15 s15 c15=>?_
   exact ih ((gp e11).symm.trans (gp e14).symm) ⟨w15,(s0.trans (s4.trans (s8.trans (s12.trans s15)))),c15⟩ hp
  ·obtain ⟨w16,s16⟩:=w0.pick' [0] 2 rfl rfl rfl
   exact aS hp ⟨_,rfl,rfl,w16,(s0.trans s16),(oJ.step s16)⟩
def cO.p (F:Nat) (aa:Int) (af:Int) (bg:List Int) (aj:Int) (bW:Int):Option (List Int):=cO.pl7 F F aj bW aa af bg 0
theorem cO.P {F:Nat} {aa af aj bW:Int} {cB:ON} {bR:Nat} {cC:Cap} {bg:List Int} {iD:Bool} {iE iF la:List AV} {H:Hp} {R0:List Rs} (fc:bR=bg.length) (h0:Inn H (Rs.ow iD ⟨cB,bR,cC⟩ (ae .i64).z iE la iF :: R0) λR=>CR (ae .i64) H R la bg) {r:List Int} (hp:cO.p F aa af bg aj bW=some r):∃ v H',cO.tw F aa af ⟨cB,bR,cC⟩ aj bW H=some (v,H')/\cO.Q H (Rs.ow iD ⟨cB,bR,cC⟩ (ae .i64).z iE la iF :: R0) R0 cB bR cC iD iE iF r v H':=by
 obtain ⟨w0,eC⟩:=h0
 subst fc
 unfold cO.p at hp
 unfold cO.tw cO.twX
 have s0:=w0.rf
 refine cv w0 λH1 w1 s1=>?_
 obtain ⟨w2,s2⟩:=w1.pick' [1,0] 2 rfl rfl rfl
 exact cO.l7_P F rfl ⟨w2,(s0.trans (s1.trans s2)),(eC.step (s1.trans s2))⟩ hp
def aD.Q (H0:Hp) (Ri R0:List Rs) (bC bi bE bv bj bf bw bz bS bA:Int) (cL el cz en eo:ON) (bZ dr bV dt du aa:Nat) (cM es cA et eu:Cap) (dP:List Int) (fd fP fe fQ fR aE:Bool) (ff fg fS fT fh fi fU fV fW fX:List AV) (r:Bool×List Int×List Int×List Int×List Int×List Int) (v:AV) (H':Hp):Prop:=∃ jD:List AV,∃ kH:List AV,∃ jE:List AV,∃ kI:List AV,∃ kJ:List AV,v=(.bool r.1)/\bZ=(r.2.1).length/\dr=(r.2.2.1).length/\bV=(r.2.2.2.1).length/\dt=(r.2.2.2.2.1).length/\du=(r.2.2.2.2.2).length/\Out H0 Ri H' (Rs.ow fd ⟨cL,bZ,cM⟩ (ae .i64).z ff jD fg :: Rs.ow fP ⟨el,dr,es⟩ (ae .i64).z fS kH fT :: Rs.ow fe ⟨cz,bV,cA⟩ (ae .i64).z fh jE fi :: Rs.ow fQ ⟨en,dt,et⟩ (ae .i64).z fU kI fV :: Rs.ow fR ⟨eo,du,eu⟩ (ae .i64).z fW kJ fX :: Rs.blk aa [.i bC,.i bi,.sl ⟨cL,bZ,cM⟩,.i bE,.i bv,.sl ⟨el,dr,es⟩,.i bj,.i bf,.sl ⟨cz,bV,cA⟩,.i bw,.i bz,.sl ⟨en,dt,et⟩,.i bS,.i bA,.sl ⟨eo,du,eu⟩,.bool aE] :: R0) λR=>CR (ae .i64) H' R jD (r.2.1)/\CR (ae .i64) H' R kH (r.2.2.1)/\CR (ae .i64) H' R jE (r.2.2.2.1)/\CR (ae .i64) H' R kI (r.2.2.2.2.1)/\CR (ae .i64) H' R kJ (r.2.2.2.2.2)
def aD.S29 (H0:Hp) (Ri R0:List Rs) (aB ar aH av aw au ay az aM aA:Int) (a_ bK aP bL bM:ON) (aL bl aI bm bo aG:Nat) (bc bN aQ bO bP:Cap) (cw:List Int) (ca cb ce cf cg bT:Bool) (ch ci cj ck cl cn co cp cq ct:List AV) (C:Nat->Nat->Int->Int->Int->Int->Hp->OA) (pC:Int->Int->List Int->Int->List Int->Int->Int->List Int->Int->Int->List Int->Int->List Int->Int->Int->Int->Int->Option (Bool×List Int×List Int×List Int×List Int×List Int)):Prop:=∀ {aN aR aO aU aV:List Int} {cX cY cZ c_ da:List AV} {eH eQ lZ l_:Int},∀ {H:Hp},aL=aN.length->bl=aR.length->aI=aO.length->bm=aU.length->bo=aV.length->(Out H0 Ri H (Rs.ow ca ⟨a_,aL,bc⟩ (ae .i64).z ch cX ci :: Rs.ow cb ⟨bK,bl,bN⟩ (ae .i64).z cj cY ck :: Rs.ow ce ⟨aP,aI,aQ⟩ (ae .i64).z cl cZ cn :: Rs.ow cf ⟨bL,bm,bO⟩ (ae .i64).z co c_ cp :: Rs.ow cg ⟨bM,bo,bP⟩ (ae .i64).z cq da ct :: Rs.blk aG [.i aB,.i ar,.sl ⟨a_,aL,bc⟩,.i aH,.i av,.sl ⟨bK,bl,bN⟩,.i aw,.i au,.sl ⟨aP,aI,aQ⟩,.i ay,.i az,.sl ⟨bL,bm,bO⟩,.i aM,.i aA,.sl ⟨bM,bo,bP⟩,.bool bT] :: R0) λR=>CR (ae .i64) H R cX aN/\CR (ae .i64) H R cY aR/\CR (ae .i64) H R cZ aO/\CR (ae .i64) H R c_ aU/\CR (ae .i64) H R da aV)->∀ {r:Bool×List Int×List Int×List Int×List Int×List Int},pC aB ar aN av aR aw au aO ay az aU aA aV eH eQ lZ l_=some r->∃ v H',C aG 0 eH eQ lZ l_ H=some (v,H')/\aD.Q H0 Ri R0 aB ar aH av aw au ay az aM aA a_ bK aP bL bM aL bl aI bm bo aG bc bN aQ bO bP cw ca cb ce cf cg bT ch ci cj ck cl cn co cp cq ct r v H'
def aD.S469 (H0:Hp) (Ri R0:List Rs) (aB ar aH av aw au ay az aM aA:Int) (a_ bK aP bL bM:ON) (aL bl aI bm bo aG:Nat) (bc bN aQ bO bP:Cap) (cw:List Int) (ca cb ce cf cg bT:Bool) (ch ci cj ck cl cn co cp cq ct:List AV) (C:Nat->Nat->Int->Int->Int->Int->Int->Hp->OA) (pC:Int->Int->List Int->Int->List Int->Int->Int->List Int->Int->Int->List Int->Int->List Int->Int->Int->Int->Int->Int->Option (Bool×List Int×List Int×List Int×List Int×List Int)):Prop:=∀ {aN aR aO aU aV:List Int} {cX cY cZ c_ da:List AV} {jO jP ko iK iL:Int},∀ {H:Hp},aL=aN.length->bl=aR.length->aI=aO.length->bm=aU.length->bo=aV.length->(Out H0 Ri H (Rs.ow ca ⟨a_,aL,bc⟩ (ae .i64).z ch cX ci :: Rs.ow cb ⟨bK,bl,bN⟩ (ae .i64).z cj cY ck :: Rs.ow ce ⟨aP,aI,aQ⟩ (ae .i64).z cl cZ cn :: Rs.ow cf ⟨bL,bm,bO⟩ (ae .i64).z co c_ cp :: Rs.ow cg ⟨bM,bo,bP⟩ (ae .i64).z cq da ct :: Rs.blk aG [.i aB,.i ar,.sl ⟨a_,aL,bc⟩,.i aH,.i av,.sl ⟨bK,bl,bN⟩,.i aw,.i au,.sl ⟨aP,aI,aQ⟩,.i ay,.i az,.sl ⟨bL,bm,bO⟩,.i aM,.i aA,.sl ⟨bM,bo,bP⟩,.bool bT] :: R0) λR=>CR (ae .i64) H R cX aN/\CR (ae .i64) H R cY aR/\CR (ae .i64) H R cZ aO/\CR (ae .i64) H R c_ aU/\CR (ae .i64) H R da aV)->∀ {r:Bool×List Int×List Int×List Int×List Int×List Int},pC aB ar aN av aR aw au aO ay az aU aA aV jO jP ko iK iL=some r->∃ v H',C aG 0 jO jP ko iK iL H=some (v,H')/\aD.Q H0 Ri R0 aB ar aH av aw au ay az aM aA a_ bK aP bL bM aL bl aI bm bo aG bc bN aQ bO bP cw ca cb ce cf cg bT ch ci cj ck cl cn co cp cq ct r v H'
def aD.pj10 (F:Nat) (jm:Int->Int->List Int->Int->List Int->Int->Int->List Int->Int->Int->List Int->Int->List Int->Int->Int->Int->Int->Int->Option (Bool×List Int×List Int×List Int×List Int×List Int)) (aB:Int) (ar:Int) (aN:List Int) (av:Int) (aR:List Int) (aw:Int) (au:Int) (aO:List Int) (ay:Int) (az:Int) (aU:List Int) (aA:Int) (aV:List Int) (tu:Int) (tv:Int) (tz:Int) (tA:Int) (tB:Int):Option (Bool×List Int×List Int×List Int×List Int×List Int):=jm aB ar aN av aR aw au aO ay az aU aA aV tu tv tz tA (IntKind.i64.wrap (tB+1))
theorem aD.j10_P {F:Nat} {H0:Hp} {Ri R0:List Rs} {aB ar aH av aw au ay az aM aA:Int} {a_ bK aP bL bM:ON} {aL bl aI bm bo aG:Nat} {bc bN aQ bO bP:Cap} {cw:List Int} {ca cb ce cf cg bT:Bool} {ch ci cj ck cl cn co cp cq ct:List AV} {C469_:Nat->Nat->Int->Int->Int->Int->Int->Hp->OA} {jm:Int->Int->List Int->Int->List Int->Int->Int->List Int->Int->Int->List Int->Int->List Int->Int->Int->Int->Int->Int->Option (Bool×List Int×List Int×List Int×List Int×List Int)} (hC469:aD.S469 H0 Ri R0 aB ar aH av aw au ay az aM aA a_ bK aP bL bM aL bl aI bm bo aG bc bN aQ bO bP cw ca cb ce cf cg bT ch ci cj ck cl cn co cp cq ct C469_ jm) {aN aR aO aU aV:List Int} {cX cY cZ c_ da:List AV} {tu tv tz tA tB:Int} {H:Hp} (fj:aL=aN.length) (fk:bl=aR.length) (fl:aI=aO.length) (fm:bm=aU.length) (fo:bo=aV.length) (h0:Out H0 Ri H (Rs.ow ca ⟨a_,aL,bc⟩ (ae .i64).z ch cX ci :: Rs.ow cb ⟨bK,bl,bN⟩ (ae .i64).z cj cY ck :: Rs.ow ce ⟨aP,aI,aQ⟩ (ae .i64).z cl cZ cn :: Rs.ow cf ⟨bL,bm,bO⟩ (ae .i64).z co c_ cp :: Rs.ow cg ⟨bM,bo,bP⟩ (ae .i64).z cq da ct :: Rs.blk aG [.i aB,.i ar,.sl ⟨a_,aL,bc⟩,.i aH,.i av,.sl ⟨bK,bl,bN⟩,.i aw,.i au,.sl ⟨aP,aI,aQ⟩,.i ay,.i az,.sl ⟨bL,bm,bO⟩,.i aM,.i aA,.sl ⟨bM,bo,bP⟩,.bool bT] :: R0) λR=>CR (ae .i64) H R cX aN/\CR (ae .i64) H R cY aR/\CR (ae .i64) H R cZ aO/\CR (ae .i64) H R c_ aU/\CR (ae .i64) H R da aV) {r:Bool×List Int×List Int×List Int×List Int×List Int} (hp:aD.pj10 F jm aB ar aN av aR aw au aO ay az aU aA aV tu tv tz tA tB=some r):∃ v H',aD.j10 F (bh.tw F) (dR.tw F) (cN.tw F) (cO.tw F) C469_ aG 0 tu tv tz tA tB H=some (v,H')/\aD.Q H0 Ri R0 aB ar aH av aw au ay az aM aA a_ bK aP bL bM aL bl aI bm bo aG bc bN aQ bO bP cw ca cb ce cf cg bT ch ci cj ck cl cn co cp cq ct r v H':=by
 obtain ⟨w0,s0,db,dB,dj,dF,dG⟩:=h0
 subst fj
 subst fk
 subst fl
 subst fm
 subst fo
 unfold aD.pj10 at hp
 unfold aD.j10
 exact hC469 rfl rfl rfl rfl rfl ⟨w0,s0,db,dB,dj,dF,dG⟩ hp
def aD.pj8 (F:Nat) (cW:Int->Int->List Int->Int->List Int->Int->Int->List Int->Int->Int->List Int->Int->List Int->Int->Int->Int->Int->Option (Bool×List Int×List Int×List Int×List Int×List Int)) (aB:Int) (ar:Int) (aN:List Int) (av:Int) (aR:List Int) (aw:Int) (au:Int) (aO:List Int) (ay:Int) (az:Int) (aU:List Int) (aA:Int) (aV:List Int) (th:Int) (ti:Int) (tj:Int) (tl:Int):Option (Bool×List Int×List Int×List Int×List Int×List Int):=cW aB ar aN av aR aw au aO ay az aU aA aV th ti tj (IntKind.i64.wrap (tl+1))
theorem aD.j8_P {F:Nat} {H0:Hp} {Ri R0:List Rs} {aB ar aH av aw au ay az aM aA:Int} {a_ bK aP bL bM:ON} {aL bl aI bm bo aG:Nat} {bc bN aQ bO bP:Cap} {cw:List Int} {ca cb ce cf cg bT:Bool} {ch ci cj ck cl cn co cp cq ct:List AV} {C29_:Nat->Nat->Int->Int->Int->Int->Hp->OA} {cW:Int->Int->List Int->Int->List Int->Int->Int->List Int->Int->Int->List Int->Int->List Int->Int->Int->Int->Int->Option (Bool×List Int×List Int×List Int×List Int×List Int)} (hC29:aD.S29 H0 Ri R0 aB ar aH av aw au ay az aM aA a_ bK aP bL bM aL bl aI bm bo aG bc bN aQ bO bP cw ca cb ce cf cg bT ch ci cj ck cl cn co cp cq ct C29_ cW) {aN aR aO aU aV:List Int} {cX cY cZ c_ da:List AV} {th ti tj tl:Int} {H:Hp} (fj:aL=aN.length) (fk:bl=aR.length) (fl:aI=aO.length) (fm:bm=aU.length) (fo:bo=aV.length) (h0:Out H0 Ri H (Rs.ow ca ⟨a_,aL,bc⟩ (ae .i64).z ch cX ci :: Rs.ow cb ⟨bK,bl,bN⟩ (ae .i64).z cj cY ck :: Rs.ow ce ⟨aP,aI,aQ⟩ (ae .i64).z cl cZ cn :: Rs.ow cf ⟨bL,bm,bO⟩ (ae .i64).z co c_ cp :: Rs.ow cg ⟨bM,bo,bP⟩ (ae .i64).z cq da ct :: Rs.blk aG [.i aB,.i ar,.sl ⟨a_,aL,bc⟩,.i aH,.i av,.sl ⟨bK,bl,bN⟩,.i aw,.i au,.sl ⟨aP,aI,aQ⟩,.i ay,.i az,.sl ⟨bL,bm,bO⟩,.i aM,.i aA,.sl ⟨bM,bo,bP⟩,.bool bT] :: R0) λR=>CR (ae .i64) H R cX aN/\CR (ae .i64) H R cY aR/\CR (ae .i64) H R cZ aO/\CR (ae .i64) H R c_ aU/\CR (ae .i64) H R da aV) {r:Bool×List Int×List Int×List Int×List Int×List Int} (hp:aD.pj8 F cW aB ar aN av aR aw au aO ay az aU aA aV th ti tj tl=some r):∃ v H',aD.j8 F (bh.tw F) (dR.tw F) (cN.tw F) (cO.tw F) C29_ aG 0 th ti tj tl H=some (v,H')/\aD.Q H0 Ri R0 aB ar aH av aw au ay az aM aA a_ bK aP bL bM aL bl aI bm bo aG bc bN aQ bO bP cw ca cb ce cf cg bT ch ci cj ck cl cn co cp cq ct r v H':=by
 obtain ⟨w0,s0,db,dB,dj,dF,dG⟩:=h0
 subst fj
 subst fk
 subst fl
 subst fm
 subst fo
 unfold aD.pj8 at hp
 unfold aD.j8
 exact hC29 rfl rfl rfl rfl rfl ⟨w0,s0,db,dB,dj,dF,dG⟩ hp
def aD.pj9 (F:Nat) (cW:Int->Int->List Int->Int->List Int->Int->Int->List Int->Int->Int->List Int->Int->List Int->Int->Int->Int->Int->Option (Bool×List Int×List Int×List Int×List Int×List Int)) (aB:Int) (ar:Int) (aN:List Int) (av:Int) (aR:List Int) (aw:Int) (au:Int) (aO:List Int) (ay:Int) (az:Int) (aU:List Int) (aA:Int) (aV:List Int) (tn:Int) (tp:Int) (tq:Int) (tt:Int):Option (Bool×List Int×List Int×List Int×List Int×List Int):=aD.pj8 F cW aB ar aN av aR aw au aO ay az aU aA aV tn tp tq tt
theorem aD.j9_P {F:Nat} {H0:Hp} {Ri R0:List Rs} {aB ar aH av aw au ay az aM aA:Int} {a_ bK aP bL bM:ON} {aL bl aI bm bo aG:Nat} {bc bN aQ bO bP:Cap} {cw:List Int} {ca cb ce cf cg bT:Bool} {ch ci cj ck cl cn co cp cq ct:List AV} {C29_:Nat->Nat->Int->Int->Int->Int->Hp->OA} {cW:Int->Int->List Int->Int->List Int->Int->Int->List Int->Int->Int->List Int->Int->List Int->Int->Int->Int->Int->Option (Bool×List Int×List Int×List Int×List Int×List Int)} (hC29:aD.S29 H0 Ri R0 aB ar aH av aw au ay az aM aA a_ bK aP bL bM aL bl aI bm bo aG bc bN aQ bO bP cw ca cb ce cf cg bT ch ci cj ck cl cn co cp cq ct C29_ cW) {aN aR aO aU aV:List Int} {cX cY cZ c_ da:List AV} {tn tp tq tt:Int} {H:Hp} (fj:aL=aN.length) (fk:bl=aR.length) (fl:aI=aO.length) (fm:bm=aU.length) (fo:bo=aV.length) (h0:Out H0 Ri H (Rs.ow ca ⟨a_,aL,bc⟩ (ae .i64).z ch cX ci :: Rs.ow cb ⟨bK,bl,bN⟩ (ae .i64).z cj cY ck :: Rs.ow ce ⟨aP,aI,aQ⟩ (ae .i64).z cl cZ cn :: Rs.ow cf ⟨bL,bm,bO⟩ (ae .i64).z co c_ cp :: Rs.ow cg ⟨bM,bo,bP⟩ (ae .i64).z cq da ct :: Rs.blk aG [.i aB,.i ar,.sl ⟨a_,aL,bc⟩,.i aH,.i av,.sl ⟨bK,bl,bN⟩,.i aw,.i au,.sl ⟨aP,aI,aQ⟩,.i ay,.i az,.sl ⟨bL,bm,bO⟩,.i aM,.i aA,.sl ⟨bM,bo,bP⟩,.bool bT] :: R0) λR=>CR (ae .i64) H R cX aN/\CR (ae .i64) H R cY aR/\CR (ae .i64) H R cZ aO/\CR (ae .i64) H R c_ aU/\CR (ae .i64) H R da aV) {r:Bool×List Int×List Int×List Int×List Int×List Int} (hp:aD.pj9 F cW aB ar aN av aR aw au aO ay az aU aA aV tn tp tq tt=some r):∃ v H',aD.j9 F (bh.tw F) (dR.tw F) (cN.tw F) (cO.tw F) C29_ aG 0 tn tp tq tt H=some (v,H')/\aD.Q H0 Ri R0 aB ar aH av aw au ay az aM aA a_ bK aP bL bM aL bl aI bm bo aG bc bN aQ bO bP cw ca cb ce cf cg bT ch ci cj ck cl cn co cp cq ct r v H':=by
 obtain ⟨w0,s0,db,dB,dj,dF,dG⟩:=h0
 subst fj
 subst fk
 subst fl
 subst fm
 subst fo
 unfold aD.pj9 at hp
 unfold aD.j9
 exact aD.j8_P (@hC29) rfl rfl rfl rfl rfl ⟨w0,s0,db,dB,dj,dF,dG⟩ hp
def aD.pl469 (F:Nat) (cW:Int->Int->List Int->Int->List Int->Int->Int->List Int->Int->Int->List Int->Int->List Int->Int->Int->Int->Int->Option (Bool×List Int×List Int×List Int×List Int×List Int)):Nat->Int->Int->List Int->Int->List Int->Int->Int->List Int->Int->Int->List Int->Int->List Int->Int->Int->Int->Int->Int->Option (Bool×List Int×List Int×List Int×List Int×List Int)
 | 0,_,_,_,_,_,_,_,_,_,_,_,_,_,_,_,_,_,_=>none
 | k+1,aB,ar,aN,av,aR,aw,au,aO,ay,az,aU,aA,aV,jO,jP,ko,iK,iL=>(bif (decide (iL<ar)) then ((bh.p F ar aN iK iL).bind λr2=>(dR.p F r2).bind λr5=>(bif (decide (r5>0)) then ((bif (decide (jP<0)) then (aD.pl469 F cW k aB ar aN av aR aw au aO ay az aU aA aV jO iK iL iK (IntKind.i64.wrap (iL+1))) else ((bh.p F ar aN jP ko).bind λr8=>(dR.p F r8).bind λr11=>(bif (decide (r5<r11)) then (aD.pj10 F (aD.pl469 F cW k) aB ar aN av aR aw au aO ay az aU aA aV jO iK iL iK iL) else (aD.pj10 F (aD.pl469 F cW k) aB ar aN av aR aw au aO ay az aU aA aV jO jP ko iK iL))))) else (aD.pl469 F cW k aB ar aN av aR aw au aO ay az aU aA aV jO jP ko iK (IntKind.i64.wrap (iL+1))))) else (aD.pj9 F cW aB ar aN av aR aw au aO ay az aU aA aV jO jP ko iK))
termination_by structural n=>n
theorem aD.l469_P {F:Nat} {H0:Hp} {Ri R0:List Rs} {aB ar aH av aw au ay az aM aA:Int} {a_ bK aP bL bM:ON} {aL bl aI bm bo aG:Nat} {bc bN aQ bO bP:Cap} {cw:List Int} {ca cb ce cf cg bT:Bool} {ch ci cj ck cl cn co cp cq ct:List AV} {C29_:Nat->Nat->Int->Int->Int->Int->Hp->OA} {cW:Int->Int->List Int->Int->List Int->Int->Int->List Int->Int->Int->List Int->Int->List Int->Int->Int->Int->Int->Option (Bool×List Int×List Int×List Int×List Int×List Int)} (hC29:aD.S29 H0 Ri R0 aB ar aH av aw au ay az aM aA a_ bK aP bL bM aL bl aI bm bo aG bc bN aQ bO bP cw ca cb ce cf cg bT ch ci cj ck cl cn co cp cq ct C29_ cW):∀ k,aD.S469 H0 Ri R0 aB ar aH av aw au ay az aM aA a_ bK aP bL bM aL bl aI bm bo aG bc bN aQ bO bP cw ca cb ce cf cg bT ch ci cj ck cl cn co cp cq ct (aD.l469 F (bh.tw F) (dR.tw F) (cN.tw F) (cO.tw F) C29_ k) (aD.pl469 F cW k):=by
 intro k
 induction k with
 | zero=>unfold aD.S469;intros;rename_i hp;cases hp
 | succ k ih=>
  intro aN aR aO aU aV cX cY cZ c_ da jO jP ko iK iL H fj fk fl fm fo h0 r hp
  obtain ⟨w0,s0,db,dB,dj,dF,dG⟩:=h0
  subst fj
  subst fk
  subst fl
  subst fm
  subst fo
  unfold aD.pl469 at hp
  unfold aD.l469
  refine ac (ag (w0.ld (i:=5) rfl rfl)) ?_
  refine aW hp (λhp=>?_) λhp=>?_
  ·refine ac (ag (w0.ld (i:=5) rfl rfl)) ?_
   refine ac (ag (w0.ld (i:=5) rfl rfl)) ?_
   refine ac (aF (w0.ld (i:=5) rfl rfl)) ?_
   have f1:=W.borrow1 (ae .i64) w0 db
   obtain ⟨w1,s1⟩:=w0.right1
   obtain ⟨r2,e2,hp⟩:=aq hp
   refine aT (bh.P rfl ⟨w1,f1⟩ e2) ?_
   rintro _ H3 ⟨rfl,w3,s3,_⟩
   obtain ⟨w4,s4⟩:=W.frame1 w0 w3 s3
   refine ac rfl ?_
   obtain ⟨r5,e5,hp⟩:=aq hp
   refine aT (dR.P ⟨w4,trivial⟩ e5) ?_
   rintro _ H6 ⟨rfl,w6,s6,_⟩
   refine ac rfl ?_
   refine aW hp (λhp=>?_) λhp=>?_
   ·refine aW hp (λhp=>?_) λhp=>?_
    ·exact ih rfl rfl rfl rfl rfl ⟨w6,(s0.trans (s4.trans s6)),(db.step (s4.trans s6)),(dB.step (s4.trans s6)),(dj.step (s4.trans s6)),(dF.step (s4.trans s6)),(dG.step (s4.trans s6))⟩ hp
    ·refine ac (ag (w6.ld (i:=5) rfl rfl)) ?_
     refine ac (ag (w6.ld (i:=5) rfl rfl)) ?_
     refine ac (aF (w6.ld (i:=5) rfl rfl)) ?_
     have f7:=W.borrow1 (ae .i64) w6 (db.step (s4.trans s6))
     obtain ⟨w7,s7⟩:=w6.right1
     obtain ⟨r8,e8,hp⟩:=aq hp
     refine aT (bh.P rfl ⟨w7,f7⟩ e8) ?_
     rintro _ H9 ⟨rfl,w9,s9,_⟩
     obtain ⟨w10,s10⟩:=W.frame1 w6 w9 s9
     refine ac rfl ?_
     obtain ⟨r11,e11,hp⟩:=aq hp
     refine aT (dR.P ⟨w10,trivial⟩ e11) ?_
     rintro _ H12 ⟨rfl,w12,s12,_⟩
     refine ac rfl ?_
     refine aW hp (λhp=>?_) λhp=>?_
     ·exact aD.j10_P (@ih) rfl rfl rfl rfl rfl ⟨w12,(s0.trans (s4.trans (s6.trans (s10.trans s12)))),(db.step (s4.trans (s6.trans (s10.trans s12)))),(dB.step (s4.trans (s6.trans (s10.trans s12)))),(dj.step (s4.trans (s6.trans (s10.trans s12)))),(dF.step (s4.trans (s6.trans (s10.trans s12)))),(dG.step (s4.trans (s6.trans (s10.trans s12))))⟩ hp
     ·exact aD.j10_P (@ih) rfl rfl rfl rfl rfl ⟨w12,(s0.trans (s4.trans (s6.trans (s10.trans s12)))),(db.step (s4.trans (s6.trans (s10.trans s12)))),(dB.step (s4.trans (s6.trans (s10.trans s12)))),(dj.step (s4.trans (s6.trans (s10.trans s12)))),(dF.step (s4.trans (s6.trans (s10.trans s12)))),(dG.step (s4.trans (s6.trans (s10.trans s12))))⟩ hp
   ·exact ih rfl rfl rfl rfl rfl ⟨w6,(s0.trans (s4.trans s6)),(db.step (s4.trans s6)),(dB.step (s4.trans s6)),(dj.step (s4.trans s6)),(dF.step (s4.trans s6)),(dG.step (s4.trans s6))⟩ hp
  ·exact aD.j9_P (@hC29) rfl rfl rfl rfl rfl ⟨w0,s0,db,dB,dj,dF,dG⟩ hp
def aD.S65513 (H0:Hp) (Ri R0:List Rs) (aB ar aH av aw au ay az aM aA:Int) (a_ bK aP bL bM:ON) (aL bl aI bm bo aG:Nat) (bc bN aQ bO bP:Cap) (cw:List Int) (ca cb ce cf cg bT:Bool) (ch ci cj ck cl cn co cp cq ct:List AV) (C:Nat->Nat->Int->Int->Hp->OA) (pC:Int->List Int->Int->List Int->Int->List Int->List Int->List Int->Int->Int->Option (Bool×List Int×List Int×List Int×List Int×List Int)):Prop:=∀ {aN aR aO aU aV:List Int} {cX cY cZ c_ da:List AV} {kl kn:Int},∀ {H:Hp},aL=aN.length->bl=aR.length->aI=aO.length->bm=aU.length->bo=aV.length->(Out H0 Ri H (Rs.ow ca ⟨a_,aL,bc⟩ (ae .i64).z ch cX ci :: Rs.ow cb ⟨bK,bl,bN⟩ (ae .i64).z cj cY ck :: Rs.ow ce ⟨aP,aI,aQ⟩ (ae .i64).z cl cZ cn :: Rs.ow cf ⟨bL,bm,bO⟩ (ae .i64).z co c_ cp :: Rs.ow cg ⟨bM,bo,bP⟩ (ae .i64).z cq da ct :: Rs.blk aG [.i aB,.i ar,.sl ⟨a_,aL,bc⟩,.i aH,.i av,.sl ⟨bK,bl,bN⟩,.i aw,.i au,.sl ⟨aP,aI,aQ⟩,.i ay,.i az,.sl ⟨bL,bm,bO⟩,.i aM,.i aA,.sl ⟨bM,bo,bP⟩,.bool bT] :: R0) λR=>CR (ae .i64) H R cX aN/\CR (ae .i64) H R cY aR/\CR (ae .i64) H R cZ aO/\CR (ae .i64) H R c_ aU/\CR (ae .i64) H R da aV)->∀ {r:Bool×List Int×List Int×List Int×List Int×List Int},pC ar aN av aR au aO aU aV kl kn=some r->∃ v H',C aG 0 kl kn H=some (v,H')/\aD.Q H0 Ri R0 aB ar aH av aw au ay az aM aA a_ bK aP bL bM aL bl aI bm bo aG bc bN aQ bO bP cw ca cb ce cf cg bT ch ci cj ck cl cn co cp cq ct r v H'
def aD.S65515 (H0:Hp) (Ri R0:List Rs) (aB ar aH av aw au ay az aM aA:Int) (a_ bK aP bL bM:ON) (aL bl aI bm bo aG:Nat) (bc bN aQ bO bP:Cap) (cw:List Int) (ca cb ce cf cg bT:Bool) (ch ci cj ck cl cn co cp cq ct:List AV) (C:Nat->Nat->Int->Int->Hp->OA) (pC:List Int->Int->List Int->Int->List Int->List Int->List Int->Int->Int->Option (Bool×List Int×List Int×List Int×List Int×List Int)):Prop:=∀ {aN aR aO aU aV:List Int} {cX cY cZ c_ da:List AV} {jK jq:Int},∀ {H:Hp},aL=aN.length->bl=aR.length->aI=aO.length->bm=aU.length->bo=aV.length->(Out H0 Ri H (Rs.ow ca ⟨a_,aL,bc⟩ (ae .i64).z ch cX ci :: Rs.ow cb ⟨bK,bl,bN⟩ (ae .i64).z cj cY ck :: Rs.ow ce ⟨aP,aI,aQ⟩ (ae .i64).z cl cZ cn :: Rs.ow cf ⟨bL,bm,bO⟩ (ae .i64).z co c_ cp :: Rs.ow cg ⟨bM,bo,bP⟩ (ae .i64).z cq da ct :: Rs.blk aG [.i aB,.i ar,.sl ⟨a_,aL,bc⟩,.i aH,.i av,.sl ⟨bK,bl,bN⟩,.i aw,.i au,.sl ⟨aP,aI,aQ⟩,.i ay,.i az,.sl ⟨bL,bm,bO⟩,.i aM,.i aA,.sl ⟨bM,bo,bP⟩,.bool bT] :: R0) λR=>CR (ae .i64) H R cX aN/\CR (ae .i64) H R cY aR/\CR (ae .i64) H R cZ aO/\CR (ae .i64) H R c_ aU/\CR (ae .i64) H R da aV)->∀ {r:Bool×List Int×List Int×List Int×List Int×List Int},pC aN av aR au aO aU aV jK jq=some r->∃ v H',C aG 0 jK jq H=some (v,H')/\aD.Q H0 Ri R0 aB ar aH av aw au ay az aM aA a_ bK aP bL bM aL bl aI bm bo aG bc bN aQ bO bP cw ca cb ce cf cg bT ch ci cj ck cl cn co cp cq ct r v H'
def aD.pl65515 (F:Nat) :Nat->List Int->Int->List Int->Int->List Int->List Int->List Int->Int->Int->Option (Bool×List Int×List Int×List Int×List Int×List Int)
 | 0,_,_,_,_,_,_,_,_,_=>none
 | k+1,aN,av,aR,au,aO,aU,aV,jK,jq=>(bif (decide (jq<av)) then ((bh.p F av aR jK jq).bind λr3=>(ix aR (IntKind.i64.wrap ((IntKind.i64.wrap (jK * av))+jq))).bind λn7=>(some (aR.set n7 (IntKind.i64.wrap (0 - r3)))).bind λl8=>(bh.p F au aO jq jK).bind λr12=>(ix aO (IntKind.i64.wrap ((IntKind.i64.wrap (jq * au))+jK))).bind λn16=>(some (aO.set n16 (IntKind.i64.wrap (0 - r12)))).bind λl17=>aD.pl65515 F k aN av l8 au l17 aU aV jK (IntKind.i64.wrap (jq+1))) else (some (true,aN,aR,aO,aU,aV)))
termination_by structural n=>n
theorem aD.l65515_P {F:Nat} {H0:Hp} {Ri R0:List Rs} {aB ar aH av aw au ay az aM aA:Int} {a_ bK aP bL bM:ON} {aL bl aI bm bo aG:Nat} {bc bN aQ bO bP:Cap} {cw:List Int} {ca cb ce cf cg bT:Bool} {ch ci cj ck cl cn co cp cq ct:List AV} :∀ k,aD.S65515 H0 Ri R0 aB ar aH av aw au ay az aM aA a_ bK aP bL bM aL bl aI bm bo aG bc bN aQ bO bP cw ca cb ce cf cg bT ch ci cj ck cl cn co cp cq ct (aD.l65515 F (bh.tw F) (dR.tw F) (cN.tw F) (cO.tw F)  k) (aD.pl65515 F  k):=by
 intro k
 induction k with
 | zero=>unfold aD.S65515;intros;rename_i hp;cases hp
 | succ k ih=>
  intro aN aR aO aU aV cX cY cZ c_ da jK jq H fj fk fl fm fo h0 r hp
  obtain ⟨w0,s0,db,dB,dj,dF,dG⟩:=h0
  subst fj
  subst fk
  subst fl
  subst fm
  subst fo
  unfold aD.pl65515 at hp
  unfold aD.l65515
  refine ac (ag (w0.ld (i:=5) rfl rfl)) ?_
  refine aW hp (λhp=>?_) λhp=>?_
  ·refine ac (aF (w0.ld (i:=5) rfl rfl)) ?_
   refine ac (ag (w0.ld (i:=5) rfl rfl)) ?_
   refine ac (ag (w0.ld (i:=5) rfl rfl)) ?_
   refine ac (ag (w0.ld (i:=5) rfl rfl)) ?_
   refine ac (aF (w0.ld (i:=5) rfl rfl)) ?_
   obtain ⟨w1,s1⟩:=w0.pick' [1,0,2,3,4,5] 6 rfl rfl rfl
   have f2:=W.borrow1 (ae .i64) w1 (dB.step s1)
   obtain ⟨w2,s2⟩:=w1.right1
   obtain ⟨r3,e3,hp⟩:=aq hp
   refine aT (bh.P rfl ⟨w2,f2⟩ e3) ?_
   rintro _ H4 ⟨rfl,w4,s4,_⟩
   obtain ⟨w5,s5⟩:=W.frame1 w1 w4 s4
   refine ac rfl ?_
   refine eZ (bt.tr (bt.refl _) s1 (W.cons_of (Rn:=[]) w2 w4 s4)) ?_
   obtain ⟨n7,g7,hp⟩:=aq hp
   obtain ⟨p7,q7,i7,h7,j7⟩:=W.ixo (E:=(ae .i64)) w5 (i:=0) rfl rfl (dB.step (s1.trans s5)) g7
   refine ac i7 ?_
   obtain ⟨l8,e8,hp⟩:=aq hp
   refine jj (ae .i64) w5 (i:=0) (j:=0) (p:=p7) rfl rfl (dB.step (s1.trans s5)) g7 i7 e8 rfl rfl (λ_ h=>by have h:_=[_]:=h;subst h;exact rfl) λH9 k9 w9 s9 c9=>?_
   refine ac (aF (w9.ld (i:=5) rfl rfl)) ?_
   refine ac (ag (w9.ld (i:=5) rfl rfl)) ?_
   refine ac (ag (w9.ld (i:=5) rfl rfl)) ?_
   refine ac (ag (w9.ld (i:=5) rfl rfl)) ?_
   refine ac (aF (w9.ld (i:=5) rfl rfl)) ?_
   obtain ⟨w10,s10⟩:=w9.pick' [2,0,1,3,4,5] 6 rfl rfl rfl
   dsimp only [pk,pks,nth,List.drop,List.set,List.eraseIdx] at w10 s10
   have f11:=W.borrow1 (ae .i64) w10 (dj.step (s1.trans (s5.trans (s9.trans s10))))
   obtain ⟨w11,s11⟩:=w10.right1
   obtain ⟨r12,e12,hp⟩:=aq hp
   refine aT (bh.P rfl ⟨w11,f11⟩ e12) ?_
   rintro _ H13 ⟨rfl,w13,s13,_⟩
   obtain ⟨w14,s14⟩:=W.frame1 w10 w13 s13
   refine ac rfl ?_
   refine eZ (bt.tr (bt.refl _) s10 (W.cons_of (Rn:=[]) w11 w13 s13)) ?_
   obtain ⟨n16,g16,hp⟩:=aq hp
   obtain ⟨p16,q16,i16,h16,j16⟩:=W.ixo (E:=(ae .i64)) w14 (i:=0) rfl rfl (dj.step (s1.trans (s5.trans (s9.trans (s10.trans s14))))) g16
   refine ac i16 ?_
   obtain ⟨l17,e17,hp⟩:=aq hp
   refine jj (ae .i64) w14 (i:=0) (j:=0) (p:=p16) rfl rfl (dj.step (s1.trans (s5.trans (s9.trans (s10.trans s14))))) g16 i16 e17 rfl rfl (λ_ h=>by have h:_=[_]:=h;subst h;exact rfl) λH18 k18 w18 s18 c18=>?_
   obtain ⟨w19,s19⟩:=w18.pick' [2,1,0,3,4,5] 6 rfl rfl rfl
   exact ih rfl ((gp e8).symm) ((gp e17).symm) rfl rfl ⟨w19,(s0.trans (s1.trans (s5.trans (s9.trans (s10.trans (s14.trans (s18.trans s19))))))),(db.step (s1.trans (s5.trans (s9.trans (s10.trans (s14.trans (s18.trans s19))))))),(c9.step (s10.trans (s14.trans (s18.trans s19)))),(c18.step s19),(dF.step (s1.trans (s5.trans (s9.trans (s10.trans (s14.trans (s18.trans s19))))))),(dG.step (s1.trans (s5.trans (s9.trans (s10.trans (s14.trans (s18.trans s19)))))))⟩ hp
  ·exact aS hp ⟨_,_,_,_,_,rfl,rfl,rfl,rfl,rfl,rfl,w0,s0,db,dB,dj,dF,dG⟩
def aD.pj5 (F:Nat)  (aN:List Int) (av:Int) (aR:List Int) (au:Int) (aO:List Int) (aU:List Int) (aV:List Int) (tg:Int):Option (Bool×List Int×List Int×List Int×List Int×List Int):=aD.pl65515 F F aN av aR au aO aU aV tg 0
theorem aD.j5_P {F:Nat} {H0:Hp} {Ri R0:List Rs} {aB ar aH av aw au ay az aM aA:Int} {a_ bK aP bL bM:ON} {aL bl aI bm bo aG:Nat} {bc bN aQ bO bP:Cap} {cw:List Int} {ca cb ce cf cg bT:Bool} {ch ci cj ck cl cn co cp cq ct:List AV}  {aN aR aO aU aV:List Int} {cX cY cZ c_ da:List AV} {tg:Int} {H:Hp} (fj:aL=aN.length) (fk:bl=aR.length) (fl:aI=aO.length) (fm:bm=aU.length) (fo:bo=aV.length) (h0:Out H0 Ri H (Rs.ow ca ⟨a_,aL,bc⟩ (ae .i64).z ch cX ci :: Rs.ow cb ⟨bK,bl,bN⟩ (ae .i64).z cj cY ck :: Rs.ow ce ⟨aP,aI,aQ⟩ (ae .i64).z cl cZ cn :: Rs.ow cf ⟨bL,bm,bO⟩ (ae .i64).z co c_ cp :: Rs.ow cg ⟨bM,bo,bP⟩ (ae .i64).z cq da ct :: Rs.blk aG [.i aB,.i ar,.sl ⟨a_,aL,bc⟩,.i aH,.i av,.sl ⟨bK,bl,bN⟩,.i aw,.i au,.sl ⟨aP,aI,aQ⟩,.i ay,.i az,.sl ⟨bL,bm,bO⟩,.i aM,.i aA,.sl ⟨bM,bo,bP⟩,.bool bT] :: R0) λR=>CR (ae .i64) H R cX aN/\CR (ae .i64) H R cY aR/\CR (ae .i64) H R cZ aO/\CR (ae .i64) H R c_ aU/\CR (ae .i64) H R da aV) {r:Bool×List Int×List Int×List Int×List Int×List Int} (hp:aD.pj5 F  aN av aR au aO aU aV tg=some r):∃ v H',aD.j5 F (bh.tw F) (dR.tw F) (cN.tw F) (cO.tw F)  aG 0 tg H=some (v,H')/\aD.Q H0 Ri R0 aB ar aH av aw au ay az aM aA a_ bK aP bL bM aL bl aI bm bo aG bc bN aQ bO bP cw ca cb ce cf cg bT ch ci cj ck cl cn co cp cq ct r v H':=by
 obtain ⟨w0,s0,db,dB,dj,dF,dG⟩:=h0
 subst fj
 subst fk
 subst fl
 subst fm
 subst fo
 unfold aD.pj5 at hp
 unfold aD.j5
 exact aD.l65515_P F rfl rfl rfl rfl rfl ⟨w0,s0,db,dB,dj,dF,dG⟩ hp
def aD.pl65513 (F:Nat) :Nat->Int->List Int->Int->List Int->Int->List Int->List Int->List Int->Int->Int->Option (Bool×List Int×List Int×List Int×List Int×List Int)
 | 0,_,_,_,_,_,_,_,_,_,_=>none
 | k+1,ar,aN,av,aR,au,aO,aU,aV,kl,kn=>(bif (decide (kn<ar)) then ((bh.p F ar aN kl kn).bind λr2=>(ix aN (IntKind.i64.wrap ((IntKind.i64.wrap (kl * ar))+kn))).bind λn6=>(some (aN.set n6 (IntKind.i64.wrap (0 - r2)))).bind λl7=>aD.pl65513 F k ar l7 av aR au aO aU aV kl (IntKind.i64.wrap (kn+1))) else (aD.pj5 F aN av aR au aO aU aV kl))
termination_by structural n=>n
theorem aD.l65513_P {F:Nat} {H0:Hp} {Ri R0:List Rs} {aB ar aH av aw au ay az aM aA:Int} {a_ bK aP bL bM:ON} {aL bl aI bm bo aG:Nat} {bc bN aQ bO bP:Cap} {cw:List Int} {ca cb ce cf cg bT:Bool} {ch ci cj ck cl cn co cp cq ct:List AV} :∀ k,aD.S65513 H0 Ri R0 aB ar aH av aw au ay az aM aA a_ bK aP bL bM aL bl aI bm bo aG bc bN aQ bO bP cw ca cb ce cf cg bT ch ci cj ck cl cn co cp cq ct (aD.l65513 F (bh.tw F) (dR.tw F) (cN.tw F) (cO.tw F)  k) (aD.pl65513 F  k):=by
 intro k
 induction k with
 | zero=>unfold aD.S65513;intros;rename_i hp;cases hp
 | succ k ih=>
  intro aN aR aO aU aV cX cY cZ c_ da kl kn H fj fk fl fm fo h0 r hp
  obtain ⟨w0,s0,db,dB,dj,dF,dG⟩:=h0
  subst fj
  subst fk
  subst fl
  subst fm
  subst fo
  unfold aD.pl65513 at hp
  unfold aD.l65513
  refine ac (ag (w0.ld (i:=5) rfl rfl)) ?_
  refine aW hp (λhp=>?_) λhp=>?_
  ·refine ac (aF (w0.ld (i:=5) rfl rfl)) ?_
   refine ac (ag (w0.ld (i:=5) rfl rfl)) ?_
   refine ac (ag (w0.ld (i:=5) rfl rfl)) ?_
   refine ac (ag (w0.ld (i:=5) rfl rfl)) ?_
   refine ac (aF (w0.ld (i:=5) rfl rfl)) ?_
   have f1:=W.borrow1 (ae .i64) w0 db
   obtain ⟨w1,s1⟩:=w0.right1
   obtain ⟨r2,e2,hp⟩:=aq hp
   refine aT (bh.P rfl ⟨w1,f1⟩ e2) ?_
   rintro _ H3 ⟨rfl,w3,s3,_⟩
   obtain ⟨w4,s4⟩:=W.frame1 w0 w3 s3
   refine ac rfl ?_
   refine eZ (W.cons_of (Rn:=[]) w1 w3 s3) ?_
   obtain ⟨n6,g6,hp⟩:=aq hp
   obtain ⟨p6,q6,i6,h6,j6⟩:=W.ixo (E:=(ae .i64)) w4 (i:=0) rfl rfl (db.step s4) g6
   refine ac i6 ?_
   obtain ⟨l7,e7,hp⟩:=aq hp
   refine jj (ae .i64) w4 (i:=0) (j:=0) (p:=p6) rfl rfl (db.step s4) g6 i6 e7 rfl rfl (λ_ h=>by have h:_=[_]:=h;subst h;exact rfl) λH8 k8 w8 s8 c8=>?_
   exact ih ((gp e7).symm) rfl rfl rfl rfl ⟨w8,(s0.trans (s4.trans s8)),c8,(dB.step (s4.trans s8)),(dj.step (s4.trans s8)),(dF.step (s4.trans s8)),(dG.step (s4.trans s8))⟩ hp
  ·exact aD.j5_P rfl rfl rfl rfl rfl ⟨w0,s0,db,dB,dj,dF,dG⟩ hp
def aD.pj6 (F:Nat)  (aB:Int) (ar:Int) (aN:List Int) (av:Int) (aR:List Int) (aw:Int) (au:Int) (aO:List Int) (ay:Int) (az:Int) (aU:List Int) (aA:Int) (aV:List Int) (jN:Int) (od:Int) (pb:Int):Option (Bool×List Int×List Int×List Int×List Int×List Int):=(bif (decide (od<0)) then (some (false,aN,aR,aO,aU,aV)) else ((cN.p F ar aN od jN).bind λr1=>(cN.p F av aR od jN).bind λr4=>(cO.p F aw au aO od jN).bind λr7=>(cO.p F aB ar r1 pb jN).bind λr10=>(cO.p F ay az aU pb jN).bind λr13=>(cN.p F aA aV pb jN).bind λr16=>(bh.p F ar r10 jN jN).bind λr20=>(bif (decide (r20<0)) then (aD.pl65513 F F ar r10 av r4 au r7 r13 r16 jN 0) else (some (true,r10,r4,r7,r13,r16)))))
theorem aD.j6_P {F:Nat} {H0:Hp} {Ri R0:List Rs} {aB ar aH av aw au ay az aM aA:Int} {a_ bK aP bL bM:ON} {aL bl aI bm bo aG:Nat} {bc bN aQ bO bP:Cap} {cw:List Int} {ca cb ce cf cg bT:Bool} {ch ci cj ck cl cn co cp cq ct:List AV}  {aN aR aO aU aV:List Int} {cX cY cZ c_ da:List AV} {jN od pb:Int} {H:Hp} (fj:aL=aN.length) (fk:bl=aR.length) (fl:aI=aO.length) (fm:bm=aU.length) (fo:bo=aV.length) (h0:Out H0 Ri H (Rs.ow ca ⟨a_,aL,bc⟩ (ae .i64).z ch cX ci :: Rs.ow cb ⟨bK,bl,bN⟩ (ae .i64).z cj cY ck :: Rs.ow ce ⟨aP,aI,aQ⟩ (ae .i64).z cl cZ cn :: Rs.ow cf ⟨bL,bm,bO⟩ (ae .i64).z co c_ cp :: Rs.ow cg ⟨bM,bo,bP⟩ (ae .i64).z cq da ct :: Rs.blk aG [.i aB,.i ar,.sl ⟨a_,aL,bc⟩,.i aH,.i av,.sl ⟨bK,bl,bN⟩,.i aw,.i au,.sl ⟨aP,aI,aQ⟩,.i ay,.i az,.sl ⟨bL,bm,bO⟩,.i aM,.i aA,.sl ⟨bM,bo,bP⟩,.bool bT] :: R0) λR=>CR (ae .i64) H R cX aN/\CR (ae .i64) H R cY aR/\CR (ae .i64) H R cZ aO/\CR (ae .i64) H R c_ aU/\CR (ae .i64) H R da aV) {r:Bool×List Int×List Int×List Int×List Int×List Int} (hp:aD.pj6 F  aB ar aN av aR aw au aO ay az aU aA aV jN od pb=some r):∃ v H',aD.j6 F (bh.tw F) (dR.tw F) (cN.tw F) (cO.tw F)  aG 0 jN od pb H=some (v,H')/\aD.Q H0 Ri R0 aB ar aH av aw au ay az aM aA a_ bK aP bL bM aL bl aI bm bo aG bc bN aQ bO bP cw ca cb ce cf cg bT ch ci cj ck cl cn co cp cq ct r v H':=by
 obtain ⟨w0,s0,db,dB,dj,dF,dG⟩:=h0
 subst fj
 subst fk
 subst fl
 subst fm
 subst fo
 unfold aD.pj6 at hp
 unfold aD.j6
 refine aW hp (λhp=>?_) λhp=>?_
 ·exact aS hp ⟨_,_,_,_,_,rfl,rfl,rfl,rfl,rfl,rfl,w0,s0,db,dB,dj,dF,dG⟩
 ·refine ac (ag (w0.ld (i:=5) rfl rfl)) ?_
  refine ac (ag (w0.ld (i:=5) rfl rfl)) ?_
  refine ac (aF (w0.ld (i:=5) rfl rfl)) ?_
  obtain ⟨r1,e1,hp⟩:=aq hp
  refine aT (cN.P rfl ⟨w0,db⟩ e1) ?_
  rintro _ H2 ⟨Vu,rfl,hl2_0,w2,s2,f2_0⟩
  refine ac (ag (w2.ld (i:=5) rfl rfl)) ?_
  refine ac (ag (w2.ld (i:=5) rfl rfl)) ?_
  refine ac (aF (w2.ld (i:=5) rfl rfl)) ?_
  obtain ⟨w3,s3⟩:=w2.pick' [1,0,2,3,4,5] 6 rfl rfl rfl
  obtain ⟨r4,e4,hp⟩:=aq hp
  refine aT (cN.P rfl ⟨w3,(dB.step (s2.trans s3))⟩ e4) ?_
  rintro _ H5 ⟨Vv,rfl,hl5_0,w5,s5,f5_0⟩
  refine ac (ag (w5.ld (i:=5) rfl rfl)) ?_
  refine ac (ag (w5.ld (i:=5) rfl rfl)) ?_
  refine ac (aF (w5.ld (i:=5) rfl rfl)) ?_
  obtain ⟨w6,s6⟩:=w5.pick' [2,0,1,3,4,5] 6 rfl rfl rfl
  obtain ⟨r7,e7,hp⟩:=aq hp
  refine aT (cO.P rfl ⟨w6,(dj.step (s2.trans (s3.trans (s5.trans s6))))⟩ e7) ?_
  rintro _ H8 ⟨Qc,rfl,hl8_0,w8,s8,f8_0⟩
  refine ac (ag (w8.ld (i:=5) rfl rfl)) ?_
  refine ac (ag (w8.ld (i:=5) rfl rfl)) ?_
  refine ac (aF (w8.ld (i:=5) rfl rfl)) ?_
  obtain ⟨w9,s9⟩:=w8.pick' [2,0,1,3,4,5] 6 rfl rfl rfl
  dsimp only [pk,pks,nth,List.drop,List.set,List.eraseIdx] at w9 s9
  obtain ⟨r10,e10,hp⟩:=aq hp
  refine aT (cO.P hl2_0 ⟨w9,(f2_0.step (s3.trans (s5.trans (s6.trans (s8.trans s9)))))⟩ e10) ?_
  rintro _ H11 ⟨Qd,rfl,hl11_0,w11,s11,f11_0⟩
  refine ac (ag (w11.ld (i:=5) rfl rfl)) ?_
  refine ac (ag (w11.ld (i:=5) rfl rfl)) ?_
  refine ac (aF (w11.ld (i:=5) rfl rfl)) ?_
  obtain ⟨w12,s12⟩:=w11.pick' [3,0,1,2,4,5] 6 rfl rfl rfl
  obtain ⟨r13,e13,hp⟩:=aq hp
  refine aT (cO.P rfl ⟨w12,(dF.step (s2.trans (s3.trans (s5.trans (s6.trans (s8.trans (s9.trans (s11.trans s12))))))))⟩ e13) ?_
  rintro _ H14 ⟨Qe,rfl,hl14_0,w14,s14,f14_0⟩
  refine ac (ag (w14.ld (i:=5) rfl rfl)) ?_
  refine ac (ag (w14.ld (i:=5) rfl rfl)) ?_
  refine ac (aF (w14.ld (i:=5) rfl rfl)) ?_
  obtain ⟨w15,s15⟩:=w14.pick' [4,0,1,2,3,5] 6 rfl rfl rfl
  obtain ⟨r16,e16,hp⟩:=aq hp
  refine aT (cN.P rfl ⟨w15,(dG.step (s2.trans (s3.trans (s5.trans (s6.trans (s8.trans (s9.trans (s11.trans (s12.trans (s14.trans s15))))))))))⟩ e16) ?_
  rintro _ H17 ⟨Qf,rfl,hl17_0,w17,s17,f17_0⟩
  refine ac (ag (w17.ld (i:=5) rfl rfl)) ?_
  refine ac (ag (w17.ld (i:=5) rfl rfl)) ?_
  refine ac (aF (w17.ld (i:=5) rfl rfl)) ?_
  obtain ⟨w18,s18⟩:=w17.pick' [2,0,1,3,4,5] 6 rfl rfl rfl
  dsimp only [pk,pks,nth,List.drop,List.set,List.eraseIdx] at w18 s18
  have f19:=W.borrow1 (ae .i64) w18 (f11_0.step (s12.trans (s14.trans (s15.trans (s17.trans s18)))))
  obtain ⟨w19,s19⟩:=w18.right1
  obtain ⟨r20,e20,hp⟩:=aq hp
  refine aT (bh.P hl11_0 ⟨w19,f19⟩ e20) ?_
  rintro _ H21 ⟨rfl,w21,s21,_⟩
  obtain ⟨w22,s22⟩:=W.frame1 w18 w21 s21
  refine ac rfl ?_
  refine aW hp (λhp=>?_) λhp=>?_
  ·obtain ⟨w23,s23⟩:=w22.pick' [0,4,3,2,1,5] 6 rfl rfl rfl
   exact aD.l65513_P F hl11_0 hl5_0 hl8_0 hl14_0 hl17_0 ⟨w23,(s0.trans (s2.trans (s3.trans (s5.trans (s6.trans (s8.trans (s9.trans (s11.trans (s12.trans (s14.trans (s15.trans (s17.trans (s18.trans (s22.trans s23)))))))))))))),(f11_0.step (s12.trans (s14.trans (s15.trans (s17.trans (s18.trans (s22.trans s23))))))),(f5_0.step (s6.trans (s8.trans (s9.trans (s11.trans (s12.trans (s14.trans (s15.trans (s17.trans (s18.trans (s22.trans s23))))))))))),(f8_0.step (s9.trans (s11.trans (s12.trans (s14.trans (s15.trans (s17.trans (s18.trans (s22.trans s23))))))))),(f14_0.step (s15.trans (s17.trans (s18.trans (s22.trans s23))))),(f17_0.step (s18.trans (s22.trans s23)))⟩ hp
  ·obtain ⟨w24,s24⟩:=w22.pick' [0,4,3,2,1,5] 6 rfl rfl rfl
   exact aS hp ⟨_,_,_,_,_,rfl,hl11_0,hl5_0,hl8_0,hl14_0,hl17_0,w24,(s0.trans (s2.trans (s3.trans (s5.trans (s6.trans (s8.trans (s9.trans (s11.trans (s12.trans (s14.trans (s15.trans (s17.trans (s18.trans (s22.trans s24)))))))))))))),(f11_0.step (s12.trans (s14.trans (s15.trans (s17.trans (s18.trans (s22.trans s24))))))),(f5_0.step (s6.trans (s8.trans (s9.trans (s11.trans (s12.trans (s14.trans (s15.trans (s17.trans (s18.trans (s22.trans s24))))))))))),(f8_0.step (s9.trans (s11.trans (s12.trans (s14.trans (s15.trans (s17.trans (s18.trans (s22.trans s24))))))))),(f14_0.step (s15.trans (s17.trans (s18.trans (s22.trans s24))))),(f17_0.step (s18.trans (s22.trans s24)))⟩
def aD.pl29 (F:Nat) :Nat->Int->Int->List Int->Int->List Int->Int->Int->List Int->Int->Int->List Int->Int->List Int->Int->Int->Int->Int->Option (Bool×List Int×List Int×List Int×List Int×List Int)
 | 0,_,_,_,_,_,_,_,_,_,_,_,_,_,_,_,_,_=>none
 | k+1,aB,ar,aN,av,aR,aw,au,aO,ay,az,aU,aA,aV,eH,eQ,lZ,l_=>(bif (decide (l_<aB)) then (aD.pl469 F (aD.pl29 F k) F aB ar aN av aR aw au aO ay az aU aA aV eH eQ lZ l_ eH) else (aD.pj6 F aB ar aN av aR aw au aO ay az aU aA aV eH eQ lZ))
termination_by structural n=>n
theorem aD.l29_P {F:Nat} {H0:Hp} {Ri R0:List Rs} {aB ar aH av aw au ay az aM aA:Int} {a_ bK aP bL bM:ON} {aL bl aI bm bo aG:Nat} {bc bN aQ bO bP:Cap} {cw:List Int} {ca cb ce cf cg bT:Bool} {ch ci cj ck cl cn co cp cq ct:List AV} :∀ k,aD.S29 H0 Ri R0 aB ar aH av aw au ay az aM aA a_ bK aP bL bM aL bl aI bm bo aG bc bN aQ bO bP cw ca cb ce cf cg bT ch ci cj ck cl cn co cp cq ct (aD.l29 F (bh.tw F) (dR.tw F) (cN.tw F) (cO.tw F)  k) (aD.pl29 F  k):=by
 intro k
 induction k with
 | zero=>unfold aD.S29;intros;rename_i hp;cases hp
 | succ k ih=>
  intro aN aR aO aU aV cX cY cZ c_ da eH eQ lZ l_ H fj fk fl fm fo h0 r hp
  obtain ⟨w0,s0,db,dB,dj,dF,dG⟩:=h0
  subst fj
  subst fk
  subst fl
  subst fm
  subst fo
  unfold aD.pl29 at hp
  unfold aD.l29
  refine ac (ag (w0.ld (i:=5) rfl rfl)) ?_
  refine aW hp (λhp=>?_) λhp=>?_
  ·exact aD.l469_P (@ih) F rfl rfl rfl rfl rfl ⟨w0,s0,db,dB,dj,dF,dG⟩ hp
  ·exact aD.j6_P rfl rfl rfl rfl rfl ⟨w0,s0,db,dB,dj,dF,dG⟩ hp
def aD.p (F:Nat) (bC:Int) (bi:Int) (dP:List Int) (bv:Int) (fI:List Int) (bj:Int) (bf:Int) (dv:List Int) (bw:Int) (bz:Int) (fJ:List Int) (bA:Int) (fK:List Int) (ai:Int):Option (Bool×List Int×List Int×List Int×List Int×List Int):=aD.pl29 F F bC bi dP bv fI bj bf dv bw bz fJ bA fK ai (-1) (-1) ai
theorem aD.P {F:Nat} {bC bi bE bv bj bf bw bz bS bA ai:Int} {cL el cz en eo:ON} {bZ dr bV dt du aa:Nat} {cM es cA et eu:Cap} {dP fI dv fJ fK:List Int} {fd fP fe fQ fR aE:Bool} {ff fg ij fS fT i_ fh fi ik fU fV ja fW fX jb:List AV} {H:Hp} {R0:List Rs} (lb:bZ=dP.length) (nU:dr=fI.length) (ke:bV=dv.length) (nV:dt=fJ.length) (nW:du=fK.length) (h0:Inn H (Rs.ow fd ⟨cL,bZ,cM⟩ (ae .i64).z ff ij fg :: Rs.ow fP ⟨el,dr,es⟩ (ae .i64).z fS i_ fT :: Rs.ow fe ⟨cz,bV,cA⟩ (ae .i64).z fh ik fi :: Rs.ow fQ ⟨en,dt,et⟩ (ae .i64).z fU ja fV :: Rs.ow fR ⟨eo,du,eu⟩ (ae .i64).z fW jb fX :: Rs.blk aa [.i bC,.i bi,.sl ⟨cL,bZ,cM⟩,.i bE,.i bv,.sl ⟨el,dr,es⟩,.i bj,.i bf,.sl ⟨cz,bV,cA⟩,.i bw,.i bz,.sl ⟨en,dt,et⟩,.i bS,.i bA,.sl ⟨eo,du,eu⟩,.bool aE] :: R0) λR=>CR (ae .i64) H R ij dP/\CR (ae .i64) H R i_ fI/\CR (ae .i64) H R ik dv/\CR (ae .i64) H R ja fJ/\CR (ae .i64) H R jb fK) {r:Bool×List Int×List Int×List Int×List Int×List Int} (hp:aD.p F bC bi dP bv fI bj bf dv bw bz fJ bA fK ai=some r):∃ v H',aD.tw F aa 0 ai H=some (v,H')/\aD.Q H (Rs.ow fd ⟨cL,bZ,cM⟩ (ae .i64).z ff ij fg :: Rs.ow fP ⟨el,dr,es⟩ (ae .i64).z fS i_ fT :: Rs.ow fe ⟨cz,bV,cA⟩ (ae .i64).z fh ik fi :: Rs.ow fQ ⟨en,dt,et⟩ (ae .i64).z fU ja fV :: Rs.ow fR ⟨eo,du,eu⟩ (ae .i64).z fW jb fX :: Rs.blk aa [.i bC,.i bi,.sl ⟨cL,bZ,cM⟩,.i bE,.i bv,.sl ⟨el,dr,es⟩,.i bj,.i bf,.sl ⟨cz,bV,cA⟩,.i bw,.i bz,.sl ⟨en,dt,et⟩,.i bS,.i bA,.sl ⟨eo,du,eu⟩,.bool aE] :: R0) R0 bC bi bE bv bj bf bw bz bS bA cL el cz en eo bZ dr bV dt du aa cM es cA et eu dP fd fP fe fQ fR aE ff fg fS fT fh fi fU fV fW fX r v H':=by
 obtain ⟨w0,jY,mS,js,mT,mU⟩:=h0
 subst lb
 subst nU
 subst ke
 subst nV
 subst nW
 unfold aD.p at hp
 unfold aD.tw aD.twX
 have s0:=w0.rf
 exact aD.l29_P F rfl rfl rfl rfl rfl ⟨w0,s0,jY,mS,js,mT,mU⟩ hp
def gO.Q (H0:Hp) (Ri R0:List Rs)  (r:Int) (v:AV) (H':Hp):Prop:=v=(.i r)/\Out H0 Ri H' (R0) λR=>True
def gO.p (F:Nat) (aa:Int) (ax:Int):Option (Int):=(if ax=0 then none else ((if ax=0 then none else ((bif (decide ((Int.tmod aa ax)<0)) then (some (IntKind.i64.wrap ((IntKind.i64.wrap (Int.tdiv aa ax)) - 1))) else (some (IntKind.i64.wrap (Int.tdiv aa ax))))))))
theorem gO.P {F:Nat} {aa ax:Int} {H:Hp} {R0:List Rs}  (h0:Inn H R0 λR=>True) {r:Int} (hp:gO.p F aa ax=some r):∃ v H',gO.tw F aa ax H=some (v,H')/\gO.Q H R0 R0  r v H':=by
 obtain ⟨w0,_⟩:=h0
 unfold gO.p at hp
 unfold gO.tw gO.twX
 have s0:=w0.rf
 obtain ⟨g1,hp⟩:=rb hp
 refine rc g1 ?_
 obtain ⟨g2,hp⟩:=rb hp
 refine rc g2 ?_
 refine aW hp (λhp=>?_) λhp=>?_
 ·exact aS hp ⟨rfl,w0,s0,trivial⟩
 ·exact aS hp ⟨rfl,w0,s0,trivial⟩
def gf.Q (H0:Hp) (Ri R0:List Rs)  (r:Int) (v:AV) (H':Hp):Prop:=v=(.i r)/\Out H0 Ri H' (R0) λR=>True
def gf.p (F:Nat) (aa:Int) (ax:Int) (dJ:Int):Option (Int):=(fq.p F ax dJ 2000000000000).bind λr1=>(bif (!r1.2) then (some 3000000000000) else (some (IntKind.i64.wrap (aa - r1.1))))
theorem gf.P {F:Nat} {aa ax dJ:Int} {H:Hp} {R0:List Rs}  (h0:Inn H R0 λR=>True) {r:Int} (hp:gf.p F aa ax dJ=some r):∃ v H',gf.tw F aa ax dJ H=some (v,H')/\gf.Q H R0 R0  r v H':=by
 obtain ⟨w0,_⟩:=h0
 unfold gf.p at hp
 unfold gf.tw gf.twX
 have s0:=w0.rf
 obtain ⟨r1,e1,hp⟩:=aq hp
 refine aT (fq.P ⟨w0,trivial⟩ e1) ?_
 rintro _ H2 ⟨rfl,w2,s2,_⟩
 refine ac rfl ?_
 refine ac rfl ?_
 refine ac rfl ?_
 refine ac rfl ?_
 refine ac rfl ?_
 refine aW hp (λhp=>?_) λhp=>?_
 ·exact aS hp ⟨rfl,w2,(s0.trans s2),trivial⟩
 ·exact aS hp ⟨rfl,w2,(s0.trans s2),trivial⟩
def gg.Q (H0:Hp) (Ri R0:List Rs) (bC bi bE bv bj bf bw bz bS bA:Int) (eA dk eO dl dn:Sl) (aa fD:Nat) (gR:ON) (gS:Cap) (iG:Bool) (iH iI:List AV) (r:Bool×List Int) (v:AV) (H':Hp):Prop:=∃ ny:List AV,v=(.tup [])/\fD=(r.2).length/\Out H0 Ri H' (Rs.blk aa [.i bC,.i bi,.sl eA,.i bE,.i bv,.sl dk,.i bj,.i bf,.sl eO,.i bw,.i bz,.sl dl,.i bS,.i bA,.sl dn,.bool (r.1)] :: Rs.ow iG ⟨gR,fD,gS⟩ (ae .i64).z iH ny iI :: R0) λR=>CR (ae .i64) H' R ny (r.2)
def gg.p (F:Nat) (aE:Bool) (aj:Int) (il:List Int) (dL:Int) (dM:Int) (dE:Int):Option (Bool×List Int):=(dR.p F dE).bind λr2=>(bif (decide (r2>1000000000000)) then (some (true,il)) else ((ix il (IntKind.i64.wrap ((IntKind.i64.wrap (dL * aj))+dM))).bind λn6=>(some (il.set n6 dE)).bind λl7=>some (aE,l7)))
theorem gg.P {F:Nat} {bC bi bE bv bj bf bw bz bS bA ai aj dL dM dE:Int} {eA dk eO dl dn:Sl} {aE iG:Bool} {aa fD:Nat} {gR:ON} {gS:Cap} {il:List Int} {iH iI lc:List AV} {H:Hp} {R0:List Rs} (pY:fD=il.length) (h0:Inn H (Rs.blk aa [.i bC,.i bi,.sl eA,.i bE,.i bv,.sl dk,.i bj,.i bf,.sl eO,.i bw,.i bz,.sl dl,.i bS,.i bA,.sl dn,.bool aE] :: Rs.ow iG ⟨gR,fD,gS⟩ (ae .i64).z iH lc iI :: R0) λR=>CR (ae .i64) H R lc il) {r:Bool×List Int} (hp:gg.p F aE aj il dL dM dE=some r):∃ v H',gg.tw F aa 0 ai aj ⟨gR,fD,gS⟩ dL dM dE H=some (v,H')/\gg.Q H (Rs.blk aa [.i bC,.i bi,.sl eA,.i bE,.i bv,.sl dk,.i bj,.i bf,.sl eO,.i bw,.i bz,.sl dl,.i bS,.i bA,.sl dn,.bool aE] :: Rs.ow iG ⟨gR,fD,gS⟩ (ae .i64).z iH lc iI :: R0) R0 bC bi bE bv bj bf bw bz bS bA eA dk eO dl dn aa fD gR gS iG iH iI r v H':=by
 obtain ⟨w0,oK⟩:=h0
 subst pY
 unfold gg.p at hp
 unfold gg.tw gg.twX
 have s0:=w0.rf
 refine cv w0 λH1 w1 s1=>?_
 obtain ⟨r2,e2,hp⟩:=aq hp
 refine aT (dR.P ⟨w1,trivial⟩ e2) ?_
 rintro _ H3 ⟨rfl,w3,s3,_⟩
 refine ac rfl ?_
 refine aW hp (λhp=>?_) λhp=>?_
 ·refine aY w3 (i:=1) rfl rfl rfl λH4 w4 s4=>?_
  obtain ⟨w5,s5⟩:=w4.pick' [1,2] 3 rfl rfl rfl
  exact aS hp ⟨_,rfl,rfl,w5,(s0.trans (s1.trans (s3.trans (s4.trans s5)))),(oK.step (s1.trans (s3.trans (s4.trans s5))))⟩
 ·refine ac (aF (w3.ld (i:=0) rfl rfl)) ?_
  refine ac (ag (w3.ld (i:=0) rfl rfl)) ?_
  obtain ⟨n6,g6,hp⟩:=aq hp
  obtain ⟨p6,q6,i6,h6,j6⟩:=W.ixo (E:=(ae .i64)) w3 (i:=2) rfl rfl (oK.step (s1.trans s3)) g6
  refine ac i6 ?_
  obtain ⟨l7,e7,hp⟩:=aq hp
  refine jj (ae .i64) w3 (i:=2) (j:=0) (p:=p6) rfl rfl (oK.step (s1.trans s3)) g6 i6 e7 rfl rfl (λ_ h=>by have h:_=[_]:=h;subst h;exact rfl) λH8 k8 w8 s8 c8=>?_
  obtain ⟨w9,s9⟩:=w8.pick' [1,2] 3 rfl rfl rfl
  exact aS hp ⟨_,rfl,(gp e7).symm,w9,(s0.trans (s1.trans (s3.trans (s8.trans s9)))),(c8.step s9)⟩
def cS.Q (H0:Hp) (Ri R0:List Rs) (bC bi bE bv bj bf bw bz bS bA:Int) (eA dk eO dl dn:Sl) (aa fD:Nat) (gR:ON) (gS:Cap) (iG:Bool) (iH iI:List AV) (r:Bool×List Int) (v:AV) (H':Hp):Prop:=∃ ny:List AV,v=(.tup [])/\fD=(r.2).length/\Out H0 Ri H' (Rs.blk aa [.i bC,.i bi,.sl eA,.i bE,.i bv,.sl dk,.i bj,.i bf,.sl eO,.i bw,.i bz,.sl dl,.i bS,.i bA,.sl dn,.bool (r.1)] :: Rs.ow iG ⟨gR,fD,gS⟩ (ae .i64).z iH ny iI :: R0) λR=>CR (ae .i64) H' R ny (r.2)
def cS.S7 (H0:Hp) (Ri R0:List Rs) (aB ar aH av aw au ay az aM aA:Int) (eD cE eU cF cG:Sl) (aG jc:Nat) (jF:ON) (jG:Cap) (lf:Bool) (lg li:List AV) (C:Nat->Nat->Int->Int->Int->Nat->Nat->Int->Hp->OA) (pC:Bool->Int->Int->Int->Int->List Int->Int->Option (Bool×List Int)):Prop:=∀ {aE:Bool} {gu eX gV pZ lG fv:Int} {kf:List Int} {rX:List AV} {fu:Nat},∀ {H:Hp},jc=kf.length->(Out H0 Ri H (Rs.blk aG [.i aB,.i ar,.sl eD,.i aH,.i av,.sl cE,.i aw,.i au,.sl eU,.i ay,.i az,.sl cF,.i aM,.i aA,.sl cG,.bool aE] :: Rs.ow lf ⟨jF,jc,jG⟩ (ae .i64).z lg rX li :: Rs.blk fu [.i pZ,.i lG,.sl ⟨jF,jc,jG⟩] :: R0) λR=>CR (ae .i64) H R rX kf)->∀ {r:Bool×List Int},pC aE gu eX gV lG kf fv=some r->∃ v H',C aG 0 gu eX gV fu 0 fv H=some (v,H')/\cS.Q H0 Ri R0 aB ar aH av aw au ay az aM aA eD cE eU cF cG aG jc jF jG lf lg li r v H'
def cS.pl7 (F:Nat) :Nat->Bool->Int->Int->Int->Int->List Int->Int->Option (Bool×List Int)
 | 0,_,_,_,_,_,_,_=>none
 | k+1,aE,gu,eX,gV,lG,kf,fv=>(bif (decide (fv<lG)) then ((bif (!aE) then ((bh.p F lG kf gu fv).bind λr3=>(bh.p F lG kf eX fv).bind λr8=>(gf.p F r3 gV r8).bind λr12=>(gg.p F aE lG kf gu fv r12).bind λr16=>cS.pl7 F k r16.1 gu eX gV lG r16.2 (IntKind.i64.wrap (fv+1))) else (some (aE,kf)))) else (some (aE,kf)))
termination_by structural n=>n
theorem cS.l7_P {F:Nat} {H0:Hp} {Ri R0:List Rs} {aB ar aH av aw au ay az aM aA:Int} {eD cE eU cF cG:Sl} {aG jc:Nat} {jF:ON} {jG:Cap} {lf:Bool} {lg li:List AV} :∀ k,cS.S7 H0 Ri R0 aB ar aH av aw au ay az aM aA eD cE eU cF cG aG jc jF jG lf lg li (cS.l7 F (bh.tw F) (gf.tw F) (gg.tw F)  k) (cS.pl7 F  k):=by
 intro k
 induction k with
 | zero=>unfold cS.S7;intros;rename_i hp;cases hp
 | succ k ih=>
  intro aE gu eX gV pZ lG fv kf rX fu H Cl h0 r hp
  obtain ⟨w0,s0,oL⟩:=h0
  subst Cl
  unfold cS.pl7 at hp
  unfold cS.l7
  refine ac (ag (w0.ld (i:=2) rfl rfl)) ?_
  refine aW hp (λhp=>?_) λhp=>?_
  ·refine ac (nA (w0.ld (i:=0) rfl rfl)) ?_
   refine aW hp (λhp=>?_) λhp=>?_
   ·refine ac (ag (w0.ld (i:=2) rfl rfl)) ?_
    refine ac (ag (w0.ld (i:=2) rfl rfl)) ?_
    refine ac (aF (w0.ld (i:=2) rfl rfl)) ?_
    refine ac (ag (w0.ld (i:=2) rfl rfl)) ?_
    refine ac (ag (w0.ld (i:=2) rfl rfl)) ?_
    refine ac (aF (w0.ld (i:=2) rfl rfl)) ?_
    obtain ⟨w1,s1⟩:=w0.pick' [1,0,2] 3 rfl rfl rfl
    have f2:=W.borrow1 (ae .i64) w1 (oL.step s1)
    obtain ⟨w2,s2⟩:=w1.right1
    obtain ⟨r3,e3,hp⟩:=aq hp
    refine aT (bh.P rfl ⟨w2,f2⟩ e3) ?_
    rintro _ H4 ⟨rfl,w4,s4,_⟩
    obtain ⟨w5,s5⟩:=W.frame1 w1 w4 s4
    refine ac rfl ?_
    refine eZ (bt.tr (bt.refl _) s1 (W.cons_of (Rn:=[]) w2 w4 s4)) ?_
    refine ac (ag (w5.ld (i:=2) rfl rfl)) ?_
    refine ac (ag (w5.ld (i:=2) rfl rfl)) ?_
    refine ac (aF (w5.ld (i:=2) rfl rfl)) ?_
    have f7:=W.borrow1 (ae .i64) w5 (oL.step (s1.trans s5))
    obtain ⟨w7,s7⟩:=w5.right1
    obtain ⟨r8,e8,hp⟩:=aq hp
    refine aT (bh.P rfl ⟨w7,f7⟩ e8) ?_
    rintro _ H9 ⟨rfl,w9,s9,_⟩
    obtain ⟨w10,s10⟩:=W.frame1 w5 w9 s9
    refine ac rfl ?_
    refine eZ (W.cons_of (Rn:=[]) w7 w9 s9) ?_
    obtain ⟨r12,e12,hp⟩:=aq hp
    refine aT (gf.P ⟨w10,trivial⟩ e12) ?_
    rintro _ H13 ⟨rfl,w13,s13,_⟩
    refine ac rfl ?_
    refine eZ (W.cons_of (Rn:=[]) w10 w13 s13) ?_
    obtain ⟨w15,s15⟩:=w13.pick' [1,0,2] 3 rfl rfl rfl
    obtain ⟨r16,e16,hp⟩:=aq hp
    refine aT (gg.P rfl ⟨w15,(oL.step (s1.trans (s5.trans (s10.trans (s13.trans s15)))))⟩ e16) ?_
    rintro _ H17 ⟨Qg,rfl,hl17_0,w17,s17,f17_0⟩
    exact ih hl17_0 ⟨w17,(s0.trans (s1.trans (s5.trans (s10.trans (s13.trans (s15.trans s17)))))),f17_0⟩ hp
   ·obtain ⟨w18,s18⟩:=w0.pick' [0,1] 3 rfl rfl rfl
    exact aS hp ⟨_,rfl,rfl,w18,(s0.trans s18),(oL.step s18)⟩
  ·obtain ⟨w19,s19⟩:=w0.pick' [0,1] 3 rfl rfl rfl
   exact aS hp ⟨_,rfl,rfl,w19,(s0.trans s19),(oL.step s19)⟩
def cS.p (F:Nat) (aE:Bool) (aj:Int) (il:List Int) (dL:Int) (dM:Int) (dE:Int):Option (Bool×List Int):=cS.pl7 F F aE dL dM dE aj il 0
theorem cS.P {F:Nat} {bC bi bE bv bj bf bw bz bS bA ai aj dL dM dE:Int} {eA dk eO dl dn:Sl} {aE iG:Bool} {aa fD:Nat} {gR:ON} {gS:Cap} {il:List Int} {iH iI lc:List AV} {H:Hp} {R0:List Rs} (pY:fD=il.length) (h0:Inn H (Rs.blk aa [.i bC,.i bi,.sl eA,.i bE,.i bv,.sl dk,.i bj,.i bf,.sl eO,.i bw,.i bz,.sl dl,.i bS,.i bA,.sl dn,.bool aE] :: Rs.ow iG ⟨gR,fD,gS⟩ (ae .i64).z iH lc iI :: R0) λR=>CR (ae .i64) H R lc il) {r:Bool×List Int} (hp:cS.p F aE aj il dL dM dE=some r):∃ v H',cS.tw F aa 0 ai aj ⟨gR,fD,gS⟩ dL dM dE H=some (v,H')/\cS.Q H (Rs.blk aa [.i bC,.i bi,.sl eA,.i bE,.i bv,.sl dk,.i bj,.i bf,.sl eO,.i bw,.i bz,.sl dl,.i bS,.i bA,.sl dn,.bool aE] :: Rs.ow iG ⟨gR,fD,gS⟩ (ae .i64).z iH lc iI :: R0) R0 bC bi bE bv bj bf bw bz bS bA eA dk eO dl dn aa fD gR gS iG iH iI r v H':=by
 obtain ⟨w0,oK⟩:=h0
 subst pY
 unfold cS.p at hp
 unfold cS.tw cS.twX
 have s0:=w0.rf
 refine cv w0 λH1 w1 s1=>?_
 obtain ⟨w2,s2⟩:=w1.pick' [1,2,0] 3 rfl rfl rfl
 exact cS.l7_P F rfl ⟨w2,(s0.trans (s1.trans s2)),(oK.step (s1.trans s2))⟩ hp
def cT.Q (H0:Hp) (Ri R0:List Rs) (bC bi bE bv bj bf bw bz bS bA:Int) (eA dk eO dl dn:Sl) (aa fD:Nat) (gR:ON) (gS:Cap) (iG:Bool) (iH iI:List AV) (r:Bool×List Int) (v:AV) (H':Hp):Prop:=∃ ny:List AV,v=(.tup [])/\fD=(r.2).length/\Out H0 Ri H' (Rs.blk aa [.i bC,.i bi,.sl eA,.i bE,.i bv,.sl dk,.i bj,.i bf,.sl eO,.i bw,.i bz,.sl dl,.i bS,.i bA,.sl dn,.bool (r.1)] :: Rs.ow iG ⟨gR,fD,gS⟩ (ae .i64).z iH ny iI :: R0) λR=>CR (ae .i64) H' R ny (r.2)
def cT.S7 (H0:Hp) (Ri R0:List Rs) (aB ar aH av aw au ay az aM aA:Int) (eD cE eU cF cG:Sl) (aG jc:Nat) (jF:ON) (jG:Cap) (lf:Bool) (lg li:List AV) (C:Nat->Nat->Int->Int->Int->Nat->Nat->Int->Hp->OA) (pC:Bool->Int->Int->Int->Int->Int->List Int->Int->Option (Bool×List Int)):Prop:=∀ {aE:Bool} {gu eX gV pZ lG fv:Int} {kf:List Int} {rX:List AV} {fu:Nat},∀ {H:Hp},jc=kf.length->(Out H0 Ri H (Rs.blk aG [.i aB,.i ar,.sl eD,.i aH,.i av,.sl cE,.i aw,.i au,.sl eU,.i ay,.i az,.sl cF,.i aM,.i aA,.sl cG,.bool aE] :: Rs.ow lf ⟨jF,jc,jG⟩ (ae .i64).z lg rX li :: Rs.blk fu [.i pZ,.i lG,.sl ⟨jF,jc,jG⟩] :: R0) λR=>CR (ae .i64) H R rX kf)->∀ {r:Bool×List Int},pC aE gu eX gV pZ lG kf fv=some r->∃ v H',C aG 0 gu eX gV fu 0 fv H=some (v,H')/\cT.Q H0 Ri R0 aB ar aH av aw au ay az aM aA eD cE eU cF cG aG jc jF jG lf lg li r v H'
def cT.pl7 (F:Nat) :Nat->Bool->Int->Int->Int->Int->Int->List Int->Int->Option (Bool×List Int)
 | 0,_,_,_,_,_,_,_,_=>none
 | k+1,aE,gu,eX,gV,pZ,lG,kf,fv=>(bif (decide (fv<pZ)) then ((bif (!aE) then ((bh.p F lG kf fv gu).bind λr3=>(bh.p F lG kf fv eX).bind λr8=>(gf.p F r3 gV r8).bind λr12=>(gg.p F aE lG kf fv gu r12).bind λr16=>cT.pl7 F k r16.1 gu eX gV pZ lG r16.2 (IntKind.i64.wrap (fv+1))) else (some (aE,kf)))) else (some (aE,kf)))
termination_by structural n=>n
theorem cT.l7_P {F:Nat} {H0:Hp} {Ri R0:List Rs} {aB ar aH av aw au ay az aM aA:Int} {eD cE eU cF cG:Sl} {aG jc:Nat} {jF:ON} {jG:Cap} {lf:Bool} {lg li:List AV} :∀ k,cT.S7 H0 Ri R0 aB ar aH av aw au ay az aM aA eD cE eU cF cG aG jc jF jG lf lg li (cT.l7 F (bh.tw F) (gf.tw F) (gg.tw F)  k) (cT.pl7 F  k):=by
 intro k
 induction k with
 | zero=>unfold cT.S7;intros;rename_i hp;cases hp
 | succ k ih=>
  intro aE gu eX gV pZ lG fv kf rX fu H Cl h0 r hp
  obtain ⟨w0,s0,oL⟩:=h0
  subst Cl
  unfold cT.pl7 at hp
  unfold cT.l7
  refine ac (ag (w0.ld (i:=2) rfl rfl)) ?_
  refine aW hp (λhp=>?_) λhp=>?_
  ·refine ac (nA (w0.ld (i:=0) rfl rfl)) ?_
   refine aW hp (λhp=>?_) λhp=>?_
   ·refine ac (ag (w0.ld (i:=2) rfl rfl)) ?_
    refine ac (ag (w0.ld (i:=2) rfl rfl)) ?_
    refine ac (aF (w0.ld (i:=2) rfl rfl)) ?_
    refine ac (ag (w0.ld (i:=2) rfl rfl)) ?_
    refine ac (ag (w0.ld (i:=2) rfl rfl)) ?_
    refine ac (aF (w0.ld (i:=2) rfl rfl)) ?_
    obtain ⟨w1,s1⟩:=w0.pick' [1,0,2] 3 rfl rfl rfl
    have f2:=W.borrow1 (ae .i64) w1 (oL.step s1)
    obtain ⟨w2,s2⟩:=w1.right1
    obtain ⟨r3,e3,hp⟩:=aq hp
    refine aT (bh.P rfl ⟨w2,f2⟩ e3) ?_
    rintro _ H4 ⟨rfl,w4,s4,_⟩
    obtain ⟨w5,s5⟩:=W.frame1 w1 w4 s4
    refine ac rfl ?_
    refine eZ (bt.tr (bt.refl _) s1 (W.cons_of (Rn:=[]) w2 w4 s4)) ?_
    refine ac (ag (w5.ld (i:=2) rfl rfl)) ?_
    refine ac (ag (w5.ld (i:=2) rfl rfl)) ?_
    refine ac (aF (w5.ld (i:=2) rfl rfl)) ?_
    have f7:=W.borrow1 (ae .i64) w5 (oL.step (s1.trans s5))
    obtain ⟨w7,s7⟩:=w5.right1
    obtain ⟨r8,e8,hp⟩:=aq hp
    refine aT (bh.P rfl ⟨w7,f7⟩ e8) ?_
    rintro _ H9 ⟨rfl,w9,s9,_⟩
    obtain ⟨w10,s10⟩:=W.frame1 w5 w9 s9
    refine ac rfl ?_
    refine eZ (W.cons_of (Rn:=[]) w7 w9 s9) ?_
    obtain ⟨r12,e12,hp⟩:=aq hp
    refine aT (gf.P ⟨w10,trivial⟩ e12) ?_
    rintro _ H13 ⟨rfl,w13,s13,_⟩
    refine ac rfl ?_
    refine eZ (W.cons_of (Rn:=[]) w10 w13 s13) ?_
    obtain ⟨w15,s15⟩:=w13.pick' [1,0,2] 3 rfl rfl rfl
    obtain ⟨r16,e16,hp⟩:=aq hp
    refine aT (gg.P rfl ⟨w15,(oL.step (s1.trans (s5.trans (s10.trans (s13.trans s15)))))⟩ e16) ?_
    rintro _ H17 ⟨Qg,rfl,hl17_0,w17,s17,f17_0⟩
    exact ih hl17_0 ⟨w17,(s0.trans (s1.trans (s5.trans (s10.trans (s13.trans (s15.trans s17)))))),f17_0⟩ hp
   ·obtain ⟨w18,s18⟩:=w0.pick' [0,1] 3 rfl rfl rfl
    exact aS hp ⟨_,rfl,rfl,w18,(s0.trans s18),(oL.step s18)⟩
  ·obtain ⟨w19,s19⟩:=w0.pick' [0,1] 3 rfl rfl rfl
   exact aS hp ⟨_,rfl,rfl,w19,(s0.trans s19),(oL.step s19)⟩
def cT.p (F:Nat) (aE:Bool) (ai:Int) (aj:Int) (il:List Int) (dL:Int) (dM:Int) (dE:Int):Option (Bool×List Int):=cT.pl7 F F aE dL dM dE ai aj il 0
theorem cT.P {F:Nat} {bC bi bE bv bj bf bw bz bS bA ai aj dL dM dE:Int} {eA dk eO dl dn:Sl} {aE iG:Bool} {aa fD:Nat} {gR:ON} {gS:Cap} {il:List Int} {iH iI lc:List AV} {H:Hp} {R0:List Rs} (pY:fD=il.length) (h0:Inn H (Rs.blk aa [.i bC,.i bi,.sl eA,.i bE,.i bv,.sl dk,.i bj,.i bf,.sl eO,.i bw,.i bz,.sl dl,.i bS,.i bA,.sl dn,.bool aE] :: Rs.ow iG ⟨gR,fD,gS⟩ (ae .i64).z iH lc iI :: R0) λR=>CR (ae .i64) H R lc il) {r:Bool×List Int} (hp:cT.p F aE ai aj il dL dM dE=some r):∃ v H',cT.tw F aa 0 ai aj ⟨gR,fD,gS⟩ dL dM dE H=some (v,H')/\cT.Q H (Rs.blk aa [.i bC,.i bi,.sl eA,.i bE,.i bv,.sl dk,.i bj,.i bf,.sl eO,.i bw,.i bz,.sl dl,.i bS,.i bA,.sl dn,.bool aE] :: Rs.ow iG ⟨gR,fD,gS⟩ (ae .i64).z iH lc iI :: R0) R0 bC bi bE bv bj bf bw bz bS bA eA dk eO dl dn aa fD gR gS iG iH iI r v H':=by
 obtain ⟨w0,oK⟩:=h0
 subst pY
 unfold cT.p at hp
 unfold cT.tw cT.twX
 have s0:=w0.rf
 refine cv w0 λH1 w1 s1=>?_
 obtain ⟨w2,s2⟩:=w1.pick' [1,2,0] 3 rfl rfl rfl
 exact cT.l7_P F rfl ⟨w2,(s0.trans (s1.trans s2)),(oK.step (s1.trans s2))⟩ hp
def gv.Q (H0:Hp) (Ri R0:List Rs) (bC bi bE bv bj bf bw bz bS bA:Int) (cL el cz:ON) (bZ dr bV aa:Nat) (cM es cA:Cap) (fd fP fe:Bool) (ff fg fS fT fh fi:List AV) (dl dn:Sl) (r:List Int×List Int×List Int×Bool) (v:AV) (H':Hp):Prop:=∃ jD:List AV,∃ kH:List AV,∃ jE:List AV,v=(.tup [])/\bZ=(r.1).length/\dr=(r.2.1).length/\bV=(r.2.2.1).length/\Out H0 Ri H' (Rs.ow fd ⟨cL,bZ,cM⟩ (ae .i64).z ff jD fg :: Rs.ow fP ⟨el,dr,es⟩ (ae .i64).z fS kH fT :: Rs.ow fe ⟨cz,bV,cA⟩ (ae .i64).z fh jE fi :: Rs.blk aa [.i bC,.i bi,.sl ⟨cL,bZ,cM⟩,.i bE,.i bv,.sl ⟨el,dr,es⟩,.i bj,.i bf,.sl ⟨cz,bV,cA⟩,.i bw,.i bz,.sl dl,.i bS,.i bA,.sl dn,.bool (r.2.2.2)] :: R0) λR=>CR (ae .i64) H' R jD (r.1)/\CR (ae .i64) H' R kH (r.2.1)/\CR (ae .i64) H' R jE (r.2.2.1)
def gv.p (F:Nat) (bi:Int) (dP:List Int) (bv:Int) (fI:List Int) (bj:Int) (bf:Int) (dv:List Int) (aE:Bool) (ai:Int) (cH:Int) (dy:Int):Option (List Int×List Int×List Int×Bool):=(bif (dy != 0) then ((cS.p F aE bi dP ai cH dy).bind λr2=>(cS.p F r2.1 bv fI ai cH dy).bind λr5=>(cT.p F r5.1 bj bf dv cH ai (IntKind.i64.wrap (0 - dy))).bind λr8=>some (r2.2,r5.2,r8.2,r8.1)) else (some (dP,fI,dv,aE)))
theorem gv.P {F:Nat} {bC bi bE bv bj bf bw bz bS bA ai cH dy:Int} {cL el cz:ON} {bZ dr bV aa:Nat} {cM es cA:Cap} {dP fI dv:List Int} {fd fP fe aE:Bool} {ff fg ij fS fT i_ fh fi ik:List AV} {dl dn:Sl} {H:Hp} {R0:List Rs} (lb:bZ=dP.length) (nU:dr=fI.length) (ke:bV=dv.length) (h0:Inn H (Rs.ow fd ⟨cL,bZ,cM⟩ (ae .i64).z ff ij fg :: Rs.ow fP ⟨el,dr,es⟩ (ae .i64).z fS i_ fT :: Rs.ow fe ⟨cz,bV,cA⟩ (ae .i64).z fh ik fi :: Rs.blk aa [.i bC,.i bi,.sl ⟨cL,bZ,cM⟩,.i bE,.i bv,.sl ⟨el,dr,es⟩,.i bj,.i bf,.sl ⟨cz,bV,cA⟩,.i bw,.i bz,.sl dl,.i bS,.i bA,.sl dn,.bool aE] :: R0) λR=>CR (ae .i64) H R ij dP/\CR (ae .i64) H R i_ fI/\CR (ae .i64) H R ik dv) {r:List Int×List Int×List Int×Bool} (hp:gv.p F bi dP bv fI bj bf dv aE ai cH dy=some r):∃ v H',gv.tw F aa 0 ai cH dy H=some (v,H')/\gv.Q H (Rs.ow fd ⟨cL,bZ,cM⟩ (ae .i64).z ff ij fg :: Rs.ow fP ⟨el,dr,es⟩ (ae .i64).z fS i_ fT :: Rs.ow fe ⟨cz,bV,cA⟩ (ae .i64).z fh ik fi :: Rs.blk aa [.i bC,.i bi,.sl ⟨cL,bZ,cM⟩,.i bE,.i bv,.sl ⟨el,dr,es⟩,.i bj,.i bf,.sl ⟨cz,bV,cA⟩,.i bw,.i bz,.sl dl,.i bS,.i bA,.sl dn,.bool aE] :: R0) R0 bC bi bE bv bj bf bw bz bS bA cL el cz bZ dr bV aa cM es cA fd fP fe ff fg fS fT fh fi dl dn r v H':=by
 obtain ⟨w0,jY,mS,js⟩:=h0
 subst lb
 subst nU
 subst ke
 unfold gv.p at hp
 unfold gv.tw gv.twX
 have s0:=w0.rf
 refine aW hp (λhp=>?_) λhp=>?_
 ·refine ac (ag (w0.ld (i:=3) rfl rfl)) ?_
  refine ac (ag (w0.ld (i:=3) rfl rfl)) ?_
  refine ac (aF (w0.ld (i:=3) rfl rfl)) ?_
  obtain ⟨w1,s1⟩:=w0.pick' [3,0,1,2] 4 rfl rfl rfl
  obtain ⟨r2,e2,hp⟩:=aq hp
  refine aT (cS.P rfl ⟨w1,(jY.step s1)⟩ e2) ?_
  rintro _ H3 ⟨Cm,rfl,hl3_0,w3,s3,f3_0⟩
  refine ac (ag (w3.ld (i:=0) rfl rfl)) ?_
  refine ac (ag (w3.ld (i:=0) rfl rfl)) ?_
  refine ac (aF (w3.ld (i:=0) rfl rfl)) ?_
  obtain ⟨w4,s4⟩:=w3.pick' [0,2,1,3] 4 rfl rfl rfl
  obtain ⟨r5,e5,hp⟩:=aq hp
  refine aT (cS.P rfl ⟨w4,(mS.step (s1.trans (s3.trans s4)))⟩ e5) ?_
  rintro _ H6 ⟨Cn,rfl,hl6_0,w6,s6,f6_0⟩
  refine ac (ag (w6.ld (i:=0) rfl rfl)) ?_
  refine ac (ag (w6.ld (i:=0) rfl rfl)) ?_
  refine ac (aF (w6.ld (i:=0) rfl rfl)) ?_
  obtain ⟨w7,s7⟩:=w6.pick' [0,3,1,2] 4 rfl rfl rfl
  dsimp only [pk,pks,nth,List.drop,List.set,List.eraseIdx] at w7 s7
  obtain ⟨r8,e8,hp⟩:=aq hp
  refine aT (cT.P rfl ⟨w7,(js.step (s1.trans (s3.trans (s4.trans (s6.trans s7)))))⟩ e8) ?_
  rintro _ H9 ⟨Co,rfl,hl9_0,w9,s9,f9_0⟩
  obtain ⟨w10,s10⟩:=w9.pick' [3,2,1,0] 4 rfl rfl rfl
  exact aS hp ⟨_,_,_,rfl,hl3_0,hl6_0,hl9_0,w10,(s0.trans (s1.trans (s3.trans (s4.trans (s6.trans (s7.trans (s9.trans s10))))))),(f3_0.step (s4.trans (s6.trans (s7.trans (s9.trans s10))))),(f6_0.step (s7.trans (s9.trans s10))),(f9_0.step s10)⟩
 ·exact aS hp ⟨_,_,_,rfl,rfl,rfl,rfl,w0,s0,jY,mS,js⟩
def gF.Q (H0:Hp) (Ri R0:List Rs) (bC bi bE bv bj bf bw bz bS bA:Int) (cL en eo:ON) (bZ dt du aa:Nat) (cM et eu:Cap) (fd fQ fR:Bool) (ff fg fU fV fW fX:List AV) (dk eO:Sl) (r:List Int×List Int×List Int×Bool) (v:AV) (H':Hp):Prop:=∃ jD:List AV,∃ kI:List AV,∃ kJ:List AV,v=(.tup [])/\bZ=(r.1).length/\dt=(r.2.1).length/\du=(r.2.2.1).length/\Out H0 Ri H' (Rs.ow fd ⟨cL,bZ,cM⟩ (ae .i64).z ff jD fg :: Rs.ow fQ ⟨en,dt,et⟩ (ae .i64).z fU kI fV :: Rs.ow fR ⟨eo,du,eu⟩ (ae .i64).z fW kJ fX :: Rs.blk aa [.i bC,.i bi,.sl ⟨cL,bZ,cM⟩,.i bE,.i bv,.sl dk,.i bj,.i bf,.sl eO,.i bw,.i bz,.sl ⟨en,dt,et⟩,.i bS,.i bA,.sl ⟨eo,du,eu⟩,.bool (r.2.2.2)] :: R0) λR=>CR (ae .i64) H' R jD (r.1)/\CR (ae .i64) H' R kI (r.2.1)/\CR (ae .i64) H' R kJ (r.2.2.1)
def gF.p (F:Nat) (bC:Int) (bi:Int) (dP:List Int) (bw:Int) (bz:Int) (fJ:List Int) (bA:Int) (fK:List Int) (aE:Bool) (ai:Int) (cH:Int) (dy:Int):Option (List Int×List Int×List Int×Bool):=(bif (dy != 0) then ((cT.p F aE bC bi dP ai cH dy).bind λr2=>(cT.p F r2.1 bw bz fJ ai cH dy).bind λr5=>(cS.p F r5.1 bA fK cH ai (IntKind.i64.wrap (0 - dy))).bind λr8=>some (r2.2,r5.2,r8.2,r8.1)) else (some (dP,fJ,fK,aE)))
theorem gF.P {F:Nat} {bC bi bE bv bj bf bw bz bS bA ai cH dy:Int} {cL en eo:ON} {bZ dt du aa:Nat} {cM et eu:Cap} {dP fJ fK:List Int} {fd fQ fR aE:Bool} {ff fg ij fU fV ja fW fX jb:List AV} {dk eO:Sl} {H:Hp} {R0:List Rs} (lb:bZ=dP.length) (nV:dt=fJ.length) (nW:du=fK.length) (h0:Inn H (Rs.ow fd ⟨cL,bZ,cM⟩ (ae .i64).z ff ij fg :: Rs.ow fQ ⟨en,dt,et⟩ (ae .i64).z fU ja fV :: Rs.ow fR ⟨eo,du,eu⟩ (ae .i64).z fW jb fX :: Rs.blk aa [.i bC,.i bi,.sl ⟨cL,bZ,cM⟩,.i bE,.i bv,.sl dk,.i bj,.i bf,.sl eO,.i bw,.i bz,.sl ⟨en,dt,et⟩,.i bS,.i bA,.sl ⟨eo,du,eu⟩,.bool aE] :: R0) λR=>CR (ae .i64) H R ij dP/\CR (ae .i64) H R ja fJ/\CR (ae .i64) H R jb fK) {r:List Int×List Int×List Int×Bool} (hp:gF.p F bC bi dP bw bz fJ bA fK aE ai cH dy=some r):∃ v H',gF.tw F aa 0 ai cH dy H=some (v,H')/\gF.Q H (Rs.ow fd ⟨cL,bZ,cM⟩ (ae .i64).z ff ij fg :: Rs.ow fQ ⟨en,dt,et⟩ (ae .i64).z fU ja fV :: Rs.ow fR ⟨eo,du,eu⟩ (ae .i64).z fW jb fX :: Rs.blk aa [.i bC,.i bi,.sl ⟨cL,bZ,cM⟩,.i bE,.i bv,.sl dk,.i bj,.i bf,.sl eO,.i bw,.i bz,.sl ⟨en,dt,et⟩,.i bS,.i bA,.sl ⟨eo,du,eu⟩,.bool aE] :: R0) R0 bC bi bE bv bj bf bw bz bS bA cL en eo bZ dt du aa cM et eu fd fQ fR ff fg fU fV fW fX dk eO r v H':=by
 obtain ⟨w0,jY,mT,mU⟩:=h0
 subst lb
 subst nV
 subst nW
 unfold gF.p at hp
 unfold gF.tw gF.twX
 have s0:=w0.rf
 refine aW hp (λhp=>?_) λhp=>?_
 ·refine ac (ag (w0.ld (i:=3) rfl rfl)) ?_
  refine ac (ag (w0.ld (i:=3) rfl rfl)) ?_
  refine ac (aF (w0.ld (i:=3) rfl rfl)) ?_
  obtain ⟨w1,s1⟩:=w0.pick' [3,0,1,2] 4 rfl rfl rfl
  obtain ⟨r2,e2,hp⟩:=aq hp
  refine aT (cT.P rfl ⟨w1,(jY.step s1)⟩ e2) ?_
  rintro _ H3 ⟨Cm,rfl,hl3_0,w3,s3,f3_0⟩
  refine ac (ag (w3.ld (i:=0) rfl rfl)) ?_
  refine ac (ag (w3.ld (i:=0) rfl rfl)) ?_
  refine ac (aF (w3.ld (i:=0) rfl rfl)) ?_
  obtain ⟨w4,s4⟩:=w3.pick' [0,2,1,3] 4 rfl rfl rfl
  obtain ⟨r5,e5,hp⟩:=aq hp
  refine aT (cT.P rfl ⟨w4,(mT.step (s1.trans (s3.trans s4)))⟩ e5) ?_
  rintro _ H6 ⟨Cn,rfl,hl6_0,w6,s6,f6_0⟩
  refine ac (ag (w6.ld (i:=0) rfl rfl)) ?_
  refine ac (ag (w6.ld (i:=0) rfl rfl)) ?_
  refine ac (aF (w6.ld (i:=0) rfl rfl)) ?_
  obtain ⟨w7,s7⟩:=w6.pick' [0,3,1,2] 4 rfl rfl rfl
  dsimp only [pk,pks,nth,List.drop,List.set,List.eraseIdx] at w7 s7
  obtain ⟨r8,e8,hp⟩:=aq hp
  refine aT (cS.P rfl ⟨w7,(mU.step (s1.trans (s3.trans (s4.trans (s6.trans s7)))))⟩ e8) ?_
  rintro _ H9 ⟨Co,rfl,hl9_0,w9,s9,f9_0⟩
  obtain ⟨w10,s10⟩:=w9.pick' [3,2,1,0] 4 rfl rfl rfl
  exact aS hp ⟨_,_,_,rfl,hl3_0,hl6_0,hl9_0,w10,(s0.trans (s1.trans (s3.trans (s4.trans (s6.trans (s7.trans (s9.trans s10))))))),(f3_0.step (s4.trans (s6.trans (s7.trans (s9.trans s10))))),(f6_0.step (s7.trans (s9.trans s10))),(f9_0.step s10)⟩
 ·exact aS hp ⟨_,_,_,rfl,rfl,rfl,rfl,w0,s0,jY,mT,mU⟩
def bU.Q (H0:Hp) (Ri R0:List Rs) (bC bi bE bv bj bf bw bz bS bA:Int) (cL:ON) (bZ aa:Nat) (cM:Cap) (dP:List Int) (dk eO dl dn:Sl) (aE:Bool) (r:Bool) (v:AV) (H':Hp):Prop:=v=(.bool r)/\Out H0 Ri H' (Rs.blk aa [.i bC,.i bi,.sl ⟨cL,bZ,cM⟩,.i bE,.i bv,.sl dk,.i bj,.i bf,.sl eO,.i bw,.i bz,.sl dl,.i bS,.i bA,.sl dn,.bool aE] :: R0) λR=>True
def bU.S13 (H0:Hp) (Ri R0:List Rs) (aB ar aH av aw au ay az aM aA:Int) (a_:ON) (aL aG:Nat) (bc:Cap) (cw:List Int) (cE eU cF cG:Sl) (bT:Bool) (C:Nat->Nat->Int->Int->Hp->OA) (pC:Int->Int->List Int->Int->Int->Option (Bool)):Prop:=∀ {eH eQ:Int},∀ {H:Hp},aL=cw.length->(Out H0 Ri H (Rs.blk aG [.i aB,.i ar,.sl ⟨a_,aL,bc⟩,.i aH,.i av,.sl cE,.i aw,.i au,.sl eU,.i ay,.i az,.sl cF,.i aM,.i aA,.sl cG,.bool bT] :: R0) λR=>ROs (ae .i64) H R ⟨a_,aL,bc⟩ cw)->∀ {r:Bool},pC aB ar cw eH eQ=some r->∃ v H',C aG 0 eH eQ H=some (v,H')/\bU.Q H0 Ri R0 aB ar aH av aw au ay az aM aA a_ aL aG bc cw cE eU cF cG bT r v H'
def bU.S29 (H0:Hp) (Ri R0:List Rs) (aB ar aH av aw au ay az aM aA:Int) (a_:ON) (aL aG:Nat) (bc:Cap) (cw:List Int) (cE eU cF cG:Sl) (bT:Bool) (C:Nat->Nat->Int->Int->Hp->OA) (pC:Int->List Int->Int->Int->Option (Bool)):Prop:=∀ {ma lx:Int},∀ {H:Hp},aL=cw.length->(Out H0 Ri H (Rs.blk aG [.i aB,.i ar,.sl ⟨a_,aL,bc⟩,.i aH,.i av,.sl cE,.i aw,.i au,.sl eU,.i ay,.i az,.sl cF,.i aM,.i aA,.sl cG,.bool bT] :: R0) λR=>ROs (ae .i64) H R ⟨a_,aL,bc⟩ cw)->∀ {r:Bool},pC ar cw ma lx=some r->∃ v H',C aG 0 ma lx H=some (v,H')/\bU.Q H0 Ri R0 aB ar aH av aw au ay az aM aA a_ aL aG bc cw cE eU cF cG bT r v H'
def bU.pl29 (F:Nat) :Nat->Int->List Int->Int->Int->Option (Bool)
 | 0,_,_,_,_=>none
 | k+1,ar,cw,ma,lx=>(bif (decide (lx<ar)) then ((bh.p F ar cw ma lx).bind λr1=>(bif (r1 != 0) then (some false) else (bU.pl29 F k ar cw ma (IntKind.i64.wrap (lx+1))))) else (some true))
termination_by structural n=>n
theorem bU.l29_P {F:Nat} {H0:Hp} {Ri R0:List Rs} {aB ar aH av aw au ay az aM aA:Int} {a_:ON} {aL aG:Nat} {bc:Cap} {cw:List Int} {cE eU cF cG:Sl} {bT:Bool} :∀ k,bU.S29 H0 Ri R0 aB ar aH av aw au ay az aM aA a_ aL aG bc cw cE eU cF cG bT (bU.l29 F (bh.tw F)  k) (bU.pl29 F  k):=by
 intro k
 induction k with
 | zero=>unfold bU.S29;intros;rename_i hp;cases hp
 | succ k ih=>
  intro ma lx H nX h0 r hp
  obtain ⟨w0,s0,lj⟩:=h0
  subst nX
  unfold bU.pl29 at hp
  unfold bU.l29
  refine ac (ag (w0.ld (i:=0) rfl rfl)) ?_
  refine aW hp (λhp=>?_) λhp=>?_
  ·refine ac (ag (w0.ld (i:=0) rfl rfl)) ?_
   refine ac (ag (w0.ld (i:=0) rfl rfl)) ?_
   refine ac (aF (w0.ld (i:=0) rfl rfl)) ?_
   obtain ⟨r1,e1,hp⟩:=aq hp
   refine aT (bh.P rfl ⟨w0,lj⟩ e1) ?_
   rintro _ H2 ⟨rfl,w2,s2,_⟩
   refine ac rfl ?_
   refine aW hp (λhp=>?_) λhp=>?_
   ·exact aS hp ⟨rfl,w2,(s0.trans s2),trivial⟩
   ·exact ih rfl ⟨w2,(s0.trans s2),(lj.step s2)⟩ hp
  ·exact aS hp ⟨rfl,w0,s0,trivial⟩
def bU.pj1 (F:Nat)  (ar:Int) (cw:List Int) (qo:Int):Option (Bool):=bU.pl29 F F ar cw qo (IntKind.i64.wrap (qo+1))
theorem bU.j1_P {F:Nat} {H0:Hp} {Ri R0:List Rs} {aB ar aH av aw au ay az aM aA:Int} {a_:ON} {aL aG:Nat} {bc:Cap} {cw:List Int} {cE eU cF cG:Sl} {bT:Bool}  {qo:Int} {H:Hp} (nX:aL=cw.length) (h0:Out H0 Ri H (Rs.blk aG [.i aB,.i ar,.sl ⟨a_,aL,bc⟩,.i aH,.i av,.sl cE,.i aw,.i au,.sl eU,.i ay,.i az,.sl cF,.i aM,.i aA,.sl cG,.bool bT] :: R0) λR=>ROs (ae .i64) H R ⟨a_,aL,bc⟩ cw) {r:Bool} (hp:bU.pj1 F  ar cw qo=some r):∃ v H',bU.j1 F (bh.tw F)  aG 0 qo H=some (v,H')/\bU.Q H0 Ri R0 aB ar aH av aw au ay az aM aA a_ aL aG bc cw cE eU cF cG bT r v H':=by
 obtain ⟨w0,s0,lj⟩:=h0
 subst nX
 unfold bU.pj1 at hp
 unfold bU.j1
 exact bU.l29_P F rfl ⟨w0,s0,lj⟩ hp
def bU.pl13 (F:Nat) :Nat->Int->Int->List Int->Int->Int->Option (Bool)
 | 0,_,_,_,_,_=>none
 | k+1,aB,ar,cw,eH,eQ=>(bif (decide (eQ<aB)) then ((bh.p F ar cw eQ eH).bind λr1=>(bif (r1 != 0) then (some false) else (bU.pl13 F k aB ar cw eH (IntKind.i64.wrap (eQ+1))))) else (bU.pj1 F ar cw eH))
termination_by structural n=>n
theorem bU.l13_P {F:Nat} {H0:Hp} {Ri R0:List Rs} {aB ar aH av aw au ay az aM aA:Int} {a_:ON} {aL aG:Nat} {bc:Cap} {cw:List Int} {cE eU cF cG:Sl} {bT:Bool} :∀ k,bU.S13 H0 Ri R0 aB ar aH av aw au ay az aM aA a_ aL aG bc cw cE eU cF cG bT (bU.l13 F (bh.tw F)  k) (bU.pl13 F  k):=by
 intro k
 induction k with
 | zero=>unfold bU.S13;intros;rename_i hp;cases hp
 | succ k ih=>
  intro eH eQ H nX h0 r hp
  obtain ⟨w0,s0,lj⟩:=h0
  subst nX
  unfold bU.pl13 at hp
  unfold bU.l13
  refine ac (ag (w0.ld (i:=0) rfl rfl)) ?_
  refine aW hp (λhp=>?_) λhp=>?_
  ·refine ac (ag (w0.ld (i:=0) rfl rfl)) ?_
   refine ac (ag (w0.ld (i:=0) rfl rfl)) ?_
   refine ac (aF (w0.ld (i:=0) rfl rfl)) ?_
   obtain ⟨r1,e1,hp⟩:=aq hp
   refine aT (bh.P rfl ⟨w0,lj⟩ e1) ?_
   rintro _ H2 ⟨rfl,w2,s2,_⟩
   refine ac rfl ?_
   refine aW hp (λhp=>?_) λhp=>?_
   ·exact aS hp ⟨rfl,w2,(s0.trans s2),trivial⟩
   ·exact ih rfl ⟨w2,(s0.trans s2),(lj.step s2)⟩ hp
  ·exact bU.j1_P rfl ⟨w0,s0,lj⟩ hp
def bU.p (F:Nat) (bC:Int) (bi:Int) (dP:List Int) (ai:Int):Option (Bool):=bU.pl13 F F bC bi dP ai (IntKind.i64.wrap (ai+1))
theorem bU.P {F:Nat} {bC bi bE bv bj bf bw bz bS bA ai:Int} {cL:ON} {bZ aa:Nat} {cM:Cap} {dP:List Int} {dk eO dl dn:Sl} {aE:Bool} {H:Hp} {R0:List Rs} (lb:bZ=dP.length) (h0:Inn H (Rs.blk aa [.i bC,.i bi,.sl ⟨cL,bZ,cM⟩,.i bE,.i bv,.sl dk,.i bj,.i bf,.sl eO,.i bw,.i bz,.sl dl,.i bS,.i bA,.sl dn,.bool aE] :: R0) λR=>ROs (ae .i64) H R ⟨cL,bZ,cM⟩ dP) {r:Bool} (hp:bU.p F bC bi dP ai=some r):∃ v H',bU.tw F aa 0 ai H=some (v,H')/\bU.Q H (Rs.blk aa [.i bC,.i bi,.sl ⟨cL,bZ,cM⟩,.i bE,.i bv,.sl dk,.i bj,.i bf,.sl eO,.i bw,.i bz,.sl dl,.i bS,.i bA,.sl dn,.bool aE] :: R0) R0 bC bi bE bv bj bf bw bz bS bA cL bZ aa cM dP dk eO dl dn aE r v H':=by
 obtain ⟨w0,jY⟩:=h0
 subst lb
 unfold bU.p at hp
 unfold bU.tw bU.twX
 have s0:=w0.rf
 exact bU.l13_P F rfl ⟨w0,s0,jY⟩ hp
def bB.Q (H0:Hp) (Ri R0:List Rs) (bC bi bE bv bj bf bw bz bS bA:Int) (cL:ON) (bZ aa:Nat) (cM:Cap) (dP:List Int) (dk eO dl dn:Sl) (aE:Bool) (r:Int) (v:AV) (H':Hp):Prop:=v=(.i r)/\Out H0 Ri H' (Rs.blk aa [.i bC,.i bi,.sl ⟨cL,bZ,cM⟩,.i bE,.i bv,.sl dk,.i bj,.i bf,.sl eO,.i bw,.i bz,.sl dl,.i bS,.i bA,.sl dn,.bool aE] :: R0) λR=>True
def bB.S13 (H0:Hp) (Ri R0:List Rs) (aB ar aH av aw au ay az aM aA:Int) (a_:ON) (aL aG:Nat) (bc:Cap) (cw:List Int) (cE eU cF cG:Sl) (bT:Bool) (C:Nat->Nat->Int->Int->Hp->OA) (pC:Int->Int->List Int->Int->Int->Option (Int)):Prop:=∀ {eH eQ:Int},∀ {H:Hp},aL=cw.length->(Out H0 Ri H (Rs.blk aG [.i aB,.i ar,.sl ⟨a_,aL,bc⟩,.i aH,.i av,.sl cE,.i aw,.i au,.sl eU,.i ay,.i az,.sl cF,.i aM,.i aA,.sl cG,.bool bT] :: R0) λR=>ROs (ae .i64) H R ⟨a_,aL,bc⟩ cw)->∀ {r:Int},pC aB ar cw eH eQ=some r->∃ v H',C aG 0 eH eQ H=some (v,H')/\bB.Q H0 Ri R0 aB ar aH av aw au ay az aM aA a_ aL aG bc cw cE eU cF cG bT r v H'
def bB.S213 (H0:Hp) (Ri R0:List Rs) (aB ar aH av aw au ay az aM aA:Int) (a_:ON) (aL aG:Nat) (bc:Cap) (cw:List Int) (cE eU cF cG:Sl) (bT:Bool) (C:Nat->Nat->Int->Int->Int->Hp->OA) (pC:Int->Int->List Int->Int->Int->Int->Option (Int)):Prop:=∀ {kp kq ly:Int},∀ {H:Hp},aL=cw.length->(Out H0 Ri H (Rs.blk aG [.i aB,.i ar,.sl ⟨a_,aL,bc⟩,.i aH,.i av,.sl cE,.i aw,.i au,.sl eU,.i ay,.i az,.sl cF,.i aM,.i aA,.sl cG,.bool bT] :: R0) λR=>ROs (ae .i64) H R ⟨a_,aL,bc⟩ cw)->∀ {r:Int},pC aB ar cw kp kq ly=some r->∃ v H',C aG 0 kp kq ly H=some (v,H')/\bB.Q H0 Ri R0 aB ar aH av aw au ay az aM aA a_ aL aG bc cw cE eU cF cG bT r v H'
def bB.pj3 (F:Nat) (kK:Int->Int->List Int->Int->Int->Option (Int)) (aB:Int) (ar:Int) (cw:List Int) (tC:Int) (tD:Int):Option (Int):=kK aB ar cw tC (IntKind.i64.wrap (tD+1))
theorem bB.j3_P {F:Nat} {H0:Hp} {Ri R0:List Rs} {aB ar aH av aw au ay az aM aA:Int} {a_:ON} {aL aG:Nat} {bc:Cap} {cw:List Int} {cE eU cF cG:Sl} {bT:Bool} {C13_:Nat->Nat->Int->Int->Hp->OA} {kK:Int->Int->List Int->Int->Int->Option (Int)} (hC13:bB.S13 H0 Ri R0 aB ar aH av aw au ay az aM aA a_ aL aG bc cw cE eU cF cG bT C13_ kK) {tC tD:Int} {H:Hp} (nX:aL=cw.length) (h0:Out H0 Ri H (Rs.blk aG [.i aB,.i ar,.sl ⟨a_,aL,bc⟩,.i aH,.i av,.sl cE,.i aw,.i au,.sl eU,.i ay,.i az,.sl cF,.i aM,.i aA,.sl cG,.bool bT] :: R0) λR=>ROs (ae .i64) H R ⟨a_,aL,bc⟩ cw) {r:Int} (hp:bB.pj3 F kK aB ar cw tC tD=some r):∃ v H',bB.j3 F (bh.tw F) C13_ aG 0 tC tD H=some (v,H')/\bB.Q H0 Ri R0 aB ar aH av aw au ay az aM aA a_ aL aG bc cw cE eU cF cG bT r v H':=by
 obtain ⟨w0,s0,lj⟩:=h0
 subst nX
 unfold bB.pj3 at hp
 unfold bB.j3
 exact hC13 rfl ⟨w0,s0,lj⟩ hp
def bB.pj4 (F:Nat) (kK:Int->Int->List Int->Int->Int->Option (Int)) (aB:Int) (ar:Int) (cw:List Int) (tE:Int) (qp:Int):Option (Int):=bB.pj3 F kK aB ar cw tE qp
theorem bB.j4_P {F:Nat} {H0:Hp} {Ri R0:List Rs} {aB ar aH av aw au ay az aM aA:Int} {a_:ON} {aL aG:Nat} {bc:Cap} {cw:List Int} {cE eU cF cG:Sl} {bT:Bool} {C13_:Nat->Nat->Int->Int->Hp->OA} {kK:Int->Int->List Int->Int->Int->Option (Int)} (hC13:bB.S13 H0 Ri R0 aB ar aH av aw au ay az aM aA a_ aL aG bc cw cE eU cF cG bT C13_ kK) {tE qp:Int} {H:Hp} (nX:aL=cw.length) (h0:Out H0 Ri H (Rs.blk aG [.i aB,.i ar,.sl ⟨a_,aL,bc⟩,.i aH,.i av,.sl cE,.i aw,.i au,.sl eU,.i ay,.i az,.sl cF,.i aM,.i aA,.sl cG,.bool bT] :: R0) λR=>ROs (ae .i64) H R ⟨a_,aL,bc⟩ cw) {r:Int} (hp:bB.pj4 F kK aB ar cw tE qp=some r):∃ v H',bB.j4 F (bh.tw F) C13_ aG 0 tE qp H=some (v,H')/\bB.Q H0 Ri R0 aB ar aH av aw au ay az aM aA a_ aL aG bc cw cE eU cF cG bT r v H':=by
 obtain ⟨w0,s0,lj⟩:=h0
 subst nX
 unfold bB.pj4 at hp
 unfold bB.j4
 exact bB.j3_P (@hC13) rfl ⟨w0,s0,lj⟩ hp
def bB.pl213 (F:Nat) (kK:Int->Int->List Int->Int->Int->Option (Int)):Nat->Int->Int->List Int->Int->Int->Int->Option (Int)
 | 0,_,_,_,_,_,_=>none
 | k+1,aB,ar,cw,kp,kq,ly=>(bif (decide (ly<ar)) then ((bh.p F ar cw kq ly).bind λr1=>(bh.p F ar cw kp kp).bind λr4=>(if r4=0 then none else ((bif ((Int.tmod r1 r4) != 0) then (some kq) else (bB.pl213 F kK k aB ar cw kp kq (IntKind.i64.wrap (ly+1))))))) else (bB.pj4 F kK aB ar cw kp kq))
termination_by structural n=>n
theorem bB.l213_P {F:Nat} {H0:Hp} {Ri R0:List Rs} {aB ar aH av aw au ay az aM aA:Int} {a_:ON} {aL aG:Nat} {bc:Cap} {cw:List Int} {cE eU cF cG:Sl} {bT:Bool} {C13_:Nat->Nat->Int->Int->Hp->OA} {kK:Int->Int->List Int->Int->Int->Option (Int)} (hC13:bB.S13 H0 Ri R0 aB ar aH av aw au ay az aM aA a_ aL aG bc cw cE eU cF cG bT C13_ kK):∀ k,bB.S213 H0 Ri R0 aB ar aH av aw au ay az aM aA a_ aL aG bc cw cE eU cF cG bT (bB.l213 F (bh.tw F) C13_ k) (bB.pl213 F kK k):=by
 intro k
 induction k with
 | zero=>unfold bB.S213;intros;rename_i hp;cases hp
 | succ k ih=>
  intro kp kq ly H nX h0 r hp
  obtain ⟨w0,s0,lj⟩:=h0
  subst nX
  unfold bB.pl213 at hp
  unfold bB.l213
  refine ac (ag (w0.ld (i:=0) rfl rfl)) ?_
  refine aW hp (λhp=>?_) λhp=>?_
  ·refine ac (ag (w0.ld (i:=0) rfl rfl)) ?_
   refine ac (ag (w0.ld (i:=0) rfl rfl)) ?_
   refine ac (aF (w0.ld (i:=0) rfl rfl)) ?_
   obtain ⟨r1,e1,hp⟩:=aq hp
   refine aT (bh.P rfl ⟨w0,lj⟩ e1) ?_
   rintro _ H2 ⟨rfl,w2,s2,_⟩
   refine ac rfl ?_
   refine eZ (W.cons_of (Rn:=[]) w0 w2 s2) ?_
   refine ac (ag (w2.ld (i:=0) rfl rfl)) ?_
   refine ac (ag (w2.ld (i:=0) rfl rfl)) ?_
   refine ac (aF (w2.ld (i:=0) rfl rfl)) ?_
   obtain ⟨r4,e4,hp⟩:=aq hp
   refine aT (bh.P rfl ⟨w2,(lj.step s2)⟩ e4) ?_
   rintro _ H5 ⟨rfl,w5,s5,_⟩
   refine ac rfl ?_
   obtain ⟨g6,hp⟩:=rb hp
   refine rc g6 ?_
   refine aW hp (λhp=>?_) λhp=>?_
   ·exact aS hp ⟨rfl,w5,(s0.trans (s2.trans s5)),trivial⟩
   ·exact ih rfl ⟨w5,(s0.trans (s2.trans s5)),(lj.step (s2.trans s5))⟩ hp
  ·exact bB.j4_P (@hC13) rfl ⟨w0,s0,lj⟩ hp
def bB.pl13 (F:Nat) :Nat->Int->Int->List Int->Int->Int->Option (Int)
 | 0,_,_,_,_,_=>none
 | k+1,aB,ar,cw,eH,eQ=>(bif (decide (eQ<aB)) then (bB.pl213 F (bB.pl13 F k) F aB ar cw eH eQ (IntKind.i64.wrap (eH+1))) else (some (-1)))
termination_by structural n=>n
theorem bB.l13_P {F:Nat} {H0:Hp} {Ri R0:List Rs} {aB ar aH av aw au ay az aM aA:Int} {a_:ON} {aL aG:Nat} {bc:Cap} {cw:List Int} {cE eU cF cG:Sl} {bT:Bool} :∀ k,bB.S13 H0 Ri R0 aB ar aH av aw au ay az aM aA a_ aL aG bc cw cE eU cF cG bT (bB.l13 F (bh.tw F)  k) (bB.pl13 F  k):=by
 intro k
 induction k with
 | zero=>unfold bB.S13;intros;rename_i hp;cases hp
 | succ k ih=>
  intro eH eQ H nX h0 r hp
  obtain ⟨w0,s0,lj⟩:=h0
  subst nX
  unfold bB.pl13 at hp
  unfold bB.l13
  refine ac (ag (w0.ld (i:=0) rfl rfl)) ?_
  refine aW hp (λhp=>?_) λhp=>?_
  ·exact bB.l213_P (@ih) F rfl ⟨w0,s0,lj⟩ hp
  ·exact aS hp ⟨rfl,w0,s0,trivial⟩
def bB.p (F:Nat) (bC:Int) (bi:Int) (dP:List Int) (ai:Int):Option (Int):=bB.pl13 F F bC bi dP ai (IntKind.i64.wrap (ai+1))
theorem bB.P {F:Nat} {bC bi bE bv bj bf bw bz bS bA ai:Int} {cL:ON} {bZ aa:Nat} {cM:Cap} {dP:List Int} {dk eO dl dn:Sl} {aE:Bool} {H:Hp} {R0:List Rs} (lb:bZ=dP.length) (h0:Inn H (Rs.blk aa [.i bC,.i bi,.sl ⟨cL,bZ,cM⟩,.i bE,.i bv,.sl dk,.i bj,.i bf,.sl eO,.i bw,.i bz,.sl dl,.i bS,.i bA,.sl dn,.bool aE] :: R0) λR=>ROs (ae .i64) H R ⟨cL,bZ,cM⟩ dP) {r:Int} (hp:bB.p F bC bi dP ai=some r):∃ v H',bB.tw F aa 0 ai H=some (v,H')/\bB.Q H (Rs.blk aa [.i bC,.i bi,.sl ⟨cL,bZ,cM⟩,.i bE,.i bv,.sl dk,.i bj,.i bf,.sl eO,.i bw,.i bz,.sl dl,.i bS,.i bA,.sl dn,.bool aE] :: R0) R0 bC bi bE bv bj bf bw bz bS bA cL bZ aa cM dP dk eO dl dn aE r v H':=by
 obtain ⟨w0,jY⟩:=h0
 subst lb
 unfold bB.p at hp
 unfold bB.tw bB.twX
 have s0:=w0.rf
 exact bB.l13_P F rfl ⟨w0,s0,jY⟩ hp
def br.Q (H0:Hp) (Ri R0:List Rs) (bC bi bE bv bj bf bw bz bS bA:Int) (cL el cz en eo:ON) (bZ dr bV dt du aa:Nat) (cM es cA et eu:Cap) (fd fP fe fQ fR:Bool) (ff fg fS fT fh fi fU fV fW fX:List AV) (r:Bool×Bool×List Int×List Int×List Int×List Int×List Int×Bool) (v:AV) (H':Hp):Prop:=∃ jD:List AV,∃ kH:List AV,∃ jE:List AV,∃ kI:List AV,∃ kJ:List AV,v=(.tup [(.bool r.1),(.bool r.2.1)])/\bZ=(r.2.2.1).length/\dr=(r.2.2.2.1).length/\bV=(r.2.2.2.2.1).length/\dt=(r.2.2.2.2.2.1).length/\du=(r.2.2.2.2.2.2.1).length/\Out H0 Ri H' (Rs.ow fd ⟨cL,bZ,cM⟩ (ae .i64).z ff jD fg :: Rs.ow fP ⟨el,dr,es⟩ (ae .i64).z fS kH fT :: Rs.ow fe ⟨cz,bV,cA⟩ (ae .i64).z fh jE fi :: Rs.ow fQ ⟨en,dt,et⟩ (ae .i64).z fU kI fV :: Rs.ow fR ⟨eo,du,eu⟩ (ae .i64).z fW kJ fX :: Rs.blk aa [.i bC,.i bi,.sl ⟨cL,bZ,cM⟩,.i bE,.i bv,.sl ⟨el,dr,es⟩,.i bj,.i bf,.sl ⟨cz,bV,cA⟩,.i bw,.i bz,.sl ⟨en,dt,et⟩,.i bS,.i bA,.sl ⟨eo,du,eu⟩,.bool (r.2.2.2.2.2.2.2)] :: R0) λR=>CR (ae .i64) H' R jD (r.2.2.1)/\CR (ae .i64) H' R kH (r.2.2.2.1)/\CR (ae .i64) H' R jE (r.2.2.2.2.1)/\CR (ae .i64) H' R kI (r.2.2.2.2.2.1)/\CR (ae .i64) H' R kJ (r.2.2.2.2.2.2.1)
def br.S29 (H0:Hp) (Ri R0:List Rs) (aB ar aH av aw au ay az aM aA:Int) (a_ bK aP bL bM:ON) (aL bl aI bm bo aG:Nat) (bc bN aQ bO bP:Cap) (ca cb ce cf cg:Bool) (ch ci cj ck cl cn co cp cq ct:List AV) (C:Nat->Nat->Int->Int->Hp->OA) (pC:Int->Int->List Int->Int->List Int->Int->Int->List Int->Int->Int->List Int->Int->List Int->Bool->Int->Int->Option (Bool×Bool×List Int×List Int×List Int×List Int×List Int×Bool)):Prop:=∀ {aN aR aO aU aV:List Int} {cX cY cZ c_ da:List AV} {aE:Bool} {jf kt:Int},∀ {H:Hp},aL=aN.length->bl=aR.length->aI=aO.length->bm=aU.length->bo=aV.length->(Out H0 Ri H (Rs.ow ca ⟨a_,aL,bc⟩ (ae .i64).z ch cX ci :: Rs.ow cb ⟨bK,bl,bN⟩ (ae .i64).z cj cY ck :: Rs.ow ce ⟨aP,aI,aQ⟩ (ae .i64).z cl cZ cn :: Rs.ow cf ⟨bL,bm,bO⟩ (ae .i64).z co c_ cp :: Rs.ow cg ⟨bM,bo,bP⟩ (ae .i64).z cq da ct :: Rs.blk aG [.i aB,.i ar,.sl ⟨a_,aL,bc⟩,.i aH,.i av,.sl ⟨bK,bl,bN⟩,.i aw,.i au,.sl ⟨aP,aI,aQ⟩,.i ay,.i az,.sl ⟨bL,bm,bO⟩,.i aM,.i aA,.sl ⟨bM,bo,bP⟩,.bool aE] :: R0) λR=>CR (ae .i64) H R cX aN/\CR (ae .i64) H R cY aR/\CR (ae .i64) H R cZ aO/\CR (ae .i64) H R c_ aU/\CR (ae .i64) H R da aV)->∀ {r:Bool×Bool×List Int×List Int×List Int×List Int×List Int×Bool},pC aB ar aN av aR aw au aO ay az aU aA aV aE jf kt=some r->∃ v H',C aG 0 jf kt H=some (v,H')/\br.Q H0 Ri R0 aB ar aH av aw au ay az aM aA a_ bK aP bL bM aL bl aI bm bo aG bc bN aQ bO bP ca cb ce cf cg ch ci cj ck cl cn co cp cq ct r v H'
def br.S61 (H0:Hp) (Ri R0:List Rs) (aB ar aH av aw au ay az aM aA:Int) (a_ bK aP bL bM:ON) (aL bl aI bm bo aG:Nat) (bc bN aQ bO bP:Cap) (ca cb ce cf cg:Bool) (ch ci cj ck cl cn co cp cq ct:List AV) (C:Nat->Nat->Int->Int->Hp->OA) (pC:Int->Int->List Int->Int->List Int->Int->Int->List Int->Int->Int->List Int->Int->List Int->Bool->Int->Int->Option (Bool×Bool×List Int×List Int×List Int×List Int×List Int×Bool)):Prop:=∀ {aN aR aO aU aV:List Int} {cX cY cZ c_ da:List AV} {aE:Bool} {je kr:Int},∀ {H:Hp},aL=aN.length->bl=aR.length->aI=aO.length->bm=aU.length->bo=aV.length->(Out H0 Ri H (Rs.ow ca ⟨a_,aL,bc⟩ (ae .i64).z ch cX ci :: Rs.ow cb ⟨bK,bl,bN⟩ (ae .i64).z cj cY ck :: Rs.ow ce ⟨aP,aI,aQ⟩ (ae .i64).z cl cZ cn :: Rs.ow cf ⟨bL,bm,bO⟩ (ae .i64).z co c_ cp :: Rs.ow cg ⟨bM,bo,bP⟩ (ae .i64).z cq da ct :: Rs.blk aG [.i aB,.i ar,.sl ⟨a_,aL,bc⟩,.i aH,.i av,.sl ⟨bK,bl,bN⟩,.i aw,.i au,.sl ⟨aP,aI,aQ⟩,.i ay,.i az,.sl ⟨bL,bm,bO⟩,.i aM,.i aA,.sl ⟨bM,bo,bP⟩,.bool aE] :: R0) λR=>CR (ae .i64) H R cX aN/\CR (ae .i64) H R cY aR/\CR (ae .i64) H R cZ aO/\CR (ae .i64) H R c_ aU/\CR (ae .i64) H R da aV)->∀ {r:Bool×Bool×List Int×List Int×List Int×List Int×List Int×Bool},pC aB ar aN av aR aw au aO ay az aU aA aV aE je kr=some r->∃ v H',C aG 0 je kr H=some (v,H')/\br.Q H0 Ri R0 aB ar aH av aw au ay az aM aA a_ bK aP bL bM aL bl aI bm bo aG bc bN aQ bO bP ca cb ce cf cg ch ci cj ck cl cn co cp cq ct r v H'
def br.pj1 (F:Nat)  (aB:Int) (ar:Int) (aN:List Int) (av:Int) (aR:List Int) (aw:Int) (au:Int) (aO:List Int) (aU:List Int) (aV:List Int) (aE:Bool) (pc:Int):Option (Bool×Bool×List Int×List Int×List Int×List Int×List Int×Bool):=(bif aE then (some (false,false,aN,aR,aO,aU,aV,aE)) else ((bU.p F aB ar aN pc).bind λr3=>(bif (!r3) then (some (false,false,aN,aR,aO,aU,aV,aE)) else ((bB.p F aB ar aN pc).bind λr8=>(bif (decide (r8<0)) then (some (true,false,aN,aR,aO,aU,aV,aE)) else ((gv.p F ar aN av aR aw au aO aE pc r8 (-1)).bind λr13=>some (false,false,r13.1,r13.2.1,r13.2.2.1,aU,aV,r13.2.2.2)))))))
theorem br.j1_P {F:Nat} {H0:Hp} {Ri R0:List Rs} {aB ar aH av aw au ay az aM aA:Int} {a_ bK aP bL bM:ON} {aL bl aI bm bo aG:Nat} {bc bN aQ bO bP:Cap} {ca cb ce cf cg:Bool} {ch ci cj ck cl cn co cp cq ct:List AV}  {aN aR aO aU aV:List Int} {cX cY cZ c_ da:List AV} {aE:Bool} {pc:Int} {H:Hp} (fj:aL=aN.length) (fk:bl=aR.length) (fl:aI=aO.length) (fm:bm=aU.length) (fo:bo=aV.length) (h0:Out H0 Ri H (Rs.ow ca ⟨a_,aL,bc⟩ (ae .i64).z ch cX ci :: Rs.ow cb ⟨bK,bl,bN⟩ (ae .i64).z cj cY ck :: Rs.ow ce ⟨aP,aI,aQ⟩ (ae .i64).z cl cZ cn :: Rs.ow cf ⟨bL,bm,bO⟩ (ae .i64).z co c_ cp :: Rs.ow cg ⟨bM,bo,bP⟩ (ae .i64).z cq da ct :: Rs.blk aG [.i aB,.i ar,.sl ⟨a_,aL,bc⟩,.i aH,.i av,.sl ⟨bK,bl,bN⟩,.i aw,.i au,.sl ⟨aP,aI,aQ⟩,.i ay,.i az,.sl ⟨bL,bm,bO⟩,.i aM,.i aA,.sl ⟨bM,bo,bP⟩,.bool aE] :: R0) λR=>CR (ae .i64) H R cX aN/\CR (ae .i64) H R cY aR/\CR (ae .i64) H R cZ aO/\CR (ae .i64) H R c_ aU/\CR (ae .i64) H R da aV) {r:Bool×Bool×List Int×List Int×List Int×List Int×List Int×Bool} (hp:br.pj1 F  aB ar aN av aR aw au aO aU aV aE pc=some r):∃ v H',br.j1 F (aD.tw F) (bh.tw F) (gO.tw F) (gv.tw F) (gF.tw F) (bU.tw F) (bB.tw F)  aG 0 pc H=some (v,H')/\br.Q H0 Ri R0 aB ar aH av aw au ay az aM aA a_ bK aP bL bM aL bl aI bm bo aG bc bN aQ bO bP ca cb ce cf cg ch ci cj ck cl cn co cp cq ct r v H':=by
 obtain ⟨w0,s0,db,dB,dj,dF,dG⟩:=h0
 subst fj
 subst fk
 subst fl
 subst fm
 subst fo
 unfold br.pj1 at hp
 unfold br.j1
 refine ac (nA (w0.ld (i:=5) rfl rfl)) ?_
 refine aW hp (λhp=>?_) λhp=>?_
 ·exact aS hp ⟨_,_,_,_,_,rfl,rfl,rfl,rfl,rfl,rfl,w0,s0,db,dB,dj,dF,dG⟩
 ·obtain ⟨w1,s1⟩:=w0.pick' [0,5,1,2,3,4] 6 rfl rfl rfl
  have f2:=W.borrow1 (ae .i64) w1 (db.step s1)
  obtain ⟨w2,s2⟩:=w1.right1
  obtain ⟨r3,e3,hp⟩:=aq hp
  refine aT (bU.P rfl ⟨w2,f2⟩ e3) ?_
  rintro _ H4 ⟨rfl,w4,s4,_⟩
  obtain ⟨w5,s5⟩:=W.frame1 w1 w4 s4
  refine ac rfl ?_
  refine aW hp (λhp=>?_) λhp=>?_
  ·obtain ⟨w6,s6⟩:=w5.pick' [0,2,3,4,5,1] 6 rfl rfl rfl
   exact aS hp ⟨_,_,_,_,_,rfl,rfl,rfl,rfl,rfl,rfl,w6,(s0.trans (s1.trans (s5.trans s6))),(db.step (s1.trans (s5.trans s6))),(dB.step (s1.trans (s5.trans s6))),(dj.step (s1.trans (s5.trans s6))),(dF.step (s1.trans (s5.trans s6))),(dG.step (s1.trans (s5.trans s6)))⟩
  ·have f7:=W.borrow1 (ae .i64) w5 (db.step (s1.trans s5))
   obtain ⟨w7,s7⟩:=w5.right1
   obtain ⟨r8,e8,hp⟩:=aq hp
   refine aT (bB.P rfl ⟨w7,f7⟩ e8) ?_
   rintro _ H9 ⟨rfl,w9,s9,_⟩
   obtain ⟨w10,s10⟩:=W.frame1 w5 w9 s9
   refine ac rfl ?_
   refine aW hp (λhp=>?_) λhp=>?_
   ·obtain ⟨w11,s11⟩:=w10.pick' [0,2,3,4,5,1] 6 rfl rfl rfl
    exact aS hp ⟨_,_,_,_,_,rfl,rfl,rfl,rfl,rfl,rfl,w11,(s0.trans (s1.trans (s5.trans (s10.trans s11)))),(db.step (s1.trans (s5.trans (s10.trans s11)))),(dB.step (s1.trans (s5.trans (s10.trans s11)))),(dj.step (s1.trans (s5.trans (s10.trans s11)))),(dF.step (s1.trans (s5.trans (s10.trans s11)))),(dG.step (s1.trans (s5.trans (s10.trans s11))))⟩
   ·obtain ⟨w12,s12⟩:=w10.pick' [0,2,3,1,4,5] 6 rfl rfl rfl
    obtain ⟨r13,e13,hp⟩:=aq hp
    refine aT (gv.P rfl rfl rfl ⟨w12,(db.step (s1.trans (s5.trans (s10.trans s12)))),(dB.step (s1.trans (s5.trans (s10.trans s12)))),(dj.step (s1.trans (s5.trans (s10.trans s12))))⟩ e13) ?_
    rintro _ H14 ⟨Ig,Qh,Qi,rfl,hl14_0,hl14_1,hl14_2,w14,s14,f14_0,f14_1,f14_2⟩
    obtain ⟨w15,s15⟩:=w14.pick' [0,1,2,4,5,3] 6 rfl rfl rfl
    dsimp only [pk,pks,nth,List.drop,List.set,List.eraseIdx] at w15 s15
    exact aS hp ⟨_,_,_,_,_,rfl,hl14_0,hl14_1,hl14_2,rfl,rfl,w15,(s0.trans (s1.trans (s5.trans (s10.trans (s12.trans (s14.trans s15)))))),(f14_0.step s15),(f14_1.step s15),(f14_2.step s15),(dF.step (s1.trans (s5.trans (s10.trans (s12.trans (s14.trans s15)))))),(dG.step (s1.trans (s5.trans (s10.trans (s12.trans (s14.trans s15))))))⟩
def br.pl61 (F:Nat) :Nat->Int->Int->List Int->Int->List Int->Int->Int->List Int->Int->Int->List Int->Int->List Int->Bool->Int->Int->Option (Bool×Bool×List Int×List Int×List Int×List Int×List Int×Bool)
 | 0,_,_,_,_,_,_,_,_,_,_,_,_,_,_,_,_=>none
 | k+1,aB,ar,aN,av,aR,aw,au,aO,ay,az,aU,aA,aV,aE,je,kr=>(bif (decide (kr<ar)) then ((bif (!aE) then ((bh.p F ar aN je kr).bind λr2=>(bh.p F ar aN je je).bind λr7=>(gO.p F r2 r7).bind λr10=>(gF.p F aB ar aN ay az aU aA aV aE kr je r10).bind λr13=>br.pl61 F k aB ar r13.1 av aR aw au aO ay az r13.2.1 aA r13.2.2.1 r13.2.2.2 je (IntKind.i64.wrap (kr+1))) else (br.pj1 F aB ar aN av aR aw au aO aU aV aE je))) else (br.pj1 F aB ar aN av aR aw au aO aU aV aE je))
termination_by structural n=>n
theorem br.l61_P {F:Nat} {H0:Hp} {Ri R0:List Rs} {aB ar aH av aw au ay az aM aA:Int} {a_ bK aP bL bM:ON} {aL bl aI bm bo aG:Nat} {bc bN aQ bO bP:Cap} {ca cb ce cf cg:Bool} {ch ci cj ck cl cn co cp cq ct:List AV} :∀ k,br.S61 H0 Ri R0 aB ar aH av aw au ay az aM aA a_ bK aP bL bM aL bl aI bm bo aG bc bN aQ bO bP ca cb ce cf cg ch ci cj ck cl cn co cp cq ct (br.l61 F (aD.tw F) (bh.tw F) (gO.tw F) (gv.tw F) (gF.tw F) (bU.tw F) (bB.tw F)  k) (br.pl61 F  k):=by
 intro k
 induction k with
 | zero=>unfold br.S61;intros;rename_i hp;cases hp
 | succ k ih=>
  intro aN aR aO aU aV cX cY cZ c_ da aE je kr H fj fk fl fm fo h0 r hp
  obtain ⟨w0,s0,db,dB,dj,dF,dG⟩:=h0
  subst fj
  subst fk
  subst fl
  subst fm
  subst fo
  unfold br.pl61 at hp
  unfold br.l61
  refine ac (ag (w0.ld (i:=5) rfl rfl)) ?_
  refine aW hp (λhp=>?_) λhp=>?_
  ·refine ac (nA (w0.ld (i:=5) rfl rfl)) ?_
   refine aW hp (λhp=>?_) λhp=>?_
   ·refine ac (ag (w0.ld (i:=5) rfl rfl)) ?_
    refine ac (ag (w0.ld (i:=5) rfl rfl)) ?_
    refine ac (aF (w0.ld (i:=5) rfl rfl)) ?_
    have f1:=W.borrow1 (ae .i64) w0 db
    obtain ⟨w1,s1⟩:=w0.right1
    obtain ⟨r2,e2,hp⟩:=aq hp
    refine aT (bh.P rfl ⟨w1,f1⟩ e2) ?_
    rintro _ H3 ⟨rfl,w3,s3,_⟩
    obtain ⟨w4,s4⟩:=W.frame1 w0 w3 s3
    refine ac rfl ?_
    refine eZ (W.cons_of (Rn:=[]) w1 w3 s3) ?_
    refine ac (ag (w4.ld (i:=5) rfl rfl)) ?_
    refine ac (ag (w4.ld (i:=5) rfl rfl)) ?_
    refine ac (aF (w4.ld (i:=5) rfl rfl)) ?_
    have f6:=W.borrow1 (ae .i64) w4 (db.step s4)
    obtain ⟨w6,s6⟩:=w4.right1
    obtain ⟨r7,e7,hp⟩:=aq hp
    refine aT (bh.P rfl ⟨w6,f6⟩ e7) ?_
    rintro _ H8 ⟨rfl,w8,s8,_⟩
    obtain ⟨w9,s9⟩:=W.frame1 w4 w8 s8
    refine ac rfl ?_
    obtain ⟨r10,e10,hp⟩:=aq hp
    refine aT (gO.P ⟨w9,trivial⟩ e10) ?_
    rintro _ H11 ⟨rfl,w11,s11,_⟩
    refine ac rfl ?_
    obtain ⟨w12,s12⟩:=w11.pick' [0,3,4,5,1,2] 6 rfl rfl rfl
    obtain ⟨r13,e13,hp⟩:=aq hp
    refine aT (gF.P rfl rfl rfl ⟨w12,(db.step (s4.trans (s9.trans (s11.trans s12)))),(dF.step (s4.trans (s9.trans (s11.trans s12)))),(dG.step (s4.trans (s9.trans (s11.trans s12))))⟩ e13) ?_
    rintro _ H14 ⟨Ig,Vw,Vx,rfl,hl14_0,hl14_1,hl14_2,w14,s14,f14_0,f14_1,f14_2⟩
    obtain ⟨w15,s15⟩:=w14.pick' [0,4,5,1,2,3] 6 rfl rfl rfl
    exact ih hl14_0 rfl rfl hl14_1 hl14_2 ⟨w15,(s0.trans (s4.trans (s9.trans (s11.trans (s12.trans (s14.trans s15)))))),(f14_0.step s15),(dB.step (s4.trans (s9.trans (s11.trans (s12.trans (s14.trans s15)))))),(dj.step (s4.trans (s9.trans (s11.trans (s12.trans (s14.trans s15)))))),(f14_1.step s15),(f14_2.step s15)⟩ hp
   ·exact br.j1_P rfl rfl rfl rfl rfl ⟨w0,s0,db,dB,dj,dF,dG⟩ hp
  ·exact br.j1_P rfl rfl rfl rfl rfl ⟨w0,s0,db,dB,dj,dF,dG⟩ hp
def br.pj2 (F:Nat)  (aB:Int) (ar:Int) (aN:List Int) (av:Int) (aR:List Int) (aw:Int) (au:Int) (aO:List Int) (ay:Int) (az:Int) (aU:List Int) (aA:Int) (aV:List Int) (aE:Bool) (qq:Int):Option (Bool×Bool×List Int×List Int×List Int×List Int×List Int×Bool):=br.pl61 F F aB ar aN av aR aw au aO ay az aU aA aV aE qq (IntKind.i64.wrap (qq+1))
theorem br.j2_P {F:Nat} {H0:Hp} {Ri R0:List Rs} {aB ar aH av aw au ay az aM aA:Int} {a_ bK aP bL bM:ON} {aL bl aI bm bo aG:Nat} {bc bN aQ bO bP:Cap} {ca cb ce cf cg:Bool} {ch ci cj ck cl cn co cp cq ct:List AV}  {aN aR aO aU aV:List Int} {cX cY cZ c_ da:List AV} {aE:Bool} {qq:Int} {H:Hp} (fj:aL=aN.length) (fk:bl=aR.length) (fl:aI=aO.length) (fm:bm=aU.length) (fo:bo=aV.length) (h0:Out H0 Ri H (Rs.ow ca ⟨a_,aL,bc⟩ (ae .i64).z ch cX ci :: Rs.ow cb ⟨bK,bl,bN⟩ (ae .i64).z cj cY ck :: Rs.ow ce ⟨aP,aI,aQ⟩ (ae .i64).z cl cZ cn :: Rs.ow cf ⟨bL,bm,bO⟩ (ae .i64).z co c_ cp :: Rs.ow cg ⟨bM,bo,bP⟩ (ae .i64).z cq da ct :: Rs.blk aG [.i aB,.i ar,.sl ⟨a_,aL,bc⟩,.i aH,.i av,.sl ⟨bK,bl,bN⟩,.i aw,.i au,.sl ⟨aP,aI,aQ⟩,.i ay,.i az,.sl ⟨bL,bm,bO⟩,.i aM,.i aA,.sl ⟨bM,bo,bP⟩,.bool aE] :: R0) λR=>CR (ae .i64) H R cX aN/\CR (ae .i64) H R cY aR/\CR (ae .i64) H R cZ aO/\CR (ae .i64) H R c_ aU/\CR (ae .i64) H R da aV) {r:Bool×Bool×List Int×List Int×List Int×List Int×List Int×Bool} (hp:br.pj2 F  aB ar aN av aR aw au aO ay az aU aA aV aE qq=some r):∃ v H',br.j2 F (aD.tw F) (bh.tw F) (gO.tw F) (gv.tw F) (gF.tw F) (bU.tw F) (bB.tw F)  aG 0 qq H=some (v,H')/\br.Q H0 Ri R0 aB ar aH av aw au ay az aM aA a_ bK aP bL bM aL bl aI bm bo aG bc bN aQ bO bP ca cb ce cf cg ch ci cj ck cl cn co cp cq ct r v H':=by
 obtain ⟨w0,s0,db,dB,dj,dF,dG⟩:=h0
 subst fj
 subst fk
 subst fl
 subst fm
 subst fo
 unfold br.pj2 at hp
 unfold br.j2
 exact br.l61_P F rfl rfl rfl rfl rfl ⟨w0,s0,db,dB,dj,dF,dG⟩ hp
def br.pl29 (F:Nat) :Nat->Int->Int->List Int->Int->List Int->Int->Int->List Int->Int->Int->List Int->Int->List Int->Bool->Int->Int->Option (Bool×Bool×List Int×List Int×List Int×List Int×List Int×Bool)
 | 0,_,_,_,_,_,_,_,_,_,_,_,_,_,_,_,_=>none
 | k+1,aB,ar,aN,av,aR,aw,au,aO,ay,az,aU,aA,aV,aE,jf,kt=>(bif (decide (kt<aB)) then ((bif (!aE) then ((bh.p F ar aN kt jf).bind λr2=>(bh.p F ar aN jf jf).bind λr7=>(gO.p F r2 r7).bind λr10=>(gv.p F ar aN av aR aw au aO aE kt jf r10).bind λr13=>br.pl29 F k aB ar r13.1 av r13.2.1 aw au r13.2.2.1 ay az aU aA aV r13.2.2.2 jf (IntKind.i64.wrap (kt+1))) else (br.pj2 F aB ar aN av aR aw au aO ay az aU aA aV aE jf))) else (br.pj2 F aB ar aN av aR aw au aO ay az aU aA aV aE jf))
termination_by structural n=>n
theorem br.l29_P {F:Nat} {H0:Hp} {Ri R0:List Rs} {aB ar aH av aw au ay az aM aA:Int} {a_ bK aP bL bM:ON} {aL bl aI bm bo aG:Nat} {bc bN aQ bO bP:Cap} {ca cb ce cf cg:Bool} {ch ci cj ck cl cn co cp cq ct:List AV} :∀ k,br.S29 H0 Ri R0 aB ar aH av aw au ay az aM aA a_ bK aP bL bM aL bl aI bm bo aG bc bN aQ bO bP ca cb ce cf cg ch ci cj ck cl cn co cp cq ct (br.l29 F (aD.tw F) (bh.tw F) (gO.tw F) (gv.tw F) (gF.tw F) (bU.tw F) (bB.tw F)  k) (br.pl29 F  k):=by
 intro k
 induction k with
 | zero=>unfold br.S29;intros;rename_i hp;cases hp
 | succ k ih=>
  intro aN aR aO aU aV cX cY cZ c_ da aE jf kt H fj fk fl fm fo h0 r hp
  obtain ⟨w0,s0,db,dB,dj,dF,dG⟩:=h0
  subst fj
  subst fk
  subst fl
  subst fm
  subst fo
  unfold br.pl29 at hp
  unfold br.l29
  refine ac (ag (w0.ld (i:=5) rfl rfl)) ?_
  refine aW hp (λhp=>?_) λhp=>?_
  ·refine ac (nA (w0.ld (i:=5) rfl rfl)) ?_
   refine aW hp (λhp=>?_) λhp=>?_
   ·refine ac (ag (w0.ld (i:=5) rfl rfl)) ?_
    refine ac (ag (w0.ld (i:=5) rfl rfl)) ?_
    refine ac (aF (w0.ld (i:=5) rfl rfl)) ?_
    have f1:=W.borrow1 (ae .i64) w0 db
    obtain ⟨w1,s1⟩:=w0.right1
    obtain ⟨r2,e2,hp⟩:=aq hp
    refine aT (bh.P rfl ⟨w1,f1⟩ e2) ?_
    rintro _ H3 ⟨rfl,w3,s3,_⟩
    obtain ⟨w4,s4⟩:=W.frame1 w0 w3 s3
    refine ac rfl ?_
    refine eZ (W.cons_of (Rn:=[]) w1 w3 s3) ?_
    refine ac (ag (w4.ld (i:=5) rfl rfl)) ?_
    refine ac (ag (w4.ld (i:=5) rfl rfl)) ?_
    refine ac (aF (w4.ld (i:=5) rfl rfl)) ?_
    have f6:=W.borrow1 (ae .i64) w4 (db.step s4)
    obtain ⟨w6,s6⟩:=w4.right1
    obtain ⟨r7,e7,hp⟩:=aq hp
    refine aT (bh.P rfl ⟨w6,f6⟩ e7) ?_
    rintro _ H8 ⟨rfl,w8,s8,_⟩
    obtain ⟨w9,s9⟩:=W.frame1 w4 w8 s8
    refine ac rfl ?_
    obtain ⟨r10,e10,hp⟩:=aq hp
    refine aT (gO.P ⟨w9,trivial⟩ e10) ?_
    rintro _ H11 ⟨rfl,w11,s11,_⟩
    refine ac rfl ?_
    obtain ⟨w12,s12⟩:=w11.pick' [0,1,2,5,3,4] 6 rfl rfl rfl
    obtain ⟨r13,e13,hp⟩:=aq hp
    refine aT (gv.P rfl rfl rfl ⟨w12,(db.step (s4.trans (s9.trans (s11.trans s12)))),(dB.step (s4.trans (s9.trans (s11.trans s12)))),(dj.step (s4.trans (s9.trans (s11.trans s12))))⟩ e13) ?_
    rintro _ H14 ⟨Ig,Qh,Qi,rfl,hl14_0,hl14_1,hl14_2,w14,s14,f14_0,f14_1,f14_2⟩
    obtain ⟨w15,s15⟩:=w14.pick' [0,1,2,4,5,3] 6 rfl rfl rfl
    exact ih hl14_0 hl14_1 hl14_2 rfl rfl ⟨w15,(s0.trans (s4.trans (s9.trans (s11.trans (s12.trans (s14.trans s15)))))),(f14_0.step s15),(f14_1.step s15),(f14_2.step s15),(dF.step (s4.trans (s9.trans (s11.trans (s12.trans (s14.trans s15)))))),(dG.step (s4.trans (s9.trans (s11.trans (s12.trans (s14.trans s15))))))⟩ hp
   ·exact br.j2_P rfl rfl rfl rfl rfl ⟨w0,s0,db,dB,dj,dF,dG⟩ hp
  ·exact br.j2_P rfl rfl rfl rfl rfl ⟨w0,s0,db,dB,dj,dF,dG⟩ hp
def br.p (F:Nat) (bC:Int) (bi:Int) (dP:List Int) (bv:Int) (fI:List Int) (bj:Int) (bf:Int) (dv:List Int) (bw:Int) (bz:Int) (fJ:List Int) (bA:Int) (fK:List Int) (aE:Bool) (ai:Int):Option (Bool×Bool×List Int×List Int×List Int×List Int×List Int×Bool):=(aD.p F bC bi dP bv fI bj bf dv bw bz fJ bA fK ai).bind λr1=>(bif (!r1.1) then (some (true,true,r1.2.1,r1.2.2.1,r1.2.2.2.1,r1.2.2.2.2.1,r1.2.2.2.2.2,aE)) else (br.pl29 F F bC bi r1.2.1 bv r1.2.2.1 bj bf r1.2.2.2.1 bw bz r1.2.2.2.2.1 bA r1.2.2.2.2.2 aE ai (IntKind.i64.wrap (ai+1))))
theorem br.P {F:Nat} {bC bi bE bv bj bf bw bz bS bA ai:Int} {cL el cz en eo:ON} {bZ dr bV dt du aa:Nat} {cM es cA et eu:Cap} {dP fI dv fJ fK:List Int} {fd fP fe fQ fR aE:Bool} {ff fg ij fS fT i_ fh fi ik fU fV ja fW fX jb:List AV} {H:Hp} {R0:List Rs} (lb:bZ=dP.length) (nU:dr=fI.length) (ke:bV=dv.length) (nV:dt=fJ.length) (nW:du=fK.length) (h0:Inn H (Rs.ow fd ⟨cL,bZ,cM⟩ (ae .i64).z ff ij fg :: Rs.ow fP ⟨el,dr,es⟩ (ae .i64).z fS i_ fT :: Rs.ow fe ⟨cz,bV,cA⟩ (ae .i64).z fh ik fi :: Rs.ow fQ ⟨en,dt,et⟩ (ae .i64).z fU ja fV :: Rs.ow fR ⟨eo,du,eu⟩ (ae .i64).z fW jb fX :: Rs.blk aa [.i bC,.i bi,.sl ⟨cL,bZ,cM⟩,.i bE,.i bv,.sl ⟨el,dr,es⟩,.i bj,.i bf,.sl ⟨cz,bV,cA⟩,.i bw,.i bz,.sl ⟨en,dt,et⟩,.i bS,.i bA,.sl ⟨eo,du,eu⟩,.bool aE] :: R0) λR=>CR (ae .i64) H R ij dP/\CR (ae .i64) H R i_ fI/\CR (ae .i64) H R ik dv/\CR (ae .i64) H R ja fJ/\CR (ae .i64) H R jb fK) {r:Bool×Bool×List Int×List Int×List Int×List Int×List Int×Bool} (hp:br.p F bC bi dP bv fI bj bf dv bw bz fJ bA fK aE ai=some r):∃ v H',br.tw F aa 0 ai H=some (v,H')/\br.Q H (Rs.ow fd ⟨cL,bZ,cM⟩ (ae .i64).z ff ij fg :: Rs.ow fP ⟨el,dr,es⟩ (ae .i64).z fS i_ fT :: Rs.ow fe ⟨cz,bV,cA⟩ (ae .i64).z fh ik fi :: Rs.ow fQ ⟨en,dt,et⟩ (ae .i64).z fU ja fV :: Rs.ow fR ⟨eo,du,eu⟩ (ae .i64).z fW jb fX :: Rs.blk aa [.i bC,.i bi,.sl ⟨cL,bZ,cM⟩,.i bE,.i bv,.sl ⟨el,dr,es⟩,.i bj,.i bf,.sl ⟨cz,bV,cA⟩,.i bw,.i bz,.sl ⟨en,dt,et⟩,.i bS,.i bA,.sl ⟨eo,du,eu⟩,.bool aE] :: R0) R0 bC bi bE bv bj bf bw bz bS bA cL el cz en eo bZ dr bV dt du aa cM es cA et eu fd fP fe fQ fR ff fg fS fT fh fi fU fV fW fX r v H':=by
 obtain ⟨w0,jY,mS,js,mT,mU⟩:=h0
 subst lb
 subst nU
 subst ke
 subst nV
 subst nW
 unfold br.p at hp
 unfold br.tw br.twX
 have s0:=w0.rf
 obtain ⟨r1,e1,hp⟩:=aq hp
 refine aT (aD.P rfl rfl rfl rfl rfl ⟨w0,jY,mS,js,mT,mU⟩ e1) ?_
 rintro _ H2 ⟨Qj,Qk,Ql,Qm,Qn,rfl,hl2_0,hl2_1,hl2_2,hl2_3,hl2_4,w2,s2,f2_0,f2_1,f2_2,f2_3,f2_4⟩
 refine ac rfl ?_
 refine aW hp (λhp=>?_) λhp=>?_
 ·exact aS hp ⟨_,_,_,_,_,rfl,hl2_0,hl2_1,hl2_2,hl2_3,hl2_4,w2,(s0.trans s2),f2_0,f2_1,f2_2,f2_3,f2_4⟩
 ·exact br.l29_P F hl2_0 hl2_1 hl2_2 hl2_3 hl2_4 ⟨w2,(s0.trans s2),f2_0,f2_1,f2_2,f2_3,f2_4⟩ hp
def bu.Q (H0:Hp) (Ri R0:List Rs)  (r:Int×Int×List Int×Int×Int×List Int×Int×Int×List Int×Int×Int×List Int×Int×Int×List Int×Bool) (v:AV) (H':Hp):Prop:=∃ o2a:ON,∃ o2n:Nat,∃ o2c:Cap,∃ o2k:List AV,∃ o5a:ON,∃ o5n:Nat,∃ o5c:Cap,∃ o5k:List AV,∃ o8a:ON,∃ o8n:Nat,∃ o8c:Cap,∃ o8k:List AV,∃ o11a:ON,∃ o11n:Nat,∃ o11c:Cap,∃ o11k:List AV,∃ o14a:ON,∃ o14n:Nat,∃ o14c:Cap,∃ o14k:List AV,∃ ob0:Nat,v=(.ptr ob0 0)/\o2n=(r.2.2.1).length/\o5n=(r.2.2.2.2.2.1).length/\o8n=(r.2.2.2.2.2.2.2.2.1).length/\o11n=(r.2.2.2.2.2.2.2.2.2.2.2.1).length/\o14n=(r.2.2.2.2.2.2.2.2.2.2.2.2.2.2.1).length/\Out H0 Ri H' (Rs.own ⟨o2a,o2n,o2c⟩ (ae .i64).z o2k :: Rs.own ⟨o5a,o5n,o5c⟩ (ae .i64).z o5k :: Rs.own ⟨o8a,o8n,o8c⟩ (ae .i64).z o8k :: Rs.own ⟨o11a,o11n,o11c⟩ (ae .i64).z o11k :: Rs.own ⟨o14a,o14n,o14c⟩ (ae .i64).z o14k :: Rs.blk ob0 [.i r.1,.i r.2.1,.sl ⟨o2a,o2n,o2c⟩,.i r.2.2.2.1,.i r.2.2.2.2.1,.sl ⟨o5a,o5n,o5c⟩,.i r.2.2.2.2.2.2.1,.i r.2.2.2.2.2.2.2.1,.sl ⟨o8a,o8n,o8c⟩,.i r.2.2.2.2.2.2.2.2.2.1,.i r.2.2.2.2.2.2.2.2.2.2.1,.sl ⟨o11a,o11n,o11c⟩,.i r.2.2.2.2.2.2.2.2.2.2.2.2.1,.i r.2.2.2.2.2.2.2.2.2.2.2.2.2.1,.sl ⟨o14a,o14n,o14c⟩,.bool r.2.2.2.2.2.2.2.2.2.2.2.2.2.2.2] :: R0) λR=>CR (ae .i64) H' R o2k (r.2.2.1)/\CR (ae .i64) H' R o5k (r.2.2.2.2.2.1)/\CR (ae .i64) H' R o8k (r.2.2.2.2.2.2.2.2.1)/\CR (ae .i64) H' R o11k (r.2.2.2.2.2.2.2.2.2.2.2.1)/\CR (ae .i64) H' R o14k (r.2.2.2.2.2.2.2.2.2.2.2.2.2.2.1)
def bu.S29 (H0:Hp) (Ri R0:List Rs)  (C:Nat->Nat->Nat->Nat->Int->Hp->OA) (pC:Int->Int->Int->Int->List Int->Int->Int->List Int->Int->Int->List Int->Int->Int->List Int->Int->Int->List Int->Bool->Int->Option (Int×Int×List Int×Int×Int×List Int×Int×Int×List Int×Int×Int×List Int×Int×Int×List Int×Bool)):Prop:=∀ {rY rZ vb vc vd ve vf vg vh vi vj vk mh:Int} {Cp Cq Cr Ct Cu Cv:ON} {yT nm yU yV yW yX yY nL:Nat} {Cw Cx Cy Cz CA CB:Cap} {CC r_ sb se sf sg:List Int} {CD CE CF CG CH:List AV} {vl:Bool},∀ {H:Hp},yT=CC.length->yU=r_.length->yV=sb.length->yW=se.length->yX=sf.length->yY=sg.length->(Out H0 Ri H (Rs.blk nm [.i rY,.i rZ,.sl ⟨Cp,yT,Cw⟩] :: Rs.own ⟨Cq,yU,Cx⟩ (ae .i64).z CD :: Rs.own ⟨Cr,yV,Cy⟩ (ae .i64).z CE :: Rs.own ⟨Ct,yW,Cz⟩ (ae .i64).z CF :: Rs.own ⟨Cu,yX,CA⟩ (ae .i64).z CG :: Rs.own ⟨Cv,yY,CB⟩ (ae .i64).z CH :: Rs.blk nL [.i vb,.i vc,.sl ⟨Cq,yU,Cx⟩,.i vd,.i ve,.sl ⟨Cr,yV,Cy⟩,.i vf,.i vg,.sl ⟨Ct,yW,Cz⟩,.i vh,.i vi,.sl ⟨Cu,yX,CA⟩,.i vj,.i vk,.sl ⟨Cv,yY,CB⟩,.bool vl] :: R0) λR=>ROs (ae .i64) H R ⟨Cp,yT,Cw⟩ CC/\CR (ae .i64) H R CD r_/\CR (ae .i64) H R CE sb/\CR (ae .i64) H R CF se/\CR (ae .i64) H R CG sf/\CR (ae .i64) H R CH sg)->∀ {r:Int×Int×List Int×Int×Int×List Int×Int×Int×List Int×Int×Int×List Int×Int×Int×List Int×Bool},pC rY rZ vb vc r_ vd ve sb vf vg se vh vi sf vj vk sg vl mh=some r->∃ v H',C nm 0 nL 0 mh H=some (v,H')/\bu.Q H0 Ri R0  r v H'
def bu.S938 (H0:Hp) (Ri R0:List Rs)  (C:Nat->Nat->Nat->Nat->Int->Bool->Bool->Hp->OA) (pC:Int->Int->Int->Int->List Int->Int->Int->List Int->Int->Int->List Int->Int->Int->List Int->Int->Int->List Int->Bool->Int->Bool->Bool->Option (Int×Int×List Int×Int×Int×List Int×Int×Int×List Int×Int×Int×List Int×Int×Int×List Int×Bool)):Prop:=∀ {si sj qB qC sk qD qE qF qG qH sm qI ku:Int} {CI CJ CK CL CM CN:ON} {yZ nk y_ za zb zd ze mf:Nat} {CO CP CQ CS CT CU:Cap} {CV qJ qK qL qM qN:List Int} {CW CX CY CZ C_:List AV} {qO nl mg:Bool},∀ {H:Hp},yZ=CV.length->y_=qJ.length->za=qK.length->zb=qL.length->zd=qM.length->ze=qN.length->(Out H0 Ri H (Rs.blk nk [.i si,.i sj,.sl ⟨CI,yZ,CO⟩] :: Rs.own ⟨CJ,y_,CP⟩ (ae .i64).z CW :: Rs.own ⟨CK,za,CQ⟩ (ae .i64).z CX :: Rs.own ⟨CL,zb,CS⟩ (ae .i64).z CY :: Rs.own ⟨CM,zd,CT⟩ (ae .i64).z CZ :: Rs.own ⟨CN,ze,CU⟩ (ae .i64).z C_ :: Rs.blk mf [.i qB,.i qC,.sl ⟨CJ,y_,CP⟩,.i sk,.i qD,.sl ⟨CK,za,CQ⟩,.i qE,.i qF,.sl ⟨CL,zb,CS⟩,.i qG,.i qH,.sl ⟨CM,zd,CT⟩,.i sm,.i qI,.sl ⟨CN,ze,CU⟩,.bool qO] :: R0) λR=>ROs (ae .i64) H R ⟨CI,yZ,CO⟩ CV/\CR (ae .i64) H R CW qJ/\CR (ae .i64) H R CX qK/\CR (ae .i64) H R CY qL/\CR (ae .i64) H R CZ qM/\CR (ae .i64) H R C_ qN)->∀ {r:Int×Int×List Int×Int×Int×List Int×Int×Int×List Int×Int×Int×List Int×Int×Int×List Int×Bool},pC si sj qB qC qJ sk qD qK qE qF qL qG qH qM sm qI qN qO ku nl mg=some r->∃ v H',C nk 0 mf 0 ku nl mg H=some (v,H')/\bu.Q H0 Ri R0  r v H'
def bu.pj3 (F:Nat) (cW:Int->Int->Int->Int->List Int->Int->Int->List Int->Int->Int->List Int->Int->Int->List Int->Int->Int->List Int->Bool->Int->Option (Int×Int×List Int×Int×Int×List Int×Int×Int×List Int×Int×Int×List Int×Int×Int×List Int×Bool)) (zf:Int) (zg:Int) (zh:Int) (zi:Int) (wv:List Int) (zj:Int) (zk:Int) (ww:List Int) (zm:Int) (zn:Int) (wx:List Int) (zo:Int) (zp:Int) (wy:List Int) (zq:Int) (zr:Int) (wz:List Int) (zt:Bool) (tH:Int):Option (Int×Int×List Int×Int×Int×List Int×Int×Int×List Int×Int×Int×List Int×Int×Int×List Int×Bool):=cW zf zg zh zi wv zj zk ww zm zn wx zo zp wy zq zr wz zt (IntKind.i64.wrap (tH+1))
theorem bu.j3_P {F:Nat} {H0:Hp} {Ri R0:List Rs}  {C29_:Nat->Nat->Nat->Nat->Int->Hp->OA} {cW:Int->Int->Int->Int->List Int->Int->Int->List Int->Int->Int->List Int->Int->Int->List Int->Int->Int->List Int->Bool->Int->Option (Int×Int×List Int×Int×Int×List Int×Int×Int×List Int×Int×Int×List Int×Int×Int×List Int×Bool)} (hC29:bu.S29 H0 Ri R0  C29_ cW) {zf zg zh zi zj zk zm zn zo zp zq zr tH:Int} {Ih Ii Ij Ik Il Im:ON} {Da xM Db Dc Dd De Df xN:Nat} {In Io Ip Iq Ir Is:Cap} {It wv ww wx wy wz:List Int} {Iu Iv Iw Ix Iy:List AV} {zt:Bool} {H:Hp} (Qo:Da=It.length) (Qp:Db=wv.length) (Qq:Dc=ww.length) (Qr:Dd=wx.length) (Qs:De=wy.length) (Qt:Df=wz.length) (h0:Out H0 Ri H (Rs.blk xM [.i zf,.i zg,.sl ⟨Ih,Da,In⟩] :: Rs.own ⟨Ii,Db,Io⟩ (ae .i64).z Iu :: Rs.own ⟨Ij,Dc,Ip⟩ (ae .i64).z Iv :: Rs.own ⟨Ik,Dd,Iq⟩ (ae .i64).z Iw :: Rs.own ⟨Il,De,Ir⟩ (ae .i64).z Ix :: Rs.own ⟨Im,Df,Is⟩ (ae .i64).z Iy :: Rs.blk xN [.i zh,.i zi,.sl ⟨Ii,Db,Io⟩,.i zj,.i zk,.sl ⟨Ij,Dc,Ip⟩,.i zm,.i zn,.sl ⟨Ik,Dd,Iq⟩,.i zo,.i zp,.sl ⟨Il,De,Ir⟩,.i zq,.i zr,.sl ⟨Im,Df,Is⟩,.bool zt] :: R0) λR=>ROs (ae .i64) H R ⟨Ih,Da,In⟩ It/\CR (ae .i64) H R Iu wv/\CR (ae .i64) H R Iv ww/\CR (ae .i64) H R Iw wx/\CR (ae .i64) H R Ix wy/\CR (ae .i64) H R Iy wz) {r:Int×Int×List Int×Int×Int×List Int×Int×Int×List Int×Int×Int×List Int×Int×Int×List Int×Bool} (hp:bu.pj3 F cW zf zg zh zi wv zj zk ww zm zn wx zo zp wy zq zr wz zt tH=some r):∃ v H',bu.j3 F (dp.tw F) (br.tw F) C29_ xM 0 xN 0 tH H=some (v,H')/\bu.Q H0 Ri R0  r v H':=by
 obtain ⟨w0,s0,Qu,Qv,Qw,Qx,Qy,Qz⟩:=h0
 subst Qo
 subst Qp
 subst Qq
 subst Qr
 subst Qs
 subst Qt
 unfold bu.pj3 at hp
 unfold bu.j3
 exact hC29 rfl rfl rfl rfl rfl rfl ⟨w0,s0,Qu,Qv,Qw,Qx,Qy,Qz⟩ hp
def bu.pj4 (F:Nat) (cW:Int->Int->Int->Int->List Int->Int->Int->List Int->Int->Int->List Int->Int->Int->List Int->Int->Int->List Int->Bool->Int->Option (Int×Int×List Int×Int×Int×List Int×Int×Int×List Int×Int×Int×List Int×Int×Int×List Int×Bool)) (zu:Int) (zw:Int) (vm:Int) (vn:Int) (sp:List Int) (vo:Int) (vp:Int) (sq:List Int) (vq:Int) (vr:Int) (su:List Int) (vt:Int) (vu:Int) (sv:List Int) (vv:Int) (vw:Int) (sx:List Int) (sy:Bool) (qr:Int) (tI:Bool):Option (Int×Int×List Int×Int×Int×List Int×Int×Int×List Int×Int×Int×List Int×Int×Int×List Int×Bool):=(bif tI then (some (vm,vn,sp,vo,vp,sq,vq,vr,su,vt,vu,sv,vv,vw,sx,sy)) else ((bif sy then (some (vm,vn,sp,vo,vp,sq,vq,vr,su,vt,vu,sv,vv,vw,sx,sy)) else (bu.pj3 F cW zu zw vm vn sp vo vp sq vq vr su vt vu sv vv vw sx sy qr))))
theorem bu.j4_P {F:Nat} {H0:Hp} {Ri R0:List Rs}  {C29_:Nat->Nat->Nat->Nat->Int->Hp->OA} {cW:Int->Int->Int->Int->List Int->Int->Int->List Int->Int->Int->List Int->Int->Int->List Int->Int->Int->List Int->Bool->Int->Option (Int×Int×List Int×Int×Int×List Int×Int×Int×List Int×Int×Int×List Int×Int×Int×List Int×Bool)} (hC29:bu.S29 H0 Ri R0  C29_ cW) {zu zw vm vn vo vp vq vr vt vu vv vw qr:Int} {Iz IA IB IC ID IE:ON} {Dg xO Dh Di Dj Dk Dl rq:Nat} {IF IG IH II IJ IK:Cap} {IL sp sq su sv sx:List Int} {IM IN IP IQ IR:List AV} {sy tI:Bool} {H:Hp} (QA:Dg=IL.length) (QB:Dh=sp.length) (QC:Di=sq.length) (QD:Dj=su.length) (QE:Dk=sv.length) (QF:Dl=sx.length) (h0:Out H0 Ri H (Rs.blk xO [.i zu,.i zw,.sl ⟨Iz,Dg,IF⟩] :: Rs.own ⟨IA,Dh,IG⟩ (ae .i64).z IM :: Rs.own ⟨IB,Di,IH⟩ (ae .i64).z IN :: Rs.own ⟨IC,Dj,II⟩ (ae .i64).z IP :: Rs.own ⟨ID,Dk,IJ⟩ (ae .i64).z IQ :: Rs.own ⟨IE,Dl,IK⟩ (ae .i64).z IR :: Rs.blk rq [.i vm,.i vn,.sl ⟨IA,Dh,IG⟩,.i vo,.i vp,.sl ⟨IB,Di,IH⟩,.i vq,.i vr,.sl ⟨IC,Dj,II⟩,.i vt,.i vu,.sl ⟨ID,Dk,IJ⟩,.i vv,.i vw,.sl ⟨IE,Dl,IK⟩,.bool sy] :: R0) λR=>ROs (ae .i64) H R ⟨Iz,Dg,IF⟩ IL/\CR (ae .i64) H R IM sp/\CR (ae .i64) H R IN sq/\CR (ae .i64) H R IP su/\CR (ae .i64) H R IQ sv/\CR (ae .i64) H R IR sx) {r:Int×Int×List Int×Int×Int×List Int×Int×Int×List Int×Int×Int×List Int×Int×Int×List Int×Bool} (hp:bu.pj4 F cW zu zw vm vn sp vo vp sq vq vr su vt vu sv vv vw sx sy qr tI=some r):∃ v H',bu.j4 F (dp.tw F) (br.tw F) C29_ xO 0 rq 0 qr tI H=some (v,H')/\bu.Q H0 Ri R0  r v H':=by
 obtain ⟨w0,s0,QG,Dm,Dn,Do,Dp,Dq⟩:=h0
 subst QA
 subst QB
 subst QC
 subst QD
 subst QE
 subst QF
 unfold bu.pj4 at hp
 unfold bu.j4
 refine aW hp (λhp=>?_) λhp=>?_
 ·obtain ⟨w1,s1⟩:=w0.pick' [1,2,3,4,5,6] 7 rfl rfl rfl
  exact aS hp ⟨_,_,_,_,_,_,_,_,_,_,_,_,_,_,_,_,_,_,_,_,_,rfl,rfl,rfl,rfl,rfl,rfl,w1,(s0.trans s1),(Dm.step s1),(Dn.step s1),(Do.step s1),(Dp.step s1),(Dq.step s1)⟩
 ·refine ac (nA (w0.ld (i:=6) rfl rfl)) ?_
  refine aW hp (λhp=>?_) λhp=>?_
  ·obtain ⟨w2,s2⟩:=w0.pick' [1,2,3,4,5,6] 7 rfl rfl rfl
   exact aS hp ⟨_,_,_,_,_,_,_,_,_,_,_,_,_,_,_,_,_,_,_,_,_,rfl,rfl,rfl,rfl,rfl,rfl,w2,(s0.trans s2),(Dm.step s2),(Dn.step s2),(Do.step s2),(Dp.step s2),(Dq.step s2)⟩
  ·exact bu.j3_P (@hC29) rfl rfl rfl rfl rfl rfl ⟨w0,s0,QG,Dm,Dn,Do,Dp,Dq⟩ hp
def bu.pl938 (F:Nat) (cW:Int->Int->Int->Int->List Int->Int->Int->List Int->Int->Int->List Int->Int->Int->List Int->Int->Int->List Int->Bool->Int->Option (Int×Int×List Int×Int×Int×List Int×Int×Int×List Int×Int×Int×List Int×Int×Int×List Int×Bool)):Nat->Int->Int->Int->Int->List Int->Int->Int->List Int->Int->Int->List Int->Int->Int->List Int->Int->Int->List Int->Bool->Int->Bool->Bool->Option (Int×Int×List Int×Int×Int×List Int×Int×Int×List Int×Int×Int×List Int×Int×Int×List Int×Bool)
 | 0,_,_,_,_,_,_,_,_,_,_,_,_,_,_,_,_,_,_,_,_,_=>none
 | k+1,si,sj,qB,qC,qJ,sk,qD,qK,qE,qF,qL,qG,qH,qM,sm,qI,qN,qO,ku,nl,mg=>(bif (!nl) then ((bif (!qO) then ((br.p F qB qC qJ qD qK qE qF qL qG qH qM qI qN qO ku).bind λr2=>bu.pl938 F cW k si sj qB qC r2.2.2.1 sk qD r2.2.2.2.1 qE qF r2.2.2.2.2.1 qG qH r2.2.2.2.2.2.1 sm qI r2.2.2.2.2.2.2.1 r2.2.2.2.2.2.2.2 ku r2.1 r2.2.1) else (bu.pj4 F cW si sj qB qC qJ sk qD qK qE qF qL qG qH qM sm qI qN qO ku mg))) else (bu.pj4 F cW si sj qB qC qJ sk qD qK qE qF qL qG qH qM sm qI qN qO ku mg))
termination_by structural n=>n
theorem bu.l938_P {F:Nat} {H0:Hp} {Ri R0:List Rs}  {C29_:Nat->Nat->Nat->Nat->Int->Hp->OA} {cW:Int->Int->Int->Int->List Int->Int->Int->List Int->Int->Int->List Int->Int->Int->List Int->Int->Int->List Int->Bool->Int->Option (Int×Int×List Int×Int×Int×List Int×Int×Int×List Int×Int×Int×List Int×Int×Int×List Int×Bool)} (hC29:bu.S29 H0 Ri R0  C29_ cW):∀ k,bu.S938 H0 Ri R0  (bu.l938 F (dp.tw F) (br.tw F) C29_ k) (bu.pl938 F cW k):=by
 intro k
 induction k with
 | zero=>unfold bu.S938;intros;rename_i hp;cases hp
 | succ k ih=>
  intro si sj qB qC sk qD qE qF qG qH sm qI ku CI CJ CK CL CM CN yZ nk y_ za zb zd ze mf CO CP CQ CS CT CU CV qJ qK qL qM qN CW CX CY CZ C_ qO nl mg H QH QI QJ QK QL QM h0 r hp
  obtain ⟨w0,s0,Dr,Ds,Dt,Du,Dv,Dw⟩:=h0
  subst QH
  subst QI
  subst QJ
  subst QK
  subst QL
  subst QM
  unfold bu.pl938 at hp
  unfold bu.l938
  refine aW hp (λhp=>?_) λhp=>?_
  ·refine ac (nA (w0.ld (i:=6) rfl rfl)) ?_
   refine aW hp (λhp=>?_) λhp=>?_
   ·obtain ⟨w1,s1⟩:=w0.pick' [1,2,3,4,5,6,0] 7 rfl rfl rfl
    obtain ⟨r2,e2,hp⟩:=aq hp
    refine aT (br.P rfl rfl rfl rfl rfl ⟨w1,(Ds.step s1),(Dt.step s1),(Du.step s1),(Dv.step s1),(Dw.step s1)⟩ e2) ?_
    rintro _ H3 ⟨Vy,Vz,VA,VB,VC,rfl,hl3_0,hl3_1,hl3_2,hl3_3,hl3_4,w3,s3,f3_0,f3_1,f3_2,f3_3,f3_4⟩
    refine ac rfl ?_
    refine ac rfl ?_
    refine ac rfl ?_
    refine ac rfl ?_
    refine ac rfl ?_
    obtain ⟨w4,s4⟩:=w3.pick' [6,0,1,2,3,4,5] 7 rfl rfl rfl
    exact ih rfl hl3_0 hl3_1 hl3_2 hl3_3 hl3_4 ⟨w4,(s0.trans (s1.trans (s3.trans s4))),(Dr.step (s1.trans (s3.trans s4))),(f3_0.step s4),(f3_1.step s4),(f3_2.step s4),(f3_3.step s4),(f3_4.step s4)⟩ hp
   ·exact bu.j4_P (@hC29) rfl rfl rfl rfl rfl rfl ⟨w0,s0,Dr,Ds,Dt,Du,Dv,Dw⟩ hp
  ·exact bu.j4_P (@hC29) rfl rfl rfl rfl rfl rfl ⟨w0,s0,Dr,Ds,Dt,Du,Dv,Dw⟩ hp
def bu.pl29 (F:Nat) :Nat->Int->Int->Int->Int->List Int->Int->Int->List Int->Int->Int->List Int->Int->Int->List Int->Int->Int->List Int->Bool->Int->Option (Int×Int×List Int×Int×Int×List Int×Int×Int×List Int×Int×Int×List Int×Int×Int×List Int×Bool)
 | 0,_,_,_,_,_,_,_,_,_,_,_,_,_,_,_,_,_,_,_=>none
 | k+1,rY,rZ,vb,vc,r_,vd,ve,sb,vf,vg,se,vh,vi,sf,vj,vk,sg,vl,mh=>(bif (decide (mh<(if rZ<rY then rZ else rY))) then (bu.pl938 F (bu.pl29 F k) F rY rZ vb vc r_ vd ve sb vf vg se vh vi sf vj vk sg vl mh false false) else (some (vb,vc,r_,vd,ve,sb,vf,vg,se,vh,vi,sf,vj,vk,sg,vl)))
termination_by structural n=>n
theorem bu.l29_P {F:Nat} {H0:Hp} {Ri R0:List Rs}  :∀ k,bu.S29 H0 Ri R0  (bu.l29 F (dp.tw F) (br.tw F)  k) (bu.pl29 F  k):=by
 intro k
 induction k with
 | zero=>unfold bu.S29;intros;rename_i hp;cases hp
 | succ k ih=>
  intro rY rZ vb vc vd ve vf vg vh vi vj vk mh Cp Cq Cr Ct Cu Cv yT nm yU yV yW yX yY nL Cw Cx Cy Cz CA CB CC r_ sb se sf sg CD CE CF CG CH vl H QN QO QP QQ QR QT h0 r hp
  obtain ⟨w0,s0,QU,IS,IT,IU,IV,IW⟩:=h0
  subst QN
  subst QO
  subst QP
  subst QQ
  subst QR
  subst QT
  unfold bu.pl29 at hp
  unfold bu.l29
  refine ac (ag (w0.ld (i:=0) rfl rfl)) ?_
  refine ac (ag (w0.ld (i:=0) rfl rfl)) ?_
  refine aW hp (λhp=>?_) λhp=>?_
  ·exact bu.l938_P (@ih) F rfl rfl rfl rfl rfl rfl ⟨w0,s0,QU,IS,IT,IU,IV,IW⟩ hp
  ·obtain ⟨w1,s1⟩:=w0.pick' [1,2,3,4,5,6] 7 rfl rfl rfl
   exact aS hp ⟨_,_,_,_,_,_,_,_,_,_,_,_,_,_,_,_,_,_,_,_,_,rfl,rfl,rfl,rfl,rfl,rfl,w1,(s0.trans s1),(IS.step s1),(IT.step s1),(IU.step s1),(IV.step s1),(IW.step s1)⟩
def bu.p (F:Nat) (aa:Int) (af:Int) (bg:List Int):Option (Int×Int×List Int×Int×Int×List Int×Int×Int×List Int×Int×Int×List Int×Int×Int×List Int×Bool):=(apn ([]:List Int) bg).bind λl4=>(dp.p F aa).bind λr7=>(dp.p F aa).bind λr10=>(dp.p F af).bind λr13=>(dp.p F af).bind λr16=>bu.pl29 F F aa af aa af l4 r7.1 r7.2.1 r7.2.2 r10.1 r10.2.1 r10.2.2 r13.1 r13.2.1 r13.2.2 r16.1 r16.2.1 r16.2.2 false 0
theorem bu.P {F:Nat} {aa af:Int} {cB:ON} {bR:Nat} {cC:Cap} {bg:List Int} {H:Hp} {R0:List Rs} (fc:bR=bg.length) (h0:Inn H R0 λR=>ROs (ae .i64) H R ⟨cB,bR,cC⟩ bg) {r:Int×Int×List Int×Int×Int×List Int×Int×Int×List Int×Int×Int×List Int×Int×Int×List Int×Bool} (hp:bu.p F aa af bg=some r):∃ v H',bu.tw F aa af ⟨cB,bR,cC⟩ H=some (v,H')/\bu.Q H R0 R0  r v H':=by
 obtain ⟨w0,eC⟩:=h0
 subst fc
 unfold bu.p at hp
 unfold bu.tw bu.twX
 have s0:=w0.rf
 refine cv w0 λH1 w1 s1=>?_
 refine ac (ag (w1.ld (i:=0) rfl rfl)) ?_
 refine ac (ag (w1.ld (i:=0) rfl rfl)) ?_
 refine sM (ae .i64) w1 (n:=0) (l:=([]:List Int)) rfl CR.empty rfl λH2 w2 s2 c2=>?_
 refine ac (aF (w2.ld (i:=1) rfl rfl)) ?_
 obtain ⟨x3,h3,c3⟩:=(eC.step (s1.trans s2)).row rfl
 refine ac h3 ?_
 obtain ⟨l4,e4,hp⟩:=aq hp
 refine xj (ae .i64) w2 (i:=0) rfl rfl c2 c3 rfl rfl e4 λa5 d5 H5 w5 s5 c5 x5=>?_
 refine eZ (x5 ⟨_,rfl⟩) ?_
 refine ac (ag (w5.ld (i:=1) rfl rfl)) ?_
 obtain ⟨r7,e7,hp⟩:=aq hp
 refine aT (dp.P ⟨w5,trivial⟩ e7) ?_
 rintro _ H8 ⟨o2a_8,o2n_8,o2c_8,o2k_8,rfl,rfl,w8,s8,f8_0⟩
 refine ac rfl ?_
 refine ac rfl ?_
 refine ac rfl ?_
 refine ac rfl ?_
 refine ac rfl ?_
 refine ac rfl ?_
 refine ac rfl ?_
 refine eZ (W.cons_of (Rn:=[_]) w5 w8 s8) ?_
 refine ac (ag (w8.ld (i:=2) rfl rfl)) ?_
 obtain ⟨r10,e10,hp⟩:=aq hp
 refine aT (dp.P ⟨w8,trivial⟩ e10) ?_
 rintro _ H11 ⟨o2a_11,o2n_11,o2c_11,o2k_11,rfl,rfl,w11,s11,f11_0⟩
 refine ac rfl ?_
 refine ac rfl ?_
 refine ac rfl ?_
 refine ac rfl ?_
 refine ac rfl ?_
 refine ac rfl ?_
 refine ac rfl ?_
 refine eZ (W.cons_of (Rn:=[_]) w8 w11 s11) ?_
 refine ac (ag (w11.ld (i:=3) rfl rfl)) ?_
 obtain ⟨r13,e13,hp⟩:=aq hp
 refine aT (dp.P ⟨w11,trivial⟩ e13) ?_
 rintro _ H14 ⟨o2a_14,o2n_14,o2c_14,o2k_14,rfl,rfl,w14,s14,f14_0⟩
 refine ac rfl ?_
 refine ac rfl ?_
 refine ac rfl ?_
 refine ac rfl ?_
 refine ac rfl ?_
 refine ac rfl ?_
 refine ac rfl ?_
 refine eZ (W.cons_of (Rn:=[_]) w11 w14 s14) ?_
 refine ac (ag (w14.ld (i:=4) rfl rfl)) ?_
 obtain ⟨r16,e16,hp⟩:=aq hp
 refine aT (dp.P ⟨w14,trivial⟩ e16) ?_
 rintro _ H17 ⟨o2a_17,o2n_17,o2c_17,o2k_17,rfl,rfl,w17,s17,f17_0⟩
 refine ac rfl ?_
 refine ac rfl ?_
 refine ac rfl ?_
 refine ac rfl ?_
 refine ac rfl ?_
 refine ac rfl ?_
 refine ac rfl ?_
 refine eZ (W.cons_of (Rn:=[_]) w14 w17 s17) ?_
 refine cv w17 λH19 w19 s19=>?_
 obtain ⟨w20,s20⟩:=w19.pick' [6,5,4,3,2,1,0] 7 rfl rfl rfl
 exact bu.l29_P F rfl rfl rfl rfl rfl rfl ⟨w20,(s0.trans (s1.trans (s2.trans (s5.trans (s8.trans (s11.trans (s14.trans (s17.trans (s19.trans s20))))))))),(eC.step (s1.trans (s2.trans (s5.trans (s8.trans (s11.trans (s14.trans (s17.trans (s19.trans s20))))))))),(c5.step (s8.trans (s11.trans (s14.trans (s17.trans (s19.trans s20)))))),(f8_0.step (s11.trans (s14.trans (s17.trans (s19.trans s20))))),(f11_0.step (s14.trans (s17.trans (s19.trans s20)))),(f14_0.step (s17.trans (s19.trans s20))),(f17_0.step (s19.trans s20))⟩ hp
def bY.Q (H0:Hp) (Ri R0:List Rs)  (r:List Int×Bool) (v:AV) (H':Hp):Prop:=∃ o0a:ON,∃ o0n:Nat,∃ o0c:Cap,∃ o0k:List AV,v=(.tup [(.sl ⟨o0a,o0n,o0c⟩),(.bool r.2)])/\o0n=(r.1).length/\Out H0 Ri H' (Rs.own ⟨o0a,o0n,o0c⟩ (ae .i64).z o0k :: R0) λR=>CR (ae .i64) H' R o0k (r.1)
def bY.S61 (H0:Hp) (Ri R0:List Rs)  (C:Nat->Nat->Nat->Nat->Sl->Int->Hp->OA) (pC:Int->Int->Int->List Int->Bool->List Int->Int->Option (List Int×Bool)):Prop:=∀ {qP qQ IX sz IY IZ I_ Ja Jb Jc Jd Je fH:Int} {Dx Dy Dz DA DB DC DD:ON} {zx mK zy zA zB zC zD eE zE:Nat} {DE DF DG DH DI DJ DK:Cap} {DL qR DM DN DO DP p_:List Int} {DQ DR DS DT DU DV:List AV} {qa:Bool},∀ {H:Hp},zx=DL.length->zy=qR.length->zA=DM.length->zB=DN.length->zC=DO.length->zD=DP.length->zE=p_.length->(Out H0 Ri H (Rs.blk mK [.i qP,.i qQ,.sl ⟨Dx,zx,DE⟩] :: Rs.own ⟨Dy,zy,DF⟩ (ae .i64).z DQ :: Rs.own ⟨Dz,zA,DG⟩ (ae .i64).z DR :: Rs.own ⟨DA,zB,DH⟩ (ae .i64).z DS :: Rs.own ⟨DB,zC,DI⟩ (ae .i64).z DT :: Rs.own ⟨DC,zD,DJ⟩ (ae .i64).z DU :: Rs.blk eE [.i IX,.i sz,.sl ⟨Dy,zy,DF⟩,.i IY,.i IZ,.sl ⟨Dz,zA,DG⟩,.i I_,.i Ja,.sl ⟨DA,zB,DH⟩,.i Jb,.i Jc,.sl ⟨DB,zC,DI⟩,.i Jd,.i Je,.sl ⟨DC,zD,DJ⟩,.bool qa] :: Rs.own ⟨DD,zE,DK⟩ (ae .i64).z DV :: R0) λR=>ROs (ae .i64) H R ⟨Dx,zx,DE⟩ DL/\CR (ae .i64) H R DQ qR/\CR (ae .i64) H R DR DM/\CR (ae .i64) H R DS DN/\CR (ae .i64) H R DT DO/\CR (ae .i64) H R DU DP/\CR (ae .i64) H R DV p_)->∀ {r:List Int×Bool},pC qP qQ sz qR qa p_ fH=some r->∃ v H',C mK 0 eE 0 ⟨DD,zE,DK⟩ fH H=some (v,H')/\bY.Q H0 Ri R0  r v H'
def bY.pj3 (F:Nat) (jn:Int->Int->Int->List Int->Bool->List Int->Int->Option (List Int×Bool)) (zF:Int) (zG:Int) (zH:Int) (wA:List Int) (zI:Bool) (wB:List Int) (tJ:Int):Option (List Int×Bool):=jn zF zG zH wA zI wB (IntKind.i64.wrap (tJ+1))
theorem bY.j3_P {F:Nat} {H0:Hp} {Ri R0:List Rs}  {C61_:Nat->Nat->Nat->Nat->Sl->Int->Hp->OA} {jn:Int->Int->Int->List Int->Bool->List Int->Int->Option (List Int×Bool)} (hC61:bY.S61 H0 Ri R0  C61_ jn) {zF zG QV zH QW QX QY QZ Q_ Ra Rc Rd tJ:Int} {Jf Jg Jh Ji Jj Jk Jl:ON} {DW xR DX DY DZ D_ Ea xS Eb:Nat} {Jm Jn Jo Jp Jq Jr Js:Cap} {Jt wA Ju Jv Jw Jx wB:List Int} {Jy Jz JA JB JC JD:List AV} {zI:Bool} {H:Hp} (Re:DW=Jt.length) (Rf:DX=wA.length) (Rg:DY=Ju.length) (Rh:DZ=Jv.length) (Rj:D_=Jw.length) (Rk:Ea=Jx.length) (Rl:Eb=wB.length) (h0:Out H0 Ri H (Rs.blk xR [.i zF,.i zG,.sl ⟨Jf,DW,Jm⟩] :: Rs.own ⟨Jg,DX,Jn⟩ (ae .i64).z Jy :: Rs.own ⟨Jh,DY,Jo⟩ (ae .i64).z Jz :: Rs.own ⟨Ji,DZ,Jp⟩ (ae .i64).z JA :: Rs.own ⟨Jj,D_,Jq⟩ (ae .i64).z JB :: Rs.own ⟨Jk,Ea,Jr⟩ (ae .i64).z JC :: Rs.blk xS [.i QV,.i zH,.sl ⟨Jg,DX,Jn⟩,.i QW,.i QX,.sl ⟨Jh,DY,Jo⟩,.i QY,.i QZ,.sl ⟨Ji,DZ,Jp⟩,.i Q_,.i Ra,.sl ⟨Jj,D_,Jq⟩,.i Rc,.i Rd,.sl ⟨Jk,Ea,Jr⟩,.bool zI] :: Rs.own ⟨Jl,Eb,Js⟩ (ae .i64).z JD :: R0) λR=>ROs (ae .i64) H R ⟨Jf,DW,Jm⟩ Jt/\CR (ae .i64) H R Jy wA/\CR (ae .i64) H R Jz Ju/\CR (ae .i64) H R JA Jv/\CR (ae .i64) H R JB Jw/\CR (ae .i64) H R JC Jx/\CR (ae .i64) H R JD wB) {r:List Int×Bool} (hp:bY.pj3 F jn zF zG zH wA zI wB tJ=some r):∃ v H',bY.j3 F (bu.tw F) (bh.tw F) C61_ xR 0 xS 0 ⟨Jl,Eb,Js⟩ tJ H=some (v,H')/\bY.Q H0 Ri R0  r v H':=by
 obtain ⟨w0,s0,Rm,Rp,Rq,Rr,Rt,Ru,Rv⟩:=h0
 subst Re
 subst Rf
 subst Rg
 subst Rh
 subst Rj
 subst Rk
 subst Rl
 unfold bY.pj3 at hp
 unfold bY.j3
 exact hC61 rfl rfl rfl rfl rfl rfl rfl ⟨w0,s0,Rm,Rp,Rq,Rr,Rt,Ru,Rv⟩ hp
def bY.pj2 (F:Nat)  (zJ:Bool) (wC:List Int):Option (List Int×Bool):=some (wC,(!zJ))
theorem bY.j2_P {F:Nat} {H0:Hp} {Ri R0:List Rs}   {Rw Rx Ry Rz RA RB RC RD RE RF:Int} {JE JF JG JH JI JJ:ON} {Ec Ed Ee Ef Eg xQ Eh:Nat} {JK JL JM JN JO JP:Cap} {JQ JR JS JT JU wC:List Int} {JV JW JX JY JZ J_:List AV} {zJ:Bool} {H:Hp} (RG:Ec=JQ.length) (RH:Ed=JR.length) (RI:Ee=JS.length) (RJ:Ef=JT.length) (RK:Eg=JU.length) (RL:Eh=wC.length) (h0:Out H0 Ri H (Rs.own ⟨JE,Ec,JK⟩ (ae .i64).z JV :: Rs.own ⟨JF,Ed,JL⟩ (ae .i64).z JW :: Rs.own ⟨JG,Ee,JM⟩ (ae .i64).z JX :: Rs.own ⟨JH,Ef,JN⟩ (ae .i64).z JY :: Rs.own ⟨JI,Eg,JO⟩ (ae .i64).z JZ :: Rs.blk xQ [.i Rw,.i Rx,.sl ⟨JE,Ec,JK⟩,.i Ry,.i Rz,.sl ⟨JF,Ed,JL⟩,.i RA,.i RB,.sl ⟨JG,Ee,JM⟩,.i RC,.i RD,.sl ⟨JH,Ef,JN⟩,.i RE,.i RF,.sl ⟨JI,Eg,JO⟩,.bool zJ] :: Rs.own ⟨JJ,Eh,JP⟩ (ae .i64).z J_ :: R0) λR=>CR (ae .i64) H R JV JQ/\CR (ae .i64) H R JW JR/\CR (ae .i64) H R JX JS/\CR (ae .i64) H R JY JT/\CR (ae .i64) H R JZ JU/\CR (ae .i64) H R J_ wC) {r:List Int×Bool} (hp:bY.pj2 F  zJ wC=some r):∃ v H',bY.j2 F (bu.tw F) (bh.tw F)  xQ 0 ⟨JJ,Eh,JP⟩ H=some (v,H')/\bY.Q H0 Ri R0  r v H':=by
 obtain ⟨w0,s0,VD,VE,VF,VG,VH,RM⟩:=h0
 subst RG
 subst RH
 subst RI
 subst RJ
 subst RK
 subst RL
 unfold bY.pj2 at hp
 unfold bY.j2
 refine ac (nA (w0.ld (i:=5) rfl rfl)) ?_
 obtain ⟨w1,s1⟩:=w0.pick' [6] 7 rfl rfl rfl
 exact aS hp ⟨_,_,_,_,rfl,rfl,w1,(s0.trans s1),(RM.step s1)⟩
def bY.pl61 (F:Nat) :Nat->Int->Int->Int->List Int->Bool->List Int->Int->Option (List Int×Bool)
 | 0,_,_,_,_,_,_,_=>none
 | k+1,qP,qQ,sz,qR,qa,p_,fH=>(bif (decide (fH<(if qQ<qP then qQ else qP))) then ((bif (!qa) then ((bh.p F sz qR fH fH).bind λr3=>(bif (r3 != 0) then ((apn p_ ([r3]:List Int)).bind λl7=>bY.pj3 F (bY.pl61 F k) qP qQ sz qR qa l7 fH) else (bY.pj3 F (bY.pl61 F k) qP qQ sz qR qa p_ fH))) else (bY.pj2 F qa p_))) else (bY.pj2 F qa p_))
termination_by structural n=>n
theorem bY.l61_P {F:Nat} {H0:Hp} {Ri R0:List Rs}  :∀ k,bY.S61 H0 Ri R0  (bY.l61 F (bu.tw F) (bh.tw F)  k) (bY.pl61 F  k):=by
 intro k
 induction k with
 | zero=>unfold bY.S61;intros;rename_i hp;cases hp
 | succ k ih=>
  intro qP qQ IX sz IY IZ I_ Ja Jb Jc Jd Je fH Dx Dy Dz DA DB DC DD zx mK zy zA zB zC zD eE zE DE DF DG DH DI DJ DK DL qR DM DN DO DP p_ DQ DR DS DT DU DV qa H RN RO RP RQ RR RS RT h0 r hp
  obtain ⟨w0,s0,Ka,wD,zK,zL,zM,zN,zO⟩:=h0
  subst RN
  subst RO
  subst RP
  subst RQ
  subst RR
  subst RS
  subst RT
  unfold bY.pl61 at hp
  unfold bY.l61
  refine ac (ag (w0.ld (i:=0) rfl rfl)) ?_
  refine ac (ag (w0.ld (i:=0) rfl rfl)) ?_
  refine aW hp (λhp=>?_) λhp=>?_
  ·refine ac (nA (w0.ld (i:=6) rfl rfl)) ?_
   refine aW hp (λhp=>?_) λhp=>?_
   ·refine ac (ag (w0.ld (i:=6) rfl rfl)) ?_
    refine ac (ag (w0.ld (i:=6) rfl rfl)) ?_
    refine ac (aF (w0.ld (i:=6) rfl rfl)) ?_
    obtain ⟨w1,s1⟩:=w0.pick' [1,0,2,3,4,5,6,7] 8 rfl rfl rfl
    have f2:=W.borrow1 (ae .i64) w1 (wD.step s1)
    obtain ⟨w2,s2⟩:=w1.right1
    obtain ⟨r3,e3,hp⟩:=aq hp
    refine aT (bh.P rfl ⟨w2,f2⟩ e3) ?_
    rintro _ H4 ⟨rfl,w4,s4,_⟩
    obtain ⟨w5,s5⟩:=W.frame1 w1 w4 s4
    refine ac rfl ?_
    refine aW hp (λhp=>?_) λhp=>?_
    ·refine sM (ae .i64) w5 (n:=1) (l:=([r3]:List Int)) rfl (CR.cons1 rfl CR.empty) rfl λH6 w6 s6 c6=>?_
     refine ac (w6.rowo (i:=0) rfl) ?_
     obtain ⟨l7,e7,hp⟩:=aq hp
     refine xj (ae .i64) w6 (i:=8) rfl rfl (zO.step (s1.trans (s5.trans s6))) c6 (show 1=List.length ([r3]:List Int) from rfl) rfl e7 λa8 d8 H8 w8 s8 c8 x8=>?_
     obtain ⟨w9,s9⟩:=w8.pick' [2,1,3,4,5,6,7,8] 9 rfl rfl rfl
     dsimp only [pk,pks,nth,List.drop,List.set,List.eraseIdx] at w9 s9
     exact bY.j3_P (@ih) rfl rfl rfl rfl rfl rfl rfl ⟨w9,(s0.trans (s1.trans (s5.trans (s6.trans (s8.trans s9))))),(Ka.step (s1.trans (s5.trans (s6.trans (s8.trans s9))))),(wD.step (s1.trans (s5.trans (s6.trans (s8.trans s9))))),(zK.step (s1.trans (s5.trans (s6.trans (s8.trans s9))))),(zL.step (s1.trans (s5.trans (s6.trans (s8.trans s9))))),(zM.step (s1.trans (s5.trans (s6.trans (s8.trans s9))))),(zN.step (s1.trans (s5.trans (s6.trans (s8.trans s9))))),(c8.step s9)⟩ hp
    ·obtain ⟨w10,s10⟩:=w5.pick' [1,0,2,3,4,5,6,7] 8 rfl rfl rfl
     exact bY.j3_P (@ih) rfl rfl rfl rfl rfl rfl rfl ⟨w10,(s0.trans (s1.trans (s5.trans s10))),(Ka.step (s1.trans (s5.trans s10))),(wD.step (s1.trans (s5.trans s10))),(zK.step (s1.trans (s5.trans s10))),(zL.step (s1.trans (s5.trans s10))),(zM.step (s1.trans (s5.trans s10))),(zN.step (s1.trans (s5.trans s10))),(zO.step (s1.trans (s5.trans s10)))⟩ hp
   ·obtain ⟨w11,s11⟩:=w0.pick' [1,2,3,4,5,6,7] 8 rfl rfl rfl
    exact bY.j2_P rfl rfl rfl rfl rfl rfl ⟨w11,(s0.trans s11),(wD.step s11),(zK.step s11),(zL.step s11),(zM.step s11),(zN.step s11),(zO.step s11)⟩ hp
  ·obtain ⟨w12,s12⟩:=w0.pick' [1,2,3,4,5,6,7] 8 rfl rfl rfl
   exact bY.j2_P rfl rfl rfl rfl rfl rfl ⟨w12,(s0.trans s12),(wD.step s12),(zK.step s12),(zL.step s12),(zM.step s12),(zN.step s12),(zO.step s12)⟩ hp
def bY.p (F:Nat) (aa:Int) (af:Int) (bg:List Int):Option (List Int×Bool):=(bu.p F aa af bg).bind λr2=>bY.pl61 F F aa af r2.2.1 r2.2.2.1 r2.2.2.2.2.2.2.2.2.2.2.2.2.2.2.2 ([]:List Int) 0
theorem bY.P {F:Nat} {aa af:Int} {cB:ON} {bR:Nat} {cC:Cap} {bg:List Int} {H:Hp} {R0:List Rs} (fc:bR=bg.length) (h0:Inn H R0 λR=>ROs (ae .i64) H R ⟨cB,bR,cC⟩ bg) {r:List Int×Bool} (hp:bY.p F aa af bg=some r):∃ v H',bY.tw F aa af ⟨cB,bR,cC⟩ H=some (v,H')/\bY.Q H R0 R0  r v H':=by
 obtain ⟨w0,eC⟩:=h0
 subst fc
 unfold bY.p at hp
 unfold bY.tw bY.twX
 have s0:=w0.rf
 refine cv w0 λH1 w1 s1=>?_
 refine ac (ag (w1.ld (i:=0) rfl rfl)) ?_
 refine ac (ag (w1.ld (i:=0) rfl rfl)) ?_
 refine ac (aF (w1.ld (i:=0) rfl rfl)) ?_
 obtain ⟨r2,e2,hp⟩:=aq hp
 refine aT (bu.P rfl ⟨w1,(eC.step s1)⟩ e2) ?_
 rintro _ H3 ⟨o2a_3,o2n_3,o2c_3,o2k_3,o5a_3,o5n_3,o5c_3,o5k_3,o8a_3,o8n_3,o8c_3,o8k_3,o11a_3,o11n_3,o11c_3,o11k_3,o14a_3,o14n_3,o14c_3,o14k_3,ob0_3,rfl,rfl,rfl,rfl,rfl,rfl,w3,s3,f3_0,f3_1,f3_2,f3_3,f3_4⟩
 refine ac rfl ?_
 refine sM (ae .i64) w3 (n:=0) (l:=([]:List Int)) rfl CR.empty rfl λH4 w4 s4 c4=>?_
 obtain ⟨w5,s5⟩:=w4.pick' [7,1,2,3,4,5,6,0] 8 rfl rfl rfl
 exact bY.l61_P F rfl rfl rfl rfl rfl rfl (show 0=List.length ([]:List Int) from rfl) ⟨w5,(s0.trans (s1.trans (s3.trans (s4.trans s5)))),(eC.step (s1.trans (s3.trans (s4.trans s5)))),(f3_0.step (s4.trans s5)),(f3_1.step (s4.trans s5)),(f3_2.step (s4.trans s5)),(f3_3.step (s4.trans s5)),(f3_4.step (s4.trans s5)),(c4.step s5)⟩ hp
def dc.Q (H0:Hp) (Ri R0:List Rs)  (r:List Int) (v:AV) (H':Hp):Prop:=∃ o0a:ON,∃ o0n:Nat,∃ o0c:Cap,∃ o0k:List AV,v=(.sl ⟨o0a,o0n,o0c⟩)/\o0n=(r).length/\Out H0 Ri H' (Rs.own ⟨o0a,o0n,o0c⟩ (ae .i64).z o0k :: R0) λR=>CR (ae .i64) H' R o0k (r)
def dc.S29 (H0:Hp) (Ri R0:List Rs)  (C:Sl->Sl->Int->Hp->OA) (pC:List Int->List Int->Int->Option (List Int)):Prop:=∀ {mP rD:ON} {kX pR:Nat} {mQ rE:Cap} {eL lM:List Int} {rF:List AV} {fE:Int},∀ {H:Hp},kX=eL.length->pR=lM.length->(Out H0 Ri H (Rs.own ⟨rD,pR,rE⟩ (ae .i64).z rF :: R0) λR=>ROs (ae .i64) H R ⟨mP,kX,mQ⟩ eL/\CR (ae .i64) H R rF lM)->∀ {r:List Int},pC eL lM fE=some r->∃ v H',C ⟨mP,kX,mQ⟩ ⟨rD,pR,rE⟩ fE H=some (v,H')/\dc.Q H0 Ri R0  r v H'
def dc.pj2 (F:Nat) (cW:List Int->List Int->Int->Option (List Int)) (wE:List Int) (wF:List Int) (tK:Int):Option (List Int):=cW wE wF (IntKind.i64.wrap (tK+1))
theorem dc.j2_P {F:Nat} {H0:Hp} {Ri R0:List Rs}  {C29_:Sl->Sl->Int->Hp->OA} {cW:List Int->List Int->Int->Option (List Int)} (hC29:dc.S29 H0 Ri R0  C29_ cW) {Kb Kc:ON} {Ei Ej:Nat} {Kd Ke:Cap} {wE wF:List Int} {Kf:List AV} {tK:Int} {H:Hp} (RU:Ei=wE.length) (RV:Ej=wF.length) (h0:Out H0 Ri H (Rs.own ⟨Kc,Ej,Ke⟩ (ae .i64).z Kf :: R0) λR=>ROs (ae .i64) H R ⟨Kb,Ei,Kd⟩ wE/\CR (ae .i64) H R Kf wF) {r:List Int} (hp:dc.pj2 F cW wE wF tK=some r):∃ v H',dc.j2 F  C29_ ⟨Kb,Ei,Kd⟩ ⟨Kc,Ej,Ke⟩ tK H=some (v,H')/\dc.Q H0 Ri R0  r v H':=by
 obtain ⟨w0,s0,RW,RX⟩:=h0
 subst RU
 subst RV
 unfold dc.pj2 at hp
 unfold dc.j2
 exact hC29 rfl rfl ⟨w0,s0,RW,RX⟩ hp
def dc.pl29 (F:Nat) :Nat->List Int->List Int->Int->Option (List Int)
 | 0,_,_,_=>none
 | k+1,eL,lM,fE=>(bif (decide (fE<(eL.length:Int))) then ((ix eL fE).bind λn1=>(bif (decide ((gt eL n1)>1)) then ((ix eL fE).bind λn2=>(apn lM ([(gt eL n2)]:List Int)).bind λl4=>dc.pj2 F (dc.pl29 F k) eL l4 fE) else (dc.pj2 F (dc.pl29 F k) eL lM fE))) else (some lM))
termination_by structural n=>n
theorem dc.l29_P {F:Nat} {H0:Hp} {Ri R0:List Rs}  :∀ k,dc.S29 H0 Ri R0  (dc.l29 F   k) (dc.pl29 F  k):=by
 intro k
 induction k with
 | zero=>unfold dc.S29;intros;rename_i hp;cases hp
 | succ k ih=>
  intro mP rD kX pR mQ rE eL lM rF fE H pS Bb h0 r hp
  obtain ⟨w0,s0,lN,rG⟩:=h0
  subst pS
  subst Bb
  unfold dc.pl29 at hp
  unfold dc.l29
  refine aW hp (λhp=>?_) λhp=>?_
  ·obtain ⟨n1,g1,hp⟩:=aq hp
   obtain ⟨p1,q1,i1,h1,j1⟩:=ROs.ixr lN rfl g1
   refine ac i1 ?_
   have h1:_=[_]:=h1
   subst h1
   refine ac (ag (j1 0 _ rfl)) ?_
   refine aW hp (λhp=>?_) λhp=>?_
   ·obtain ⟨n2,g2,hp⟩:=aq hp
    obtain ⟨p2,q2,i2,h2,j2⟩:=ROs.ixr lN rfl g2
    refine ac i2 ?_
    have h2:_=[_]:=h2
    subst h2
    refine ac (ag (j2 0 _ rfl)) ?_
    refine sM (ae .i64) w0 (n:=1) (l:=([(gt eL n2)]:List Int)) rfl (CR.cons1 rfl CR.empty) rfl λH3 w3 s3 c3=>?_
    refine ac (w3.rowo (i:=0) rfl) ?_
    obtain ⟨l4,e4,hp⟩:=aq hp
    refine xj (ae .i64) w3 (i:=1) rfl rfl (rG.step s3) c3 (show 1=List.length ([(gt eL n2)]:List Int) from rfl) rfl e4 λa5 d5 H5 w5 s5 c5 x5=>?_
    obtain ⟨w6,s6⟩:=w5.pick' [1] 2 rfl rfl rfl
    exact dc.j2_P (@ih) rfl rfl ⟨w6,(s0.trans (s3.trans (s5.trans s6))),(lN.step (s3.trans (s5.trans s6))),(c5.step s6)⟩ hp
   ·exact dc.j2_P (@ih) rfl rfl ⟨w0,s0,lN,rG⟩ hp
  ·exact aS hp ⟨_,_,_,_,rfl,rfl,w0,s0,rG⟩
def dc.p (F:Nat) (bQ:List Int):Option (List Int):=dc.pl29 F F bQ ([]:List Int) 0
theorem dc.P {F:Nat} {ef:ON} {cR:Nat} {eg:Cap} {bQ:List Int} {H:Hp} {R0:List Rs} (gz:cR=bQ.length) (h0:Inn H R0 λR=>ROs (ae .i64) H R ⟨ef,cR,eg⟩ bQ) {r:List Int} (hp:dc.p F bQ=some r):∃ v H',dc.tw F ⟨ef,cR,eg⟩ H=some (v,H')/\dc.Q H R0 R0  r v H':=by
 obtain ⟨w0,gL⟩:=h0
 subst gz
 unfold dc.p at hp
 unfold dc.tw dc.twX
 have s0:=w0.rf
 refine sM (ae .i64) w0 (n:=0) (l:=([]:List Int)) rfl CR.empty rfl λH1 w1 s1 c1=>?_
 exact dc.l29_P F rfl (show 0=List.length ([]:List Int) from rfl) ⟨w1,(s0.trans s1),(gL.step s1),c1⟩ hp
def gW.Q (H0:Hp) (Ri R0:List Rs)  (r:Int×List Int×Int) (v:AV) (H':Hp):Prop:=∃ o1a:ON,∃ o1n:Nat,∃ o1c:Cap,∃ o1k:List AV,v=(.tup [(.agg [(.i r.1),(.sl ⟨o1a,o1n,o1c⟩)]),(.i r.2.2)])/\o1n=(r.2.1).length/\Out H0 Ri H' (Rs.own ⟨o1a,o1n,o1c⟩ (ae .i64).z o1k :: R0) λR=>CR (ae .i64) H' R o1k (r.2.1)
def gW.p (F:Nat) (aa:Int) (af:Int) (bg:List Int) (aj:Int) (aJ:Int) (ev:List Int):Option (Int×List Int×Int):=(dQ.p F aa af bg).bind λr4=>(bif (!r4) then (some (0,([]:List Int),1)) else ((dQ.p F aj aJ ev).bind λr10=>(bif (!r10) then (some (0,([]:List Int),1)) else ((bif (aJ != aa) then (some (0,([]:List Int),2)) else ((aK.p F aj aJ ev af bg).bind λr20=>(bif (!r20.2.2.2) then (some (0,([]:List Int),3)) else ((eV.p F aj af).bind λr30=>(dV.p F r20.1 r20.2.1 r20.2.2.1 r30.1 r30.2.1 r30.2.2).bind λr36=>(bif (!r36) then (some (0,([]:List Int),5)) else ((bY.p F aa af bg).bind λr44=>(bY.p F aj aJ ev).bind λr46=>(bif (!r44.2) then (some (0,([]:List Int),3)) else ((bif (!r46.2) then (some (0,([]:List Int),3)) else ((dc.p F r44.1).bind λr58=>some ((IntKind.i64.wrap ((IntKind.i64.wrap (aa - (r44.1.length:Int))) - (r46.1.length:Int))),r58,0)))))))))))))))
theorem gW.P {F:Nat} {aa af aj aJ:Int} {cB jy:ON} {bR ii:Nat} {cC jz:Cap} {bg ev:List Int} {H:Hp} {R0:List Rs} (fc:bR=bg.length) (mR:ii=ev.length) (h0:Inn H R0 λR=>ROs (ae .i64) H R ⟨cB,bR,cC⟩ bg/\ROs (ae .i64) H R ⟨jy,ii,jz⟩ ev) {r:Int×List Int×Int} (hp:gW.p F aa af bg aj aJ ev=some r):∃ v H',gW.tw F aa af ⟨cB,bR,cC⟩ aj aJ ⟨jy,ii,jz⟩ H=some (v,H')/\gW.Q H R0 R0  r v H':=by
 obtain ⟨w0,eC,jA⟩:=h0
 subst fc
 subst mR
 unfold gW.p at hp
 unfold gW.tw gW.twX
 have s0:=w0.rf
 refine cv w0 λH1 w1 s1=>?_
 refine cv w1 λH2 w2 s2=>?_
 refine cv w2 λH3 w3 s3=>?_
 refine ac (ag (w3.ld (i:=2) rfl rfl)) ?_
 refine ac (ag (w3.ld (i:=2) rfl rfl)) ?_
 refine ac (aF (w3.ld (i:=2) rfl rfl)) ?_
 obtain ⟨r4,e4,hp⟩:=aq hp
 refine aT (dQ.P rfl ⟨w3,(eC.step (s1.trans (s2.trans s3)))⟩ e4) ?_
 rintro _ H5 ⟨rfl,w5,s5,_⟩
 refine ac rfl ?_
 refine aW hp (λhp=>?_) λhp=>?_
 ·refine aY w5 (i:=0) rfl rfl rfl λH6 w6 s6=>?_
  refine aY w6 (i:=0) rfl rfl rfl λH7 w7 s7=>?_
  refine ac (ag (w7.ld (i:=0) rfl rfl)) ?_
  refine ac (aF (w7.ld (i:=0) rfl rfl)) ?_
  obtain ⟨w8,s8⟩:=w7.nilS (ae .i64).z (by decide)
  obtain ⟨w9,s9⟩:=w8.pick' [0] 4 rfl rfl rfl
  dsimp only [pk,pks,nth,List.drop,List.set,List.eraseIdx] at w9 s9
  exact aS hp ⟨_,_,_,_,rfl,rfl,w9,(s0.trans (s1.trans (s2.trans (s3.trans (s5.trans (s6.trans (s7.trans (s8.trans s9)))))))),((CR.empty:CR (ae .i64) _ _ [] []).step s9)⟩
 ·refine ac (ag (w5.ld (i:=1) rfl rfl)) ?_
  refine ac (ag (w5.ld (i:=1) rfl rfl)) ?_
  refine ac (aF (w5.ld (i:=1) rfl rfl)) ?_
  obtain ⟨r10,e10,hp⟩:=aq hp
  refine aT (dQ.P rfl ⟨w5,(jA.step (s1.trans (s2.trans (s3.trans s5))))⟩ e10) ?_
  rintro _ H11 ⟨rfl,w11,s11,_⟩
  refine ac rfl ?_
  refine aW hp (λhp=>?_) λhp=>?_
  ·refine aY w11 (i:=0) rfl rfl rfl λH12 w12 s12=>?_
   refine aY w12 (i:=0) rfl rfl rfl λH13 w13 s13=>?_
   refine ac (ag (w13.ld (i:=0) rfl rfl)) ?_
   refine ac (aF (w13.ld (i:=0) rfl rfl)) ?_
   obtain ⟨w14,s14⟩:=w13.nilS (ae .i64).z (by decide)
   obtain ⟨w15,s15⟩:=w14.pick' [0] 4 rfl rfl rfl
   dsimp only [pk,pks,nth,List.drop,List.set,List.eraseIdx] at w15 s15
   exact aS hp ⟨_,_,_,_,rfl,rfl,w15,(s0.trans (s1.trans (s2.trans (s3.trans (s5.trans (s11.trans (s12.trans (s13.trans (s14.trans s15))))))))),((CR.empty:CR (ae .i64) _ _ [] []).step s15)⟩
  ·refine ac (ag (w11.ld (i:=1) rfl rfl)) ?_
   refine ac (ag (w11.ld (i:=2) rfl rfl)) ?_
   refine aW hp (λhp=>?_) λhp=>?_
   ·refine aY w11 (i:=0) rfl rfl rfl λH16 w16 s16=>?_
    refine aY w16 (i:=0) rfl rfl rfl λH17 w17 s17=>?_
    refine ac (ag (w17.ld (i:=0) rfl rfl)) ?_
    refine ac (aF (w17.ld (i:=0) rfl rfl)) ?_
    obtain ⟨w18,s18⟩:=w17.nilS (ae .i64).z (by decide)
    obtain ⟨w19,s19⟩:=w18.pick' [0] 4 rfl rfl rfl
    dsimp only [pk,pks,nth,List.drop,List.set,List.eraseIdx] at w19 s19
    exact aS hp ⟨_,_,_,_,rfl,rfl,w19,(s0.trans (s1.trans (s2.trans (s3.trans (s5.trans (s11.trans (s16.trans (s17.trans (s18.trans s19))))))))),((CR.empty:CR (ae .i64) _ _ [] []).step s19)⟩
   ·refine ac (ag (w11.ld (i:=1) rfl rfl)) ?_
    refine ac (ag (w11.ld (i:=1) rfl rfl)) ?_
    refine ac (aF (w11.ld (i:=1) rfl rfl)) ?_
    refine ac (ag (w11.ld (i:=2) rfl rfl)) ?_
    refine ac (ag (w11.ld (i:=2) rfl rfl)) ?_
    refine ac (aF (w11.ld (i:=2) rfl rfl)) ?_
    obtain ⟨r20,e20,hp⟩:=aq hp
    refine aT (aK.P rfl rfl ⟨w11,(jA.step (s1.trans (s2.trans (s3.trans (s5.trans s11))))),(eC.step (s1.trans (s2.trans (s3.trans (s5.trans s11)))))⟩ e20) ?_
    rintro _ H21 ⟨o2a_21,o2n_21,o2c_21,o2k_21,rfl,rfl,w21,s21,f21_0⟩
    refine ac rfl ?_
    refine ac rfl ?_
    refine ac rfl ?_
    refine ac rfl ?_
    refine ac rfl ?_
    refine ac rfl ?_
    refine ac rfl ?_
    refine ac rfl ?_
    refine ac rfl ?_
    refine ac rfl ?_
    refine ac rfl ?_
    refine cv w21 λH22 w22 s22=>?_
    refine aY w22 (i:=0) rfl rfl rfl λH23 w23 s23=>?_
    refine aY w23 (i:=0) rfl rfl rfl λH24 w24 s24=>?_
    refine aY w24 (i:=0) rfl rfl rfl λH25 w25 s25=>?_
    dsimp only [pk,pks,nth,List.drop,List.set,List.eraseIdx] at w25 s25
    refine aW hp (λhp=>?_) λhp=>?_
    ·refine aY w25 (i:=2) rfl rfl rfl λH26 w26 s26=>?_
     refine aY w26 (i:=2) rfl rfl rfl λH27 w27 s27=>?_
     refine ac (ag (w27.ld (i:=2) rfl rfl)) ?_
     refine ac (aF (w27.ld (i:=2) rfl rfl)) ?_
     obtain ⟨w28,s28⟩:=w27.nilS (ae .i64).z (by decide)
     obtain ⟨w29,s29⟩:=w28.pick' [0] 6 rfl rfl rfl
     dsimp only [pk,pks,nth,List.drop,List.set,List.eraseIdx] at w29 s29
     exact aS hp ⟨_,_,_,_,rfl,rfl,w29,(s0.trans (s1.trans (s2.trans (s3.trans (s5.trans (s11.trans (s21.trans (s22.trans (s23.trans (s24.trans (s25.trans (s26.trans (s27.trans (s28.trans s29)))))))))))))),((CR.empty:CR (ae .i64) _ _ [] []).step s29)⟩
    ·refine ac (ag (w25.ld (i:=0) rfl rfl)) ?_
     refine ac (ag (w25.ld (i:=0) rfl rfl)) ?_
     refine ac (aF (w25.ld (i:=0) rfl rfl)) ?_
     refine ac (ag (w25.ld (i:=3) rfl rfl)) ?_
     refine ac (ag (w25.ld (i:=4) rfl rfl)) ?_
     obtain ⟨r30,e30,hp⟩:=aq hp
     refine aT (eV.P ⟨w25,trivial⟩ e30) ?_
     rintro _ H31 ⟨o2a_31,o2n_31,o2k_31,rfl,rfl,w31,s31,f31_0⟩
     refine ac rfl ?_
     refine ac rfl ?_
     refine ac rfl ?_
     refine ac rfl ?_
     refine ac rfl ?_
     refine ac rfl ?_
     refine ac rfl ?_
     refine eZ (W.cons_of (Rn:=[_]) w25 w31 s31) ?_
     obtain ⟨w33,s33⟩:=w31.pick' [2,0,1,3,4,5] 6 rfl rfl rfl
     have f34:=W.borrow1 (ae .i64) w33 (f21_0.step (s22.trans (s23.trans (s24.trans (s25.trans (s31.trans s33))))))
     obtain ⟨w34,s34⟩:=w33.right1
     have f35:=W.borrow1 (ae .i64) w34 ((f31_0.step s33).step s34)
     obtain ⟨w35,s35⟩:=w34.right1
     obtain ⟨r36,e36,hp⟩:=aq hp
     refine aT (dV.P rfl rfl ⟨w35,(f34.step s35),f35⟩ e36) ?_
     rintro _ H37 ⟨rfl,w37,s37,_⟩
     obtain ⟨w38,s38⟩:=W.frame1 w34 w37 s37
     obtain ⟨w39,s39⟩:=W.frame1 w33 w38 s38
     refine ac rfl ?_
     refine aW hp (λhp=>?_) λhp=>?_
     ·refine aY w39 (i:=3) rfl rfl rfl λH40 w40 s40=>?_
      refine aY w40 (i:=3) rfl rfl rfl λH41 w41 s41=>?_
      dsimp only [pk,pks,nth,List.drop,List.set,List.eraseIdx] at w41 s41
      refine ac (ag (w41.ld (i:=3) rfl rfl)) ?_
      refine ac (aF (w41.ld (i:=3) rfl rfl)) ?_
      obtain ⟨w42,s42⟩:=w41.nilS (ae .i64).z (by decide)
      obtain ⟨w43,s43⟩:=w42.pick' [0] 7 rfl rfl rfl
      exact aS hp ⟨_,_,_,_,rfl,rfl,w43,(s0.trans (s1.trans (s2.trans (s3.trans (s5.trans (s11.trans (s21.trans (s22.trans (s23.trans (s24.trans (s25.trans (s31.trans (s33.trans (s39.trans (s40.trans (s41.trans (s42.trans s43))))))))))))))))),((CR.empty:CR (ae .i64) _ _ [] []).step s43)⟩
     ·refine ac (ag (w39.ld (i:=5) rfl rfl)) ?_
      refine ac (ag (w39.ld (i:=5) rfl rfl)) ?_
      refine ac (aF (w39.ld (i:=5) rfl rfl)) ?_
      obtain ⟨r44,e44,hp⟩:=aq hp
      refine aT (bY.P rfl ⟨w39,(eC.step (s1.trans (s2.trans (s3.trans (s5.trans (s11.trans (s21.trans (s22.trans (s23.trans (s24.trans (s25.trans (s31.trans (s33.trans s39)))))))))))))⟩ e44) ?_
      rintro _ H45 ⟨o0a_45,o0n_45,o0c_45,o0k_45,rfl,rfl,w45,s45,f45_0⟩
      refine ac rfl ?_
      refine ac rfl ?_
      refine ac rfl ?_
      refine ac rfl ?_
      refine ac rfl ?_
      refine ac (ag (w45.ld (i:=5) rfl rfl)) ?_
      refine ac (ag (w45.ld (i:=5) rfl rfl)) ?_
      refine ac (aF (w45.ld (i:=5) rfl rfl)) ?_
      obtain ⟨r46,e46,hp⟩:=aq hp
      refine aT (bY.P rfl ⟨w45,(jA.step (s1.trans (s2.trans (s3.trans (s5.trans (s11.trans (s21.trans (s22.trans (s23.trans (s24.trans (s25.trans (s31.trans (s33.trans (s39.trans s45))))))))))))))⟩ e46) ?_
      rintro _ H47 ⟨o0a_47,o0n_47,o0c_47,o0k_47,rfl,rfl,w47,s47,f47_0⟩
      refine ac rfl ?_
      refine ac rfl ?_
      refine ac rfl ?_
      refine ac rfl ?_
      refine ac rfl ?_
      refine aW hp (λhp=>?_) λhp=>?_
      ·refine aY w47 (i:=5) rfl rfl rfl λH48 w48 s48=>?_
       refine aY w48 (i:=5) rfl rfl rfl λH49 w49 s49=>?_
       dsimp only [pk,pks,nth,List.drop,List.set,List.eraseIdx] at w49 s49
       refine ac (ag (w49.ld (i:=5) rfl rfl)) ?_
       refine ac (aF (w49.ld (i:=5) rfl rfl)) ?_
       obtain ⟨w50,s50⟩:=w49.nilS (ae .i64).z (by decide)
       obtain ⟨w51,s51⟩:=w50.pick' [0] 9 rfl rfl rfl
       exact aS hp ⟨_,_,_,_,rfl,rfl,w51,(s0.trans (s1.trans (s2.trans (s3.trans (s5.trans (s11.trans (s21.trans (s22.trans (s23.trans (s24.trans (s25.trans (s31.trans (s33.trans (s39.trans (s45.trans (s47.trans (s48.trans (s49.trans (s50.trans s51))))))))))))))))))),((CR.empty:CR (ae .i64) _ _ [] []).step s51)⟩
      ·refine aW hp (λhp=>?_) λhp=>?_
       ·refine aY w47 (i:=5) rfl rfl rfl λH52 w52 s52=>?_
        refine aY w52 (i:=5) rfl rfl rfl λH53 w53 s53=>?_
        dsimp only [pk,pks,nth,List.drop,List.set,List.eraseIdx] at w53 s53
        refine ac (ag (w53.ld (i:=5) rfl rfl)) ?_
        refine ac (aF (w53.ld (i:=5) rfl rfl)) ?_
        obtain ⟨w54,s54⟩:=w53.nilS (ae .i64).z (by decide)
        obtain ⟨w55,s55⟩:=w54.pick' [0] 9 rfl rfl rfl
        exact aS hp ⟨_,_,_,_,rfl,rfl,w55,(s0.trans (s1.trans (s2.trans (s3.trans (s5.trans (s11.trans (s21.trans (s22.trans (s23.trans (s24.trans (s25.trans (s31.trans (s33.trans (s39.trans (s45.trans (s47.trans (s52.trans (s53.trans (s54.trans s55))))))))))))))))))),((CR.empty:CR (ae .i64) _ _ [] []).step s55)⟩
       ·refine ac (ag (w47.ld (i:=7) rfl rfl)) ?_
        obtain ⟨w56,s56⟩:=w47.pick' [1,0,2,3,4,5,6,7] 8 rfl rfl rfl
        have f57:=W.borrow1 (ae .i64) w56 (f45_0.step (s47.trans s56))
        obtain ⟨w57,s57⟩:=w56.right1
        obtain ⟨r58,e58,hp⟩:=aq hp
        refine aT (dc.P rfl ⟨w57,f57⟩ e58) ?_
        rintro _ H59 ⟨o0a_59,o0n_59,o0c_59,o0k_59,rfl,rfl,w59,s59,f59_0⟩
        obtain ⟨w60,s60⟩:=W.frame1 w56 w59 s59
        refine ac rfl ?_
        refine eZ (bt.tr (bt.refl _) s56 (W.cons_of (Rn:=[_]) w57 w59 s59)) ?_
        refine aY w60 (i:=6) rfl rfl rfl λH62 w62 s62=>?_
        dsimp only [pk,pks,nth,List.drop,List.set,List.eraseIdx] at w62 s62
        refine aY w62 (i:=6) rfl rfl rfl λH63 w63 s63=>?_
        refine ac (ag (w63.ld (i:=6) rfl rfl)) ?_
        refine ac (aF (w63.ld (i:=6) rfl rfl)) ?_
        obtain ⟨w64,s64⟩:=w63.pick' [1] 9 rfl rfl rfl
        exact aS hp ⟨_,_,_,_,rfl,rfl,w64,(s0.trans (s1.trans (s2.trans (s3.trans (s5.trans (s11.trans (s21.trans (s22.trans (s23.trans (s24.trans (s25.trans (s31.trans (s33.trans (s39.trans (s45.trans (s47.trans (s56.trans (s60.trans (s62.trans (s63.trans s64)))))))))))))))))))),((CR.flat (rd .i64) f59_0).step (s62.trans (s63.trans s64)))⟩
def gG.Q (H0:Hp) (Ri R0:List Rs)  (r:Bool) (v:AV) (H':Hp):Prop:=v=(.bool r)/\Out H0 Ri H' (R0) λR=>True
def gG.p (F:Nat) (aa:Int) (ax:Int) (dJ:Int):Option (Bool):=(bif (decide (ax<=aa)) then (some (decide (aa<=dJ))) else (some false))
theorem gG.P {F:Nat} {aa ax dJ:Int} {H:Hp} {R0:List Rs}  (h0:Inn H R0 λR=>True) {r:Bool} (hp:gG.p F aa ax dJ=some r):∃ v H',gG.tw F aa ax dJ H=some (v,H')/\gG.Q H R0 R0  r v H':=by
 obtain ⟨w0,_⟩:=h0
 unfold gG.p at hp
 unfold gG.tw gG.twX
 have s0:=w0.rf
 refine aW hp (λhp=>?_) λhp=>?_
 ·exact aS hp ⟨rfl,w0,s0,trivial⟩
 ·exact aS hp ⟨rfl,w0,s0,trivial⟩
def gH.Q (H0:Hp) (Ri R0:List Rs)  (r:Int) (v:AV) (H':Hp):Prop:=v=(.i r)/\Out H0 Ri H' (R0) λR=>True
def gH.p (F:Nat) (bQ:List Int):Option (Int):=some (bQ.length:Int)
theorem gH.P {F:Nat} {ef:ON} {cR:Nat} {eg:Cap} {bQ:List Int} {H:Hp} {R0:List Rs} (gz:cR=bQ.length) (h0:Inn H R0 λR=>ROs (ae .i64) H R ⟨ef,cR,eg⟩ bQ) {r:Int} (hp:gH.p F bQ=some r):∃ v H',gH.tw F ⟨ef,cR,eg⟩ H=some (v,H')/\gH.Q H R0 R0  r v H':=by
 obtain ⟨w0,gL⟩:=h0
 subst gz
 unfold gH.p at hp
 unfold gH.tw gH.twX
 have s0:=w0.rf
 exact aS hp ⟨rfl,w0,s0,trivial⟩
def im.Q (H0:Hp) (Ri R0:List Rs)  (r:Bool) (v:AV) (H':Hp):Prop:=v=(.bool r)/\Out H0 Ri H' (R0) λR=>True
def im.p (F:Nat) (aa:Int):Option (Bool):=(gG.p F aa (-1000000000000) 1000000000000).bind λr1=>some (!r1)
theorem im.P {F:Nat} {aa:Int} {H:Hp} {R0:List Rs}  (h0:Inn H R0 λR=>True) {r:Bool} (hp:im.p F aa=some r):∃ v H',im.tw F aa H=some (v,H')/\im.Q H R0 R0  r v H':=by
 obtain ⟨w0,_⟩:=h0
 unfold im.p at hp
 unfold im.tw im.twX
 have s0:=w0.rf
 obtain ⟨r1,e1,hp⟩:=aq hp
 refine aT (gG.P ⟨w0,trivial⟩ e1) ?_
 rintro _ H2 ⟨rfl,w2,s2,_⟩
 refine ac rfl ?_
 exact aS hp ⟨rfl,w2,(s0.trans s2),trivial⟩
def dW.Q (H0:Hp) (Ri R0:List Rs)  (r:Int) (v:AV) (H':Hp):Prop:=v=(.i r)/\Out H0 Ri H' (R0) λR=>True
def dW.S13 (H0:Hp) (Ri R0:List Rs)  (C:Sl->Int->Int->Hp->OA) (pC:List Int->Int->Int->Option (Int)):Prop:=∀ {mV:ON} {ll:Nat} {mW:Cap} {gM:List Int} {dT cP:Int},∀ {H:Hp},ll=gM.length->(Out H0 Ri H R0 λR=>ROs (ae .i64) H R ⟨mV,ll,mW⟩ gM)->∀ {r:Int},pC gM dT cP=some r->∃ v H',C ⟨mV,ll,mW⟩ dT cP H=some (v,H')/\dW.Q H0 Ri R0  r v H'
def dW.pl13 (F:Nat) :Nat->List Int->Int->Int->Option (Int)
 | 0,_,_,_=>none
 | k+1,gM,dT,cP=>(bif (decide (cP<dT)) then ((ix gM cP).bind λn1=>(im.p F (gt gM n1)).bind λr2=>(bif r2 then (some cP) else (dW.pl13 F k gM dT (IntKind.i64.wrap (cP+1))))) else (some (-1)))
termination_by structural n=>n
theorem dW.l13_P {F:Nat} {H0:Hp} {Ri R0:List Rs}  :∀ k,dW.S13 H0 Ri R0  (dW.l13 F (im.tw F)  k) (dW.pl13 F  k):=by
 intro k
 induction k with
 | zero=>unfold dW.S13;intros;rename_i hp;cases hp
 | succ k ih=>
  intro mV ll mW gM dT cP H sA h0 r hp
  obtain ⟨w0,s0,oM⟩:=h0
  subst sA
  unfold dW.pl13 at hp
  unfold dW.l13
  refine aW hp (λhp=>?_) λhp=>?_
  ·obtain ⟨n1,g1,hp⟩:=aq hp
   obtain ⟨p1,q1,i1,h1,j1⟩:=ROs.ixr oM rfl g1
   refine ac i1 ?_
   have h1:_=[_]:=h1
   subst h1
   refine ac (ag (j1 0 _ rfl)) ?_
   obtain ⟨r2,e2,hp⟩:=aq hp
   refine aT (im.P ⟨w0,trivial⟩ e2) ?_
   rintro _ H3 ⟨rfl,w3,s3,_⟩
   refine ac rfl ?_
   refine aW hp (λhp=>?_) λhp=>?_
   ·exact aS hp ⟨rfl,w3,(s0.trans s3),trivial⟩
   ·exact ih rfl ⟨w3,(s0.trans s3),(oM.step s3)⟩ hp
  ·exact aS hp ⟨rfl,w0,s0,trivial⟩
def dW.p (F:Nat) (bQ:List Int):Option (Int):=dW.pl13 F F bQ (bQ.length:Int) 0
theorem dW.P {F:Nat} {ef:ON} {cR:Nat} {eg:Cap} {bQ:List Int} {H:Hp} {R0:List Rs} (gz:cR=bQ.length) (h0:Inn H R0 λR=>ROs (ae .i64) H R ⟨ef,cR,eg⟩ bQ) {r:Int} (hp:dW.p F bQ=some r):∃ v H',dW.tw F ⟨ef,cR,eg⟩ H=some (v,H')/\dW.Q H R0 R0  r v H':=by
 obtain ⟨w0,gL⟩:=h0
 subst gz
 unfold dW.p at hp
 unfold dW.tw dW.twX
 have s0:=w0.rf
 exact dW.l13_P F rfl ⟨w0,s0,gL⟩ hp
def iM.Q (H0:Hp) (Ri R0:List Rs)  (r:Bool) (v:AV) (H':Hp):Prop:=v=(.bool r)/\Out H0 Ri H' (R0) λR=>True
def iM.p (F:Nat) (bQ:List Int):Option (Bool):=(dW.p F bQ).bind λr1=>some (decide (r1>=0))
theorem iM.P {F:Nat} {ef:ON} {cR:Nat} {eg:Cap} {bQ:List Int} {H:Hp} {R0:List Rs} (gz:cR=bQ.length) (h0:Inn H R0 λR=>ROs (ae .i64) H R ⟨ef,cR,eg⟩ bQ) {r:Bool} (hp:iM.p F bQ=some r):∃ v H',iM.tw F ⟨ef,cR,eg⟩ H=some (v,H')/\iM.Q H R0 R0  r v H':=by
 obtain ⟨w0,gL⟩:=h0
 subst gz
 unfold iM.p at hp
 unfold iM.tw iM.twX
 have s0:=w0.rf
 obtain ⟨r1,e1,hp⟩:=aq hp
 refine aT (dW.P rfl ⟨w0,gL⟩ e1) ?_
 rintro _ H2 ⟨rfl,w2,s2,_⟩
 refine ac rfl ?_
 exact aS hp ⟨rfl,w2,(s0.trans s2),trivial⟩
def gc.Q (H0:Hp) (Ri R0:List Rs)  (r:Bool) (v:AV) (H':Hp):Prop:=v=(.bool r)/\Out H0 Ri H' (R0) λR=>True
def gc.p (F:Nat) (aa:Int) (af:Int) (bg:List Int):Option (Bool):=(gG.p F aa 0 48).bind λr2=>(bif r2 then ((gG.p F af 0 48).bind λr4=>(bif r4 then ((gH.p F bg).bind λr6=>(bif (r6 == (IntKind.i64.wrap (aa * af))) then ((iM.p F bg).bind λr9=>some (!r9)) else (some false))) else (some false))) else (some false))
theorem gc.P {F:Nat} {aa af:Int} {cB:ON} {bR:Nat} {cC:Cap} {bg:List Int} {H:Hp} {R0:List Rs} (fc:bR=bg.length) (h0:Inn H R0 λR=>ROs (ae .i64) H R ⟨cB,bR,cC⟩ bg) {r:Bool} (hp:gc.p F aa af bg=some r):∃ v H',gc.tw F aa af ⟨cB,bR,cC⟩ H=some (v,H')/\gc.Q H R0 R0  r v H':=by
 obtain ⟨w0,eC⟩:=h0
 subst fc
 unfold gc.p at hp
 unfold gc.tw gc.twX
 have s0:=w0.rf
 refine cv w0 λH1 w1 s1=>?_
 refine ac (ag (w1.ld (i:=0) rfl rfl)) ?_
 obtain ⟨r2,e2,hp⟩:=aq hp
 refine aT (gG.P ⟨w1,trivial⟩ e2) ?_
 rintro _ H3 ⟨rfl,w3,s3,_⟩
 refine ac rfl ?_
 refine aW hp (λhp=>?_) λhp=>?_
 ·refine ac (ag (w3.ld (i:=0) rfl rfl)) ?_
  obtain ⟨r4,e4,hp⟩:=aq hp
  refine aT (gG.P ⟨w3,trivial⟩ e4) ?_
  rintro _ H5 ⟨rfl,w5,s5,_⟩
  refine ac rfl ?_
  refine aW hp (λhp=>?_) λhp=>?_
  ·refine ac (aF (w5.ld (i:=0) rfl rfl)) ?_
   obtain ⟨r6,e6,hp⟩:=aq hp
   refine aT (gH.P rfl ⟨w5,(eC.step (s1.trans (s3.trans s5)))⟩ e6) ?_
   rintro _ H7 ⟨rfl,w7,s7,_⟩
   refine ac rfl ?_
   refine eZ (W.cons_of (Rn:=[]) w5 w7 s7) ?_
   refine ac (ag (w7.ld (i:=0) rfl rfl)) ?_
   refine ac (ag (w7.ld (i:=0) rfl rfl)) ?_
   refine aW hp (λhp=>?_) λhp=>?_
   ·refine ac (aF (w7.ld (i:=0) rfl rfl)) ?_
    obtain ⟨r9,e9,hp⟩:=aq hp
    refine aT (iM.P rfl ⟨w7,(eC.step (s1.trans (s3.trans (s5.trans s7))))⟩ e9) ?_
    rintro _ H10 ⟨rfl,w10,s10,_⟩
    refine ac rfl ?_
    obtain ⟨w11,s11⟩:=w10.pick' [] 1 rfl rfl rfl
    exact aS hp ⟨rfl,w11,(s0.trans (s1.trans (s3.trans (s5.trans (s7.trans (s10.trans s11)))))),trivial⟩
   ·obtain ⟨w12,s12⟩:=w7.pick' [] 1 rfl rfl rfl
    exact aS hp ⟨rfl,w12,(s0.trans (s1.trans (s3.trans (s5.trans (s7.trans s12))))),trivial⟩
  ·obtain ⟨w13,s13⟩:=w5.pick' [] 1 rfl rfl rfl
   exact aS hp ⟨rfl,w13,(s0.trans (s1.trans (s3.trans (s5.trans s13)))),trivial⟩
 ·obtain ⟨w14,s14⟩:=w3.pick' [] 1 rfl rfl rfl
  exact aS hp ⟨rfl,w14,(s0.trans (s1.trans (s3.trans s14))),trivial⟩
def fL.Q (H0:Hp) (Ri R0:List Rs)  (r:Int×Int×List Int) (v:AV) (H':Hp):Prop:=∃ o2a:ON,∃ o2n:Nat,∃ o2k:List AV,v=(.agg [(.i r.1),(.i r.2.1),(.sl ⟨o2a,o2n,.ex o2n⟩)])/\o2n=(r.2.2).length/\Out H0 Ri H' (Rs.own ⟨o2a,o2n,.ex o2n⟩ (ae .i64).z o2k :: R0) λR=>CR (ae .i64) H' R o2k (r.2.2)
def fL.p (F:Nat) (aa:Int) (ax:Int):Option (Int×Int×List Int):=(mkn (IntKind.i64.wrap (aa * ax)) (0:Int)).bind λl2=>some (aa,ax,l2)
theorem fL.P {F:Nat} {aa ax:Int} {H:Hp} {R0:List Rs}  (h0:Inn H R0 λR=>True) {r:Int×Int×List Int} (hp:fL.p F aa ax=some r):∃ v H',fL.tw F aa ax H=some (v,H')/\fL.Q H R0 R0  r v H':=by
 obtain ⟨w0,_⟩:=h0
 unfold fL.p at hp
 unfold fL.tw fL.twX
 have s0:=w0.rf
 refine cv w0 λH1 w1 s1=>?_
 obtain ⟨l2,e2,hp⟩:=aq hp
 refine Gd (ae .i64) (0:Int) w1 rfl rfl rfl e2 λH3 k3 w3 s3 c3=>?_
 refine aY w3 (i:=1) rfl rfl rfl λH4 w4 s4=>?_
 refine aY w4 (i:=1) rfl rfl rfl λH5 w5 s5=>?_
 refine aY w5 (i:=1) rfl rfl rfl λH6 w6 s6=>?_
 dsimp only [pk,pks,nth,List.drop,List.set,List.eraseIdx] at w6 s6
 refine ac (ag (w6.ld (i:=1) rfl rfl)) ?_
 refine ac (ag (w6.ld (i:=1) rfl rfl)) ?_
 refine ac (aF (w6.ld (i:=1) rfl rfl)) ?_
 obtain ⟨w7,s7⟩:=w6.pick' [0] 2 rfl rfl rfl
 exact aS hp ⟨_,_,_,rfl,rfl,w7,(s0.trans (s1.trans (s3.trans (s4.trans (s5.trans (s6.trans s7)))))),(c3.step (s4.trans (s5.trans (s6.trans s7))))⟩
def d_.Q (H0:Hp) (Ri R0:List Rs)  (r:Int) (v:AV) (H':Hp):Prop:=v=(.i r)/\Out H0 Ri H' (R0) λR=>True
def d_.p (F:Nat) (aa:Int):Option (Int):=(bif (decide (aa<0)) then (some (IntKind.i64.wrap (0 - aa))) else (some aa))
theorem d_.P {F:Nat} {aa:Int} {H:Hp} {R0:List Rs}  (h0:Inn H R0 λR=>True) {r:Int} (hp:d_.p F aa=some r):∃ v H',d_.tw F aa H=some (v,H')/\d_.Q H R0 R0  r v H':=by
 obtain ⟨w0,_⟩:=h0
 unfold d_.p at hp
 unfold d_.tw d_.twX
 have s0:=w0.rf
 refine aW hp (λhp=>?_) λhp=>?_
 ·exact aS hp ⟨rfl,w0,s0,trivial⟩
 ·exact aS hp ⟨rfl,w0,s0,trivial⟩
def fB.Q (H0:Hp) (Ri R0:List Rs)  (r:Int×Bool) (v:AV) (H':Hp):Prop:=v=(.tup [(.i r.1),(.bool r.2)])/\Out H0 Ri H' (R0) λR=>True
def fB.p (F:Nat) (aa:Int) (ax:Int) (dJ:Int):Option (Int×Bool):=(bif (aa != 0) then ((d_.p F ax).bind λr1=>(d_.p F aa).bind λr3=>(if r3=0 then none else ((bif (decide (r1>(IntKind.i64.wrap (Int.tdiv dJ r3)))) then (some (0,false)) else (some ((IntKind.i64.wrap (aa * ax)),true)))))) else (some ((IntKind.i64.wrap (aa * ax)),true)))
theorem fB.P {F:Nat} {aa ax dJ:Int} {H:Hp} {R0:List Rs}  (h0:Inn H R0 λR=>True) {r:Int×Bool} (hp:fB.p F aa ax dJ=some r):∃ v H',fB.tw F aa ax dJ H=some (v,H')/\fB.Q H R0 R0  r v H':=by
 obtain ⟨w0,_⟩:=h0
 unfold fB.p at hp
 unfold fB.tw fB.twX
 have s0:=w0.rf
 refine aW hp (λhp=>?_) λhp=>?_
 ·obtain ⟨r1,e1,hp⟩:=aq hp
  refine aT (d_.P ⟨w0,trivial⟩ e1) ?_
  rintro _ H2 ⟨rfl,w2,s2,_⟩
  refine ac rfl ?_
  obtain ⟨r3,e3,hp⟩:=aq hp
  refine aT (d_.P ⟨w2,trivial⟩ e3) ?_
  rintro _ H4 ⟨rfl,w4,s4,_⟩
  refine ac rfl ?_
  obtain ⟨g5,hp⟩:=rb hp
  refine rc g5 ?_
  refine aW hp (λhp=>?_) λhp=>?_
  ·exact aS hp ⟨rfl,w4,(s0.trans (s2.trans s4)),trivial⟩
  ·exact aS hp ⟨rfl,w4,(s0.trans (s2.trans s4)),trivial⟩
 ·exact aS hp ⟨rfl,w0,s0,trivial⟩
def dz.Q (H0:Hp) (Ri R0:List Rs)  (r:Int×Bool) (v:AV) (H':Hp):Prop:=v=(.tup [(.i r.1),(.bool r.2)])/\Out H0 Ri H' (R0) λR=>True
def dz.S29 (H0:Hp) (Ri R0:List Rs)  (C:Int->Int->Nat->Nat->Nat->Nat->Int->Int->Int->Int->Hp->OA) (pC:Int->Int->Int->List Int->Int->List Int->Int->Int->Int->Int->Option (Int×Bool)):Prop:=∀ {mi fA Kg vx Kh vy mj ml mm kv:Int} {Ek El:ON} {zP gB zQ mM:Nat} {Em En:Cap} {qS qT:List Int},∀ {H:Hp},zP=qS.length->zQ=qT.length->(Out H0 Ri H (Rs.blk gB [.i Kg,.i vx,.sl ⟨Ek,zP,Em⟩] :: Rs.blk mM [.i Kh,.i vy,.sl ⟨El,zQ,En⟩] :: R0) λR=>ROs (ae .i64) H R ⟨Ek,zP,Em⟩ qS/\ROs (ae .i64) H R ⟨El,zQ,En⟩ qT)->∀ {r:Int×Bool},pC mi fA vx qS vy qT mj ml mm kv=some r->∃ v H',C mi fA gB 0 mM 0 mj ml mm kv H=some (v,H')/\dz.Q H0 Ri R0  r v H'
def dz.pl29 (F:Nat) :Nat->Int->Int->Int->List Int->Int->List Int->Int->Int->Int->Int->Option (Int×Bool)
 | 0,_,_,_,_,_,_,_,_,_,_=>none
 | k+1,mi,fA,vx,qS,vy,qT,mj,ml,mm,kv=>(bif (decide (kv<mm)) then ((ix qS (IntKind.i64.wrap ((IntKind.i64.wrap (mi * vx))+kv))).bind λn2=>(ix qT (IntKind.i64.wrap ((IntKind.i64.wrap (kv * vy))+fA))).bind λn5=>(fB.p F (gt qS n2) (gt qT n5) 1000000000000).bind λr7=>(d_.p F r7.1).bind λr9=>(bif (!r7.2) then (some (0,false)) else ((bif (decide ((IntKind.i64.wrap (ml+r9))>1000000000000)) then (some (0,false)) else (dz.pl29 F k mi fA vx qS vy qT (IntKind.i64.wrap (mj+r7.1)) (IntKind.i64.wrap (ml+r9)) mm (IntKind.i64.wrap (kv+1))))))) else (some (mj,true)))
termination_by structural n=>n
theorem dz.l29_P {F:Nat} {H0:Hp} {Ri R0:List Rs}  :∀ k,dz.S29 H0 Ri R0  (dz.l29 F (bI.tw F) (fB.tw F) (d_.tw F)  k) (dz.pl29 F  k):=by
 intro k
 induction k with
 | zero=>unfold dz.S29;intros;rename_i hp;cases hp
 | succ k ih=>
  intro mi fA Kg vx Kh vy mj ml mm kv Ek El zP gB zQ mM Em En qS qT H RY RZ h0 r hp
  obtain ⟨w0,s0,Ki,Kj⟩:=h0
  subst RY
  subst RZ
  unfold dz.pl29 at hp
  unfold dz.l29
  refine aW hp (λhp=>?_) λhp=>?_
  ·refine ac (ag (w0.ld (i:=0) rfl rfl)) ?_
   refine ac (ag (w0.ld (i:=0) rfl rfl)) ?_
   refine ac (aF (w0.ld (i:=0) rfl rfl)) ?_
   refine bI.inl ?_
   refine cv w0 λH1 w1 s1=>?_
   refine ac (aF (w1.ld (i:=0) rfl rfl)) ?_
   refine ac (ag (w1.ld (i:=0) rfl rfl)) ?_
   obtain ⟨n2,g2,hp⟩:=aq hp
   obtain ⟨p2,q2,i2,h2,j2⟩:=ROs.ixr (Ki.step s1) rfl g2
   refine ac i2 ?_
   refine ⟨_,_,rfl,?_⟩
   refine ac rfl ?_
   refine eZ (W.cons_of (Rn:=[_]) w0 w1 s1) ?_
   have h2:_=[_]:=h2
   subst h2
   refine ac (ag (j2 0 _ rfl)) ?_
   refine ac (ag (w1.ld (i:=2) rfl rfl)) ?_
   refine ac (ag (w1.ld (i:=2) rfl rfl)) ?_
   refine ac (aF (w1.ld (i:=2) rfl rfl)) ?_
   refine bI.inl ?_
   refine cv w1 λH4 w4 s4=>?_
   refine ac (aF (w4.ld (i:=0) rfl rfl)) ?_
   refine ac (ag (w4.ld (i:=0) rfl rfl)) ?_
   obtain ⟨n5,g5,hp⟩:=aq hp
   obtain ⟨p5,q5,i5,h5,j5⟩:=ROs.ixr (Kj.step (s1.trans s4)) rfl g5
   refine ac i5 ?_
   refine ⟨_,_,rfl,?_⟩
   refine ac rfl ?_
   refine eZ (W.cons_of (Rn:=[_]) w1 w4 s4) ?_
   have h5:_=[_]:=h5
   subst h5
   refine ac (ag (j5 0 _ rfl)) ?_
   obtain ⟨r7,e7,hp⟩:=aq hp
   refine aT (fB.P ⟨w4,trivial⟩ e7) ?_
   rintro _ H8 ⟨rfl,w8,s8,_⟩
   refine ac rfl ?_
   refine ac rfl ?_
   refine ac rfl ?_
   refine ac rfl ?_
   refine ac rfl ?_
   obtain ⟨r9,e9,hp⟩:=aq hp
   refine aT (d_.P ⟨w8,trivial⟩ e9) ?_
   rintro _ H10 ⟨rfl,w10,s10,_⟩
   refine ac rfl ?_
   refine aW hp (λhp=>?_) λhp=>?_
   ·obtain ⟨w11,s11⟩:=w10.pick' [] 4 rfl rfl rfl
    exact aS hp ⟨rfl,w11,(s0.trans (s1.trans (s4.trans (s8.trans (s10.trans s11))))),trivial⟩
   ·refine aW hp (λhp=>?_) λhp=>?_
    ·obtain ⟨w12,s12⟩:=w10.pick' [] 4 rfl rfl rfl
     exact aS hp ⟨rfl,w12,(s0.trans (s1.trans (s4.trans (s8.trans (s10.trans s12))))),trivial⟩
    ·obtain ⟨w13,s13⟩:=w10.pick' [2,3] 4 rfl rfl rfl
     exact ih rfl rfl ⟨w13,(s0.trans (s1.trans (s4.trans (s8.trans (s10.trans s13))))),(Ki.step (s1.trans (s4.trans (s8.trans (s10.trans s13))))),(Kj.step (s1.trans (s4.trans (s8.trans (s10.trans s13)))))⟩ hp
  ·obtain ⟨w14,s14⟩:=w0.pick' [] 2 rfl rfl rfl
   exact aS hp ⟨rfl,w14,(s0.trans s14),trivial⟩
def dz.p (F:Nat) (af:Int) (bg:List Int) (aJ:Int) (ev:List Int) (nM:Int) (nN:Int):Option (Int×Bool):=dz.pl29 F F nM nN af bg aJ ev 0 0 af 0
theorem dz.P {F:Nat} {aa af aj aJ nM nN:Int} {cB jy:ON} {bR ii:Nat} {cC jz:Cap} {bg ev:List Int} {H:Hp} {R0:List Rs} (fc:bR=bg.length) (mR:ii=ev.length) (h0:Inn H R0 λR=>ROs (ae .i64) H R ⟨cB,bR,cC⟩ bg/\ROs (ae .i64) H R ⟨jy,ii,jz⟩ ev) {r:Int×Bool} (hp:dz.p F af bg aJ ev nM nN=some r):∃ v H',dz.tw F aa af ⟨cB,bR,cC⟩ aj aJ ⟨jy,ii,jz⟩ nM nN H=some (v,H')/\dz.Q H R0 R0  r v H':=by
 obtain ⟨w0,eC,jA⟩:=h0
 subst fc
 subst mR
 unfold dz.p at hp
 unfold dz.tw dz.twX
 have s0:=w0.rf
 refine cv w0 λH1 w1 s1=>?_
 refine cv w1 λH2 w2 s2=>?_
 refine ac (ag (w2.ld (i:=1) rfl rfl)) ?_
 obtain ⟨w3,s3⟩:=w2.pick' [1,0] 2 rfl rfl rfl
 exact dz.l29_P F rfl rfl ⟨w3,(s0.trans (s1.trans (s2.trans s3))),(eC.step (s1.trans (s2.trans s3))),(jA.step (s1.trans (s2.trans s3)))⟩ hp
def bJ.Q (H0:Hp) (Ri R0:List Rs)  (r:Int×Int×List Int×Int) (v:AV) (H':Hp):Prop:=∃ o2a:ON,∃ o2n:Nat,∃ o2c:Cap,∃ o2k:List AV,v=(.tup [(.agg [(.i r.1),(.i r.2.1),(.sl ⟨o2a,o2n,o2c⟩)]),(.i r.2.2.2)])/\o2n=(r.2.2.1).length/\Out H0 Ri H' (Rs.own ⟨o2a,o2n,o2c⟩ (ae .i64).z o2k :: R0) λR=>CR (ae .i64) H' R o2k (r.2.2.1)
def bJ.S61 (H0:Hp) (Ri R0:List Rs)  (C:Nat->Nat->Nat->Nat->Nat->Nat->Nat->Nat->Int->Int->Hp->OA) (pC:Int->List Int->Int->List Int->Int->Int->List Int->Int->Int->Option (Int×Int×List Int×Int)):Prop:=∀ {Kk wG Kl vz Km Ko vA vB mu lB:Int} {Eo Ep Er Es:ON} {zR ov zS nO zT lA zU mO:Nat} {Et Eu Ev Ew:Cap} {vC vD Ex sB:List Int} {Ey Ez:List AV},∀ {H:Hp},zR=vC.length->zS=vD.length->zT=Ex.length->zU=sB.length->(Out H0 Ri H (Rs.blk ov [.i Kk,.i wG,.sl ⟨Eo,zR,Et⟩] :: Rs.blk nO [.i Kl,.i vz,.sl ⟨Ep,zS,Eu⟩] :: Rs.own ⟨Er,zT,Ev⟩ (ae .i64).z Ey :: Rs.blk lA [.i Km,.i Ko,.sl ⟨Er,zT,Ev⟩] :: Rs.own ⟨Es,zU,Ew⟩ (ae .i64).z Ez :: Rs.blk mO [.i vA,.i vB,.sl ⟨Es,zU,Ew⟩] :: R0) λR=>ROs (ae .i64) H R ⟨Eo,zR,Et⟩ vC/\ROs (ae .i64) H R ⟨Ep,zS,Eu⟩ vD/\CR (ae .i64) H R Ey Ex/\CR (ae .i64) H R Ez sB)->∀ {r:Int×Int×List Int×Int},pC wG vC vz vD vA vB sB mu lB=some r->∃ v H',C ov 0 nO 0 lA 0 mO 0 mu lB H=some (v,H')/\bJ.Q H0 Ri R0  r v H'
def bJ.S3931 (H0:Hp) (Ri R0:List Rs)  (C:Nat->Nat->Nat->Nat->Nat->Nat->Nat->Nat->Int->Int->Int->Int->Int->Hp->OA) (pC:Int->List Int->Int->List Int->Int->Int->List Int->Int->Int->Int->Int->Int->Option (Int×Int×List Int×Int)):Prop:=∀ {Kp sC Kq sD Ks Kt vE sE mq mr lz ms kw:Int} {EA EB EC ED:ON} {zV mn zW mo zX kV zY mp:Nat} {EE EF EG EH:Cap} {qU qV EI qW:List Int} {EJ EK:List AV},∀ {H:Hp},zV=qU.length->zW=qV.length->zX=EI.length->zY=qW.length->(Out H0 Ri H (Rs.blk mn [.i Kp,.i sC,.sl ⟨EA,zV,EE⟩] :: Rs.blk mo [.i Kq,.i sD,.sl ⟨EB,zW,EF⟩] :: Rs.own ⟨EC,zX,EG⟩ (ae .i64).z EJ :: Rs.blk kV [.i Ks,.i Kt,.sl ⟨EC,zX,EG⟩] :: Rs.own ⟨ED,zY,EH⟩ (ae .i64).z EK :: Rs.blk mp [.i vE,.i sE,.sl ⟨ED,zY,EH⟩] :: R0) λR=>ROs (ae .i64) H R ⟨EA,zV,EE⟩ qU/\ROs (ae .i64) H R ⟨EB,zW,EF⟩ qV/\CR (ae .i64) H R EJ EI/\CR (ae .i64) H R EK qW)->∀ {r:Int×Int×List Int×Int},pC sC qU sD qV vE sE qW mq mr lz ms kw=some r->∃ v H',C mn 0 mo 0 kV 0 mp 0 mq mr lz ms kw H=some (v,H')/\bJ.Q H0 Ri R0  r v H'
def bJ.pj3 (F:Nat) (jn:Int->List Int->Int->List Int->Int->Int->List Int->Int->Int->Option (Int×Int×List Int×Int)) (zZ:Int) (wH:List Int) (z_:Int) (wI:List Int) (Aa:Int) (Ab:Int) (wJ:List Int) (tQ:Int) (tR:Int):Option (Int×Int×List Int×Int):=jn zZ wH z_ wI Aa Ab wJ tQ (IntKind.i64.wrap (tR+1))
theorem bJ.j3_P {F:Nat} {H0:Hp} {Ri R0:List Rs}  {C61_:Nat->Nat->Nat->Nat->Nat->Nat->Nat->Nat->Int->Int->Hp->OA} {jn:Int->List Int->Int->List Int->Int->Int->List Int->Int->Int->Option (Int×Int×List Int×Int)} (hC61:bJ.S61 H0 Ri R0  C61_ jn) {R_ zZ Sa z_ Sb Sd Aa Ab tQ tR:Int} {Ku Kv Kw Ky:ON} {EL xT EM xU EN xV EO xW:Nat} {Kz KA KB KC:Cap} {wH wI KD wJ:List Int} {KE KF:List AV} {H:Hp} (Se:EL=wH.length) (Sf:EM=wI.length) (Sg:EN=KD.length) (Sh:EO=wJ.length) (h0:Out H0 Ri H (Rs.blk xT [.i R_,.i zZ,.sl ⟨Ku,EL,Kz⟩] :: Rs.blk xU [.i Sa,.i z_,.sl ⟨Kv,EM,KA⟩] :: Rs.own ⟨Kw,EN,KB⟩ (ae .i64).z KE :: Rs.blk xV [.i Sb,.i Sd,.sl ⟨Kw,EN,KB⟩] :: Rs.own ⟨Ky,EO,KC⟩ (ae .i64).z KF :: Rs.blk xW [.i Aa,.i Ab,.sl ⟨Ky,EO,KC⟩] :: R0) λR=>ROs (ae .i64) H R ⟨Ku,EL,Kz⟩ wH/\ROs (ae .i64) H R ⟨Kv,EM,KA⟩ wI/\CR (ae .i64) H R KE KD/\CR (ae .i64) H R KF wJ) {r:Int×Int×List Int×Int} (hp:bJ.pj3 F jn zZ wH z_ wI Aa Ab wJ tQ tR=some r):∃ v H',bJ.j3 F (gc.tw F) (fL.tw F) (dz.tw F) (bI.tw F) C61_ xT 0 xU 0 xV 0 xW 0 tQ tR H=some (v,H')/\bJ.Q H0 Ri R0  r v H':=by
 obtain ⟨w0,s0,Si,Sj,Sk,Sm⟩:=h0
 subst Se
 subst Sf
 subst Sg
 subst Sh
 unfold bJ.pj3 at hp
 unfold bJ.j3
 exact hC61 rfl rfl rfl rfl ⟨w0,s0,Si,Sj,Sk,Sm⟩ hp
def bJ.pj4 (F:Nat) (jn:Int->List Int->Int->List Int->Int->Int->List Int->Int->Int->Option (Int×Int×List Int×Int)) (Ac:Int) (wK:List Int) (Ad:Int) (wL:List Int) (Ae:Int) (Af:Int) (wM:List Int) (tS:Int) (tT:Int):Option (Int×Int×List Int×Int):=bJ.pj3 F jn Ac wK Ad wL Ae Af wM tS tT
theorem bJ.j4_P {F:Nat} {H0:Hp} {Ri R0:List Rs}  {C61_:Nat->Nat->Nat->Nat->Nat->Nat->Nat->Nat->Int->Int->Hp->OA} {jn:Int->List Int->Int->List Int->Int->Int->List Int->Int->Int->Option (Int×Int×List Int×Int)} (hC61:bJ.S61 H0 Ri R0  C61_ jn) {Sn Ac So Ad Sp Sq Ae Af tS tT:Int} {KG KH KI KJ:ON} {EP xX EQ xY ER xZ ES x_:Nat} {KK KL KM KN:Cap} {wK wL KO wM:List Int} {KP KQ:List AV} {H:Hp} (Sr:EP=wK.length) (Ss:EQ=wL.length) (Su:ER=KO.length) (Sv:ES=wM.length) (h0:Out H0 Ri H (Rs.blk xX [.i Sn,.i Ac,.sl ⟨KG,EP,KK⟩] :: Rs.blk xY [.i So,.i Ad,.sl ⟨KH,EQ,KL⟩] :: Rs.own ⟨KI,ER,KM⟩ (ae .i64).z KP :: Rs.blk xZ [.i Sp,.i Sq,.sl ⟨KI,ER,KM⟩] :: Rs.own ⟨KJ,ES,KN⟩ (ae .i64).z KQ :: Rs.blk x_ [.i Ae,.i Af,.sl ⟨KJ,ES,KN⟩] :: R0) λR=>ROs (ae .i64) H R ⟨KG,EP,KK⟩ wK/\ROs (ae .i64) H R ⟨KH,EQ,KL⟩ wL/\CR (ae .i64) H R KP KO/\CR (ae .i64) H R KQ wM) {r:Int×Int×List Int×Int} (hp:bJ.pj4 F jn Ac wK Ad wL Ae Af wM tS tT=some r):∃ v H',bJ.j4 F (gc.tw F) (fL.tw F) (dz.tw F) (bI.tw F) C61_ xX 0 xY 0 xZ 0 x_ 0 tS tT H=some (v,H')/\bJ.Q H0 Ri R0  r v H':=by
 obtain ⟨w0,s0,Sw,Sx,Sy,Sz⟩:=h0
 subst Sr
 subst Ss
 subst Su
 subst Sv
 unfold bJ.pj4 at hp
 unfold bJ.j4
 exact bJ.j3_P (@hC61) rfl rfl rfl rfl ⟨w0,s0,Sw,Sx,Sy,Sz⟩ hp
def bJ.pl3931 (F:Nat) (jn:Int->List Int->Int->List Int->Int->Int->List Int->Int->Int->Option (Int×Int×List Int×Int)):Nat->Int->List Int->Int->List Int->Int->Int->List Int->Int->Int->Int->Int->Int->Option (Int×Int×List Int×Int)
 | 0,_,_,_,_,_,_,_,_,_,_,_,_=>none
 | k+1,sC,qU,sD,qV,vE,sE,qW,mq,mr,lz,ms,kw=>(bif (decide (kw<ms)) then ((dz.p F sC qU sD qV lz kw).bind λr1=>(bif (!r1.2) then (some (0,0,([]:List Int),3)) else ((ix qW (IntKind.i64.wrap ((IntKind.i64.wrap (lz * sE))+kw))).bind λn9=>(some (qW.set n9 r1.1)).bind λl10=>bJ.pl3931 F jn k sC qU sD qV vE sE l10 mq mr lz ms (IntKind.i64.wrap (kw+1))))) else (bJ.pj4 F jn sC qU sD qV vE sE qW mq mr))
termination_by structural n=>n
theorem bJ.l3931_P {F:Nat} {H0:Hp} {Ri R0:List Rs}  {C61_:Nat->Nat->Nat->Nat->Nat->Nat->Nat->Nat->Int->Int->Hp->OA} {jn:Int->List Int->Int->List Int->Int->Int->List Int->Int->Int->Option (Int×Int×List Int×Int)} (hC61:bJ.S61 H0 Ri R0  C61_ jn):∀ k,bJ.S3931 H0 Ri R0  (bJ.l3931 F (gc.tw F) (fL.tw F) (dz.tw F) (bI.tw F) C61_ k) (bJ.pl3931 F jn k):=by
 intro k
 induction k with
 | zero=>unfold bJ.S3931;intros;rename_i hp;cases hp
 | succ k ih=>
  intro Kp sC Kq sD Ks Kt vE sE mq mr lz ms kw EA EB EC ED zV mn zW mo zX kV zY mp EE EF EG EH qU qV EI qW EJ EK H SA SB SC SD h0 r hp
  obtain ⟨w0,s0,ET,EU,KR,EV⟩:=h0
  subst SA
  subst SB
  subst SC
  subst SD
  unfold bJ.pl3931 at hp
  unfold bJ.l3931
  refine aW hp (λhp=>?_) λhp=>?_
  ·refine ac (ag (w0.ld (i:=0) rfl rfl)) ?_
   refine ac (ag (w0.ld (i:=0) rfl rfl)) ?_
   refine ac (aF (w0.ld (i:=0) rfl rfl)) ?_
   refine ac (ag (w0.ld (i:=1) rfl rfl)) ?_
   refine ac (ag (w0.ld (i:=1) rfl rfl)) ?_
   refine ac (aF (w0.ld (i:=1) rfl rfl)) ?_
   obtain ⟨r1,e1,hp⟩:=aq hp
   refine aT (dz.P rfl rfl ⟨w0,ET,EU⟩ e1) ?_
   rintro _ H2 ⟨rfl,w2,s2,_⟩
   refine ac rfl ?_
   refine ac rfl ?_
   refine ac rfl ?_
   refine ac rfl ?_
   refine ac rfl ?_
   refine aW hp (λhp=>?_) λhp=>?_
   ·refine aY w2 (i:=3) rfl rfl rfl λH3 w3 s3=>?_
    refine aY w3 (i:=3) rfl rfl rfl λH4 w4 s4=>?_
    refine aY w4 (i:=3) rfl rfl rfl λH5 w5 s5=>?_
    dsimp only [pk,pks,nth,List.drop,List.set,List.eraseIdx] at w5 s5
    refine ac (ag (w5.ld (i:=3) rfl rfl)) ?_
    refine ac (ag (w5.ld (i:=3) rfl rfl)) ?_
    refine ac (aF (w5.ld (i:=3) rfl rfl)) ?_
    obtain ⟨w6,s6⟩:=w5.nilS (ae .i64).z (by decide)
    obtain ⟨w7,s7⟩:=w6.pick' [0] 7 rfl rfl rfl
    exact aS hp ⟨_,_,_,_,rfl,rfl,w7,(s0.trans (s2.trans (s3.trans (s4.trans (s5.trans (s6.trans s7)))))),((CR.empty:CR (ae .i64) _ _ [] []).step s7)⟩
   ·refine ac (ag (w2.ld (i:=5) rfl rfl)) ?_
    refine ac (ag (w2.ld (i:=5) rfl rfl)) ?_
    refine ac (aF (w2.ld (i:=5) rfl rfl)) ?_
    refine bI.inl ?_
    refine cv w2 λH8 w8 s8=>?_
    refine ac (aF (w8.ld (i:=0) rfl rfl)) ?_
    refine ac (ag (w8.ld (i:=0) rfl rfl)) ?_
    obtain ⟨n9,g9,hp⟩:=aq hp
    obtain ⟨p9,q9,i9,h9,j9⟩:=W.ixo (E:=(ae .i64)) w8 (i:=5) rfl rfl (EV.step (s2.trans s8)) g9
    refine ac i9 ?_
    refine ⟨_,_,rfl,?_⟩
    refine ac rfl ?_
    obtain ⟨l10,e10,hp⟩:=aq hp
    refine jj (ae .i64) w8 (i:=5) (j:=0) (p:=p9) rfl rfl (EV.step (s2.trans s8)) g9 i9 e10 rfl rfl (λ_ h=>by have h:_=[_]:=h;subst h;exact rfl) λH11 k11 w11 s11 c11=>?_
    obtain ⟨w12,s12⟩:=w11.pick' [1,2,3,4,5,6] 7 rfl rfl rfl
    exact ih rfl rfl rfl ((gp e10).symm) ⟨w12,(s0.trans (s2.trans (s8.trans (s11.trans s12)))),(ET.step (s2.trans (s8.trans (s11.trans s12)))),(EU.step (s2.trans (s8.trans (s11.trans s12)))),(KR.step (s2.trans (s8.trans (s11.trans s12)))),(c11.step s12)⟩ hp
  ·exact bJ.j4_P (@hC61) rfl rfl rfl rfl ⟨w0,s0,ET,EU,KR,EV⟩ hp
def bJ.pl61 (F:Nat) :Nat->Int->List Int->Int->List Int->Int->Int->List Int->Int->Int->Option (Int×Int×List Int×Int)
 | 0,_,_,_,_,_,_,_,_,_=>none
 | k+1,wG,vC,vz,vD,vA,vB,sB,mu,lB=>(bif (decide (lB<mu)) then (bJ.pl3931 F (bJ.pl61 F k) F wG vC vz vD vA vB sB mu lB lB vz 0) else (some (vA,vB,sB,0)))
termination_by structural n=>n
theorem bJ.l61_P {F:Nat} {H0:Hp} {Ri R0:List Rs}  :∀ k,bJ.S61 H0 Ri R0  (bJ.l61 F (gc.tw F) (fL.tw F) (dz.tw F) (bI.tw F)  k) (bJ.pl61 F  k):=by
 intro k
 induction k with
 | zero=>unfold bJ.S61;intros;rename_i hp;cases hp
 | succ k ih=>
  intro Kk wG Kl vz Km Ko vA vB mu lB Eo Ep Er Es zR ov zS nO zT lA zU mO Et Eu Ev Ew vC vD Ex sB Ey Ez H SF SG SH SJ h0 r hp
  obtain ⟨w0,s0,SK,SL,SM,KS⟩:=h0
  subst SF
  subst SG
  subst SH
  subst SJ
  unfold bJ.pl61 at hp
  unfold bJ.l61
  refine aW hp (λhp=>?_) λhp=>?_
  ·refine ac (ag (w0.ld (i:=1) rfl rfl)) ?_
   exact bJ.l3931_P (@ih) F rfl rfl rfl rfl ⟨w0,s0,SK,SL,SM,KS⟩ hp
  ·refine ac (ag (w0.ld (i:=5) rfl rfl)) ?_
   refine ac (ag (w0.ld (i:=5) rfl rfl)) ?_
   refine ac (aF (w0.ld (i:=5) rfl rfl)) ?_
   refine aY w0 (i:=3) rfl rfl rfl λH1 w1 s1=>?_
   refine aY w1 (i:=3) rfl rfl rfl λH2 w2 s2=>?_
   refine aY w2 (i:=3) rfl rfl rfl λH3 w3 s3=>?_
   dsimp only [pk,pks,nth,List.drop,List.set,List.eraseIdx] at w3 s3
   refine ac (ag (w3.ld (i:=3) rfl rfl)) ?_
   refine ac (ag (w3.ld (i:=3) rfl rfl)) ?_
   refine ac (aF (w3.ld (i:=3) rfl rfl)) ?_
   obtain ⟨w4,s4⟩:=w3.pick' [4] 6 rfl rfl rfl
   exact aS hp ⟨_,_,_,_,rfl,rfl,w4,(s0.trans (s1.trans (s2.trans (s3.trans s4)))),(KS.step (s1.trans (s2.trans (s3.trans s4))))⟩
def bJ.p (F:Nat) (aa:Int) (af:Int) (bg:List Int) (aj:Int) (aJ:Int) (ev:List Int):Option (Int×Int×List Int×Int):=(gc.p F aa af bg).bind λr4=>(bif (!r4) then (some (0,0,([]:List Int),1)) else ((gc.p F aj aJ ev).bind λr11=>(bif (!r11) then (some (0,0,([]:List Int),1)) else ((bif (af != aj) then (some (0,0,([]:List Int),2)) else ((fL.p F aa aJ).bind λr23=>bJ.pl61 F F af bg aJ ev r23.1 r23.2.1 r23.2.2 aa 0))))))
theorem bJ.P {F:Nat} {aa af aj aJ:Int} {cB jy:ON} {bR ii:Nat} {cC jz:Cap} {bg ev:List Int} {H:Hp} {R0:List Rs} (fc:bR=bg.length) (mR:ii=ev.length) (h0:Inn H R0 λR=>ROs (ae .i64) H R ⟨cB,bR,cC⟩ bg/\ROs (ae .i64) H R ⟨jy,ii,jz⟩ ev) {r:Int×Int×List Int×Int} (hp:bJ.p F aa af bg aj aJ ev=some r):∃ v H',bJ.tw F aa af ⟨cB,bR,cC⟩ aj aJ ⟨jy,ii,jz⟩ H=some (v,H')/\bJ.Q H R0 R0  r v H':=by
 obtain ⟨w0,eC,jA⟩:=h0
 subst fc
 subst mR
 unfold bJ.p at hp
 unfold bJ.tw bJ.twX
 have s0:=w0.rf
 refine cv w0 λH1 w1 s1=>?_
 refine cv w1 λH2 w2 s2=>?_
 refine cv w2 λH3 w3 s3=>?_
 refine ac (ag (w3.ld (i:=2) rfl rfl)) ?_
 refine ac (ag (w3.ld (i:=2) rfl rfl)) ?_
 refine ac (aF (w3.ld (i:=2) rfl rfl)) ?_
 obtain ⟨r4,e4,hp⟩:=aq hp
 refine aT (gc.P rfl ⟨w3,(eC.step (s1.trans (s2.trans s3)))⟩ e4) ?_
 rintro _ H5 ⟨rfl,w5,s5,_⟩
 refine ac rfl ?_
 refine aW hp (λhp=>?_) λhp=>?_
 ·refine aY w5 (i:=0) rfl rfl rfl λH6 w6 s6=>?_
  refine aY w6 (i:=0) rfl rfl rfl λH7 w7 s7=>?_
  refine aY w7 (i:=0) rfl rfl rfl λH8 w8 s8=>?_
  dsimp only [pk,pks,nth,List.drop,List.set,List.eraseIdx] at w8 s8
  refine ac (ag (w8.ld (i:=0) rfl rfl)) ?_
  refine ac (ag (w8.ld (i:=0) rfl rfl)) ?_
  refine ac (aF (w8.ld (i:=0) rfl rfl)) ?_
  obtain ⟨w9,s9⟩:=w8.nilS (ae .i64).z (by decide)
  obtain ⟨w10,s10⟩:=w9.pick' [0] 4 rfl rfl rfl
  exact aS hp ⟨_,_,_,_,rfl,rfl,w10,(s0.trans (s1.trans (s2.trans (s3.trans (s5.trans (s6.trans (s7.trans (s8.trans (s9.trans s10))))))))),((CR.empty:CR (ae .i64) _ _ [] []).step s10)⟩
 ·refine ac (ag (w5.ld (i:=1) rfl rfl)) ?_
  refine ac (ag (w5.ld (i:=1) rfl rfl)) ?_
  refine ac (aF (w5.ld (i:=1) rfl rfl)) ?_
  obtain ⟨r11,e11,hp⟩:=aq hp
  refine aT (gc.P rfl ⟨w5,(jA.step (s1.trans (s2.trans (s3.trans s5))))⟩ e11) ?_
  rintro _ H12 ⟨rfl,w12,s12,_⟩
  refine ac rfl ?_
  refine aW hp (λhp=>?_) λhp=>?_
  ·refine aY w12 (i:=0) rfl rfl rfl λH13 w13 s13=>?_
   refine aY w13 (i:=0) rfl rfl rfl λH14 w14 s14=>?_
   refine aY w14 (i:=0) rfl rfl rfl λH15 w15 s15=>?_
   dsimp only [pk,pks,nth,List.drop,List.set,List.eraseIdx] at w15 s15
   refine ac (ag (w15.ld (i:=0) rfl rfl)) ?_
   refine ac (ag (w15.ld (i:=0) rfl rfl)) ?_
   refine ac (aF (w15.ld (i:=0) rfl rfl)) ?_
   obtain ⟨w16,s16⟩:=w15.nilS (ae .i64).z (by decide)
   obtain ⟨w17,s17⟩:=w16.pick' [0] 4 rfl rfl rfl
   exact aS hp ⟨_,_,_,_,rfl,rfl,w17,(s0.trans (s1.trans (s2.trans (s3.trans (s5.trans (s12.trans (s13.trans (s14.trans (s15.trans (s16.trans s17)))))))))),((CR.empty:CR (ae .i64) _ _ [] []).step s17)⟩
  ·refine ac (ag (w12.ld (i:=2) rfl rfl)) ?_
   refine ac (ag (w12.ld (i:=1) rfl rfl)) ?_
   refine aW hp (λhp=>?_) λhp=>?_
   ·refine aY w12 (i:=0) rfl rfl rfl λH18 w18 s18=>?_
    refine aY w18 (i:=0) rfl rfl rfl λH19 w19 s19=>?_
    refine aY w19 (i:=0) rfl rfl rfl λH20 w20 s20=>?_
    dsimp only [pk,pks,nth,List.drop,List.set,List.eraseIdx] at w20 s20
    refine ac (ag (w20.ld (i:=0) rfl rfl)) ?_
    refine ac (ag (w20.ld (i:=0) rfl rfl)) ?_
    refine ac (aF (w20.ld (i:=0) rfl rfl)) ?_
    obtain ⟨w21,s21⟩:=w20.nilS (ae .i64).z (by decide)
    obtain ⟨w22,s22⟩:=w21.pick' [0] 4 rfl rfl rfl
    exact aS hp ⟨_,_,_,_,rfl,rfl,w22,(s0.trans (s1.trans (s2.trans (s3.trans (s5.trans (s12.trans (s18.trans (s19.trans (s20.trans (s21.trans s22)))))))))),((CR.empty:CR (ae .i64) _ _ [] []).step s22)⟩
   ·refine ac (ag (w12.ld (i:=2) rfl rfl)) ?_
    refine ac (ag (w12.ld (i:=1) rfl rfl)) ?_
    obtain ⟨r23,e23,hp⟩:=aq hp
    refine aT (fL.P ⟨w12,trivial⟩ e23) ?_
    rintro _ H24 ⟨o2a_24,o2n_24,o2k_24,rfl,rfl,w24,s24,f24_0⟩
    refine ac rfl ?_
    refine ac rfl ?_
    refine ac rfl ?_
    refine ac rfl ?_
    refine ac rfl ?_
    refine ac rfl ?_
    refine ac rfl ?_
    refine cv w24 λH25 w25 s25=>?_
    refine aY w25 (i:=0) rfl rfl rfl λH26 w26 s26=>?_
    refine aY w26 (i:=0) rfl rfl rfl λH27 w27 s27=>?_
    refine aY w27 (i:=0) rfl rfl rfl λH28 w28 s28=>?_
    dsimp only [pk,pks,nth,List.drop,List.set,List.eraseIdx] at w28 s28
    refine ac (ag (w28.ld (i:=4) rfl rfl)) ?_
    obtain ⟨w29,s29⟩:=w28.nilS (ae .i64).z (by decide)
    obtain ⟨w30,s30⟩:=w29.pick' [5,4,0,3,2,1] 6 rfl rfl rfl
    exact bJ.l61_P F rfl rfl rfl rfl ⟨w30,(s0.trans (s1.trans (s2.trans (s3.trans (s5.trans (s12.trans (s24.trans (s25.trans (s26.trans (s27.trans (s28.trans (s29.trans s30)))))))))))),(eC.step (s1.trans (s2.trans (s3.trans (s5.trans (s12.trans (s24.trans (s25.trans (s26.trans (s27.trans (s28.trans (s29.trans s30)))))))))))),(jA.step (s1.trans (s2.trans (s3.trans (s5.trans (s12.trans (s24.trans (s25.trans (s26.trans (s27.trans (s28.trans (s29.trans s30)))))))))))),((CR.empty:CR (ae .i64) _ _ [] []).step s30),(f24_0.step (s25.trans (s26.trans (s27.trans (s28.trans (s29.trans s30))))))⟩ hp
def iN.Q (H0:Hp) (Ri R0:List Rs)  (r:Bool) (v:AV) (H':Hp):Prop:=v=(.bool r)/\Out H0 Ri H' (R0) λR=>True
def iN.p (F:Nat) (aa:Int):Option (Bool):=some (aa != 0)
theorem iN.P {F:Nat} {aa:Int} {H:Hp} {R0:List Rs}  (h0:Inn H R0 λR=>True) {r:Bool} (hp:iN.p F aa=some r):∃ v H',iN.tw F aa H=some (v,H')/\iN.Q H R0 R0  r v H':=by
 obtain ⟨w0,_⟩:=h0
 unfold iN.p at hp
 unfold iN.tw iN.twX
 have s0:=w0.rf
 exact aS hp ⟨rfl,w0,s0,trivial⟩
def dU.Q (H0:Hp) (Ri R0:List Rs)  (r:Int) (v:AV) (H':Hp):Prop:=v=(.i r)/\Out H0 Ri H' (R0) λR=>True
def dU.S13 (H0:Hp) (Ri R0:List Rs)  (C:Sl->Int->Int->Hp->OA) (pC:List Int->Int->Int->Option (Int)):Prop:=∀ {mV:ON} {ll:Nat} {mW:Cap} {gM:List Int} {dT cP:Int},∀ {H:Hp},ll=gM.length->(Out H0 Ri H R0 λR=>ROs (ae .i64) H R ⟨mV,ll,mW⟩ gM)->∀ {r:Int},pC gM dT cP=some r->∃ v H',C ⟨mV,ll,mW⟩ dT cP H=some (v,H')/\dU.Q H0 Ri R0  r v H'
def dU.pl13 (F:Nat) :Nat->List Int->Int->Int->Option (Int)
 | 0,_,_,_=>none
 | k+1,gM,dT,cP=>(bif (decide (cP<dT)) then ((ix gM cP).bind λn1=>(iN.p F (gt gM n1)).bind λr2=>(bif r2 then (some cP) else (dU.pl13 F k gM dT (IntKind.i64.wrap (cP+1))))) else (some (-1)))
termination_by structural n=>n
theorem dU.l13_P {F:Nat} {H0:Hp} {Ri R0:List Rs}  :∀ k,dU.S13 H0 Ri R0  (dU.l13 F (iN.tw F)  k) (dU.pl13 F  k):=by
 intro k
 induction k with
 | zero=>unfold dU.S13;intros;rename_i hp;cases hp
 | succ k ih=>
  intro mV ll mW gM dT cP H sA h0 r hp
  obtain ⟨w0,s0,oM⟩:=h0
  subst sA
  unfold dU.pl13 at hp
  unfold dU.l13
  refine aW hp (λhp=>?_) λhp=>?_
  ·obtain ⟨n1,g1,hp⟩:=aq hp
   obtain ⟨p1,q1,i1,h1,j1⟩:=ROs.ixr oM rfl g1
   refine ac i1 ?_
   have h1:_=[_]:=h1
   subst h1
   refine ac (ag (j1 0 _ rfl)) ?_
   obtain ⟨r2,e2,hp⟩:=aq hp
   refine aT (iN.P ⟨w0,trivial⟩ e2) ?_
   rintro _ H3 ⟨rfl,w3,s3,_⟩
   refine ac rfl ?_
   refine aW hp (λhp=>?_) λhp=>?_
   ·exact aS hp ⟨rfl,w3,(s0.trans s3),trivial⟩
   ·exact ih rfl ⟨w3,(s0.trans s3),(oM.step s3)⟩ hp
  ·exact aS hp ⟨rfl,w0,s0,trivial⟩
def dU.p (F:Nat) (bQ:List Int):Option (Int):=dU.pl13 F F bQ (bQ.length:Int) 0
theorem dU.P {F:Nat} {ef:ON} {cR:Nat} {eg:Cap} {bQ:List Int} {H:Hp} {R0:List Rs} (gz:cR=bQ.length) (h0:Inn H R0 λR=>ROs (ae .i64) H R ⟨ef,cR,eg⟩ bQ) {r:Int} (hp:dU.p F bQ=some r):∃ v H',dU.tw F ⟨ef,cR,eg⟩ H=some (v,H')/\dU.Q H R0 R0  r v H':=by
 obtain ⟨w0,gL⟩:=h0
 subst gz
 unfold dU.p at hp
 unfold dU.tw dU.twX
 have s0:=w0.rf
 exact dU.l13_P F rfl ⟨w0,s0,gL⟩ hp
def iO.Q (H0:Hp) (Ri R0:List Rs)  (r:Bool) (v:AV) (H':Hp):Prop:=v=(.bool r)/\Out H0 Ri H' (R0) λR=>True
def iO.p (F:Nat) (bQ:List Int):Option (Bool):=(dU.p F bQ).bind λr1=>some (decide (r1>=0))
theorem iO.P {F:Nat} {ef:ON} {cR:Nat} {eg:Cap} {bQ:List Int} {H:Hp} {R0:List Rs} (gz:cR=bQ.length) (h0:Inn H R0 λR=>ROs (ae .i64) H R ⟨ef,cR,eg⟩ bQ) {r:Bool} (hp:iO.p F bQ=some r):∃ v H',iO.tw F ⟨ef,cR,eg⟩ H=some (v,H')/\iO.Q H R0 R0  r v H':=by
 obtain ⟨w0,gL⟩:=h0
 subst gz
 unfold iO.p at hp
 unfold iO.tw iO.twX
 have s0:=w0.rf
 obtain ⟨r1,e1,hp⟩:=aq hp
 refine aT (dU.P rfl ⟨w0,gL⟩ e1) ?_
 rintro _ H2 ⟨rfl,w2,s2,_⟩
 refine ac rfl ?_
 exact aS hp ⟨rfl,w2,(s0.trans s2),trivial⟩
def dA.Q (H0:Hp) (Ri R0:List Rs)  (r:Int×Int×List Int) (v:AV) (H':Hp):Prop:=∃ o2a:ON,∃ o2n:Nat,∃ o2c:Cap,∃ o2k:List AV,v=(.agg [(.i r.1),(.i r.2.1),(.sl ⟨o2a,o2n,o2c⟩)])/\o2n=(r.2.2).length/\Out H0 Ri H' (Rs.own ⟨o2a,o2n,o2c⟩ (ae .i64).z o2k :: R0) λR=>CR (ae .i64) H' R o2k (r.2.2)
def dA.S29 (H0:Hp) (Ri R0:List Rs)  (C:Nat->Nat->Nat->Nat->Int->Int->Hp->OA) (pC:Int->Int->List Int->Int->Int->Option (Int×Int×List Int)):Prop:=∀ {wt wu nT nw mv kx:Int} {rO rP:ON} {pV dw pW gE:Nat} {rQ rR:Cap} {rS lO:List Int} {rT rU:List AV},∀ {H:Hp},pV=rS.length->pW=lO.length->(Out H0 Ri H (Rs.own ⟨rO,pV,rQ⟩ (ae .i64).z rT :: Rs.blk dw [.i wt,.i wu,.sl ⟨rO,pV,rQ⟩] :: Rs.own ⟨rP,pW,rR⟩ (ae .i64).z rU :: Rs.blk gE [.i nT,.i nw,.sl ⟨rP,pW,rR⟩] :: R0) λR=>CR (ae .i64) H R rT rS/\CR (ae .i64) H R rU lO)->∀ {r:Int×Int×List Int},pC nT nw lO mv kx=some r->∃ v H',C dw 0 gE 0 mv kx H=some (v,H')/\dA.Q H0 Ri R0  r v H'
def dA.pl29 (F:Nat) :Nat->Int->Int->List Int->Int->Int->Option (Int×Int×List Int)
 | 0,_,_,_,_,_=>none
 | k+1,nT,nw,lO,mv,kx=>(bif (decide (kx<mv)) then ((ix lO (IntKind.i64.wrap ((IntKind.i64.wrap (kx * nw))+kx))).bind λn2=>(some (lO.set n2 1)).bind λl3=>dA.pl29 F k nT nw l3 mv (IntKind.i64.wrap (kx+1))) else (some (nT,nw,lO)))
termination_by structural n=>n
theorem dA.l29_P {F:Nat} {H0:Hp} {Ri R0:List Rs}  :∀ k,dA.S29 H0 Ri R0  (dA.l29 F (fL.tw F) (bI.tw F)  k) (dA.pl29 F  k):=by
 intro k
 induction k with
 | zero=>unfold dA.S29;intros;rename_i hp;cases hp
 | succ k ih=>
  intro wt wu nT nw mv kx rO rP pV dw pW gE rQ rR rS lO rT rU H Ch Ci h0 r hp
  obtain ⟨w0,s0,Cj,rV⟩:=h0
  subst Ch
  subst Ci
  unfold dA.pl29 at hp
  unfold dA.l29
  refine aW hp (λhp=>?_) λhp=>?_
  ·refine ac (ag (w0.ld (i:=3) rfl rfl)) ?_
   refine ac (ag (w0.ld (i:=3) rfl rfl)) ?_
   refine ac (aF (w0.ld (i:=3) rfl rfl)) ?_
   refine bI.inl ?_
   refine cv w0 λH1 w1 s1=>?_
   refine ac (aF (w1.ld (i:=0) rfl rfl)) ?_
   refine ac (ag (w1.ld (i:=0) rfl rfl)) ?_
   obtain ⟨n2,g2,hp⟩:=aq hp
   obtain ⟨p2,q2,i2,h2,j2⟩:=W.ixo (E:=(ae .i64)) w1 (i:=3) rfl rfl (rV.step s1) g2
   refine ac i2 ?_
   refine ⟨_,_,rfl,?_⟩
   refine ac rfl ?_
   obtain ⟨l3,e3,hp⟩:=aq hp
   refine jj (ae .i64) w1 (i:=3) (j:=0) (p:=p2) rfl rfl (rV.step s1) g2 i2 e3 rfl rfl (λ_ h=>by have h:_=[_]:=h;subst h;exact rfl) λH4 k4 w4 s4 c4=>?_
   obtain ⟨w5,s5⟩:=w4.pick' [1,2,3,4] 5 rfl rfl rfl
   exact ih rfl ((gp e3).symm) ⟨w5,(s0.trans (s1.trans (s4.trans s5))),(Cj.step (s1.trans (s4.trans s5))),(c4.step s5)⟩ hp
  ·refine ac (ag (w0.ld (i:=3) rfl rfl)) ?_
   refine ac (ag (w0.ld (i:=3) rfl rfl)) ?_
   refine ac (aF (w0.ld (i:=3) rfl rfl)) ?_
   refine aY w0 (i:=1) rfl rfl rfl λH6 w6 s6=>?_
   refine aY w6 (i:=1) rfl rfl rfl λH7 w7 s7=>?_
   refine aY w7 (i:=1) rfl rfl rfl λH8 w8 s8=>?_
   dsimp only [pk,pks,nth,List.drop,List.set,List.eraseIdx] at w8 s8
   refine ac (ag (w8.ld (i:=1) rfl rfl)) ?_
   refine ac (ag (w8.ld (i:=1) rfl rfl)) ?_
   refine ac (aF (w8.ld (i:=1) rfl rfl)) ?_
   obtain ⟨w9,s9⟩:=w8.pick' [2] 4 rfl rfl rfl
   exact aS hp ⟨_,_,_,_,rfl,rfl,w9,(s0.trans (s6.trans (s7.trans (s8.trans s9)))),(rV.step (s6.trans (s7.trans (s8.trans s9))))⟩
def dA.p (F:Nat) (aa:Int):Option (Int×Int×List Int):=(fL.p F aa aa).bind λr2=>dA.pl29 F F r2.1 r2.2.1 r2.2.2 aa 0
theorem dA.P {F:Nat} {aa:Int} {H:Hp} {R0:List Rs}  (h0:Inn H R0 λR=>True) {r:Int×Int×List Int} (hp:dA.p F aa=some r):∃ v H',dA.tw F aa H=some (v,H')/\dA.Q H R0 R0  r v H':=by
 obtain ⟨w0,_⟩:=h0
 unfold dA.p at hp
 unfold dA.tw dA.twX
 have s0:=w0.rf
 refine cv w0 λH1 w1 s1=>?_
 obtain ⟨r2,e2,hp⟩:=aq hp
 refine aT (fL.P ⟨w1,trivial⟩ e2) ?_
 rintro _ H3 ⟨o2a_3,o2n_3,o2k_3,rfl,rfl,w3,s3,f3_0⟩
 refine ac rfl ?_
 refine ac rfl ?_
 refine ac rfl ?_
 refine ac rfl ?_
 refine ac rfl ?_
 refine ac rfl ?_
 refine ac rfl ?_
 refine cv w3 λH4 w4 s4=>?_
 refine aY w4 (i:=0) rfl rfl rfl λH5 w5 s5=>?_
 refine aY w5 (i:=0) rfl rfl rfl λH6 w6 s6=>?_
 refine aY w6 (i:=0) rfl rfl rfl λH7 w7 s7=>?_
 dsimp only [pk,pks,nth,List.drop,List.set,List.eraseIdx] at w7 s7
 obtain ⟨w8,s8⟩:=w7.nilS (ae .i64).z (by decide)
 obtain ⟨w9,s9⟩:=w8.pick' [0,3,2,1] 4 rfl rfl rfl
 exact dA.l29_P F rfl rfl ⟨w9,(s0.trans (s1.trans (s3.trans (s4.trans (s5.trans (s6.trans (s7.trans (s8.trans s9)))))))),((CR.empty:CR (ae .i64) _ _ [] []).step s9),(f3_0.step (s4.trans (s5.trans (s6.trans (s7.trans (s8.trans s9))))))⟩ hp
def jg.Q (H0:Hp) (Ri R0:List Rs)  (r:List Int) (v:AV) (H':Hp):Prop:=∃ o0a:ON,∃ o0n:Nat,∃ o0c:Cap,∃ o0k:List AV,v=(.sl ⟨o0a,o0n,o0c⟩)/\o0n=(r).length/\Out H0 Ri H' (Rs.own ⟨o0a,o0n,o0c⟩ (ae .i64).z o0k :: R0) λR=>CR (ae .i64) H' R o0k (r)
def jg.p (F:Nat) (bQ:List Int):Option (List Int):=apn ([]:List Int) bQ
theorem jg.P {F:Nat} {ef:ON} {cR:Nat} {eg:Cap} {bQ:List Int} {H:Hp} {R0:List Rs} (gz:cR=bQ.length) (h0:Inn H R0 λR=>ROs (ae .i64) H R ⟨ef,cR,eg⟩ bQ) {r:List Int} (hp:jg.p F bQ=some r):∃ v H',jg.tw F ⟨ef,cR,eg⟩ H=some (v,H')/\jg.Q H R0 R0  r v H':=by
 obtain ⟨w0,f0⟩:=h0
 subst gz
 unfold jg.p at hp
 unfold jg.tw jg.twX
 have s0:=w0.rf
 refine AK (λhb=>?_) (λhb=>?_)
 ·obtain ⟨w1,s1⟩:=w0.nilS (ae .i64).z (by decide)
  obtain rfl:=ROs.none_nil f0 (Option.isNone_iff_eq_none.1 hb)
  obtain rfl:r=[]:=(Mh hp).2
  exact ⟨_,_,rfl,none,0,.ex 0,[],rfl,rfl,w1,s0.trans s1,CR.empty⟩
 ·refine sM (ae .i64) w0 (n:=0) (l:=[]) rfl CR.empty rfl λH2 w2 s2 c2=>?_
  obtain ⟨xs,hx,cx⟩:=(f0.step s2).row rfl
  refine ac hx ?_
  refine xj (ae .i64) w2 (i:=0) rfl rfl c2 cx rfl rfl hp λa d H3 w3 s3 c3 _=>?_
  dsimp only [List.set] at w3 s3 c3
  exact ⟨_,_,rfl,_,_,_,_,rfl,rfl,w3,s0.trans (s2.trans s3),c3⟩
def iz.Q (H0:Hp) (Ri R0:List Rs)  (r:Int×Int×List Int) (v:AV) (H':Hp):Prop:=∃ o2a:ON,∃ o2n:Nat,∃ o2c:Cap,∃ o2k:List AV,v=(.agg [(.i r.1),(.i r.2.1),(.sl ⟨o2a,o2n,o2c⟩)])/\o2n=(r.2.2).length/\Out H0 Ri H' (Rs.own ⟨o2a,o2n,o2c⟩ (ae .i64).z o2k :: R0) λR=>CR (ae .i64) H' R o2k (r.2.2)
def iz.p (F:Nat) (aa:Int) (af:Int) (bg:List Int):Option (Int×Int×List Int):=(jg.p F bg).bind λr3=>some (aa,af,r3)
theorem iz.P {F:Nat} {aa af:Int} {cB:ON} {bR:Nat} {cC:Cap} {bg:List Int} {H:Hp} {R0:List Rs} (fc:bR=bg.length) (h0:Inn H R0 λR=>ROs (ae .i64) H R ⟨cB,bR,cC⟩ bg) {r:Int×Int×List Int} (hp:iz.p F aa af bg=some r):∃ v H',iz.tw F aa af ⟨cB,bR,cC⟩ H=some (v,H')/\iz.Q H R0 R0  r v H':=by
 obtain ⟨w0,eC⟩:=h0
 subst fc
 unfold iz.p at hp
 unfold iz.tw iz.twX
 have s0:=w0.rf
 refine cv w0 λH1 w1 s1=>?_
 refine cv w1 λH2 w2 s2=>?_
 refine ac (aF (w2.ld (i:=1) rfl rfl)) ?_
 obtain ⟨r3,e3,hp⟩:=aq hp
 refine aT (jg.P rfl ⟨w2,(eC.step (s1.trans s2))⟩ e3) ?_
 rintro _ H4 ⟨o0a_4,o0n_4,o0c_4,o0k_4,rfl,rfl,w4,s4,f4_0⟩
 refine ac rfl ?_
 refine aY w4 (i:=2) rfl rfl rfl λH5 w5 s5=>?_
 refine ac (ag (w5.ld (i:=2) rfl rfl)) ?_
 refine ac (ag (w5.ld (i:=2) rfl rfl)) ?_
 refine ac (aF (w5.ld (i:=2) rfl rfl)) ?_
 refine aY w5 (i:=1) rfl rfl rfl λH6 w6 s6=>?_
 refine aY w6 (i:=1) rfl rfl rfl λH7 w7 s7=>?_
 dsimp only [pk,pks,nth,List.drop,List.set,List.eraseIdx] at w7 s7
 refine aY w7 (i:=1) rfl rfl rfl λH8 w8 s8=>?_
 refine ac (ag (w8.ld (i:=1) rfl rfl)) ?_
 refine ac (ag (w8.ld (i:=1) rfl rfl)) ?_
 refine ac (aF (w8.ld (i:=1) rfl rfl)) ?_
 obtain ⟨w9,s9⟩:=w8.pick' [0] 3 rfl rfl rfl
 exact aS hp ⟨_,_,_,_,rfl,rfl,w9,(s0.trans (s1.trans (s2.trans (s4.trans (s5.trans (s6.trans (s7.trans (s8.trans s9)))))))),(f4_0.step (s5.trans (s6.trans (s7.trans (s8.trans s9)))))⟩
def aZ.Q (H0:Hp) (Ri R0:List Rs) (bC bi bE bv bj bf bw bz bS bA:Int) (eA dk dl dn:Sl) (cz:ON) (bV aa:Nat) (cA:Cap) (dv:List Int) (aE:Bool) (r:Int×Int×Bool) (v:AV) (H':Hp):Prop:=v=(.tup [(.i r.1),(.i r.2.1),(.bool r.2.2)])/\Out H0 Ri H' (Rs.blk aa [.i bC,.i bi,.sl eA,.i bE,.i bv,.sl dk,.i bj,.i bf,.sl ⟨cz,bV,cA⟩,.i bw,.i bz,.sl dl,.i bS,.i bA,.sl dn,.bool aE] :: R0) λR=>True
def aZ.S29 (H0:Hp) (Ri R0:List Rs) (aB ar aH av aw au ay az aM aA:Int) (eD cE cF cG:Sl) (aP:ON) (aI aG:Nat) (aQ:Cap) (cu:List Int) (bT:Bool) (C:Int->Int->Int->Bool->Nat->Nat->Int->Hp->OA) (pC:Int->Int->Int->Bool->Int->Int->List Int->Int->Option (Int×Int×Bool)):Prop:=∀ {dX gm gP vF wN mz:Int} {mw:Bool} {nP:Nat},∀ {H:Hp},aI=cu.length->(Out H0 Ri H (Rs.blk nP [.i vF,.i wN,.sl ⟨aP,aI,aQ⟩] :: Rs.blk aG [.i aB,.i ar,.sl eD,.i aH,.i av,.sl cE,.i aw,.i au,.sl ⟨aP,aI,aQ⟩,.i ay,.i az,.sl cF,.i aM,.i aA,.sl cG,.bool bT] :: R0) λR=>ROs (ae .i64) H R ⟨aP,aI,aQ⟩ cu)->∀ {r:Int×Int×Bool},pC dX gm gP mw vF wN cu mz=some r->∃ v H',C dX gm gP mw nP 0 mz H=some (v,H')/\aZ.Q H0 Ri R0 aB ar aH av aw au ay az aM aA eD cE cF cG aP aI aG aQ cu bT r v H'
def aZ.S469 (H0:Hp) (Ri R0:List Rs) (aB ar aH av aw au ay az aM aA:Int) (eD cE cF cG:Sl) (aP:ON) (aI aG:Nat) (aQ:Cap) (cu:List Int) (bT:Bool) (C:Int->Int->Int->Bool->Nat->Nat->Int->Int->Hp->OA) (pC:Int->Int->Int->Bool->Int->Int->List Int->Int->Int->Option (Int×Int×Bool)):Prop:=∀ {jS ky kz qb oy iR iS:Int} {kA:Bool} {jx:Nat},∀ {H:Hp},aI=cu.length->(Out H0 Ri H (Rs.blk jx [.i qb,.i oy,.sl ⟨aP,aI,aQ⟩] :: Rs.blk aG [.i aB,.i ar,.sl eD,.i aH,.i av,.sl cE,.i aw,.i au,.sl ⟨aP,aI,aQ⟩,.i ay,.i az,.sl cF,.i aM,.i aA,.sl cG,.bool bT] :: R0) λR=>ROs (ae .i64) H R ⟨aP,aI,aQ⟩ cu)->∀ {r:Int×Int×Bool},pC jS ky kz kA qb oy cu iR iS=some r->∃ v H',C jS ky kz kA jx 0 iR iS H=some (v,H')/\aZ.Q H0 Ri R0 aB ar aH av aw au ay az aM aA eD cE cF cG aP aI aG aQ cu bT r v H'
def aZ.pj9 (F:Nat) (jm:Int->Int->Int->Bool->Int->Int->List Int->Int->Int->Option (Int×Int×Bool)) (uj:Int) (uk:Int) (ul:Int) (um:Bool) (Ag:Int) (Ah:Int) (cu:List Int) (un:Int) (uo:Int):Option (Int×Int×Bool):=jm uj uk ul um Ag Ah cu un (IntKind.i64.wrap (uo+1))
theorem aZ.j9_P {F:Nat} {H0:Hp} {Ri R0:List Rs} {aB ar aH av aw au ay az aM aA:Int} {eD cE cF cG:Sl} {aP:ON} {aI aG:Nat} {aQ:Cap} {cu:List Int} {bT:Bool} {C469_:Int->Int->Int->Bool->Nat->Nat->Int->Int->Hp->OA} {jm:Int->Int->Int->Bool->Int->Int->List Int->Int->Int->Option (Int×Int×Bool)} (hC469:aZ.S469 H0 Ri R0 aB ar aH av aw au ay az aM aA eD cE cF cG aP aI aG aQ cu bT C469_ jm) {uj uk ul Ag Ah un uo:Int} {um:Bool} {yc:Nat} {H:Hp} (lP:aI=cu.length) (h0:Out H0 Ri H (Rs.blk yc [.i Ag,.i Ah,.sl ⟨aP,aI,aQ⟩] :: Rs.blk aG [.i aB,.i ar,.sl eD,.i aH,.i av,.sl cE,.i aw,.i au,.sl ⟨aP,aI,aQ⟩,.i ay,.i az,.sl cF,.i aM,.i aA,.sl cG,.bool bT] :: R0) λR=>ROs (ae .i64) H R ⟨aP,aI,aQ⟩ cu) {r:Int×Int×Bool} (hp:aZ.pj9 F jm uj uk ul um Ag Ah cu un uo=some r):∃ v H',aZ.j9 F (bI.tw F) (d_.tw F) C469_ uj uk ul um yc 0 un uo H=some (v,H')/\aZ.Q H0 Ri R0 aB ar aH av aw au ay az aM aA eD cE cF cG aP aI aG aQ cu bT r v H':=by
 obtain ⟨w0,s0,jd⟩:=h0
 subst lP
 unfold aZ.pj9 at hp
 unfold aZ.j9
 exact hC469 rfl ⟨w0,s0,jd⟩ hp
def aZ.pj7 (F:Nat) (cW:Int->Int->Int->Bool->Int->Int->List Int->Int->Option (Int×Int×Bool)) (t_:Int) (ua:Int) (ub:Int) (uc:Bool) (Ai:Int) (Aj:Int) (cu:List Int) (ud:Int):Option (Int×Int×Bool):=cW t_ ua ub uc Ai Aj cu (IntKind.i64.wrap (ud+1))
theorem aZ.j7_P {F:Nat} {H0:Hp} {Ri R0:List Rs} {aB ar aH av aw au ay az aM aA:Int} {eD cE cF cG:Sl} {aP:ON} {aI aG:Nat} {aQ:Cap} {cu:List Int} {bT:Bool} {C29_:Int->Int->Int->Bool->Nat->Nat->Int->Hp->OA} {cW:Int->Int->Int->Bool->Int->Int->List Int->Int->Option (Int×Int×Bool)} (hC29:aZ.S29 H0 Ri R0 aB ar aH av aw au ay az aM aA eD cE cF cG aP aI aG aQ cu bT C29_ cW) {t_ ua ub Ai Aj ud:Int} {uc:Bool} {ya:Nat} {H:Hp} (lP:aI=cu.length) (h0:Out H0 Ri H (Rs.blk ya [.i Ai,.i Aj,.sl ⟨aP,aI,aQ⟩] :: Rs.blk aG [.i aB,.i ar,.sl eD,.i aH,.i av,.sl cE,.i aw,.i au,.sl ⟨aP,aI,aQ⟩,.i ay,.i az,.sl cF,.i aM,.i aA,.sl cG,.bool bT] :: R0) λR=>ROs (ae .i64) H R ⟨aP,aI,aQ⟩ cu) {r:Int×Int×Bool} (hp:aZ.pj7 F cW t_ ua ub uc Ai Aj cu ud=some r):∃ v H',aZ.j7 F (bI.tw F) (d_.tw F) C29_ t_ ua ub uc ya 0 ud H=some (v,H')/\aZ.Q H0 Ri R0 aB ar aH av aw au ay az aM aA eD cE cF cG aP aI aG aQ cu bT r v H':=by
 obtain ⟨w0,s0,jd⟩:=h0
 subst lP
 unfold aZ.pj7 at hp
 unfold aZ.j7
 exact hC29 rfl ⟨w0,s0,jd⟩ hp
def aZ.pj8 (F:Nat) (cW:Int->Int->Int->Bool->Int->Int->List Int->Int->Option (Int×Int×Bool)) (ue:Int) (uf:Int) (ug:Int) (uh:Bool) (Ak:Int) (Al:Int) (cu:List Int) (ui:Int):Option (Int×Int×Bool):=aZ.pj7 F cW ue uf ug uh Ak Al cu ui
theorem aZ.j8_P {F:Nat} {H0:Hp} {Ri R0:List Rs} {aB ar aH av aw au ay az aM aA:Int} {eD cE cF cG:Sl} {aP:ON} {aI aG:Nat} {aQ:Cap} {cu:List Int} {bT:Bool} {C29_:Int->Int->Int->Bool->Nat->Nat->Int->Hp->OA} {cW:Int->Int->Int->Bool->Int->Int->List Int->Int->Option (Int×Int×Bool)} (hC29:aZ.S29 H0 Ri R0 aB ar aH av aw au ay az aM aA eD cE cF cG aP aI aG aQ cu bT C29_ cW) {ue uf ug Ak Al ui:Int} {uh:Bool} {yb:Nat} {H:Hp} (lP:aI=cu.length) (h0:Out H0 Ri H (Rs.blk yb [.i Ak,.i Al,.sl ⟨aP,aI,aQ⟩] :: Rs.blk aG [.i aB,.i ar,.sl eD,.i aH,.i av,.sl cE,.i aw,.i au,.sl ⟨aP,aI,aQ⟩,.i ay,.i az,.sl cF,.i aM,.i aA,.sl cG,.bool bT] :: R0) λR=>ROs (ae .i64) H R ⟨aP,aI,aQ⟩ cu) {r:Int×Int×Bool} (hp:aZ.pj8 F cW ue uf ug uh Ak Al cu ui=some r):∃ v H',aZ.j8 F (bI.tw F) (d_.tw F) C29_ ue uf ug uh yb 0 ui H=some (v,H')/\aZ.Q H0 Ri R0 aB ar aH av aw au ay az aM aA eD cE cF cG aP aI aG aQ cu bT r v H':=by
 obtain ⟨w0,s0,jd⟩:=h0
 subst lP
 unfold aZ.pj8 at hp
 unfold aZ.j8
 exact aZ.j7_P (@hC29) rfl ⟨w0,s0,jd⟩ hp
def aZ.pl469 (F:Nat) (cW:Int->Int->Int->Bool->Int->Int->List Int->Int->Option (Int×Int×Bool)):Nat->Int->Int->Int->Bool->Int->Int->List Int->Int->Int->Option (Int×Int×Bool)
 | 0,_,_,_,_,_,_,_,_,_=>none
 | k+1,jS,ky,kz,kA,qb,oy,cu,iR,iS=>(bif (decide (iS<oy)) then ((ix cu (IntKind.i64.wrap ((IntKind.i64.wrap (iR * oy))+iS))).bind λn2=>(d_.p F (gt cu n2)).bind λr3=>(bif (r3 != 0) then ((bif (!kA) then (aZ.pl469 F cW k jS iR iS true qb oy cu iR (IntKind.i64.wrap (iS+1))) else ((ix cu (IntKind.i64.wrap ((IntKind.i64.wrap (ky * oy))+kz))).bind λn7=>(d_.p F (gt cu n7)).bind λr8=>(bif (decide (r3<r8)) then (aZ.pj9 F (aZ.pl469 F cW k) jS iR iS true qb oy cu iR iS) else (aZ.pj9 F (aZ.pl469 F cW k) jS ky kz kA qb oy cu iR iS))))) else (aZ.pl469 F cW k jS ky kz kA qb oy cu iR (IntKind.i64.wrap (iS+1))))) else (aZ.pj8 F cW jS ky kz kA qb oy cu iR))
termination_by structural n=>n
theorem aZ.l469_P {F:Nat} {H0:Hp} {Ri R0:List Rs} {aB ar aH av aw au ay az aM aA:Int} {eD cE cF cG:Sl} {aP:ON} {aI aG:Nat} {aQ:Cap} {cu:List Int} {bT:Bool} {C29_:Int->Int->Int->Bool->Nat->Nat->Int->Hp->OA} {cW:Int->Int->Int->Bool->Int->Int->List Int->Int->Option (Int×Int×Bool)} (hC29:aZ.S29 H0 Ri R0 aB ar aH av aw au ay az aM aA eD cE cF cG aP aI aG aQ cu bT C29_ cW):∀ k,aZ.S469 H0 Ri R0 aB ar aH av aw au ay az aM aA eD cE cF cG aP aI aG aQ cu bT (aZ.l469 F (bI.tw F) (d_.tw F) C29_ k) (aZ.pl469 F cW k):=by
 intro k
 induction k with
 | zero=>unfold aZ.S469;intros;rename_i hp;cases hp
 | succ k ih=>
  intro jS ky kz qb oy iR iS kA jx H lP h0 r hp
  obtain ⟨w0,s0,jd⟩:=h0
  subst lP
  unfold aZ.pl469 at hp
  unfold aZ.l469
  refine ac (ag (w0.ld (i:=0) rfl rfl)) ?_
  refine aW hp (λhp=>?_) λhp=>?_
  ·refine ac (ag (w0.ld (i:=0) rfl rfl)) ?_
   refine ac (ag (w0.ld (i:=0) rfl rfl)) ?_
   refine ac (aF (w0.ld (i:=0) rfl rfl)) ?_
   refine bI.inl ?_
   refine cv w0 λH1 w1 s1=>?_
   refine ac (aF (w1.ld (i:=0) rfl rfl)) ?_
   refine ac (ag (w1.ld (i:=0) rfl rfl)) ?_
   obtain ⟨n2,g2,hp⟩:=aq hp
   obtain ⟨p2,q2,i2,h2,j2⟩:=ROs.ixr (jd.step s1) rfl g2
   refine ac i2 ?_
   refine ⟨_,_,rfl,?_⟩
   refine ac rfl ?_
   have h2:_=[_]:=h2
   subst h2
   refine ac (ag (j2 0 _ rfl)) ?_
   obtain ⟨r3,e3,hp⟩:=aq hp
   refine aT (d_.P ⟨w1,trivial⟩ e3) ?_
   rintro _ H4 ⟨rfl,w4,s4,_⟩
   refine ac rfl ?_
   refine aW hp (λhp=>?_) λhp=>?_
   ·refine aW hp (λhp=>?_) λhp=>?_
    ·obtain ⟨w5,s5⟩:=w4.pick' [1,2] 3 rfl rfl rfl
     exact ih rfl ⟨w5,(s0.trans (s1.trans (s4.trans s5))),(jd.step (s1.trans (s4.trans s5)))⟩ hp
    ·refine ac (ag (w4.ld (i:=1) rfl rfl)) ?_
     refine ac (ag (w4.ld (i:=1) rfl rfl)) ?_
     refine ac (aF (w4.ld (i:=1) rfl rfl)) ?_
     refine bI.inl ?_
     refine cv w4 λH6 w6 s6=>?_
     refine ac (aF (w6.ld (i:=0) rfl rfl)) ?_
     refine ac (ag (w6.ld (i:=0) rfl rfl)) ?_
     obtain ⟨n7,g7,hp⟩:=aq hp
     obtain ⟨p7,q7,i7,h7,j7⟩:=ROs.ixr (jd.step (s1.trans (s4.trans s6))) rfl g7
     refine ac i7 ?_
     refine ⟨_,_,rfl,?_⟩
     refine ac rfl ?_
     have h7:_=[_]:=h7
     subst h7
     refine ac (ag (j7 0 _ rfl)) ?_
     obtain ⟨r8,e8,hp⟩:=aq hp
     refine aT (d_.P ⟨w6,trivial⟩ e8) ?_
     rintro _ H9 ⟨rfl,w9,s9,_⟩
     refine ac rfl ?_
     refine aW hp (λhp=>?_) λhp=>?_
     ·obtain ⟨w10,s10⟩:=w9.pick' [2,3] 4 rfl rfl rfl
      exact aZ.j9_P (@ih) rfl ⟨w10,(s0.trans (s1.trans (s4.trans (s6.trans (s9.trans s10))))),(jd.step (s1.trans (s4.trans (s6.trans (s9.trans s10)))))⟩ hp
     ·obtain ⟨w11,s11⟩:=w9.pick' [2,3] 4 rfl rfl rfl
      exact aZ.j9_P (@ih) rfl ⟨w11,(s0.trans (s1.trans (s4.trans (s6.trans (s9.trans s11))))),(jd.step (s1.trans (s4.trans (s6.trans (s9.trans s11)))))⟩ hp
   ·obtain ⟨w12,s12⟩:=w4.pick' [1,2] 3 rfl rfl rfl
    exact ih rfl ⟨w12,(s0.trans (s1.trans (s4.trans s12))),(jd.step (s1.trans (s4.trans s12)))⟩ hp
  ·exact aZ.j8_P (@hC29) rfl ⟨w0,s0,jd⟩ hp
def aZ.pj5 (F:Nat)  (tX:Int) (tY:Int) (tZ:Bool):Option (Int×Int×Bool):=some (tX,tY,tZ)
theorem aZ.j5_P {F:Nat} {H0:Hp} {Ri R0:List Rs} {aB ar aH av aw au ay az aM aA:Int} {eD cE cF cG:Sl} {aP:ON} {aI aG:Nat} {aQ:Cap} {cu:List Int} {bT:Bool}  {tX tY:Int} {tZ:Bool} {H:Hp} (lP:aI=cu.length) (h0:Out H0 Ri H (Rs.blk aG [.i aB,.i ar,.sl eD,.i aH,.i av,.sl cE,.i aw,.i au,.sl ⟨aP,aI,aQ⟩,.i ay,.i az,.sl cF,.i aM,.i aA,.sl cG,.bool bT] :: R0) λR=>ROs (ae .i64) H R ⟨aP,aI,aQ⟩ cu) {r:Int×Int×Bool} (hp:aZ.pj5 F  tX tY tZ=some r):∃ v H',aZ.j5 F (bI.tw F) (d_.tw F)  tX tY tZ H=some (v,H')/\aZ.Q H0 Ri R0 aB ar aH av aw au ay az aM aA eD cE cF cG aP aI aG aQ cu bT r v H':=by
 obtain ⟨w0,s0,jd⟩:=h0
 subst lP
 unfold aZ.pj5 at hp
 unfold aZ.j5
 exact aS hp ⟨rfl,w0,s0,trivial⟩
def aZ.pl29 (F:Nat) :Nat->Int->Int->Int->Bool->Int->Int->List Int->Int->Option (Int×Int×Bool)
 | 0,_,_,_,_,_,_,_,_=>none
 | k+1,dX,gm,gP,mw,vF,wN,cu,mz=>(bif (decide (mz<vF)) then (aZ.pl469 F (aZ.pl29 F k) F dX gm gP mw vF wN cu mz dX) else (aZ.pj5 F gm gP mw))
termination_by structural n=>n
theorem aZ.l29_P {F:Nat} {H0:Hp} {Ri R0:List Rs} {aB ar aH av aw au ay az aM aA:Int} {eD cE cF cG:Sl} {aP:ON} {aI aG:Nat} {aQ:Cap} {cu:List Int} {bT:Bool} :∀ k,aZ.S29 H0 Ri R0 aB ar aH av aw au ay az aM aA eD cE cF cG aP aI aG aQ cu bT (aZ.l29 F (bI.tw F) (d_.tw F)  k) (aZ.pl29 F  k):=by
 intro k
 induction k with
 | zero=>unfold aZ.S29;intros;rename_i hp;cases hp
 | succ k ih=>
  intro dX gm gP vF wN mz mw nP H lP h0 r hp
  obtain ⟨w0,s0,jd⟩:=h0
  subst lP
  unfold aZ.pl29 at hp
  unfold aZ.l29
  refine ac (ag (w0.ld (i:=0) rfl rfl)) ?_
  refine aW hp (λhp=>?_) λhp=>?_
  ·exact aZ.l469_P (@ih) F rfl ⟨w0,s0,jd⟩ hp
  ·obtain ⟨w1,s1⟩:=w0.pick' [1] 2 rfl rfl rfl
   exact aZ.j5_P rfl ⟨w1,(s0.trans s1),(jd.step s1)⟩ hp
def aZ.p (F:Nat) (bj:Int) (bf:Int) (dv:List Int) (ai:Int):Option (Int×Int×Bool):=aZ.pl29 F F ai 0 0 false bj bf dv ai
theorem aZ.P {F:Nat} {bC bi bE bv bj bf bw bz bS bA ai:Int} {eA dk dl dn:Sl} {cz:ON} {bV aa:Nat} {cA:Cap} {dv:List Int} {aE:Bool} {H:Hp} {R0:List Rs} (ke:bV=dv.length) (h0:Inn H (Rs.blk aa [.i bC,.i bi,.sl eA,.i bE,.i bv,.sl dk,.i bj,.i bf,.sl ⟨cz,bV,cA⟩,.i bw,.i bz,.sl dl,.i bS,.i bA,.sl dn,.bool aE] :: R0) λR=>ROs (ae .i64) H R ⟨cz,bV,cA⟩ dv) {r:Int×Int×Bool} (hp:aZ.p F bj bf dv ai=some r):∃ v H',aZ.tw F aa 0 ai H=some (v,H')/\aZ.Q H (Rs.blk aa [.i bC,.i bi,.sl eA,.i bE,.i bv,.sl dk,.i bj,.i bf,.sl ⟨cz,bV,cA⟩,.i bw,.i bz,.sl dl,.i bS,.i bA,.sl dn,.bool aE] :: R0) R0 bC bi bE bv bj bf bw bz bS bA eA dk dl dn cz bV aa cA dv aE r v H':=by
 obtain ⟨w0,js⟩:=h0
 subst ke
 unfold aZ.p at hp
 unfold aZ.tw aZ.twX
 have s0:=w0.rf
 refine ac (ag (w0.ld (i:=0) rfl rfl)) ?_
 refine ac (ag (w0.ld (i:=0) rfl rfl)) ?_
 refine ac (aF (w0.ld (i:=0) rfl rfl)) ?_
 refine cv w0 λH1 w1 s1=>?_
 refine aY w1 (i:=0) rfl rfl rfl λH2 w2 s2=>?_
 refine aY w2 (i:=0) rfl rfl rfl λH3 w3 s3=>?_
 refine aY w3 (i:=0) rfl rfl rfl λH4 w4 s4=>?_
 dsimp only [pk,pks,nth,List.drop,List.set,List.eraseIdx] at w4 s4
 exact aZ.l29_P F rfl ⟨w4,(s0.trans (s1.trans (s2.trans (s3.trans s4)))),(js.step (s1.trans (s2.trans (s3.trans s4))))⟩ hp
def dd.Q (H0:Hp) (Ri R0:List Rs) (cB:ON) (bR:Nat) (cC:Cap) (iD:Bool) (iE iF:List AV) (r:List Int) (v:AV) (H':Hp):Prop:=∃ nx:List AV,v=(.tup [])/\bR=(r).length/\Out H0 Ri H' (Rs.ow iD ⟨cB,bR,cC⟩ (ae .i64).z iE nx iF :: R0) λR=>CR (ae .i64) H' R nx (r)
def dd.S7 (H0:Hp) (Ri R0:List Rs) (jB:ON) (iZ:Nat) (jC:Cap) (kY:Bool) (kZ k_:List AV) (C:Int->Int->Nat->Nat->Int->Int->Hp->OA) (pC:Int->Int->Int->List Int->Int->Int->Option (List Int)):Prop:=∀ {gX gY wO mX gZ fO:Int} {jH:List Int} {sF:List AV} {di:Nat},∀ {H:Hp},iZ=jH.length->(Out H0 Ri H (Rs.ow kY ⟨jB,iZ,jC⟩ (ae .i64).z kZ sF k_ :: Rs.blk di [.i wO,.i mX,.sl ⟨jB,iZ,jC⟩] :: R0) λR=>CR (ae .i64) H R sF jH)->∀ {r:List Int},pC gX gY mX jH gZ fO=some r->∃ v H',C gX gY di 0 gZ fO H=some (v,H')/\dd.Q H0 Ri R0 jB iZ jC kY kZ k_ r v H'
def dd.pl7 (F:Nat) :Nat->Int->Int->Int->List Int->Int->Int->Option (List Int)
 | 0,_,_,_,_,_,_=>none
 | k+1,gX,gY,mX,jH,gZ,fO=>(bif (decide (fO<gZ)) then ((ix jH (IntKind.i64.wrap ((IntKind.i64.wrap (gX * mX))+fO))).bind λn2=>(ix jH (IntKind.i64.wrap ((IntKind.i64.wrap (gY * mX))+fO))).bind λn5=>(some (jH.set n2 (gt jH n5))).bind λl7=>(some (l7.set n5 (gt jH n2))).bind λl9=>dd.pl7 F k gX gY mX l9 gZ (IntKind.i64.wrap (fO+1))) else (some jH))
termination_by structural n=>n
theorem dd.l7_P {F:Nat} {H0:Hp} {Ri R0:List Rs} {jB:ON} {iZ:Nat} {jC:Cap} {kY:Bool} {kZ k_:List AV} :∀ k,dd.S7 H0 Ri R0 jB iZ jC kY kZ k_ (dd.l7 F (bI.tw F)  k) (dd.pl7 F  k):=by
 intro k
 induction k with
 | zero=>unfold dd.S7;intros;rename_i hp;cases hp
 | succ k ih=>
  intro gX gY wO mX gZ fO jH sF di H EW h0 r hp
  obtain ⟨w0,s0,oN⟩:=h0
  subst EW
  unfold dd.pl7 at hp
  unfold dd.l7
  refine aW hp (λhp=>?_) λhp=>?_
  ·refine ac (ag (w0.ld (i:=1) rfl rfl)) ?_
   refine ac (ag (w0.ld (i:=1) rfl rfl)) ?_
   refine ac (aF (w0.ld (i:=1) rfl rfl)) ?_
   refine bI.inl ?_
   refine cv w0 λH1 w1 s1=>?_
   refine ac (aF (w1.ld (i:=0) rfl rfl)) ?_
   refine ac (ag (w1.ld (i:=0) rfl rfl)) ?_
   obtain ⟨n2,g2,hp⟩:=aq hp
   obtain ⟨p2,q2,i2,h2,j2⟩:=W.ixo (E:=(ae .i64)) w1 (i:=1) rfl rfl (oN.step s1) g2
   refine ac i2 ?_
   refine ⟨_,_,rfl,?_⟩
   refine ac rfl ?_
   refine eZ (W.cons_of (Rn:=[_]) w0 w1 s1) ?_
   refine ac (ag (w1.ld (i:=2) rfl rfl)) ?_
   refine ac (ag (w1.ld (i:=2) rfl rfl)) ?_
   refine ac (aF (w1.ld (i:=2) rfl rfl)) ?_
   refine bI.inl ?_
   refine cv w1 λH4 w4 s4=>?_
   refine ac (aF (w4.ld (i:=0) rfl rfl)) ?_
   refine ac (ag (w4.ld (i:=0) rfl rfl)) ?_
   obtain ⟨n5,g5,hp⟩:=aq hp
   obtain ⟨p5,q5,i5,h5,j5⟩:=W.ixo (E:=(ae .i64)) w4 (i:=2) rfl rfl (oN.step (s1.trans s4)) g5
   refine ac i5 ?_
   refine ⟨_,_,rfl,?_⟩
   refine ac rfl ?_
   have h5:_=[_]:=h5
   subst h5
   refine ac (ag (j5 0 _ rfl)) ?_
   obtain ⟨p6,q6,i6,h6,j6⟩:=W.ixo (E:=(ae .i64)) w4 (i:=2) rfl rfl (oN.step (s1.trans s4)) g2
   obtain rfl:=Option.some.inj (i2.symm.trans i6)
   have h6:_=[_]:=h6
   subst h6
   refine ac (ag (j6 0 _ rfl)) ?_
   obtain ⟨l7,e7,hp⟩:=aq hp
   refine jj (ae .i64) w4 (i:=2) (j:=0) (p:=p2) rfl rfl (oN.step (s1.trans s4)) g2 i2 e7 rfl rfl (λ_ h=>by have h:_=[_]:=h;subst h;exact rfl) λH8 k8 w8 s8 c8=>?_
   obtain ⟨l9,e9,hp⟩:=aq hp
   refine jj (ae .i64) w8 (i:=2) (j:=0) (p:=p5) rfl rfl c8 (rg g5 (gp e7)) i5 e9 rfl rfl (λ_ h=>by have h:_=[_]:=h;subst h;exact rfl) λH10 k10 w10 s10 c10=>?_
   obtain ⟨w11,s11⟩:=w10.pick' [2,3] 4 rfl rfl rfl
   dsimp only [pk,pks,nth,List.drop,List.set,List.eraseIdx] at w11 s11
   exact ih ((gp e7).symm.trans (gp e9).symm) ⟨w11,(s0.trans (s1.trans (s4.trans (s8.trans (s10.trans s11))))),(c10.step s11)⟩ hp
  ·obtain ⟨w12,s12⟩:=w0.pick' [0] 2 rfl rfl rfl
   exact aS hp ⟨_,rfl,rfl,w12,(s0.trans s12),(oN.step s12)⟩
def dd.p (F:Nat) (af:Int) (bg:List Int) (aj:Int) (bW:Int):Option (List Int):=dd.pl7 F F aj bW af bg af 0
theorem dd.P {F:Nat} {aa af aj bW:Int} {cB:ON} {bR:Nat} {cC:Cap} {bg:List Int} {iD:Bool} {iE iF la:List AV} {H:Hp} {R0:List Rs} (fc:bR=bg.length) (h0:Inn H (Rs.ow iD ⟨cB,bR,cC⟩ (ae .i64).z iE la iF :: R0) λR=>CR (ae .i64) H R la bg) {r:List Int} (hp:dd.p F af bg aj bW=some r):∃ v H',dd.tw F aa af ⟨cB,bR,cC⟩ aj bW H=some (v,H')/\dd.Q H (Rs.ow iD ⟨cB,bR,cC⟩ (ae .i64).z iE la iF :: R0) R0 cB bR cC iD iE iF r v H':=by
 obtain ⟨w0,eC⟩:=h0
 subst fc
 unfold dd.p at hp
 unfold dd.tw dd.twX
 have s0:=w0.rf
 refine cv w0 λH1 w1 s1=>?_
 refine ac (ag (w1.ld (i:=0) rfl rfl)) ?_
 obtain ⟨w2,s2⟩:=w1.pick' [1,0] 2 rfl rfl rfl
 exact dd.l7_P F rfl ⟨w2,(s0.trans (s1.trans s2)),(eC.step (s1.trans s2))⟩ hp
def de.Q (H0:Hp) (Ri R0:List Rs) (cB:ON) (bR:Nat) (cC:Cap) (iD:Bool) (iE iF:List AV) (r:List Int) (v:AV) (H':Hp):Prop:=∃ nx:List AV,v=(.tup [])/\bR=(r).length/\Out H0 Ri H' (Rs.ow iD ⟨cB,bR,cC⟩ (ae .i64).z iE nx iF :: R0) λR=>CR (ae .i64) H' R nx (r)
def de.S7 (H0:Hp) (Ri R0:List Rs) (jB:ON) (iZ:Nat) (jC:Cap) (kY:Bool) (kZ k_:List AV) (C:Int->Int->Nat->Nat->Int->Int->Hp->OA) (pC:Int->Int->Int->List Int->Int->Int->Option (List Int)):Prop:=∀ {gX gY wO mX gZ fO:Int} {jH:List Int} {sF:List AV} {di:Nat},∀ {H:Hp},iZ=jH.length->(Out H0 Ri H (Rs.ow kY ⟨jB,iZ,jC⟩ (ae .i64).z kZ sF k_ :: Rs.blk di [.i wO,.i mX,.sl ⟨jB,iZ,jC⟩] :: R0) λR=>CR (ae .i64) H R sF jH)->∀ {r:List Int},pC gX gY mX jH gZ fO=some r->∃ v H',C gX gY di 0 gZ fO H=some (v,H')/\de.Q H0 Ri R0 jB iZ jC kY kZ k_ r v H'
def de.pl7 (F:Nat) :Nat->Int->Int->Int->List Int->Int->Int->Option (List Int)
 | 0,_,_,_,_,_,_=>none
 | k+1,gX,gY,mX,jH,gZ,fO=>(bif (decide (fO<gZ)) then ((ix jH (IntKind.i64.wrap ((IntKind.i64.wrap (fO * mX))+gX))).bind λn2=>(ix jH (IntKind.i64.wrap ((IntKind.i64.wrap (fO * mX))+gY))).bind λn5=>(some (jH.set n2 (gt jH n5))).bind λl7=>(some (l7.set n5 (gt jH n2))).bind λl9=>de.pl7 F k gX gY mX l9 gZ (IntKind.i64.wrap (fO+1))) else (some jH))
termination_by structural n=>n
theorem de.l7_P {F:Nat} {H0:Hp} {Ri R0:List Rs} {jB:ON} {iZ:Nat} {jC:Cap} {kY:Bool} {kZ k_:List AV} :∀ k,de.S7 H0 Ri R0 jB iZ jC kY kZ k_ (de.l7 F (bI.tw F)  k) (de.pl7 F  k):=by
 intro k
 induction k with
 | zero=>unfold de.S7;intros;rename_i hp;cases hp
 | succ k ih=>
  intro gX gY wO mX gZ fO jH sF di H EW h0 r hp
  obtain ⟨w0,s0,oN⟩:=h0
  subst EW
  unfold de.pl7 at hp
  unfold de.l7
  refine aW hp (λhp=>?_) λhp=>?_
  ·refine ac (ag (w0.ld (i:=1) rfl rfl)) ?_
   refine ac (ag (w0.ld (i:=1) rfl rfl)) ?_
   refine ac (aF (w0.ld (i:=1) rfl rfl)) ?_
   refine bI.inl ?_
   refine cv w0 λH1 w1 s1=>?_
   refine ac (aF (w1.ld (i:=0) rfl rfl)) ?_
   refine ac (ag (w1.ld (i:=0) rfl rfl)) ?_
   obtain ⟨n2,g2,hp⟩:=aq hp
   obtain ⟨p2,q2,i2,h2,j2⟩:=W.ixo (E:=(ae .i64)) w1 (i:=1) rfl rfl (oN.step s1) g2
   refine ac i2 ?_
   refine ⟨_,_,rfl,?_⟩
   refine ac rfl ?_
   refine eZ (W.cons_of (Rn:=[_]) w0 w1 s1) ?_
   refine ac (ag (w1.ld (i:=2) rfl rfl)) ?_
   refine ac (ag (w1.ld (i:=2) rfl rfl)) ?_
   refine ac (aF (w1.ld (i:=2) rfl rfl)) ?_
   refine bI.inl ?_
   refine cv w1 λH4 w4 s4=>?_
   refine ac (aF (w4.ld (i:=0) rfl rfl)) ?_
   refine ac (ag (w4.ld (i:=0) rfl rfl)) ?_
   obtain ⟨n5,g5,hp⟩:=aq hp
   obtain ⟨p5,q5,i5,h5,j5⟩:=W.ixo (E:=(ae .i64)) w4 (i:=2) rfl rfl (oN.step (s1.trans s4)) g5
   refine ac i5 ?_
   refine ⟨_,_,rfl,?_⟩
   refine ac rfl ?_
   have h5:_=[_]:=h5
   subst h5
   refine ac (ag (j5 0 _ rfl)) ?_
   obtain ⟨p6,q6,i6,h6,j6⟩:=W.ixo (E:=(ae .i64)) w4 (i:=2) rfl rfl (oN.step (s1.trans s4)) g2
   obtain rfl:=Option.some.inj (i2.symm.trans i6)
   have h6:_=[_]:=h6
   subst h6
   refine ac (ag (j6 0 _ rfl)) ?_
   obtain ⟨l7,e7,hp⟩:=aq hp
   refine jj (ae .i64) w4 (i:=2) (j:=0) (p:=p2) rfl rfl (oN.step (s1.trans s4)) g2 i2 e7 rfl rfl (λ_ h=>by have h:_=[_]:=h;subst h;exact rfl) λH8 k8 w8 s8 c8=>?_
   obtain ⟨l9,e9,hp⟩:=aq hp
   refine jj (ae .i64) w8 (i:=2) (j:=0) (p:=p5) rfl rfl c8 (rg g5 (gp e7)) i5 e9 rfl rfl (λ_ h=>by have h:_=[_]:=h;subst h;exact rfl) λH10 k10 w10 s10 c10=>?_
   obtain ⟨w11,s11⟩:=w10.pick' [2,3] 4 rfl rfl rfl
   dsimp only [pk,pks,nth,List.drop,List.set,List.eraseIdx] at w11 s11
   exact ih ((gp e7).symm.trans (gp e9).symm) ⟨w11,(s0.trans (s1.trans (s4.trans (s8.trans (s10.trans s11))))),(c10.step s11)⟩ hp
  ·obtain ⟨w12,s12⟩:=w0.pick' [0] 2 rfl rfl rfl
   exact aS hp ⟨_,rfl,rfl,w12,(s0.trans s12),(oN.step s12)⟩
def de.p (F:Nat) (aa:Int) (af:Int) (bg:List Int) (aj:Int) (bW:Int):Option (List Int):=de.pl7 F F aj bW af bg aa 0
theorem de.P {F:Nat} {aa af aj bW:Int} {cB:ON} {bR:Nat} {cC:Cap} {bg:List Int} {iD:Bool} {iE iF la:List AV} {H:Hp} {R0:List Rs} (fc:bR=bg.length) (h0:Inn H (Rs.ow iD ⟨cB,bR,cC⟩ (ae .i64).z iE la iF :: R0) λR=>CR (ae .i64) H R la bg) {r:List Int} (hp:de.p F aa af bg aj bW=some r):∃ v H',de.tw F aa af ⟨cB,bR,cC⟩ aj bW H=some (v,H')/\de.Q H (Rs.ow iD ⟨cB,bR,cC⟩ (ae .i64).z iE la iF :: R0) R0 cB bR cC iD iE iF r v H':=by
 obtain ⟨w0,eC⟩:=h0
 subst fc
 unfold de.p at hp
 unfold de.tw de.twX
 have s0:=w0.rf
 refine cv w0 λH1 w1 s1=>?_
 refine ac (ag (w1.ld (i:=0) rfl rfl)) ?_
 obtain ⟨w2,s2⟩:=w1.pick' [1,0] 2 rfl rfl rfl
 exact de.l7_P F rfl ⟨w2,(s0.trans (s1.trans s2)),(eC.step (s1.trans s2))⟩ hp
def eS.Q (H0:Hp) (Ri R0:List Rs)  (r:List Int) (v:AV) (H':Hp):Prop:=∃ o0a:ON,∃ o0n:Nat,∃ o0c:Cap,v=(.sl ⟨o0a,o0n,o0c⟩)/\o0n=(r).length/\Out H0 Ri H' (R0) λR=>ROs (ae .i64) H' R ⟨o0a,o0n,o0c⟩ (r)
def eS.p (F:Nat) (af:Int) (bg:List Int) (aj:Int):Option (List Int):=(cutf bg (IntKind.i64.wrap (aj * af)) (IntKind.i64.wrap ((IntKind.i64.wrap (aj+1)) * af))).bind λl2=>some l2
theorem eS.P {F:Nat} {aa af aj:Int} {cB:ON} {bR:Nat} {cC:Cap} {bg:List Int} {H:Hp} {R0:List Rs} (fc:bR=bg.length) (h0:Inn H R0 λR=>ROs (ae .i64) H R ⟨cB,bR,cC⟩ bg) {r:List Int} (hp:eS.p F af bg aj=some r):∃ v H',eS.tw F aa af ⟨cB,bR,cC⟩ aj H=some (v,H')/\eS.Q H R0 R0  r v H':=by
 obtain ⟨w0,eC⟩:=h0
 subst fc
 unfold eS.p at hp
 unfold eS.tw eS.twX
 have s0:=w0.rf
 refine cv w0 λH1 w1 s1=>?_
 refine ac (aF (w1.ld (i:=0) rfl rfl)) ?_
 refine ac (ag (w1.ld (i:=0) rfl rfl)) ?_
 refine ac (ag (w1.ld (i:=0) rfl rfl)) ?_
 obtain ⟨l2,e2,hp⟩:=aq hp
 obtain ⟨a2,d2,h2,f2⟩:=ROs.cutf (eC.step s1) rfl e2
 refine ac h2 ?_
 obtain ⟨w3,s3⟩:=w1.pick' [] 1 rfl rfl rfl
 exact aS hp ⟨_,_,_,rfl,rfl,w3,(s0.trans (s1.trans s3)),(f2.step s3)⟩
def bD.Q (H0:Hp) (Ri R0:List Rs) (bC bi bE bv bj bf bw bz bS bA:Int) (cL el cz en eo:ON) (bZ dr bV dt du aa:Nat) (cM es cA et eu:Cap) (fd fP fe fQ fR aE:Bool) (ff fg fS fT fh fi fU fV fW fX:List AV) (r:Bool×List Int×List Int×List Int×List Int×List Int) (v:AV) (H':Hp):Prop:=∃ jD:List AV,∃ kH:List AV,∃ jE:List AV,∃ kI:List AV,∃ kJ:List AV,v=(.bool r.1)/\bZ=(r.2.1).length/\dr=(r.2.2.1).length/\bV=(r.2.2.2.1).length/\dt=(r.2.2.2.2.1).length/\du=(r.2.2.2.2.2).length/\Out H0 Ri H' (Rs.ow fd ⟨cL,bZ,cM⟩ (ae .i64).z ff jD fg :: Rs.ow fP ⟨el,dr,es⟩ (ae .i64).z fS kH fT :: Rs.ow fe ⟨cz,bV,cA⟩ (ae .i64).z fh jE fi :: Rs.ow fQ ⟨en,dt,et⟩ (ae .i64).z fU kI fV :: Rs.ow fR ⟨eo,du,eu⟩ (ae .i64).z fW kJ fX :: Rs.blk aa [.i bC,.i bi,.sl ⟨cL,bZ,cM⟩,.i bE,.i bv,.sl ⟨el,dr,es⟩,.i bj,.i bf,.sl ⟨cz,bV,cA⟩,.i bw,.i bz,.sl ⟨en,dt,et⟩,.i bS,.i bA,.sl ⟨eo,du,eu⟩,.bool aE] :: R0) λR=>CR (ae .i64) H' R jD (r.2.1)/\CR (ae .i64) H' R kH (r.2.2.1)/\CR (ae .i64) H' R jE (r.2.2.2.1)/\CR (ae .i64) H' R kI (r.2.2.2.2.1)/\CR (ae .i64) H' R kJ (r.2.2.2.2.2)
theorem bD.neg_l {F:Nat} {C:Nat->Nat->Int->Sl->Int->Int->Hp->OA} {y0 o:Nat} {y1:Int} {y94:Sl} {y95 y96:Int} {R:List Rs} {t:Bool} {pre rest:List AV} {s:Sl} {i lo n:Nat} {c:Cap} {H:Hp} {cells:List AV} {l:List Int}
  (ht:∀ z o,c≠.tip z o) (hd:s.ad=s.a) (w:W H R) (hi:R[i]?=some (.ow t s (ae .i64).z pre cells rest)) (cr:CR (ae .i64) H R cells l) (hb:lo+n<=l.length):∀ (k j:Nat),n - j<k->j<=n->l.length<4611686018427387904 ->
  ∃ H' cells',bD.l2095707 F (aZ.tw F) (dd.tw F) (de.tw F) (bI.tw F) (eS.tw F) C k y0 o y1 y94 y95 y96 ⟨s.a.map (λp=>(p.1,p.2+lo * 1)),n,c⟩ (n:Int) (j:Int) H=C y0 o y1 y94 y95 (IntKind.i64.wrap (y96+1)) H' /\
   W H' (R.set i (.ow t s (ae .i64).z pre cells' rest))/\Fr H R H' (R.set i (.ow t s (ae .i64).z pre cells' rest))/\CR (ae .i64) H' (R.set i (.ow t s (ae .i64).z pre cells' rest)) cells' (oT l (lo+j) (n - j)):=by
 intro k
 induction k generalizing H cells l R with
 | zero=>intro j h;exact absurd h (Nat.not_lt_zero _)
 | succ k ih=>
  intro j hk hj hlen
  unfold bD.l2095707
  by_cases c1:j<n
  ·have e1:decide ((j:Int)<(n:Int))=true:=decide_eq_true (by omega)
   have hsn:=w.own_n hi cr
   have hix:ix l ((lo:Int)+j)=some (lo+j):=by unfold ix;rw [if_pos ⟨by omega,by omega⟩];rfl
   obtain ⟨p,cs,g1,g2,g3⟩:=W.ixo (E:=ae .i64) (z:=1) w hi rfl cr hix
   have g2:cs=[_]:=g2
   subst g2
   have hv:Sl.idx ⟨s.a.map (λp=>(p.1,p.2+lo * 1)),n,c⟩ (j:Int) 1=some p:=by rw [Um ht hd (by omega) (by omega) (by rw [hsn];omega)];exact g1
   have hset:∀ cells',(R.set i (.ow t s (ae .i64).z pre cells' rest))[i]?=some (.ow t s (ae .i64).z pre cells' rest):=λcells'=>List.getElem?_set_self (List.getElem?_eq_some_iff.1 hi).1
   obtain ⟨H',cells',h1,h2,h3,h4⟩:=W.sto (E:=ae .i64) (j:=0) (v:=.i (IntKind.i64.wrap (0 - gt l (lo+j)))) (x':=IntKind.i64.wrap (0 - gt l (lo+j))) w hi rfl cr (n:=lo+j) (k:=(lo:Int)+j) (by omega) (by omega) g1 (by decide) rfl (λ_ h=>by have h:_=[_]:=h;subst h;rfl)
   have hw:IntKind.i64.wrap ((j:Int)+1)=((j+1:Nat):Int):=by rw [bX (by omega) (by omega)];omega
   have hp0:H.ldI .i64 p.1 p.2=some (gt l (lo+j)):=ag (g3 0 _ rfl)
   have hst:H.st p.1 p.2 (.i (IntKind.i64.wrap (0 - gt l (lo+j))))=some H':=h1
   simp only [e1,cond_true,hv,Option.bind_some,hp0,hst,hw]
   obtain ⟨H2,cells2,q1,q2,q3,q4⟩:=ih h2 (hset _) h4 (by rw [List.length_set];exact hb) (j+1) (by omega) (by omega) (by rw [List.length_set];exact hlen)
   refine ⟨H2,cells2,q1,?_,?_,?_⟩
   ·rw [List.set_set] at q2;exact q2
   ·rw [List.set_set] at q3;exact h3.trans q3
   ·rw [List.set_set] at q4
    rw [show n - j=(n - (j+1))+1 by omega]
    exact q4
  ·have e1:decide ((j:Int)<(n:Int))=false:=decide_eq_false (by omega)
   simp only [e1,cond_false]
   have:n - j=0:=by omega
   refine ⟨H,cells,rfl,?_,?_,?_⟩
   all_goals
    have e:R.set i (.ow t s (ae .i64).z pre cells rest)=R:=by
     apply List.ext_getElem?
     intro j
     by_cases ej:i=j
     ·subst ej;rw [List.getElem?_set_self (List.getElem?_eq_some_iff.1 hi).1,hi]
     ·rw [List.getElem?_set_ne ej]
    rw [e]
   ·exact w
   ·exact Fr.refl _ _
   ·rw [this];exact cr
theorem bD.neg_k {F:Nat} {C:Nat->Nat->Int->Sl->Int->Int->Hp->OA} {y0 o:Nat} {y1:Int} {y94:Sl} {y95 y96:Int} {R:List Rs} {t:Bool} {pre rest:List AV} {s:Sl} {i:Nat} {c:Cap} {H:Hp} {cells:List AV} {l x:List Int} {a b:Int} {k:Nat} {Q:AV->Hp->Prop}
  (ht:∀ z o,c≠.tip z o) (hd:s.ad=s.a) (w:W H R) (hi:R[i]?=some (.ow t s (ae .i64).z pre cells rest)) (cr:CR (ae .i64) H R cells l) (hx:mY l a b=some x) (hk:l.length<k) (hl:l.length<=4294967296)
  (g:∀ H' cells',W H' (R.set i (.ow t s (ae .i64).z pre cells' rest))->Fr H R H' (R.set i (.ow t s (ae .i64).z pre cells' rest))->CR (ae .i64) H' (R.set i (.ow t s (ae .i64).z pre cells' rest)) cells' (oT l a.toNat x.length) ->
   ∃ v H'',C y0 o y1 y94 y95 (IntKind.i64.wrap (y96+1)) H'=some (v,H'')/\Q v H'') :
  ∃ v H'',bD.l2095707 F (aZ.tw F) (dd.tw F) (de.tw F) (bI.tw F) (eS.tw F) C k y0 o y1 y94 y95 y96 ⟨s.a.map (λp=>(p.1,p.2+a.toNat * (ae .i64).z)),x.length,c⟩ ((⟨s.a.map (λp=>(p.1,p.2+a.toNat * (ae .i64).z)),x.length,c⟩:Sl).n:Int) 0 H=some (v,H'')/\Q v H'':=by
 obtain ⟨h1,h2,h3⟩:=Ge hx
 have hxl:x.length=b.toNat - a.toNat:=by rw [h2,List.length_drop,List.length_take];omega
 obtain ⟨H',cells',e,q1,q2,q3⟩:=bD.neg_l (F:=F) (C:=C) (y0:=y0) (o:=o) (y1:=y1) (y94:=y94) (y95:=y95) (y96:=y96) (c:=c) (lo:=a.toNat) (n:=x.length) ht hd w hi cr (by omega) k 0 (by omega) (Nat.zero_le _) (by omega)
 rw [Nat.add_zero,Nat.sub_zero] at q3
 obtain ⟨v,H'',g1,g2⟩:=g H' cells' q1 q2 q3
 exact ⟨v,H'',Eq.trans e g1,g2⟩
def bD.S32747 (H0:Hp) (Ri R0:List Rs) (aB ar aH av aw au ay az aM aA:Int) (a_ bK aP bL bM:ON) (aL bl aI bm bo aG:Nat) (bc bN aQ bO bP:Cap) (ca cb ce cf cg bT:Bool) (ch ci cj ck cl cn co cp cq ct:List AV) (C:Nat->Nat->Int->Int->Int->Hp->OA) (pC:List Int->Int->List Int->List Int->List Int->List Int->Int->Int->Int->Option (Bool×List Int×List Int×List Int×List Int×List Int)):Prop:=∀ {aN aR aO aU aV:List Int} {cX cY cZ c_ da:List AV} {lC mA kB:Int},∀ {H:Hp},aL=aN.length->bl=aR.length->aI=aO.length->bm=aU.length->bo=aV.length->(Out H0 Ri H (Rs.ow ca ⟨a_,aL,bc⟩ (ae .i64).z ch cX ci :: Rs.ow cb ⟨bK,bl,bN⟩ (ae .i64).z cj cY ck :: Rs.ow ce ⟨aP,aI,aQ⟩ (ae .i64).z cl cZ cn :: Rs.ow cf ⟨bL,bm,bO⟩ (ae .i64).z co c_ cp :: Rs.ow cg ⟨bM,bo,bP⟩ (ae .i64).z cq da ct :: Rs.blk aG [.i aB,.i ar,.sl ⟨a_,aL,bc⟩,.i aH,.i av,.sl ⟨bK,bl,bN⟩,.i aw,.i au,.sl ⟨aP,aI,aQ⟩,.i ay,.i az,.sl ⟨bL,bm,bO⟩,.i aM,.i aA,.sl ⟨bM,bo,bP⟩,.bool bT] :: R0) λR=>CR (ae .i64) H R cX aN/\CR (ae .i64) H R cY aR/\CR (ae .i64) H R cZ aO/\CR (ae .i64) H R c_ aU/\CR (ae .i64) H R da aV)->∀ {r:Bool×List Int×List Int×List Int×List Int×List Int},pC aN av aR aO aU aV lC mA kB=some r->∃ v H',C aG 0 lC mA kB H=some (v,H')/\bD.Q H0 Ri R0 aB ar aH av aw au ay az aM aA a_ bK aP bL bM aL bl aI bm bo aG bc bN aQ bO bP ca cb ce cf cg bT ch ci cj ck cl cn co cp cq ct r v H'
def bD.pl32747 (F:Nat) :Nat->List Int->Int->List Int->List Int->List Int->List Int->Int->Int->Int->Option (Bool×List Int×List Int×List Int×List Int×List Int)
 | 0,_,_,_,_,_,_,_,_,_=>none
 | k+1,aN,av,aR,aO,aU,aV,lC,mA,kB=>(bif (decide (kB<mA)) then ((ix aR (IntKind.i64.wrap ((IntKind.i64.wrap (kB * av))+lC))).bind λn2=>(ix aR (IntKind.i64.wrap ((IntKind.i64.wrap (kB * av))+lC))).bind λn5=>(some (aR.set n2 (IntKind.i64.wrap (0 - (gt aR n5))))).bind λl6=>bD.pl32747 F k aN av l6 aO aU aV lC mA (IntKind.i64.wrap (kB+1))) else (some (true,aN,aR,aO,aU,aV)))
termination_by structural n=>n
theorem bD.l32747_P {F:Nat} {H0:Hp} {Ri R0:List Rs} {aB ar aH av aw au ay az aM aA:Int} {a_ bK aP bL bM:ON} {aL bl aI bm bo aG:Nat} {bc bN aQ bO bP:Cap} {ca cb ce cf cg bT:Bool} {ch ci cj ck cl cn co cp cq ct:List AV} :∀ k,bD.S32747 H0 Ri R0 aB ar aH av aw au ay az aM aA a_ bK aP bL bM aL bl aI bm bo aG bc bN aQ bO bP ca cb ce cf cg bT ch ci cj ck cl cn co cp cq ct (bD.l32747 F (aZ.tw F) (dd.tw F) (de.tw F) (bI.tw F) (eS.tw F)  k) (bD.pl32747 F  k):=by
 intro k
 induction k with
 | zero=>unfold bD.S32747;intros;rename_i hp;cases hp
 | succ k ih=>
  intro aN aR aO aU aV cX cY cZ c_ da lC mA kB H fj fk fl fm fo h0 r hp
  obtain ⟨w0,s0,db,dB,dj,dF,dG⟩:=h0
  subst fj
  subst fk
  subst fl
  subst fm
  subst fo
  unfold bD.pl32747 at hp
  unfold bD.l32747
  refine aW hp (λhp=>?_) λhp=>?_
  ·refine ac (ag (w0.ld (i:=5) rfl rfl)) ?_
   refine ac (ag (w0.ld (i:=5) rfl rfl)) ?_
   refine ac (aF (w0.ld (i:=5) rfl rfl)) ?_
   refine bI.inl ?_
   refine cv w0 λH1 w1 s1=>?_
   refine ac (aF (w1.ld (i:=0) rfl rfl)) ?_
   refine ac (ag (w1.ld (i:=0) rfl rfl)) ?_
   obtain ⟨n2,g2,hp⟩:=aq hp
   obtain ⟨p2,q2,i2,h2,j2⟩:=W.ixo (E:=(ae .i64)) w1 (i:=2) rfl rfl (dB.step s1) g2
   refine ac i2 ?_
   refine ⟨_,_,rfl,?_⟩
   refine ac rfl ?_
   refine eZ (W.cons_of (Rn:=[_]) w0 w1 s1) ?_
   refine ac (ag (w1.ld (i:=6) rfl rfl)) ?_
   refine ac (ag (w1.ld (i:=6) rfl rfl)) ?_
   refine ac (aF (w1.ld (i:=6) rfl rfl)) ?_
   refine bI.inl ?_
   refine cv w1 λH4 w4 s4=>?_
   refine ac (aF (w4.ld (i:=0) rfl rfl)) ?_
   refine ac (ag (w4.ld (i:=0) rfl rfl)) ?_
   obtain ⟨n5,g5,hp⟩:=aq hp
   obtain ⟨p5,q5,i5,h5,j5⟩:=W.ixo (E:=(ae .i64)) w4 (i:=3) rfl rfl (dB.step (s1.trans s4)) g5
   refine ac i5 ?_
   refine ⟨_,_,rfl,?_⟩
   refine ac rfl ?_
   have h5:_=[_]:=h5
   subst h5
   refine ac (ag (j5 0 _ rfl)) ?_
   obtain ⟨l6,e6,hp⟩:=aq hp
   refine jj (ae .i64) w4 (i:=3) (j:=0) (p:=p2) rfl rfl (dB.step (s1.trans s4)) g2 i2 e6 rfl rfl (λ_ h=>by have h:_=[_]:=h;subst h;exact rfl) λH7 k7 w7 s7 c7=>?_
   obtain ⟨w8,s8⟩:=w7.pick' [2,3,4,5,6,7] 8 rfl rfl rfl
   exact ih rfl ((gp e6).symm) rfl rfl rfl ⟨w8,(s0.trans (s1.trans (s4.trans (s7.trans s8)))),(db.step (s1.trans (s4.trans (s7.trans s8)))),(c7.step s8),(dj.step (s1.trans (s4.trans (s7.trans s8)))),(dF.step (s1.trans (s4.trans (s7.trans s8)))),(dG.step (s1.trans (s4.trans (s7.trans s8))))⟩ hp
  ·exact aS hp ⟨_,_,_,_,_,rfl,rfl,rfl,rfl,rfl,rfl,w0,s0,db,dB,dj,dF,dG⟩
def bD.pj3 (F:Nat)  (aN:List Int) (aH:Int) (av:Int) (aR:List Int) (aO:List Int) (aU:List Int) (aV:List Int) (uq:Int):Option (Bool×List Int×List Int×List Int×List Int×List Int):=bD.pl32747 F F aN av aR aO aU aV uq aH 0
theorem bD.j3_P {F:Nat} {H0:Hp} {Ri R0:List Rs} {aB ar aH av aw au ay az aM aA:Int} {a_ bK aP bL bM:ON} {aL bl aI bm bo aG:Nat} {bc bN aQ bO bP:Cap} {ca cb ce cf cg bT:Bool} {ch ci cj ck cl cn co cp cq ct:List AV}  {aN aR aO aU aV:List Int} {cX cY cZ c_ da:List AV} {uq:Int} {H:Hp} (fj:aL=aN.length) (fk:bl=aR.length) (fl:aI=aO.length) (fm:bm=aU.length) (fo:bo=aV.length) (h0:Out H0 Ri H (Rs.ow ca ⟨a_,aL,bc⟩ (ae .i64).z ch cX ci :: Rs.ow cb ⟨bK,bl,bN⟩ (ae .i64).z cj cY ck :: Rs.ow ce ⟨aP,aI,aQ⟩ (ae .i64).z cl cZ cn :: Rs.ow cf ⟨bL,bm,bO⟩ (ae .i64).z co c_ cp :: Rs.ow cg ⟨bM,bo,bP⟩ (ae .i64).z cq da ct :: Rs.blk aG [.i aB,.i ar,.sl ⟨a_,aL,bc⟩,.i aH,.i av,.sl ⟨bK,bl,bN⟩,.i aw,.i au,.sl ⟨aP,aI,aQ⟩,.i ay,.i az,.sl ⟨bL,bm,bO⟩,.i aM,.i aA,.sl ⟨bM,bo,bP⟩,.bool bT] :: R0) λR=>CR (ae .i64) H R cX aN/\CR (ae .i64) H R cY aR/\CR (ae .i64) H R cZ aO/\CR (ae .i64) H R c_ aU/\CR (ae .i64) H R da aV) {r:Bool×List Int×List Int×List Int×List Int×List Int} (hp:bD.pj3 F  aN aH av aR aO aU aV uq=some r):∃ v H',bD.j3 F (aZ.tw F) (dd.tw F) (de.tw F) (bI.tw F) (eS.tw F)  aG 0 uq H=some (v,H')/\bD.Q H0 Ri R0 aB ar aH av aw au ay az aM aA a_ bK aP bL bM aL bl aI bm bo aG bc bN aQ bO bP ca cb ce cf cg bT ch ci cj ck cl cn co cp cq ct r v H':=by
 obtain ⟨w0,s0,db,dB,dj,dF,dG⟩:=h0
 subst fj
 subst fk
 subst fl
 subst fm
 subst fo
 unfold bD.pj3 at hp
 unfold bD.j3
 refine ac (ag (w0.ld (i:=5) rfl rfl)) ?_
 exact bD.l32747_P F rfl rfl rfl rfl rfl ⟨w0,s0,db,dB,dj,dF,dG⟩ hp
def bD.p (F:Nat) (bi:Int) (dP:List Int) (bE:Int) (bv:Int) (fI:List Int) (bj:Int) (bf:Int) (dv:List Int) (bw:Int) (bz:Int) (fJ:List Int) (bA:Int) (fK:List Int) (ai:Int):Option (Bool×List Int×List Int×List Int×List Int×List Int):=(aZ.p F bj bf dv ai).bind λr3=>(bif (!r3.2.2) then (some (false,dP,fI,dv,fJ,fK)) else ((dd.p F bf dv r3.1 ai).bind λr7=>(dd.p F bi dP r3.1 ai).bind λr10=>(de.p F bE bv fI r3.1 ai).bind λr13=>(de.p F bj bf r7 r3.2.1 ai).bind λr16=>(de.p F bw bz fJ r3.2.1 ai).bind λr19=>(dd.p F bA fK r3.2.1 ai).bind λr22=>(ix r16 (IntKind.i64.wrap ((IntKind.i64.wrap (ai * bf))+ai))).bind λn25=>(bif (decide ((gt r16 n25)<0)) then ((mY r16 (IntKind.i64.wrap (ai * bf)) (IntKind.i64.wrap ((IntKind.i64.wrap (ai+1)) * bf))).bind λx27=>(mY r10 (IntKind.i64.wrap (ai * bi)) (IntKind.i64.wrap ((IntKind.i64.wrap (ai+1)) * bi))).bind λx29=>(if r16.length+3<F/\r10.length+3<F/\r16.length+r10.length<=4294967296 then ((some (oT r16 ((IntKind.i64.wrap (ai * bf)):Int).toNat x27.length)).bind λl32=>(some (oT r10 ((IntKind.i64.wrap (ai * bi)):Int).toNat x29.length)).bind λl34=>bD.pj3 F l34 bE bv r13 l32 r19 r22 ai) else none)) else (some (true,r10,r13,r16,r19,r22)))))
theorem bD.P {F:Nat} {bC bi bE bv bj bf bw bz bS bA ai:Int} {cL el cz en eo:ON} {bZ dr bV dt du aa:Nat} {cM es cA et eu:Cap} {dP fI dv fJ fK:List Int} {fd fP fe fQ fR aE:Bool} {ff fg ij fS fT i_ fh fi ik fU fV ja fW fX jb:List AV} {H:Hp} {R0:List Rs} (lb:bZ=dP.length) (nU:dr=fI.length) (ke:bV=dv.length) (nV:dt=fJ.length) (nW:du=fK.length) (h0:Inn H (Rs.ow fd ⟨cL,bZ,cM⟩ (ae .i64).z ff ij fg :: Rs.ow fP ⟨el,dr,es⟩ (ae .i64).z fS i_ fT :: Rs.ow fe ⟨cz,bV,cA⟩ (ae .i64).z fh ik fi :: Rs.ow fQ ⟨en,dt,et⟩ (ae .i64).z fU ja fV :: Rs.ow fR ⟨eo,du,eu⟩ (ae .i64).z fW jb fX :: Rs.blk aa [.i bC,.i bi,.sl ⟨cL,bZ,cM⟩,.i bE,.i bv,.sl ⟨el,dr,es⟩,.i bj,.i bf,.sl ⟨cz,bV,cA⟩,.i bw,.i bz,.sl ⟨en,dt,et⟩,.i bS,.i bA,.sl ⟨eo,du,eu⟩,.bool aE] :: R0) λR=>CR (ae .i64) H R ij dP/\CR (ae .i64) H R i_ fI/\CR (ae .i64) H R ik dv/\CR (ae .i64) H R ja fJ/\CR (ae .i64) H R jb fK) {r:Bool×List Int×List Int×List Int×List Int×List Int} (hp:bD.p F bi dP bE bv fI bj bf dv bw bz fJ bA fK ai=some r):∃ v H',bD.tw F aa 0 ai H=some (v,H')/\bD.Q H (Rs.ow fd ⟨cL,bZ,cM⟩ (ae .i64).z ff ij fg :: Rs.ow fP ⟨el,dr,es⟩ (ae .i64).z fS i_ fT :: Rs.ow fe ⟨cz,bV,cA⟩ (ae .i64).z fh ik fi :: Rs.ow fQ ⟨en,dt,et⟩ (ae .i64).z fU ja fV :: Rs.ow fR ⟨eo,du,eu⟩ (ae .i64).z fW jb fX :: Rs.blk aa [.i bC,.i bi,.sl ⟨cL,bZ,cM⟩,.i bE,.i bv,.sl ⟨el,dr,es⟩,.i bj,.i bf,.sl ⟨cz,bV,cA⟩,.i bw,.i bz,.sl ⟨en,dt,et⟩,.i bS,.i bA,.sl ⟨eo,du,eu⟩,.bool aE] :: R0) R0 bC bi bE bv bj bf bw bz bS bA cL el cz en eo bZ dr bV dt du aa cM es cA et eu fd fP fe fQ fR aE ff fg fS fT fh fi fU fV fW fX r v H':=by
 obtain ⟨w0,jY,mS,js,mT,mU⟩:=h0
 subst lb
 subst nU
 subst ke
 subst nV
 subst nW
 unfold bD.p at hp
 unfold bD.tw bD.twX
 have s0:=w0.rf
 obtain ⟨w1,s1⟩:=w0.pick' [2,5,0,1,3,4] 6 rfl rfl rfl
 have f2:=W.borrow1 (ae .i64) w1 (js.step s1)
 obtain ⟨w2,s2⟩:=w1.right1
 obtain ⟨r3,e3,hp⟩:=aq hp
 refine aT (aZ.P rfl ⟨w2,f2⟩ e3) ?_
 rintro _ H4 ⟨rfl,w4,s4,_⟩
 obtain ⟨w5,s5⟩:=W.frame1 w1 w4 s4
 refine ac rfl ?_
 refine ac rfl ?_
 refine ac rfl ?_
 refine ac rfl ?_
 refine ac rfl ?_
 refine ac rfl ?_
 refine ac rfl ?_
 refine aW hp (λhp=>?_) λhp=>?_
 ·obtain ⟨w6,s6⟩:=w5.pick' [2,3,0,4,5,1] 6 rfl rfl rfl
  exact aS hp ⟨_,_,_,_,_,rfl,rfl,rfl,rfl,rfl,rfl,w6,(s0.trans (s1.trans (s5.trans s6))),(jY.step (s1.trans (s5.trans s6))),(mS.step (s1.trans (s5.trans s6))),(js.step (s1.trans (s5.trans s6))),(mT.step (s1.trans (s5.trans s6))),(mU.step (s1.trans (s5.trans s6)))⟩
 ·refine ac (ag (w5.ld (i:=1) rfl rfl)) ?_
  refine ac (ag (w5.ld (i:=1) rfl rfl)) ?_
  refine ac (aF (w5.ld (i:=1) rfl rfl)) ?_
  obtain ⟨r7,e7,hp⟩:=aq hp
  refine aT (dd.P rfl ⟨w5,(js.step (s1.trans s5))⟩ e7) ?_
  rintro _ H8 ⟨Qc,rfl,hl8_0,w8,s8,f8_0⟩
  refine ac (ag (w8.ld (i:=1) rfl rfl)) ?_
  refine ac (ag (w8.ld (i:=1) rfl rfl)) ?_
  refine ac (aF (w8.ld (i:=1) rfl rfl)) ?_
  obtain ⟨w9,s9⟩:=w8.pick' [2,0,1,3,4,5] 6 rfl rfl rfl
  obtain ⟨r10,e10,hp⟩:=aq hp
  refine aT (dd.P rfl ⟨w9,(jY.step (s1.trans (s5.trans (s8.trans s9))))⟩ e10) ?_
  rintro _ H11 ⟨Qd,rfl,hl11_0,w11,s11,f11_0⟩
  refine ac (ag (w11.ld (i:=2) rfl rfl)) ?_
  refine ac (ag (w11.ld (i:=2) rfl rfl)) ?_
  refine ac (aF (w11.ld (i:=2) rfl rfl)) ?_
  obtain ⟨w12,s12⟩:=w11.pick' [3,0,1,2,4,5] 6 rfl rfl rfl
  dsimp only [pk,pks,nth,List.drop,List.set,List.eraseIdx] at w12 s12
  obtain ⟨r13,e13,hp⟩:=aq hp
  refine aT (de.P rfl ⟨w12,(mS.step (s1.trans (s5.trans (s8.trans (s9.trans (s11.trans s12))))))⟩ e13) ?_
  rintro _ H14 ⟨Qe,rfl,hl14_0,w14,s14,f14_0⟩
  refine ac (ag (w14.ld (i:=3) rfl rfl)) ?_
  refine ac (ag (w14.ld (i:=3) rfl rfl)) ?_
  refine ac (aF (w14.ld (i:=3) rfl rfl)) ?_
  obtain ⟨w15,s15⟩:=w14.pick' [2,0,1,3,4,5] 6 rfl rfl rfl
  obtain ⟨r16,e16,hp⟩:=aq hp
  refine aT (de.P hl8_0 ⟨w15,(f8_0.step (s9.trans (s11.trans (s12.trans (s14.trans s15)))))⟩ e16) ?_
  rintro _ H17 ⟨Qf,rfl,hl17_0,w17,s17,f17_0⟩
  refine ac (ag (w17.ld (i:=3) rfl rfl)) ?_
  refine ac (ag (w17.ld (i:=3) rfl rfl)) ?_
  refine ac (aF (w17.ld (i:=3) rfl rfl)) ?_
  obtain ⟨w18,s18⟩:=w17.pick' [4,0,1,2,3,5] 6 rfl rfl rfl
  obtain ⟨r19,e19,hp⟩:=aq hp
  refine aT (de.P rfl ⟨w18,(mT.step (s1.trans (s5.trans (s8.trans (s9.trans (s11.trans (s12.trans (s14.trans (s15.trans (s17.trans s18))))))))))⟩ e19) ?_
  rintro _ H20 ⟨VI,rfl,hl20_0,w20,s20,f20_0⟩
  refine ac (ag (w20.ld (i:=4) rfl rfl)) ?_
  refine ac (ag (w20.ld (i:=4) rfl rfl)) ?_
  refine ac (aF (w20.ld (i:=4) rfl rfl)) ?_
  obtain ⟨w21,s21⟩:=w20.pick' [5,0,1,2,3,4] 6 rfl rfl rfl
  dsimp only [pk,pks,nth,List.drop,List.set,List.eraseIdx] at w21 s21
  obtain ⟨r22,e22,hp⟩:=aq hp
  refine aT (dd.P rfl ⟨w21,(mU.step (s1.trans (s5.trans (s8.trans (s9.trans (s11.trans (s12.trans (s14.trans (s15.trans (s17.trans (s18.trans (s20.trans s21))))))))))))⟩ e22) ?_
  rintro _ H23 ⟨VJ,rfl,hl23_0,w23,s23,f23_0⟩
  refine ac (ag (w23.ld (i:=5) rfl rfl)) ?_
  refine ac (ag (w23.ld (i:=5) rfl rfl)) ?_
  refine ac (aF (w23.ld (i:=5) rfl rfl)) ?_
  refine bI.inl ?_
  refine cv w23 λH24 w24 s24=>?_
  refine ac (aF (w24.ld (i:=0) rfl rfl)) ?_
  refine ac (ag (w24.ld (i:=0) rfl rfl)) ?_
  obtain ⟨n25,g25,hp⟩:=aq hp
  obtain ⟨p25,q25,i25,h25,j25⟩:=W.ixo (E:=(ae .i64)) w24 (i:=3) rfl rfl (f17_0.step (s18.trans (s20.trans (s21.trans (s23.trans s24))))) g25
  refine ac i25 ?_
  refine ⟨_,_,rfl,?_⟩
  refine ac rfl ?_
  have h25:_=[_]:=h25
  subst h25
  refine ac (ag (j25 0 _ rfl)) ?_
  refine aW hp (λhp=>?_) λhp=>?_
  ·refine ac (ag (w24.ld (i:=6) rfl rfl)) ?_
   refine ac (ag (w24.ld (i:=6) rfl rfl)) ?_
   refine ac (aF (w24.ld (i:=6) rfl rfl)) ?_
   refine eS.inl ?_
   refine cv w24 λH26 w26 s26=>?_
   refine ac (aF (w26.ld (i:=0) rfl rfl)) ?_
   refine ac (ag (w26.ld (i:=0) rfl rfl)) ?_
   refine ac (ag (w26.ld (i:=0) rfl rfl)) ?_
   obtain ⟨x27,e27,hp⟩:=aq hp
   obtain ⟨d27,h27,t27,u27⟩:=W.cutv (E:=(ae .i64)) w26 (i:=4) rfl (f17_0.step (s18.trans (s20.trans (s21.trans (s23.trans (s24.trans s26)))))) e27
   refine ac h27 ?_
   refine ⟨_,_,rfl,?_⟩
   refine ac rfl ?_
   refine eZ (W.cons_of (Rn:=[_]) w24 w26 s26) ?_
   refine ac (ag (w26.ld (i:=7) rfl rfl)) ?_
   refine ac (ag (w26.ld (i:=7) rfl rfl)) ?_
   refine ac (aF (w26.ld (i:=7) rfl rfl)) ?_
   refine eS.inl ?_
   refine cv w26 λH28 w28 s28=>?_
   refine ac (aF (w28.ld (i:=0) rfl rfl)) ?_
   refine ac (ag (w28.ld (i:=0) rfl rfl)) ?_
   refine ac (ag (w28.ld (i:=0) rfl rfl)) ?_
   obtain ⟨x29,e29,hp⟩:=aq hp
   obtain ⟨d29,h29,t29,u29⟩:=W.cutv (E:=(ae .i64)) w28 (i:=7) rfl (f11_0.step (s12.trans (s14.trans (s15.trans (s17.trans (s18.trans (s20.trans (s21.trans (s23.trans (s24.trans (s26.trans s28))))))))))) e29
   refine ac h29 ?_
   refine ⟨_,_,rfl,?_⟩
   refine ac rfl ?_
   refine cv w28 λH30 w30 s30=>?_
   obtain ⟨⟨hF,hl6,hl0⟩,hp⟩:=oU hp
   obtain ⟨k,rfl⟩:∃ k,F=k+3:=⟨F - 3,by omega⟩
   unfold bD.l32745
   refine AK (λ_=>?_) (λhb=>absurd (show decide ((0:Int)<((2:Nat):Int))=false from hb) (by decide))
   refine ac (show _=some (_,_) from rfl) ?_
   refine ac (aF (w30.ld (i:=0) rfl rfl)) ?_
   refine bD.neg_k (i:=6) t27 u27 w30 rfl (f17_0.step (s18.trans (s20.trans (s21.trans (s23.trans (s24.trans (s26.trans (s28.trans s30)))))))) e27 (by omega) (by omega) λH31 k31 w31 s31 c31=>?_
   dsimp only [List.set] at w31 s31 c31
   obtain ⟨l32,e32,hp⟩:=aq hp
   obtain rfl:=Option.some.inj e32
   unfold bD.l32745
   refine AK (λ_=>?_) (λhb=>absurd (show decide ((IntKind.i64.wrap (0+1))<((2:Nat):Int))=false from hb) (by decide))
   refine ac (show _=some (_,_) from rfl) ?_
   refine ac (aF (w31.ld (i:=0) rfl rfl)) ?_
   refine bD.neg_k (i:=8) t29 u29 w31 rfl (f11_0.step (s12.trans (s14.trans (s15.trans (s17.trans (s18.trans (s20.trans (s21.trans (s23.trans (s24.trans (s26.trans (s28.trans (s30.trans s31))))))))))))) e29 (by omega) (by omega) λH33 k33 w33 s33 c33=>?_
   dsimp only [List.set] at w33 s33 c33
   obtain ⟨l34,e34,hp⟩:=aq hp
   obtain rfl:=Option.some.inj e34
   unfold bD.l32745
   refine AK (λhb=>absurd (show decide (IntKind.i64.wrap (IntKind.i64.wrap (0+1)+1)<((2:Nat):Int))=true from hb) (by decide)) (λ_=>?_)
   obtain ⟨w35,s35⟩:=w33.pick' [8,7,6,5,4,9] 10 rfl rfl rfl
   exact bD.j3_P (hl11_0.trans (Mi _ _ _).symm) hl14_0 (hl17_0.trans (Mi _ _ _).symm) hl20_0 hl23_0 ⟨w35,(s0.trans (s1.trans (s5.trans (s8.trans (s9.trans (s11.trans (s12.trans (s14.trans (s15.trans (s17.trans (s18.trans (s20.trans (s21.trans (s23.trans (s24.trans (s26.trans (s28.trans (s30.trans (s31.trans (s33.trans s35)))))))))))))))))))),(c33.step s35),(f14_0.step (s15.trans (s17.trans (s18.trans (s20.trans (s21.trans (s23.trans (s24.trans (s26.trans (s28.trans (s30.trans (s31.trans (s33.trans s35))))))))))))),(c31.step (s33.trans s35)),(f20_0.step (s21.trans (s23.trans (s24.trans (s26.trans (s28.trans (s30.trans (s31.trans (s33.trans s35))))))))),(f23_0.step (s24.trans (s26.trans (s28.trans (s30.trans (s31.trans (s33.trans s35)))))))⟩ hp
  ·obtain ⟨w36,s36⟩:=w24.pick' [5,4,3,2,1,6] 7 rfl rfl rfl
   exact aS hp ⟨_,_,_,_,_,rfl,hl11_0,hl14_0,hl17_0,hl20_0,hl23_0,w36,(s0.trans (s1.trans (s5.trans (s8.trans (s9.trans (s11.trans (s12.trans (s14.trans (s15.trans (s17.trans (s18.trans (s20.trans (s21.trans (s23.trans (s24.trans s36))))))))))))))),(f11_0.step (s12.trans (s14.trans (s15.trans (s17.trans (s18.trans (s20.trans (s21.trans (s23.trans (s24.trans s36)))))))))),(f14_0.step (s15.trans (s17.trans (s18.trans (s20.trans (s21.trans (s23.trans (s24.trans s36)))))))),(f17_0.step (s18.trans (s20.trans (s21.trans (s23.trans (s24.trans s36)))))),(f20_0.step (s21.trans (s23.trans (s24.trans s36)))),(f23_0.step (s24.trans s36))⟩
def gI.Q (H0:Hp) (Ri R0:List Rs)  (r:Int) (v:AV) (H':Hp):Prop:=v=(.i r)/\Out H0 Ri H' (R0) λR=>True
def gI.p (F:Nat) (aa:Int) (ax:Int):Option (Int):=(if ax=0 then none else ((if ax=0 then none else ((bif (decide ((Int.tmod aa ax)<0)) then (some (IntKind.i64.wrap ((IntKind.i64.wrap (Int.tdiv aa ax)) - 1))) else (some (IntKind.i64.wrap (Int.tdiv aa ax))))))))
theorem gI.P {F:Nat} {aa ax:Int} {H:Hp} {R0:List Rs}  (h0:Inn H R0 λR=>True) {r:Int} (hp:gI.p F aa ax=some r):∃ v H',gI.tw F aa ax H=some (v,H')/\gI.Q H R0 R0  r v H':=by
 obtain ⟨w0,_⟩:=h0
 unfold gI.p at hp
 unfold gI.tw gI.twX
 have s0:=w0.rf
 obtain ⟨g1,hp⟩:=rb hp
 refine rc g1 ?_
 obtain ⟨g2,hp⟩:=rb hp
 refine rc g2 ?_
 refine aW hp (λhp=>?_) λhp=>?_
 ·exact aS hp ⟨rfl,w0,s0,trivial⟩
 ·exact aS hp ⟨rfl,w0,s0,trivial⟩
def gw.Q (H0:Hp) (Ri R0:List Rs) (bC bi bE bv bj bf bw bz bS bA:Int) (eA dk eO dl dn:Sl) (aa ai:Nat) (r:Bool×Int) (v:AV) (H':Hp):Prop:=v=(.tup [])/\Out H0 Ri H' (Rs.blk aa [.i bC,.i bi,.sl eA,.i bE,.i bv,.sl dk,.i bj,.i bf,.sl eO,.i bw,.i bz,.sl dl,.i bS,.i bA,.sl dn,.bool (r.1)] :: Rs.blk ai [.i (r.2)] :: R0) λR=>True
def gw.p (F:Nat) (aE:Bool) (vG:Int) (bW:Int) (mB:Int):Option (Bool×Int):=(fB.p F bW mB 2000000000000).bind λr1=>(bif (!r1.2) then (some (true,0)) else ((d_.p F (IntKind.i64.wrap (vG+r1.1))).bind λr6=>(bif (decide (r6>1000000000000)) then (some (true,0)) else (some (aE,(IntKind.i64.wrap (vG+r1.1)))))))
theorem gw.P {F:Nat} {bC bi bE bv bj bf bw bz bS bA vG bW mB:Int} {eA dk eO dl dn:Sl} {aE:Bool} {aa ai:Nat} {H:Hp} {R0:List Rs}  (h0:Inn H (Rs.blk aa [.i bC,.i bi,.sl eA,.i bE,.i bv,.sl dk,.i bj,.i bf,.sl eO,.i bw,.i bz,.sl dl,.i bS,.i bA,.sl dn,.bool aE] :: Rs.blk ai [.i vG] :: R0) λR=>True) {r:Bool×Int} (hp:gw.p F aE vG bW mB=some r):∃ v H',gw.tw F aa 0 ai 0 bW mB H=some (v,H')/\gw.Q H (Rs.blk aa [.i bC,.i bi,.sl eA,.i bE,.i bv,.sl dk,.i bj,.i bf,.sl eO,.i bw,.i bz,.sl dl,.i bS,.i bA,.sl dn,.bool aE] :: Rs.blk ai [.i vG] :: R0) R0 bC bi bE bv bj bf bw bz bS bA eA dk eO dl dn aa ai r v H':=by
 obtain ⟨w0,_⟩:=h0
 unfold gw.p at hp
 unfold gw.tw gw.twX
 have s0:=w0.rf
 obtain ⟨r1,e1,hp⟩:=aq hp
 refine aT (fB.P ⟨w0,trivial⟩ e1) ?_
 rintro _ H2 ⟨rfl,w2,s2,_⟩
 refine ac rfl ?_
 refine ac rfl ?_
 refine ac rfl ?_
 refine ac rfl ?_
 refine ac rfl ?_
 refine ac (ag (w2.ld (i:=1) rfl rfl)) ?_
 refine aY w2 (i:=1) rfl rfl rfl λH3 w3 s3=>?_
 refine aW hp (λhp=>?_) λhp=>?_
 ·refine aY w3 (i:=0) rfl rfl rfl λH4 w4 s4=>?_
  refine aY w4 (i:=1) rfl rfl rfl λH5 w5 s5=>?_
  dsimp only [pk,pks,nth,List.drop,List.set,List.eraseIdx] at w5 s5
  exact aS hp ⟨rfl,w5,(s0.trans (s2.trans (s3.trans (s4.trans s5)))),trivial⟩
 ·refine ac (ag (w3.ld (i:=1) rfl rfl)) ?_
  obtain ⟨r6,e6,hp⟩:=aq hp
  refine aT (d_.P ⟨w3,trivial⟩ e6) ?_
  rintro _ H7 ⟨rfl,w7,s7,_⟩
  refine ac rfl ?_
  refine aW hp (λhp=>?_) λhp=>?_
  ·refine aY w7 (i:=0) rfl rfl rfl λH8 w8 s8=>?_
   refine aY w8 (i:=1) rfl rfl rfl λH9 w9 s9=>?_
   dsimp only [pk,pks,nth,List.drop,List.set,List.eraseIdx] at w9 s9
   exact aS hp ⟨rfl,w9,(s0.trans (s2.trans (s3.trans (s7.trans (s8.trans s9))))),trivial⟩
  ·exact aS hp ⟨rfl,w7,(s0.trans (s2.trans (s3.trans s7))),trivial⟩
end
end Go.Proofs.Ytnkgeongfneafaa.AE
