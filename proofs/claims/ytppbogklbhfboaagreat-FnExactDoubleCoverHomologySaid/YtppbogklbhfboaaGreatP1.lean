import Derived.Test.YtppbogklbhfboaaGreatT2
import Derived.Test.YtppbogklbhfboaaGreatE2
set_option linter.unusedVariables false
set_option linter.unusedSimpArgs false
namespace Go.Proofs.YtppbogklbhfboaaGreat.AE
open Go Go.AE Go.Proofs IntKind
set_option linter.unusedVariables false
variable {F:Nat} {H H0:Hp} {Ri R0:am5}
set_option maxHeartbeats 4000000
set_option maxRecDepth 100000
noncomputable section
theorem bY.inl {aa:Int} {ac:Int} {aZ:Sl} {aF:Int} {ch:Int} {K:aoj} {Q:aoe} (h:∃ u H1,((Hp.new H [(.i aa),(.i ac),(.sl aZ)]).bind λH6=>(Hp.ldSl H6 H.length 2).bind λs7=>(Hp.ldI H6 .i64 H.length 1).bind λn8=>(Sl.idx s7 (wrap .i64 ((wrap .i64 (aF * n8))+ch)) 1).bind λp9=>some ((.ptr p9.1 p9.2),H6))=some (u,H1)/\∃ v H',K (u,H1)=some (v,H')/\Q v H'):∃ v H',(bY.tw F aa ac aZ aF ch H).bind K=some (v,H')/\Q v H':=JF h
theorem fU.inl {aa:Int} {ac:Int} {aZ:Sl} {aF:Int} {K:aoj} {Q:aoe} (h:∃ u H1,((Hp.new H [(.i aa),(.i ac),(.sl aZ)]).bind λH5=>(Hp.ldSl H5 H.length 2).bind λs6=>(Hp.ldI H5 .i64 H.length 1).bind λn7=>(Hp.ldI H5 .i64 H.length 1).bind λn8=>(Sl.cut s6 1 (wrap .i64 (aF * n7)) (wrap .i64 ((wrap .i64 (aF+1)) * n8))).bind λs9=>some ((.sl s9),H5))=some (u,H1)/\∃ v H',K (u,H1)=some (v,H')/\Q v H'):∃ v H',(fU.tw F aa ac aZ aF H).bind K=some (v,H')/\Q v H':=JF h
theorem il.inl {aa:Nat} {ac:Nat} {ah:Nat} {aF:Nat} {ch:Int} {nm:Int} {K:aoj} {Q:aoe} (h:∃ u H1,((iK.tw F ch nm 2000000000000 H).bind λr7=>((r7.1).asTup 2).bind λl8=>(l8[0]?).bind λv9=>((v9).asI .i64).bind λn10=>(l8[1]?).bind λv11=>((v11).asB).bind λb12=>(Hp.ldI r7.2 .i64 ah aF).bind λn13=>(Hp.st r7.2 ah aF (.i (wrap .i64 (n13+n10)))).bind λH14=>(bif (!b12) then ((Hp.st H14 aa (ac+15) (.bool true)).bind λH15=>(Hp.st H15 ah aF (.i 0)).bind λH16=>some ((.tup []),H16)) else ((Hp.ldI H14 .i64 ah aF).bind λn17=>(fC.tw F n17 H14).bind λr18=>((r18.1).asI .i64).bind λn19=>(bif (decide (n19>1000000000000)) then ((Hp.st r18.2 aa (ac+15) (.bool true)).bind λH20=>(Hp.st H20 ah aF (.i 0)).bind λH21=>some ((.tup []),H21)) else (some ((.tup []),r18.2))))))=some (u,H1)/\∃ v H',K (u,H1)=some (v,H')/\Q v H'):∃ v H',(il.tw F aa ac ah aF ch nm H).bind K=some (v,H')/\Q v H':=JF h
theorem mj.inl {aa:Int} {ac:Int} {aZ:Sl} {K:aoj} {Q:aoe} (h:∃ u H1,((Hp.new H [(.i aa),(.i ac),(.sl aZ)]).bind λH4=>(Hp.ldI H4 .i64 H.length 0).bind λn5=>(dY.tw F n5 H4).bind λr6=>((r6.1).asAgg 3).bind λl7=>(l7[0]?).bind λv8=>((v8).asI .i64).bind λn9=>(l7[1]?).bind λv10=>((v10).asI .i64).bind λn11=>(l7[2]?).bind λv12=>((v12).asSl).bind λs13=>(if bo H4 r6.2 then ((Hp.ldI r6.2 .i64 H.length 0).bind λn14=>(dY.tw F n14 r6.2).bind λr15=>((r15.1).asAgg 3).bind λl16=>(l16[0]?).bind λv17=>((v17).asI .i64).bind λn18=>(l16[1]?).bind λv19=>((v19).asI .i64).bind λn20=>(l16[2]?).bind λv21=>((v21).asSl).bind λs22=>(if bo r6.2 r15.2 then ((Hp.ldI r15.2 .i64 H.length 0).bind λn23=>(Hp.ldI r15.2 .i64 H.length (0+1)).bind λn24=>(Hp.ldSl r15.2 H.length (0+2)).bind λs25=>(jT.tw F n23 n24 s25 r15.2).bind λr26=>((r26.1).asAgg 3).bind λl27=>(l27[0]?).bind λv28=>((v28).asI .i64).bind λn29=>(l27[1]?).bind λv30=>((v30).asI .i64).bind λn31=>(l27[2]?).bind λv32=>((v32).asSl).bind λs33=>(if bo r15.2 r26.2 then ((Hp.ldI r26.2 .i64 H.length 1).bind λn34=>(dY.tw F n34 r26.2).bind λr35=>((r35.1).asAgg 3).bind λl36=>(l36[0]?).bind λv37=>((v37).asI .i64).bind λn38=>(l36[1]?).bind λv39=>((v39).asI .i64).bind λn40=>(l36[2]?).bind λv41=>((v41).asSl).bind λs42=>(if bo r26.2 r35.2 then ((Hp.ldI r35.2 .i64 H.length 1).bind λn43=>(dY.tw F n43 r35.2).bind λr44=>((r44.1).asAgg 3).bind λl45=>(l45[0]?).bind λv46=>((v46).asI .i64).bind λn47=>(l45[1]?).bind λv48=>((v48).asI .i64).bind λn49=>(l45[2]?).bind λv50=>((v50).asSl).bind λs51=>(Hp.new r44.2 [(.i n9),(.i n11),(.sl s13),(.i n18),(.i n20),(.sl s22),(.i n29),(.i n31),(.sl s33),(.i n38),(.i n40),(.sl s42),(.i n47),(.i n49),(.sl s51),(.bool false)]).bind λH52=>some ((.ptr r44.2.length 0),H52)) else none)) else none)) else none)) else none))=some (u,H1)/\∃ v H',K (u,H1)=some (v,H')/\Q v H'):∃ v H',(mj.tw F aa ac aZ H).bind K=some (v,H')/\Q v H':=JF h
def lp.Q (H0:Hp) (Ri R0:am5)  (r:Int) (v:AV) (H':Hp):Prop:=v=(.i r)/\Out H0 Ri H' (R0) λR=>True
def lp.p (F:Nat) (ai:anh) (au:Int):Option (Int):=(bif (decide ((wrap .i64 (au - (ai.length:Int)))<0)) then (some (-1)) else (some (wrap .i64 (au - (ai.length:Int)))))
theorem lp.P {aS aC aT ai au} (b_:aC=ai.length) (h0:Inn H R0 λR=>ROs (af eI (af eI (af eI (af eI eI)))) H R ⟨aS,aC,aT⟩ ai) {r:Int} (hp:lp.p F ai au=some r):Rt (lp.tw F ⟨aS,aC,aT⟩ au H) (lp.Q H R0 R0  r):=by
 obtain ⟨w0,bK⟩:=h0
 subst b_
 unfold lp.p at hp
 unfold lp.tw lp.twX
 have s0:=w0.rf
 refine aG hp (λhp=>?_) λhp=>?_
 ·exact aD hp ⟨rfl,w0,s0,trivial⟩
 ·exact aD hp ⟨rfl,w0,s0,trivial⟩
def jl.Q (H0:Hp) (Ri R0:am5)  (r:Int) (v:AV) (H':Hp):Prop:=v=(.i r)/\Out H0 Ri H' (R0) λR=>True
def jl.p (F:Nat) (ai:anh) (ah:Int):Option (Int):=(lp.p F ai ah).bind λr2=>(bif (decide (r2<0)) then (some (-1)) else (some r2))
theorem jl.P {aS aC aT ai ac ah} (b_:aC=ai.length) (h0:Inn H R0 λR=>ROs (af eI (af eI (af eI (af eI eI)))) H R ⟨aS,aC,aT⟩ ai) {r:Int} (hp:jl.p F ai ah=some r):Rt (jl.tw F ⟨aS,aC,aT⟩ ac ah H) (jl.Q H R0 R0  r):=by
 obtain ⟨w0,bK⟩:=h0
 subst b_
 unfold jl.p at hp
 unfold jl.tw jl.twX
 have s0:=w0.rf
 refine bm w0 λH1 w1 s1=>?_
 refine lSl w1 0 ?_
 obtain ⟨r2,e2,hp⟩:=ag hp
 refine aI (lp.P rfl ⟨w1,(bK.step s1)⟩ e2) ?_
 rintro _ H3 ⟨rfl,w3,s3,_⟩
 refine br ?_
 refine aG hp (λhp=>?_) λhp=>?_
 ·obtain ⟨w4,s4⟩:=w3.pp [] 1
  exact aD hp ⟨rfl,w4,(s0.trans (s1.trans (s3.trans s4))),trivial⟩
 ·obtain ⟨w5,s5⟩:=w3.pp [] 1
  exact aD hp ⟨rfl,w5,(s0.trans (s1.trans (s3.trans s5))),trivial⟩
def kU.Q (H0:Hp) (Ri R0:am5)  (r:aoG) (v:AV) (H':Hp):Prop:=v=(.agg [(.i r.1),(.i r.2.1),(.i r.2.2.1),(.i r.2.2.2.1),(.i r.2.2.2.2)])/\Out H0 Ri H' (R0) λR=>True
def kU.p (F:Nat) (aa:Int) (ac:Int) (aZ:Int) (eN:Int) (ev:Int):Option (Int×Int×Int×Int×Int):=some (aa,ac,aZ,eN,ev)
theorem kU.P {aa ac aZ eN ev}  (h0:Inn H R0 λR=>True) {r:aoG} (hp:kU.p F aa ac aZ eN ev=some r):Rt (kU.tw F aa ac aZ eN ev H) (kU.Q H R0 R0  r):=by
 obtain ⟨w0,_⟩:=h0
 unfold kU.p at hp
 unfold kU.tw kU.twX
 have s0:=w0.rf
 refine bm w0 λH1 w1 s1=>?_
 refine bm w1 λH2 w2 s2=>?_
 refine bm w2 λH3 w3 s3=>?_
 refine lI w3 2 ?_
 refine aE w3 0 λH4 w4 s4=>?_
 refine lI w4 2 ?_
 refine aE w4 0 λH5 w5 s5=>?_
 refine lI w5 2 ?_
 refine aE w5 0 λH6 w6 s6=>?_
 refine lI w6 2 ?_
 refine aE w6 0 λH7 w7 s7=>?_
 refine lI w7 2 ?_
 refine aE w7 0 λH8 w8 s8=>?_
 refine lI w8 0 ?_
 refine lI w8 0 ?_
 refine lI w8 0 ?_
 refine lI w8 0 ?_
 refine lI w8 0 ?_
 refine aE w8 1 λH9 w9 s9=>?_
 refine aE w9 1 λH10 w10 s10=>?_
 refine aE w10 1 λH11 w11 s11=>?_
 refine aE w11 1 λH12 w12 s12=>?_
 dsimp only [pk,pks,nth,List.drop,List.set,List.eraseIdx] at w12 s4 s5 s6 s7 s8 s9 s10 s11 s12
 refine aE w12 1 λH13 w13 s13=>?_
 refine lI w13 1 ?_
 refine lI w13 1 ?_
 refine lI w13 1 ?_
 refine lI w13 1 ?_
 refine lI w13 1 ?_
 obtain ⟨w14,s14⟩:=w13.pp [] 3
 exact aD hp ⟨rfl,w14,(s0.trans (s1.trans (s2.trans (s3.trans (s4.trans (s5.trans (s6.trans (s7.trans (s8.trans (s9.trans (s10.trans (s11.trans (s12.trans (s13.trans s14)))))))))))))),trivial⟩
def eW.Q (H0:Hp) (Ri R0:am5)  (r:(List (Int×Int×Int×Int×Int))) (v:AV) (H':Hp):Prop:=∃ o0a:ON,∃ o0n:Nat,∃ o0c:Cap,∃ o0k:List AV,v=(.sl ⟨o0a,o0n,o0c⟩)/\o0n=(r).length/\Out H0 Ri H' (Rs.own ⟨o0a,o0n,o0c⟩ (af eI (af eI (af eI (af eI eI)))).z o0k::R0) λR=>CR (af eI (af eI (af eI (af eI eI)))) H' R o0k (r)
def eW.S29 (H0:Hp) (Ri R0:am5)  (C:an3) (pC:List (Int×Int×Int×Int×Int)->List (Int×Int×Int×Int×Int)->Int->Option ((List (Int×Int×Int×Int×Int)))):Prop:=∀ {mn vI kc sZ mo vJ cP lg vK hO},∀ {H:Hp},kc=cP.length->sZ=lg.length->(Out H0 Ri H (Rs.own ⟨vI,sZ,vJ⟩ (af eI (af eI (af eI (af eI eI)))).z vK::R0) λR=>ROs (af eI (af eI (af eI (af eI eI)))) H R ⟨mn,kc,mo⟩ cP/\CR (af eI (af eI (af eI (af eI eI)))) H R vK lg)->∀ {r:(List (Int×Int×Int×Int×Int))},pC cP lg hO=some r->Rt (C ⟨mn,kc,mo⟩ ⟨vI,sZ,vJ⟩ hO H) (eW.Q H0 Ri R0  r)
def eW.pl29 (F:Nat) :Nat->List (Int×Int×Int×Int×Int)->List (Int×Int×Int×Int×Int)->Int->Option ((List (Int×Int×Int×Int×Int)))
 | 0,_,_,_=>none
 | k+1,cP,lg,hO=>(bif (decide (hO<(cP.length:Int))) then ((ix cP hO).bind λn1=>(kU.p F ((gt cP n1).1) ((gt cP n1).2.1) ((gt cP n1).2.2.1) ((gt cP n1).2.2.2.1) ((gt cP n1).2.2.2.2)).bind λr2=>(ix lg hO).bind λn4=>(some (lg.set n4 (r2.1,(gt lg n4).2.1,(gt lg n4).2.2.1,(gt lg n4).2.2.2.1,(gt lg n4).2.2.2.2))).bind λl5=>(some (l5.set n4 ((gt l5 n4).1,r2.2.1,(gt l5 n4).2.2.1,(gt l5 n4).2.2.2.1,(gt l5 n4).2.2.2.2))).bind λl7=>(some (l7.set n4 ((gt l7 n4).1,(gt l7 n4).2.1,r2.2.2.1,(gt l7 n4).2.2.2.1,(gt l7 n4).2.2.2.2))).bind λl9=>(some (l9.set n4 ((gt l9 n4).1,(gt l9 n4).2.1,(gt l9 n4).2.2.1,r2.2.2.2.1,(gt l9 n4).2.2.2.2))).bind λl11=>(some (l11.set n4 ((gt l11 n4).1,(gt l11 n4).2.1,(gt l11 n4).2.2.1,(gt l11 n4).2.2.2.1,r2.2.2.2.2))).bind λl13=>eW.pl29 F k cP l13 (wrap .i64 (hO+1))) else (some lg))
theorem eW.l29_P  :∀ k,eW.S29 H0 Ri R0  (eW.l29 F (kU.tw F)  k) (eW.pl29 F  k):=by
 intro k
 induction k with
 | zero=>unfold eW.S29;intros;rename_i hp;cases hp
 | succ k ih=>
  intro mn vI kc sZ mo vJ cP lg vK hO H pT Kc h0 r hp
  obtain ⟨w0,s0,kd,vL⟩:=h0
  subst pT
  subst Kc
  unfold eW.pl29 at hp
  unfold eW.l29
  refine aG hp (λhp=>?_) λhp=>?_
  ·obtain ⟨n1,g1,hp⟩:=ag hp
   obtain ⟨p1,q1,i1,h1,j1⟩:=ROs.ixr kd rfl g1
   refine ak i1 ?_
   obtain ⟨_,_,rfl,rfl,_,_,rfl,rfl,_,_,rfl,rfl,_,_,rfl,rfl,rfl⟩:=h1
   refine ak (bk (j1 0 _ rfl)) ?_
   refine ak (bk (j1 1 _ rfl)) ?_
   refine ak (bk (j1 2 _ rfl)) ?_
   refine ak (bk (j1 3 _ rfl)) ?_
   refine ak (bk (j1 4 _ rfl)) ?_
   obtain ⟨r2,e2,hp⟩:=ag hp
   refine aI (kU.P ⟨w0,trivial⟩ e2) ?_
   rintro _ H3 ⟨rfl,w3,s3,_⟩
   refine br (br (br (br (br (br (br (br (br (br (br ?_))))))))))
   obtain ⟨n4,g4,hp⟩:=ag hp
   obtain ⟨p4,q4,i4,h4,j4⟩:=W.ixo (E:=(af eI (af eI (af eI (af eI eI))))) w3 (i:=0) rfl rfl (vL.step s3) g4
   refine ak i4 ?_
   obtain ⟨l5,e5,hp⟩:=ag hp
   refine fc (af eI (af eI (af eI (af eI eI)))) w3 (i:=0) (j:=0) (p:=p4) rfl rfl (vL.step s3) g4 i4 e5 rfl rfl (λ_ h=>by obtain ⟨_,_,rfl,rfl,_,_,rfl,rfl,_,_,rfl,rfl,_,_,rfl,rfl,rfl⟩:=h;exact ⟨[_],_,rfl,rfl,[_],_,rfl,rfl,[_],_,rfl,rfl,[_],_,rfl,rfl,rfl⟩) λH6 k6 w6 s6 c6=>?_
   obtain ⟨l7,e7,hp⟩:=ag hp
   refine fc (af eI (af eI (af eI (af eI eI)))) w6 (i:=0) (j:=1) (p:=p4) rfl rfl c6 (pd g4 (dl e5)) i4 e7 rfl rfl (λ_ h=>by obtain ⟨_,_,rfl,rfl,_,_,rfl,rfl,_,_,rfl,rfl,_,_,rfl,rfl,rfl⟩:=h;exact ⟨[_],_,rfl,rfl,[_],_,rfl,rfl,[_],_,rfl,rfl,[_],_,rfl,rfl,rfl⟩) λH8 k8 w8 s8 c8=>?_
   obtain ⟨l9,e9,hp⟩:=ag hp
   refine fc (af eI (af eI (af eI (af eI eI)))) w8 (i:=0) (j:=2) (p:=p4) rfl rfl c8 (pd g4 ((dl e7).trans (dl e5))) i4 e9 rfl rfl (λ_ h=>by obtain ⟨_,_,rfl,rfl,_,_,rfl,rfl,_,_,rfl,rfl,_,_,rfl,rfl,rfl⟩:=h;exact ⟨[_],_,rfl,rfl,[_],_,rfl,rfl,[_],_,rfl,rfl,[_],_,rfl,rfl,rfl⟩) λH10 k10 w10 s10 c10=>?_
   obtain ⟨l11,e11,hp⟩:=ag hp
   refine fc (af eI (af eI (af eI (af eI eI)))) w10 (i:=0) (j:=3) (p:=p4) rfl rfl c10 (pd g4 (((dl e9).trans (dl e7)).trans (dl e5))) i4 e11 rfl rfl (λ_ h=>by obtain ⟨_,_,rfl,rfl,_,_,rfl,rfl,_,_,rfl,rfl,_,_,rfl,rfl,rfl⟩:=h;exact ⟨[_],_,rfl,rfl,[_],_,rfl,rfl,[_],_,rfl,rfl,[_],_,rfl,rfl,rfl⟩) λH12 k12 w12 s12 c12=>?_
   obtain ⟨l13,e13,hp⟩:=ag hp
   refine fc (af eI (af eI (af eI (af eI eI)))) w12 (i:=0) (j:=4) (p:=p4) rfl rfl c12 (pd g4 ((((dl e11).trans (dl e9)).trans (dl e7)).trans (dl e5))) i4 e13 rfl rfl (λ_ h=>by obtain ⟨_,_,rfl,rfl,_,_,rfl,rfl,_,_,rfl,rfl,_,_,rfl,rfl,rfl⟩:=h;exact ⟨[_],_,rfl,rfl,[_],_,rfl,rfl,[_],_,rfl,rfl,[_],_,rfl,rfl,rfl⟩) λH14 k14 w14 s14 c14=>?_
   exact ih rfl (((((dl e5).symm.trans (dl e7).symm).trans (dl e9).symm).trans (dl e11).symm).trans (dl e13).symm) ⟨w14,(s0.trans (s3.trans (s6.trans (s8.trans (s10.trans (s12.trans s14)))))),(kd.step (s3.trans (s6.trans (s8.trans (s10.trans (s12.trans s14)))))),c14⟩ hp
  ·exact aD hp ⟨_,_,_,_,rfl,rfl,w0,s0,vL⟩
def eW.p (F:Nat) (ai:anh):Option ((List (Int×Int×Int×Int×Int))):=(mkn (ai.length:Int) ((0:Int),(0:Int),(0:Int),(0:Int),(0:Int))).bind λl1=>eW.pl29 F F ai l1 0
theorem eW.P {aS aC aT ai} (b_:aC=ai.length) (h0:Inn H R0 λR=>ROs (af eI (af eI (af eI (af eI eI)))) H R ⟨aS,aC,aT⟩ ai) {r:(List (Int×Int×Int×Int×Int))} (hp:eW.p F ai=some r):Rt (eW.tw F ⟨aS,aC,aT⟩ H) (eW.Q H R0 R0  r):=by
 obtain ⟨w0,bK⟩:=h0
 subst b_
 unfold eW.p at hp
 unfold eW.tw eW.twX
 have s0:=w0.rf
 obtain ⟨l1,e1,hp⟩:=ag hp
 refine uY (af eI (af eI (af eI (af eI eI)))) ((0:Int),(0:Int),(0:Int),(0:Int),(0:Int)) w0 ⟨[_],_,rfl,rfl,⟨[_],_,rfl,rfl,⟨[_],_,rfl,rfl,⟨[_],_,rfl,rfl,rfl⟩⟩⟩⟩ rfl rfl e1 λH2 k2 w2 s2 c2=>?_
 exact eW.l29_P F rfl rfl ⟨w2,(s0.trans s2),(bK.step s2),c2⟩ hp
def im.Q (H0:Hp) (Ri R0:am5)  (r:(List (Int×Int×Int×Int×Int))×Int) (v:AV) (H':Hp):Prop:=∃ o0a:ON,∃ o0n:Nat,∃ o0c:Cap,∃ o0k:List AV,v=(.agg [(.sl ⟨o0a,o0n,o0c⟩),(.i r.2)])/\o0n=(r.1).length/\Out H0 Ri H' (Rs.own ⟨o0a,o0n,o0c⟩ (af eI (af eI (af eI (af eI eI)))).z o0k::R0) λR=>CR (af eI (af eI (af eI (af eI eI)))) H' R o0k (r.1)
def im.p (F:Nat) (ai:anh) (ac:Int):Option ((List (Int×Int×Int×Int×Int))×Int):=(eW.p F ai).bind λr4=>some (r4,ac)
theorem im.P {aS aC aT ai ac} (b_:aC=ai.length) (h0:Inn H R0 λR=>ROs (af eI (af eI (af eI (af eI eI)))) H R ⟨aS,aC,aT⟩ ai) {r:(List (Int×Int×Int×Int×Int))×Int} (hp:im.p F ai ac=some r):Rt (im.tw F ⟨aS,aC,aT⟩ ac H) (im.Q H R0 R0  r):=by
 obtain ⟨w0,bK⟩:=h0
 subst b_
 unfold im.p at hp
 unfold im.tw im.twX
 have s0:=w0.rf
 refine bm w0 λH1 w1 s1=>?_
 refine bm w1 λH2 w2 s2=>?_
 refine bm w2 λH3 w3 s3=>?_
 refine lSl w3 2 ?_
 obtain ⟨r4,e4,hp⟩:=ag hp
 refine aI (eW.P rfl ⟨w3,(bK.step (s1.trans (s2.trans s3)))⟩ e4) ?_
 rintro _ H5 ⟨o0a_5,o0n_5,o0c_5,o0k_5,rfl,rfl,w5,s5,f5_0⟩
 refine br ?_
 refine aE w5 1 λH6 w6 s6=>?_
 refine lI w6 3 ?_
 refine aE w6 1 λH7 w7 s7=>?_
 refine lSl w7 1 ?_
 refine lI w7 1 ?_
 refine aE w7 2 λH8 w8 s8=>?_
 refine aE w8 2 λH9 w9 s9=>?_
 refine lSl w9 2 ?_
 refine lI w9 2 ?_
 obtain ⟨w10,s10⟩:=w9.pp [0] 4
 exact aD hp ⟨_,_,_,_,rfl,rfl,w10,(s0.trans (s1.trans (s2.trans (s3.trans (s5.trans (s6.trans (s7.trans (s8.trans (s9.trans s10))))))))),(f5_0.step (s6.trans (s7.trans (s8.trans (s9.trans s10)))))⟩
def fX.Q (H0:Hp) (Ri R0:am5)  (r:Bool) (v:AV) (H':Hp):Prop:=v=(.bool r)/\Out H0 Ri H' (R0) λR=>True
def fX.p (F:Nat) (aa:Int) (au:Int) (eA:Int):Option (Bool):=(bif (decide (aa>=au)) then (some (decide (aa<=eA))) else (some false))
theorem fX.P {aa au eA}  (h0:Inn H R0 λR=>True) {r:Bool} (hp:fX.p F aa au eA=some r):Rt (fX.tw F aa au eA H) (fX.Q H R0 R0  r):=by
 obtain ⟨w0,_⟩:=h0
 unfold fX.p at hp
 unfold fX.tw fX.twX
 have s0:=w0.rf
 refine aG hp (λhp=>?_) λhp=>?_
 ·exact aD hp ⟨rfl,w0,s0,trivial⟩
 ·exact aD hp ⟨rfl,w0,s0,trivial⟩
def gz.Q (H0:Hp) (Ri R0:am5)  (r:Int) (v:AV) (H':Hp):Prop:=v=(.i r)/\Out H0 Ri H' (R0) λR=>True
def gz.p (F:Nat) (aa:Int) (ac:Int) (aZ:Int) (eN:Int) (fE:Int):Option (Int):=(ix ([aa,ac,aZ,eN]:List Int) fE).bind λn3=>some (gt ([aa,ac,aZ,eN]:List Int) n3)
theorem gz.P {aa ac aZ eN ev fE}  (h0:Inn H R0 λR=>True) {r:Int} (hp:gz.p F aa ac aZ eN fE=some r):Rt (gz.tw F aa ac aZ eN ev fE H) (gz.Q H R0 R0  r):=by
 obtain ⟨w0,_⟩:=h0
 unfold gz.p at hp
 unfold gz.tw gz.twX
 have s0:=w0.rf
 refine bm w0 λH1 w1 s1=>?_
 refine lI w1 0 ?_
 refine lI w1 0 ?_
 refine lI w1 0 ?_
 refine lI w1 0 ?_
 refine jJ eI w1 (n:=4) (l:=([aa,ac,aZ,eN]:List Int)) rfl (CR.cons1 rfl (CR.cons1 rfl (CR.cons1 rfl (CR.cons1 rfl CR.empty)))) rfl λH2 w2 s2 c2=>?_
 obtain ⟨n3,g3,hp⟩:=ag hp
 obtain ⟨p3,q3,i3,h3,j3⟩:=W.ixo (E:=eI) w2 (i:=0) rfl rfl c2 g3
 refine ak i3 ?_
 have h3:_=[_]:=h3
 subst h3
 refine ak (bk (j3 0 _ rfl)) ?_
 obtain ⟨w4,s4⟩:=w2.pp [] 2
 exact aD hp ⟨rfl,w4,(s0.trans (s1.trans (s2.trans s4))),trivial⟩
def gA.Q (H0:Hp) (Ri R0:am5)  (r:Bool) (v:AV) (H':Hp):Prop:=v=(.bool r)/\Out H0 Ri H' (R0) λR=>True
def gA.p (F:Nat) (ev:Int) (fE:Int):Option (Bool):=(bif (fE==0) then (some true) else ((bif (fE==3) then ((bif (ev==1) then (some true) else ((bif (fE==1) then (some (ev==(-1))) else (some false))))) else ((bif (fE==1) then (some (ev==(-1))) else (some false))))))
theorem gA.P {aa ac aZ eN ev fE}  (h0:Inn H R0 λR=>True) {r:Bool} (hp:gA.p F ev fE=some r):Rt (gA.tw F aa ac aZ eN ev fE H) (gA.Q H R0 R0  r):=by
 obtain ⟨w0,_⟩:=h0
 unfold gA.p at hp
 unfold gA.tw gA.twX
 have s0:=w0.rf
 refine bm w0 λH1 w1 s1=>?_
 refine aG hp (λhp=>?_) λhp=>?_
 ·obtain ⟨w2,s2⟩:=w1.pp [] 1
  exact aD hp ⟨rfl,w2,(s0.trans (s1.trans s2)),trivial⟩
 ·refine aG hp (λhp=>?_) λhp=>?_
  ·refine lI w1 0 ?_
   refine aG hp (λhp=>?_) λhp=>?_
   ·obtain ⟨w3,s3⟩:=w1.pp [] 1
    exact aD hp ⟨rfl,w3,(s0.trans (s1.trans s3)),trivial⟩
   ·refine aG hp (λhp=>?_) λhp=>?_
    ·refine lI w1 0 ?_
     obtain ⟨w4,s4⟩:=w1.pp [] 1
     exact aD hp ⟨rfl,w4,(s0.trans (s1.trans s4)),trivial⟩
    ·obtain ⟨w5,s5⟩:=w1.pp [] 1
     exact aD hp ⟨rfl,w5,(s0.trans (s1.trans s5)),trivial⟩
  ·refine aG hp (λhp=>?_) λhp=>?_
   ·refine lI w1 0 ?_
    obtain ⟨w6,s6⟩:=w1.pp [] 1
    exact aD hp ⟨rfl,w6,(s0.trans (s1.trans s6)),trivial⟩
   ·obtain ⟨w7,s7⟩:=w1.pp [] 1
    exact aD hp ⟨rfl,w7,(s0.trans (s1.trans s7)),trivial⟩
def cg.Q (H0:Hp) (Ri R0:am5)  (r:Bool) (v:AV) (H':Hp):Prop:=v=(.bool r)/\Out H0 Ri H' (R0) λR=>True
def cg.S61 (H0:Hp) (Ri R0:am5)  (C:aom) (pC:aou):Prop:=∀ {vM vN Kd s_ lL ta Ge vO vP Ke iV CA eR nE mT vQ vR Kf},∀ {H:Hp},s_=iV.length->ta=mT.length->Ge=vQ.length->(Out H0 Ri H (Rs.blk lL [.sl ⟨vM,s_,vO⟩,.i CA]::Rs.own ⟨vN,ta,vP⟩ fD.z vR::Rs.own ⟨Kd,Ge,Ke⟩ fD.z Kf::R0) λR=>ROs (af eI (af eI (af eI (af eI eI)))) H R ⟨vM,s_,vO⟩ iV/\CR fD H R vR mT/\CR fD H R Kf vQ)->∀ {r:Bool},pC iV eR mT vQ nE=some r->Rt (C lL 0 eR ⟨vN,ta,vP⟩ ⟨Kd,Ge,Ke⟩ nE H) (cg.Q H0 Ri R0  r)
def cg.S3927 (H0:Hp) (Ri R0:am5)  (C:Nat->Nat->Int->Sl->Sl->Int->Nat->Nat->Int->Hp->OA) (pC:List (Int×Int×Int×Int×Int)->Int->List Bool->List Bool->Int->Int->Int->Int->Int->Int->Int->Option (Bool)):Prop:=∀ {Kg Kh Ki Gf sy Gg Gh mG Kj Kk Kl ui Uu nD mF vS vT vU vV vW mZ rv rx Km Ko},∀ {H:Hp},Gf=ui.length->Gg=rv.length->Gh=rx.length->(Out H0 Ri H (Rs.blk sy [.sl ⟨Kg,Gf,Kj⟩,.i Uu]::Rs.own ⟨Kh,Gg,Kk⟩ fD.z Km::Rs.own ⟨Ki,Gh,Kl⟩ fD.z Ko::Rs.blk mG [.i vS,.i vT,.i vU,.i vV,.i vW]::R0) λR=>ROs (af eI (af eI (af eI (af eI eI)))) H R ⟨Kg,Gf,Kj⟩ ui/\CR fD H R Km rv/\CR fD H R Ko rx)->∀ {r:Bool},pC ui nD rv rx mF vS vT vU vV vW mZ=some r->Rt (C sy 0 nD ⟨Kh,Gg,Kk⟩ ⟨Ki,Gh,Kl⟩ mF mG 0 mZ H) (cg.Q H0 Ri R0  r)
def cg.pl3927 (F:Nat) (bS:aou):Nat->List (Int×Int×Int×Int×Int)->Int->List Bool->List Bool->Int->Int->Int->Int->Int->Int->Int->Option (Bool)
 | 0,_,_,_,_,_,_,_,_,_,_,_=>none
 | k+1,ui,nD,rv,rx,mF,vS,vT,vU,vV,vW,mZ=>(bif (decide (mZ<4)) then ((gz.p F vS vT vU vV mZ).bind λr1=>(fX.p F r1 0 (wrap .i64 (nD - 1))).bind λr3=>(bif (!r3) then (some false) else ((gA.p F vW mZ).bind λr6=>(bif r6 then ((ix rv r1).bind λn8=>(bif (gt rv n8) then (some false) else ((ix rv r1).bind λn10=>(some (rv.set n10 true)).bind λl11=>cg.pl3927 F bS k ui nD l11 rx mF vS vT vU vV vW (wrap .i64 (mZ+1))))) else ((ix rx r1).bind λn13=>(bif (gt rx n13) then (some false) else ((ix rx r1).bind λn15=>(some (rx.set n15 true)).bind λl16=>cg.pl3927 F bS k ui nD rv l16 mF vS vT vU vV vW (wrap .i64 (mZ+1))))))))) else (bS ui nD rv rx (wrap .i64 (mF+1))))
theorem cg.l3927_P  {C61_:aom} {bS:aou} (hC61:cg.S61 H0 Ri R0  C61_ bS):∀ k,cg.S3927 H0 Ri R0  (cg.l3927 F (gz.tw F) (fX.tw F) (gA.tw F) C61_ k) (cg.pl3927 F bS k):=by
 intro k
 induction k with
 | zero=>unfold cg.S3927;intros;rename_i hp;cases hp
 | succ k ih=>
  intro Kg Kh Ki Gf sy Gg Gh mG Kj Kk Kl ui Uu nD mF vS vT vU vV vW mZ rv rx Km Ko H aeJ aeK aeL h0 r hp
  obtain ⟨w0,s0,Kp,CB,CC⟩:=h0
  subst aeJ
  subst aeK
  subst aeL
  unfold cg.pl3927 at hp
  unfold cg.l3927
  refine aG hp (λhp=>?_) λhp=>?_
  ·refine lI w0 3 ?_
   refine lI w0 3 ?_
   refine lI w0 3 ?_
   refine lI w0 3 ?_
   refine lI w0 3 ?_
   obtain ⟨r1,e1,hp⟩:=ag hp
   refine aI (gz.P ⟨w0,trivial⟩ e1) ?_
   rintro _ H2 ⟨rfl,w2,s2,_⟩
   refine br ?_
   obtain ⟨r3,e3,hp⟩:=ag hp
   refine aI (fX.P ⟨w2,trivial⟩ e3) ?_
   rintro _ H4 ⟨rfl,w4,s4,_⟩
   refine br ?_
   refine aG hp (λhp=>?_) λhp=>?_
   ·obtain ⟨w5,s5⟩:=w4.pp [] 4
    exact aD hp ⟨rfl,w5,(s0.trans (s2.trans (s4.trans s5))),trivial⟩
   ·refine lI w4 3 ?_
    refine lI w4 3 ?_
    refine lI w4 3 ?_
    refine lI w4 3 ?_
    refine lI w4 3 ?_
    obtain ⟨r6,e6,hp⟩:=ag hp
    refine aI (gA.P ⟨w4,trivial⟩ e6) ?_
    rintro _ H7 ⟨rfl,w7,s7,_⟩
    refine br ?_
    refine aG hp (λhp=>?_) λhp=>?_
    ·obtain ⟨n8,g8,hp⟩:=ag hp
     obtain ⟨p8,q8,i8,h8,j8⟩:=W.ixo (E:=fD) w7 (i:=1) rfl rfl (CB.step (s2.trans (s4.trans s7))) g8
     refine ak i8 ?_
     have h8:_=[_]:=h8
     subst h8
     refine ak (BT (j8 0 _ rfl)) ?_
     refine aG hp (λhp=>?_) λhp=>?_
     ·obtain ⟨w9,s9⟩:=w7.pp [] 4
      exact aD hp ⟨rfl,w9,(s0.trans (s2.trans (s4.trans (s7.trans s9)))),trivial⟩
     ·obtain ⟨n10,g10,hp⟩:=ag hp
      obtain ⟨p10,q10,i10,h10,j10⟩:=W.ixo (E:=fD) w7 (i:=1) rfl rfl (CB.step (s2.trans (s4.trans s7))) g10
      refine ak i10 ?_
      obtain ⟨l11,e11,hp⟩:=ag hp
      refine fc fD w7 (i:=1) (j:=0) (p:=p10) rfl rfl (CB.step (s2.trans (s4.trans s7))) g10 i10 e11 rfl rfl (λ_ h=>by have h:_=[_]:=h;subst h;exact rfl) λH12 k12 w12 s12 c12=>?_
      exact ih rfl ((dl e11).symm) rfl ⟨w12,(s0.trans (s2.trans (s4.trans (s7.trans s12)))),(Kp.step (s2.trans (s4.trans (s7.trans s12)))),c12,(CC.step (s2.trans (s4.trans (s7.trans s12))))⟩ hp
    ·obtain ⟨n13,g13,hp⟩:=ag hp
     obtain ⟨p13,q13,i13,h13,j13⟩:=W.ixo (E:=fD) w7 (i:=2) rfl rfl (CC.step (s2.trans (s4.trans s7))) g13
     refine ak i13 ?_
     have h13:_=[_]:=h13
     subst h13
     refine ak (BT (j13 0 _ rfl)) ?_
     refine aG hp (λhp=>?_) λhp=>?_
     ·obtain ⟨w14,s14⟩:=w7.pp [] 4
      exact aD hp ⟨rfl,w14,(s0.trans (s2.trans (s4.trans (s7.trans s14)))),trivial⟩
     ·obtain ⟨n15,g15,hp⟩:=ag hp
      obtain ⟨p15,q15,i15,h15,j15⟩:=W.ixo (E:=fD) w7 (i:=2) rfl rfl (CC.step (s2.trans (s4.trans s7))) g15
      refine ak i15 ?_
      obtain ⟨l16,e16,hp⟩:=ag hp
      refine fc fD w7 (i:=2) (j:=0) (p:=p15) rfl rfl (CC.step (s2.trans (s4.trans s7))) g15 i15 e16 rfl rfl (λ_ h=>by have h:_=[_]:=h;subst h;exact rfl) λH17 k17 w17 s17 c17=>?_
      exact ih rfl rfl ((dl e16).symm) ⟨w17,(s0.trans (s2.trans (s4.trans (s7.trans s17)))),(Kp.step (s2.trans (s4.trans (s7.trans s17)))),(CB.step (s2.trans (s4.trans (s7.trans s17)))),c17⟩ hp
  ·obtain ⟨w18,s18⟩:=w0.pp [0,1,2] 4
   exact hC61 rfl rfl rfl ⟨w18,(s0.trans s18),(Kp.step s18),(CB.step s18),(CC.step s18)⟩ hp
def cg.pl61 (F:Nat) :Nat->List (Int×Int×Int×Int×Int)->Int->List Bool->List Bool->Int->Option (Bool)
 | 0,_,_,_,_,_=>none
 | k+1,iV,eR,mT,vQ,nE=>(bif (decide (nE<(iV.length:Int))) then ((ix iV nE).bind λn1=>(bif (((gt iV n1).2.2.2.2) != 1) then ((bif (((gt iV n1).2.2.2.2) != (-1)) then (some false) else (cg.pl3927 F (cg.pl61 F k) F iV eR mT vQ nE ((gt iV n1).1) ((gt iV n1).2.1) ((gt iV n1).2.2.1) ((gt iV n1).2.2.2.1) ((gt iV n1).2.2.2.2) 0))) else (cg.pl3927 F (cg.pl61 F k) F iV eR mT vQ nE ((gt iV n1).1) ((gt iV n1).2.1) ((gt iV n1).2.2.1) ((gt iV n1).2.2.2.1) ((gt iV n1).2.2.2.2) 0))) else (some true))
theorem cg.l61_P  :∀ k,cg.S61 H0 Ri R0  (cg.l61 F (gz.tw F) (fX.tw F) (gA.tw F)  k) (cg.pl61 F  k):=by
 intro k
 induction k with
 | zero=>unfold cg.S61;intros;rename_i hp;cases hp
 | succ k ih=>
  intro vM vN Kd s_ lL ta Ge vO vP Ke iV CA eR nE mT vQ vR Kf H Kq Ks aeM h0 r hp
  obtain ⟨w0,s0,AR,AS,Uv⟩:=h0
  subst Kq
  subst Ks
  subst aeM
  unfold cg.pl61 at hp
  unfold cg.l61
  refine lSl w0 0 ?_
  refine aG hp (λhp=>?_) λhp=>?_
  ·refine lSl w0 0 ?_
   obtain ⟨n1,g1,hp⟩:=ag hp
   obtain ⟨p1,q1,i1,h1,j1⟩:=ROs.ixr AR rfl g1
   refine ak i1 ?_
   obtain ⟨_,_,rfl,rfl,_,_,rfl,rfl,_,_,rfl,rfl,_,_,rfl,rfl,rfl⟩:=h1
   refine ak (bk (j1 0 _ rfl)) ?_
   refine ak (bk (j1 1 _ rfl)) ?_
   refine ak (bk (j1 2 _ rfl)) ?_
   refine ak (bk (j1 3 _ rfl)) ?_
   refine ak (bk (j1 4 _ rfl)) ?_
   refine bm w0 λH2 w2 s2=>?_
   refine aE w2 0 λH3 w3 s3=>?_
   refine aE w3 0 λH4 w4 s4=>?_
   refine aE w4 0 λH5 w5 s5=>?_
   refine aE w5 0 λH6 w6 s6=>?_
   refine aE w6 0 λH7 w7 s7=>?_
   refine lI w7 0 ?_
   refine aG hp (λhp=>?_) λhp=>?_
   ·refine lI w7 0 ?_
    refine aG hp (λhp=>?_) λhp=>?_
    ·obtain ⟨w8,s8⟩:=w7.pp [] 4
     exact aD hp ⟨rfl,w8,(s0.trans (s2.trans (s3.trans (s4.trans (s5.trans (s6.trans (s7.trans s8))))))),trivial⟩
    ·obtain ⟨w9,s9⟩:=w7.pp [1,2,3,0] 4
     exact cg.l3927_P (@ih) F rfl rfl rfl ⟨w9,(s0.trans (s2.trans (s3.trans (s4.trans (s5.trans (s6.trans (s7.trans s9))))))),(AR.step (s2.trans (s3.trans (s4.trans (s5.trans (s6.trans (s7.trans s9))))))),(AS.step (s2.trans (s3.trans (s4.trans (s5.trans (s6.trans (s7.trans s9))))))),(Uv.step (s2.trans (s3.trans (s4.trans (s5.trans (s6.trans (s7.trans s9)))))))⟩ hp
   ·obtain ⟨w10,s10⟩:=w7.pp [1,2,3,0] 4
    exact cg.l3927_P (@ih) F rfl rfl rfl ⟨w10,(s0.trans (s2.trans (s3.trans (s4.trans (s5.trans (s6.trans (s7.trans s10))))))),(AR.step (s2.trans (s3.trans (s4.trans (s5.trans (s6.trans (s7.trans s10))))))),(AS.step (s2.trans (s3.trans (s4.trans (s5.trans (s6.trans (s7.trans s10))))))),(Uv.step (s2.trans (s3.trans (s4.trans (s5.trans (s6.trans (s7.trans s10)))))))⟩ hp
  ·obtain ⟨w11,s11⟩:=w0.pp [] 3
   exact aD hp ⟨rfl,w11,(s0.trans s11),trivial⟩
def cg.p (F:Nat) (ai:anh):Option (Bool):=(mkn (wrap .i64 (2 * (ai.length:Int))) false).bind λl2=>(mkn (wrap .i64 (2 * (ai.length:Int))) false).bind λl4=>cg.pl61 F F ai (wrap .i64 (2 * (ai.length:Int))) l2 l4 0
theorem cg.P {aS aC aT ai ac} (b_:aC=ai.length) (h0:Inn H R0 λR=>ROs (af eI (af eI (af eI (af eI eI)))) H R ⟨aS,aC,aT⟩ ai) {r:Bool} (hp:cg.p F ai=some r):Rt (cg.tw F ⟨aS,aC,aT⟩ ac H) (cg.Q H R0 R0  r):=by
 obtain ⟨w0,bK⟩:=h0
 subst b_
 unfold cg.p at hp
 unfold cg.tw cg.twX
 have s0:=w0.rf
 refine bm w0 λH1 w1 s1=>?_
 refine lSl w1 0 ?_
 obtain ⟨l2,e2,hp⟩:=ag hp
 refine uY fD false w1 rfl rfl rfl e2 λH3 k3 w3 s3 c3=>?_
 obtain ⟨l4,e4,hp⟩:=ag hp
 refine uY fD false w3 rfl rfl rfl e4 λH5 k5 w5 s5 c5=>?_
 obtain ⟨w6,s6⟩:=w5.pp [2,1,0] 3
 exact cg.l61_P F rfl rfl rfl ⟨w6,(s0.trans (s1.trans (s3.trans (s5.trans s6)))),(bK.step (s1.trans (s3.trans (s5.trans s6)))),(c3.step (s5.trans s6)),(c5.step s6)⟩ hp
def bE.Q (H0:Hp) (Ri R0:am5)  (r:anA) (v:AV) (H':Hp):Prop:=v=(.tup [(.i r.1),(.i r.2)])/\Out H0 Ri H' (R0) λR=>True
def bE.S13 (H0:Hp) (Ri R0:am5)  (C:anQ) (pC:anU):Prop:=∀ {fL Uw qy sB Kt Gi ph Ku vX},∀ {H:Hp},Gi=vX.length->(Out H0 Ri H (Rs.blk ph [.sl ⟨Kt,Gi,Ku⟩,.i Uw]::R0) λR=>ROs (af eI (af eI (af eI (af eI eI)))) H R ⟨Kt,Gi,Ku⟩ vX)->∀ {r:anA},pC fL sB vX qy=some r->Rt (C fL sB ph 0 qy H) (bE.Q H0 Ri R0  r)
def bE.S213 (H0:Hp) (Ri R0:am5)  (C:Int->Bool->Nat->Nat->Int->Int->Hp->OA) (pC:Int->Bool->List (Int×Int×Int×Int×Int)->Int->Int->Option (Int×Int)):Prop:=∀ {nF Ux lM lN nG Kv Gj qx Kw oq},∀ {H:Hp},Gj=oq.length->(Out H0 Ri H (Rs.blk qx [.sl ⟨Kv,Gj,Kw⟩,.i Ux]::R0) λR=>ROs (af eI (af eI (af eI (af eI eI)))) H R ⟨Kv,Gj,Kw⟩ oq)->∀ {r:anA},pC nF nG oq lM lN=some r->Rt (C nF nG qx 0 lM lN H) (bE.Q H0 Ri R0  r)
def bE.pj3 (F:Nat) (gI:anU) (pg:Int) (xK:Bool) (CD:anh) (xM:Int):Option (Int×Int):=gI pg xK CD (wrap .i64 (xM+1))
theorem bE.j3_P  {C13_:anQ} {gI:anU} (hC13:bE.S13 H0 Ri R0  C13_ gI) {pg uj xM xK Uy Ky oO Uz CD} (aeN:Ky=CD.length) (h0:Out H0 Ri H (Rs.blk oO [.sl ⟨Uy,Ky,Uz⟩,.i uj]::R0) λR=>ROs (af eI (af eI (af eI (af eI eI)))) H R ⟨Uy,Ky,Uz⟩ CD) {r:anA} (hp:bE.pj3 F gI pg xK CD xM=some r):Rt (bE.j3 F (gz.tw F) (gA.tw F) C13_ pg xK oO 0 xM H) (bE.Q H0 Ri R0  r):=by
 obtain ⟨w0,s0,aeO⟩:=h0
 subst aeN
 unfold bE.pj3 at hp
 unfold bE.j3
 exact hC13 rfl ⟨w0,s0,aeO⟩ hp
def bE.pj4 (F:Nat) (gI:anU) (xN:Int) (xO:Bool) (CE:anh) (xP:Int):Option (Int×Int):=bE.pj3 F gI xN xO CE xP
theorem bE.j4_P  {C13_:anQ} {gI:anU} (hC13:bE.S13 H0 Ri R0  C13_ gI) {xN aeP xP xO UA Kz EN UB CE} (aeQ:Kz=CE.length) (h0:Out H0 Ri H (Rs.blk EN [.sl ⟨UA,Kz,UB⟩,.i aeP]::R0) λR=>ROs (af eI (af eI (af eI (af eI eI)))) H R ⟨UA,Kz,UB⟩ CE) {r:anA} (hp:bE.pj4 F gI xN xO CE xP=some r):Rt (bE.j4 F (gz.tw F) (gA.tw F) C13_ xN xO EN 0 xP H) (bE.Q H0 Ri R0  r):=by
 obtain ⟨w0,s0,aeR⟩:=h0
 subst aeQ
 unfold bE.pj4 at hp
 unfold bE.j4
 exact bE.j3_P (@hC13) rfl ⟨w0,s0,aeR⟩ hp
def bE.pl213 (F:Nat) (gI:anU):Nat->Int->Bool->List (Int×Int×Int×Int×Int)->Int->Int->Option (Int×Int)
 | 0,_,_,_,_,_=>none
 | k+1,nF,nG,oq,lM,lN=>(bif (decide (lN<4)) then ((ix oq lM).bind λn1=>(gz.p F ((gt oq n1).1) ((gt oq n1).2.1) ((gt oq n1).2.2.1) ((gt oq n1).2.2.2.1) lN).bind λr2=>(bif (r2==nF) then ((ix oq lM).bind λn4=>(gA.p F ((gt oq n4).2.2.2.2) lN).bind λr5=>(bif (r5==nG) then (some (lM,lN)) else (bE.pl213 F gI k nF nG oq lM (wrap .i64 (lN+1))))) else (bE.pl213 F gI k nF nG oq lM (wrap .i64 (lN+1))))) else (bE.pj4 F gI nF nG oq lM))
theorem bE.l213_P  {C13_:anQ} {gI:anU} (hC13:bE.S13 H0 Ri R0  C13_ gI):∀ k,bE.S213 H0 Ri R0  (bE.l213 F (gz.tw F) (gA.tw F) C13_ k) (bE.pl213 F gI k):=by
 intro k
 induction k with
 | zero=>unfold bE.S213;intros;rename_i hp;cases hp
 | succ k ih=>
  intro nF Ux lM lN nG Kv Gj qx Kw oq H aeS h0 r hp
  obtain ⟨w0,s0,CF⟩:=h0
  subst aeS
  unfold bE.pl213 at hp
  unfold bE.l213
  refine aG hp (λhp=>?_) λhp=>?_
  ·refine lSl w0 0 ?_
   obtain ⟨n1,g1,hp⟩:=ag hp
   obtain ⟨p1,q1,i1,h1,j1⟩:=ROs.ixr CF rfl g1
   refine ak i1 ?_
   obtain ⟨_,_,rfl,rfl,_,_,rfl,rfl,_,_,rfl,rfl,_,_,rfl,rfl,rfl⟩:=h1
   refine ak (bk (j1 0 _ rfl)) ?_
   refine ak (bk (j1 1 _ rfl)) ?_
   refine ak (bk (j1 2 _ rfl)) ?_
   refine ak (bk (j1 3 _ rfl)) ?_
   refine ak (bk (j1 4 _ rfl)) ?_
   obtain ⟨r2,e2,hp⟩:=ag hp
   refine aI (gz.P ⟨w0,trivial⟩ e2) ?_
   rintro _ H3 ⟨rfl,w3,s3,_⟩
   refine br ?_
   refine aG hp (λhp=>?_) λhp=>?_
   ·refine lSl w3 0 ?_
    obtain ⟨n4,g4,hp⟩:=ag hp
    obtain ⟨p4,q4,i4,h4,j4⟩:=ROs.ixr (CF.step s3) rfl g4
    refine ak i4 ?_
    obtain ⟨_,_,rfl,rfl,_,_,rfl,rfl,_,_,rfl,rfl,_,_,rfl,rfl,rfl⟩:=h4
    refine ak (bk (j4 0 _ rfl)) ?_
    refine ak (bk (j4 1 _ rfl)) ?_
    refine ak (bk (j4 2 _ rfl)) ?_
    refine ak (bk (j4 3 _ rfl)) ?_
    refine ak (bk (j4 4 _ rfl)) ?_
    obtain ⟨r5,e5,hp⟩:=ag hp
    refine aI (gA.P ⟨w3,trivial⟩ e5) ?_
    rintro _ H6 ⟨rfl,w6,s6,_⟩
    refine br ?_
    refine aG hp (λhp=>?_) λhp=>?_
    ·obtain ⟨w7,s7⟩:=w6.pp [] 1
     exact aD hp ⟨rfl,w7,(s0.trans (s3.trans (s6.trans s7))),trivial⟩
    ·exact ih rfl ⟨w6,(s0.trans (s3.trans s6)),(CF.step (s3.trans s6))⟩ hp
   ·exact ih rfl ⟨w3,(s0.trans s3),(CF.step s3)⟩ hp
  ·exact bE.j4_P (@hC13) rfl ⟨w0,s0,CF⟩ hp
def bE.pl13 (F:Nat) :Nat->Int->Bool->List (Int×Int×Int×Int×Int)->Int->Option (Int×Int)
 | 0,_,_,_,_=>none
 | k+1,fL,sB,vX,qy=>(bif (decide (qy<(vX.length:Int))) then (bE.pl213 F (bE.pl13 F k) F fL sB vX qy 0) else (some ((-1),(-1))))
theorem bE.l13_P  :∀ k,bE.S13 H0 Ri R0  (bE.l13 F (gz.tw F) (gA.tw F)  k) (bE.pl13 F  k):=by
 intro k
 induction k with
 | zero=>unfold bE.S13;intros;rename_i hp;cases hp
 | succ k ih=>
  intro fL Uw qy sB Kt Gi ph Ku vX H aeT h0 r hp
  obtain ⟨w0,s0,aeU⟩:=h0
  subst aeT
  unfold bE.pl13 at hp
  unfold bE.l13
  refine lSl w0 0 ?_
  refine aG hp (λhp=>?_) λhp=>?_
  ·exact bE.l213_P (@ih) F rfl ⟨w0,s0,aeU⟩ hp
  ·obtain ⟨w1,s1⟩:=w0.pp [] 1
   exact aD hp ⟨rfl,w1,(s0.trans s1),trivial⟩
def bE.p (F:Nat) (ai:anh) (ah:Int) (cH:Bool):Option (Int×Int):=bE.pl13 F F ah cH ai 0
theorem bE.P {aS aC aT ai ac ah cH} (b_:aC=ai.length) (h0:Inn H R0 λR=>ROs (af eI (af eI (af eI (af eI eI)))) H R ⟨aS,aC,aT⟩ ai) {r:anA} (hp:bE.p F ai ah cH=some r):Rt (bE.tw F ⟨aS,aC,aT⟩ ac ah cH H) (bE.Q H R0 R0  r):=by
 obtain ⟨w0,bK⟩:=h0
 subst b_
 unfold bE.p at hp
 unfold bE.tw bE.twX
 have s0:=w0.rf
 refine bm w0 λH1 w1 s1=>?_
 exact bE.l13_P F rfl ⟨w1,(s0.trans s1),(bK.step s1)⟩ hp
def gO.Q (H0:Hp) (Ri R0:am5)  (r:Int) (v:AV) (H':Hp):Prop:=v=(.i r)/\Out H0 Ri H' (R0) λR=>True
def gO.p (F:Nat) (ai:anh) (ah:Int):Option (Int):=(ix ai (wrap .i64 (Int.tdiv ah 4))).bind λn2=>(gz.p F ((gt ai n2).1) ((gt ai n2).2.1) ((gt ai n2).2.2.1) ((gt ai n2).2.2.2.1) (Int.tmod (wrap .i64 ((Int.tmod ah 4)+1)) 4)).bind λr9=>(gA.p F ((gt ai n2).2.2.2.2) (Int.tmod (wrap .i64 ((Int.tmod ah 4)+1)) 4)).bind λr12=>(bE.p F ai r9 (!r12)).bind λr15=>some (wrap .i64 ((wrap .i64 (4 * r15.1))+r15.2))
theorem gO.P {aS aC aT ai ac ah} (b_:aC=ai.length) (h0:Inn H R0 λR=>ROs (af eI (af eI (af eI (af eI eI)))) H R ⟨aS,aC,aT⟩ ai) {r:Int} (hp:gO.p F ai ah=some r):Rt (gO.tw F ⟨aS,aC,aT⟩ ac ah H) (gO.Q H R0 R0  r):=by
 obtain ⟨w0,bK⟩:=h0
 subst b_
 unfold gO.p at hp
 unfold gO.tw gO.twX
 have s0:=w0.rf
 refine bm w0 λH1 w1 s1=>?_
 refine lSl w1 0 ?_
 obtain ⟨n2,g2,hp⟩:=ag hp
 obtain ⟨p2,q2,i2,h2,j2⟩:=ROs.ixr (bK.step s1) rfl g2
 refine ak i2 ?_
 obtain ⟨_,_,rfl,rfl,_,_,rfl,rfl,_,_,rfl,rfl,_,_,rfl,rfl,rfl⟩:=h2
 refine ak (bk (j2 0 _ rfl)) ?_
 refine ak (bk (j2 1 _ rfl)) ?_
 refine ak (bk (j2 2 _ rfl)) ?_
 refine ak (bk (j2 3 _ rfl)) ?_
 refine ak (bk (j2 4 _ rfl)) ?_
 refine bm w1 λH3 w3 s3=>?_
 refine aE w3 0 λH4 w4 s4=>?_
 refine aE w4 0 λH5 w5 s5=>?_
 refine aE w5 0 λH6 w6 s6=>?_
 refine aE w6 0 λH7 w7 s7=>?_
 refine aE w7 0 λH8 w8 s8=>?_
 refine lSl w8 1 ?_
 refine lI w8 1 ?_
 refine lI w8 0 ?_
 refine lI w8 0 ?_
 refine lI w8 0 ?_
 refine lI w8 0 ?_
 refine lI w8 0 ?_
 obtain ⟨r9,e9,hp⟩:=ag hp
 refine aI (gz.P ⟨w8,trivial⟩ e9) ?_
 rintro _ H10 ⟨rfl,w10,s10,_⟩
 refine br ?_
 refine fg (W.cons_of (Rn:=[]) w8 w10 s10) ?_
 refine lI w10 0 ?_
 refine lI w10 0 ?_
 refine lI w10 0 ?_
 refine lI w10 0 ?_
 refine lI w10 0 ?_
 obtain ⟨r12,e12,hp⟩:=ag hp
 refine aI (gA.P ⟨w10,trivial⟩ e12) ?_
 rintro _ H13 ⟨rfl,w13,s13,_⟩
 refine br ?_
 refine fg (W.cons_of (Rn:=[]) w10 w13 s13) ?_
 obtain ⟨r15,e15,hp⟩:=ag hp
 refine aI (bE.P rfl ⟨w13,(bK.step (s1.trans (s3.trans (s4.trans (s5.trans (s6.trans (s7.trans (s8.trans (s10.trans s13)))))))))⟩ e15) ?_
 rintro _ H16 ⟨rfl,w16,s16,_⟩
 refine br (br (br (br (br ?_))))
 obtain ⟨w17,s17⟩:=w16.pp [] 2
 exact aD hp ⟨rfl,w17,(s0.trans (s1.trans (s3.trans (s4.trans (s5.trans (s6.trans (s7.trans (s8.trans (s10.trans (s13.trans (s16.trans s17))))))))))),trivial⟩
def bI.Q (H0:Hp) (Ri R0:am5)  (r:anp) (v:AV) (H':Hp):Prop:=∃ o0a:ON,∃ o0n:Nat,∃ o0c:Cap,∃ o0k:List AV,v=(.sl ⟨o0a,o0n,o0c⟩)/\o0n=(r).length/\Out H0 Ri H' (Rs.own ⟨o0a,o0n,o0c⟩ (eSl eI).z o0k::R0) λR=>CR (eSl eI) H' R o0k (r)
def bI.S61 (H0:Hp) (Ri R0:am5)  (C:anC) (pC:anG):Prop:=∀ {vM KA vN s_ lL Gk ta vO KB vP iV CA kL uk KC vR mT},∀ {H:Hp},s_=iV.length->Gk=uk.length->ta=mT.length->(Out H0 Ri H (Rs.blk lL [.sl ⟨vM,s_,vO⟩,.i CA]::Rs.own ⟨KA,Gk,KB⟩ (eSl eI).z KC::Rs.own ⟨vN,ta,vP⟩ fD.z vR::R0) λR=>ROs (af eI (af eI (af eI (af eI eI)))) H R ⟨vM,s_,vO⟩ iV/\CR (eSl eI) H R KC uk/\CR fD H R vR mT)->∀ {r:anp},pC iV uk mT kL=some r->Rt (C lL 0 ⟨KA,Gk,KB⟩ ⟨vN,ta,vP⟩ kL H) (bI.Q H0 Ri R0  r)
def bI.pj4 (F:Nat) (bS:anG) (CG:anh) (CH:anp) (CI:an5) (lO:Int):Option (List (List Int)):=bS CG CH CI (wrap .i64 (lO+1))
theorem bI.j4_P  {C61_:anC} {bS:anG} (hC61:bI.S61 H0 Ri R0  C61_ bS) {UC UD UE KD EP KE KF UG UH UI CG aeV lO CH UJ UK CI} (aeW:KD=CG.length) (aeX:KE=CH.length) (aeY:KF=CI.length) (h0:Out H0 Ri H (Rs.blk EP [.sl ⟨UC,KD,UG⟩,.i aeV]::Rs.own ⟨UD,KE,UH⟩ (eSl eI).z UJ::Rs.own ⟨UE,KF,UI⟩ fD.z UK::R0) λR=>ROs (af eI (af eI (af eI (af eI eI)))) H R ⟨UC,KD,UG⟩ CG/\CR (eSl eI) H R UJ CH/\CR fD H R UK CI) {r:anp} (hp:bI.pj4 F bS CG CH CI lO=some r):Rt (bI.j4 F (gO.tw F) C61_ EP 0 ⟨UD,KE,UH⟩ ⟨UE,KF,UI⟩ lO H) (bI.Q H0 Ri R0  r):=by
 obtain ⟨w0,s0,aeZ,ae0,ae1⟩:=h0
 subst aeW
 subst aeX
 subst aeY
 unfold bI.pj4 at hp
 unfold bI.j4
 exact hC61 rfl rfl rfl ⟨w0,s0,aeZ,ae0,ae1⟩ hp
def bI.S7853 (H0:Hp) (Ri R0:am5)  (C:Nat->Nat->Sl->Sl->Int->Sl->Int->Hp->OA) (pC:List (Int×Int×Int×Int×Int)->List (List Int)->List Bool->Int->List Int->Int->Option (List (List Int))):Prop:=∀ {KG KH KI KJ Gl rR Gm Gn Gp KK KL KM KN ul UL qz m_ vY KO KP KQ sb vZ},∀ {H:Hp},Gl=ul.length->Gm=vY.length->Gn=sb.length->Gp=vZ.length->(Out H0 Ri H (Rs.blk rR [.sl ⟨KG,Gl,KK⟩,.i UL]::Rs.own ⟨KH,Gm,KL⟩ (eSl eI).z KO::Rs.own ⟨KI,Gn,KM⟩ fD.z KP::Rs.own ⟨KJ,Gp,KN⟩ eI.z KQ::R0) λR=>ROs (af eI (af eI (af eI (af eI eI)))) H R ⟨KG,Gl,KK⟩ ul/\CR (eSl eI) H R KO vY/\CR fD H R KP sb/\CR eI H R KQ vZ)->∀ {r:anp},pC ul vY sb qz vZ m_=some r->Rt (C rR 0 ⟨KH,Gm,KL⟩ ⟨KI,Gn,KM⟩ qz ⟨KJ,Gp,KN⟩ m_ H) (bI.Q H0 Ri R0  r)
def bI.pj5 (F:Nat) (bS:anG) (CJ:anh) (CK:anp) (CL:an5) (xQ:Int):Option (List (List Int)):=bS CJ CK CL (wrap .i64 (xQ+1))
theorem bI.j5_P  {C61_:anC} {bS:anG} (hC61:bI.S61 H0 Ri R0  C61_ bS) {UM UN UO KR EQ KS KT UP UQ UR CJ ae2 xQ CK US UT CL} (ae3:KR=CJ.length) (ae4:KS=CK.length) (ae5:KT=CL.length) (h0:Out H0 Ri H (Rs.blk EQ [.sl ⟨UM,KR,UP⟩,.i ae2]::Rs.own ⟨UN,KS,UQ⟩ (eSl eI).z US::Rs.own ⟨UO,KT,UR⟩ fD.z UT::R0) λR=>ROs (af eI (af eI (af eI (af eI eI)))) H R ⟨UM,KR,UP⟩ CJ/\CR (eSl eI) H R US CK/\CR fD H R UT CL) {r:anp} (hp:bI.pj5 F bS CJ CK CL xQ=some r):Rt (bI.j5 F (gO.tw F) C61_ EQ 0 ⟨UN,KS,UQ⟩ ⟨UO,KT,UR⟩ xQ H) (bI.Q H0 Ri R0  r):=by
 obtain ⟨w0,s0,ae6,ae7,ae8⟩:=h0
 subst ae3
 subst ae4
 subst ae5
 unfold bI.pj5 at hp
 unfold bI.j5
 exact hC61 rfl rfl rfl ⟨w0,s0,ae6,ae7,ae8⟩ hp
def bI.pj6 (F:Nat) (bS:anG) (CN:anh) (CO:anp) (CP:an5) (xS:Int) (v_:am3):Option (List (List Int)):=(apn CO ([v_]:List (List Int))).bind λl3=>bI.pj5 F bS CN l3 CP xS
theorem bI.j6_P  {C61_:anC} {bS:anG} (hC61:bI.S61 H0 Ri R0  C61_ bS) {UU UV UW UX KU ER KV KW KX UY UZ U_ Va CN ae9 xS CO Vb Vc Vd CP v_} (ae_:KU=CN.length) (afa:KV=CO.length) (afb:KW=CP.length) (afc:KX=v_.length) (h0:Out H0 Ri H (Rs.blk ER [.sl ⟨UU,KU,UY⟩,.i ae9]::Rs.own ⟨UV,KV,UZ⟩ (eSl eI).z Vb::Rs.own ⟨UW,KW,U_⟩ fD.z Vc::Rs.own ⟨UX,KX,Va⟩ eI.z Vd::R0) λR=>ROs (af eI (af eI (af eI (af eI eI)))) H R ⟨UU,KU,UY⟩ CN/\CR (eSl eI) H R Vb CO/\CR fD H R Vc CP/\CR eI H R Vd v_) {r:anp} (hp:bI.pj6 F bS CN CO CP xS v_=some r):Rt (bI.j6 F (gO.tw F) C61_ ER 0 ⟨UV,KV,UZ⟩ ⟨UW,KW,U_⟩ xS ⟨UX,KX,Va⟩ H) (bI.Q H0 Ri R0  r):=by
 obtain ⟨w0,s0,afd,afe,aff,afg⟩:=h0
 subst ae_
 subst afa
 subst afb
 subst afc
 unfold bI.pj6 at hp
 unfold bI.j6
 obtain ⟨w1,s1,f1⟩:=w0.frz (i:=3) eI rfl afg
 refine jJ (eSl eI) w1 (n:=1) (l:=([v_]:List (List Int))) rfl (CR.cons1 ⟨_,rfl,f1⟩ CR.empty) rfl λH2 w2 s2 c2=>?_
 refine ak (w2.rowo (i:=0) rfl) ?_
 obtain ⟨l3,e3,hp⟩:=ag hp
 refine pe (eSl eI) w2 (i:=2) rfl rfl (afe.step (s1.trans s2)) c2 (show 1=List.length ([v_]:List (List Int)) from rfl) rfl e3 λa4 d4 H4 w4 s4 c4 x4=>?_
 obtain ⟨w5,s5⟩:=w4.pp [1,2,3] 4
 exact bI.j5_P (@hC61) rfl rfl rfl ⟨w5,(s0.trans (s1.trans (s2.trans (s4.trans s5)))),(afd.step (s1.trans (s2.trans (s4.trans s5)))),(c4.step s5),(aff.step (s1.trans (s2.trans (s4.trans s5))))⟩ hp
def bI.pl7853 (F:Nat) (bS:anG):Nat->List (Int×Int×Int×Int×Int)->List (List Int)->List Bool->Int->List Int->Int->Option (List (List Int))
 | 0,_,_,_,_,_,_=>none
 | k+1,ul,vY,sb,qz,vZ,m_=>(ix sb m_).bind λn1=>(bif (!(gt sb n1)) then ((ix sb m_).bind λn2=>(some (sb.set n2 true)).bind λl3=>(apn vZ ([m_]:List Int)).bind λl6=>(gO.p F ul m_).bind λr8=>bI.pl7853 F bS k ul vY l3 qz l6 r8) else (bI.pj6 F bS ul vY sb qz vZ))
theorem bI.l7853_P  {C61_:anC} {bS:anG} (hC61:bI.S61 H0 Ri R0  C61_ bS):∀ k,bI.S7853 H0 Ri R0  (bI.l7853 F (gO.tw F) C61_ k) (bI.pl7853 F bS k):=by
 intro k
 induction k with
 | zero=>unfold bI.S7853;intros;rename_i hp;cases hp
 | succ k ih=>
  intro KG KH KI KJ Gl rR Gm Gn Gp KK KL KM KN ul UL qz m_ vY KO KP KQ sb vZ H afh afi afj afk h0 r hp
  obtain ⟨w0,s0,KY,Ve,Gq,Vf⟩:=h0
  subst afh
  subst afi
  subst afj
  subst afk
  unfold bI.pl7853 at hp
  unfold bI.l7853
  obtain ⟨n1,g1,hp⟩:=ag hp
  obtain ⟨p1,q1,i1,h1,j1⟩:=W.ixo (E:=fD) w0 (i:=2) rfl rfl Gq g1
  refine ak i1 ?_
  have h1:_=[_]:=h1
  subst h1
  refine ak (BT (j1 0 _ rfl)) ?_
  refine aG hp (λhp=>?_) λhp=>?_
  ·obtain ⟨n2,g2,hp⟩:=ag hp
   obtain ⟨p2,q2,i2,h2,j2⟩:=W.ixo (E:=fD) w0 (i:=2) rfl rfl Gq g2
   refine ak i2 ?_
   obtain ⟨l3,e3,hp⟩:=ag hp
   refine fc fD w0 (i:=2) (j:=0) (p:=p2) rfl rfl Gq g2 i2 e3 rfl rfl (λ_ h=>by have h:_=[_]:=h;subst h;exact rfl) λH4 k4 w4 s4 c4=>?_
   refine jJ eI w4 (n:=1) (l:=([m_]:List Int)) rfl (CR.cons1 rfl CR.empty) rfl λH5 w5 s5 c5=>?_
   refine ak (w5.rowo (i:=0) rfl) ?_
   obtain ⟨l6,e6,hp⟩:=ag hp
   refine pe eI w5 (i:=4) rfl rfl (Vf.step (s4.trans s5)) c5 (show 1=List.length ([m_]:List Int) from rfl) rfl e6 λa7 d7 H7 w7 s7 c7 x7=>?_
   refine lSl w7 1 ?_
   refine lI w7 1 ?_
   obtain ⟨r8,e8,hp⟩:=ag hp
   refine aI (gO.P rfl ⟨w7,(KY.step (s4.trans (s5.trans s7)))⟩ e8) ?_
   rintro _ H9 ⟨rfl,w9,s9,_⟩
   refine br ?_
   obtain ⟨w10,s10⟩:=w9.pp [1,2,3,4] 5
   exact ih rfl rfl ((dl e3).symm) rfl ⟨w10,(s0.trans (s4.trans (s5.trans (s7.trans (s9.trans s10))))),(KY.step (s4.trans (s5.trans (s7.trans (s9.trans s10))))),(Ve.step (s4.trans (s5.trans (s7.trans (s9.trans s10))))),(c4.step (s5.trans (s7.trans (s9.trans s10)))),(c7.step (s9.trans s10))⟩ hp
  ·exact bI.j6_P (@hC61) rfl rfl rfl rfl ⟨w0,s0,KY,Ve,Gq,Vf⟩ hp
def bI.pl61 (F:Nat) :Nat->List (Int×Int×Int×Int×Int)->List (List Int)->List Bool->Int->Option (List (List Int))
 | 0,_,_,_,_=>none
 | k+1,iV,uk,mT,kL=>(bif (decide (kL<(mT.length:Int))) then ((ix mT kL).bind λn1=>(bif (gt mT n1) then (bI.pj4 F (bI.pl61 F k) iV uk mT kL) else (bI.pl7853 F (bI.pl61 F k) F iV uk mT kL ([]:List Int) kL))) else (some uk))
theorem bI.l61_P  :∀ k,bI.S61 H0 Ri R0  (bI.l61 F (gO.tw F)  k) (bI.pl61 F  k):=by
 intro k
 induction k with
 | zero=>unfold bI.S61;intros;rename_i hp;cases hp
 | succ k ih=>
  intro vM KA vN s_ lL Gk ta vO KB vP iV CA kL uk KC vR mT H Kq afl Ks h0 r hp
  obtain ⟨w0,s0,AR,KZ,AS⟩:=h0
  subst Kq
  subst afl
  subst Ks
  unfold bI.pl61 at hp
  unfold bI.l61
  refine aG hp (λhp=>?_) λhp=>?_
  ·obtain ⟨n1,g1,hp⟩:=ag hp
   obtain ⟨p1,q1,i1,h1,j1⟩:=W.ixo (E:=fD) w0 (i:=2) rfl rfl AS g1
   refine ak i1 ?_
   have h1:_=[_]:=h1
   subst h1
   refine ak (BT (j1 0 _ rfl)) ?_
   refine aG hp (λhp=>?_) λhp=>?_
   ·exact bI.j4_P (@ih) rfl rfl rfl ⟨w0,s0,AR,KZ,AS⟩ hp
   ·refine jJ eI w0 (n:=0) (l:=([]:List Int)) rfl CR.empty rfl λH2 w2 s2 c2=>?_
    obtain ⟨w3,s3⟩:=w2.pp [1,2,3,0] 4
    exact bI.l7853_P (@ih) F rfl rfl rfl (show 0=List.length ([]:List Int) from rfl) ⟨w3,(s0.trans (s2.trans s3)),(AR.step (s2.trans s3)),(KZ.step (s2.trans s3)),(AS.step (s2.trans s3)),(c2.step s3)⟩ hp
  ·obtain ⟨w4,s4⟩:=w0.pp [1] 3
   exact aD hp ⟨_,_,_,_,rfl,rfl,w4,(s0.trans s4),(KZ.step s4)⟩
def bI.p (F:Nat) (ai:anh):Option (List (List Int)):=(mkn (wrap .i64 (4 * (ai.length:Int))) false).bind λl3=>bI.pl61 F F ai ([]:List (List Int)) l3 0
theorem bI.P {aS aC aT ai ac} (b_:aC=ai.length) (h0:Inn H R0 λR=>ROs (af eI (af eI (af eI (af eI eI)))) H R ⟨aS,aC,aT⟩ ai) {r:anp} (hp:bI.p F ai=some r):Rt (bI.tw F ⟨aS,aC,aT⟩ ac H) (bI.Q H R0 R0  r):=by
 obtain ⟨w0,bK⟩:=h0
 subst b_
 unfold bI.p at hp
 unfold bI.tw bI.twX
 have s0:=w0.rf
 refine bm w0 λH1 w1 s1=>?_
 refine jJ (eSl eI) w1 (n:=0) (l:=([]:List (List Int))) rfl CR.empty rfl λH2 w2 s2 c2=>?_
 refine lSl w2 1 ?_
 obtain ⟨l3,e3,hp⟩:=ag hp
 refine uY fD false w2 rfl rfl rfl e3 λH4 k4 w4 s4 c4=>?_
 obtain ⟨w5,s5⟩:=w4.pp [2,1,0] 3
 exact bI.l61_P F rfl (show 0=List.length ([]:List (List Int)) from rfl) rfl ⟨w5,(s0.trans (s1.trans (s2.trans (s4.trans s5)))),(bK.step (s1.trans (s2.trans (s4.trans s5)))),(c2.step (s4.trans s5)),(c4.step s5)⟩ hp
def a_.Q (H0:Hp) (Ri R0:am5)  (r:am3) (v:AV) (H':Hp):Prop:=∃ o0a:ON,∃ o0n:Nat,∃ o0c:Cap,∃ o0k:List AV,v=(.sl ⟨o0a,o0n,o0c⟩)/\o0n=(r).length/\Out H0 Ri H' (Rs.own ⟨o0a,o0n,o0c⟩ eI.z o0k::R0) λR=>CR eI H' R o0k (r)
def a_.S29 (H0:Hp) (Ri R0:am5)  (C:ant) (pC:anM):Prop:=∀ {wa K_ tc lR Gr wb La nq td lq wc Lb},∀ {H:Hp},tc=nq.length->Gr=wc.length->(Out H0 Ri H (Rs.blk lR [.sl ⟨wa,tc,wb⟩,.i td]::Rs.own ⟨K_,Gr,La⟩ eI.z Lb::R0) λR=>ROs (af eI (af eI (af eI (af eI eI)))) H R ⟨wa,tc,wb⟩ nq/\CR eI H R Lb wc)->∀ {r:am3},pC nq wc lq=some r->Rt (C lR 0 ⟨K_,Gr,La⟩ lq H) (a_.Q H0 Ri R0  r)
def a_.S61 (H0:Hp) (Ri R0:am5)  (C:ant) (pC:anM):Prop:=∀ {wd Lc te kV Gs wg Ld lz CQ hU ry Le},∀ {H:Hp},te=lz.length->Gs=ry.length->(Out H0 Ri H (Rs.blk kV [.sl ⟨wd,te,wg⟩,.i CQ]::Rs.own ⟨Lc,Gs,Ld⟩ eI.z Le::R0) λR=>ROs (af eI (af eI (af eI (af eI eI)))) H R ⟨wd,te,wg⟩ lz/\CR eI H R Le ry)->∀ {r:am3},pC lz ry hU=some r->Rt (C kV 0 ⟨Lc,Gs,Ld⟩ hU H) (a_.Q H0 Ri R0  r)
def a_.S7855 (H0:Hp) (Ri R0:am5)  (C:an2) (pC:aov):Prop:=∀ {Lf Lg Gt sC Gu Lh Li um Vg pi lP lQ na qh Lj},∀ {H:Hp},Gt=um.length->Gu=qh.length->(Out H0 Ri H (Rs.blk sC [.sl ⟨Lf,Gt,Lh⟩,.i Vg]::Rs.own ⟨Lg,Gu,Li⟩ eI.z Lj::R0) λR=>ROs (af eI (af eI (af eI (af eI eI)))) H R ⟨Lf,Gt,Lh⟩ um/\CR eI H R Lj qh)->∀ {r:am3},pC um qh pi lP lQ na=some r->Rt (C sC 0 ⟨Lg,Gu,Li⟩ pi lP lQ na H) (a_.Q H0 Ri R0  r)
def a_.pj8 (F:Nat) (Gv:aov) (CS:anh) (CT:am3) (xX:Int) (xY:Int) (xZ:Int) (x_:Int):Option (List Int):=Gv CS CT xX xY xZ (wrap .i64 (x_+1))
theorem a_.j8_P  {C7855_:an2} {Gv:aov} (hC7855:a_.S7855 H0 Ri R0  C7855_ Gv) {Vh Vi Lk EV Ll Vj Vk CS afm xX xY xZ x_ CT Vl} (afn:Lk=CS.length) (afo:Ll=CT.length) (h0:Out H0 Ri H (Rs.blk EV [.sl ⟨Vh,Lk,Vj⟩,.i afm]::Rs.own ⟨Vi,Ll,Vk⟩ eI.z Vl::R0) λR=>ROs (af eI (af eI (af eI (af eI eI)))) H R ⟨Vh,Lk,Vj⟩ CS/\CR eI H R Vl CT) {r:am3} (hp:a_.pj8 F Gv CS CT xX xY xZ x_=some r):Rt (a_.j8 F (bE.tw F) C7855_ EV 0 ⟨Vi,Ll,Vk⟩ xX xY xZ x_ H) (a_.Q H0 Ri R0  r):=by
 obtain ⟨w0,s0,afp,afq⟩:=h0
 subst afn
 subst afo
 unfold a_.pj8 at hp
 unfold a_.j8
 exact hC7855 rfl rfl ⟨w0,s0,afp,afq⟩ hp
def a_.pj6 (F:Nat) (bS:anM) (CU:anh) (CV:am3) (xV:Int):Option (List Int):=bS CU CV (wrap .i64 (xV+1))
theorem a_.j6_P  {C61_:ant} {bS:anM} (hC61:a_.S61 H0 Ri R0  C61_ bS) {Vm Vn Lm ET Ln Vo Vp CU afr xV CV Vq} (afs:Lm=CU.length) (aft:Ln=CV.length) (h0:Out H0 Ri H (Rs.blk ET [.sl ⟨Vm,Lm,Vo⟩,.i afr]::Rs.own ⟨Vn,Ln,Vp⟩ eI.z Vq::R0) λR=>ROs (af eI (af eI (af eI (af eI eI)))) H R ⟨Vm,Lm,Vo⟩ CU/\CR eI H R Vq CV) {r:am3} (hp:a_.pj6 F bS CU CV xV=some r):Rt (a_.j6 F (bE.tw F) C61_ ET 0 ⟨Vn,Ln,Vp⟩ xV H) (a_.Q H0 Ri R0  r):=by
 obtain ⟨w0,s0,afu,afv⟩:=h0
 subst afs
 subst aft
 unfold a_.pj6 at hp
 unfold a_.j6
 exact hC61 rfl rfl ⟨w0,s0,afu,afv⟩ hp
def a_.pj7 (F:Nat) (bS:anM) (CW:anh) (CX:am3) (tM:Int):Option (List Int):=a_.pj6 F bS CW CX tM
theorem a_.j7_P  {C61_:ant} {bS:anM} (hC61:a_.S61 H0 Ri R0  C61_ bS) {Vr Vs Lo EU Lp Vt Vu CW afw tM CX Vv} (afx:Lo=CW.length) (afy:Lp=CX.length) (h0:Out H0 Ri H (Rs.blk EU [.sl ⟨Vr,Lo,Vt⟩,.i afw]::Rs.own ⟨Vs,Lp,Vu⟩ eI.z Vv::R0) λR=>ROs (af eI (af eI (af eI (af eI eI)))) H R ⟨Vr,Lo,Vt⟩ CW/\CR eI H R Vv CX) {r:am3} (hp:a_.pj7 F bS CW CX tM=some r):Rt (a_.j7 F (bE.tw F) C61_ EU 0 ⟨Vs,Lp,Vu⟩ tM H) (a_.Q H0 Ri R0  r):=by
 obtain ⟨w0,s0,afz,afA⟩:=h0
 subst afx
 subst afy
 unfold a_.pj7 at hp
 unfold a_.j7
 exact a_.j6_P (@hC61) rfl rfl ⟨w0,s0,afz,afA⟩ hp
def a_.pl7855 (F:Nat) (bS:anM):Nat->List (Int×Int×Int×Int×Int)->List Int->Int->Int->Int->Int->Option (List Int)
 | 0,_,_,_,_,_,_=>none
 | k+1,um,qh,pi,lP,lQ,na=>(bif (decide (na<(qh.length:Int))) then ((ix qh na).bind λn1=>(bif ((gt qh n1)==(if lQ>lP then lQ else lP)) then ((ix qh na).bind λn2=>(some (qh.set n2 (if lQ<lP then lQ else lP))).bind λl3=>a_.pj8 F (a_.pl7855 F bS k) um l3 pi lP lQ na) else (a_.pj8 F (a_.pl7855 F bS k) um qh pi lP lQ na))) else (a_.pj7 F bS um qh pi))
theorem a_.l7855_P  {C61_:ant} {bS:anM} (hC61:a_.S61 H0 Ri R0  C61_ bS):∀ k,a_.S7855 H0 Ri R0  (a_.l7855 F (bE.tw F) C61_ k) (a_.pl7855 F bS k):=by
 intro k
 induction k with
 | zero=>unfold a_.S7855;intros;rename_i hp;cases hp
 | succ k ih=>
  intro Lf Lg Gt sC Gu Lh Li um Vg pi lP lQ na qh Lj H afB afC h0 r hp
  obtain ⟨w0,s0,Lq,CY⟩:=h0
  subst afB
  subst afC
  unfold a_.pl7855 at hp
  unfold a_.l7855
  refine aG hp (λhp=>?_) λhp=>?_
  ·obtain ⟨n1,g1,hp⟩:=ag hp
   obtain ⟨p1,q1,i1,h1,j1⟩:=W.ixo (E:=eI) w0 (i:=1) rfl rfl CY g1
   refine ak i1 ?_
   have h1:_=[_]:=h1
   subst h1
   refine ak (bk (j1 0 _ rfl)) ?_
   refine aG hp (λhp=>?_) λhp=>?_
   ·obtain ⟨n2,g2,hp⟩:=ag hp
    obtain ⟨p2,q2,i2,h2,j2⟩:=W.ixo (E:=eI) w0 (i:=1) rfl rfl CY g2
    refine ak i2 ?_
    obtain ⟨l3,e3,hp⟩:=ag hp
    refine fc eI w0 (i:=1) (j:=0) (p:=p2) rfl rfl CY g2 i2 e3 rfl rfl (λ_ h=>by have h:_=[_]:=h;subst h;exact rfl) λH4 k4 w4 s4 c4=>?_
    exact a_.j8_P (@ih) rfl ((dl e3).symm) ⟨w4,(s0.trans s4),(Lq.step s4),c4⟩ hp
   ·exact a_.j8_P (@ih) rfl rfl ⟨w0,s0,Lq,CY⟩ hp
  ·exact a_.j7_P (@hC61) rfl rfl ⟨w0,s0,Lq,CY⟩ hp
def a_.pl61 (F:Nat) :Nat->List (Int×Int×Int×Int×Int)->List Int->Int->Option (List Int)
 | 0,_,_,_=>none
 | k+1,lz,ry,hU=>(bif (decide (hU<(wrap .i64 (2 * (lz.length:Int))))) then ((bE.p F lz hU true).bind λr1=>(bE.p F lz hU false).bind λr3=>(ix ry r1.1).bind λn5=>(ix ry r3.1).bind λn6=>a_.pl7855 F (a_.pl61 F k) F lz ry hU (gt ry n5) (gt ry n6) 0) else (some ry))
theorem a_.l61_P  :∀ k,a_.S61 H0 Ri R0  (a_.l61 F (bE.tw F)  k) (a_.pl61 F  k):=by
 intro k
 induction k with
 | zero=>unfold a_.S61;intros;rename_i hp;cases hp
 | succ k ih=>
  intro wd Lc te kV Gs wg Ld lz CQ hU ry Le H Lr afD h0 r hp
  obtain ⟨w0,s0,AT,Gw⟩:=h0
  subst Lr
  subst afD
  unfold a_.pl61 at hp
  unfold a_.l61
  refine lSl w0 0 ?_
  refine aG hp (λhp=>?_) λhp=>?_
  ·refine lSl w0 0 ?_
   refine lI w0 0 ?_
   obtain ⟨r1,e1,hp⟩:=ag hp
   refine aI (bE.P rfl ⟨w0,AT⟩ e1) ?_
   rintro _ H2 ⟨rfl,w2,s2,_⟩
   refine br (br (br (br (br ?_))))
   refine lSl w2 0 ?_
   refine lI w2 0 ?_
   obtain ⟨r3,e3,hp⟩:=ag hp
   refine aI (bE.P rfl ⟨w2,(AT.step s2)⟩ e3) ?_
   rintro _ H4 ⟨rfl,w4,s4,_⟩
   refine br (br (br (br (br ?_))))
   obtain ⟨n5,g5,hp⟩:=ag hp
   obtain ⟨p5,q5,i5,h5,j5⟩:=W.ixo (E:=eI) w4 (i:=1) rfl rfl (Gw.step (s2.trans s4)) g5
   refine ak i5 ?_
   have h5:_=[_]:=h5
   subst h5
   refine ak (bk (j5 0 _ rfl)) ?_
   obtain ⟨n6,g6,hp⟩:=ag hp
   obtain ⟨p6,q6,i6,h6,j6⟩:=W.ixo (E:=eI) w4 (i:=1) rfl rfl (Gw.step (s2.trans s4)) g6
   refine ak i6 ?_
   have h6:_=[_]:=h6
   subst h6
   refine ak (bk (j6 0 _ rfl)) ?_
   exact a_.l7855_P (@ih) F rfl rfl ⟨w4,(s0.trans (s2.trans s4)),(AT.step (s2.trans s4)),(Gw.step (s2.trans s4))⟩ hp
  ·obtain ⟨w7,s7⟩:=w0.pp [1] 2
   exact aD hp ⟨_,_,_,_,rfl,rfl,w7,(s0.trans s7),(Gw.step s7)⟩
def a_.pj9 (F:Nat)  (CZ:anh) (C_:am3):Option (List Int):=a_.pl61 F F CZ C_ 0
theorem a_.j9_P   {Vw Vx Lt EW Lu Vy Vz CZ afE C_ VA} (afF:Lt=CZ.length) (afG:Lu=C_.length) (h0:Out H0 Ri H (Rs.blk EW [.sl ⟨Vw,Lt,Vy⟩,.i afE]::Rs.own ⟨Vx,Lu,Vz⟩ eI.z VA::R0) λR=>ROs (af eI (af eI (af eI (af eI eI)))) H R ⟨Vw,Lt,Vy⟩ CZ/\CR eI H R VA C_) {r:am3} (hp:a_.pj9 F  CZ C_=some r):Rt (a_.j9 F (bE.tw F)  EW 0 ⟨Vx,Lu,Vz⟩ H) (a_.Q H0 Ri R0  r):=by
 obtain ⟨w0,s0,afH,afI⟩:=h0
 subst afF
 subst afG
 unfold a_.pj9 at hp
 unfold a_.j9
 exact a_.l61_P F rfl rfl ⟨w0,s0,afH,afI⟩ hp
def a_.pl29 (F:Nat) :Nat->List (Int×Int×Int×Int×Int)->List Int->Int->Option (List Int)
 | 0,_,_,_=>none
 | k+1,nq,wc,lq=>(bif (decide (lq<(nq.length:Int))) then ((apn wc ([lq]:List Int)).bind λl2=>a_.pl29 F k nq l2 (wrap .i64 (lq+1))) else (a_.pj9 F nq wc))
theorem a_.l29_P  :∀ k,a_.S29 H0 Ri R0  (a_.l29 F (bE.tw F)  k) (a_.pl29 F  k):=by
 intro k
 induction k with
 | zero=>unfold a_.S29;intros;rename_i hp;cases hp
 | succ k ih=>
  intro wa K_ tc lR Gr wb La nq td lq wc Lb H Lv afJ h0 r hp
  obtain ⟨w0,s0,Da,VB⟩:=h0
  subst Lv
  subst afJ
  unfold a_.pl29 at hp
  unfold a_.l29
  refine lSl w0 0 ?_
  refine aG hp (λhp=>?_) λhp=>?_
  ·refine jJ eI w0 (n:=1) (l:=([lq]:List Int)) rfl (CR.cons1 rfl CR.empty) rfl λH1 w1 s1 c1=>?_
   refine ak (w1.rowo (i:=0) rfl) ?_
   obtain ⟨l2,e2,hp⟩:=ag hp
   refine pe eI w1 (i:=2) rfl rfl (VB.step s1) c1 (show 1=List.length ([lq]:List Int) from rfl) rfl e2 λa3 d3 H3 w3 s3 c3 x3=>?_
   obtain ⟨w4,s4⟩:=w3.pp [1,2] 3
   exact ih rfl rfl ⟨w4,(s0.trans (s1.trans (s3.trans s4))),(Da.step (s1.trans (s3.trans s4))),(c3.step s4)⟩ hp
  ·exact a_.j9_P rfl rfl ⟨w0,s0,Da,VB⟩ hp
def a_.p (F:Nat) (ai:anh):Option (List Int):=a_.pl29 F F ai ([]:List Int) 0
theorem a_.P {aS aC aT ai ac} (b_:aC=ai.length) (h0:Inn H R0 λR=>ROs (af eI (af eI (af eI (af eI eI)))) H R ⟨aS,aC,aT⟩ ai) {r:am3} (hp:a_.p F ai=some r):Rt (a_.tw F ⟨aS,aC,aT⟩ ac H) (a_.Q H R0 R0  r):=by
 obtain ⟨w0,bK⟩:=h0
 subst b_
 unfold a_.p at hp
 unfold a_.tw a_.twX
 have s0:=w0.rf
 refine bm w0 λH1 w1 s1=>?_
 refine jJ eI w1 (n:=0) (l:=([]:List Int)) rfl CR.empty rfl λH2 w2 s2 c2=>?_
 obtain ⟨w3,s3⟩:=w2.pp [1,0] 2
 exact a_.l29_P F rfl (show 0=List.length ([]:List Int) from rfl) ⟨w3,(s0.trans (s1.trans (s2.trans s3))),(bK.step (s1.trans (s2.trans s3))),(c2.step s3)⟩ hp
def dv.Q (H0:Hp) (Ri R0:am5)  (r:Int) (v:AV) (H':Hp):Prop:=v=(.i r)/\Out H0 Ri H' (R0) λR=>True
def dv.S61 (H0:Hp) (Ri R0:am5)  (C:anB) (pC:aow):Prop:=∀ {dy fS Lw Gx Lx se Ly},∀ {H:Hp},Gx=se.length->(Out H0 Ri H (Rs.own ⟨Lw,Gx,Lx⟩ eI.z Ly::R0) λR=>CR eI H R Ly se)->∀ {r:Int},pC dy se fS=some r->Rt (C dy ⟨Lw,Gx,Lx⟩ fS H) (dv.Q H0 Ri R0  r)
def dv.pj2 (F:Nat) (bS:aow) (yc:Int) (Db:am3) (yd:Int):Option (Int):=bS yc Db (wrap .i64 (yd+1))
theorem dv.j2_P  {C61_:anB} {bS:aow} (hC61:dv.S61 H0 Ri R0  C61_ bS) {yc yd VC Lz VD Db VE} (afK:Lz=Db.length) (h0:Out H0 Ri H (Rs.own ⟨VC,Lz,VD⟩ eI.z VE::R0) λR=>CR eI H R VE Db) {r:Int} (hp:dv.pj2 F bS yc Db yd=some r):Rt (dv.j2 F (a_.tw F) C61_ yc ⟨VC,Lz,VD⟩ yd H) (dv.Q H0 Ri R0  r):=by
 obtain ⟨w0,s0,afL⟩:=h0
 subst afK
 unfold dv.pj2 at hp
 unfold dv.j2
 exact hC61 rfl ⟨w0,s0,afL⟩ hp
def dv.pl61 (F:Nat) :Nat->Int->List Int->Int->Option (Int)
 | 0,_,_,_=>none
 | k+1,dy,se,fS=>(bif (decide (fS<(se.length:Int))) then ((ix se fS).bind λn1=>(bif ((gt se n1)==fS) then (dv.pj2 F (dv.pl61 F k) (wrap .i64 (dy+1)) se fS) else (dv.pj2 F (dv.pl61 F k) dy se fS))) else (some dy))
theorem dv.l61_P  :∀ k,dv.S61 H0 Ri R0  (dv.l61 F (a_.tw F)  k) (dv.pl61 F  k):=by
 intro k
 induction k with
 | zero=>unfold dv.S61;intros;rename_i hp;cases hp
 | succ k ih=>
  intro dy fS Lw Gx Lx se Ly H afM h0 r hp
  obtain ⟨w0,s0,LA⟩:=h0
  subst afM
  unfold dv.pl61 at hp
  unfold dv.l61
  refine aG hp (λhp=>?_) λhp=>?_
  ·obtain ⟨n1,g1,hp⟩:=ag hp
   obtain ⟨p1,q1,i1,h1,j1⟩:=W.ixo (E:=eI) w0 (i:=0) rfl rfl LA g1
   refine ak i1 ?_
   have h1:_=[_]:=h1
   subst h1
   refine ak (bk (j1 0 _ rfl)) ?_
   refine aG hp (λhp=>?_) λhp=>?_
   ·exact dv.j2_P (@ih) rfl ⟨w0,s0,LA⟩ hp
   ·exact dv.j2_P (@ih) rfl ⟨w0,s0,LA⟩ hp
  ·obtain ⟨w2,s2⟩:=w0.pp [] 1
   exact aD hp ⟨rfl,w2,(s0.trans s2),trivial⟩
def dv.p (F:Nat) (ai:anh):Option (Int):=(a_.p F ai).bind λr2=>dv.pl61 F F 0 r2 0
theorem dv.P {aS aC aT ai ac} (b_:aC=ai.length) (h0:Inn H R0 λR=>ROs (af eI (af eI (af eI (af eI eI)))) H R ⟨aS,aC,aT⟩ ai) {r:Int} (hp:dv.p F ai=some r):Rt (dv.tw F ⟨aS,aC,aT⟩ ac H) (dv.Q H R0 R0  r):=by
 obtain ⟨w0,bK⟩:=h0
 subst b_
 unfold dv.p at hp
 unfold dv.tw dv.twX
 have s0:=w0.rf
 refine bm w0 λH1 w1 s1=>?_
 refine lSl w1 0 ?_
 refine lI w1 0 ?_
 obtain ⟨r2,e2,hp⟩:=ag hp
 refine aI (a_.P rfl ⟨w1,(bK.step s1)⟩ e2) ?_
 rintro _ H3 ⟨o0a_3,o0n_3,o0c_3,o0k_3,rfl,rfl,w3,s3,f3_0⟩
 refine br ?_
 obtain ⟨w4,s4⟩:=w3.pp [0] 2
 exact dv.l61_P F rfl ⟨w4,(s0.trans (s1.trans (s3.trans s4))),(f3_0.step s4)⟩ hp
def gL.Q (H0:Hp) (Ri R0:am5)  (r:Bool) (v:AV) (H':Hp):Prop:=v=(.bool r)/\Out H0 Ri H' (R0) λR=>True
def gL.p (F:Nat) (ai:anh) (ac:Int):Option (Bool):=(bif (decide ((ai.length:Int)>10)) then (some false) else ((fX.p F ac 0 8).bind λr3=>(bif (!r3) then (some false) else ((cg.p F ai).bind λr6=>(bif (!r6) then (some false) else ((bI.p F ai).bind λr9=>(dv.p F ai).bind λr12=>some ((r9.length:Int)==(wrap .i64 ((ai.length:Int)+(wrap .i64 (2 * r12)))))))))))
theorem gL.P {aS aC aT ai ac} (b_:aC=ai.length) (h0:Inn H R0 λR=>ROs (af eI (af eI (af eI (af eI eI)))) H R ⟨aS,aC,aT⟩ ai) {r:Bool} (hp:gL.p F ai ac=some r):Rt (gL.tw F ⟨aS,aC,aT⟩ ac H) (gL.Q H R0 R0  r):=by
 obtain ⟨w0,bK⟩:=h0
 subst b_
 unfold gL.p at hp
 unfold gL.tw gL.twX
 have s0:=w0.rf
 refine bm w0 λH1 w1 s1=>?_
 refine lSl w1 0 ?_
 refine aG hp (λhp=>?_) λhp=>?_
 ·obtain ⟨w2,s2⟩:=w1.pp [] 1
  exact aD hp ⟨rfl,w2,(s0.trans (s1.trans s2)),trivial⟩
 ·refine lI w1 0 ?_
  obtain ⟨r3,e3,hp⟩:=ag hp
  refine aI (fX.P ⟨w1,trivial⟩ e3) ?_
  rintro _ H4 ⟨rfl,w4,s4,_⟩
  refine br ?_
  refine aG hp (λhp=>?_) λhp=>?_
  ·obtain ⟨w5,s5⟩:=w4.pp [] 1
   exact aD hp ⟨rfl,w5,(s0.trans (s1.trans (s4.trans s5))),trivial⟩
  ·refine lSl w4 0 ?_
   refine lI w4 0 ?_
   obtain ⟨r6,e6,hp⟩:=ag hp
   refine aI (cg.P rfl ⟨w4,(bK.step (s1.trans s4))⟩ e6) ?_
   rintro _ H7 ⟨rfl,w7,s7,_⟩
   refine br ?_
   refine aG hp (λhp=>?_) λhp=>?_
   ·obtain ⟨w8,s8⟩:=w7.pp [] 1
    exact aD hp ⟨rfl,w8,(s0.trans (s1.trans (s4.trans (s7.trans s8)))),trivial⟩
   ·refine lSl w7 0 ?_
    refine lI w7 0 ?_
    obtain ⟨r9,e9,hp⟩:=ag hp
    refine aI (bI.P rfl ⟨w7,(bK.step (s1.trans (s4.trans s7)))⟩ e9) ?_
    rintro _ H10 ⟨o0a_10,o0n_10,o0c_10,o0k_10,rfl,rfl,w10,s10,f10_0⟩
    refine br ?_
    refine fg (W.cons_of (Rn:=[_]) w7 w10 s10) ?_
    refine lSl w10 1 ?_
    refine lSl w10 1 ?_
    refine lI w10 1 ?_
    obtain ⟨r12,e12,hp⟩:=ag hp
    refine aI (dv.P rfl ⟨w10,(bK.step (s1.trans (s4.trans (s7.trans s10))))⟩ e12) ?_
    rintro _ H13 ⟨rfl,w13,s13,_⟩
    refine br ?_
    refine fg (W.cons_of (Rn:=[]) w10 w13 s13) ?_
    obtain ⟨w15,s15⟩:=w13.pp [] 2
    exact aD hp ⟨rfl,w15,(s0.trans (s1.trans (s4.trans (s7.trans (s10.trans (s13.trans s15)))))),trivial⟩
def aH.Q (H0:Hp) (Ri R0:am5)  (r:anm) (v:AV) (H':Hp):Prop:=∃ o0a:ON,∃ o0n:Nat,∃ o0c:Cap,∃ o0k:List AV,v=(.tup [(.sl ⟨o0a,o0n,o0c⟩),(.i r.2)])/\o0n=(r.1).length/\Out H0 Ri H' (Rs.own ⟨o0a,o0n,o0c⟩ eI.z o0k::R0) λR=>CR eI H' R o0k (r.1)
def aH.S29 (H0:Hp) (Ri R0:am5)  (C:ant) (pC:anN):Prop:=∀ {wa LB tc lR Gy wb LC nq td nI wh LD},∀ {H:Hp},tc=nq.length->Gy=wh.length->(Out H0 Ri H (Rs.blk lR [.sl ⟨wa,tc,wb⟩,.i td]::Rs.own ⟨LB,Gy,LC⟩ eI.z LD::R0) λR=>ROs (af eI (af eI (af eI (af eI eI)))) H R ⟨wa,tc,wb⟩ nq/\CR eI H R LD wh)->∀ {r:anm},pC nq td wh nI=some r->Rt (C lR 0 ⟨LB,Gy,LC⟩ nI H) (aH.Q H0 Ri R0  r)
def aH.S61 (H0:Hp) (Ri R0:am5)  (C:ant) (pC:anN):Prop:=∀ {LE LF Gz qA GA LG LI rz AU nH rA LJ},∀ {H:Hp},Gz=rz.length->GA=rA.length->(Out H0 Ri H (Rs.blk qA [.sl ⟨LE,Gz,LG⟩,.i AU]::Rs.own ⟨LF,GA,LI⟩ eI.z LJ::R0) λR=>ROs (af eI (af eI (af eI (af eI eI)))) H R ⟨LE,Gz,LG⟩ rz/\CR eI H R LJ rA)->∀ {r:anm},pC rz AU rA nH=some r->Rt (C qA 0 ⟨LF,GA,LI⟩ nH H) (aH.Q H0 Ri R0  r)
def aH.S1963 (H0:Hp) (Ri R0:am5)  (C:an2) (pC:aox):Prop:=∀ {LL LM GB sE GC LN LP un wi pl lU lV ng qi LQ},∀ {H:Hp},GB=un.length->GC=qi.length->(Out H0 Ri H (Rs.blk sE [.sl ⟨LL,GB,LN⟩,.i wi]::Rs.own ⟨LM,GC,LP⟩ eI.z LQ::R0) λR=>ROs (af eI (af eI (af eI (af eI eI)))) H R ⟨LL,GB,LN⟩ un/\CR eI H R LQ qi)->∀ {r:anm},pC un wi qi pl lU lV ng=some r->Rt (C sE 0 ⟨LM,GC,LP⟩ pl lU lV ng H) (aH.Q H0 Ri R0  r)
def aH.pj12 (F:Nat) (GD:aox) (Dc:anh) (GE:Int) (Dd:am3) (yq:Int) (yr:Int) (yt:Int) (yu:Int):Option (List Int×Int):=GD Dc GE Dd yq yr yt (wrap .i64 (yu+1))
theorem aH.j12_P  {C1963_:an2} {GD:aox} (hC1963:aH.S1963 H0 Ri R0  C1963_ GD) {VF VG LR Fc LS VH VI Dc GE yq yr yt yu Dd VJ} (afN:LR=Dc.length) (afO:LS=Dd.length) (h0:Out H0 Ri H (Rs.blk Fc [.sl ⟨VF,LR,VH⟩,.i GE]::Rs.own ⟨VG,LS,VI⟩ eI.z VJ::R0) λR=>ROs (af eI (af eI (af eI (af eI eI)))) H R ⟨VF,LR,VH⟩ Dc/\CR eI H R VJ Dd) {r:anm} (hp:aH.pj12 F GD Dc GE Dd yq yr yt yu=some r):Rt (aH.j12 F  C1963_ Fc 0 ⟨VG,LS,VI⟩ yq yr yt yu H) (aH.Q H0 Ri R0  r):=by
 obtain ⟨w0,s0,afP,afQ⟩:=h0
 subst afN
 subst afO
 unfold aH.pj12 at hp
 unfold aH.j12
 exact hC1963 rfl rfl ⟨w0,s0,afP,afQ⟩ hp
def aH.pj10 (F:Nat) (bS:anN) (De:anh) (GF:Int) (Df:am3) (yo:Int):Option (List Int×Int):=bS De GF Df (wrap .i64 (yo+1))
theorem aH.j10_P  {C61_:ant} {bS:anN} (hC61:aH.S61 H0 Ri R0  C61_ bS) {VK VL LT Fa LU VM VN De GF yo Df VO} (afR:LT=De.length) (afS:LU=Df.length) (h0:Out H0 Ri H (Rs.blk Fa [.sl ⟨VK,LT,VM⟩,.i GF]::Rs.own ⟨VL,LU,VN⟩ eI.z VO::R0) λR=>ROs (af eI (af eI (af eI (af eI eI)))) H R ⟨VK,LT,VM⟩ De/\CR eI H R VO Df) {r:anm} (hp:aH.pj10 F bS De GF Df yo=some r):Rt (aH.j10 F  C61_ Fa 0 ⟨VL,LU,VN⟩ yo H) (aH.Q H0 Ri R0  r):=by
 obtain ⟨w0,s0,afT,afU⟩:=h0
 subst afR
 subst afS
 unfold aH.pj10 at hp
 unfold aH.j10
 exact hC61 rfl rfl ⟨w0,s0,afT,afU⟩ hp
def aH.pj11 (F:Nat) (bS:anN) (Dg:anh) (GG:Int) (Dh:am3) (yp:Int):Option (List Int×Int):=aH.pj10 F bS Dg GG Dh yp
theorem aH.j11_P  {C61_:ant} {bS:anN} (hC61:aH.S61 H0 Ri R0  C61_ bS) {VP VQ LV Fb LW VR VS Dg GG yp Dh VT} (afV:LV=Dg.length) (afW:LW=Dh.length) (h0:Out H0 Ri H (Rs.blk Fb [.sl ⟨VP,LV,VR⟩,.i GG]::Rs.own ⟨VQ,LW,VS⟩ eI.z VT::R0) λR=>ROs (af eI (af eI (af eI (af eI eI)))) H R ⟨VP,LV,VR⟩ Dg/\CR eI H R VT Dh) {r:anm} (hp:aH.pj11 F bS Dg GG Dh yp=some r):Rt (aH.j11 F  C61_ Fb 0 ⟨VQ,LW,VS⟩ yp H) (aH.Q H0 Ri R0  r):=by
 obtain ⟨w0,s0,afX,afY⟩:=h0
 subst afV
 subst afW
 unfold aH.pj11 at hp
 unfold aH.j11
 exact aH.j10_P (@hC61) rfl rfl ⟨w0,s0,afX,afY⟩ hp
def aH.pl1963 (F:Nat) (bS:anN):Nat->List (Int×Int×Int×Int×Int)->Int->List Int->Int->Int->Int->Int->Option (List Int×Int)
 | 0,_,_,_,_,_,_,_=>none
 | k+1,un,wi,qi,pl,lU,lV,ng=>(bif (decide (ng<(qi.length:Int))) then ((ix qi ng).bind λn1=>(bif ((gt qi n1)==(if lV>lU then lV else lU)) then ((ix qi ng).bind λn2=>(some (qi.set n2 (if lV<lU then lV else lU))).bind λl3=>aH.pj12 F (aH.pl1963 F bS k) un wi l3 pl lU lV ng) else (aH.pj12 F (aH.pl1963 F bS k) un wi qi pl lU lV ng))) else (aH.pj11 F bS un wi qi pl))
theorem aH.l1963_P  {C61_:ant} {bS:anN} (hC61:aH.S61 H0 Ri R0  C61_ bS):∀ k,aH.S1963 H0 Ri R0  (aH.l1963 F  C61_ k) (aH.pl1963 F bS k):=by
 intro k
 induction k with
 | zero=>unfold aH.S1963;intros;rename_i hp;cases hp
 | succ k ih=>
  intro LL LM GB sE GC LN LP un wi pl lU lV ng qi LQ H afZ af0 h0 r hp
  obtain ⟨w0,s0,LX,Di⟩:=h0
  subst afZ
  subst af0
  unfold aH.pl1963 at hp
  unfold aH.l1963
  refine aG hp (λhp=>?_) λhp=>?_
  ·obtain ⟨n1,g1,hp⟩:=ag hp
   obtain ⟨p1,q1,i1,h1,j1⟩:=W.ixo (E:=eI) w0 (i:=1) rfl rfl Di g1
   refine ak i1 ?_
   have h1:_=[_]:=h1
   subst h1
   refine ak (bk (j1 0 _ rfl)) ?_
   refine aG hp (λhp=>?_) λhp=>?_
   ·obtain ⟨n2,g2,hp⟩:=ag hp
    obtain ⟨p2,q2,i2,h2,j2⟩:=W.ixo (E:=eI) w0 (i:=1) rfl rfl Di g2
    refine ak i2 ?_
    obtain ⟨l3,e3,hp⟩:=ag hp
    refine fc eI w0 (i:=1) (j:=0) (p:=p2) rfl rfl Di g2 i2 e3 rfl rfl (λ_ h=>by have h:_=[_]:=h;subst h;exact rfl) λH4 k4 w4 s4 c4=>?_
    exact aH.j12_P (@ih) rfl ((dl e3).symm) ⟨w4,(s0.trans s4),(LX.step s4),c4⟩ hp
   ·exact aH.j12_P (@ih) rfl rfl ⟨w0,s0,LX,Di⟩ hp
  ·exact aH.j11_P (@hC61) rfl rfl ⟨w0,s0,LX,Di⟩ hp
def aH.S509 (H0:Hp) (Ri R0:am5)  (C:an_) (pC:an6):Prop:=∀ {LY LZ L_ GH sD GI GJ Ma Mb Mc Md wj nb lT qj qk Me Mf},∀ {H:Hp},GH=Md.length->GI=qj.length->GJ=qk.length->(Out H0 Ri H (Rs.blk sD [.sl ⟨LY,GH,Ma⟩,.i wj]::Rs.own ⟨LZ,GI,Mb⟩ eI.z Me::Rs.own ⟨L_,GJ,Mc⟩ eI.z Mf::R0) λR=>ROs (af eI (af eI (af eI (af eI eI)))) H R ⟨LY,GH,Ma⟩ Md/\CR eI H R Me qj/\CR eI H R Mf qk)->∀ {r:anm},pC wj qj qk nb lT=some r->Rt (C sD 0 ⟨LZ,GI,Mb⟩ ⟨L_,GJ,Mc⟩ nb lT H) (aH.Q H0 Ri R0  r)
def aH.pj7 (F:Nat) (GK:an6) (GL:Int) (Dj:am3) (Dk:am3) (yk:Int) (ym:Int):Option (List Int×Int):=GK GL Dj Dk yk (wrap .i64 (ym+1))
theorem aH.j7_P  {C509_:an_} {GK:an6} (hC509:aH.S509 H0 Ri R0  C509_ GK) {VU VV VW Mg EZ Mh Mi VX VY VZ V_ GL yk ym Dj Dk Wa Wb} (af1:Mg=V_.length) (af2:Mh=Dj.length) (af3:Mi=Dk.length) (h0:Out H0 Ri H (Rs.blk EZ [.sl ⟨VU,Mg,VX⟩,.i GL]::Rs.own ⟨VV,Mh,VY⟩ eI.z Wa::Rs.own ⟨VW,Mi,VZ⟩ eI.z Wb::R0) λR=>ROs (af eI (af eI (af eI (af eI eI)))) H R ⟨VU,Mg,VX⟩ V_/\CR eI H R Wa Dj/\CR eI H R Wb Dk) {r:anm} (hp:aH.pj7 F GK GL Dj Dk yk ym=some r):Rt (aH.j7 F  C509_ EZ 0 ⟨VV,Mh,VY⟩ ⟨VW,Mi,VZ⟩ yk ym H) (aH.Q H0 Ri R0  r):=by
 obtain ⟨w0,s0,af4,af5,af6⟩:=h0
 subst af1
 subst af2
 subst af3
 unfold aH.pj7 at hp
 unfold aH.j7
 exact hC509 rfl rfl rfl ⟨w0,s0,af4,af5,af6⟩ hp
def aH.pj6 (F:Nat)  (GM:Int) (Dl:am3) (yi:Int):Option (List Int×Int):=some (Dl,(wrap .i64 (yi+GM)))
theorem aH.j6_P   {Wc Wd Mj EY Ml We Wf Wg GM yi Dl Wh} (af7:Mj=Wg.length) (af8:Ml=Dl.length) (h0:Out H0 Ri H (Rs.blk EY [.sl ⟨Wc,Mj,We⟩,.i GM]::Rs.own ⟨Wd,Ml,Wf⟩ eI.z Wh::R0) λR=>ROs (af eI (af eI (af eI (af eI eI)))) H R ⟨Wc,Mj,We⟩ Wg/\CR eI H R Wh Dl) {r:anm} (hp:aH.pj6 F  GM Dl yi=some r):Rt (aH.j6 F   EY 0 ⟨Wd,Ml,Wf⟩ yi H) (aH.Q H0 Ri R0  r):=by
 obtain ⟨w0,s0,ama,af9⟩:=h0
 subst af7
 subst af8
 unfold aH.pj6 at hp
 unfold aH.j6
 refine lI w0 0 ?_
 obtain ⟨w1,s1⟩:=w0.pp [1] 2
 exact aD hp ⟨_,_,_,_,rfl,rfl,w1,(s0.trans s1),(af9.step s1)⟩
def aH.pl509 (F:Nat) :Nat->Int->List Int->List Int->Int->Int->Option (List Int×Int)
 | 0,_,_,_,_,_=>none
 | k+1,wj,qj,qk,nb,lT=>(bif (decide (lT<(qj.length:Int))) then ((ix qj lT).bind λn1=>(bif ((gt qj n1)==lT) then ((apn qk ([nb]:List Int)).bind λl3=>aH.pj7 F (aH.pl509 F k) wj qj l3 (wrap .i64 (nb+1)) lT) else ((ix qj lT).bind λn6=>(ix qk (gt qj n6)).bind λn7=>(apn qk ([(gt qk n7)]:List Int)).bind λl9=>aH.pj7 F (aH.pl509 F k) wj qj l9 nb lT))) else (aH.pj6 F wj qk nb))
theorem aH.l509_P  :∀ k,aH.S509 H0 Ri R0  (aH.l509 F   k) (aH.pl509 F  k):=by
 intro k
 induction k with
 | zero=>unfold aH.S509;intros;rename_i hp;cases hp
 | succ k ih=>
  intro LY LZ L_ GH sD GI GJ Ma Mb Mc Md wj nb lT qj qk Me Mf H af_ aga agb h0 r hp
  obtain ⟨w0,s0,Mm,GN,GO⟩:=h0
  subst af_
  subst aga
  subst agb
  unfold aH.pl509 at hp
  unfold aH.l509
  refine aG hp (λhp=>?_) λhp=>?_
  ·obtain ⟨n1,g1,hp⟩:=ag hp
   obtain ⟨p1,q1,i1,h1,j1⟩:=W.ixo (E:=eI) w0 (i:=1) rfl rfl GN g1
   refine ak i1 ?_
   have h1:_=[_]:=h1
   subst h1
   refine ak (bk (j1 0 _ rfl)) ?_
   refine aG hp (λhp=>?_) λhp=>?_
   ·refine jJ eI w0 (n:=1) (l:=([nb]:List Int)) rfl (CR.cons1 rfl CR.empty) rfl λH2 w2 s2 c2=>?_
    refine ak (w2.rowo (i:=0) rfl) ?_
    obtain ⟨l3,e3,hp⟩:=ag hp
    refine pe eI w2 (i:=3) rfl rfl (GO.step s2) c2 (show 1=List.length ([nb]:List Int) from rfl) rfl e3 λa4 d4 H4 w4 s4 c4 x4=>?_
    obtain ⟨w5,s5⟩:=w4.pp [1,2,3] 4
    exact aH.j7_P (@ih) rfl rfl rfl ⟨w5,(s0.trans (s2.trans (s4.trans s5))),(Mm.step (s2.trans (s4.trans s5))),(GN.step (s2.trans (s4.trans s5))),(c4.step s5)⟩ hp
   ·obtain ⟨n6,g6,hp⟩:=ag hp
    obtain ⟨p6,q6,i6,h6,j6⟩:=W.ixo (E:=eI) w0 (i:=1) rfl rfl GN g6
    refine ak i6 ?_
    have h6:_=[_]:=h6
    subst h6
    refine ak (bk (j6 0 _ rfl)) ?_
    obtain ⟨n7,g7,hp⟩:=ag hp
    obtain ⟨p7,q7,i7,h7,j7⟩:=W.ixo (E:=eI) w0 (i:=2) rfl rfl GO g7
    refine ak i7 ?_
    have h7:_=[_]:=h7
    subst h7
    refine ak (bk (j7 0 _ rfl)) ?_
    refine jJ eI w0 (n:=1) (l:=([(gt qk n7)]:List Int)) rfl (CR.cons1 rfl CR.empty) rfl λH8 w8 s8 c8=>?_
    refine ak (w8.rowo (i:=0) rfl) ?_
    obtain ⟨l9,e9,hp⟩:=ag hp
    refine pe eI w8 (i:=3) rfl rfl (GO.step s8) c8 (show 1=List.length ([(gt qk n7)]:List Int) from rfl) rfl e9 λa10 d10 H10 w10 s10 c10 x10=>?_
    obtain ⟨w11,s11⟩:=w10.pp [1,2,3] 4
    exact aH.j7_P (@ih) rfl rfl rfl ⟨w11,(s0.trans (s8.trans (s10.trans s11))),(Mm.step (s8.trans (s10.trans s11))),(GN.step (s8.trans (s10.trans s11))),(c10.step s11)⟩ hp
  ·obtain ⟨w12,s12⟩:=w0.pp [0,2] 3
   exact aH.j6_P rfl rfl ⟨w12,(s0.trans s12),(Mm.step s12),(GO.step s12)⟩ hp
def aH.pj8 (F:Nat)  (GP:Int) (Dm:am3):Option (List Int×Int):=aH.pl509 F F GP Dm ([]:List Int) 0 0
theorem aH.j8_P   {Wi Wj Mn E_ Mo Wk Wl Wm GP Dm Wn} (agc:Mn=Wm.length) (agd:Mo=Dm.length) (h0:Out H0 Ri H (Rs.blk E_ [.sl ⟨Wi,Mn,Wk⟩,.i GP]::Rs.own ⟨Wj,Mo,Wl⟩ eI.z Wn::R0) λR=>ROs (af eI (af eI (af eI (af eI eI)))) H R ⟨Wi,Mn,Wk⟩ Wm/\CR eI H R Wn Dm) {r:anm} (hp:aH.pj8 F  GP Dm=some r):Rt (aH.j8 F   E_ 0 ⟨Wj,Mo,Wl⟩ H) (aH.Q H0 Ri R0  r):=by
 obtain ⟨w0,s0,age,agf⟩:=h0
 subst agc
 subst agd
 unfold aH.pj8 at hp
 unfold aH.j8
 refine jJ eI w0 (n:=0) (l:=([]:List Int)) rfl CR.empty rfl λH1 w1 s1 c1=>?_
 obtain ⟨w2,s2⟩:=w1.pp [1,2,0] 3
 exact aH.l509_P F rfl rfl (show 0=List.length ([]:List Int) from rfl) ⟨w2,(s0.trans (s1.trans s2)),(age.step (s1.trans s2)),(agf.step (s1.trans s2)),(c1.step s2)⟩ hp
def aH.pl61 (F:Nat) :Nat->List (Int×Int×Int×Int×Int)->Int->List Int->Int->Option (List Int×Int)
 | 0,_,_,_,_=>none
 | k+1,rz,AU,rA,nH=>(bif (decide (nH<(rz.length:Int))) then ((ix rz nH).bind λn1=>(ix rA ((gt rz n1).2.1)).bind λn2=>(ix rz nH).bind λn3=>(ix rA ((gt rz n3).2.2.2.1)).bind λn4=>aH.pl1963 F (aH.pl61 F k) F rz AU rA nH (gt rA n2) (gt rA n4) 0) else (aH.pj8 F AU rA))
theorem aH.l61_P  :∀ k,aH.S61 H0 Ri R0  (aH.l61 F   k) (aH.pl61 F  k):=by
 intro k
 induction k with
 | zero=>unfold aH.S61;intros;rename_i hp;cases hp
 | succ k ih=>
  intro LE LF Gz qA GA LG LI rz AU nH rA LJ H agh agi h0 r hp
  obtain ⟨w0,s0,GQ,GR⟩:=h0
  subst agh
  subst agi
  unfold aH.pl61 at hp
  unfold aH.l61
  refine lSl w0 0 ?_
  refine aG hp (λhp=>?_) λhp=>?_
  ·refine lSl w0 0 ?_
   obtain ⟨n1,g1,hp⟩:=ag hp
   obtain ⟨p1,q1,i1,h1,j1⟩:=ROs.ixr GQ rfl g1
   refine ak i1 ?_
   obtain ⟨_,_,rfl,rfl,_,_,rfl,rfl,_,_,rfl,rfl,_,_,rfl,rfl,rfl⟩:=h1
   refine ak (bk (j1 1 _ rfl)) ?_
   obtain ⟨n2,g2,hp⟩:=ag hp
   obtain ⟨p2,q2,i2,h2,j2⟩:=W.ixo (E:=eI) w0 (i:=1) rfl rfl GR g2
   refine ak i2 ?_
   have h2:_=[_]:=h2
   subst h2
   refine ak (bk (j2 0 _ rfl)) ?_
   refine lSl w0 0 ?_
   obtain ⟨n3,g3,hp⟩:=ag hp
   obtain ⟨p3,q3,i3,h3,j3⟩:=ROs.ixr GQ rfl g3
   refine ak i3 ?_
   obtain ⟨_,_,rfl,rfl,_,_,rfl,rfl,_,_,rfl,rfl,_,_,rfl,rfl,rfl⟩:=h3
   refine ak (bk (j3 3 _ rfl)) ?_
   obtain ⟨n4,g4,hp⟩:=ag hp
   obtain ⟨p4,q4,i4,h4,j4⟩:=W.ixo (E:=eI) w0 (i:=1) rfl rfl GR g4
   refine ak i4 ?_
   have h4:_=[_]:=h4
   subst h4
   refine ak (bk (j4 0 _ rfl)) ?_
   exact aH.l1963_P (@ih) F rfl rfl ⟨w0,s0,GQ,GR⟩ hp
  ·exact aH.j8_P rfl rfl ⟨w0,s0,GQ,GR⟩ hp
def aH.pj13 (F:Nat)  (Dn:anh) (GS:Int) (Do:am3):Option (List Int×Int):=aH.pl61 F F Dn GS Do 0
theorem aH.j13_P   {Wo Wp Mp yb Mq Wq Wr Dn GS Do Ws} (agj:Mp=Dn.length) (agk:Mq=Do.length) (h0:Out H0 Ri H (Rs.blk yb [.sl ⟨Wo,Mp,Wq⟩,.i GS]::Rs.own ⟨Wp,Mq,Wr⟩ eI.z Ws::R0) λR=>ROs (af eI (af eI (af eI (af eI eI)))) H R ⟨Wo,Mp,Wq⟩ Dn/\CR eI H R Ws Do) {r:anm} (hp:aH.pj13 F  Dn GS Do=some r):Rt (aH.j13 F   yb 0 ⟨Wp,Mq,Wr⟩ H) (aH.Q H0 Ri R0  r):=by
 obtain ⟨w0,s0,agl,agm⟩:=h0
 subst agj
 subst agk
 unfold aH.pj13 at hp
 unfold aH.j13
 exact aH.l61_P F rfl rfl ⟨w0,s0,agl,agm⟩ hp
def aH.pl29 (F:Nat) :Nat->List (Int×Int×Int×Int×Int)->Int->List Int->Int->Option (List Int×Int)
 | 0,_,_,_,_=>none
 | k+1,nq,td,wh,nI=>(bif (decide (nI<(wrap .i64 (2 * (nq.length:Int))))) then ((apn wh ([nI]:List Int)).bind λl2=>aH.pl29 F k nq td l2 (wrap .i64 (nI+1))) else (aH.pj13 F nq td wh))
theorem aH.l29_P  :∀ k,aH.S29 H0 Ri R0  (aH.l29 F   k) (aH.pl29 F  k):=by
 intro k
 induction k with
 | zero=>unfold aH.S29;intros;rename_i hp;cases hp
 | succ k ih=>
  intro wa LB tc lR Gy wb LC nq td nI wh LD H Lv agn h0 r hp
  obtain ⟨w0,s0,Da,Wt⟩:=h0
  subst Lv
  subst agn
  unfold aH.pl29 at hp
  unfold aH.l29
  refine lSl w0 0 ?_
  refine aG hp (λhp=>?_) λhp=>?_
  ·refine jJ eI w0 (n:=1) (l:=([nI]:List Int)) rfl (CR.cons1 rfl CR.empty) rfl λH1 w1 s1 c1=>?_
   refine ak (w1.rowo (i:=0) rfl) ?_
   obtain ⟨l2,e2,hp⟩:=ag hp
   refine pe eI w1 (i:=2) rfl rfl (Wt.step s1) c1 (show 1=List.length ([nI]:List Int) from rfl) rfl e2 λa3 d3 H3 w3 s3 c3 x3=>?_
   obtain ⟨w4,s4⟩:=w3.pp [1,2] 3
   exact ih rfl rfl ⟨w4,(s0.trans (s1.trans (s3.trans s4))),(Da.step (s1.trans (s3.trans s4))),(c3.step s4)⟩ hp
  ·exact aH.j13_P rfl rfl ⟨w0,s0,Da,Wt⟩ hp
def aH.p (F:Nat) (ai:anh) (ac:Int):Option (List Int×Int):=aH.pl29 F F ai ac ([]:List Int) 0
theorem aH.P {aS aC aT ai ac} (b_:aC=ai.length) (h0:Inn H R0 λR=>ROs (af eI (af eI (af eI (af eI eI)))) H R ⟨aS,aC,aT⟩ ai) {r:anm} (hp:aH.p F ai ac=some r):Rt (aH.tw F ⟨aS,aC,aT⟩ ac H) (aH.Q H R0 R0  r):=by
 obtain ⟨w0,bK⟩:=h0
 subst b_
 unfold aH.p at hp
 unfold aH.tw aH.twX
 have s0:=w0.rf
 refine bm w0 λH1 w1 s1=>?_
 refine jJ eI w1 (n:=0) (l:=([]:List Int)) rfl CR.empty rfl λH2 w2 s2 c2=>?_
 obtain ⟨w3,s3⟩:=w2.pp [1,0] 2
 exact aH.l29_P F rfl (show 0=List.length ([]:List Int) from rfl) ⟨w3,(s0.trans (s1.trans (s2.trans s3))),(bK.step (s1.trans (s2.trans s3))),(c2.step s3)⟩ hp
def fM.Q (H0:Hp) (Ri R0:am5)  (r:ann) (v:AV) (H':Hp):Prop:=∃ o2a:ON,∃ o2n:Nat,∃ o2k:List AV,v=(.agg [(.i r.1),(.i r.2.1),(.sl ⟨o2a,o2n,.ex o2n⟩)])/\o2n=(r.2.2).length/\Out H0 Ri H' (Rs.own ⟨o2a,o2n,.ex o2n⟩ eI.z o2k::R0) λR=>CR eI H' R o2k (r.2.2)
def fM.p (F:Nat) (aa:Int) (au:Int):Option (Int×Int×List Int):=(mkn (wrap .i64 (aa * au)) (0:Int)).bind λl2=>some (aa,au,l2)
theorem fM.P {aa au}  (h0:Inn H R0 λR=>True) {r:ann} (hp:fM.p F aa au=some r):Rt (fM.tw F aa au H) (fM.Q H R0 R0  r):=by
 obtain ⟨w0,_⟩:=h0
 unfold fM.p at hp
 unfold fM.tw fM.twX
 have s0:=w0.rf
 refine bm w0 λH1 w1 s1=>?_
 obtain ⟨l2,e2,hp⟩:=ag hp
 refine uY eI (0:Int) w1 rfl rfl rfl e2 λH3 k3 w3 s3 c3=>?_
 refine aE w3 1 λH4 w4 s4=>?_
 refine aE w4 1 λH5 w5 s5=>?_
 refine aE w5 1 λH6 w6 s6=>?_
 refine lI w6 1 ?_
 refine lI w6 1 ?_
 refine lSl w6 1 ?_
 obtain ⟨w7,s7⟩:=w6.pp [0] 2
 exact aD hp ⟨_,_,_,rfl,rfl,w7,(s0.trans (s1.trans (s3.trans (s4.trans (s5.trans (s6.trans s7)))))),(c3.step (s4.trans (s5.trans (s6.trans s7))))⟩
def dP.Q (H0:Hp) (Ri R0:am5)  (r:ann) (v:AV) (H':Hp):Prop:=∃ o2a:ON,∃ o2n:Nat,∃ o2c:Cap,∃ o2k:List AV,v=(.agg [(.i r.1),(.i r.2.1),(.sl ⟨o2a,o2n,o2c⟩)])/\o2n=(r.2.2).length/\Out H0 Ri H' (Rs.own ⟨o2a,o2n,o2c⟩ eI.z o2k::R0) λR=>CR eI H' R o2k (r.2.2)
def dP.S61 (H0:Hp) (Ri R0:am5)  (C:Nat->Nat->Nat->Nat->Sl->Int->Nat->Nat->Int->Hp->OA) (pC:List (Int×Int×Int×Int×Int)->List Int->Int->Int->Int->List Int->Int->Option (Int×Int×List Int)):Prop:=∀ {wd Mr Ms Mt te kV GT pm GU GV hU wg Mu Mv Mw lz CQ Wu Wv kW wk AW jL Mx ou sf My Mz MA},∀ {H:Hp},te=lz.length->GT=Mx.length->GU=ou.length->GV=sf.length->(Out H0 Ri H (Rs.blk kV [.sl ⟨wd,te,wg⟩,.i CQ]::Rs.own ⟨Mr,GT,Mu⟩ eI.z My::Rs.blk pm [.i Wu,.i Wv,.sl ⟨Mr,GT,Mu⟩]::Rs.own ⟨Ms,GU,Mv⟩ eI.z Mz::Rs.own ⟨Mt,GV,Mw⟩ eI.z MA::Rs.blk hU [.i wk,.i AW,.sl ⟨Mt,GV,Mw⟩]::R0) λR=>ROs (af eI (af eI (af eI (af eI eI)))) H R ⟨wd,te,wg⟩ lz/\CR eI H R My Mx/\CR eI H R Mz ou/\CR eI H R MA sf)->∀ {r:ann},pC lz ou kW wk AW sf jL=some r->Rt (C kV 0 pm 0 ⟨Ms,GU,Mv⟩ kW hU 0 jL H) (dP.Q H0 Ri R0  r)
def dP.pl61 (F:Nat) :Nat->List (Int×Int×Int×Int×Int)->List Int->Int->Int->Int->List Int->Int->Option (Int×Int×List Int)
 | 0,_,_,_,_,_,_,_=>none
 | k+1,lz,ou,kW,wk,AW,sf,jL=>(bif (decide (jL<wk)) then ((ix lz jL).bind λn1=>(ix ou ((gt lz n1).1)).bind λn8=>(ix ou ((gt lz n1).2.2.1)).bind λn9=>(ix ou ((gt lz n1).2.1)).bind λn10=>(ix sf (wrap .i64 ((wrap .i64 (jL * kW))+(gt ou n8)))).bind λn11=>(ix sf (wrap .i64 ((wrap .i64 (jL * kW))+(gt ou n8)))).bind λn12=>(some (sf.set n12 (wrap .i64 ((gt sf n11) - 1)))).bind λl13=>(ix l13 (wrap .i64 ((wrap .i64 (jL * kW))+(gt ou n9)))).bind λn15=>(ix l13 (wrap .i64 ((wrap .i64 (jL * kW))+(gt ou n9)))).bind λn16=>(some (l13.set n16 (wrap .i64 ((gt l13 n15) - 1)))).bind λl17=>(ix l17 (wrap .i64 ((wrap .i64 (jL * kW))+(gt ou n10)))).bind λn19=>(ix l17 (wrap .i64 ((wrap .i64 (jL * kW))+(gt ou n10)))).bind λn20=>(some (l17.set n20 (wrap .i64 ((gt l17 n19)+2)))).bind λl21=>dP.pl61 F k lz ou kW wk AW l21 (wrap .i64 (jL+1))) else (some (wk,AW,sf)))
theorem dP.l61_P  :∀ k,dP.S61 H0 Ri R0  (dP.l61 F (aH.tw F) (fM.tw F)  k) (dP.pl61 F  k):=by
 intro k
 induction k with
 | zero=>unfold dP.S61;intros;rename_i hp;cases hp
 | succ k ih=>
  intro wd Mr Ms Mt te kV GT pm GU GV hU wg Mu Mv Mw lz CQ Wu Wv kW wk AW jL Mx ou sf My Mz MA H Lr ago agp agq h0 r hp
  obtain ⟨w0,s0,AT,agr,GW,GX⟩:=h0
  subst Lr
  subst ago
  subst agp
  subst agq
  unfold dP.pl61 at hp
  unfold dP.l61
  refine lI w0 5 ?_
  refine aG hp (λhp=>?_) λhp=>?_
  ·refine lSl w0 0 ?_
   obtain ⟨n1,g1,hp⟩:=ag hp
   obtain ⟨p1,q1,i1,h1,j1⟩:=ROs.ixr AT rfl g1
   refine ak i1 ?_
   obtain ⟨_,_,rfl,rfl,_,_,rfl,rfl,_,_,rfl,rfl,_,_,rfl,rfl,rfl⟩:=h1
   refine ak (bk (j1 0 _ rfl)) ?_
   refine ak (bk (j1 1 _ rfl)) ?_
   refine ak (bk (j1 2 _ rfl)) ?_
   refine ak (bk (j1 3 _ rfl)) ?_
   refine ak (bk (j1 4 _ rfl)) ?_
   refine bm w0 λH2 w2 s2=>?_
   refine aE w2 0 λH3 w3 s3=>?_
   refine aE w3 0 λH4 w4 s4=>?_
   refine aE w4 0 λH5 w5 s5=>?_
   refine aE w5 0 λH6 w6 s6=>?_
   refine aE w6 0 λH7 w7 s7=>?_
   refine lI w7 0 ?_
   obtain ⟨n8,g8,hp⟩:=ag hp
   obtain ⟨p8,q8,i8,h8,j8⟩:=W.ixo (E:=eI) w7 (i:=4) rfl rfl (GW.step (s2.trans (s3.trans (s4.trans (s5.trans (s6.trans s7)))))) g8
   refine ak i8 ?_
   have h8:_=[_]:=h8
   subst h8
   refine ak (bk (j8 0 _ rfl)) ?_
   refine lI w7 0 ?_
   obtain ⟨n9,g9,hp⟩:=ag hp
   obtain ⟨p9,q9,i9,h9,j9⟩:=W.ixo (E:=eI) w7 (i:=4) rfl rfl (GW.step (s2.trans (s3.trans (s4.trans (s5.trans (s6.trans s7)))))) g9
   refine ak i9 ?_
   have h9:_=[_]:=h9
   subst h9
   refine ak (bk (j9 0 _ rfl)) ?_
   refine lI w7 0 ?_
   obtain ⟨n10,g10,hp⟩:=ag hp
   obtain ⟨p10,q10,i10,h10,j10⟩:=W.ixo (E:=eI) w7 (i:=4) rfl rfl (GW.step (s2.trans (s3.trans (s4.trans (s5.trans (s6.trans s7)))))) g10
   refine ak i10 ?_
   have h10:_=[_]:=h10
   subst h10
   refine ak (bk (j10 0 _ rfl)) ?_
   refine lSl w7 6 ?_
   refine lSl w7 6 ?_
   obtain ⟨n11,g11,hp⟩:=ag hp
   obtain ⟨p11,q11,i11,h11,j11⟩:=W.ixo (E:=eI) w7 (i:=5) rfl rfl (GX.step (s2.trans (s3.trans (s4.trans (s5.trans (s6.trans s7)))))) g11
   refine ak i11 ?_
   have h11:_=[_]:=h11
   subst h11
   refine ak (bk (j11 0 _ rfl)) ?_
   obtain ⟨n12,g12,hp⟩:=ag hp
   obtain ⟨p12,q12,i12,h12,j12⟩:=W.ixo (E:=eI) w7 (i:=5) rfl rfl (GX.step (s2.trans (s3.trans (s4.trans (s5.trans (s6.trans s7)))))) g12
   refine ak i12 ?_
   obtain ⟨l13,e13,hp⟩:=ag hp
   refine fc eI w7 (i:=5) (j:=0) (p:=p12) rfl rfl (GX.step (s2.trans (s3.trans (s4.trans (s5.trans (s6.trans s7)))))) g12 i12 e13 rfl rfl (λ_ h=>by have h:_=[_]:=h;subst h;exact rfl) λH14 k14 w14 s14 c14=>?_
   refine lSl w14 6 ?_
   refine lSl w14 6 ?_
   obtain ⟨n15,g15,hp⟩:=ag hp
   obtain ⟨p15,q15,i15,h15,j15⟩:=W.ixo (E:=eI) w14 (i:=5) rfl rfl c14 g15
   refine ak i15 ?_
   have h15:_=[_]:=h15
   subst h15
   refine ak (bk (j15 0 _ rfl)) ?_
   obtain ⟨n16,g16,hp⟩:=ag hp
   obtain ⟨p16,q16,i16,h16,j16⟩:=W.ixo (E:=eI) w14 (i:=5) rfl rfl c14 g16
   refine ak i16 ?_
   obtain ⟨l17,e17,hp⟩:=ag hp
   refine fc eI w14 (i:=5) (j:=0) (p:=p16) rfl rfl c14 g16 i16 e17 rfl rfl (λ_ h=>by have h:_=[_]:=h;subst h;exact rfl) λH18 k18 w18 s18 c18=>?_
   refine lSl w18 6 ?_
   refine lSl w18 6 ?_
   obtain ⟨n19,g19,hp⟩:=ag hp
   obtain ⟨p19,q19,i19,h19,j19⟩:=W.ixo (E:=eI) w18 (i:=5) rfl rfl c18 g19
   refine ak i19 ?_
   have h19:_=[_]:=h19
   subst h19
   refine ak (bk (j19 0 _ rfl)) ?_
   obtain ⟨n20,g20,hp⟩:=ag hp
   obtain ⟨p20,q20,i20,h20,j20⟩:=W.ixo (E:=eI) w18 (i:=5) rfl rfl c18 g20
   refine ak i20 ?_
   obtain ⟨l21,e21,hp⟩:=ag hp
   refine fc eI w18 (i:=5) (j:=0) (p:=p20) rfl rfl c18 g20 i20 e21 rfl rfl (λ_ h=>by have h:_=[_]:=h;subst h;exact rfl) λH22 k22 w22 s22 c22=>?_
   obtain ⟨w23,s23⟩:=w22.pp [1,2,3,4,5,6] 7
   dsimp only [pk,pks,nth,List.drop,List.set,List.eraseIdx] at w23 s3 s4 s5 s6 s7 s14 c14 s18 c18 s22 c22 s23
   exact ih rfl rfl rfl (((dl e13).symm.trans (dl e17).symm).trans (dl e21).symm) ⟨w23,(s0.trans (s2.trans (s3.trans (s4.trans (s5.trans (s6.trans (s7.trans (s14.trans (s18.trans (s22.trans s23)))))))))),(AT.step (s2.trans (s3.trans (s4.trans (s5.trans (s6.trans (s7.trans (s14.trans (s18.trans (s22.trans s23)))))))))),(agr.step (s2.trans (s3.trans (s4.trans (s5.trans (s6.trans (s7.trans (s14.trans (s18.trans (s22.trans s23)))))))))),(GW.step (s2.trans (s3.trans (s4.trans (s5.trans (s6.trans (s7.trans (s14.trans (s18.trans (s22.trans s23)))))))))),(c22.step s23)⟩ hp
  ·refine lI w0 5 ?_
   refine lI w0 5 ?_
   refine lSl w0 5 ?_
   refine aE w0 2 λH24 w24 s24=>?_
   refine aE w24 2 λH25 w25 s25=>?_
   refine aE w25 2 λH26 w26 s26=>?_
   refine lI w26 2 ?_
   refine lI w26 2 ?_
   refine lSl w26 2 ?_
   obtain ⟨w27,s27⟩:=w26.pp [4] 6
   exact aD hp ⟨_,_,_,_,rfl,rfl,w27,(s0.trans (s24.trans (s25.trans (s26.trans s27)))),(GX.step (s24.trans (s25.trans (s26.trans s27))))⟩
def dP.p (F:Nat) (ai:anh) (ac:Int):Option (Int×Int×List Int):=(aH.p F ai ac).bind λr3=>(fM.p F (ai.length:Int) r3.2).bind λr5=>dP.pl61 F F ai r3.1 r3.2 r5.1 r5.2.1 r5.2.2 0
theorem dP.P {aS aC aT ai ac} (b_:aC=ai.length) (h0:Inn H R0 λR=>ROs (af eI (af eI (af eI (af eI eI)))) H R ⟨aS,aC,aT⟩ ai) {r:ann} (hp:dP.p F ai ac=some r):Rt (dP.tw F ⟨aS,aC,aT⟩ ac H) (dP.Q H R0 R0  r):=by
 obtain ⟨w0,bK⟩:=h0
 subst b_
 unfold dP.p at hp
 unfold dP.tw dP.twX
 have s0:=w0.rf
 refine bm w0 λH1 w1 s1=>?_
 refine bm w1 λH2 w2 s2=>?_
 refine lSl w2 1 ?_
 refine lI w2 1 ?_
 obtain ⟨r3,e3,hp⟩:=ag hp
 refine aI (aH.P rfl ⟨w2,(bK.step (s1.trans s2))⟩ e3) ?_
 rintro _ H4 ⟨o0a_4,o0n_4,o0c_4,o0k_4,rfl,rfl,w4,s4,f4_0⟩
 refine br (br (br (br (br ?_))))
 refine lSl w4 2 ?_
 obtain ⟨r5,e5,hp⟩:=ag hp
 refine aI (fM.P ⟨w4,trivial⟩ e5) ?_
 rintro _ H6 ⟨o2a_6,o2n_6,o2k_6,rfl,rfl,w6,s6,f6_0⟩
 refine br (br (br (br (br (br (br ?_))))))
 refine bm w6 λH7 w7 s7=>?_
 refine aE w7 0 λH8 w8 s8=>?_
 refine aE w8 0 λH9 w9 s9=>?_
 refine aE w9 0 λH10 w10 s10=>?_
 obtain ⟨w11,s11⟩:=w10.nilS eI.z (by decide)
 obtain ⟨w12,s12⟩:=w11.pp [5,0,4,3,2,1] 6
 exact dP.l61_P F rfl rfl rfl rfl ⟨w12,(s0.trans (s1.trans (s2.trans (s4.trans (s6.trans (s7.trans (s8.trans (s9.trans (s10.trans (s11.trans s12)))))))))),(bK.step (s1.trans (s2.trans (s4.trans (s6.trans (s7.trans (s8.trans (s9.trans (s10.trans (s11.trans s12)))))))))),((CR.empty:CR eI _ _ [] []).step s12),(f4_0.step (s6.trans (s7.trans (s8.trans (s9.trans (s10.trans (s11.trans s12))))))),(f6_0.step (s7.trans (s8.trans (s9.trans (s10.trans (s11.trans s12))))))⟩ hp
def bB.Q (H0:Hp) (Ri R0:am5)  (r:Int) (v:AV) (H':Hp):Prop:=v=(.i r)/\Out H0 Ri H' (R0) λR=>True
def bB.p (F:Nat) (ac:Int) (bW:am3) (aF:Int) (ch:Int):Option (Int):=(ix bW (wrap .i64 ((wrap .i64 (aF * ac))+ch))).bind λn2=>some (gt bW n2)
theorem bB.P {aa ac aF ch dK cL dL bW} (gT:cL=bW.length) (h0:Inn H R0 λR=>ROs eI H R ⟨dK,cL,dL⟩ bW) {r:Int} (hp:bB.p F ac bW aF ch=some r):Rt (bB.tw F aa ac ⟨dK,cL,dL⟩ aF ch H) (bB.Q H R0 R0  r):=by
 obtain ⟨w0,ga⟩:=h0
 subst gT
 unfold bB.p at hp
 unfold bB.tw bB.twX
 have s0:=w0.rf
 refine bm w0 λH1 w1 s1=>?_
 refine lSl w1 0 ?_
 refine lI w1 0 ?_
 obtain ⟨n2,g2,hp⟩:=ag hp
 obtain ⟨p2,q2,i2,h2,j2⟩:=ROs.ixr (ga.step s1) rfl g2
 refine ak i2 ?_
 have h2:_=[_]:=h2
 subst h2
 refine ak (bk (j2 0 _ rfl)) ?_
 obtain ⟨w3,s3⟩:=w1.pp [] 1
 exact aD hp ⟨rfl,w3,(s0.trans (s1.trans s3)),trivial⟩
def eS.Q (H0:Hp) (Ri R0:am5)  (r:Bool) (v:AV) (H':Hp):Prop:=v=(.bool r)/\Out H0 Ri H' (R0) λR=>True
def eS.S29 (H0:Hp) (Ri R0:am5)  (C:am9) (pC:List Int->Int->Option (Bool)):Prop:=∀ {Ww Wx pr MB GY sG MC tf},∀ {H:Hp},GY=tf.length->(Out H0 Ri H (Rs.blk sG [.i Ww,.i Wx,.sl ⟨MB,GY,MC⟩]::R0) λR=>ROs eI H R ⟨MB,GY,MC⟩ tf)->∀ {r:Bool},pC tf pr=some r->Rt (C sG 0 pr H) (eS.Q H0 Ri R0  r)
def eS.pl29 (F:Nat) :Nat->List Int->Int->Option (Bool)
 | 0,_,_=>none
 | k+1,tf,pr=>(bif (decide (pr<(tf.length:Int))) then ((ix tf pr).bind λn1=>(fX.p F (gt tf n1) (-1000000000000) 1000000000000).bind λr2=>(bif (!r2) then (some false) else (eS.pl29 F k tf (wrap .i64 (pr+1))))) else (some true))
theorem eS.l29_P  :∀ k,eS.S29 H0 Ri R0  (eS.l29 F (fX.tw F)  k) (eS.pl29 F  k):=by
 intro k
 induction k with
 | zero=>unfold eS.S29;intros;rename_i hp;cases hp
 | succ k ih=>
  intro Ww Wx pr MB GY sG MC tf H ags h0 r hp
  obtain ⟨w0,s0,Wy⟩:=h0
  subst ags
  unfold eS.pl29 at hp
  unfold eS.l29
  refine lSl w0 0 ?_
  refine aG hp (λhp=>?_) λhp=>?_
  ·refine lSl w0 0 ?_
   obtain ⟨n1,g1,hp⟩:=ag hp
   obtain ⟨p1,q1,i1,h1,j1⟩:=ROs.ixr Wy rfl g1
   refine ak i1 ?_
   have h1:_=[_]:=h1
   subst h1
   refine ak (bk (j1 0 _ rfl)) ?_
   obtain ⟨r2,e2,hp⟩:=ag hp
   refine aI (fX.P ⟨w0,trivial⟩ e2) ?_
   rintro _ H3 ⟨rfl,w3,s3,_⟩
   refine br ?_
   refine aG hp (λhp=>?_) λhp=>?_
   ·obtain ⟨w4,s4⟩:=w3.pp [] 1
    exact aD hp ⟨rfl,w4,(s0.trans (s3.trans s4)),trivial⟩
   ·exact ih rfl ⟨w3,(s0.trans s3),(Wy.step s3)⟩ hp
  ·obtain ⟨w5,s5⟩:=w0.pp [] 1
   exact aD hp ⟨rfl,w5,(s0.trans s5),trivial⟩
def eS.p (F:Nat) (aa:Int) (ac:Int) (bW:am3):Option (Bool):=(fX.p F aa 0 48).bind λr2=>(bif (!r2) then (some false) else ((fX.p F ac 0 48).bind λr5=>(bif (!r5) then (some false) else ((bif ((bW.length:Int) != (wrap .i64 (aa * ac))) then (some false) else (eS.pl29 F F bW 0))))))
theorem eS.P {aa ac dK cL dL bW} (gT:cL=bW.length) (h0:Inn H R0 λR=>ROs eI H R ⟨dK,cL,dL⟩ bW) {r:Bool} (hp:eS.p F aa ac bW=some r):Rt (eS.tw F aa ac ⟨dK,cL,dL⟩ H) (eS.Q H R0 R0  r):=by
 obtain ⟨w0,ga⟩:=h0
 subst gT
 unfold eS.p at hp
 unfold eS.tw eS.twX
 have s0:=w0.rf
 refine bm w0 λH1 w1 s1=>?_
 refine lI w1 0 ?_
 obtain ⟨r2,e2,hp⟩:=ag hp
 refine aI (fX.P ⟨w1,trivial⟩ e2) ?_
 rintro _ H3 ⟨rfl,w3,s3,_⟩
 refine br ?_
 refine aG hp (λhp=>?_) λhp=>?_
 ·obtain ⟨w4,s4⟩:=w3.pp [] 1
  exact aD hp ⟨rfl,w4,(s0.trans (s1.trans (s3.trans s4))),trivial⟩
 ·refine lI w3 0 ?_
  obtain ⟨r5,e5,hp⟩:=ag hp
  refine aI (fX.P ⟨w3,trivial⟩ e5) ?_
  rintro _ H6 ⟨rfl,w6,s6,_⟩
  refine br ?_
  refine aG hp (λhp=>?_) λhp=>?_
  ·obtain ⟨w7,s7⟩:=w6.pp [] 1
   exact aD hp ⟨rfl,w7,(s0.trans (s1.trans (s3.trans (s6.trans s7)))),trivial⟩
  ·refine lSl w6 0 ?_
   refine lI w6 0 ?_
   refine lI w6 0 ?_
   refine aG hp (λhp=>?_) λhp=>?_
   ·obtain ⟨w8,s8⟩:=w6.pp [] 1
    exact aD hp ⟨rfl,w8,(s0.trans (s1.trans (s3.trans (s6.trans s8)))),trivial⟩
   ·exact eS.l29_P F rfl ⟨w6,(s0.trans (s1.trans (s3.trans s6))),(ga.step (s1.trans (s3.trans s6)))⟩ hp
def dU.Q (H0:Hp) (Ri R0:am5)  (r:ann) (v:AV) (H':Hp):Prop:=∃ o2a:ON,∃ o2n:Nat,∃ o2c:Cap,∃ o2k:List AV,v=(.agg [(.i r.1),(.i r.2.1),(.sl ⟨o2a,o2n,o2c⟩)])/\o2n=(r.2.2).length/\Out H0 Ri H' (Rs.own ⟨o2a,o2n,o2c⟩ eI.z o2k::R0) λR=>CR eI H' R o2k (r.2.2)
def dU.S29 (H0:Hp) (Ri R0:am5)  (C:Int->Nat->Nat->Nat->Nat->Int->Hp->OA) (pC:Int->Int->Int->List Int->Int->Option (Int×Int×List Int)):Prop:=∀ {pt Dp Dq pU pa nJ wl wo tg eT th jM wq wt wu nr wv ww},∀ {H:Hp},tg=wu.length->th=nr.length->(Out H0 Ri H (Rs.own ⟨wl,tg,wq⟩ eI.z wv::Rs.blk eT [.i Dp,.i Dq,.sl ⟨wl,tg,wq⟩]::Rs.own ⟨wo,th,wt⟩ eI.z ww::Rs.blk jM [.i pU,.i pa,.sl ⟨wo,th,wt⟩]::R0) λR=>CR eI H R wv wu/\CR eI H R ww nr)->∀ {r:ann},pC pt pU pa nr nJ=some r->Rt (C pt eT 0 jM 0 nJ H) (dU.Q H0 Ri R0  r)
def dU.pl29 (F:Nat) :Nat->Int->Int->Int->List Int->Int->Option (Int×Int×List Int)
 | 0,_,_,_,_,_=>none
 | k+1,pt,pU,pa,nr,nJ=>(bif (decide (nJ<pt)) then ((ix nr (wrap .i64 ((wrap .i64 (nJ * pt))+nJ))).bind λn1=>(some (nr.set n1 1)).bind λl2=>dU.pl29 F k pt pU pa l2 (wrap .i64 (nJ+1))) else (some (pU,pa,nr)))
theorem dU.l29_P  :∀ k,dU.S29 H0 Ri R0  (dU.l29 F (fM.tw F)  k) (dU.pl29 F  k):=by
 intro k
 induction k with
 | zero=>unfold dU.S29;intros;rename_i hp;cases hp
 | succ k ih=>
  intro pt Dp Dq pU pa nJ wl wo tg eT th jM wq wt wu nr wv ww H MD ME h0 r hp
  obtain ⟨w0,s0,MF,wx⟩:=h0
  subst MD
  subst ME
  unfold dU.pl29 at hp
  unfold dU.l29
  refine aG hp (λhp=>?_) λhp=>?_
  ·refine lSl w0 3 ?_
   obtain ⟨n1,g1,hp⟩:=ag hp
   obtain ⟨p1,q1,i1,h1,j1⟩:=W.ixo (E:=eI) w0 (i:=2) rfl rfl wx g1
   refine ak i1 ?_
   obtain ⟨l2,e2,hp⟩:=ag hp
   refine fc eI w0 (i:=2) (j:=0) (p:=p1) rfl rfl wx g1 i1 e2 rfl rfl (λ_ h=>by have h:_=[_]:=h;subst h;exact rfl) λH3 k3 w3 s3 c3=>?_
   exact ih rfl ((dl e2).symm) ⟨w3,(s0.trans s3),(MF.step s3),c3⟩ hp
  ·refine lI w0 3 ?_
   refine lI w0 3 ?_
   refine lSl w0 3 ?_
   refine aE w0 1 λH4 w4 s4=>?_
   refine aE w4 1 λH5 w5 s5=>?_
   refine aE w5 1 λH6 w6 s6=>?_
   refine lI w6 1 ?_
   refine lI w6 1 ?_
   refine lSl w6 1 ?_
   obtain ⟨w7,s7⟩:=w6.pp [2] 4
   exact aD hp ⟨_,_,_,_,rfl,rfl,w7,(s0.trans (s4.trans (s5.trans (s6.trans s7)))),(wx.step (s4.trans (s5.trans (s6.trans s7))))⟩
def dU.p (F:Nat) (aa:Int):Option (Int×Int×List Int):=(fM.p F aa aa).bind λr2=>dU.pl29 F F aa r2.1 r2.2.1 r2.2.2 0
theorem dU.P {aa}  (h0:Inn H R0 λR=>True) {r:ann} (hp:dU.p F aa=some r):Rt (dU.tw F aa H) (dU.Q H R0 R0  r):=by
 obtain ⟨w0,_⟩:=h0
 unfold dU.p at hp
 unfold dU.tw dU.twX
 have s0:=w0.rf
 refine bm w0 λH1 w1 s1=>?_
 obtain ⟨r2,e2,hp⟩:=ag hp
 refine aI (fM.P ⟨w1,trivial⟩ e2) ?_
 rintro _ H3 ⟨o2a_3,o2n_3,o2k_3,rfl,rfl,w3,s3,f3_0⟩
 refine br (br (br (br (br (br (br ?_))))))
 refine bm w3 λH4 w4 s4=>?_
 refine aE w4 0 λH5 w5 s5=>?_
 refine aE w5 0 λH6 w6 s6=>?_
 refine aE w6 0 λH7 w7 s7=>?_
 obtain ⟨w8,s8⟩:=w7.nilS eI.z (by decide)
 obtain ⟨w9,s9⟩:=w8.pp [0,3,2,1] 4
 exact dU.l29_P F rfl rfl ⟨w9,(s0.trans (s1.trans (s3.trans (s4.trans (s5.trans (s6.trans (s7.trans (s8.trans s9)))))))),((CR.empty:CR eI _ _ [] []).step s9),(f3_0.step (s4.trans (s5.trans (s6.trans (s7.trans (s8.trans s9))))))⟩ hp
def fH.Q (H0:Hp) (Ri R0:am5)  (r:Int) (v:AV) (H':Hp):Prop:=v=(.i r)/\Out H0 Ri H' (R0) λR=>True
def fH.p (F:Nat) (aa:Int):Option (Int):=some (if (wrap .i64 (0 - aa))>aa then (wrap .i64 (0 - aa)) else aa)
theorem fH.P {aa}  (h0:Inn H R0 λR=>True) {r:Int} (hp:fH.p F aa=some r):Rt (fH.tw F aa H) (fH.Q H R0 R0  r):=by
 obtain ⟨w0,_⟩:=h0
 unfold fH.p at hp
 unfold fH.tw fH.twX
 have s0:=w0.rf
 exact aD hp ⟨rfl,w0,s0,trivial⟩
def dq.Q (H0:Hp) (Ri R0:am5) (dK:ON) (cL:Nat) (dL:Cap) (ky:Bool) (kz kA:anb) (r:am3) (v:AV) (H':Hp):Prop:=∃ rB:List AV,v=(.tup [])/\cL=(r).length/\Out H0 Ri H' (Rs.ow ky ⟨dK,cL,dL⟩ eI.z kz rB kA::R0) λR=>CR eI H' R rB (r)
def dq.S7 (H0:Hp) (Ri R0:am5) (kB:ON) (ju:Nat) (kC:Cap) (mp:Bool) (mq mr:anb) (C:aoH) (pC:Int->Int->Int->List Int->Int->Option (List Int)):Prop:=∀ {gm jm ti lA gn li wy eR},∀ {H:Hp},ju=li.length->(Out H0 Ri H (Rs.ow mp ⟨kB,ju,kC⟩ eI.z mq wy mr::Rs.blk eR [.i ti,.i lA,.sl ⟨kB,ju,kC⟩]::R0) λR=>CR eI H R wy li)->∀ {r:am3},pC gm jm lA li gn=some r->Rt (C gm jm eR 0 gn H) (dq.Q H0 Ri R0 kB ju kC mp mq mr r)
def dq.pl7 (F:Nat) :Nat->Int->Int->Int->List Int->Int->Option (List Int)
 | 0,_,_,_,_,_=>none
 | k+1,gm,jm,lA,li,gn=>(bif (decide (gn<lA)) then ((bB.p F lA li gm gn).bind λr2=>(bB.p F lA li jm gn).bind λr6=>(ix li (wrap .i64 ((wrap .i64 (gm * lA))+gn))).bind λn10=>(some (li.set n10 r6)).bind λl11=>(ix l11 (wrap .i64 ((wrap .i64 (jm * lA))+gn))).bind λn13=>(some (l11.set n13 r2)).bind λl14=>dq.pl7 F k gm jm lA l14 (wrap .i64 (gn+1))) else (some li))
theorem dq.l7_P {kB ju kC mp mq mr} :∀ k,dq.S7 H0 Ri R0 kB ju kC mp mq mr (dq.l7 F (bB.tw F)  k) (dq.pl7 F  k):=by
 intro k
 induction k with
 | zero=>unfold dq.S7;intros;rename_i hp;cases hp
 | succ k ih=>
  intro gm jm ti lA gn li wy eR H MG h0 r hp
  obtain ⟨w0,s0,rC⟩:=h0
  subst MG
  unfold dq.pl7 at hp
  unfold dq.l7
  refine lI w0 1 ?_
  refine aG hp (λhp=>?_) λhp=>?_
  ·refine lI w0 1 ?_
   refine lI w0 1 ?_
   refine lSl w0 1 ?_
   have f1:=W.borrow1 eI w0 rC
   obtain ⟨w1,s1⟩:=w0.right1
   obtain ⟨r2,e2,hp⟩:=ag hp
   refine aI (bB.P rfl ⟨w1,f1⟩ e2) ?_
   rintro _ H3 ⟨rfl,w3,s3,_⟩
   obtain ⟨w4,s4⟩:=W.frame1 w0 w3 s3
   refine br ?_
   refine lSl w4 1 ?_
   refine lI w4 1 ?_
   refine lI w4 1 ?_
   refine lI w4 1 ?_
   refine lSl w4 1 ?_
   have f5:=W.borrow1 eI w4 (rC.step s4)
   obtain ⟨w5,s5⟩:=w4.right1
   obtain ⟨r6,e6,hp⟩:=ag hp
   refine aI (bB.P rfl ⟨w5,f5⟩ e6) ?_
   rintro _ H7 ⟨rfl,w7,s7,_⟩
   obtain ⟨w8,s8⟩:=W.frame1 w4 w7 s7
   refine br ?_
   refine fg (W.cons_of (Rn:=[]) w5 w7 s7) ?_
   obtain ⟨n10,g10,hp⟩:=ag hp
   obtain ⟨p10,q10,i10,h10,j10⟩:=W.ixo (E:=eI) w8 (i:=0) rfl rfl (rC.step (s4.trans s8)) g10
   refine ak i10 ?_
   obtain ⟨l11,e11,hp⟩:=ag hp
   refine fc eI w8 (i:=0) (j:=0) (p:=p10) rfl rfl (rC.step (s4.trans s8)) g10 i10 e11 rfl rfl (λ_ h=>by have h:_=[_]:=h;subst h;exact rfl) λH12 k12 w12 s12 c12=>?_
   refine lSl w12 1 ?_
   refine lI w12 1 ?_
   obtain ⟨n13,g13,hp⟩:=ag hp
   obtain ⟨p13,q13,i13,h13,j13⟩:=W.ixo (E:=eI) w12 (i:=0) rfl rfl c12 g13
   refine ak i13 ?_
   obtain ⟨l14,e14,hp⟩:=ag hp
   refine fc eI w12 (i:=0) (j:=0) (p:=p13) rfl rfl c12 g13 i13 e14 rfl rfl (λ_ h=>by have h:_=[_]:=h;subst h;exact rfl) λH15 k15 w15 s15 c15=>?_
   exact ih ((dl e11).symm.trans (dl e14).symm) ⟨w15,(s0.trans (s4.trans (s8.trans (s12.trans s15)))),c15⟩ hp
  ·obtain ⟨w16,s16⟩:=w0.pp [0] 2
   exact aD hp ⟨_,rfl,rfl,w16,(s0.trans s16),(rC.step s16)⟩
def dq.p (F:Nat) (ac:Int) (bW:am3) (aF:Int) (ch:Int):Option (List Int):=dq.pl7 F F aF ch ac bW 0
theorem dq.P {aa ac aF ch dK cL dL bW ky kz kA ov} (gT:cL=bW.length) (h0:Inn H (Rs.ow ky ⟨dK,cL,dL⟩ eI.z kz ov kA::R0) λR=>CR eI H R ov bW) {r:am3} (hp:dq.p F ac bW aF ch=some r):Rt (dq.tw F aa ac ⟨dK,cL,dL⟩ aF ch H) (dq.Q H (Rs.ow ky ⟨dK,cL,dL⟩ eI.z kz ov kA::R0) R0 dK cL dL ky kz kA r):=by
 obtain ⟨w0,ga⟩:=h0
 subst gT
 unfold dq.p at hp
 unfold dq.tw dq.twX
 have s0:=w0.rf
 refine bm w0 λH1 w1 s1=>?_
 obtain ⟨w2,s2⟩:=w1.pp [1,0] 2
 exact dq.l7_P F rfl ⟨w2,(s0.trans (s1.trans s2)),(ga.step (s1.trans s2))⟩ hp
def dr.Q (H0:Hp) (Ri R0:am5) (dK:ON) (cL:Nat) (dL:Cap) (ky:Bool) (kz kA:anb) (r:am3) (v:AV) (H':Hp):Prop:=∃ rB:List AV,v=(.tup [])/\cL=(r).length/\Out H0 Ri H' (Rs.ow ky ⟨dK,cL,dL⟩ eI.z kz rB kA::R0) λR=>CR eI H' R rB (r)
def dr.S7 (H0:Hp) (Ri R0:am5) (kB:ON) (ju:Nat) (kC:Cap) (mp:Bool) (mq mr:anb) (C:aoH) (pC:Int->Int->Int->Int->List Int->Int->Option (List Int)):Prop:=∀ {gm jm ti lA gn li wy eR},∀ {H:Hp},ju=li.length->(Out H0 Ri H (Rs.ow mp ⟨kB,ju,kC⟩ eI.z mq wy mr::Rs.blk eR [.i ti,.i lA,.sl ⟨kB,ju,kC⟩]::R0) λR=>CR eI H R wy li)->∀ {r:am3},pC gm jm ti lA li gn=some r->Rt (C gm jm eR 0 gn H) (dr.Q H0 Ri R0 kB ju kC mp mq mr r)
def dr.pl7 (F:Nat) :Nat->Int->Int->Int->Int->List Int->Int->Option (List Int)
 | 0,_,_,_,_,_,_=>none
 | k+1,gm,jm,ti,lA,li,gn=>(bif (decide (gn<ti)) then ((bB.p F lA li gn gm).bind λr2=>(bB.p F lA li gn jm).bind λr6=>(ix li (wrap .i64 ((wrap .i64 (gn * lA))+gm))).bind λn10=>(some (li.set n10 r6)).bind λl11=>(ix l11 (wrap .i64 ((wrap .i64 (gn * lA))+jm))).bind λn13=>(some (l11.set n13 r2)).bind λl14=>dr.pl7 F k gm jm ti lA l14 (wrap .i64 (gn+1))) else (some li))
theorem dr.l7_P {kB ju kC mp mq mr} :∀ k,dr.S7 H0 Ri R0 kB ju kC mp mq mr (dr.l7 F (bB.tw F)  k) (dr.pl7 F  k):=by
 intro k
 induction k with
 | zero=>unfold dr.S7;intros;rename_i hp;cases hp
 | succ k ih=>
  intro gm jm ti lA gn li wy eR H MG h0 r hp
  obtain ⟨w0,s0,rC⟩:=h0
  subst MG
  unfold dr.pl7 at hp
  unfold dr.l7
  refine lI w0 1 ?_
  refine aG hp (λhp=>?_) λhp=>?_
  ·refine lI w0 1 ?_
   refine lI w0 1 ?_
   refine lSl w0 1 ?_
   have f1:=W.borrow1 eI w0 rC
   obtain ⟨w1,s1⟩:=w0.right1
   obtain ⟨r2,e2,hp⟩:=ag hp
   refine aI (bB.P rfl ⟨w1,f1⟩ e2) ?_
   rintro _ H3 ⟨rfl,w3,s3,_⟩
   obtain ⟨w4,s4⟩:=W.frame1 w0 w3 s3
   refine br ?_
   refine lSl w4 1 ?_
   refine lI w4 1 ?_
   refine lI w4 1 ?_
   refine lI w4 1 ?_
   refine lSl w4 1 ?_
   have f5:=W.borrow1 eI w4 (rC.step s4)
   obtain ⟨w5,s5⟩:=w4.right1
   obtain ⟨r6,e6,hp⟩:=ag hp
   refine aI (bB.P rfl ⟨w5,f5⟩ e6) ?_
   rintro _ H7 ⟨rfl,w7,s7,_⟩
   obtain ⟨w8,s8⟩:=W.frame1 w4 w7 s7
   refine br ?_
   refine fg (W.cons_of (Rn:=[]) w5 w7 s7) ?_
   obtain ⟨n10,g10,hp⟩:=ag hp
   obtain ⟨p10,q10,i10,h10,j10⟩:=W.ixo (E:=eI) w8 (i:=0) rfl rfl (rC.step (s4.trans s8)) g10
   refine ak i10 ?_
   obtain ⟨l11,e11,hp⟩:=ag hp
   refine fc eI w8 (i:=0) (j:=0) (p:=p10) rfl rfl (rC.step (s4.trans s8)) g10 i10 e11 rfl rfl (λ_ h=>by have h:_=[_]:=h;subst h;exact rfl) λH12 k12 w12 s12 c12=>?_
   refine lSl w12 1 ?_
   refine lI w12 1 ?_
   obtain ⟨n13,g13,hp⟩:=ag hp
   obtain ⟨p13,q13,i13,h13,j13⟩:=W.ixo (E:=eI) w12 (i:=0) rfl rfl c12 g13
   refine ak i13 ?_
   obtain ⟨l14,e14,hp⟩:=ag hp
   refine fc eI w12 (i:=0) (j:=0) (p:=p13) rfl rfl c12 g13 i13 e14 rfl rfl (λ_ h=>by have h:_=[_]:=h;subst h;exact rfl) λH15 k15 w15 s15 c15=>?_
   exact ih ((dl e11).symm.trans (dl e14).symm) ⟨w15,(s0.trans (s4.trans (s8.trans (s12.trans s15)))),c15⟩ hp
  ·obtain ⟨w16,s16⟩:=w0.pp [0] 2
   exact aD hp ⟨_,rfl,rfl,w16,(s0.trans s16),(rC.step s16)⟩
def dr.p (F:Nat) (aa:Int) (ac:Int) (bW:am3) (aF:Int) (ch:Int):Option (List Int):=dr.pl7 F F aF ch aa ac bW 0
theorem dr.P {aa ac aF ch dK cL dL bW ky kz kA ov} (gT:cL=bW.length) (h0:Inn H (Rs.ow ky ⟨dK,cL,dL⟩ eI.z kz ov kA::R0) λR=>CR eI H R ov bW) {r:am3} (hp:dr.p F aa ac bW aF ch=some r):Rt (dr.tw F aa ac ⟨dK,cL,dL⟩ aF ch H) (dr.Q H (Rs.ow ky ⟨dK,cL,dL⟩ eI.z kz ov kA::R0) R0 dK cL dL ky kz kA r):=by
 obtain ⟨w0,ga⟩:=h0
 subst gT
 unfold dr.p at hp
 unfold dr.tw dr.twX
 have s0:=w0.rf
 refine bm w0 λH1 w1 s1=>?_
 obtain ⟨w2,s2⟩:=w1.pp [1,0] 2
 exact dr.l7_P F rfl ⟨w2,(s0.trans (s1.trans s2)),(ga.step (s1.trans s2))⟩ hp
def aL.Q (H0:Hp) (Ri R0:am5) (bC bi bD bv bj bg bw bz bU bA:Int) (cQ ef cJ eg el:ON) (cf dh ca di dj aa:Nat) (cR eo cK es et:Cap) (dR:am3) (fo gb fp gc gd aB:Bool) (fq ft gf gg fu fv gh gi gj gk:anb) (r:ano) (v:AV) (H':Hp):Prop:=∃ kD:List AV,∃ lC:List AV,∃ kE:List AV,∃ lD:List AV,∃ lE:List AV,v=(.bool r.1)/\cf=(r.2.1).length/\dh=(r.2.2.1).length/\ca=(r.2.2.2.1).length/\di=(r.2.2.2.2.1).length/\dj=(r.2.2.2.2.2).length/\Out H0 Ri H' (Rs.ow fo ⟨cQ,cf,cR⟩ eI.z fq kD ft::Rs.ow gb ⟨ef,dh,eo⟩ eI.z gf lC gg::Rs.ow fp ⟨cJ,ca,cK⟩ eI.z fu kE fv::Rs.ow gc ⟨eg,di,es⟩ eI.z gh lD gi::Rs.ow gd ⟨el,dj,et⟩ eI.z gj lE gk::Rs.blk aa [.i bC,.i bi,.sl ⟨cQ,cf,cR⟩,.i bD,.i bv,.sl ⟨ef,dh,eo⟩,.i bj,.i bg,.sl ⟨cJ,ca,cK⟩,.i bw,.i bz,.sl ⟨eg,di,es⟩,.i bU,.i bA,.sl ⟨el,dj,et⟩,.bool aB]::R0) λR=>CR eI H' R kD (r.2.1)/\CR eI H' R lC (r.2.2.1)/\CR eI H' R kE (r.2.2.2.1)/\CR eI H' R lD (r.2.2.2.2.1)/\CR eI H' R lE (r.2.2.2.2.2)
def aL.S29 (H0:Hp) (Ri R0:am5) (aA ap aK av aw ar ax ay aO az:Int) (ba bL aU bM bN:ON) (aN bp aM bs bt aJ:Nat) (bc bO aV bP bQ:Cap) (cF:am3) (ci cj ck cl cn bV:Bool) (co cp cq ct cu cv cw cz cA cB:anb) (C:anR) (pC:anV):Prop:=∀ {aP aW aQ aX aY cT cU cV cW cX gp gB qB qC},∀ {H:Hp},aN=aP.length->bp=aW.length->aM=aQ.length->bs=aX.length->bt=aY.length->(Out H0 Ri H (Rs.ow ci ⟨ba,aN,bc⟩ eI.z co cT cp::Rs.ow cj ⟨bL,bp,bO⟩ eI.z cq cU ct::Rs.ow ck ⟨aU,aM,aV⟩ eI.z cu cV cv::Rs.ow cl ⟨bM,bs,bP⟩ eI.z cw cW cz::Rs.ow cn ⟨bN,bt,bQ⟩ eI.z cA cX cB::Rs.blk aJ [.i aA,.i ap,.sl ⟨ba,aN,bc⟩,.i aK,.i av,.sl ⟨bL,bp,bO⟩,.i aw,.i ar,.sl ⟨aU,aM,aV⟩,.i ax,.i ay,.sl ⟨bM,bs,bP⟩,.i aO,.i az,.sl ⟨bN,bt,bQ⟩,.bool bV]::R0) λR=>CR eI H R cT aP/\CR eI H R cU aW/\CR eI H R cV aQ/\CR eI H R cW aX/\CR eI H R cX aY)->∀ {r:ano},pC aA ap aP av aW aw ar aQ ax ay aX az aY gp gB qB qC=some r->Rt (C aJ 0 gp gB qB qC H) (aL.Q H0 Ri R0 aA ap aK av aw ar ax ay aO az ba bL aU bM bN aN bp aM bs bt aJ bc bO aV bP bQ cF ci cj ck cl cn bV co cp cq ct cu cv cw cz cA cB r)
def aL.S469 (H0:Hp) (Ri R0:am5) (aA ap aK av aw ar ax ay aO az:Int) (ba bL aU bM bN:ON) (aN bp aM bs bt aJ:Nat) (bc bO aV bP bQ:Cap) (cF:am3) (ci cj ck cl cn bV:Bool) (co cp cq ct cu cv cw cz cA cB:anb) (C:aon) (pC:aoy):Prop:=∀ {aP aW aQ aX aY cT cU cV cW cX ni nj nM ko kp},∀ {H:Hp},aN=aP.length->bp=aW.length->aM=aQ.length->bs=aX.length->bt=aY.length->(Out H0 Ri H (Rs.ow ci ⟨ba,aN,bc⟩ eI.z co cT cp::Rs.ow cj ⟨bL,bp,bO⟩ eI.z cq cU ct::Rs.ow ck ⟨aU,aM,aV⟩ eI.z cu cV cv::Rs.ow cl ⟨bM,bs,bP⟩ eI.z cw cW cz::Rs.ow cn ⟨bN,bt,bQ⟩ eI.z cA cX cB::Rs.blk aJ [.i aA,.i ap,.sl ⟨ba,aN,bc⟩,.i aK,.i av,.sl ⟨bL,bp,bO⟩,.i aw,.i ar,.sl ⟨aU,aM,aV⟩,.i ax,.i ay,.sl ⟨bM,bs,bP⟩,.i aO,.i az,.sl ⟨bN,bt,bQ⟩,.bool bV]::R0) λR=>CR eI H R cT aP/\CR eI H R cU aW/\CR eI H R cV aQ/\CR eI H R cW aX/\CR eI H R cX aY)->∀ {r:ano},pC aA ap aP av aW aw ar aQ ax ay aX az aY ni nj nM ko kp=some r->Rt (C aJ 0 ni nj nM ko kp H) (aL.Q H0 Ri R0 aA ap aK av aw ar ax ay aO az ba bL aU bM bN aN bp aM bs bt aJ bc bO aV bP bQ cF ci cj ck cl cn bV co cp cq ct cu cv cw cz cA cB r)
def aL.pj10 (F:Nat) (tj:aoy) (aA:Int) (ap:Int) (aP:am3) (av:Int) (aW:am3) (aw:Int) (ar:Int) (aQ:am3) (ax:Int) (ay:Int) (aX:am3) (az:Int) (aY:am3) (yH:Int) (yI:Int) (yJ:Int) (yK:Int) (yL:Int):Option (Bool×List Int×List Int×List Int×List Int×List Int):=tj aA ap aP av aW aw ar aQ ax ay aX az aY yH yI yJ yK (wrap .i64 (yL+1))
theorem aL.j10_P {aA ap aK av aw ar ax ay aO az ba bL aU bM bN aN bp aM bs bt aJ bc bO aV bP bQ cF ci cj ck cl cn bV co cp cq ct cu cv cw cz cA cB} {C469_:aon} {tj:aoy} (hC469:aL.S469 H0 Ri R0 aA ap aK av aw ar ax ay aO az ba bL aU bM bN aN bp aM bs bt aJ bc bO aV bP bQ cF ci cj ck cl cn bV co cp cq ct cu cv cw cz cA cB C469_ tj) {aP aW aQ aX aY cT cU cV cW cX yH yI yJ yK yL} (fw:aN=aP.length) (fx:bp=aW.length) (fy:aM=aQ.length) (fz:bs=aX.length) (fA:bt=aY.length) (h0:Out H0 Ri H (Rs.ow ci ⟨ba,aN,bc⟩ eI.z co cT cp::Rs.ow cj ⟨bL,bp,bO⟩ eI.z cq cU ct::Rs.ow ck ⟨aU,aM,aV⟩ eI.z cu cV cv::Rs.ow cl ⟨bM,bs,bP⟩ eI.z cw cW cz::Rs.ow cn ⟨bN,bt,bQ⟩ eI.z cA cX cB::Rs.blk aJ [.i aA,.i ap,.sl ⟨ba,aN,bc⟩,.i aK,.i av,.sl ⟨bL,bp,bO⟩,.i aw,.i ar,.sl ⟨aU,aM,aV⟩,.i ax,.i ay,.sl ⟨bM,bs,bP⟩,.i aO,.i az,.sl ⟨bN,bt,bQ⟩,.bool bV]::R0) λR=>CR eI H R cT aP/\CR eI H R cU aW/\CR eI H R cV aQ/\CR eI H R cW aX/\CR eI H R cX aY) {r:ano} (hp:aL.pj10 F tj aA ap aP av aW aw ar aQ ax ay aX az aY yH yI yJ yK yL=some r):Rt (aL.j10 F (bB.tw F) (fH.tw F) (dq.tw F) (dr.tw F) C469_ aJ 0 yH yI yJ yK yL H) (aL.Q H0 Ri R0 aA ap aK av aw ar ax ay aO az ba bL aU bM bN aN bp aM bs bt aJ bc bO aV bP bQ cF ci cj ck cl cn bV co cp cq ct cu cv cw cz cA cB r):=by
 obtain ⟨w0,s0,cY,dp,dc,dA,dB⟩:=h0
 subst fw
 subst fx
 subst fy
 subst fz
 subst fA
 unfold aL.pj10 at hp
 unfold aL.j10
 exact hC469 rfl rfl rfl rfl rfl ⟨w0,s0,cY,dp,dc,dA,dB⟩ hp
def aL.pj8 (F:Nat) (eJ:anV) (aA:Int) (ap:Int) (aP:am3) (av:Int) (aW:am3) (aw:Int) (ar:Int) (aQ:am3) (ax:Int) (ay:Int) (aX:am3) (az:Int) (aY:am3) (yz:Int) (yA:Int) (yB:Int) (yC:Int):Option (Bool×List Int×List Int×List Int×List Int×List Int):=eJ aA ap aP av aW aw ar aQ ax ay aX az aY yz yA yB (wrap .i64 (yC+1))
theorem aL.j8_P {aA ap aK av aw ar ax ay aO az ba bL aU bM bN aN bp aM bs bt aJ bc bO aV bP bQ cF ci cj ck cl cn bV co cp cq ct cu cv cw cz cA cB} {C29_:anR} {eJ:anV} (hC29:aL.S29 H0 Ri R0 aA ap aK av aw ar ax ay aO az ba bL aU bM bN aN bp aM bs bt aJ bc bO aV bP bQ cF ci cj ck cl cn bV co cp cq ct cu cv cw cz cA cB C29_ eJ) {aP aW aQ aX aY cT cU cV cW cX yz yA yB yC} (fw:aN=aP.length) (fx:bp=aW.length) (fy:aM=aQ.length) (fz:bs=aX.length) (fA:bt=aY.length) (h0:Out H0 Ri H (Rs.ow ci ⟨ba,aN,bc⟩ eI.z co cT cp::Rs.ow cj ⟨bL,bp,bO⟩ eI.z cq cU ct::Rs.ow ck ⟨aU,aM,aV⟩ eI.z cu cV cv::Rs.ow cl ⟨bM,bs,bP⟩ eI.z cw cW cz::Rs.ow cn ⟨bN,bt,bQ⟩ eI.z cA cX cB::Rs.blk aJ [.i aA,.i ap,.sl ⟨ba,aN,bc⟩,.i aK,.i av,.sl ⟨bL,bp,bO⟩,.i aw,.i ar,.sl ⟨aU,aM,aV⟩,.i ax,.i ay,.sl ⟨bM,bs,bP⟩,.i aO,.i az,.sl ⟨bN,bt,bQ⟩,.bool bV]::R0) λR=>CR eI H R cT aP/\CR eI H R cU aW/\CR eI H R cV aQ/\CR eI H R cW aX/\CR eI H R cX aY) {r:ano} (hp:aL.pj8 F eJ aA ap aP av aW aw ar aQ ax ay aX az aY yz yA yB yC=some r):Rt (aL.j8 F (bB.tw F) (fH.tw F) (dq.tw F) (dr.tw F) C29_ aJ 0 yz yA yB yC H) (aL.Q H0 Ri R0 aA ap aK av aw ar ax ay aO az ba bL aU bM bN aN bp aM bs bt aJ bc bO aV bP bQ cF ci cj ck cl cn bV co cp cq ct cu cv cw cz cA cB r):=by
 obtain ⟨w0,s0,cY,dp,dc,dA,dB⟩:=h0
 subst fw
 subst fx
 subst fy
 subst fz
 subst fA
 unfold aL.pj8 at hp
 unfold aL.j8
 exact hC29 rfl rfl rfl rfl rfl ⟨w0,s0,cY,dp,dc,dA,dB⟩ hp
def aL.pj9 (F:Nat) (eJ:anV) (aA:Int) (ap:Int) (aP:am3) (av:Int) (aW:am3) (aw:Int) (ar:Int) (aQ:am3) (ax:Int) (ay:Int) (aX:am3) (az:Int) (aY:am3) (yD:Int) (yE:Int) (yF:Int) (yG:Int):Option (Bool×List Int×List Int×List Int×List Int×List Int):=aL.pj8 F eJ aA ap aP av aW aw ar aQ ax ay aX az aY yD yE yF yG
theorem aL.j9_P {aA ap aK av aw ar ax ay aO az ba bL aU bM bN aN bp aM bs bt aJ bc bO aV bP bQ cF ci cj ck cl cn bV co cp cq ct cu cv cw cz cA cB} {C29_:anR} {eJ:anV} (hC29:aL.S29 H0 Ri R0 aA ap aK av aw ar ax ay aO az ba bL aU bM bN aN bp aM bs bt aJ bc bO aV bP bQ cF ci cj ck cl cn bV co cp cq ct cu cv cw cz cA cB C29_ eJ) {aP aW aQ aX aY cT cU cV cW cX yD yE yF yG} (fw:aN=aP.length) (fx:bp=aW.length) (fy:aM=aQ.length) (fz:bs=aX.length) (fA:bt=aY.length) (h0:Out H0 Ri H (Rs.ow ci ⟨ba,aN,bc⟩ eI.z co cT cp::Rs.ow cj ⟨bL,bp,bO⟩ eI.z cq cU ct::Rs.ow ck ⟨aU,aM,aV⟩ eI.z cu cV cv::Rs.ow cl ⟨bM,bs,bP⟩ eI.z cw cW cz::Rs.ow cn ⟨bN,bt,bQ⟩ eI.z cA cX cB::Rs.blk aJ [.i aA,.i ap,.sl ⟨ba,aN,bc⟩,.i aK,.i av,.sl ⟨bL,bp,bO⟩,.i aw,.i ar,.sl ⟨aU,aM,aV⟩,.i ax,.i ay,.sl ⟨bM,bs,bP⟩,.i aO,.i az,.sl ⟨bN,bt,bQ⟩,.bool bV]::R0) λR=>CR eI H R cT aP/\CR eI H R cU aW/\CR eI H R cV aQ/\CR eI H R cW aX/\CR eI H R cX aY) {r:ano} (hp:aL.pj9 F eJ aA ap aP av aW aw ar aQ ax ay aX az aY yD yE yF yG=some r):Rt (aL.j9 F (bB.tw F) (fH.tw F) (dq.tw F) (dr.tw F) C29_ aJ 0 yD yE yF yG H) (aL.Q H0 Ri R0 aA ap aK av aw ar ax ay aO az ba bL aU bM bN aN bp aM bs bt aJ bc bO aV bP bQ cF ci cj ck cl cn bV co cp cq ct cu cv cw cz cA cB r):=by
 obtain ⟨w0,s0,cY,dp,dc,dA,dB⟩:=h0
 subst fw
 subst fx
 subst fy
 subst fz
 subst fA
 unfold aL.pj9 at hp
 unfold aL.j9
 exact aL.j8_P (@hC29) rfl rfl rfl rfl rfl ⟨w0,s0,cY,dp,dc,dA,dB⟩ hp
def aL.pl469 (F:Nat) (eJ:anV):Nat->Int->Int->List Int->Int->List Int->Int->Int->List Int->Int->Int->List Int->Int->List Int->Int->Int->Int->Int->Int->Option (Bool×List Int×List Int×List Int×List Int×List Int)
 | 0,_,_,_,_,_,_,_,_,_,_,_,_,_,_,_,_,_,_=>none
 | k+1,aA,ap,aP,av,aW,aw,ar,aQ,ax,ay,aX,az,aY,ni,nj,nM,ko,kp=>(bif (decide (kp<ap)) then ((bB.p F ap aP ko kp).bind λr2=>(fH.p F r2).bind λr5=>(bif (decide (r5>0)) then ((bif (decide (nj<0)) then (aL.pl469 F eJ k aA ap aP av aW aw ar aQ ax ay aX az aY ni ko kp ko (wrap .i64 (kp+1))) else ((bB.p F ap aP nj nM).bind λr8=>(fH.p F r8).bind λr11=>(bif (decide (r5<r11)) then (aL.pj10 F (aL.pl469 F eJ k) aA ap aP av aW aw ar aQ ax ay aX az aY ni ko kp ko kp) else (aL.pj10 F (aL.pl469 F eJ k) aA ap aP av aW aw ar aQ ax ay aX az aY ni nj nM ko kp))))) else (aL.pl469 F eJ k aA ap aP av aW aw ar aQ ax ay aX az aY ni nj nM ko (wrap .i64 (kp+1))))) else (aL.pj9 F eJ aA ap aP av aW aw ar aQ ax ay aX az aY ni nj nM ko))
theorem aL.l469_P {aA ap aK av aw ar ax ay aO az ba bL aU bM bN aN bp aM bs bt aJ bc bO aV bP bQ cF ci cj ck cl cn bV co cp cq ct cu cv cw cz cA cB} {C29_:anR} {eJ:anV} (hC29:aL.S29 H0 Ri R0 aA ap aK av aw ar ax ay aO az ba bL aU bM bN aN bp aM bs bt aJ bc bO aV bP bQ cF ci cj ck cl cn bV co cp cq ct cu cv cw cz cA cB C29_ eJ):∀ k,aL.S469 H0 Ri R0 aA ap aK av aw ar ax ay aO az ba bL aU bM bN aN bp aM bs bt aJ bc bO aV bP bQ cF ci cj ck cl cn bV co cp cq ct cu cv cw cz cA cB (aL.l469 F (bB.tw F) (fH.tw F) (dq.tw F) (dr.tw F) C29_ k) (aL.pl469 F eJ k):=by
 intro k
 induction k with
 | zero=>unfold aL.S469;intros;rename_i hp;cases hp
 | succ k ih=>
  intro aP aW aQ aX aY cT cU cV cW cX ni nj nM ko kp H fw fx fy fz fA h0 r hp
  obtain ⟨w0,s0,cY,dp,dc,dA,dB⟩:=h0
  subst fw
  subst fx
  subst fy
  subst fz
  subst fA
  unfold aL.pl469 at hp
  unfold aL.l469
  refine lI w0 5 ?_
  refine aG hp (λhp=>?_) λhp=>?_
  ·refine lI w0 5 ?_
   refine lI w0 5 ?_
   refine lSl w0 5 ?_
   have f1:=W.borrow1 eI w0 cY
   obtain ⟨w1,s1⟩:=w0.right1
   obtain ⟨r2,e2,hp⟩:=ag hp
   refine aI (bB.P rfl ⟨w1,f1⟩ e2) ?_
   rintro _ H3 ⟨rfl,w3,s3,_⟩
   obtain ⟨w4,s4⟩:=W.frame1 w0 w3 s3
   refine br ?_
   obtain ⟨r5,e5,hp⟩:=ag hp
   refine aI (fH.P ⟨w4,trivial⟩ e5) ?_
   rintro _ H6 ⟨rfl,w6,s6,_⟩
   refine br ?_
   refine aG hp (λhp=>?_) λhp=>?_
   ·refine aG hp (λhp=>?_) λhp=>?_
    ·exact ih rfl rfl rfl rfl rfl ⟨w6,(s0.trans (s4.trans s6)),(cY.step (s4.trans s6)),(dp.step (s4.trans s6)),(dc.step (s4.trans s6)),(dA.step (s4.trans s6)),(dB.step (s4.trans s6))⟩ hp
    ·refine lI w6 5 ?_
     refine lI w6 5 ?_
     refine lSl w6 5 ?_
     have f7:=W.borrow1 eI w6 (cY.step (s4.trans s6))
     obtain ⟨w7,s7⟩:=w6.right1
     obtain ⟨r8,e8,hp⟩:=ag hp
     refine aI (bB.P rfl ⟨w7,f7⟩ e8) ?_
     rintro _ H9 ⟨rfl,w9,s9,_⟩
     obtain ⟨w10,s10⟩:=W.frame1 w6 w9 s9
     refine br ?_
     obtain ⟨r11,e11,hp⟩:=ag hp
     refine aI (fH.P ⟨w10,trivial⟩ e11) ?_
     rintro _ H12 ⟨rfl,w12,s12,_⟩
     refine br ?_
     refine aG hp (λhp=>?_) λhp=>?_
     ·exact aL.j10_P (@ih) rfl rfl rfl rfl rfl ⟨w12,(s0.trans (s4.trans (s6.trans (s10.trans s12)))),(cY.step (s4.trans (s6.trans (s10.trans s12)))),(dp.step (s4.trans (s6.trans (s10.trans s12)))),(dc.step (s4.trans (s6.trans (s10.trans s12)))),(dA.step (s4.trans (s6.trans (s10.trans s12)))),(dB.step (s4.trans (s6.trans (s10.trans s12))))⟩ hp
     ·exact aL.j10_P (@ih) rfl rfl rfl rfl rfl ⟨w12,(s0.trans (s4.trans (s6.trans (s10.trans s12)))),(cY.step (s4.trans (s6.trans (s10.trans s12)))),(dp.step (s4.trans (s6.trans (s10.trans s12)))),(dc.step (s4.trans (s6.trans (s10.trans s12)))),(dA.step (s4.trans (s6.trans (s10.trans s12)))),(dB.step (s4.trans (s6.trans (s10.trans s12))))⟩ hp
   ·exact ih rfl rfl rfl rfl rfl ⟨w6,(s0.trans (s4.trans s6)),(cY.step (s4.trans s6)),(dp.step (s4.trans s6)),(dc.step (s4.trans s6)),(dA.step (s4.trans s6)),(dB.step (s4.trans s6))⟩ hp
  ·exact aL.j9_P (@hC29) rfl rfl rfl rfl rfl ⟨w0,s0,cY,dp,dc,dA,dB⟩ hp
def aL.S65513 (H0:Hp) (Ri R0:am5) (aA ap aK av aw ar ax ay aO az:Int) (ba bL aU bM bN:ON) (aN bp aM bs bt aJ:Nat) (bc bO aV bP bQ:Cap) (cF:am3) (ci cj ck cl cn bV:Bool) (co cp cq ct cu cv cw cz cA cB:anb) (C:anw) (pC:Int->List Int->Int->List Int->Int->List Int->List Int->List Int->Int->Int->Option (Bool×List Int×List Int×List Int×List Int×List Int)):Prop:=∀ {aP aW aQ aX aY cT cU cV cW cX nK nL},∀ {H:Hp},aN=aP.length->bp=aW.length->aM=aQ.length->bs=aX.length->bt=aY.length->(Out H0 Ri H (Rs.ow ci ⟨ba,aN,bc⟩ eI.z co cT cp::Rs.ow cj ⟨bL,bp,bO⟩ eI.z cq cU ct::Rs.ow ck ⟨aU,aM,aV⟩ eI.z cu cV cv::Rs.ow cl ⟨bM,bs,bP⟩ eI.z cw cW cz::Rs.ow cn ⟨bN,bt,bQ⟩ eI.z cA cX cB::Rs.blk aJ [.i aA,.i ap,.sl ⟨ba,aN,bc⟩,.i aK,.i av,.sl ⟨bL,bp,bO⟩,.i aw,.i ar,.sl ⟨aU,aM,aV⟩,.i ax,.i ay,.sl ⟨bM,bs,bP⟩,.i aO,.i az,.sl ⟨bN,bt,bQ⟩,.bool bV]::R0) λR=>CR eI H R cT aP/\CR eI H R cU aW/\CR eI H R cV aQ/\CR eI H R cW aX/\CR eI H R cX aY)->∀ {r:ano},pC ap aP av aW ar aQ aX aY nK nL=some r->Rt (C aJ 0 nK nL H) (aL.Q H0 Ri R0 aA ap aK av aw ar ax ay aO az ba bL aU bM bN aN bp aM bs bt aJ bc bO aV bP bQ cF ci cj ck cl cn bV co cp cq ct cu cv cw cz cA cB r)
def aL.S65515 (H0:Hp) (Ri R0:am5) (aA ap aK av aw ar ax ay aO az:Int) (ba bL aU bM bN:ON) (aN bp aM bs bt aJ:Nat) (bc bO aV bP bQ:Cap) (cF:am3) (ci cj ck cl cn bV:Bool) (co cp cq ct cu cv cw cz cA cB:anb) (C:anw) (pC:List Int->Int->List Int->Int->List Int->List Int->List Int->Int->Int->Option (Bool×List Int×List Int×List Int×List Int×List Int)):Prop:=∀ {aP aW aQ aX aY cT cU cV cW cX nh lX},∀ {H:Hp},aN=aP.length->bp=aW.length->aM=aQ.length->bs=aX.length->bt=aY.length->(Out H0 Ri H (Rs.ow ci ⟨ba,aN,bc⟩ eI.z co cT cp::Rs.ow cj ⟨bL,bp,bO⟩ eI.z cq cU ct::Rs.ow ck ⟨aU,aM,aV⟩ eI.z cu cV cv::Rs.ow cl ⟨bM,bs,bP⟩ eI.z cw cW cz::Rs.ow cn ⟨bN,bt,bQ⟩ eI.z cA cX cB::Rs.blk aJ [.i aA,.i ap,.sl ⟨ba,aN,bc⟩,.i aK,.i av,.sl ⟨bL,bp,bO⟩,.i aw,.i ar,.sl ⟨aU,aM,aV⟩,.i ax,.i ay,.sl ⟨bM,bs,bP⟩,.i aO,.i az,.sl ⟨bN,bt,bQ⟩,.bool bV]::R0) λR=>CR eI H R cT aP/\CR eI H R cU aW/\CR eI H R cV aQ/\CR eI H R cW aX/\CR eI H R cX aY)->∀ {r:ano},pC aP av aW ar aQ aX aY nh lX=some r->Rt (C aJ 0 nh lX H) (aL.Q H0 Ri R0 aA ap aK av aw ar ax ay aO az ba bL aU bM bN aN bp aM bs bt aJ bc bO aV bP bQ cF ci cj ck cl cn bV co cp cq ct cu cv cw cz cA cB r)
def aL.pl65515 (F:Nat) :Nat->List Int->Int->List Int->Int->List Int->List Int->List Int->Int->Int->Option (Bool×List Int×List Int×List Int×List Int×List Int)
 | 0,_,_,_,_,_,_,_,_,_=>none
 | k+1,aP,av,aW,ar,aQ,aX,aY,nh,lX=>(bif (decide (lX<av)) then ((bB.p F av aW nh lX).bind λr3=>(ix aW (wrap .i64 ((wrap .i64 (nh * av))+lX))).bind λn7=>(some (aW.set n7 (wrap .i64 (0 - r3)))).bind λl8=>(bB.p F ar aQ lX nh).bind λr12=>(ix aQ (wrap .i64 ((wrap .i64 (lX * ar))+nh))).bind λn16=>(some (aQ.set n16 (wrap .i64 (0 - r12)))).bind λl17=>aL.pl65515 F k aP av l8 ar l17 aX aY nh (wrap .i64 (lX+1))) else (some (true,aP,aW,aQ,aX,aY)))
theorem aL.l65515_P {aA ap aK av aw ar ax ay aO az ba bL aU bM bN aN bp aM bs bt aJ bc bO aV bP bQ cF ci cj ck cl cn bV co cp cq ct cu cv cw cz cA cB} :∀ k,aL.S65515 H0 Ri R0 aA ap aK av aw ar ax ay aO az ba bL aU bM bN aN bp aM bs bt aJ bc bO aV bP bQ cF ci cj ck cl cn bV co cp cq ct cu cv cw cz cA cB (aL.l65515 F (bB.tw F) (fH.tw F) (dq.tw F) (dr.tw F)  k) (aL.pl65515 F  k):=by
 intro k
 induction k with
 | zero=>unfold aL.S65515;intros;rename_i hp;cases hp
 | succ k ih=>
  intro aP aW aQ aX aY cT cU cV cW cX nh lX H fw fx fy fz fA h0 r hp
  obtain ⟨w0,s0,cY,dp,dc,dA,dB⟩:=h0
  subst fw
  subst fx
  subst fy
  subst fz
  subst fA
  unfold aL.pl65515 at hp
  unfold aL.l65515
  refine lI w0 5 ?_
  refine aG hp (λhp=>?_) λhp=>?_
  ·refine lSl w0 5 ?_
   refine lI w0 5 ?_
   refine lI w0 5 ?_
   refine lI w0 5 ?_
   refine lSl w0 5 ?_
   obtain ⟨w1,s1⟩:=w0.pp [1,0,2,3,4,5] 6
   have f2:=W.borrow1 eI w1 (dp.step s1)
   obtain ⟨w2,s2⟩:=w1.right1
   obtain ⟨r3,e3,hp⟩:=ag hp
   refine aI (bB.P rfl ⟨w2,f2⟩ e3) ?_
   rintro _ H4 ⟨rfl,w4,s4,_⟩
   obtain ⟨w5,s5⟩:=W.frame1 w1 w4 s4
   refine br ?_
   refine fg (bo.tr (bo.refl _) s1 (W.cons_of (Rn:=[]) w2 w4 s4)) ?_
   obtain ⟨n7,g7,hp⟩:=ag hp
   obtain ⟨p7,q7,i7,h7,j7⟩:=W.ixo (E:=eI) w5 (i:=0) rfl rfl (dp.step (s1.trans s5)) g7
   refine ak i7 ?_
   obtain ⟨l8,e8,hp⟩:=ag hp
   refine fc eI w5 (i:=0) (j:=0) (p:=p7) rfl rfl (dp.step (s1.trans s5)) g7 i7 e8 rfl rfl (λ_ h=>by have h:_=[_]:=h;subst h;exact rfl) λH9 k9 w9 s9 c9=>?_
   refine lSl w9 5 ?_
   refine lI w9 5 ?_
   refine lI w9 5 ?_
   refine lI w9 5 ?_
   refine lSl w9 5 ?_
   obtain ⟨w10,s10⟩:=w9.pp [2,0,1,3,4,5] 6
   have f11:=W.borrow1 eI w10 (dc.step (s1.trans (s5.trans (s9.trans s10))))
   obtain ⟨w11,s11⟩:=w10.right1
   obtain ⟨r12,e12,hp⟩:=ag hp
   refine aI (bB.P rfl ⟨w11,f11⟩ e12) ?_
   rintro _ H13 ⟨rfl,w13,s13,_⟩
   obtain ⟨w14,s14⟩:=W.frame1 w10 w13 s13
   refine br ?_
   refine fg (bo.tr (bo.refl _) s10 (W.cons_of (Rn:=[]) w11 w13 s13)) ?_
   obtain ⟨n16,g16,hp⟩:=ag hp
   obtain ⟨p16,q16,i16,h16,j16⟩:=W.ixo (E:=eI) w14 (i:=0) rfl rfl (dc.step (s1.trans (s5.trans (s9.trans (s10.trans s14))))) g16
   refine ak i16 ?_
   obtain ⟨l17,e17,hp⟩:=ag hp
   refine fc eI w14 (i:=0) (j:=0) (p:=p16) rfl rfl (dc.step (s1.trans (s5.trans (s9.trans (s10.trans s14))))) g16 i16 e17 rfl rfl (λ_ h=>by have h:_=[_]:=h;subst h;exact rfl) λH18 k18 w18 s18 c18=>?_
   obtain ⟨w19,s19⟩:=w18.pp [2,1,0,3,4,5] 6
   exact ih rfl ((dl e8).symm) ((dl e17).symm) rfl rfl ⟨w19,(s0.trans (s1.trans (s5.trans (s9.trans (s10.trans (s14.trans (s18.trans s19))))))),(cY.step (s1.trans (s5.trans (s9.trans (s10.trans (s14.trans (s18.trans s19))))))),(c9.step (s10.trans (s14.trans (s18.trans s19)))),(c18.step s19),(dA.step (s1.trans (s5.trans (s9.trans (s10.trans (s14.trans (s18.trans s19))))))),(dB.step (s1.trans (s5.trans (s9.trans (s10.trans (s14.trans (s18.trans s19)))))))⟩ hp
  ·exact aD hp ⟨_,_,_,_,_,rfl,rfl,rfl,rfl,rfl,rfl,w0,s0,cY,dp,dc,dA,dB⟩
def aL.pj5 (F:Nat)  (aP:am3) (av:Int) (aW:am3) (ar:Int) (aQ:am3) (aX:am3) (aY:am3) (yy:Int):Option (Bool×List Int×List Int×List Int×List Int×List Int):=aL.pl65515 F F aP av aW ar aQ aX aY yy 0
theorem aL.j5_P {aA ap aK av aw ar ax ay aO az ba bL aU bM bN aN bp aM bs bt aJ bc bO aV bP bQ cF ci cj ck cl cn bV co cp cq ct cu cv cw cz cA cB}  {aP aW aQ aX aY cT cU cV cW cX yy} (fw:aN=aP.length) (fx:bp=aW.length) (fy:aM=aQ.length) (fz:bs=aX.length) (fA:bt=aY.length) (h0:Out H0 Ri H (Rs.ow ci ⟨ba,aN,bc⟩ eI.z co cT cp::Rs.ow cj ⟨bL,bp,bO⟩ eI.z cq cU ct::Rs.ow ck ⟨aU,aM,aV⟩ eI.z cu cV cv::Rs.ow cl ⟨bM,bs,bP⟩ eI.z cw cW cz::Rs.ow cn ⟨bN,bt,bQ⟩ eI.z cA cX cB::Rs.blk aJ [.i aA,.i ap,.sl ⟨ba,aN,bc⟩,.i aK,.i av,.sl ⟨bL,bp,bO⟩,.i aw,.i ar,.sl ⟨aU,aM,aV⟩,.i ax,.i ay,.sl ⟨bM,bs,bP⟩,.i aO,.i az,.sl ⟨bN,bt,bQ⟩,.bool bV]::R0) λR=>CR eI H R cT aP/\CR eI H R cU aW/\CR eI H R cV aQ/\CR eI H R cW aX/\CR eI H R cX aY) {r:ano} (hp:aL.pj5 F  aP av aW ar aQ aX aY yy=some r):Rt (aL.j5 F (bB.tw F) (fH.tw F) (dq.tw F) (dr.tw F)  aJ 0 yy H) (aL.Q H0 Ri R0 aA ap aK av aw ar ax ay aO az ba bL aU bM bN aN bp aM bs bt aJ bc bO aV bP bQ cF ci cj ck cl cn bV co cp cq ct cu cv cw cz cA cB r):=by
 obtain ⟨w0,s0,cY,dp,dc,dA,dB⟩:=h0
 subst fw
 subst fx
 subst fy
 subst fz
 subst fA
 unfold aL.pj5 at hp
 unfold aL.j5
 exact aL.l65515_P F rfl rfl rfl rfl rfl ⟨w0,s0,cY,dp,dc,dA,dB⟩ hp
def aL.pl65513 (F:Nat) :Nat->Int->List Int->Int->List Int->Int->List Int->List Int->List Int->Int->Int->Option (Bool×List Int×List Int×List Int×List Int×List Int)
 | 0,_,_,_,_,_,_,_,_,_,_=>none
 | k+1,ap,aP,av,aW,ar,aQ,aX,aY,nK,nL=>(bif (decide (nL<ap)) then ((bB.p F ap aP nK nL).bind λr2=>(ix aP (wrap .i64 ((wrap .i64 (nK * ap))+nL))).bind λn6=>(some (aP.set n6 (wrap .i64 (0 - r2)))).bind λl7=>aL.pl65513 F k ap l7 av aW ar aQ aX aY nK (wrap .i64 (nL+1))) else (aL.pj5 F aP av aW ar aQ aX aY nK))
theorem aL.l65513_P {aA ap aK av aw ar ax ay aO az ba bL aU bM bN aN bp aM bs bt aJ bc bO aV bP bQ cF ci cj ck cl cn bV co cp cq ct cu cv cw cz cA cB} :∀ k,aL.S65513 H0 Ri R0 aA ap aK av aw ar ax ay aO az ba bL aU bM bN aN bp aM bs bt aJ bc bO aV bP bQ cF ci cj ck cl cn bV co cp cq ct cu cv cw cz cA cB (aL.l65513 F (bB.tw F) (fH.tw F) (dq.tw F) (dr.tw F)  k) (aL.pl65513 F  k):=by
 intro k
 induction k with
 | zero=>unfold aL.S65513;intros;rename_i hp;cases hp
 | succ k ih=>
  intro aP aW aQ aX aY cT cU cV cW cX nK nL H fw fx fy fz fA h0 r hp
  obtain ⟨w0,s0,cY,dp,dc,dA,dB⟩:=h0
  subst fw
  subst fx
  subst fy
  subst fz
  subst fA
  unfold aL.pl65513 at hp
  unfold aL.l65513
  refine lI w0 5 ?_
  refine aG hp (λhp=>?_) λhp=>?_
  ·refine lSl w0 5 ?_
   refine lI w0 5 ?_
   refine lI w0 5 ?_
   refine lI w0 5 ?_
   refine lSl w0 5 ?_
   have f1:=W.borrow1 eI w0 cY
   obtain ⟨w1,s1⟩:=w0.right1
   obtain ⟨r2,e2,hp⟩:=ag hp
   refine aI (bB.P rfl ⟨w1,f1⟩ e2) ?_
   rintro _ H3 ⟨rfl,w3,s3,_⟩
   obtain ⟨w4,s4⟩:=W.frame1 w0 w3 s3
   refine br ?_
   refine fg (W.cons_of (Rn:=[]) w1 w3 s3) ?_
   obtain ⟨n6,g6,hp⟩:=ag hp
   obtain ⟨p6,q6,i6,h6,j6⟩:=W.ixo (E:=eI) w4 (i:=0) rfl rfl (cY.step s4) g6
   refine ak i6 ?_
   obtain ⟨l7,e7,hp⟩:=ag hp
   refine fc eI w4 (i:=0) (j:=0) (p:=p6) rfl rfl (cY.step s4) g6 i6 e7 rfl rfl (λ_ h=>by have h:_=[_]:=h;subst h;exact rfl) λH8 k8 w8 s8 c8=>?_
   exact ih ((dl e7).symm) rfl rfl rfl rfl ⟨w8,(s0.trans (s4.trans s8)),c8,(dp.step (s4.trans s8)),(dc.step (s4.trans s8)),(dA.step (s4.trans s8)),(dB.step (s4.trans s8))⟩ hp
  ·exact aL.j5_P rfl rfl rfl rfl rfl ⟨w0,s0,cY,dp,dc,dA,dB⟩ hp
def aL.pj6 (F:Nat)  (aA:Int) (ap:Int) (aP:am3) (av:Int) (aW:am3) (aw:Int) (ar:Int) (aQ:am3) (ax:Int) (ay:Int) (aX:am3) (az:Int) (aY:am3) (kP:Int) (lO:Int) (rU:Int):Option (Bool×List Int×List Int×List Int×List Int×List Int):=(bif (decide (lO<0)) then (some (false,aP,aW,aQ,aX,aY)) else ((dq.p F ap aP lO kP).bind λr1=>(dq.p F av aW lO kP).bind λr4=>(dr.p F aw ar aQ lO kP).bind λr7=>(dr.p F aA ap r1 rU kP).bind λr10=>(dr.p F ax ay aX rU kP).bind λr13=>(dq.p F az aY rU kP).bind λr16=>(bB.p F ap r10 kP kP).bind λr20=>(bif (decide (r20<0)) then (aL.pl65513 F F ap r10 av r4 ar r7 r13 r16 kP 0) else (some (true,r10,r4,r7,r13,r16)))))
theorem aL.j6_P {aA ap aK av aw ar ax ay aO az ba bL aU bM bN aN bp aM bs bt aJ bc bO aV bP bQ cF ci cj ck cl cn bV co cp cq ct cu cv cw cz cA cB}  {aP aW aQ aX aY cT cU cV cW cX kP lO rU} (fw:aN=aP.length) (fx:bp=aW.length) (fy:aM=aQ.length) (fz:bs=aX.length) (fA:bt=aY.length) (h0:Out H0 Ri H (Rs.ow ci ⟨ba,aN,bc⟩ eI.z co cT cp::Rs.ow cj ⟨bL,bp,bO⟩ eI.z cq cU ct::Rs.ow ck ⟨aU,aM,aV⟩ eI.z cu cV cv::Rs.ow cl ⟨bM,bs,bP⟩ eI.z cw cW cz::Rs.ow cn ⟨bN,bt,bQ⟩ eI.z cA cX cB::Rs.blk aJ [.i aA,.i ap,.sl ⟨ba,aN,bc⟩,.i aK,.i av,.sl ⟨bL,bp,bO⟩,.i aw,.i ar,.sl ⟨aU,aM,aV⟩,.i ax,.i ay,.sl ⟨bM,bs,bP⟩,.i aO,.i az,.sl ⟨bN,bt,bQ⟩,.bool bV]::R0) λR=>CR eI H R cT aP/\CR eI H R cU aW/\CR eI H R cV aQ/\CR eI H R cW aX/\CR eI H R cX aY) {r:ano} (hp:aL.pj6 F  aA ap aP av aW aw ar aQ ax ay aX az aY kP lO rU=some r):Rt (aL.j6 F (bB.tw F) (fH.tw F) (dq.tw F) (dr.tw F)  aJ 0 kP lO rU H) (aL.Q H0 Ri R0 aA ap aK av aw ar ax ay aO az ba bL aU bM bN aN bp aM bs bt aJ bc bO aV bP bQ cF ci cj ck cl cn bV co cp cq ct cu cv cw cz cA cB r):=by
 obtain ⟨w0,s0,cY,dp,dc,dA,dB⟩:=h0
 subst fw
 subst fx
 subst fy
 subst fz
 subst fA
 unfold aL.pj6 at hp
 unfold aL.j6
 refine aG hp (λhp=>?_) λhp=>?_
 ·exact aD hp ⟨_,_,_,_,_,rfl,rfl,rfl,rfl,rfl,rfl,w0,s0,cY,dp,dc,dA,dB⟩
 ·refine lI w0 5 ?_
  refine lI w0 5 ?_
  refine lSl w0 5 ?_
  obtain ⟨r1,e1,hp⟩:=ag hp
  refine aI (dq.P rfl ⟨w0,cY⟩ e1) ?_
  rintro _ H2 ⟨amb,rfl,hl2_0,w2,s2,f2_0⟩
  refine lI w2 5 ?_
  refine lI w2 5 ?_
  refine lSl w2 5 ?_
  obtain ⟨w3,s3⟩:=w2.pp [1,0,2,3,4,5] 6
  obtain ⟨r4,e4,hp⟩:=ag hp
  refine aI (dq.P rfl ⟨w3,(dp.step (s2.trans s3))⟩ e4) ?_
  rintro _ H5 ⟨amc,rfl,hl5_0,w5,s5,f5_0⟩
  refine lI w5 5 ?_
  refine lI w5 5 ?_
  refine lSl w5 5 ?_
  obtain ⟨w6,s6⟩:=w5.pp [2,0,1,3,4,5] 6
  obtain ⟨r7,e7,hp⟩:=ag hp
  refine aI (dr.P rfl ⟨w6,(dc.step (s2.trans (s3.trans (s5.trans s6))))⟩ e7) ?_
  rintro _ H8 ⟨agt,rfl,hl8_0,w8,s8,f8_0⟩
  refine lI w8 5 ?_
  refine lI w8 5 ?_
  refine lSl w8 5 ?_
  obtain ⟨w9,s9⟩:=w8.pp [2,0,1,3,4,5] 6
  obtain ⟨r10,e10,hp⟩:=ag hp
  refine aI (dr.P hl2_0 ⟨w9,(f2_0.step (s3.trans (s5.trans (s6.trans (s8.trans s9)))))⟩ e10) ?_
  rintro _ H11 ⟨agu,rfl,hl11_0,w11,s11,f11_0⟩
  refine lI w11 5 ?_
  refine lI w11 5 ?_
  refine lSl w11 5 ?_
  obtain ⟨w12,s12⟩:=w11.pp [3,0,1,2,4,5] 6
  obtain ⟨r13,e13,hp⟩:=ag hp
  refine aI (dr.P rfl ⟨w12,(dA.step (s2.trans (s3.trans (s5.trans (s6.trans (s8.trans (s9.trans (s11.trans s12))))))))⟩ e13) ?_
  rintro _ H14 ⟨agv,rfl,hl14_0,w14,s14,f14_0⟩
  refine lI w14 5 ?_
  refine lI w14 5 ?_
  refine lSl w14 5 ?_
  obtain ⟨w15,s15⟩:=w14.pp [4,0,1,2,3,5] 6
  obtain ⟨r16,e16,hp⟩:=ag hp
  refine aI (dq.P rfl ⟨w15,(dB.step (s2.trans (s3.trans (s5.trans (s6.trans (s8.trans (s9.trans (s11.trans (s12.trans (s14.trans s15))))))))))⟩ e16) ?_
  rintro _ H17 ⟨agw,rfl,hl17_0,w17,s17,f17_0⟩
  refine lI w17 5 ?_
  refine lI w17 5 ?_
  refine lSl w17 5 ?_
  obtain ⟨w18,s18⟩:=w17.pp [2,0,1,3,4,5] 6
  have f19:=W.borrow1 eI w18 (f11_0.step (s12.trans (s14.trans (s15.trans (s17.trans s18)))))
  obtain ⟨w19,s19⟩:=w18.right1
  obtain ⟨r20,e20,hp⟩:=ag hp
  refine aI (bB.P hl11_0 ⟨w19,f19⟩ e20) ?_
  rintro _ H21 ⟨rfl,w21,s21,_⟩
  obtain ⟨w22,s22⟩:=W.frame1 w18 w21 s21
  refine br ?_
  refine aG hp (λhp=>?_) λhp=>?_
  ·obtain ⟨w23,s23⟩:=w22.pp [0,4,3,2,1,5] 6
   exact aL.l65513_P F hl11_0 hl5_0 hl8_0 hl14_0 hl17_0 ⟨w23,(s0.trans (s2.trans (s3.trans (s5.trans (s6.trans (s8.trans (s9.trans (s11.trans (s12.trans (s14.trans (s15.trans (s17.trans (s18.trans (s22.trans s23)))))))))))))),(f11_0.step (s12.trans (s14.trans (s15.trans (s17.trans (s18.trans (s22.trans s23))))))),(f5_0.step (s6.trans (s8.trans (s9.trans (s11.trans (s12.trans (s14.trans (s15.trans (s17.trans (s18.trans (s22.trans s23))))))))))),(f8_0.step (s9.trans (s11.trans (s12.trans (s14.trans (s15.trans (s17.trans (s18.trans (s22.trans s23))))))))),(f14_0.step (s15.trans (s17.trans (s18.trans (s22.trans s23))))),(f17_0.step (s18.trans (s22.trans s23)))⟩ hp
  ·obtain ⟨w24,s24⟩:=w22.pp [0,4,3,2,1,5] 6
   exact aD hp ⟨_,_,_,_,_,rfl,hl11_0,hl5_0,hl8_0,hl14_0,hl17_0,w24,(s0.trans (s2.trans (s3.trans (s5.trans (s6.trans (s8.trans (s9.trans (s11.trans (s12.trans (s14.trans (s15.trans (s17.trans (s18.trans (s22.trans s24)))))))))))))),(f11_0.step (s12.trans (s14.trans (s15.trans (s17.trans (s18.trans (s22.trans s24))))))),(f5_0.step (s6.trans (s8.trans (s9.trans (s11.trans (s12.trans (s14.trans (s15.trans (s17.trans (s18.trans (s22.trans s24))))))))))),(f8_0.step (s9.trans (s11.trans (s12.trans (s14.trans (s15.trans (s17.trans (s18.trans (s22.trans s24))))))))),(f14_0.step (s15.trans (s17.trans (s18.trans (s22.trans s24))))),(f17_0.step (s18.trans (s22.trans s24)))⟩
def aL.pl29 (F:Nat) :Nat->Int->Int->List Int->Int->List Int->Int->Int->List Int->Int->Int->List Int->Int->List Int->Int->Int->Int->Int->Option (Bool×List Int×List Int×List Int×List Int×List Int)
 | 0,_,_,_,_,_,_,_,_,_,_,_,_,_,_,_,_,_=>none
 | k+1,aA,ap,aP,av,aW,aw,ar,aQ,ax,ay,aX,az,aY,gp,gB,qB,qC=>(bif (decide (qC<aA)) then (aL.pl469 F (aL.pl29 F k) F aA ap aP av aW aw ar aQ ax ay aX az aY gp gB qB qC gp) else (aL.pj6 F aA ap aP av aW aw ar aQ ax ay aX az aY gp gB qB))
theorem aL.l29_P {aA ap aK av aw ar ax ay aO az ba bL aU bM bN aN bp aM bs bt aJ bc bO aV bP bQ cF ci cj ck cl cn bV co cp cq ct cu cv cw cz cA cB} :∀ k,aL.S29 H0 Ri R0 aA ap aK av aw ar ax ay aO az ba bL aU bM bN aN bp aM bs bt aJ bc bO aV bP bQ cF ci cj ck cl cn bV co cp cq ct cu cv cw cz cA cB (aL.l29 F (bB.tw F) (fH.tw F) (dq.tw F) (dr.tw F)  k) (aL.pl29 F  k):=by
 intro k
 induction k with
 | zero=>unfold aL.S29;intros;rename_i hp;cases hp
 | succ k ih=>
  intro aP aW aQ aX aY cT cU cV cW cX gp gB qB qC H fw fx fy fz fA h0 r hp
  obtain ⟨w0,s0,cY,dp,dc,dA,dB⟩:=h0
  subst fw
  subst fx
  subst fy
  subst fz
  subst fA
  unfold aL.pl29 at hp
  unfold aL.l29
  refine lI w0 5 ?_
  refine aG hp (λhp=>?_) λhp=>?_
  ·exact aL.l469_P (@ih) F rfl rfl rfl rfl rfl ⟨w0,s0,cY,dp,dc,dA,dB⟩ hp
  ·exact aL.j6_P rfl rfl rfl rfl rfl ⟨w0,s0,cY,dp,dc,dA,dB⟩ hp
def aL.p (F:Nat) (bC:Int) (bi:Int) (dR:am3) (bv:Int) (fO:am3) (bj:Int) (bg:Int) (dk:am3) (bw:Int) (bz:Int) (fP:am3) (bA:Int) (fQ:am3) (ah:Int):Option (Bool×List Int×List Int×List Int×List Int×List Int):=aL.pl29 F F bC bi dR bv fO bj bg dk bw bz fP bA fQ ah (-1) (-1) ah
theorem aL.P {bC bi bD bv bj bg bw bz bU bA ah cQ ef cJ eg el cf dh ca di dj aa cR eo cK es et dR fO dk fP fQ fo gb fp gc gd aB fq ft iE gf gg jv fu fv iF gh gi jw gj gk jx} (ms:cf=dR.length) (pV:dh=fO.length) (lj:ca=dk.length) (pW:di=fP.length) (pX:dj=fQ.length) (h0:Inn H (Rs.ow fo ⟨cQ,cf,cR⟩ eI.z fq iE ft::Rs.ow gb ⟨ef,dh,eo⟩ eI.z gf jv gg::Rs.ow fp ⟨cJ,ca,cK⟩ eI.z fu iF fv::Rs.ow gc ⟨eg,di,es⟩ eI.z gh jw gi::Rs.ow gd ⟨el,dj,et⟩ eI.z gj jx gk::Rs.blk aa [.i bC,.i bi,.sl ⟨cQ,cf,cR⟩,.i bD,.i bv,.sl ⟨ef,dh,eo⟩,.i bj,.i bg,.sl ⟨cJ,ca,cK⟩,.i bw,.i bz,.sl ⟨eg,di,es⟩,.i bU,.i bA,.sl ⟨el,dj,et⟩,.bool aB]::R0) λR=>CR eI H R iE dR/\CR eI H R jv fO/\CR eI H R iF dk/\CR eI H R jw fP/\CR eI H R jx fQ) {r:ano} (hp:aL.p F bC bi dR bv fO bj bg dk bw bz fP bA fQ ah=some r):Rt (aL.tw F aa 0 ah H) (aL.Q H (Rs.ow fo ⟨cQ,cf,cR⟩ eI.z fq iE ft::Rs.ow gb ⟨ef,dh,eo⟩ eI.z gf jv gg::Rs.ow fp ⟨cJ,ca,cK⟩ eI.z fu iF fv::Rs.ow gc ⟨eg,di,es⟩ eI.z gh jw gi::Rs.ow gd ⟨el,dj,et⟩ eI.z gj jx gk::Rs.blk aa [.i bC,.i bi,.sl ⟨cQ,cf,cR⟩,.i bD,.i bv,.sl ⟨ef,dh,eo⟩,.i bj,.i bg,.sl ⟨cJ,ca,cK⟩,.i bw,.i bz,.sl ⟨eg,di,es⟩,.i bU,.i bA,.sl ⟨el,dj,et⟩,.bool aB]::R0) R0 bC bi bD bv bj bg bw bz bU bA cQ ef cJ eg el cf dh ca di dj aa cR eo cK es et dR fo gb fp gc gd aB fq ft gf gg fu fv gh gi gj gk r):=by
 obtain ⟨w0,kR,ox,ke,oy,oz⟩:=h0
 subst ms
 subst pV
 subst lj
 subst pW
 subst pX
 unfold aL.p at hp
 unfold aL.tw aL.twX
 have s0:=w0.rf
 exact aL.l29_P F rfl rfl rfl rfl rfl ⟨w0,s0,kR,ox,ke,oy,oz⟩ hp
def jn.Q (H0:Hp) (Ri R0:am5)  (r:Int) (v:AV) (H':Hp):Prop:=v=(.i r)/\Out H0 Ri H' (R0) λR=>True
def jn.p (F:Nat) (aa:Int) (au:Int):Option (Int):=(if au=0 then none else ((if au=0 then none else ((bif (decide ((Int.tmod aa au)<0)) then (some (wrap .i64 ((wrap .i64 (Int.tdiv aa au)) - 1))) else (some (wrap .i64 (Int.tdiv aa au))))))))
theorem jn.P {aa au}  (h0:Inn H R0 λR=>True) {r:Int} (hp:jn.p F aa au=some r):Rt (jn.tw F aa au H) (jn.Q H R0 R0  r):=by
 obtain ⟨w0,_⟩:=h0
 unfold jn.p at hp
 unfold jn.tw jn.twX
 have s0:=w0.rf
 obtain ⟨g1,hp⟩:=uZ hp
 refine u_ g1 ?_
 obtain ⟨g2,hp⟩:=uZ hp
 refine u_ g2 ?_
 refine aG hp (λhp=>?_) λhp=>?_
 ·exact aD hp ⟨rfl,w0,s0,trivial⟩
 ·exact aD hp ⟨rfl,w0,s0,trivial⟩
def jN.Q (H0:Hp) (Ri R0:am5)  (r:aok) (v:AV) (H':Hp):Prop:=v=(.tup [(.i r.1),(.bool r.2)])/\Out H0 Ri H' (R0) λR=>True
def jN.p (F:Nat) (aa:Int) (au:Int) (eA:Int):Option (Int×Bool):=(bif (aa != 0) then ((fH.p F au).bind λr1=>(fH.p F aa).bind λr3=>(if r3=0 then none else ((bif (decide (r1>(wrap .i64 (Int.tdiv eA r3)))) then (some (0,false)) else (some ((wrap .i64 (aa * au)),true)))))) else (some ((wrap .i64 (aa * au)),true)))
theorem jN.P {aa au eA}  (h0:Inn H R0 λR=>True) {r:aok} (hp:jN.p F aa au eA=some r):Rt (jN.tw F aa au eA H) (jN.Q H R0 R0  r):=by
 obtain ⟨w0,_⟩:=h0
 unfold jN.p at hp
 unfold jN.tw jN.twX
 have s0:=w0.rf
 refine aG hp (λhp=>?_) λhp=>?_
 ·obtain ⟨r1,e1,hp⟩:=ag hp
  refine aI (fH.P ⟨w0,trivial⟩ e1) ?_
  rintro _ H2 ⟨rfl,w2,s2,_⟩
  refine br ?_
  obtain ⟨r3,e3,hp⟩:=ag hp
  refine aI (fH.P ⟨w2,trivial⟩ e3) ?_
  rintro _ H4 ⟨rfl,w4,s4,_⟩
  refine br ?_
  obtain ⟨g5,hp⟩:=uZ hp
  refine u_ g5 ?_
  refine aG hp (λhp=>?_) λhp=>?_
  ·exact aD hp ⟨rfl,w4,(s0.trans (s2.trans s4)),trivial⟩
  ·exact aD hp ⟨rfl,w4,(s0.trans (s2.trans s4)),trivial⟩
 ·exact aD hp ⟨rfl,w0,s0,trivial⟩
def gV.Q (H0:Hp) (Ri R0:am5)  (r:Int) (v:AV) (H':Hp):Prop:=v=(.i r)/\Out H0 Ri H' (R0) λR=>True
def gV.p (F:Nat) (aa:Int) (au:Int) (eA:Int):Option (Int):=(jN.p F au eA 2000000000000).bind λr1=>(bif (!r1.2) then (some 3000000000000) else (some (wrap .i64 (aa - r1.1))))
theorem gV.P {aa au eA}  (h0:Inn H R0 λR=>True) {r:Int} (hp:gV.p F aa au eA=some r):Rt (gV.tw F aa au eA H) (gV.Q H R0 R0  r):=by
 obtain ⟨w0,_⟩:=h0
 unfold gV.p at hp
 unfold gV.tw gV.twX
 have s0:=w0.rf
 obtain ⟨r1,e1,hp⟩:=ag hp
 refine aI (jN.P ⟨w0,trivial⟩ e1) ?_
 rintro _ H2 ⟨rfl,w2,s2,_⟩
 refine br (br (br (br (br ?_))))
 refine aG hp (λhp=>?_) λhp=>?_
 ·exact aD hp ⟨rfl,w2,(s0.trans s2),trivial⟩
 ·exact aD hp ⟨rfl,w2,(s0.trans s2),trivial⟩
def gW.Q (H0:Hp) (Ri R0:am5) (bC bi bD bv bj bg bw bz bU bA:Int) (eK dd fb de df:Sl) (aa fJ:Nat) (hJ:ON) (hK:Cap) (iW:Bool) (iX iY:anb) (r:anv) (v:AV) (H':Hp):Prop:=∃ pb:List AV,v=(.tup [])/\fJ=(r.2).length/\Out H0 Ri H' (Rs.blk aa [.i bC,.i bi,.sl eK,.i bD,.i bv,.sl dd,.i bj,.i bg,.sl fb,.i bw,.i bz,.sl de,.i bU,.i bA,.sl df,.bool (r.1)]::Rs.ow iW ⟨hJ,fJ,hK⟩ eI.z iX pb iY::R0) λR=>CR eI H' R pb (r.2)
def gW.p (F:Nat) (aB:Bool) (aF:Int) (iG:am3) (dt:Int) (eX:Int) (eQ:Int):Option (Bool×List Int):=(fH.p F eQ).bind λr2=>(bif (decide (r2>1000000000000)) then (some (true,iG)) else ((ix iG (wrap .i64 ((wrap .i64 (dt * aF))+eX))).bind λn6=>(some (iG.set n6 eQ)).bind λl7=>some (aB,l7)))
theorem gW.P {bC bi bD bv bj bg bw bz bU bA ah aF dt eX eQ eK dd fb de df aB iW aa fJ hJ hK iG iX iY mu} (tl:fJ=iG.length) (h0:Inn H (Rs.blk aa [.i bC,.i bi,.sl eK,.i bD,.i bv,.sl dd,.i bj,.i bg,.sl fb,.i bw,.i bz,.sl de,.i bU,.i bA,.sl df,.bool aB]::Rs.ow iW ⟨hJ,fJ,hK⟩ eI.z iX mu iY::R0) λR=>CR eI H R mu iG) {r:anv} (hp:gW.p F aB aF iG dt eX eQ=some r):Rt (gW.tw F aa 0 ah aF ⟨hJ,fJ,hK⟩ dt eX eQ H) (gW.Q H (Rs.blk aa [.i bC,.i bi,.sl eK,.i bD,.i bv,.sl dd,.i bj,.i bg,.sl fb,.i bw,.i bz,.sl de,.i bU,.i bA,.sl df,.bool aB]::Rs.ow iW ⟨hJ,fJ,hK⟩ eI.z iX mu iY::R0) R0 bC bi bD bv bj bg bw bz bU bA eK dd fb de df aa fJ hJ hK iW iX iY r):=by
 obtain ⟨w0,rD⟩:=h0
 subst tl
 unfold gW.p at hp
 unfold gW.tw gW.twX
 have s0:=w0.rf
 refine bm w0 λH1 w1 s1=>?_
 obtain ⟨r2,e2,hp⟩:=ag hp
 refine aI (fH.P ⟨w1,trivial⟩ e2) ?_
 rintro _ H3 ⟨rfl,w3,s3,_⟩
 refine br ?_
 refine aG hp (λhp=>?_) λhp=>?_
 ·refine aE w3 1 λH4 w4 s4=>?_
  obtain ⟨w5,s5⟩:=w4.pp [1,2] 3
  exact aD hp ⟨_,rfl,rfl,w5,(s0.trans (s1.trans (s3.trans (s4.trans s5)))),(rD.step (s1.trans (s3.trans (s4.trans s5))))⟩
 ·refine lSl w3 0 ?_
  refine lI w3 0 ?_
  obtain ⟨n6,g6,hp⟩:=ag hp
  obtain ⟨p6,q6,i6,h6,j6⟩:=W.ixo (E:=eI) w3 (i:=2) rfl rfl (rD.step (s1.trans s3)) g6
  refine ak i6 ?_
  obtain ⟨l7,e7,hp⟩:=ag hp
  refine fc eI w3 (i:=2) (j:=0) (p:=p6) rfl rfl (rD.step (s1.trans s3)) g6 i6 e7 rfl rfl (λ_ h=>by have h:_=[_]:=h;subst h;exact rfl) λH8 k8 w8 s8 c8=>?_
  obtain ⟨w9,s9⟩:=w8.pp [1,2] 3
  exact aD hp ⟨_,rfl,(dl e7).symm,w9,(s0.trans (s1.trans (s3.trans (s8.trans s9)))),(c8.step s9)⟩
def dD.Q (H0:Hp) (Ri R0:am5) (bC bi bD bv bj bg bw bz bU bA:Int) (eK dd fb de df:Sl) (aa fJ:Nat) (hJ:ON) (hK:Cap) (iW:Bool) (iX iY:anb) (r:anv) (v:AV) (H':Hp):Prop:=∃ pb:List AV,v=(.tup [])/\fJ=(r.2).length/\Out H0 Ri H' (Rs.blk aa [.i bC,.i bi,.sl eK,.i bD,.i bv,.sl dd,.i bj,.i bg,.sl fb,.i bw,.i bz,.sl de,.i bU,.i bA,.sl df,.bool (r.1)]::Rs.ow iW ⟨hJ,fJ,hK⟩ eI.z iX pb iY::R0) λR=>CR eI H' R pb (r.2)
def dD.S7 (H0:Hp) (Ri R0:am5) (aA ap aK av aw ar ax ay aO az:Int) (eL cM ff cN cO:Sl) (aJ jy:Nat) (kF:ON) (kG:Cap) (mv:Bool) (mw mz:anb) (C:aoI) (pC:Bool->Int->Int->Int->Int->List Int->Int->Option (Bool×List Int)):Prop:=∀ {aB jo gE kq tn mU gQ ll wz gP},∀ {H:Hp},jy=ll.length->(Out H0 Ri H (Rs.blk aJ [.i aA,.i ap,.sl eL,.i aK,.i av,.sl cM,.i aw,.i ar,.sl ff,.i ax,.i ay,.sl cN,.i aO,.i az,.sl cO,.bool aB]::Rs.ow mv ⟨kF,jy,kG⟩ eI.z mw wz mz::Rs.blk gP [.i tn,.i mU,.sl ⟨kF,jy,kG⟩]::R0) λR=>CR eI H R wz ll)->∀ {r:anv},pC aB jo gE kq mU ll gQ=some r->Rt (C aJ 0 jo gE kq gP 0 gQ H) (dD.Q H0 Ri R0 aA ap aK av aw ar ax ay aO az eL cM ff cN cO aJ jy kF kG mv mw mz r)
def dD.pl7 (F:Nat) :Nat->Bool->Int->Int->Int->Int->List Int->Int->Option (Bool×List Int)
 | 0,_,_,_,_,_,_,_=>none
 | k+1,aB,jo,gE,kq,mU,ll,gQ=>(bif (decide (gQ<mU)) then ((bif (!aB) then ((bB.p F mU ll jo gQ).bind λr3=>(bB.p F mU ll gE gQ).bind λr8=>(gV.p F r3 kq r8).bind λr12=>(gW.p F aB mU ll jo gQ r12).bind λr16=>dD.pl7 F k r16.1 jo gE kq mU r16.2 (wrap .i64 (gQ+1))) else (some (aB,ll)))) else (some (aB,ll)))
theorem dD.l7_P {aA ap aK av aw ar ax ay aO az eL cM ff cN cO aJ jy kF kG mv mw mz} :∀ k,dD.S7 H0 Ri R0 aA ap aK av aw ar ax ay aO az eL cM ff cN cO aJ jy kF kG mv mw mz (dD.l7 F (bB.tw F) (gV.tw F) (gW.tw F)  k) (dD.pl7 F  k):=by
 intro k
 induction k with
 | zero=>unfold dD.S7;intros;rename_i hp;cases hp
 | succ k ih=>
  intro aB jo gE kq tn mU gQ ll wz gP H MH h0 r hp
  obtain ⟨w0,s0,rE⟩:=h0
  subst MH
  unfold dD.pl7 at hp
  unfold dD.l7
  refine lI w0 2 ?_
  refine aG hp (λhp=>?_) λhp=>?_
  ·refine lB w0 0 ?_
   refine aG hp (λhp=>?_) λhp=>?_
   ·refine lI w0 2 ?_
    refine lI w0 2 ?_
    refine lSl w0 2 ?_
    refine lI w0 2 ?_
    refine lI w0 2 ?_
    refine lSl w0 2 ?_
    obtain ⟨w1,s1⟩:=w0.pp [1,0,2] 3
    have f2:=W.borrow1 eI w1 (rE.step s1)
    obtain ⟨w2,s2⟩:=w1.right1
    obtain ⟨r3,e3,hp⟩:=ag hp
    refine aI (bB.P rfl ⟨w2,f2⟩ e3) ?_
    rintro _ H4 ⟨rfl,w4,s4,_⟩
    obtain ⟨w5,s5⟩:=W.frame1 w1 w4 s4
    refine br ?_
    refine fg (bo.tr (bo.refl _) s1 (W.cons_of (Rn:=[]) w2 w4 s4)) ?_
    refine lI w5 2 ?_
    refine lI w5 2 ?_
    refine lSl w5 2 ?_
    have f7:=W.borrow1 eI w5 (rE.step (s1.trans s5))
    obtain ⟨w7,s7⟩:=w5.right1
    obtain ⟨r8,e8,hp⟩:=ag hp
    refine aI (bB.P rfl ⟨w7,f7⟩ e8) ?_
    rintro _ H9 ⟨rfl,w9,s9,_⟩
    obtain ⟨w10,s10⟩:=W.frame1 w5 w9 s9
    refine br ?_
    refine fg (W.cons_of (Rn:=[]) w7 w9 s9) ?_
    obtain ⟨r12,e12,hp⟩:=ag hp
    refine aI (gV.P ⟨w10,trivial⟩ e12) ?_
    rintro _ H13 ⟨rfl,w13,s13,_⟩
    refine br ?_
    refine fg (W.cons_of (Rn:=[]) w10 w13 s13) ?_
    obtain ⟨w15,s15⟩:=w13.pp [1,0,2] 3
    obtain ⟨r16,e16,hp⟩:=ag hp
    refine aI (gW.P rfl ⟨w15,(rE.step (s1.trans (s5.trans (s10.trans (s13.trans s15)))))⟩ e16) ?_
    rintro _ H17 ⟨agx,rfl,hl17_0,w17,s17,f17_0⟩
    exact ih hl17_0 ⟨w17,(s0.trans (s1.trans (s5.trans (s10.trans (s13.trans (s15.trans s17)))))),f17_0⟩ hp
   ·obtain ⟨w18,s18⟩:=w0.pp [0,1] 3
    exact aD hp ⟨_,rfl,rfl,w18,(s0.trans s18),(rE.step s18)⟩
  ·obtain ⟨w19,s19⟩:=w0.pp [0,1] 3
   exact aD hp ⟨_,rfl,rfl,w19,(s0.trans s19),(rE.step s19)⟩
def dD.p (F:Nat) (aB:Bool) (aF:Int) (iG:am3) (dt:Int) (eX:Int) (eQ:Int):Option (Bool×List Int):=dD.pl7 F F aB dt eX eQ aF iG 0
theorem dD.P {bC bi bD bv bj bg bw bz bU bA ah aF dt eX eQ eK dd fb de df aB iW aa fJ hJ hK iG iX iY mu} (tl:fJ=iG.length) (h0:Inn H (Rs.blk aa [.i bC,.i bi,.sl eK,.i bD,.i bv,.sl dd,.i bj,.i bg,.sl fb,.i bw,.i bz,.sl de,.i bU,.i bA,.sl df,.bool aB]::Rs.ow iW ⟨hJ,fJ,hK⟩ eI.z iX mu iY::R0) λR=>CR eI H R mu iG) {r:anv} (hp:dD.p F aB aF iG dt eX eQ=some r):Rt (dD.tw F aa 0 ah aF ⟨hJ,fJ,hK⟩ dt eX eQ H) (dD.Q H (Rs.blk aa [.i bC,.i bi,.sl eK,.i bD,.i bv,.sl dd,.i bj,.i bg,.sl fb,.i bw,.i bz,.sl de,.i bU,.i bA,.sl df,.bool aB]::Rs.ow iW ⟨hJ,fJ,hK⟩ eI.z iX mu iY::R0) R0 bC bi bD bv bj bg bw bz bU bA eK dd fb de df aa fJ hJ hK iW iX iY r):=by
 obtain ⟨w0,rD⟩:=h0
 subst tl
 unfold dD.p at hp
 unfold dD.tw dD.twX
 have s0:=w0.rf
 refine bm w0 λH1 w1 s1=>?_
 obtain ⟨w2,s2⟩:=w1.pp [1,2,0] 3
 exact dD.l7_P F rfl ⟨w2,(s0.trans (s1.trans s2)),(rD.step (s1.trans s2))⟩ hp
def dE.Q (H0:Hp) (Ri R0:am5) (bC bi bD bv bj bg bw bz bU bA:Int) (eK dd fb de df:Sl) (aa fJ:Nat) (hJ:ON) (hK:Cap) (iW:Bool) (iX iY:anb) (r:anv) (v:AV) (H':Hp):Prop:=∃ pb:List AV,v=(.tup [])/\fJ=(r.2).length/\Out H0 Ri H' (Rs.blk aa [.i bC,.i bi,.sl eK,.i bD,.i bv,.sl dd,.i bj,.i bg,.sl fb,.i bw,.i bz,.sl de,.i bU,.i bA,.sl df,.bool (r.1)]::Rs.ow iW ⟨hJ,fJ,hK⟩ eI.z iX pb iY::R0) λR=>CR eI H' R pb (r.2)
def dE.S7 (H0:Hp) (Ri R0:am5) (aA ap aK av aw ar ax ay aO az:Int) (eL cM ff cN cO:Sl) (aJ jy:Nat) (kF:ON) (kG:Cap) (mv:Bool) (mw mz:anb) (C:aoI) (pC:Bool->Int->Int->Int->Int->Int->List Int->Int->Option (Bool×List Int)):Prop:=∀ {aB jo gE kq tn mU gQ ll wz gP},∀ {H:Hp},jy=ll.length->(Out H0 Ri H (Rs.blk aJ [.i aA,.i ap,.sl eL,.i aK,.i av,.sl cM,.i aw,.i ar,.sl ff,.i ax,.i ay,.sl cN,.i aO,.i az,.sl cO,.bool aB]::Rs.ow mv ⟨kF,jy,kG⟩ eI.z mw wz mz::Rs.blk gP [.i tn,.i mU,.sl ⟨kF,jy,kG⟩]::R0) λR=>CR eI H R wz ll)->∀ {r:anv},pC aB jo gE kq tn mU ll gQ=some r->Rt (C aJ 0 jo gE kq gP 0 gQ H) (dE.Q H0 Ri R0 aA ap aK av aw ar ax ay aO az eL cM ff cN cO aJ jy kF kG mv mw mz r)
def dE.pl7 (F:Nat) :Nat->Bool->Int->Int->Int->Int->Int->List Int->Int->Option (Bool×List Int)
 | 0,_,_,_,_,_,_,_,_=>none
 | k+1,aB,jo,gE,kq,tn,mU,ll,gQ=>(bif (decide (gQ<tn)) then ((bif (!aB) then ((bB.p F mU ll gQ jo).bind λr3=>(bB.p F mU ll gQ gE).bind λr8=>(gV.p F r3 kq r8).bind λr12=>(gW.p F aB mU ll gQ jo r12).bind λr16=>dE.pl7 F k r16.1 jo gE kq tn mU r16.2 (wrap .i64 (gQ+1))) else (some (aB,ll)))) else (some (aB,ll)))
theorem dE.l7_P {aA ap aK av aw ar ax ay aO az eL cM ff cN cO aJ jy kF kG mv mw mz} :∀ k,dE.S7 H0 Ri R0 aA ap aK av aw ar ax ay aO az eL cM ff cN cO aJ jy kF kG mv mw mz (dE.l7 F (bB.tw F) (gV.tw F) (gW.tw F)  k) (dE.pl7 F  k):=by
 intro k
 induction k with
 | zero=>unfold dE.S7;intros;rename_i hp;cases hp
 | succ k ih=>
  intro aB jo gE kq tn mU gQ ll wz gP H MH h0 r hp
  obtain ⟨w0,s0,rE⟩:=h0
  subst MH
  unfold dE.pl7 at hp
  unfold dE.l7
  refine lI w0 2 ?_
  refine aG hp (λhp=>?_) λhp=>?_
  ·refine lB w0 0 ?_
   refine aG hp (λhp=>?_) λhp=>?_
   ·refine lI w0 2 ?_
    refine lI w0 2 ?_
    refine lSl w0 2 ?_
    refine lI w0 2 ?_
    refine lI w0 2 ?_
    refine lSl w0 2 ?_
    obtain ⟨w1,s1⟩:=w0.pp [1,0,2] 3
    have f2:=W.borrow1 eI w1 (rE.step s1)
    obtain ⟨w2,s2⟩:=w1.right1
    obtain ⟨r3,e3,hp⟩:=ag hp
    refine aI (bB.P rfl ⟨w2,f2⟩ e3) ?_
    rintro _ H4 ⟨rfl,w4,s4,_⟩
    obtain ⟨w5,s5⟩:=W.frame1 w1 w4 s4
    refine br ?_
    refine fg (bo.tr (bo.refl _) s1 (W.cons_of (Rn:=[]) w2 w4 s4)) ?_
    refine lI w5 2 ?_
    refine lI w5 2 ?_
    refine lSl w5 2 ?_
    have f7:=W.borrow1 eI w5 (rE.step (s1.trans s5))
    obtain ⟨w7,s7⟩:=w5.right1
    obtain ⟨r8,e8,hp⟩:=ag hp
    refine aI (bB.P rfl ⟨w7,f7⟩ e8) ?_
    rintro _ H9 ⟨rfl,w9,s9,_⟩
    obtain ⟨w10,s10⟩:=W.frame1 w5 w9 s9
    refine br ?_
    refine fg (W.cons_of (Rn:=[]) w7 w9 s9) ?_
    obtain ⟨r12,e12,hp⟩:=ag hp
    refine aI (gV.P ⟨w10,trivial⟩ e12) ?_
    rintro _ H13 ⟨rfl,w13,s13,_⟩
    refine br ?_
    refine fg (W.cons_of (Rn:=[]) w10 w13 s13) ?_
    obtain ⟨w15,s15⟩:=w13.pp [1,0,2] 3
    obtain ⟨r16,e16,hp⟩:=ag hp
    refine aI (gW.P rfl ⟨w15,(rE.step (s1.trans (s5.trans (s10.trans (s13.trans s15)))))⟩ e16) ?_
    rintro _ H17 ⟨agx,rfl,hl17_0,w17,s17,f17_0⟩
    exact ih hl17_0 ⟨w17,(s0.trans (s1.trans (s5.trans (s10.trans (s13.trans (s15.trans s17)))))),f17_0⟩ hp
   ·obtain ⟨w18,s18⟩:=w0.pp [0,1] 3
    exact aD hp ⟨_,rfl,rfl,w18,(s0.trans s18),(rE.step s18)⟩
  ·obtain ⟨w19,s19⟩:=w0.pp [0,1] 3
   exact aD hp ⟨_,rfl,rfl,w19,(s0.trans s19),(rE.step s19)⟩
def dE.p (F:Nat) (aB:Bool) (ah:Int) (aF:Int) (iG:am3) (dt:Int) (eX:Int) (eQ:Int):Option (Bool×List Int):=dE.pl7 F F aB dt eX eQ ah aF iG 0
theorem dE.P {bC bi bD bv bj bg bw bz bU bA ah aF dt eX eQ eK dd fb de df aB iW aa fJ hJ hK iG iX iY mu} (tl:fJ=iG.length) (h0:Inn H (Rs.blk aa [.i bC,.i bi,.sl eK,.i bD,.i bv,.sl dd,.i bj,.i bg,.sl fb,.i bw,.i bz,.sl de,.i bU,.i bA,.sl df,.bool aB]::Rs.ow iW ⟨hJ,fJ,hK⟩ eI.z iX mu iY::R0) λR=>CR eI H R mu iG) {r:anv} (hp:dE.p F aB ah aF iG dt eX eQ=some r):Rt (dE.tw F aa 0 ah aF ⟨hJ,fJ,hK⟩ dt eX eQ H) (dE.Q H (Rs.blk aa [.i bC,.i bi,.sl eK,.i bD,.i bv,.sl dd,.i bj,.i bg,.sl fb,.i bw,.i bz,.sl de,.i bU,.i bA,.sl df,.bool aB]::Rs.ow iW ⟨hJ,fJ,hK⟩ eI.z iX mu iY::R0) R0 bC bi bD bv bj bg bw bz bU bA eK dd fb de df aa fJ hJ hK iW iX iY r):=by
 obtain ⟨w0,rD⟩:=h0
 subst tl
 unfold dE.p at hp
 unfold dE.tw dE.twX
 have s0:=w0.rf
 refine bm w0 λH1 w1 s1=>?_
 obtain ⟨w2,s2⟩:=w1.pp [1,2,0] 3
 exact dE.l7_P F rfl ⟨w2,(s0.trans (s1.trans s2)),(rD.step (s1.trans s2))⟩ hp
def hY.Q (H0:Hp) (Ri R0:am5) (bC bi bD bv bj bg bw bz bU bA:Int) (cQ ef cJ:ON) (cf dh ca aa:Nat) (cR eo cK:Cap) (fo gb fp:Bool) (fq ft gf gg fu fv:anb) (de df:Sl) (r:anO) (v:AV) (H':Hp):Prop:=∃ kD:List AV,∃ lC:List AV,∃ kE:List AV,v=(.tup [])/\cf=(r.1).length/\dh=(r.2.1).length/\ca=(r.2.2.1).length/\Out H0 Ri H' (Rs.ow fo ⟨cQ,cf,cR⟩ eI.z fq kD ft::Rs.ow gb ⟨ef,dh,eo⟩ eI.z gf lC gg::Rs.ow fp ⟨cJ,ca,cK⟩ eI.z fu kE fv::Rs.blk aa [.i bC,.i bi,.sl ⟨cQ,cf,cR⟩,.i bD,.i bv,.sl ⟨ef,dh,eo⟩,.i bj,.i bg,.sl ⟨cJ,ca,cK⟩,.i bw,.i bz,.sl de,.i bU,.i bA,.sl df,.bool (r.2.2.2)]::R0) λR=>CR eI H' R kD (r.1)/\CR eI H' R lC (r.2.1)/\CR eI H' R kE (r.2.2.1)
def hY.p (F:Nat) (bi:Int) (dR:am3) (bv:Int) (fO:am3) (bj:Int) (bg:Int) (dk:am3) (aB:Bool) (ah:Int) (cH:Int) (d_:Int):Option (List Int×List Int×List Int×Bool):=(bif (d_ != 0) then ((dD.p F aB bi dR ah cH d_).bind λr2=>(dD.p F r2.1 bv fO ah cH d_).bind λr5=>(dE.p F r5.1 bj bg dk cH ah (wrap .i64 (0 - d_))).bind λr8=>some (r2.2,r5.2,r8.2,r8.1)) else (some (dR,fO,dk,aB)))
theorem hY.P {bC bi bD bv bj bg bw bz bU bA ah cH d_ cQ ef cJ cf dh ca aa cR eo cK dR fO dk fo gb fp aB fq ft iE gf gg jv fu fv iF de df} (ms:cf=dR.length) (pV:dh=fO.length) (lj:ca=dk.length) (h0:Inn H (Rs.ow fo ⟨cQ,cf,cR⟩ eI.z fq iE ft::Rs.ow gb ⟨ef,dh,eo⟩ eI.z gf jv gg::Rs.ow fp ⟨cJ,ca,cK⟩ eI.z fu iF fv::Rs.blk aa [.i bC,.i bi,.sl ⟨cQ,cf,cR⟩,.i bD,.i bv,.sl ⟨ef,dh,eo⟩,.i bj,.i bg,.sl ⟨cJ,ca,cK⟩,.i bw,.i bz,.sl de,.i bU,.i bA,.sl df,.bool aB]::R0) λR=>CR eI H R iE dR/\CR eI H R jv fO/\CR eI H R iF dk) {r:anO} (hp:hY.p F bi dR bv fO bj bg dk aB ah cH d_=some r):Rt (hY.tw F aa 0 ah cH d_ H) (hY.Q H (Rs.ow fo ⟨cQ,cf,cR⟩ eI.z fq iE ft::Rs.ow gb ⟨ef,dh,eo⟩ eI.z gf jv gg::Rs.ow fp ⟨cJ,ca,cK⟩ eI.z fu iF fv::Rs.blk aa [.i bC,.i bi,.sl ⟨cQ,cf,cR⟩,.i bD,.i bv,.sl ⟨ef,dh,eo⟩,.i bj,.i bg,.sl ⟨cJ,ca,cK⟩,.i bw,.i bz,.sl de,.i bU,.i bA,.sl df,.bool aB]::R0) R0 bC bi bD bv bj bg bw bz bU bA cQ ef cJ cf dh ca aa cR eo cK fo gb fp fq ft gf gg fu fv de df r):=by
 obtain ⟨w0,kR,ox,ke⟩:=h0
 subst ms
 subst pV
 subst lj
 unfold hY.p at hp
 unfold hY.tw hY.twX
 have s0:=w0.rf
 refine aG hp (λhp=>?_) λhp=>?_
 ·refine lI w0 3 ?_
  refine lI w0 3 ?_
  refine lSl w0 3 ?_
  obtain ⟨w1,s1⟩:=w0.pp [3,0,1,2] 4
  obtain ⟨r2,e2,hp⟩:=ag hp
  refine aI (dD.P rfl ⟨w1,(kR.step s1)⟩ e2) ?_
  rintro _ H3 ⟨MI,rfl,hl3_0,w3,s3,f3_0⟩
  refine lI w3 0 ?_
  refine lI w3 0 ?_
  refine lSl w3 0 ?_
  obtain ⟨w4,s4⟩:=w3.pp [0,2,1,3] 4
  obtain ⟨r5,e5,hp⟩:=ag hp
  refine aI (dD.P rfl ⟨w4,(ox.step (s1.trans (s3.trans s4)))⟩ e5) ?_
  rintro _ H6 ⟨MJ,rfl,hl6_0,w6,s6,f6_0⟩
  refine lI w6 0 ?_
  refine lI w6 0 ?_
  refine lSl w6 0 ?_
  obtain ⟨w7,s7⟩:=w6.pp [0,3,1,2] 4
  obtain ⟨r8,e8,hp⟩:=ag hp
  refine aI (dE.P rfl ⟨w7,(ke.step (s1.trans (s3.trans (s4.trans (s6.trans s7)))))⟩ e8) ?_
  rintro _ H9 ⟨MK,rfl,hl9_0,w9,s9,f9_0⟩
  obtain ⟨w10,s10⟩:=w9.pp [3,2,1,0] 4
  exact aD hp ⟨_,_,_,rfl,hl3_0,hl6_0,hl9_0,w10,(s0.trans (s1.trans (s3.trans (s4.trans (s6.trans (s7.trans (s9.trans s10))))))),(f3_0.step (s4.trans (s6.trans (s7.trans (s9.trans s10))))),(f6_0.step (s7.trans (s9.trans s10))),(f9_0.step s10)⟩
 ·exact aD hp ⟨_,_,_,rfl,rfl,rfl,rfl,w0,s0,kR,ox,ke⟩
def io.Q (H0:Hp) (Ri R0:am5) (bC bi bD bv bj bg bw bz bU bA:Int) (cQ eg el:ON) (cf di dj aa:Nat) (cR es et:Cap) (fo gc gd:Bool) (fq ft gh gi gj gk:anb) (dd fb:Sl) (r:anO) (v:AV) (H':Hp):Prop:=∃ kD:List AV,∃ lD:List AV,∃ lE:List AV,v=(.tup [])/\cf=(r.1).length/\di=(r.2.1).length/\dj=(r.2.2.1).length/\Out H0 Ri H' (Rs.ow fo ⟨cQ,cf,cR⟩ eI.z fq kD ft::Rs.ow gc ⟨eg,di,es⟩ eI.z gh lD gi::Rs.ow gd ⟨el,dj,et⟩ eI.z gj lE gk::Rs.blk aa [.i bC,.i bi,.sl ⟨cQ,cf,cR⟩,.i bD,.i bv,.sl dd,.i bj,.i bg,.sl fb,.i bw,.i bz,.sl ⟨eg,di,es⟩,.i bU,.i bA,.sl ⟨el,dj,et⟩,.bool (r.2.2.2)]::R0) λR=>CR eI H' R kD (r.1)/\CR eI H' R lD (r.2.1)/\CR eI H' R lE (r.2.2.1)
def io.p (F:Nat) (bC:Int) (bi:Int) (dR:am3) (bw:Int) (bz:Int) (fP:am3) (bA:Int) (fQ:am3) (aB:Bool) (ah:Int) (cH:Int) (d_:Int):Option (List Int×List Int×List Int×Bool):=(bif (d_ != 0) then ((dE.p F aB bC bi dR ah cH d_).bind λr2=>(dE.p F r2.1 bw bz fP ah cH d_).bind λr5=>(dD.p F r5.1 bA fQ cH ah (wrap .i64 (0 - d_))).bind λr8=>some (r2.2,r5.2,r8.2,r8.1)) else (some (dR,fP,fQ,aB)))
theorem io.P {bC bi bD bv bj bg bw bz bU bA ah cH d_ cQ eg el cf di dj aa cR es et dR fP fQ fo gc gd aB fq ft iE gh gi jw gj gk jx dd fb} (ms:cf=dR.length) (pW:di=fP.length) (pX:dj=fQ.length) (h0:Inn H (Rs.ow fo ⟨cQ,cf,cR⟩ eI.z fq iE ft::Rs.ow gc ⟨eg,di,es⟩ eI.z gh jw gi::Rs.ow gd ⟨el,dj,et⟩ eI.z gj jx gk::Rs.blk aa [.i bC,.i bi,.sl ⟨cQ,cf,cR⟩,.i bD,.i bv,.sl dd,.i bj,.i bg,.sl fb,.i bw,.i bz,.sl ⟨eg,di,es⟩,.i bU,.i bA,.sl ⟨el,dj,et⟩,.bool aB]::R0) λR=>CR eI H R iE dR/\CR eI H R jw fP/\CR eI H R jx fQ) {r:anO} (hp:io.p F bC bi dR bw bz fP bA fQ aB ah cH d_=some r):Rt (io.tw F aa 0 ah cH d_ H) (io.Q H (Rs.ow fo ⟨cQ,cf,cR⟩ eI.z fq iE ft::Rs.ow gc ⟨eg,di,es⟩ eI.z gh jw gi::Rs.ow gd ⟨el,dj,et⟩ eI.z gj jx gk::Rs.blk aa [.i bC,.i bi,.sl ⟨cQ,cf,cR⟩,.i bD,.i bv,.sl dd,.i bj,.i bg,.sl fb,.i bw,.i bz,.sl ⟨eg,di,es⟩,.i bU,.i bA,.sl ⟨el,dj,et⟩,.bool aB]::R0) R0 bC bi bD bv bj bg bw bz bU bA cQ eg el cf di dj aa cR es et fo gc gd fq ft gh gi gj gk dd fb r):=by
 obtain ⟨w0,kR,oy,oz⟩:=h0
 subst ms
 subst pW
 subst pX
 unfold io.p at hp
 unfold io.tw io.twX
 have s0:=w0.rf
 refine aG hp (λhp=>?_) λhp=>?_
 ·refine lI w0 3 ?_
  refine lI w0 3 ?_
  refine lSl w0 3 ?_
  obtain ⟨w1,s1⟩:=w0.pp [3,0,1,2] 4
  obtain ⟨r2,e2,hp⟩:=ag hp
  refine aI (dE.P rfl ⟨w1,(kR.step s1)⟩ e2) ?_
  rintro _ H3 ⟨MI,rfl,hl3_0,w3,s3,f3_0⟩
  refine lI w3 0 ?_
  refine lI w3 0 ?_
  refine lSl w3 0 ?_
  obtain ⟨w4,s4⟩:=w3.pp [0,2,1,3] 4
  obtain ⟨r5,e5,hp⟩:=ag hp
  refine aI (dE.P rfl ⟨w4,(oy.step (s1.trans (s3.trans s4)))⟩ e5) ?_
  rintro _ H6 ⟨MJ,rfl,hl6_0,w6,s6,f6_0⟩
  refine lI w6 0 ?_
  refine lI w6 0 ?_
  refine lSl w6 0 ?_
  obtain ⟨w7,s7⟩:=w6.pp [0,3,1,2] 4
  obtain ⟨r8,e8,hp⟩:=ag hp
  refine aI (dD.P rfl ⟨w7,(oz.step (s1.trans (s3.trans (s4.trans (s6.trans s7)))))⟩ e8) ?_
  rintro _ H9 ⟨MK,rfl,hl9_0,w9,s9,f9_0⟩
  obtain ⟨w10,s10⟩:=w9.pp [3,2,1,0] 4
  exact aD hp ⟨_,_,_,rfl,hl3_0,hl6_0,hl9_0,w10,(s0.trans (s1.trans (s3.trans (s4.trans (s6.trans (s7.trans (s9.trans s10))))))),(f3_0.step (s4.trans (s6.trans (s7.trans (s9.trans s10))))),(f6_0.step (s7.trans (s9.trans s10))),(f9_0.step s10)⟩
 ·exact aD hp ⟨_,_,_,rfl,rfl,rfl,rfl,w0,s0,kR,oy,oz⟩
def cE.Q (H0:Hp) (Ri R0:am5) (bC bi bD bv bj bg bw bz bU bA:Int) (cQ:ON) (cf aa:Nat) (cR:Cap) (dR:am3) (dd fb de df:Sl) (aB:Bool) (r:Bool) (v:AV) (H':Hp):Prop:=v=(.bool r)/\Out H0 Ri H' (Rs.blk aa [.i bC,.i bi,.sl ⟨cQ,cf,cR⟩,.i bD,.i bv,.sl dd,.i bj,.i bg,.sl fb,.i bw,.i bz,.sl de,.i bU,.i bA,.sl df,.bool aB]::R0) λR=>True
def cE.S13 (H0:Hp) (Ri R0:am5) (aA ap aK av aw ar ax ay aO az:Int) (ba:ON) (aN aJ:Nat) (bc:Cap) (cF:am3) (cM ff cN cO:Sl) (bV:Bool) (C:anw) (pC:Int->Int->List Int->Int->Int->Option (Bool)):Prop:=∀ {gp gB},∀ {H:Hp},aN=cF.length->(Out H0 Ri H (Rs.blk aJ [.i aA,.i ap,.sl ⟨ba,aN,bc⟩,.i aK,.i av,.sl cM,.i aw,.i ar,.sl ff,.i ax,.i ay,.sl cN,.i aO,.i az,.sl cO,.bool bV]::R0) λR=>ROs eI H R ⟨ba,aN,bc⟩ cF)->∀ {r:Bool},pC aA ap cF gp gB=some r->Rt (C aJ 0 gp gB H) (cE.Q H0 Ri R0 aA ap aK av aw ar ax ay aO az ba aN aJ bc cF cM ff cN cO bV r)
def cE.S29 (H0:Hp) (Ri R0:am5) (aA ap aK av aw ar ax ay aO az:Int) (ba:ON) (aN aJ:Nat) (bc:Cap) (cF:am3) (cM ff cN cO:Sl) (bV:Bool) (C:anw) (pC:Int->List Int->Int->Int->Option (Bool)):Prop:=∀ {qE pu},∀ {H:Hp},aN=cF.length->(Out H0 Ri H (Rs.blk aJ [.i aA,.i ap,.sl ⟨ba,aN,bc⟩,.i aK,.i av,.sl cM,.i aw,.i ar,.sl ff,.i ax,.i ay,.sl cN,.i aO,.i az,.sl cO,.bool bV]::R0) λR=>ROs eI H R ⟨ba,aN,bc⟩ cF)->∀ {r:Bool},pC ap cF qE pu=some r->Rt (C aJ 0 qE pu H) (cE.Q H0 Ri R0 aA ap aK av aw ar ax ay aO az ba aN aJ bc cF cM ff cN cO bV r)
def cE.pl29 (F:Nat) :Nat->Int->List Int->Int->Int->Option (Bool)
 | 0,_,_,_,_=>none
 | k+1,ap,cF,qE,pu=>(bif (decide (pu<ap)) then ((bB.p F ap cF qE pu).bind λr1=>(bif (r1 != 0) then (some false) else (cE.pl29 F k ap cF qE (wrap .i64 (pu+1))))) else (some true))
theorem cE.l29_P {aA ap aK av aw ar ax ay aO az ba aN aJ bc cF cM ff cN cO bV} :∀ k,cE.S29 H0 Ri R0 aA ap aK av aw ar ax ay aO az ba aN aJ bc cF cM ff cN cO bV (cE.l29 F (bB.tw F)  k) (cE.pl29 F  k):=by
 intro k
 induction k with
 | zero=>unfold cE.S29;intros;rename_i hp;cases hp
 | succ k ih=>
  intro qE pu H pY h0 r hp
  obtain ⟨w0,s0,mA⟩:=h0
  subst pY
  unfold cE.pl29 at hp
  unfold cE.l29
  refine lI w0 0 ?_
  refine aG hp (λhp=>?_) λhp=>?_
  ·refine lI w0 0 ?_
   refine lI w0 0 ?_
   refine lSl w0 0 ?_
   obtain ⟨r1,e1,hp⟩:=ag hp
   refine aI (bB.P rfl ⟨w0,mA⟩ e1) ?_
   rintro _ H2 ⟨rfl,w2,s2,_⟩
   refine br ?_
   refine aG hp (λhp=>?_) λhp=>?_
   ·exact aD hp ⟨rfl,w2,(s0.trans s2),trivial⟩
   ·exact ih rfl ⟨w2,(s0.trans s2),(mA.step s2)⟩ hp
  ·exact aD hp ⟨rfl,w0,s0,trivial⟩
def cE.pj1 (F:Nat)  (ap:Int) (cF:am3) (tQ:Int):Option (Bool):=cE.pl29 F F ap cF tQ (wrap .i64 (tQ+1))
theorem cE.j1_P {aA ap aK av aw ar ax ay aO az ba aN aJ bc cF cM ff cN cO bV}  {tQ} (pY:aN=cF.length) (h0:Out H0 Ri H (Rs.blk aJ [.i aA,.i ap,.sl ⟨ba,aN,bc⟩,.i aK,.i av,.sl cM,.i aw,.i ar,.sl ff,.i ax,.i ay,.sl cN,.i aO,.i az,.sl cO,.bool bV]::R0) λR=>ROs eI H R ⟨ba,aN,bc⟩ cF) {r:Bool} (hp:cE.pj1 F  ap cF tQ=some r):Rt (cE.j1 F (bB.tw F)  aJ 0 tQ H) (cE.Q H0 Ri R0 aA ap aK av aw ar ax ay aO az ba aN aJ bc cF cM ff cN cO bV r):=by
 obtain ⟨w0,s0,mA⟩:=h0
 subst pY
 unfold cE.pj1 at hp
 unfold cE.j1
 exact cE.l29_P F rfl ⟨w0,s0,mA⟩ hp
def cE.pl13 (F:Nat) :Nat->Int->Int->List Int->Int->Int->Option (Bool)
 | 0,_,_,_,_,_=>none
 | k+1,aA,ap,cF,gp,gB=>(bif (decide (gB<aA)) then ((bB.p F ap cF gB gp).bind λr1=>(bif (r1 != 0) then (some false) else (cE.pl13 F k aA ap cF gp (wrap .i64 (gB+1))))) else (cE.pj1 F ap cF gp))
theorem cE.l13_P {aA ap aK av aw ar ax ay aO az ba aN aJ bc cF cM ff cN cO bV} :∀ k,cE.S13 H0 Ri R0 aA ap aK av aw ar ax ay aO az ba aN aJ bc cF cM ff cN cO bV (cE.l13 F (bB.tw F)  k) (cE.pl13 F  k):=by
 intro k
 induction k with
 | zero=>unfold cE.S13;intros;rename_i hp;cases hp
 | succ k ih=>
  intro gp gB H pY h0 r hp
  obtain ⟨w0,s0,mA⟩:=h0
  subst pY
  unfold cE.pl13 at hp
  unfold cE.l13
  refine lI w0 0 ?_
  refine aG hp (λhp=>?_) λhp=>?_
  ·refine lI w0 0 ?_
   refine lI w0 0 ?_
   refine lSl w0 0 ?_
   obtain ⟨r1,e1,hp⟩:=ag hp
   refine aI (bB.P rfl ⟨w0,mA⟩ e1) ?_
   rintro _ H2 ⟨rfl,w2,s2,_⟩
   refine br ?_
   refine aG hp (λhp=>?_) λhp=>?_
   ·exact aD hp ⟨rfl,w2,(s0.trans s2),trivial⟩
   ·exact ih rfl ⟨w2,(s0.trans s2),(mA.step s2)⟩ hp
  ·exact cE.j1_P rfl ⟨w0,s0,mA⟩ hp
def cE.p (F:Nat) (bC:Int) (bi:Int) (dR:am3) (ah:Int):Option (Bool):=cE.pl13 F F bC bi dR ah (wrap .i64 (ah+1))
theorem cE.P {bC bi bD bv bj bg bw bz bU bA ah cQ cf aa cR dR dd fb de df aB} (ms:cf=dR.length) (h0:Inn H (Rs.blk aa [.i bC,.i bi,.sl ⟨cQ,cf,cR⟩,.i bD,.i bv,.sl dd,.i bj,.i bg,.sl fb,.i bw,.i bz,.sl de,.i bU,.i bA,.sl df,.bool aB]::R0) λR=>ROs eI H R ⟨cQ,cf,cR⟩ dR) {r:Bool} (hp:cE.p F bC bi dR ah=some r):Rt (cE.tw F aa 0 ah H) (cE.Q H (Rs.blk aa [.i bC,.i bi,.sl ⟨cQ,cf,cR⟩,.i bD,.i bv,.sl dd,.i bj,.i bg,.sl fb,.i bw,.i bz,.sl de,.i bU,.i bA,.sl df,.bool aB]::R0) R0 bC bi bD bv bj bg bw bz bU bA cQ cf aa cR dR dd fb de df aB r):=by
 obtain ⟨w0,kR⟩:=h0
 subst ms
 unfold cE.p at hp
 unfold cE.tw cE.twX
 have s0:=w0.rf
 exact cE.l13_P F rfl ⟨w0,s0,kR⟩ hp
def bT.Q (H0:Hp) (Ri R0:am5) (bC bi bD bv bj bg bw bz bU bA:Int) (cQ:ON) (cf aa:Nat) (cR:Cap) (dR:am3) (dd fb de df:Sl) (aB:Bool) (r:Int) (v:AV) (H':Hp):Prop:=v=(.i r)/\Out H0 Ri H' (Rs.blk aa [.i bC,.i bi,.sl ⟨cQ,cf,cR⟩,.i bD,.i bv,.sl dd,.i bj,.i bg,.sl fb,.i bw,.i bz,.sl de,.i bU,.i bA,.sl df,.bool aB]::R0) λR=>True
def bT.S13 (H0:Hp) (Ri R0:am5) (aA ap aK av aw ar ax ay aO az:Int) (ba:ON) (aN aJ:Nat) (bc:Cap) (cF:am3) (cM ff cN cO:Sl) (bV:Bool) (C:anw) (pC:anW):Prop:=∀ {gp gB},∀ {H:Hp},aN=cF.length->(Out H0 Ri H (Rs.blk aJ [.i aA,.i ap,.sl ⟨ba,aN,bc⟩,.i aK,.i av,.sl cM,.i aw,.i ar,.sl ff,.i ax,.i ay,.sl cN,.i aO,.i az,.sl cO,.bool bV]::R0) λR=>ROs eI H R ⟨ba,aN,bc⟩ cF)->∀ {r:Int},pC aA ap cF gp gB=some r->Rt (C aJ 0 gp gB H) (bT.Q H0 Ri R0 aA ap aK av aw ar ax ay aO az ba aN aJ bc cF cM ff cN cO bV r)
def bT.S213 (H0:Hp) (Ri R0:am5) (aA ap aK av aw ar ax ay aO az:Int) (ba:ON) (aN aJ:Nat) (bc:Cap) (cF:am3) (cM ff cN cO:Sl) (bV:Bool) (C:anf) (pC:Int->Int->List Int->Int->Int->Int->Option (Int)):Prop:=∀ {nN nO pv},∀ {H:Hp},aN=cF.length->(Out H0 Ri H (Rs.blk aJ [.i aA,.i ap,.sl ⟨ba,aN,bc⟩,.i aK,.i av,.sl cM,.i aw,.i ar,.sl ff,.i ax,.i ay,.sl cN,.i aO,.i az,.sl cO,.bool bV]::R0) λR=>ROs eI H R ⟨ba,aN,bc⟩ cF)->∀ {r:Int},pC aA ap cF nN nO pv=some r->Rt (C aJ 0 nN nO pv H) (bT.Q H0 Ri R0 aA ap aK av aw ar ax ay aO az ba aN aJ bc cF cM ff cN cO bV r)
def bT.pj3 (F:Nat) (gI:anW) (aA:Int) (ap:Int) (cF:am3) (yN:Int) (yO:Int):Option (Int):=gI aA ap cF yN (wrap .i64 (yO+1))
theorem bT.j3_P {aA ap aK av aw ar ax ay aO az ba aN aJ bc cF cM ff cN cO bV} {C13_:anw} {gI:anW} (hC13:bT.S13 H0 Ri R0 aA ap aK av aw ar ax ay aO az ba aN aJ bc cF cM ff cN cO bV C13_ gI) {yN yO} (pY:aN=cF.length) (h0:Out H0 Ri H (Rs.blk aJ [.i aA,.i ap,.sl ⟨ba,aN,bc⟩,.i aK,.i av,.sl cM,.i aw,.i ar,.sl ff,.i ax,.i ay,.sl cN,.i aO,.i az,.sl cO,.bool bV]::R0) λR=>ROs eI H R ⟨ba,aN,bc⟩ cF) {r:Int} (hp:bT.pj3 F gI aA ap cF yN yO=some r):Rt (bT.j3 F (bB.tw F) C13_ aJ 0 yN yO H) (bT.Q H0 Ri R0 aA ap aK av aw ar ax ay aO az ba aN aJ bc cF cM ff cN cO bV r):=by
 obtain ⟨w0,s0,mA⟩:=h0
 subst pY
 unfold bT.pj3 at hp
 unfold bT.j3
 exact hC13 rfl ⟨w0,s0,mA⟩ hp
def bT.pj4 (F:Nat) (gI:anW) (aA:Int) (ap:Int) (cF:am3) (yP:Int) (tR:Int):Option (Int):=bT.pj3 F gI aA ap cF yP tR
theorem bT.j4_P {aA ap aK av aw ar ax ay aO az ba aN aJ bc cF cM ff cN cO bV} {C13_:anw} {gI:anW} (hC13:bT.S13 H0 Ri R0 aA ap aK av aw ar ax ay aO az ba aN aJ bc cF cM ff cN cO bV C13_ gI) {yP tR} (pY:aN=cF.length) (h0:Out H0 Ri H (Rs.blk aJ [.i aA,.i ap,.sl ⟨ba,aN,bc⟩,.i aK,.i av,.sl cM,.i aw,.i ar,.sl ff,.i ax,.i ay,.sl cN,.i aO,.i az,.sl cO,.bool bV]::R0) λR=>ROs eI H R ⟨ba,aN,bc⟩ cF) {r:Int} (hp:bT.pj4 F gI aA ap cF yP tR=some r):Rt (bT.j4 F (bB.tw F) C13_ aJ 0 yP tR H) (bT.Q H0 Ri R0 aA ap aK av aw ar ax ay aO az ba aN aJ bc cF cM ff cN cO bV r):=by
 obtain ⟨w0,s0,mA⟩:=h0
 subst pY
 unfold bT.pj4 at hp
 unfold bT.j4
 exact bT.j3_P (@hC13) rfl ⟨w0,s0,mA⟩ hp
def bT.pl213 (F:Nat) (gI:anW):Nat->Int->Int->List Int->Int->Int->Int->Option (Int)
 | 0,_,_,_,_,_,_=>none
 | k+1,aA,ap,cF,nN,nO,pv=>(bif (decide (pv<ap)) then ((bB.p F ap cF nO pv).bind λr1=>(bB.p F ap cF nN nN).bind λr4=>(if r4=0 then none else ((bif ((Int.tmod r1 r4) != 0) then (some nO) else (bT.pl213 F gI k aA ap cF nN nO (wrap .i64 (pv+1))))))) else (bT.pj4 F gI aA ap cF nN nO))
theorem bT.l213_P {aA ap aK av aw ar ax ay aO az ba aN aJ bc cF cM ff cN cO bV} {C13_:anw} {gI:anW} (hC13:bT.S13 H0 Ri R0 aA ap aK av aw ar ax ay aO az ba aN aJ bc cF cM ff cN cO bV C13_ gI):∀ k,bT.S213 H0 Ri R0 aA ap aK av aw ar ax ay aO az ba aN aJ bc cF cM ff cN cO bV (bT.l213 F (bB.tw F) C13_ k) (bT.pl213 F gI k):=by
 intro k
 induction k with
 | zero=>unfold bT.S213;intros;rename_i hp;cases hp
 | succ k ih=>
  intro nN nO pv H pY h0 r hp
  obtain ⟨w0,s0,mA⟩:=h0
  subst pY
  unfold bT.pl213 at hp
  unfold bT.l213
  refine lI w0 0 ?_
  refine aG hp (λhp=>?_) λhp=>?_
  ·refine lI w0 0 ?_
   refine lI w0 0 ?_
   refine lSl w0 0 ?_
   obtain ⟨r1,e1,hp⟩:=ag hp
   refine aI (bB.P rfl ⟨w0,mA⟩ e1) ?_
   rintro _ H2 ⟨rfl,w2,s2,_⟩
   refine br ?_
   refine fg (W.cons_of (Rn:=[]) w0 w2 s2) ?_
   refine lI w2 0 ?_
   refine lI w2 0 ?_
   refine lSl w2 0 ?_
   obtain ⟨r4,e4,hp⟩:=ag hp
   refine aI (bB.P rfl ⟨w2,(mA.step s2)⟩ e4) ?_
   rintro _ H5 ⟨rfl,w5,s5,_⟩
   refine br ?_
   obtain ⟨g6,hp⟩:=uZ hp
   refine u_ g6 ?_
   refine aG hp (λhp=>?_) λhp=>?_
   ·exact aD hp ⟨rfl,w5,(s0.trans (s2.trans s5)),trivial⟩
   ·exact ih rfl ⟨w5,(s0.trans (s2.trans s5)),(mA.step (s2.trans s5))⟩ hp
  ·exact bT.j4_P (@hC13) rfl ⟨w0,s0,mA⟩ hp
def bT.pl13 (F:Nat) :Nat->Int->Int->List Int->Int->Int->Option (Int)
 | 0,_,_,_,_,_=>none
 | k+1,aA,ap,cF,gp,gB=>(bif (decide (gB<aA)) then (bT.pl213 F (bT.pl13 F k) F aA ap cF gp gB (wrap .i64 (gp+1))) else (some (-1)))
theorem bT.l13_P {aA ap aK av aw ar ax ay aO az ba aN aJ bc cF cM ff cN cO bV} :∀ k,bT.S13 H0 Ri R0 aA ap aK av aw ar ax ay aO az ba aN aJ bc cF cM ff cN cO bV (bT.l13 F (bB.tw F)  k) (bT.pl13 F  k):=by
 intro k
 induction k with
 | zero=>unfold bT.S13;intros;rename_i hp;cases hp
 | succ k ih=>
  intro gp gB H pY h0 r hp
  obtain ⟨w0,s0,mA⟩:=h0
  subst pY
  unfold bT.pl13 at hp
  unfold bT.l13
  refine lI w0 0 ?_
  refine aG hp (λhp=>?_) λhp=>?_
  ·exact bT.l213_P (@ih) F rfl ⟨w0,s0,mA⟩ hp
  ·exact aD hp ⟨rfl,w0,s0,trivial⟩
def bT.p (F:Nat) (bC:Int) (bi:Int) (dR:am3) (ah:Int):Option (Int):=bT.pl13 F F bC bi dR ah (wrap .i64 (ah+1))
theorem bT.P {bC bi bD bv bj bg bw bz bU bA ah cQ cf aa cR dR dd fb de df aB} (ms:cf=dR.length) (h0:Inn H (Rs.blk aa [.i bC,.i bi,.sl ⟨cQ,cf,cR⟩,.i bD,.i bv,.sl dd,.i bj,.i bg,.sl fb,.i bw,.i bz,.sl de,.i bU,.i bA,.sl df,.bool aB]::R0) λR=>ROs eI H R ⟨cQ,cf,cR⟩ dR) {r:Int} (hp:bT.p F bC bi dR ah=some r):Rt (bT.tw F aa 0 ah H) (bT.Q H (Rs.blk aa [.i bC,.i bi,.sl ⟨cQ,cf,cR⟩,.i bD,.i bv,.sl dd,.i bj,.i bg,.sl fb,.i bw,.i bz,.sl de,.i bU,.i bA,.sl df,.bool aB]::R0) R0 bC bi bD bv bj bg bw bz bU bA cQ cf aa cR dR dd fb de df aB r):=by
 obtain ⟨w0,kR⟩:=h0
 subst ms
 unfold bT.p at hp
 unfold bT.tw bT.twX
 have s0:=w0.rf
 exact bT.l13_P F rfl ⟨w0,s0,kR⟩ hp
def bF.Q (H0:Hp) (Ri R0:am5) (bC bi bD bv bj bg bw bz bU bA:Int) (cQ ef cJ eg el:ON) (cf dh ca di dj aa:Nat) (cR eo cK es et:Cap) (fo gb fp gc gd:Bool) (fq ft gf gg fu fv gh gi gj gk:anb) (r:an7) (v:AV) (H':Hp):Prop:=∃ kD:List AV,∃ lC:List AV,∃ kE:List AV,∃ lD:List AV,∃ lE:List AV,v=(.tup [(.bool r.1),(.bool r.2.1)])/\cf=(r.2.2.1).length/\dh=(r.2.2.2.1).length/\ca=(r.2.2.2.2.1).length/\di=(r.2.2.2.2.2.1).length/\dj=(r.2.2.2.2.2.2.1).length/\Out H0 Ri H' (Rs.ow fo ⟨cQ,cf,cR⟩ eI.z fq kD ft::Rs.ow gb ⟨ef,dh,eo⟩ eI.z gf lC gg::Rs.ow fp ⟨cJ,ca,cK⟩ eI.z fu kE fv::Rs.ow gc ⟨eg,di,es⟩ eI.z gh lD gi::Rs.ow gd ⟨el,dj,et⟩ eI.z gj lE gk::Rs.blk aa [.i bC,.i bi,.sl ⟨cQ,cf,cR⟩,.i bD,.i bv,.sl ⟨ef,dh,eo⟩,.i bj,.i bg,.sl ⟨cJ,ca,cK⟩,.i bw,.i bz,.sl ⟨eg,di,es⟩,.i bU,.i bA,.sl ⟨el,dj,et⟩,.bool (r.2.2.2.2.2.2.2)]::R0) λR=>CR eI H' R kD (r.2.2.1)/\CR eI H' R lC (r.2.2.2.1)/\CR eI H' R kE (r.2.2.2.2.1)/\CR eI H' R lD (r.2.2.2.2.2.1)/\CR eI H' R lE (r.2.2.2.2.2.2.1)
def bF.S29 (H0:Hp) (Ri R0:am5) (aA ap aK av aw ar ax ay aO az:Int) (ba bL aU bM bN:ON) (aN bp aM bs bt aJ:Nat) (bc bO aV bP bQ:Cap) (ci cj ck cl cn:Bool) (co cp cq ct cu cv cw cz cA cB:anb) (C:anw) (pC:aoJ):Prop:=∀ {aP aW aQ aX aY cT cU cV cW cX aB fL nQ},∀ {H:Hp},aN=aP.length->bp=aW.length->aM=aQ.length->bs=aX.length->bt=aY.length->(Out H0 Ri H (Rs.ow ci ⟨ba,aN,bc⟩ eI.z co cT cp::Rs.ow cj ⟨bL,bp,bO⟩ eI.z cq cU ct::Rs.ow ck ⟨aU,aM,aV⟩ eI.z cu cV cv::Rs.ow cl ⟨bM,bs,bP⟩ eI.z cw cW cz::Rs.ow cn ⟨bN,bt,bQ⟩ eI.z cA cX cB::Rs.blk aJ [.i aA,.i ap,.sl ⟨ba,aN,bc⟩,.i aK,.i av,.sl ⟨bL,bp,bO⟩,.i aw,.i ar,.sl ⟨aU,aM,aV⟩,.i ax,.i ay,.sl ⟨bM,bs,bP⟩,.i aO,.i az,.sl ⟨bN,bt,bQ⟩,.bool aB]::R0) λR=>CR eI H R cT aP/\CR eI H R cU aW/\CR eI H R cV aQ/\CR eI H R cW aX/\CR eI H R cX aY)->∀ {r:an7},pC aA ap aP av aW aw ar aQ ax ay aX az aY aB fL nQ=some r->Rt (C aJ 0 fL nQ H) (bF.Q H0 Ri R0 aA ap aK av aw ar ax ay aO az ba bL aU bM bN aN bp aM bs bt aJ bc bO aV bP bQ ci cj ck cl cn co cp cq ct cu cv cw cz cA cB r)
def bF.S61 (H0:Hp) (Ri R0:am5) (aA ap aK av aw ar ax ay aO az:Int) (ba bL aU bM bN:ON) (aN bp aM bs bt aJ:Nat) (bc bO aV bP bQ:Cap) (ci cj ck cl cn:Bool) (co cp cq ct cu cv cw cz cA cB:anb) (C:anw) (pC:aoJ):Prop:=∀ {aP aW aQ aX aY cT cU cV cW cX aB kX nP},∀ {H:Hp},aN=aP.length->bp=aW.length->aM=aQ.length->bs=aX.length->bt=aY.length->(Out H0 Ri H (Rs.ow ci ⟨ba,aN,bc⟩ eI.z co cT cp::Rs.ow cj ⟨bL,bp,bO⟩ eI.z cq cU ct::Rs.ow ck ⟨aU,aM,aV⟩ eI.z cu cV cv::Rs.ow cl ⟨bM,bs,bP⟩ eI.z cw cW cz::Rs.ow cn ⟨bN,bt,bQ⟩ eI.z cA cX cB::Rs.blk aJ [.i aA,.i ap,.sl ⟨ba,aN,bc⟩,.i aK,.i av,.sl ⟨bL,bp,bO⟩,.i aw,.i ar,.sl ⟨aU,aM,aV⟩,.i ax,.i ay,.sl ⟨bM,bs,bP⟩,.i aO,.i az,.sl ⟨bN,bt,bQ⟩,.bool aB]::R0) λR=>CR eI H R cT aP/\CR eI H R cU aW/\CR eI H R cV aQ/\CR eI H R cW aX/\CR eI H R cX aY)->∀ {r:an7},pC aA ap aP av aW aw ar aQ ax ay aX az aY aB kX nP=some r->Rt (C aJ 0 kX nP H) (bF.Q H0 Ri R0 aA ap aK av aw ar ax ay aO az ba bL aU bM bN aN bp aM bs bt aJ bc bO aV bP bQ ci cj ck cl cn co cp cq ct cu cv cw cz cA cB r)
def bF.pj1 (F:Nat)  (aA:Int) (ap:Int) (aP:am3) (av:Int) (aW:am3) (aw:Int) (ar:Int) (aQ:am3) (aX:am3) (aY:am3) (aB:Bool) (rV:Int):Option (Bool×Bool×List Int×List Int×List Int×List Int×List Int×Bool):=(bif aB then (some (false,false,aP,aW,aQ,aX,aY,aB)) else ((cE.p F aA ap aP rV).bind λr3=>(bif (!r3) then (some (false,false,aP,aW,aQ,aX,aY,aB)) else ((bT.p F aA ap aP rV).bind λr8=>(bif (decide (r8<0)) then (some (true,false,aP,aW,aQ,aX,aY,aB)) else ((hY.p F ap aP av aW aw ar aQ aB rV r8 (-1)).bind λr13=>some (false,false,r13.1,r13.2.1,r13.2.2.1,aX,aY,r13.2.2.2)))))))
theorem bF.j1_P {aA ap aK av aw ar ax ay aO az ba bL aU bM bN aN bp aM bs bt aJ bc bO aV bP bQ ci cj ck cl cn co cp cq ct cu cv cw cz cA cB}  {aP aW aQ aX aY cT cU cV cW cX aB rV} (fw:aN=aP.length) (fx:bp=aW.length) (fy:aM=aQ.length) (fz:bs=aX.length) (fA:bt=aY.length) (h0:Out H0 Ri H (Rs.ow ci ⟨ba,aN,bc⟩ eI.z co cT cp::Rs.ow cj ⟨bL,bp,bO⟩ eI.z cq cU ct::Rs.ow ck ⟨aU,aM,aV⟩ eI.z cu cV cv::Rs.ow cl ⟨bM,bs,bP⟩ eI.z cw cW cz::Rs.ow cn ⟨bN,bt,bQ⟩ eI.z cA cX cB::Rs.blk aJ [.i aA,.i ap,.sl ⟨ba,aN,bc⟩,.i aK,.i av,.sl ⟨bL,bp,bO⟩,.i aw,.i ar,.sl ⟨aU,aM,aV⟩,.i ax,.i ay,.sl ⟨bM,bs,bP⟩,.i aO,.i az,.sl ⟨bN,bt,bQ⟩,.bool aB]::R0) λR=>CR eI H R cT aP/\CR eI H R cU aW/\CR eI H R cV aQ/\CR eI H R cW aX/\CR eI H R cX aY) {r:an7} (hp:bF.pj1 F  aA ap aP av aW aw ar aQ aX aY aB rV=some r):Rt (bF.j1 F (aL.tw F) (bB.tw F) (jn.tw F) (hY.tw F) (io.tw F) (cE.tw F) (bT.tw F)  aJ 0 rV H) (bF.Q H0 Ri R0 aA ap aK av aw ar ax ay aO az ba bL aU bM bN aN bp aM bs bt aJ bc bO aV bP bQ ci cj ck cl cn co cp cq ct cu cv cw cz cA cB r):=by
 obtain ⟨w0,s0,cY,dp,dc,dA,dB⟩:=h0
 subst fw
 subst fx
 subst fy
 subst fz
 subst fA
 unfold bF.pj1 at hp
 unfold bF.j1
 refine lB w0 5 ?_
 refine aG hp (λhp=>?_) λhp=>?_
 ·exact aD hp ⟨_,_,_,_,_,rfl,rfl,rfl,rfl,rfl,rfl,w0,s0,cY,dp,dc,dA,dB⟩
 ·obtain ⟨w1,s1⟩:=w0.pp [0,5,1,2,3,4] 6
  have f2:=W.borrow1 eI w1 (cY.step s1)
  obtain ⟨w2,s2⟩:=w1.right1
  obtain ⟨r3,e3,hp⟩:=ag hp
  refine aI (cE.P rfl ⟨w2,f2⟩ e3) ?_
  rintro _ H4 ⟨rfl,w4,s4,_⟩
  obtain ⟨w5,s5⟩:=W.frame1 w1 w4 s4
  refine br ?_
  refine aG hp (λhp=>?_) λhp=>?_
  ·obtain ⟨w6,s6⟩:=w5.pp [0,2,3,4,5,1] 6
   exact aD hp ⟨_,_,_,_,_,rfl,rfl,rfl,rfl,rfl,rfl,w6,(s0.trans (s1.trans (s5.trans s6))),(cY.step (s1.trans (s5.trans s6))),(dp.step (s1.trans (s5.trans s6))),(dc.step (s1.trans (s5.trans s6))),(dA.step (s1.trans (s5.trans s6))),(dB.step (s1.trans (s5.trans s6)))⟩
  ·have f7:=W.borrow1 eI w5 (cY.step (s1.trans s5))
   obtain ⟨w7,s7⟩:=w5.right1
   obtain ⟨r8,e8,hp⟩:=ag hp
   refine aI (bT.P rfl ⟨w7,f7⟩ e8) ?_
   rintro _ H9 ⟨rfl,w9,s9,_⟩
   obtain ⟨w10,s10⟩:=W.frame1 w5 w9 s9
   refine br ?_
   refine aG hp (λhp=>?_) λhp=>?_
   ·obtain ⟨w11,s11⟩:=w10.pp [0,2,3,4,5,1] 6
    exact aD hp ⟨_,_,_,_,_,rfl,rfl,rfl,rfl,rfl,rfl,w11,(s0.trans (s1.trans (s5.trans (s10.trans s11)))),(cY.step (s1.trans (s5.trans (s10.trans s11)))),(dp.step (s1.trans (s5.trans (s10.trans s11)))),(dc.step (s1.trans (s5.trans (s10.trans s11)))),(dA.step (s1.trans (s5.trans (s10.trans s11)))),(dB.step (s1.trans (s5.trans (s10.trans s11))))⟩
   ·obtain ⟨w12,s12⟩:=w10.pp [0,2,3,1,4,5] 6
    obtain ⟨r13,e13,hp⟩:=ag hp
    refine aI (hY.P rfl rfl rfl ⟨w12,(cY.step (s1.trans (s5.trans (s10.trans s12)))),(dp.step (s1.trans (s5.trans (s10.trans s12)))),(dc.step (s1.trans (s5.trans (s10.trans s12))))⟩ e13) ?_
    rintro _ H14 ⟨Wz,agy,agz,rfl,hl14_0,hl14_1,hl14_2,w14,s14,f14_0,f14_1,f14_2⟩
    obtain ⟨w15,s15⟩:=w14.pp [0,1,2,4,5,3] 6
    exact aD hp ⟨_,_,_,_,_,rfl,hl14_0,hl14_1,hl14_2,rfl,rfl,w15,(s0.trans (s1.trans (s5.trans (s10.trans (s12.trans (s14.trans s15)))))),(f14_0.step s15),(f14_1.step s15),(f14_2.step s15),(dA.step (s1.trans (s5.trans (s10.trans (s12.trans (s14.trans s15)))))),(dB.step (s1.trans (s5.trans (s10.trans (s12.trans (s14.trans s15))))))⟩
def bF.pl61 (F:Nat) :Nat->Int->Int->List Int->Int->List Int->Int->Int->List Int->Int->Int->List Int->Int->List Int->Bool->Int->Int->Option (Bool×Bool×List Int×List Int×List Int×List Int×List Int×Bool)
 | 0,_,_,_,_,_,_,_,_,_,_,_,_,_,_,_,_=>none
 | k+1,aA,ap,aP,av,aW,aw,ar,aQ,ax,ay,aX,az,aY,aB,kX,nP=>(bif (decide (nP<ap)) then ((bif (!aB) then ((bB.p F ap aP kX nP).bind λr2=>(bB.p F ap aP kX kX).bind λr7=>(jn.p F r2 r7).bind λr10=>(io.p F aA ap aP ax ay aX az aY aB nP kX r10).bind λr13=>bF.pl61 F k aA ap r13.1 av aW aw ar aQ ax ay r13.2.1 az r13.2.2.1 r13.2.2.2 kX (wrap .i64 (nP+1))) else (bF.pj1 F aA ap aP av aW aw ar aQ aX aY aB kX))) else (bF.pj1 F aA ap aP av aW aw ar aQ aX aY aB kX))
theorem bF.l61_P {aA ap aK av aw ar ax ay aO az ba bL aU bM bN aN bp aM bs bt aJ bc bO aV bP bQ ci cj ck cl cn co cp cq ct cu cv cw cz cA cB} :∀ k,bF.S61 H0 Ri R0 aA ap aK av aw ar ax ay aO az ba bL aU bM bN aN bp aM bs bt aJ bc bO aV bP bQ ci cj ck cl cn co cp cq ct cu cv cw cz cA cB (bF.l61 F (aL.tw F) (bB.tw F) (jn.tw F) (hY.tw F) (io.tw F) (cE.tw F) (bT.tw F)  k) (bF.pl61 F  k):=by
 intro k
 induction k with
 | zero=>unfold bF.S61;intros;rename_i hp;cases hp
 | succ k ih=>
  intro aP aW aQ aX aY cT cU cV cW cX aB kX nP H fw fx fy fz fA h0 r hp
  obtain ⟨w0,s0,cY,dp,dc,dA,dB⟩:=h0
  subst fw
  subst fx
  subst fy
  subst fz
  subst fA
  unfold bF.pl61 at hp
  unfold bF.l61
  refine lI w0 5 ?_
  refine aG hp (λhp=>?_) λhp=>?_
  ·refine lB w0 5 ?_
   refine aG hp (λhp=>?_) λhp=>?_
   ·refine lI w0 5 ?_
    refine lI w0 5 ?_
    refine lSl w0 5 ?_
    have f1:=W.borrow1 eI w0 cY
    obtain ⟨w1,s1⟩:=w0.right1
    obtain ⟨r2,e2,hp⟩:=ag hp
    refine aI (bB.P rfl ⟨w1,f1⟩ e2) ?_
    rintro _ H3 ⟨rfl,w3,s3,_⟩
    obtain ⟨w4,s4⟩:=W.frame1 w0 w3 s3
    refine br ?_
    refine fg (W.cons_of (Rn:=[]) w1 w3 s3) ?_
    refine lI w4 5 ?_
    refine lI w4 5 ?_
    refine lSl w4 5 ?_
    have f6:=W.borrow1 eI w4 (cY.step s4)
    obtain ⟨w6,s6⟩:=w4.right1
    obtain ⟨r7,e7,hp⟩:=ag hp
    refine aI (bB.P rfl ⟨w6,f6⟩ e7) ?_
    rintro _ H8 ⟨rfl,w8,s8,_⟩
    obtain ⟨w9,s9⟩:=W.frame1 w4 w8 s8
    refine br ?_
    obtain ⟨r10,e10,hp⟩:=ag hp
    refine aI (jn.P ⟨w9,trivial⟩ e10) ?_
    rintro _ H11 ⟨rfl,w11,s11,_⟩
    refine br ?_
    obtain ⟨w12,s12⟩:=w11.pp [0,3,4,5,1,2] 6
    obtain ⟨r13,e13,hp⟩:=ag hp
    refine aI (io.P rfl rfl rfl ⟨w12,(cY.step (s4.trans (s9.trans (s11.trans s12)))),(dA.step (s4.trans (s9.trans (s11.trans s12)))),(dB.step (s4.trans (s9.trans (s11.trans s12))))⟩ e13) ?_
    rintro _ H14 ⟨Wz,amd,ame,rfl,hl14_0,hl14_1,hl14_2,w14,s14,f14_0,f14_1,f14_2⟩
    obtain ⟨w15,s15⟩:=w14.pp [0,4,5,1,2,3] 6
    exact ih hl14_0 rfl rfl hl14_1 hl14_2 ⟨w15,(s0.trans (s4.trans (s9.trans (s11.trans (s12.trans (s14.trans s15)))))),(f14_0.step s15),(dp.step (s4.trans (s9.trans (s11.trans (s12.trans (s14.trans s15)))))),(dc.step (s4.trans (s9.trans (s11.trans (s12.trans (s14.trans s15)))))),(f14_1.step s15),(f14_2.step s15)⟩ hp
   ·exact bF.j1_P rfl rfl rfl rfl rfl ⟨w0,s0,cY,dp,dc,dA,dB⟩ hp
  ·exact bF.j1_P rfl rfl rfl rfl rfl ⟨w0,s0,cY,dp,dc,dA,dB⟩ hp
def bF.pj2 (F:Nat)  (aA:Int) (ap:Int) (aP:am3) (av:Int) (aW:am3) (aw:Int) (ar:Int) (aQ:am3) (ax:Int) (ay:Int) (aX:am3) (az:Int) (aY:am3) (aB:Bool) (tS:Int):Option (Bool×Bool×List Int×List Int×List Int×List Int×List Int×Bool):=bF.pl61 F F aA ap aP av aW aw ar aQ ax ay aX az aY aB tS (wrap .i64 (tS+1))
theorem bF.j2_P {aA ap aK av aw ar ax ay aO az ba bL aU bM bN aN bp aM bs bt aJ bc bO aV bP bQ ci cj ck cl cn co cp cq ct cu cv cw cz cA cB}  {aP aW aQ aX aY cT cU cV cW cX aB tS} (fw:aN=aP.length) (fx:bp=aW.length) (fy:aM=aQ.length) (fz:bs=aX.length) (fA:bt=aY.length) (h0:Out H0 Ri H (Rs.ow ci ⟨ba,aN,bc⟩ eI.z co cT cp::Rs.ow cj ⟨bL,bp,bO⟩ eI.z cq cU ct::Rs.ow ck ⟨aU,aM,aV⟩ eI.z cu cV cv::Rs.ow cl ⟨bM,bs,bP⟩ eI.z cw cW cz::Rs.ow cn ⟨bN,bt,bQ⟩ eI.z cA cX cB::Rs.blk aJ [.i aA,.i ap,.sl ⟨ba,aN,bc⟩,.i aK,.i av,.sl ⟨bL,bp,bO⟩,.i aw,.i ar,.sl ⟨aU,aM,aV⟩,.i ax,.i ay,.sl ⟨bM,bs,bP⟩,.i aO,.i az,.sl ⟨bN,bt,bQ⟩,.bool aB]::R0) λR=>CR eI H R cT aP/\CR eI H R cU aW/\CR eI H R cV aQ/\CR eI H R cW aX/\CR eI H R cX aY) {r:an7} (hp:bF.pj2 F  aA ap aP av aW aw ar aQ ax ay aX az aY aB tS=some r):Rt (bF.j2 F (aL.tw F) (bB.tw F) (jn.tw F) (hY.tw F) (io.tw F) (cE.tw F) (bT.tw F)  aJ 0 tS H) (bF.Q H0 Ri R0 aA ap aK av aw ar ax ay aO az ba bL aU bM bN aN bp aM bs bt aJ bc bO aV bP bQ ci cj ck cl cn co cp cq ct cu cv cw cz cA cB r):=by
 obtain ⟨w0,s0,cY,dp,dc,dA,dB⟩:=h0
 subst fw
 subst fx
 subst fy
 subst fz
 subst fA
 unfold bF.pj2 at hp
 unfold bF.j2
 exact bF.l61_P F rfl rfl rfl rfl rfl ⟨w0,s0,cY,dp,dc,dA,dB⟩ hp
def bF.pl29 (F:Nat) :Nat->Int->Int->List Int->Int->List Int->Int->Int->List Int->Int->Int->List Int->Int->List Int->Bool->Int->Int->Option (Bool×Bool×List Int×List Int×List Int×List Int×List Int×Bool)
 | 0,_,_,_,_,_,_,_,_,_,_,_,_,_,_,_,_=>none
 | k+1,aA,ap,aP,av,aW,aw,ar,aQ,ax,ay,aX,az,aY,aB,fL,nQ=>(bif (decide (nQ<aA)) then ((bif (!aB) then ((bB.p F ap aP nQ fL).bind λr2=>(bB.p F ap aP fL fL).bind λr7=>(jn.p F r2 r7).bind λr10=>(hY.p F ap aP av aW aw ar aQ aB nQ fL r10).bind λr13=>bF.pl29 F k aA ap r13.1 av r13.2.1 aw ar r13.2.2.1 ax ay aX az aY r13.2.2.2 fL (wrap .i64 (nQ+1))) else (bF.pj2 F aA ap aP av aW aw ar aQ ax ay aX az aY aB fL))) else (bF.pj2 F aA ap aP av aW aw ar aQ ax ay aX az aY aB fL))
theorem bF.l29_P {aA ap aK av aw ar ax ay aO az ba bL aU bM bN aN bp aM bs bt aJ bc bO aV bP bQ ci cj ck cl cn co cp cq ct cu cv cw cz cA cB} :∀ k,bF.S29 H0 Ri R0 aA ap aK av aw ar ax ay aO az ba bL aU bM bN aN bp aM bs bt aJ bc bO aV bP bQ ci cj ck cl cn co cp cq ct cu cv cw cz cA cB (bF.l29 F (aL.tw F) (bB.tw F) (jn.tw F) (hY.tw F) (io.tw F) (cE.tw F) (bT.tw F)  k) (bF.pl29 F  k):=by
 intro k
 induction k with
 | zero=>unfold bF.S29;intros;rename_i hp;cases hp
 | succ k ih=>
  intro aP aW aQ aX aY cT cU cV cW cX aB fL nQ H fw fx fy fz fA h0 r hp
  obtain ⟨w0,s0,cY,dp,dc,dA,dB⟩:=h0
  subst fw
  subst fx
  subst fy
  subst fz
  subst fA
  unfold bF.pl29 at hp
  unfold bF.l29
  refine lI w0 5 ?_
  refine aG hp (λhp=>?_) λhp=>?_
  ·refine lB w0 5 ?_
   refine aG hp (λhp=>?_) λhp=>?_
   ·refine lI w0 5 ?_
    refine lI w0 5 ?_
    refine lSl w0 5 ?_
    have f1:=W.borrow1 eI w0 cY
    obtain ⟨w1,s1⟩:=w0.right1
    obtain ⟨r2,e2,hp⟩:=ag hp
    refine aI (bB.P rfl ⟨w1,f1⟩ e2) ?_
    rintro _ H3 ⟨rfl,w3,s3,_⟩
    obtain ⟨w4,s4⟩:=W.frame1 w0 w3 s3
    refine br ?_
    refine fg (W.cons_of (Rn:=[]) w1 w3 s3) ?_
    refine lI w4 5 ?_
    refine lI w4 5 ?_
    refine lSl w4 5 ?_
    have f6:=W.borrow1 eI w4 (cY.step s4)
    obtain ⟨w6,s6⟩:=w4.right1
    obtain ⟨r7,e7,hp⟩:=ag hp
    refine aI (bB.P rfl ⟨w6,f6⟩ e7) ?_
    rintro _ H8 ⟨rfl,w8,s8,_⟩
    obtain ⟨w9,s9⟩:=W.frame1 w4 w8 s8
    refine br ?_
    obtain ⟨r10,e10,hp⟩:=ag hp
    refine aI (jn.P ⟨w9,trivial⟩ e10) ?_
    rintro _ H11 ⟨rfl,w11,s11,_⟩
    refine br ?_
    obtain ⟨w12,s12⟩:=w11.pp [0,1,2,5,3,4] 6
    obtain ⟨r13,e13,hp⟩:=ag hp
    refine aI (hY.P rfl rfl rfl ⟨w12,(cY.step (s4.trans (s9.trans (s11.trans s12)))),(dp.step (s4.trans (s9.trans (s11.trans s12)))),(dc.step (s4.trans (s9.trans (s11.trans s12))))⟩ e13) ?_
    rintro _ H14 ⟨Wz,agy,agz,rfl,hl14_0,hl14_1,hl14_2,w14,s14,f14_0,f14_1,f14_2⟩
    obtain ⟨w15,s15⟩:=w14.pp [0,1,2,4,5,3] 6
    exact ih hl14_0 hl14_1 hl14_2 rfl rfl ⟨w15,(s0.trans (s4.trans (s9.trans (s11.trans (s12.trans (s14.trans s15)))))),(f14_0.step s15),(f14_1.step s15),(f14_2.step s15),(dA.step (s4.trans (s9.trans (s11.trans (s12.trans (s14.trans s15)))))),(dB.step (s4.trans (s9.trans (s11.trans (s12.trans (s14.trans s15))))))⟩ hp
   ·exact bF.j2_P rfl rfl rfl rfl rfl ⟨w0,s0,cY,dp,dc,dA,dB⟩ hp
  ·exact bF.j2_P rfl rfl rfl rfl rfl ⟨w0,s0,cY,dp,dc,dA,dB⟩ hp
def bF.p (F:Nat) (bC:Int) (bi:Int) (dR:am3) (bv:Int) (fO:am3) (bj:Int) (bg:Int) (dk:am3) (bw:Int) (bz:Int) (fP:am3) (bA:Int) (fQ:am3) (aB:Bool) (ah:Int):Option (Bool×Bool×List Int×List Int×List Int×List Int×List Int×Bool):=(aL.p F bC bi dR bv fO bj bg dk bw bz fP bA fQ ah).bind λr1=>(bif (!r1.1) then (some (true,true,r1.2.1,r1.2.2.1,r1.2.2.2.1,r1.2.2.2.2.1,r1.2.2.2.2.2,aB)) else (bF.pl29 F F bC bi r1.2.1 bv r1.2.2.1 bj bg r1.2.2.2.1 bw bz r1.2.2.2.2.1 bA r1.2.2.2.2.2 aB ah (wrap .i64 (ah+1))))
theorem bF.P {bC bi bD bv bj bg bw bz bU bA ah cQ ef cJ eg el cf dh ca di dj aa cR eo cK es et dR fO dk fP fQ fo gb fp gc gd aB fq ft iE gf gg jv fu fv iF gh gi jw gj gk jx} (ms:cf=dR.length) (pV:dh=fO.length) (lj:ca=dk.length) (pW:di=fP.length) (pX:dj=fQ.length) (h0:Inn H (Rs.ow fo ⟨cQ,cf,cR⟩ eI.z fq iE ft::Rs.ow gb ⟨ef,dh,eo⟩ eI.z gf jv gg::Rs.ow fp ⟨cJ,ca,cK⟩ eI.z fu iF fv::Rs.ow gc ⟨eg,di,es⟩ eI.z gh jw gi::Rs.ow gd ⟨el,dj,et⟩ eI.z gj jx gk::Rs.blk aa [.i bC,.i bi,.sl ⟨cQ,cf,cR⟩,.i bD,.i bv,.sl ⟨ef,dh,eo⟩,.i bj,.i bg,.sl ⟨cJ,ca,cK⟩,.i bw,.i bz,.sl ⟨eg,di,es⟩,.i bU,.i bA,.sl ⟨el,dj,et⟩,.bool aB]::R0) λR=>CR eI H R iE dR/\CR eI H R jv fO/\CR eI H R iF dk/\CR eI H R jw fP/\CR eI H R jx fQ) {r:an7} (hp:bF.p F bC bi dR bv fO bj bg dk bw bz fP bA fQ aB ah=some r):Rt (bF.tw F aa 0 ah H) (bF.Q H (Rs.ow fo ⟨cQ,cf,cR⟩ eI.z fq iE ft::Rs.ow gb ⟨ef,dh,eo⟩ eI.z gf jv gg::Rs.ow fp ⟨cJ,ca,cK⟩ eI.z fu iF fv::Rs.ow gc ⟨eg,di,es⟩ eI.z gh jw gi::Rs.ow gd ⟨el,dj,et⟩ eI.z gj jx gk::Rs.blk aa [.i bC,.i bi,.sl ⟨cQ,cf,cR⟩,.i bD,.i bv,.sl ⟨ef,dh,eo⟩,.i bj,.i bg,.sl ⟨cJ,ca,cK⟩,.i bw,.i bz,.sl ⟨eg,di,es⟩,.i bU,.i bA,.sl ⟨el,dj,et⟩,.bool aB]::R0) R0 bC bi bD bv bj bg bw bz bU bA cQ ef cJ eg el cf dh ca di dj aa cR eo cK es et fo gb fp gc gd fq ft gf gg fu fv gh gi gj gk r):=by
 obtain ⟨w0,kR,ox,ke,oy,oz⟩:=h0
 subst ms
 subst pV
 subst lj
 subst pW
 subst pX
 unfold bF.p at hp
 unfold bF.tw bF.twX
 have s0:=w0.rf
 obtain ⟨r1,e1,hp⟩:=ag hp
 refine aI (aL.P rfl rfl rfl rfl rfl ⟨w0,kR,ox,ke,oy,oz⟩ e1) ?_
 rintro _ H2 ⟨agA,agB,agC,agD,agE,rfl,hl2_0,hl2_1,hl2_2,hl2_3,hl2_4,w2,s2,f2_0,f2_1,f2_2,f2_3,f2_4⟩
 refine br ?_
 refine aG hp (λhp=>?_) λhp=>?_
 ·exact aD hp ⟨_,_,_,_,_,rfl,hl2_0,hl2_1,hl2_2,hl2_3,hl2_4,w2,(s0.trans s2),f2_0,f2_1,f2_2,f2_3,f2_4⟩
 ·exact bF.l29_P F hl2_0 hl2_1 hl2_2 hl2_3 hl2_4 ⟨w2,(s0.trans s2),f2_0,f2_1,f2_2,f2_3,f2_4⟩ hp
def bJ.Q (H0:Hp) (Ri R0:am5)  (r:an8) (v:AV) (H':Hp):Prop:=∃ o2a:ON,∃ o2n:Nat,∃ o2c:Cap,∃ o2k:List AV,∃ o5a:ON,∃ o5n:Nat,∃ o5c:Cap,∃ o5k:List AV,∃ o8a:ON,∃ o8n:Nat,∃ o8c:Cap,∃ o8k:List AV,∃ o11a:ON,∃ o11n:Nat,∃ o11c:Cap,∃ o11k:List AV,∃ o14a:ON,∃ o14n:Nat,∃ o14c:Cap,∃ o14k:List AV,∃ ob0:Nat,v=(.ptr ob0 0)/\o2n=(r.2.2.1).length/\o5n=(r.2.2.2.2.2.1).length/\o8n=(r.2.2.2.2.2.2.2.2.1).length/\o11n=(r.2.2.2.2.2.2.2.2.2.2.2.1).length/\o14n=(r.2.2.2.2.2.2.2.2.2.2.2.2.2.2.1).length/\Out H0 Ri H' (Rs.own ⟨o2a,o2n,o2c⟩ eI.z o2k::Rs.own ⟨o5a,o5n,o5c⟩ eI.z o5k::Rs.own ⟨o8a,o8n,o8c⟩ eI.z o8k::Rs.own ⟨o11a,o11n,o11c⟩ eI.z o11k::Rs.own ⟨o14a,o14n,o14c⟩ eI.z o14k::Rs.blk ob0 [.i r.1,.i r.2.1,.sl ⟨o2a,o2n,o2c⟩,.i r.2.2.2.1,.i r.2.2.2.2.1,.sl ⟨o5a,o5n,o5c⟩,.i r.2.2.2.2.2.2.1,.i r.2.2.2.2.2.2.2.1,.sl ⟨o8a,o8n,o8c⟩,.i r.2.2.2.2.2.2.2.2.2.1,.i r.2.2.2.2.2.2.2.2.2.2.1,.sl ⟨o11a,o11n,o11c⟩,.i r.2.2.2.2.2.2.2.2.2.2.2.2.1,.i r.2.2.2.2.2.2.2.2.2.2.2.2.2.1,.sl ⟨o14a,o14n,o14c⟩,.bool r.2.2.2.2.2.2.2.2.2.2.2.2.2.2.2]::R0) λR=>CR eI H' R o2k (r.2.2.1)/\CR eI H' R o5k (r.2.2.2.2.2.1)/\CR eI H' R o8k (r.2.2.2.2.2.2.2.2.1)/\CR eI H' R o11k (r.2.2.2.2.2.2.2.2.2.2.2.1)/\CR eI H' R o14k (r.2.2.2.2.2.2.2.2.2.2.2.2.2.2.1)
def bJ.S29 (H0:Hp) (Ri R0:am5)  (C:anI) (pC:anX):Prop:=∀ {wA wB AX AY AZ A_ Ba Bb Bc Be Bf Bg qJ ML MM MN MO MP MQ GZ sK G_ Ha Hb Hc Hd tU MR MS MT MU MV MW MX wC wD wE wF wG MY MZ M_ Na Nb Bh},∀ {H:Hp},GZ=MX.length->G_=wC.length->Ha=wD.length->Hb=wE.length->Hc=wF.length->Hd=wG.length->(Out H0 Ri H (Rs.blk sK [.i wA,.i wB,.sl ⟨ML,GZ,MR⟩]::Rs.own ⟨MM,G_,MS⟩ eI.z MY::Rs.own ⟨MN,Ha,MT⟩ eI.z MZ::Rs.own ⟨MO,Hb,MU⟩ eI.z M_::Rs.own ⟨MP,Hc,MV⟩ eI.z Na::Rs.own ⟨MQ,Hd,MW⟩ eI.z Nb::Rs.blk tU [.i AX,.i AY,.sl ⟨MM,G_,MS⟩,.i AZ,.i A_,.sl ⟨MN,Ha,MT⟩,.i Ba,.i Bb,.sl ⟨MO,Hb,MU⟩,.i Bc,.i Be,.sl ⟨MP,Hc,MV⟩,.i Bf,.i Bg,.sl ⟨MQ,Hd,MW⟩,.bool Bh]::R0) λR=>ROs eI H R ⟨ML,GZ,MR⟩ MX/\CR eI H R MY wC/\CR eI H R MZ wD/\CR eI H R M_ wE/\CR eI H R Na wF/\CR eI H R Nb wG)->∀ {r:an8},pC wA wB AX AY wC AZ A_ wD Ba Bb wE Bc Be wF Bf Bg wG Bh qJ=some r->Rt (C sK 0 tU 0 qJ H) (bJ.Q H0 Ri R0  r)
def bJ.S938 (H0:Hp) (Ri R0:am5)  (C:Nat->Nat->Nat->Nat->Int->Bool->Bool->Hp->OA) (pC:Int->Int->Int->Int->List Int->Int->Int->List Int->Int->Int->List Int->Int->Int->List Int->Int->Int->List Int->Bool->Int->Bool->Bool->Option (Int×Int×List Int×Int×Int×List Int×Int×Int×List Int×Int×Int×List Int×Int×Int×List Int×Bool)):Prop:=∀ {wH wI uo uq wJ ur ut uu uv uw wK ux nR Nc Nd Nf Ng Nh Ni He sI Hf Hg Hh Hj Hk qH Nj Nk Nl Nm Nn No Np uy uz uA uB uC Nq Nr Ns Nt Nu uD sJ qI},∀ {H:Hp},He=Np.length->Hf=uy.length->Hg=uz.length->Hh=uA.length->Hj=uB.length->Hk=uC.length->(Out H0 Ri H (Rs.blk sI [.i wH,.i wI,.sl ⟨Nc,He,Nj⟩]::Rs.own ⟨Nd,Hf,Nk⟩ eI.z Nq::Rs.own ⟨Nf,Hg,Nl⟩ eI.z Nr::Rs.own ⟨Ng,Hh,Nm⟩ eI.z Ns::Rs.own ⟨Nh,Hj,Nn⟩ eI.z Nt::Rs.own ⟨Ni,Hk,No⟩ eI.z Nu::Rs.blk qH [.i uo,.i uq,.sl ⟨Nd,Hf,Nk⟩,.i wJ,.i ur,.sl ⟨Nf,Hg,Nl⟩,.i ut,.i uu,.sl ⟨Ng,Hh,Nm⟩,.i uv,.i uw,.sl ⟨Nh,Hj,Nn⟩,.i wK,.i ux,.sl ⟨Ni,Hk,No⟩,.bool uD]::R0) λR=>ROs eI H R ⟨Nc,He,Nj⟩ Np/\CR eI H R Nq uy/\CR eI H R Nr uz/\CR eI H R Ns uA/\CR eI H R Nt uB/\CR eI H R Nu uC)->∀ {r:an8},pC wH wI uo uq uy wJ ur uz ut uu uA uv uw uB wK ux uC uD nR sJ qI=some r->Rt (C sI 0 qH 0 nR sJ qI H) (bJ.Q H0 Ri R0  r)
def bJ.pj3 (F:Nat) (eJ:anX) (Hl:Int) (Hm:Int) (Hn:Int) (Ho:Int) (Dr:am3) (Hq:Int) (Hr:Int) (Ds:am3) (Hs:Int) (Ht:Int) (Dt:am3) (Hu:Int) (Hv:Int) (Du:am3) (Hw:Int) (Hy:Int) (Dv:am3) (Hz:Bool) (yS:Int):Option (Int×Int×List Int×Int×Int×List Int×Int×Int×List Int×Int×Int×List Int×Int×Int×List Int×Bool):=eJ Hl Hm Hn Ho Dr Hq Hr Ds Hs Ht Dt Hu Hv Du Hw Hy Dv Hz (wrap .i64 (yS+1))
theorem bJ.j3_P  {C29_:anI} {eJ:anX} (hC29:bJ.S29 H0 Ri R0  C29_ eJ) {Hl Hm Hn Ho Hq Hr Hs Ht Hu Hv Hw Hy yS WA WB WC WD WE WG Nv Fd Nw Nx Ny Nz NA Fe WH WI WJ WK WL WM WN Dr Ds Dt Du Dv WO WP WQ WR WS Hz} (agF:Nv=WN.length) (agG:Nw=Dr.length) (agH:Nx=Ds.length) (agI:Ny=Dt.length) (agJ:Nz=Du.length) (agK:NA=Dv.length) (h0:Out H0 Ri H (Rs.blk Fd [.i Hl,.i Hm,.sl ⟨WA,Nv,WH⟩]::Rs.own ⟨WB,Nw,WI⟩ eI.z WO::Rs.own ⟨WC,Nx,WJ⟩ eI.z WP::Rs.own ⟨WD,Ny,WK⟩ eI.z WQ::Rs.own ⟨WE,Nz,WL⟩ eI.z WR::Rs.own ⟨WG,NA,WM⟩ eI.z WS::Rs.blk Fe [.i Hn,.i Ho,.sl ⟨WB,Nw,WI⟩,.i Hq,.i Hr,.sl ⟨WC,Nx,WJ⟩,.i Hs,.i Ht,.sl ⟨WD,Ny,WK⟩,.i Hu,.i Hv,.sl ⟨WE,Nz,WL⟩,.i Hw,.i Hy,.sl ⟨WG,NA,WM⟩,.bool Hz]::R0) λR=>ROs eI H R ⟨WA,Nv,WH⟩ WN/\CR eI H R WO Dr/\CR eI H R WP Ds/\CR eI H R WQ Dt/\CR eI H R WR Du/\CR eI H R WS Dv) {r:an8} (hp:bJ.pj3 F eJ Hl Hm Hn Ho Dr Hq Hr Ds Hs Ht Dt Hu Hv Du Hw Hy Dv Hz yS=some r):Rt (bJ.j3 F (dU.tw F) (bF.tw F) C29_ Fd 0 Fe 0 yS H) (bJ.Q H0 Ri R0  r):=by
 obtain ⟨w0,s0,agL,agM,agN,agO,agP,agQ⟩:=h0
 subst agF
 subst agG
 subst agH
 subst agI
 subst agJ
 subst agK
 unfold bJ.pj3 at hp
 unfold bJ.j3
 exact hC29 rfl rfl rfl rfl rfl rfl ⟨w0,s0,agL,agM,agN,agO,agP,agQ⟩ hp
def bJ.pj4 (F:Nat) (eJ:anX) (HA:Int) (HB:Int) (Bi:Int) (uj:Int) (wL:am3) (Bj:Int) (Bk:Int) (wM:am3) (Bl:Int) (Bm:Int) (wN:am3) (Bn:Int) (Bo:Int) (wO:am3) (Bp:Int) (Bq:Int) (wP:am3) (wQ:Bool) (tT:Int) (tL:Bool):Option (Int×Int×List Int×Int×Int×List Int×Int×Int×List Int×Int×Int×List Int×Int×Int×List Int×Bool):=(bif tL then (some (Bi,uj,wL,Bj,Bk,wM,Bl,Bm,wN,Bn,Bo,wO,Bp,Bq,wP,wQ)) else ((bif wQ then (some (Bi,uj,wL,Bj,Bk,wM,Bl,Bm,wN,Bn,Bo,wO,Bp,Bq,wP,wQ)) else (bJ.pj3 F eJ HA HB Bi uj wL Bj Bk wM Bl Bm wN Bn Bo wO Bp Bq wP wQ tT))))
theorem bJ.j4_P  {C29_:anI} {eJ:anX} (hC29:bJ.S29 H0 Ri R0  C29_ eJ) {HA HB Bi uj Bj Bk Bl Bm Bn Bo Bp Bq tT WT WU WV WW WX WY NB pg NC NE NF NG NH oO WZ W_ Xa Xb Xc Xd Xe wL wM wN wO wP Xf Xg Xh Xi Xj wQ tL} (agR:NB=Xe.length) (agS:NC=wL.length) (agT:NE=wM.length) (agU:NF=wN.length) (agV:NG=wO.length) (agW:NH=wP.length) (h0:Out H0 Ri H (Rs.blk pg [.i HA,.i HB,.sl ⟨WT,NB,WZ⟩]::Rs.own ⟨WU,NC,W_⟩ eI.z Xf::Rs.own ⟨WV,NE,Xa⟩ eI.z Xg::Rs.own ⟨WW,NF,Xb⟩ eI.z Xh::Rs.own ⟨WX,NG,Xc⟩ eI.z Xi::Rs.own ⟨WY,NH,Xd⟩ eI.z Xj::Rs.blk oO [.i Bi,.i uj,.sl ⟨WU,NC,W_⟩,.i Bj,.i Bk,.sl ⟨WV,NE,Xa⟩,.i Bl,.i Bm,.sl ⟨WW,NF,Xb⟩,.i Bn,.i Bo,.sl ⟨WX,NG,Xc⟩,.i Bp,.i Bq,.sl ⟨WY,NH,Xd⟩,.bool wQ]::R0) λR=>ROs eI H R ⟨WT,NB,WZ⟩ Xe/\CR eI H R Xf wL/\CR eI H R Xg wM/\CR eI H R Xh wN/\CR eI H R Xi wO/\CR eI H R Xj wP) {r:an8} (hp:bJ.pj4 F eJ HA HB Bi uj wL Bj Bk wM Bl Bm wN Bn Bo wO Bp Bq wP wQ tT tL=some r):Rt (bJ.j4 F (dU.tw F) (bF.tw F) C29_ pg 0 oO 0 tT tL H) (bJ.Q H0 Ri R0  r):=by
 obtain ⟨w0,s0,agX,NI,NJ,NK,NL,NM⟩:=h0
 subst agR
 subst agS
 subst agT
 subst agU
 subst agV
 subst agW
 unfold bJ.pj4 at hp
 unfold bJ.j4
 refine aG hp (λhp=>?_) λhp=>?_
 ·obtain ⟨w1,s1⟩:=w0.pp [1,2,3,4,5,6] 7
  exact aD hp ⟨_,_,_,_,_,_,_,_,_,_,_,_,_,_,_,_,_,_,_,_,_,rfl,rfl,rfl,rfl,rfl,rfl,w1,(s0.trans s1),(NI.step s1),(NJ.step s1),(NK.step s1),(NL.step s1),(NM.step s1)⟩
 ·refine lB w0 6 ?_
  refine aG hp (λhp=>?_) λhp=>?_
  ·obtain ⟨w2,s2⟩:=w0.pp [1,2,3,4,5,6] 7
   exact aD hp ⟨_,_,_,_,_,_,_,_,_,_,_,_,_,_,_,_,_,_,_,_,_,rfl,rfl,rfl,rfl,rfl,rfl,w2,(s0.trans s2),(NI.step s2),(NJ.step s2),(NK.step s2),(NL.step s2),(NM.step s2)⟩
  ·exact bJ.j3_P (@hC29) rfl rfl rfl rfl rfl rfl ⟨w0,s0,agX,NI,NJ,NK,NL,NM⟩ hp
def bJ.pl938 (F:Nat) (eJ:anX):Nat->Int->Int->Int->Int->List Int->Int->Int->List Int->Int->Int->List Int->Int->Int->List Int->Int->Int->List Int->Bool->Int->Bool->Bool->Option (Int×Int×List Int×Int×Int×List Int×Int×Int×List Int×Int×Int×List Int×Int×Int×List Int×Bool)
 | 0,_,_,_,_,_,_,_,_,_,_,_,_,_,_,_,_,_,_,_,_,_=>none
 | k+1,wH,wI,uo,uq,uy,wJ,ur,uz,ut,uu,uA,uv,uw,uB,wK,ux,uC,uD,nR,sJ,qI=>(bif (!sJ) then ((bif (!uD) then ((bF.p F uo uq uy ur uz ut uu uA uv uw uB ux uC uD nR).bind λr2=>bJ.pl938 F eJ k wH wI uo uq r2.2.2.1 wJ ur r2.2.2.2.1 ut uu r2.2.2.2.2.1 uv uw r2.2.2.2.2.2.1 wK ux r2.2.2.2.2.2.2.1 r2.2.2.2.2.2.2.2 nR r2.1 r2.2.1) else (bJ.pj4 F eJ wH wI uo uq uy wJ ur uz ut uu uA uv uw uB wK ux uC uD nR qI))) else (bJ.pj4 F eJ wH wI uo uq uy wJ ur uz ut uu uA uv uw uB wK ux uC uD nR qI))
theorem bJ.l938_P  {C29_:anI} {eJ:anX} (hC29:bJ.S29 H0 Ri R0  C29_ eJ):∀ k,bJ.S938 H0 Ri R0  (bJ.l938 F (dU.tw F) (bF.tw F) C29_ k) (bJ.pl938 F eJ k):=by
 intro k
 induction k with
 | zero=>unfold bJ.S938;intros;rename_i hp;cases hp
 | succ k ih=>
  intro wH wI uo uq wJ ur ut uu uv uw wK ux nR Nc Nd Nf Ng Nh Ni He sI Hf Hg Hh Hj Hk qH Nj Nk Nl Nm Nn No Np uy uz uA uB uC Nq Nr Ns Nt Nu uD sJ qI H agY agZ ag0 ag2 ag3 ag4 h0 r hp
  obtain ⟨w0,s0,NN,NO,NP,NQ,NR,NS⟩:=h0
  subst agY
  subst agZ
  subst ag0
  subst ag2
  subst ag3
  subst ag4
  unfold bJ.pl938 at hp
  unfold bJ.l938
  refine aG hp (λhp=>?_) λhp=>?_
  ·refine lB w0 6 ?_
   refine aG hp (λhp=>?_) λhp=>?_
   ·obtain ⟨w1,s1⟩:=w0.pp [1,2,3,4,5,6,0] 7
    obtain ⟨r2,e2,hp⟩:=ag hp
    refine aI (bF.P rfl rfl rfl rfl rfl ⟨w1,(NO.step s1),(NP.step s1),(NQ.step s1),(NR.step s1),(NS.step s1)⟩ e2) ?_
    rintro _ H3 ⟨amf,amg,amh,ami,amj,rfl,hl3_0,hl3_1,hl3_2,hl3_3,hl3_4,w3,s3,f3_0,f3_1,f3_2,f3_3,f3_4⟩
    refine br (br (br (br (br ?_))))
    obtain ⟨w4,s4⟩:=w3.pp [6,0,1,2,3,4,5] 7
    exact ih rfl hl3_0 hl3_1 hl3_2 hl3_3 hl3_4 ⟨w4,(s0.trans (s1.trans (s3.trans s4))),(NN.step (s1.trans (s3.trans s4))),(f3_0.step s4),(f3_1.step s4),(f3_2.step s4),(f3_3.step s4),(f3_4.step s4)⟩ hp
   ·exact bJ.j4_P (@hC29) rfl rfl rfl rfl rfl rfl ⟨w0,s0,NN,NO,NP,NQ,NR,NS⟩ hp
  ·exact bJ.j4_P (@hC29) rfl rfl rfl rfl rfl rfl ⟨w0,s0,NN,NO,NP,NQ,NR,NS⟩ hp
def bJ.pl29 (F:Nat) :Nat->Int->Int->Int->Int->List Int->Int->Int->List Int->Int->Int->List Int->Int->Int->List Int->Int->Int->List Int->Bool->Int->Option (Int×Int×List Int×Int×Int×List Int×Int×Int×List Int×Int×Int×List Int×Int×Int×List Int×Bool)
 | 0,_,_,_,_,_,_,_,_,_,_,_,_,_,_,_,_,_,_,_=>none
 | k+1,wA,wB,AX,AY,wC,AZ,A_,wD,Ba,Bb,wE,Bc,Be,wF,Bf,Bg,wG,Bh,qJ=>(bif (decide (qJ<(if wB<wA then wB else wA))) then (bJ.pl938 F (bJ.pl29 F k) F wA wB AX AY wC AZ A_ wD Ba Bb wE Bc Be wF Bf Bg wG Bh qJ false false) else (some (AX,AY,wC,AZ,A_,wD,Ba,Bb,wE,Bc,Be,wF,Bf,Bg,wG,Bh)))
theorem bJ.l29_P  :∀ k,bJ.S29 H0 Ri R0  (bJ.l29 F (dU.tw F) (bF.tw F)  k) (bJ.pl29 F  k):=by
 intro k
 induction k with
 | zero=>unfold bJ.S29;intros;rename_i hp;cases hp
 | succ k ih=>
  intro wA wB AX AY AZ A_ Ba Bb Bc Be Bf Bg qJ ML MM MN MO MP MQ GZ sK G_ Ha Hb Hc Hd tU MR MS MT MU MV MW MX wC wD wE wF wG MY MZ M_ Na Nb Bh H ag5 ag6 ag7 ag8 ag9 ag_ h0 r hp
  obtain ⟨w0,s0,aha,Xk,Xl,Xm,Xn,Xo⟩:=h0
  subst ag5
  subst ag6
  subst ag7
  subst ag8
  subst ag9
  subst ag_
  unfold bJ.pl29 at hp
  unfold bJ.l29
  refine lI w0 0 ?_
  refine lI w0 0 ?_
  refine aG hp (λhp=>?_) λhp=>?_
  ·exact bJ.l938_P (@ih) F rfl rfl rfl rfl rfl rfl ⟨w0,s0,aha,Xk,Xl,Xm,Xn,Xo⟩ hp
  ·obtain ⟨w1,s1⟩:=w0.pp [1,2,3,4,5,6] 7
   exact aD hp ⟨_,_,_,_,_,_,_,_,_,_,_,_,_,_,_,_,_,_,_,_,_,rfl,rfl,rfl,rfl,rfl,rfl,w1,(s0.trans s1),(Xk.step s1),(Xl.step s1),(Xm.step s1),(Xn.step s1),(Xo.step s1)⟩
def bJ.p (F:Nat) (aa:Int) (ac:Int) (bW:am3):Option (Int×Int×List Int×Int×Int×List Int×Int×Int×List Int×Int×Int×List Int×Int×Int×List Int×Bool):=(apn ([]:List Int) bW).bind λl4=>(dU.p F aa).bind λr7=>(dU.p F aa).bind λr10=>(dU.p F ac).bind λr13=>(dU.p F ac).bind λr16=>bJ.pl29 F F aa ac aa ac l4 r7.1 r7.2.1 r7.2.2 r10.1 r10.2.1 r10.2.2 r13.1 r13.2.1 r13.2.2 r16.1 r16.2.1 r16.2.2 false 0
theorem bJ.P {aa ac dK cL dL bW} (gT:cL=bW.length) (h0:Inn H R0 λR=>ROs eI H R ⟨dK,cL,dL⟩ bW) {r:an8} (hp:bJ.p F aa ac bW=some r):Rt (bJ.tw F aa ac ⟨dK,cL,dL⟩ H) (bJ.Q H R0 R0  r):=by
 obtain ⟨w0,ga⟩:=h0
 subst gT
 unfold bJ.p at hp
 unfold bJ.tw bJ.twX
 have s0:=w0.rf
 refine bm w0 λH1 w1 s1=>?_
 refine lI w1 0 ?_
 refine lI w1 0 ?_
 refine jJ eI w1 (n:=0) (l:=([]:List Int)) rfl CR.empty rfl λH2 w2 s2 c2=>?_
 refine lSl w2 1 ?_
 obtain ⟨x3,h3,c3⟩:=(ga.step (s1.trans s2)).row rfl
 refine ak h3 ?_
 obtain ⟨l4,e4,hp⟩:=ag hp
 refine pe eI w2 (i:=0) rfl rfl c2 c3 rfl rfl e4 λa5 d5 H5 w5 s5 c5 x5=>?_
 refine fg (x5 ⟨_,rfl⟩) ?_
 refine lI w5 1 ?_
 obtain ⟨r7,e7,hp⟩:=ag hp
 refine aI (dU.P ⟨w5,trivial⟩ e7) ?_
 rintro _ H8 ⟨o2a_8,o2n_8,o2c_8,o2k_8,rfl,rfl,w8,s8,f8_0⟩
 refine br (br (br (br (br (br (br ?_))))))
 refine fg (W.cons_of (Rn:=[_]) w5 w8 s8) ?_
 refine lI w8 2 ?_
 obtain ⟨r10,e10,hp⟩:=ag hp
 refine aI (dU.P ⟨w8,trivial⟩ e10) ?_
 rintro _ H11 ⟨o2a_11,o2n_11,o2c_11,o2k_11,rfl,rfl,w11,s11,f11_0⟩
 refine br (br (br (br (br (br (br ?_))))))
 refine fg (W.cons_of (Rn:=[_]) w8 w11 s11) ?_
 refine lI w11 3 ?_
 obtain ⟨r13,e13,hp⟩:=ag hp
 refine aI (dU.P ⟨w11,trivial⟩ e13) ?_
 rintro _ H14 ⟨o2a_14,o2n_14,o2c_14,o2k_14,rfl,rfl,w14,s14,f14_0⟩
 refine br (br (br (br (br (br (br ?_))))))
 refine fg (W.cons_of (Rn:=[_]) w11 w14 s14) ?_
 refine lI w14 4 ?_
 obtain ⟨r16,e16,hp⟩:=ag hp
 refine aI (dU.P ⟨w14,trivial⟩ e16) ?_
 rintro _ H17 ⟨o2a_17,o2n_17,o2c_17,o2k_17,rfl,rfl,w17,s17,f17_0⟩
 refine br (br (br (br (br (br (br ?_))))))
 refine fg (W.cons_of (Rn:=[_]) w14 w17 s17) ?_
 refine bm w17 λH19 w19 s19=>?_
 obtain ⟨w20,s20⟩:=w19.pp [6,5,4,3,2,1,0] 7
 exact bJ.l29_P F rfl rfl rfl rfl rfl rfl ⟨w20,(s0.trans (s1.trans (s2.trans (s5.trans (s8.trans (s11.trans (s14.trans (s17.trans (s19.trans s20))))))))),(ga.step (s1.trans (s2.trans (s5.trans (s8.trans (s11.trans (s14.trans (s17.trans (s19.trans s20))))))))),(c5.step (s8.trans (s11.trans (s14.trans (s17.trans (s19.trans s20)))))),(f8_0.step (s11.trans (s14.trans (s17.trans (s19.trans s20))))),(f11_0.step (s14.trans (s17.trans (s19.trans s20)))),(f14_0.step (s17.trans (s19.trans s20))),(f17_0.step (s19.trans s20))⟩ hp
def cI.Q (H0:Hp) (Ri R0:am5)  (r:aof) (v:AV) (H':Hp):Prop:=∃ o0a:ON,∃ o0n:Nat,∃ o0c:Cap,∃ o0k:List AV,v=(.tup [(.sl ⟨o0a,o0n,o0c⟩),(.bool r.2)])/\o0n=(r.1).length/\Out H0 Ri H' (Rs.own ⟨o0a,o0n,o0c⟩ eI.z o0k::R0) λR=>CR eI H' R o0k (r.1)
def cI.S61 (H0:Hp) (Ri R0:am5)  (C:aoo) (pC:aoz):Prop:=∀ {uE uF Xp wR Xq Xr Xs Xt Xu Xv Xw Xx hZ NT NU NV NW NX NY NZ HC rW HD HE HF HG HI fT HJ N_ Oa Ob Oc Od Oe Of Og uG Oh Oi Oj Ol tp Om On Oo Oq Ot Ou tq},∀ {H:Hp},HC=Og.length->HD=uG.length->HE=Oh.length->HF=Oi.length->HG=Oj.length->HI=Ol.length->HJ=tp.length->(Out H0 Ri H (Rs.blk rW [.i uE,.i uF,.sl ⟨NT,HC,N_⟩]::Rs.own ⟨NU,HD,Oa⟩ eI.z Om::Rs.own ⟨NV,HE,Ob⟩ eI.z On::Rs.own ⟨NW,HF,Oc⟩ eI.z Oo::Rs.own ⟨NX,HG,Od⟩ eI.z Oq::Rs.own ⟨NY,HI,Oe⟩ eI.z Ot::Rs.blk fT [.i Xp,.i wR,.sl ⟨NU,HD,Oa⟩,.i Xq,.i Xr,.sl ⟨NV,HE,Ob⟩,.i Xs,.i Xt,.sl ⟨NW,HF,Oc⟩,.i Xu,.i Xv,.sl ⟨NX,HG,Od⟩,.i Xw,.i Xx,.sl ⟨NY,HI,Oe⟩,.bool tq]::Rs.own ⟨NZ,HJ,Of⟩ eI.z Ou::R0) λR=>ROs eI H R ⟨NT,HC,N_⟩ Og/\CR eI H R Om uG/\CR eI H R On Oh/\CR eI H R Oo Oi/\CR eI H R Oq Oj/\CR eI H R Ot Ol/\CR eI H R Ou tp)->∀ {r:aof},pC uE uF wR uG tq tp hZ=some r->Rt (C rW 0 fT 0 ⟨NZ,HJ,Of⟩ hZ H) (cI.Q H0 Ri R0  r)
def cI.pj3 (F:Nat) (bS:aoz) (HK:Int) (HL:Int) (HM:Int) (Dw:am3) (HN:Bool) (Dx:am3) (yT:Int):Option (List Int×Bool):=bS HK HL HM Dw HN Dx (wrap .i64 (yT+1))
theorem cI.j3_P  {C61_:aoo} {bS:aoz} (hC61:cI.S61 H0 Ri R0  C61_ bS) {HK HL ahb HM ahc ahd ahe ahf ahg ahh ahi ahj yT Xy Xz XA XB XC XD XE Ov Fh Ow Ox Oy Oz OB Fi OC XF XG XH XI XJ XK XL XM Dw XN XO XP XQ Dx XR XS XT XU XV XW HN} (ahk:Ov=XM.length) (ahl:Ow=Dw.length) (ahm:Ox=XN.length) (ahn:Oy=XO.length) (aho:Oz=XP.length) (ahp:OB=XQ.length) (ahq:OC=Dx.length) (h0:Out H0 Ri H (Rs.blk Fh [.i HK,.i HL,.sl ⟨Xy,Ov,XF⟩]::Rs.own ⟨Xz,Ow,XG⟩ eI.z XR::Rs.own ⟨XA,Ox,XH⟩ eI.z XS::Rs.own ⟨XB,Oy,XI⟩ eI.z XT::Rs.own ⟨XC,Oz,XJ⟩ eI.z XU::Rs.own ⟨XD,OB,XK⟩ eI.z XV::Rs.blk Fi [.i ahb,.i HM,.sl ⟨Xz,Ow,XG⟩,.i ahc,.i ahd,.sl ⟨XA,Ox,XH⟩,.i ahe,.i ahf,.sl ⟨XB,Oy,XI⟩,.i ahg,.i ahh,.sl ⟨XC,Oz,XJ⟩,.i ahi,.i ahj,.sl ⟨XD,OB,XK⟩,.bool HN]::Rs.own ⟨XE,OC,XL⟩ eI.z XW::R0) λR=>ROs eI H R ⟨Xy,Ov,XF⟩ XM/\CR eI H R XR Dw/\CR eI H R XS XN/\CR eI H R XT XO/\CR eI H R XU XP/\CR eI H R XV XQ/\CR eI H R XW Dx) {r:aof} (hp:cI.pj3 F bS HK HL HM Dw HN Dx yT=some r):Rt (cI.j3 F (bJ.tw F) (bB.tw F) C61_ Fh 0 Fi 0 ⟨XE,OC,XL⟩ yT H) (cI.Q H0 Ri R0  r):=by
 obtain ⟨w0,s0,ahr,ahs,aht,ahu,ahv,ahw,ahx⟩:=h0
 subst ahk
 subst ahl
 subst ahm
 subst ahn
 subst aho
 subst ahp
 subst ahq
 unfold cI.pj3 at hp
 unfold cI.j3
 exact hC61 rfl rfl rfl rfl rfl rfl rfl ⟨w0,s0,ahr,ahs,aht,ahu,ahv,ahw,ahx⟩ hp
def cI.pj2 (F:Nat)  (HO:Bool) (Dy:am3):Option (List Int×Bool):=some (Dy,(!HO))
theorem cI.j2_P   {ahy ahz ahA ahB ahC ahD ahE ahF ahG ahH XX XY XZ X_ Ya Yb OD OE OF OG OH Fg OI Yc Yd Ye Yf Yg Yh Yi Yj Yk Yl Ym Dy Yn Yo Yp Yq Yr Ys HO} (ahI:OD=Yi.length) (ahJ:OE=Yj.length) (ahK:OF=Yk.length) (ahL:OG=Yl.length) (ahM:OH=Ym.length) (ahN:OI=Dy.length) (h0:Out H0 Ri H (Rs.own ⟨XX,OD,Yc⟩ eI.z Yn::Rs.own ⟨XY,OE,Yd⟩ eI.z Yo::Rs.own ⟨XZ,OF,Ye⟩ eI.z Yp::Rs.own ⟨X_,OG,Yf⟩ eI.z Yq::Rs.own ⟨Ya,OH,Yg⟩ eI.z Yr::Rs.blk Fg [.i ahy,.i ahz,.sl ⟨XX,OD,Yc⟩,.i ahA,.i ahB,.sl ⟨XY,OE,Yd⟩,.i ahC,.i ahD,.sl ⟨XZ,OF,Ye⟩,.i ahE,.i ahF,.sl ⟨X_,OG,Yf⟩,.i ahG,.i ahH,.sl ⟨Ya,OH,Yg⟩,.bool HO]::Rs.own ⟨Yb,OI,Yh⟩ eI.z Ys::R0) λR=>CR eI H R Yn Yi/\CR eI H R Yo Yj/\CR eI H R Yp Yk/\CR eI H R Yq Yl/\CR eI H R Yr Ym/\CR eI H R Ys Dy) {r:aof} (hp:cI.pj2 F  HO Dy=some r):Rt (cI.j2 F (bJ.tw F) (bB.tw F)  Fg 0 ⟨Yb,OI,Yh⟩ H) (cI.Q H0 Ri R0  r):=by
 obtain ⟨w0,s0,amk,aml,amm,amn,amo,ahO⟩:=h0
 subst ahI
 subst ahJ
 subst ahK
 subst ahL
 subst ahM
 subst ahN
 unfold cI.pj2 at hp
 unfold cI.j2
 refine lB w0 5 ?_
 obtain ⟨w1,s1⟩:=w0.pp [6] 7
 exact aD hp ⟨_,_,_,_,rfl,rfl,w1,(s0.trans s1),(ahO.step s1)⟩
def cI.pl61 (F:Nat) :Nat->Int->Int->Int->List Int->Bool->List Int->Int->Option (List Int×Bool)
 | 0,_,_,_,_,_,_,_=>none
 | k+1,uE,uF,wR,uG,tq,tp,hZ=>(bif (decide (hZ<(if uF<uE then uF else uE))) then ((bif (!tq) then ((bB.p F wR uG hZ hZ).bind λr3=>(bif (r3 != 0) then ((apn tp ([r3]:List Int)).bind λl7=>cI.pj3 F (cI.pl61 F k) uE uF wR uG tq l7 hZ) else (cI.pj3 F (cI.pl61 F k) uE uF wR uG tq tp hZ))) else (cI.pj2 F tq tp))) else (cI.pj2 F tq tp))
theorem cI.l61_P  :∀ k,cI.S61 H0 Ri R0  (cI.l61 F (bJ.tw F) (bB.tw F)  k) (cI.pl61 F  k):=by
 intro k
 induction k with
 | zero=>unfold cI.S61;intros;rename_i hp;cases hp
 | succ k ih=>
  intro uE uF Xp wR Xq Xr Xs Xt Xu Xv Xw Xx hZ NT NU NV NW NX NY NZ HC rW HD HE HF HG HI fT HJ N_ Oa Ob Oc Od Oe Of Og uG Oh Oi Oj Ol tp Om On Oo Oq Ot Ou tq H ahP ahQ ahR ahS ahT ahU ahV h0 r hp
  obtain ⟨w0,s0,Yt,Dz,HP,HQ,HR,HS,HT⟩:=h0
  subst ahP
  subst ahQ
  subst ahR
  subst ahS
  subst ahT
  subst ahU
  subst ahV
  unfold cI.pl61 at hp
  unfold cI.l61
  refine lI w0 0 ?_
  refine lI w0 0 ?_
  refine aG hp (λhp=>?_) λhp=>?_
  ·refine lB w0 6 ?_
   refine aG hp (λhp=>?_) λhp=>?_
   ·refine lI w0 6 ?_
    refine lI w0 6 ?_
    refine lSl w0 6 ?_
    obtain ⟨w1,s1⟩:=w0.pp [1,0,2,3,4,5,6,7] 8
    have f2:=W.borrow1 eI w1 (Dz.step s1)
    obtain ⟨w2,s2⟩:=w1.right1
    obtain ⟨r3,e3,hp⟩:=ag hp
    refine aI (bB.P rfl ⟨w2,f2⟩ e3) ?_
    rintro _ H4 ⟨rfl,w4,s4,_⟩
    obtain ⟨w5,s5⟩:=W.frame1 w1 w4 s4
    refine br ?_
    refine aG hp (λhp=>?_) λhp=>?_
    ·refine jJ eI w5 (n:=1) (l:=([r3]:List Int)) rfl (CR.cons1 rfl CR.empty) rfl λH6 w6 s6 c6=>?_
     refine ak (w6.rowo (i:=0) rfl) ?_
     obtain ⟨l7,e7,hp⟩:=ag hp
     refine pe eI w6 (i:=8) rfl rfl (HT.step (s1.trans (s5.trans s6))) c6 (show 1=List.length ([r3]:List Int) from rfl) rfl e7 λa8 d8 H8 w8 s8 c8 x8=>?_
     obtain ⟨w9,s9⟩:=w8.pp [2,1,3,4,5,6,7,8] 9
     exact cI.j3_P (@ih) rfl rfl rfl rfl rfl rfl rfl ⟨w9,(s0.trans (s1.trans (s5.trans (s6.trans (s8.trans s9))))),(Yt.step (s1.trans (s5.trans (s6.trans (s8.trans s9))))),(Dz.step (s1.trans (s5.trans (s6.trans (s8.trans s9))))),(HP.step (s1.trans (s5.trans (s6.trans (s8.trans s9))))),(HQ.step (s1.trans (s5.trans (s6.trans (s8.trans s9))))),(HR.step (s1.trans (s5.trans (s6.trans (s8.trans s9))))),(HS.step (s1.trans (s5.trans (s6.trans (s8.trans s9))))),(c8.step s9)⟩ hp
    ·obtain ⟨w10,s10⟩:=w5.pp [1,0,2,3,4,5,6,7] 8
     exact cI.j3_P (@ih) rfl rfl rfl rfl rfl rfl rfl ⟨w10,(s0.trans (s1.trans (s5.trans s10))),(Yt.step (s1.trans (s5.trans s10))),(Dz.step (s1.trans (s5.trans s10))),(HP.step (s1.trans (s5.trans s10))),(HQ.step (s1.trans (s5.trans s10))),(HR.step (s1.trans (s5.trans s10))),(HS.step (s1.trans (s5.trans s10))),(HT.step (s1.trans (s5.trans s10)))⟩ hp
   ·obtain ⟨w11,s11⟩:=w0.pp [1,2,3,4,5,6,7] 8
    exact cI.j2_P rfl rfl rfl rfl rfl rfl ⟨w11,(s0.trans s11),(Dz.step s11),(HP.step s11),(HQ.step s11),(HR.step s11),(HS.step s11),(HT.step s11)⟩ hp
  ·obtain ⟨w12,s12⟩:=w0.pp [1,2,3,4,5,6,7] 8
   exact cI.j2_P rfl rfl rfl rfl rfl rfl ⟨w12,(s0.trans s12),(Dz.step s12),(HP.step s12),(HQ.step s12),(HR.step s12),(HS.step s12),(HT.step s12)⟩ hp
def cI.p (F:Nat) (aa:Int) (ac:Int) (bW:am3):Option (List Int×Bool):=(bJ.p F aa ac bW).bind λr2=>cI.pl61 F F aa ac r2.2.1 r2.2.2.1 r2.2.2.2.2.2.2.2.2.2.2.2.2.2.2.2 ([]:List Int) 0
theorem cI.P {aa ac dK cL dL bW} (gT:cL=bW.length) (h0:Inn H R0 λR=>ROs eI H R ⟨dK,cL,dL⟩ bW) {r:aof} (hp:cI.p F aa ac bW=some r):Rt (cI.tw F aa ac ⟨dK,cL,dL⟩ H) (cI.Q H R0 R0  r):=by
 obtain ⟨w0,ga⟩:=h0
 subst gT
 unfold cI.p at hp
 unfold cI.tw cI.twX
 have s0:=w0.rf
 refine bm w0 λH1 w1 s1=>?_
 refine lI w1 0 ?_
 refine lI w1 0 ?_
 refine lSl w1 0 ?_
 obtain ⟨r2,e2,hp⟩:=ag hp
 refine aI (bJ.P rfl ⟨w1,(ga.step s1)⟩ e2) ?_
 rintro _ H3 ⟨o2a_3,o2n_3,o2c_3,o2k_3,o5a_3,o5n_3,o5c_3,o5k_3,o8a_3,o8n_3,o8c_3,o8k_3,o11a_3,o11n_3,o11c_3,o11k_3,o14a_3,o14n_3,o14c_3,o14k_3,ob0_3,rfl,rfl,rfl,rfl,rfl,rfl,w3,s3,f3_0,f3_1,f3_2,f3_3,f3_4⟩
 refine br ?_
 refine jJ eI w3 (n:=0) (l:=([]:List Int)) rfl CR.empty rfl λH4 w4 s4 c4=>?_
 obtain ⟨w5,s5⟩:=w4.pp [7,1,2,3,4,5,6,0] 8
 exact cI.l61_P F rfl rfl rfl rfl rfl rfl (show 0=List.length ([]:List Int) from rfl) ⟨w5,(s0.trans (s1.trans (s3.trans (s4.trans s5)))),(ga.step (s1.trans (s3.trans (s4.trans s5)))),(f3_0.step (s4.trans s5)),(f3_1.step (s4.trans s5)),(f3_2.step (s4.trans s5)),(f3_3.step (s4.trans s5)),(f3_4.step (s4.trans s5)),(c4.step s5)⟩ hp
def jP.Q (H0:Hp) (Ri R0:am5)  (r:anm) (v:AV) (H':Hp):Prop:=∃ o0a:ON,∃ o0n:Nat,∃ o0c:Cap,∃ o0k:List AV,v=(.tup [(.sl ⟨o0a,o0n,o0c⟩),(.i r.2)])/\o0n=(r.1).length/\Out H0 Ri H' (Rs.own ⟨o0a,o0n,o0c⟩ eI.z o0k::R0) λR=>CR eI H' R o0k (r.1)
def jP.p (F:Nat) (aa:Int) (ac:Int) (bW:am3):Option (List Int×Int):=(eS.p F aa ac bW).bind λr2=>(bif (!r2) then (some (([]:List Int),1)) else ((cI.p F aa ac bW).bind λr6=>(bif (!r6.2) then (some (([]:List Int),3)) else (some (r6.1,0)))))
theorem jP.P {aa ac dK cL dL bW} (gT:cL=bW.length) (h0:Inn H R0 λR=>ROs eI H R ⟨dK,cL,dL⟩ bW) {r:anm} (hp:jP.p F aa ac bW=some r):Rt (jP.tw F aa ac ⟨dK,cL,dL⟩ H) (jP.Q H R0 R0  r):=by
 obtain ⟨w0,ga⟩:=h0
 subst gT
 unfold jP.p at hp
 unfold jP.tw jP.twX
 have s0:=w0.rf
 refine bm w0 λH1 w1 s1=>?_
 refine lI w1 0 ?_
 refine lI w1 0 ?_
 refine lSl w1 0 ?_
 obtain ⟨r2,e2,hp⟩:=ag hp
 refine aI (eS.P rfl ⟨w1,(ga.step s1)⟩ e2) ?_
 rintro _ H3 ⟨rfl,w3,s3,_⟩
 refine br ?_
 refine aG hp (λhp=>?_) λhp=>?_
 ·refine jJ eI w3 (n:=0) (l:=([]:List Int)) rfl CR.empty rfl λH4 w4 s4 c4=>?_
  obtain ⟨w5,s5⟩:=w4.pp [0] 2
  exact aD hp ⟨_,_,_,_,rfl,(show 0=List.length ([]:List Int) from rfl),w5,(s0.trans (s1.trans (s3.trans (s4.trans s5)))),(c4.step s5)⟩
 ·refine lI w3 0 ?_
  refine lI w3 0 ?_
  refine lSl w3 0 ?_
  obtain ⟨r6,e6,hp⟩:=ag hp
  refine aI (cI.P rfl ⟨w3,(ga.step (s1.trans s3))⟩ e6) ?_
  rintro _ H7 ⟨o0a_7,o0n_7,o0c_7,o0k_7,rfl,rfl,w7,s7,f7_0⟩
  refine br (br (br (br (br ?_))))
  refine aG hp (λhp=>?_) λhp=>?_
  ·refine jJ eI w7 (n:=0) (l:=([]:List Int)) rfl CR.empty rfl λH8 w8 s8 c8=>?_
   obtain ⟨w9,s9⟩:=w8.pp [0] 3
   exact aD hp ⟨_,_,_,_,rfl,(show 0=List.length ([]:List Int) from rfl),w9,(s0.trans (s1.trans (s3.trans (s7.trans (s8.trans s9))))),(c8.step s9)⟩
  ·obtain ⟨w10,s10⟩:=w7.pp [0] 2
   exact aD hp ⟨_,_,_,_,rfl,rfl,w10,(s0.trans (s1.trans (s3.trans (s7.trans s10)))),(f7_0.step s10)⟩
def dS.Q (H0:Hp) (Ri R0:am5)  (r:am3) (v:AV) (H':Hp):Prop:=∃ o0a:ON,∃ o0n:Nat,∃ o0c:Cap,∃ o0k:List AV,v=(.sl ⟨o0a,o0n,o0c⟩)/\o0n=(r).length/\Out H0 Ri H' (Rs.own ⟨o0a,o0n,o0c⟩ eI.z o0k::R0) λR=>CR eI H' R o0k (r)
def dS.S29 (H0:Hp) (Ri R0:am5)  (C:an3) (pC:aoA):Prop:=∀ {mn vI kc sZ mo vJ cP lg vK hO},∀ {H:Hp},kc=cP.length->sZ=lg.length->(Out H0 Ri H (Rs.own ⟨vI,sZ,vJ⟩ eI.z vK::R0) λR=>ROs eI H R ⟨mn,kc,mo⟩ cP/\CR eI H R vK lg)->∀ {r:am3},pC cP lg hO=some r->Rt (C ⟨mn,kc,mo⟩ ⟨vI,sZ,vJ⟩ hO H) (dS.Q H0 Ri R0  r)
def dS.pj2 (F:Nat) (eJ:aoA) (DA:am3) (DB:am3) (yX:Int):Option (List Int):=eJ DA DB (wrap .i64 (yX+1))
theorem dS.j2_P  {C29_:an3} {eJ:aoA} (hC29:dS.S29 H0 Ri R0  C29_ eJ) {Yu Yv OJ OK Yw Yx DA DB Yy yX} (ahW:OJ=DA.length) (ahX:OK=DB.length) (h0:Out H0 Ri H (Rs.own ⟨Yv,OK,Yx⟩ eI.z Yy::R0) λR=>ROs eI H R ⟨Yu,OJ,Yw⟩ DA/\CR eI H R Yy DB) {r:am3} (hp:dS.pj2 F eJ DA DB yX=some r):Rt (dS.j2 F  C29_ ⟨Yu,OJ,Yw⟩ ⟨Yv,OK,Yx⟩ yX H) (dS.Q H0 Ri R0  r):=by
 obtain ⟨w0,s0,ahY,ahZ⟩:=h0
 subst ahW
 subst ahX
 unfold dS.pj2 at hp
 unfold dS.j2
 exact hC29 rfl rfl ⟨w0,s0,ahY,ahZ⟩ hp
def dS.pl29 (F:Nat) :Nat->List Int->List Int->Int->Option (List Int)
 | 0,_,_,_=>none
 | k+1,cP,lg,hO=>(bif (decide (hO<(cP.length:Int))) then ((ix cP hO).bind λn1=>(bif (decide ((gt cP n1)>1)) then ((ix cP hO).bind λn2=>(apn lg ([(gt cP n2)]:List Int)).bind λl4=>dS.pj2 F (dS.pl29 F k) cP l4 hO) else (dS.pj2 F (dS.pl29 F k) cP lg hO))) else (some lg))
theorem dS.l29_P  :∀ k,dS.S29 H0 Ri R0  (dS.l29 F   k) (dS.pl29 F  k):=by
 intro k
 induction k with
 | zero=>unfold dS.S29;intros;rename_i hp;cases hp
 | succ k ih=>
  intro mn vI kc sZ mo vJ cP lg vK hO H pT Kc h0 r hp
  obtain ⟨w0,s0,kd,vL⟩:=h0
  subst pT
  subst Kc
  unfold dS.pl29 at hp
  unfold dS.l29
  refine aG hp (λhp=>?_) λhp=>?_
  ·obtain ⟨n1,g1,hp⟩:=ag hp
   obtain ⟨p1,q1,i1,h1,j1⟩:=ROs.ixr kd rfl g1
   refine ak i1 ?_
   have h1:_=[_]:=h1
   subst h1
   refine ak (bk (j1 0 _ rfl)) ?_
   refine aG hp (λhp=>?_) λhp=>?_
   ·obtain ⟨n2,g2,hp⟩:=ag hp
    obtain ⟨p2,q2,i2,h2,j2⟩:=ROs.ixr kd rfl g2
    refine ak i2 ?_
    have h2:_=[_]:=h2
    subst h2
    refine ak (bk (j2 0 _ rfl)) ?_
    refine jJ eI w0 (n:=1) (l:=([(gt cP n2)]:List Int)) rfl (CR.cons1 rfl CR.empty) rfl λH3 w3 s3 c3=>?_
    refine ak (w3.rowo (i:=0) rfl) ?_
    obtain ⟨l4,e4,hp⟩:=ag hp
    refine pe eI w3 (i:=1) rfl rfl (vL.step s3) c3 (show 1=List.length ([(gt cP n2)]:List Int) from rfl) rfl e4 λa5 d5 H5 w5 s5 c5 x5=>?_
    obtain ⟨w6,s6⟩:=w5.pp [1] 2
    exact dS.j2_P (@ih) rfl rfl ⟨w6,(s0.trans (s3.trans (s5.trans s6))),(kd.step (s3.trans (s5.trans s6))),(c5.step s6)⟩ hp
   ·exact dS.j2_P (@ih) rfl rfl ⟨w0,s0,kd,vL⟩ hp
  ·exact aD hp ⟨_,_,_,_,rfl,rfl,w0,s0,vL⟩
def dS.p (F:Nat) (ai:am3):Option (List Int):=dS.pl29 F F ai ([]:List Int) 0
theorem dS.P {aS aC aT ai} (b_:aC=ai.length) (h0:Inn H R0 λR=>ROs eI H R ⟨aS,aC,aT⟩ ai) {r:am3} (hp:dS.p F ai=some r):Rt (dS.tw F ⟨aS,aC,aT⟩ H) (dS.Q H R0 R0  r):=by
 obtain ⟨w0,bK⟩:=h0
 subst b_
 unfold dS.p at hp
 unfold dS.tw dS.twX
 have s0:=w0.rf
 refine jJ eI w0 (n:=0) (l:=([]:List Int)) rfl CR.empty rfl λH1 w1 s1 c1=>?_
 exact dS.l29_P F rfl (show 0=List.length ([]:List Int) from rfl) ⟨w1,(s0.trans s1),(bK.step s1),c1⟩ hp
def gR.Q (H0:Hp) (Ri R0:am5)  (r:anx) (v:AV) (H':Hp):Prop:=∃ o1a:ON,∃ o1n:Nat,∃ o1c:Cap,∃ o1k:List AV,v=(.tup [(.agg [(.i r.1),(.sl ⟨o1a,o1n,o1c⟩)]),(.i r.2.2)])/\o1n=(r.2.1).length/\Out H0 Ri H' (Rs.own ⟨o1a,o1n,o1c⟩ eI.z o1k::R0) λR=>CR eI H' R o1k (r.2.1)
def gR.p (F:Nat) (aa:Int) (ac:Int) (bW:am3):Option (Int×List Int×Int):=(jP.p F aa ac bW).bind λr3=>(bif (r3.2 != 0) then (some (0,([]:List Int),r3.2)) else ((dS.p F r3.1).bind λr10=>some ((wrap .i64 (aa - (r3.1.length:Int))),r10,0)))
theorem gR.P {aa ac dK cL dL bW} (gT:cL=bW.length) (h0:Inn H R0 λR=>ROs eI H R ⟨dK,cL,dL⟩ bW) {r:anx} (hp:gR.p F aa ac bW=some r):Rt (gR.tw F aa ac ⟨dK,cL,dL⟩ H) (gR.Q H R0 R0  r):=by
 obtain ⟨w0,ga⟩:=h0
 subst gT
 unfold gR.p at hp
 unfold gR.tw gR.twX
 have s0:=w0.rf
 refine bm w0 λH1 w1 s1=>?_
 refine bm w1 λH2 w2 s2=>?_
 refine lI w2 1 ?_
 refine lI w2 1 ?_
 refine lSl w2 1 ?_
 obtain ⟨r3,e3,hp⟩:=ag hp
 refine aI (jP.P rfl ⟨w2,(ga.step (s1.trans s2))⟩ e3) ?_
 rintro _ H4 ⟨o0a_4,o0n_4,o0c_4,o0k_4,rfl,rfl,w4,s4,f4_0⟩
 refine br (br (br (br (br ?_))))
 refine aG hp (λhp=>?_) λhp=>?_
 ·refine aE w4 1 λH5 w5 s5=>?_
  refine aE w5 1 λH6 w6 s6=>?_
  refine lI w6 1 ?_
  refine lSl w6 1 ?_
  obtain ⟨w7,s7⟩:=w6.nilS eI.z (by decide)
  obtain ⟨w8,s8⟩:=w7.pp [0] 4
  exact aD hp ⟨_,_,_,_,rfl,rfl,w8,(s0.trans (s1.trans (s2.trans (s4.trans (s5.trans (s6.trans (s7.trans s8))))))),((CR.empty:CR eI _ _ [] []).step s8)⟩
 ·refine lI w4 2 ?_
  have f9:=W.borrow1 eI w4 f4_0
  obtain ⟨w9,s9⟩:=w4.right1
  obtain ⟨r10,e10,hp⟩:=ag hp
  refine aI (dS.P rfl ⟨w9,f9⟩ e10) ?_
  rintro _ H11 ⟨o0a_11,o0n_11,o0c_11,o0k_11,rfl,rfl,w11,s11,f11_0⟩
  obtain ⟨w12,s12⟩:=W.frame1 w4 w11 s11
  refine br ?_
  refine fg (W.cons_of (Rn:=[_]) w9 w11 s11) ?_
  refine aE w12 2 λH14 w14 s14=>?_
  refine aE w14 2 λH15 w15 s15=>?_
  refine lI w15 2 ?_
  refine lSl w15 2 ?_
  obtain ⟨w16,s16⟩:=w15.pp [1] 4
  exact aD hp ⟨_,_,_,_,rfl,rfl,w16,(s0.trans (s1.trans (s2.trans (s4.trans (s12.trans (s14.trans (s15.trans s16))))))),((CR.flat (nz .i64) f11_0).step (s14.trans (s15.trans s16)))⟩
def bG.Q (H0:Hp) (Ri R0:am5)  (r:anx) (v:AV) (H':Hp):Prop:=∃ o1a:ON,∃ o1n:Nat,∃ o1c:Cap,∃ o1k:List AV,v=(.tup [(.agg [(.i r.1),(.sl ⟨o1a,o1n,o1c⟩)]),(.i r.2.2)])/\o1n=(r.2.1).length/\Out H0 Ri H' (Rs.own ⟨o1a,o1n,o1c⟩ eI.z o1k::R0) λR=>CR eI H' R o1k (r.2.1)
def bG.S253 (H0:Hp) (Ri R0:am5)  (C:anS) (pC:anY):Prop:=∀ {Yz DC oA wS Br qM OL OM OO HU tX HV kr HW sL OP OQ OR OS Bs wT OU OW OX},∀ {H:Hp},HU=OS.length->HV=Bs.length->HW=wT.length->(Out H0 Ri H (Rs.own ⟨OL,HU,OP⟩ eI.z OU::Rs.blk tX [.i Yz,.sl ⟨OL,HU,OP⟩]::Rs.own ⟨OM,HV,OQ⟩ eI.z OW::Rs.blk kr [.i DC,.i oA,.sl ⟨OM,HV,OQ⟩]::Rs.own ⟨OO,HW,OR⟩ eI.z OX::Rs.blk sL [.i wS,.i Br,.sl ⟨OO,HW,OR⟩]::R0) λR=>CR eI H R OU OS/\CR eI H R OW Bs/\CR eI H R OX wT)->∀ {r:anx},pC oA Bs wS Br wT qM=some r->Rt (C tX 0 kr 0 sL 0 qM H) (bG.Q H0 Ri R0  r)
def bG.S4053 (H0:Hp) (Ri R0:am5)  (C:anK) (pC:Int->List Int->Int->Int->List Int->Int->Int->Option (Int×List Int×Int)):Prop:=∀ {YA YB wU Bt uH nT nU OY OZ O_ HX tW HY qK HZ qL Pa Pb Pc Pd uI uJ Pe Pf Pg},∀ {H:Hp},HX=Pd.length->HY=uI.length->HZ=uJ.length->(Out H0 Ri H (Rs.own ⟨OY,HX,Pa⟩ eI.z Pe::Rs.blk tW [.i YA,.sl ⟨OY,HX,Pa⟩]::Rs.own ⟨OZ,HY,Pb⟩ eI.z Pf::Rs.blk qK [.i YB,.i wU,.sl ⟨OZ,HY,Pb⟩]::Rs.own ⟨O_,HZ,Pc⟩ eI.z Pg::Rs.blk qL [.i Bt,.i uH,.sl ⟨O_,HZ,Pc⟩]::R0) λR=>CR eI H R Pe Pd/\CR eI H R Pf uI/\CR eI H R Pg uJ)->∀ {r:anx},pC wU uI Bt uH uJ nT nU=some r->Rt (C tW 0 qK 0 qL 0 nT nU H) (bG.Q H0 Ri R0  r)
def bG.pj4 (F:Nat) (oB:anY) (H_:Int) (DE:am3) (Ia:Int) (Ib:Int) (DF:am3) (pw:Int):Option (Int×List Int×Int):=oB H_ DE Ia Ib DF (wrap .i64 (pw+1))
theorem bG.j4_P  {C253_:anS} {oB:anY} (hC253:bG.S253 H0 Ri R0  C253_ oB) {ah0 ah1 H_ Ia Ib pw YC YD YE Ph Fk Pi yj Pj Fl YF YG YH YI DE DF YJ YK YL} (ah2:Ph=YI.length) (ah3:Pi=DE.length) (ah4:Pj=DF.length) (h0:Out H0 Ri H (Rs.own ⟨YC,Ph,YF⟩ eI.z YJ::Rs.blk Fk [.i ah0,.sl ⟨YC,Ph,YF⟩]::Rs.own ⟨YD,Pi,YG⟩ eI.z YK::Rs.blk yj [.i ah1,.i H_,.sl ⟨YD,Pi,YG⟩]::Rs.own ⟨YE,Pj,YH⟩ eI.z YL::Rs.blk Fl [.i Ia,.i Ib,.sl ⟨YE,Pj,YH⟩]::R0) λR=>CR eI H R YJ YI/\CR eI H R YK DE/\CR eI H R YL DF) {r:anx} (hp:bG.pj4 F oB H_ DE Ia Ib DF pw=some r):Rt (bG.j4 F (gL.tw F) (dP.tw F) (fM.tw F) (bB.tw F) (gR.tw F) C253_ Fk 0 yj 0 Fl 0 pw H) (bG.Q H0 Ri R0  r):=by
 obtain ⟨w0,s0,ah5,ah6,ah7⟩:=h0
 subst ah2
 subst ah3
 subst ah4
 unfold bG.pj4 at hp
 unfold bG.j4
 exact hC253 rfl rfl rfl ⟨w0,s0,ah5,ah6,ah7⟩ hp
def bG.pj5 (F:Nat) (oB:anY) (Ic:Int) (DH:am3) (Id:Int) (Ie:Int) (DI:am3) (za:Int):Option (Int×List Int×Int):=bG.pj4 F oB Ic DH Id Ie DI za
theorem bG.j5_P  {C253_:anS} {oB:anY} (hC253:bG.S253 H0 Ri R0  C253_ oB) {ah8 ah9 Ic Id Ie za YM YN YO Pm Fm Pn Fn Po Fo YP YQ YR YS DH DI YT YU YV} (ah_:Pm=YS.length) (aia:Pn=DH.length) (aib:Po=DI.length) (h0:Out H0 Ri H (Rs.own ⟨YM,Pm,YP⟩ eI.z YT::Rs.blk Fm [.i ah8,.sl ⟨YM,Pm,YP⟩]::Rs.own ⟨YN,Pn,YQ⟩ eI.z YU::Rs.blk Fn [.i ah9,.i Ic,.sl ⟨YN,Pn,YQ⟩]::Rs.own ⟨YO,Po,YR⟩ eI.z YV::Rs.blk Fo [.i Id,.i Ie,.sl ⟨YO,Po,YR⟩]::R0) λR=>CR eI H R YT YS/\CR eI H R YU DH/\CR eI H R YV DI) {r:anx} (hp:bG.pj5 F oB Ic DH Id Ie DI za=some r):Rt (bG.j5 F (gL.tw F) (dP.tw F) (fM.tw F) (bB.tw F) (gR.tw F) C253_ Fm 0 Fn 0 Fo 0 za H) (bG.Q H0 Ri R0  r):=by
 obtain ⟨w0,s0,aic,aid,aie⟩:=h0
 subst ah_
 subst aia
 subst aib
 unfold bG.pj5 at hp
 unfold bG.j5
 exact bG.j4_P (@hC253) rfl rfl rfl ⟨w0,s0,aic,aid,aie⟩ hp
def bG.pl4053 (F:Nat) (oB:anY):Nat->Int->List Int->Int->Int->List Int->Int->Int->Option (Int×List Int×Int)
 | 0,_,_,_,_,_,_,_=>none
 | k+1,wU,uI,Bt,uH,uJ,nT,nU=>(bif (decide (nU<uH)) then ((bB.p F wU uI nU nT).bind λr3=>(ix uJ (wrap .i64 ((wrap .i64 (nT * uH))+nU))).bind λn7=>(some (uJ.set n7 r3)).bind λl8=>bG.pl4053 F oB k wU uI Bt uH l8 nT (wrap .i64 (nU+1))) else (bG.pj5 F oB wU uI Bt uH uJ nT))
theorem bG.l4053_P  {C253_:anS} {oB:anY} (hC253:bG.S253 H0 Ri R0  C253_ oB):∀ k,bG.S4053 H0 Ri R0  (bG.l4053 F (gL.tw F) (dP.tw F) (fM.tw F) (bB.tw F) (gR.tw F) C253_ k) (bG.pl4053 F oB k):=by
 intro k
 induction k with
 | zero=>unfold bG.S4053;intros;rename_i hp;cases hp
 | succ k ih=>
  intro YA YB wU Bt uH nT nU OY OZ O_ HX tW HY qK HZ qL Pa Pb Pc Pd uI uJ Pe Pf Pg H aif aig aih h0 r hp
  obtain ⟨w0,s0,YW,Pp,Pq⟩:=h0
  subst aif
  subst aig
  subst aih
  unfold bG.pl4053 at hp
  unfold bG.l4053
  refine lI w0 5 ?_
  refine aG hp (λhp=>?_) λhp=>?_
  ·refine lSl w0 5 ?_
   refine lI w0 5 ?_
   refine lI w0 3 ?_
   refine lI w0 3 ?_
   refine lSl w0 3 ?_
   obtain ⟨w1,s1⟩:=w0.pp [2,0,1,3,4,5] 6
   have f2:=W.borrow1 eI w1 (Pp.step s1)
   obtain ⟨w2,s2⟩:=w1.right1
   obtain ⟨r3,e3,hp⟩:=ag hp
   refine aI (bB.P rfl ⟨w2,f2⟩ e3) ?_
   rintro _ H4 ⟨rfl,w4,s4,_⟩
   obtain ⟨w5,s5⟩:=W.frame1 w1 w4 s4
   refine br ?_
   refine fg (bo.tr (bo.refl _) s1 (W.cons_of (Rn:=[]) w2 w4 s4)) ?_
   obtain ⟨n7,g7,hp⟩:=ag hp
   obtain ⟨p7,q7,i7,h7,j7⟩:=W.ixo (E:=eI) w5 (i:=4) rfl rfl (Pq.step (s1.trans s5)) g7
   refine ak i7 ?_
   obtain ⟨l8,e8,hp⟩:=ag hp
   refine fc eI w5 (i:=4) (j:=0) (p:=p7) rfl rfl (Pq.step (s1.trans s5)) g7 i7 e8 rfl rfl (λ_ h=>by have h:_=[_]:=h;subst h;exact rfl) λH9 k9 w9 s9 c9=>?_
   obtain ⟨w10,s10⟩:=w9.pp [1,2,0,3,4,5] 6
   exact ih rfl rfl ((dl e8).symm) ⟨w10,(s0.trans (s1.trans (s5.trans (s9.trans s10)))),(YW.step (s1.trans (s5.trans (s9.trans s10)))),(Pp.step (s1.trans (s5.trans (s9.trans s10)))),(c9.step s10)⟩ hp
  ·exact bG.j5_P (@hC253) rfl rfl rfl ⟨w0,s0,YW,Pp,Pq⟩ hp
def bG.pj3 (F:Nat)  (If:Int) (Ig:Int) (DJ:am3):Option (Int×List Int×Int):=(gR.p F If Ig DJ).bind λr3=>some (r3.1,r3.2.1,r3.2.2)
theorem bG.j3_P   {aii If Ig YX YY Pr vv Ps y_ YZ Y_ Za DJ Zb Zc} (aij:Pr=Za.length) (aik:Ps=DJ.length) (h0:Out H0 Ri H (Rs.own ⟨YX,Pr,YZ⟩ eI.z Zb::Rs.blk vv [.i aii,.sl ⟨YX,Pr,YZ⟩]::Rs.own ⟨YY,Ps,Y_⟩ eI.z Zc::Rs.blk y_ [.i If,.i Ig,.sl ⟨YY,Ps,Y_⟩]::R0) λR=>CR eI H R Zb Za/\CR eI H R Zc DJ) {r:anx} (hp:bG.pj3 F  If Ig DJ=some r):Rt (bG.j3 F (gL.tw F) (dP.tw F) (fM.tw F) (bB.tw F) (gR.tw F)  vv 0 y_ 0 H) (bG.Q H0 Ri R0  r):=by
 obtain ⟨w0,s0,amp,ail⟩:=h0
 subst aij
 subst aik
 unfold bG.pj3 at hp
 unfold bG.j3
 refine lI w0 3 ?_
 refine lI w0 3 ?_
 refine lSl w0 3 ?_
 obtain ⟨w1,s1⟩:=w0.pp [2,0,1,3] 4
 have f2:=W.borrow1 eI w1 (ail.step s1)
 obtain ⟨w2,s2⟩:=w1.right1
 obtain ⟨r3,e3,hp⟩:=ag hp
 refine aI (gR.P rfl ⟨w2,f2⟩ e3) ?_
 rintro _ H4 ⟨o1a_4,o1n_4,o1c_4,o1k_4,rfl,rfl,w4,s4,f4_0⟩
 obtain ⟨w5,s5⟩:=W.frame1 w1 w4 s4
 refine br (br (br (br (br (br (br (br (br ?_))))))))
 refine aE w5 3 λH6 w6 s6=>?_
 refine aE w6 3 λH7 w7 s7=>?_
 refine lI w7 3 ?_
 refine lSl w7 3 ?_
 obtain ⟨w8,s8⟩:=w7.pp [1] 5
 exact aD hp ⟨_,_,_,_,rfl,rfl,w8,(s0.trans (s1.trans (s5.trans (s6.trans (s7.trans s8))))),((CR.flat (nz .i64) f4_0).step (s6.trans (s7.trans s8)))⟩
def bG.pl253 (F:Nat) :Nat->Int->List Int->Int->Int->List Int->Int->Option (Int×List Int×Int)
 | 0,_,_,_,_,_,_=>none
 | k+1,oA,Bs,wS,Br,wT,qM=>(bif (decide (qM<wS)) then (bG.pl4053 F (bG.pl253 F k) F oA Bs wS Br wT qM 0) else (bG.pj3 F wS Br wT))
theorem bG.l253_P  :∀ k,bG.S253 H0 Ri R0  (bG.l253 F (gL.tw F) (dP.tw F) (fM.tw F) (bB.tw F) (gR.tw F)  k) (bG.pl253 F  k):=by
 intro k
 induction k with
 | zero=>unfold bG.S253;intros;rename_i hp;cases hp
 | succ k ih=>
  intro Yz DC oA wS Br qM OL OM OO HU tX HV kr HW sL OP OQ OR OS Bs wT OU OW OX H aim ain aio h0 r hp
  obtain ⟨w0,s0,Zd,aip,Ze⟩:=h0
  subst aim
  subst ain
  subst aio
  unfold bG.pl253 at hp
  unfold bG.l253
  refine lI w0 5 ?_
  refine aG hp (λhp=>?_) λhp=>?_
  ·exact bG.l4053_P (@ih) F rfl rfl rfl ⟨w0,s0,Zd,aip,Ze⟩ hp
  ·obtain ⟨w1,s1⟩:=w0.pp [0,1,4,5] 6
   exact bG.j3_P rfl rfl ⟨w1,(s0.trans s1),(Zd.step s1),(Ze.step s1)⟩ hp
def bG.p (F:Nat) (ai:anh) (ac:Int):Option (Int×List Int×Int):=(gL.p F ai ac).bind λr3=>(bif (!r3) then (some (0,([]:List Int),1)) else ((bif ((ai.length:Int)==0) then ((bif (ac==0) then (some (0,([]:List Int),5)) else ((dP.p F ai ac).bind λr13=>(fM.p F (wrap .i64 (r13.2.1 - 1)) r13.1).bind λr19=>bG.pl253 F F r13.2.1 r13.2.2 r19.1 r19.2.1 r19.2.2 0))) else ((dP.p F ai ac).bind λr27=>(fM.p F (wrap .i64 (r27.2.1 - 1)) r27.1).bind λr33=>bG.pl253 F F r27.2.1 r27.2.2 r33.1 r33.2.1 r33.2.2 0))))
theorem bG.P {aS aC aT ai ac} (b_:aC=ai.length) (h0:Inn H R0 λR=>ROs (af eI (af eI (af eI (af eI eI)))) H R ⟨aS,aC,aT⟩ ai) {r:anx} (hp:bG.p F ai ac=some r):Rt (bG.tw F ⟨aS,aC,aT⟩ ac H) (bG.Q H R0 R0  r):=by
 obtain ⟨w0,bK⟩:=h0
 subst b_
 unfold bG.p at hp
 unfold bG.tw bG.twX
 have s0:=w0.rf
 refine bm w0 λH1 w1 s1=>?_
 refine bm w1 λH2 w2 s2=>?_
 refine lSl w2 1 ?_
 refine lI w2 1 ?_
 obtain ⟨r3,e3,hp⟩:=ag hp
 refine aI (gL.P rfl ⟨w2,(bK.step (s1.trans s2))⟩ e3) ?_
 rintro _ H4 ⟨rfl,w4,s4,_⟩
 refine br ?_
 refine aG hp (λhp=>?_) λhp=>?_
 ·refine aE w4 0 λH5 w5 s5=>?_
  refine aE w5 0 λH6 w6 s6=>?_
  refine lI w6 0 ?_
  refine lSl w6 0 ?_
  obtain ⟨w7,s7⟩:=w6.nilS eI.z (by decide)
  obtain ⟨w8,s8⟩:=w7.pp [0] 3
  exact aD hp ⟨_,_,_,_,rfl,rfl,w8,(s0.trans (s1.trans (s2.trans (s4.trans (s5.trans (s6.trans (s7.trans s8))))))),((CR.empty:CR eI _ _ [] []).step s8)⟩
 ·refine lSl w4 1 ?_
  refine aG hp (λhp=>?_) λhp=>?_
  ·refine lI w4 1 ?_
   refine aG hp (λhp=>?_) λhp=>?_
   ·refine aE w4 0 λH9 w9 s9=>?_
    refine aE w9 0 λH10 w10 s10=>?_
    refine lI w10 0 ?_
    refine lSl w10 0 ?_
    obtain ⟨w11,s11⟩:=w10.nilS eI.z (by decide)
    obtain ⟨w12,s12⟩:=w11.pp [0] 3
    exact aD hp ⟨_,_,_,_,rfl,rfl,w12,(s0.trans (s1.trans (s2.trans (s4.trans (s9.trans (s10.trans (s11.trans s12))))))),((CR.empty:CR eI _ _ [] []).step s12)⟩
   ·refine lSl w4 1 ?_
    refine lI w4 1 ?_
    obtain ⟨r13,e13,hp⟩:=ag hp
    refine aI (dP.P rfl ⟨w4,(bK.step (s1.trans (s2.trans s4)))⟩ e13) ?_
    rintro _ H14 ⟨o2a_14,o2n_14,o2c_14,o2k_14,rfl,rfl,w14,s14,f14_0⟩
    refine br (br (br (br (br (br (br ?_))))))
    refine bm w14 λH15 w15 s15=>?_
    refine aE w15 0 λH16 w16 s16=>?_
    refine aE w16 0 λH17 w17 s17=>?_
    refine aE w17 0 λH18 w18 s18=>?_
    refine lI w18 0 ?_
    refine lI w18 0 ?_
    obtain ⟨r19,e19,hp⟩:=ag hp
    refine aI (fM.P ⟨w18,trivial⟩ e19) ?_
    rintro _ H20 ⟨o2a_20,o2n_20,o2k_20,rfl,rfl,w20,s20,f20_0⟩
    refine br (br (br (br (br (br (br ?_))))))
    refine bm w20 λH21 w21 s21=>?_
    refine aE w21 0 λH22 w22 s22=>?_
    refine aE w22 0 λH23 w23 s23=>?_
    refine aE w23 0 λH24 w24 s24=>?_
    obtain ⟨w25,s25⟩:=w24.nilS eI.z (by decide)
    obtain ⟨w26,s26⟩:=w25.pp [0,5,4,3,2,1] 7
    exact bG.l253_P F rfl rfl rfl ⟨w26,(s0.trans (s1.trans (s2.trans (s4.trans (s14.trans (s15.trans (s16.trans (s17.trans (s18.trans (s20.trans (s21.trans (s22.trans (s23.trans (s24.trans (s25.trans s26))))))))))))))),((CR.empty:CR eI _ _ [] []).step s26),(f14_0.step (s15.trans (s16.trans (s17.trans (s18.trans (s20.trans (s21.trans (s22.trans (s23.trans (s24.trans (s25.trans s26))))))))))),(f20_0.step (s21.trans (s22.trans (s23.trans (s24.trans (s25.trans s26))))))⟩ hp
  ·refine lSl w4 1 ?_
   refine lI w4 1 ?_
   obtain ⟨r27,e27,hp⟩:=ag hp
   refine aI (dP.P rfl ⟨w4,(bK.step (s1.trans (s2.trans s4)))⟩ e27) ?_
   rintro _ H28 ⟨o2a_28,o2n_28,o2c_28,o2k_28,rfl,rfl,w28,s28,f28_0⟩
   refine br (br (br (br (br (br (br ?_))))))
   refine bm w28 λH29 w29 s29=>?_
   refine aE w29 0 λH30 w30 s30=>?_
   refine aE w30 0 λH31 w31 s31=>?_
   refine aE w31 0 λH32 w32 s32=>?_
   refine lI w32 0 ?_
   refine lI w32 0 ?_
   obtain ⟨r33,e33,hp⟩:=ag hp
   refine aI (fM.P ⟨w32,trivial⟩ e33) ?_
   rintro _ H34 ⟨o2a_34,o2n_34,o2k_34,rfl,rfl,w34,s34,f34_0⟩
   refine br (br (br (br (br (br (br ?_))))))
   refine bm w34 λH35 w35 s35=>?_
   refine aE w35 0 λH36 w36 s36=>?_
   refine aE w36 0 λH37 w37 s37=>?_
   refine aE w37 0 λH38 w38 s38=>?_
   obtain ⟨w39,s39⟩:=w38.nilS eI.z (by decide)
   obtain ⟨w40,s40⟩:=w39.pp [0,5,4,3,2,1] 7
   exact bG.l253_P F rfl rfl rfl ⟨w40,(s0.trans (s1.trans (s2.trans (s4.trans (s28.trans (s29.trans (s30.trans (s31.trans (s32.trans (s34.trans (s35.trans (s36.trans (s37.trans (s38.trans (s39.trans s40))))))))))))))),((CR.empty:CR eI _ _ [] []).step s40),(f28_0.step (s29.trans (s30.trans (s31.trans (s32.trans (s34.trans (s35.trans (s36.trans (s37.trans (s38.trans (s39.trans s40))))))))))),(f34_0.step (s35.trans (s36.trans (s37.trans (s38.trans (s39.trans s40))))))⟩ hp
def fl.Q (H0:Hp) (Ri R0:am5)  (r:Int) (v:AV) (H':Hp):Prop:=v=(.i r)/\Out H0 Ri H' (R0) λR=>True
def fl.p (F:Nat) (ai:anh):Option (Int):=some (ai.length:Int)
theorem fl.P {aS aC aT ai} (b_:aC=ai.length) (h0:Inn H R0 λR=>ROs (af eI (af eI (af eI (af eI eI)))) H R ⟨aS,aC,aT⟩ ai) {r:Int} (hp:fl.p F ai=some r):Rt (fl.tw F ⟨aS,aC,aT⟩ H) (fl.Q H R0 R0  r):=by
 obtain ⟨w0,bK⟩:=h0
 subst b_
 unfold fl.p at hp
 unfold fl.tw fl.twX
 have s0:=w0.rf
 exact aD hp ⟨rfl,w0,s0,trivial⟩
def gq.Q (H0:Hp) (Ri R0:am5)  (r:Bool) (v:AV) (H':Hp):Prop:=v=(.bool r)/\Out H0 Ri H' (R0) λR=>True
def gq.p (F:Nat) (aa:Int) (au:Int) (eA:Int):Option (Bool):=(bif (decide (au<=aa)) then (some (decide (aa<=eA))) else (some false))
theorem gq.P {aa au eA}  (h0:Inn H R0 λR=>True) {r:Bool} (hp:gq.p F aa au eA=some r):Rt (gq.tw F aa au eA H) (gq.Q H R0 R0  r):=by
 obtain ⟨w0,_⟩:=h0
 unfold gq.p at hp
 unfold gq.tw gq.twX
 have s0:=w0.rf
 refine aG hp (λhp=>?_) λhp=>?_
 ·exact aD hp ⟨rfl,w0,s0,trivial⟩
 ·exact aD hp ⟨rfl,w0,s0,trivial⟩
def kY.Q (H0:Hp) (Ri R0:am5)  (r:Bool) (v:AV) (H':Hp):Prop:=v=(.bool r)/\Out H0 Ri H' (R0) λR=>True
def kY.p (F:Nat) (ev:Int):Option (Bool):=(bif (ev != 1) then (some (ev != (-1))) else (some false))
theorem kY.P {aa ac aZ eN ev}  (h0:Inn H R0 λR=>True) {r:Bool} (hp:kY.p F ev=some r):Rt (kY.tw F aa ac aZ eN ev H) (kY.Q H R0 R0  r):=by
 obtain ⟨w0,_⟩:=h0
 unfold kY.p at hp
 unfold kY.tw kY.twX
 have s0:=w0.rf
 refine bm w0 λH1 w1 s1=>?_
 refine lI w1 0 ?_
 refine aG hp (λhp=>?_) λhp=>?_
 ·refine lI w1 0 ?_
  obtain ⟨w2,s2⟩:=w1.pp [] 1
  exact aD hp ⟨rfl,w2,(s0.trans (s1.trans s2)),trivial⟩
 ·obtain ⟨w3,s3⟩:=w1.pp [] 1
  exact aD hp ⟨rfl,w3,(s0.trans (s1.trans s3)),trivial⟩
def eU.Q (H0:Hp) (Ri R0:am5)  (r:Int) (v:AV) (H':Hp):Prop:=v=(.i r)/\Out H0 Ri H' (R0) λR=>True
def eU.S13 (H0:Hp) (Ri R0:am5)  (C:ani) (pC:List (Int×Int×Int×Int×Int)->Int->Int->Option (Int)):Prop:=∀ {oC mB oD gU fm ed},∀ {H:Hp},mB=gU.length->(Out H0 Ri H R0 λR=>ROs (af eI (af eI (af eI (af eI eI)))) H R ⟨oC,mB,oD⟩ gU)->∀ {r:Int},pC gU fm ed=some r->Rt (C ⟨oC,mB,oD⟩ fm ed H) (eU.Q H0 Ri R0  r)
def eU.pl13 (F:Nat) :Nat->List (Int×Int×Int×Int×Int)->Int->Int->Option (Int)
 | 0,_,_,_=>none
 | k+1,gU,fm,ed=>(bif (decide (ed<fm)) then ((ix gU ed).bind λn1=>(kY.p F ((gt gU n1).2.2.2.2)).bind λr2=>(bif r2 then (some ed) else (eU.pl13 F k gU fm (wrap .i64 (ed+1))))) else (some (-1)))
theorem eU.l13_P  :∀ k,eU.S13 H0 Ri R0  (eU.l13 F (kY.tw F)  k) (eU.pl13 F  k):=by
 intro k
 induction k with
 | zero=>unfold eU.S13;intros;rename_i hp;cases hp
 | succ k ih=>
  intro oC mB oD gU fm ed H wV h0 r hp
  obtain ⟨w0,s0,rF⟩:=h0
  subst wV
  unfold eU.pl13 at hp
  unfold eU.l13
  refine aG hp (λhp=>?_) λhp=>?_
  ·obtain ⟨n1,g1,hp⟩:=ag hp
   obtain ⟨p1,q1,i1,h1,j1⟩:=ROs.ixr rF rfl g1
   refine ak i1 ?_
   obtain ⟨_,_,rfl,rfl,_,_,rfl,rfl,_,_,rfl,rfl,_,_,rfl,rfl,rfl⟩:=h1
   refine ak (bk (j1 0 _ rfl)) ?_
   refine ak (bk (j1 1 _ rfl)) ?_
   refine ak (bk (j1 2 _ rfl)) ?_
   refine ak (bk (j1 3 _ rfl)) ?_
   refine ak (bk (j1 4 _ rfl)) ?_
   obtain ⟨r2,e2,hp⟩:=ag hp
   refine aI (kY.P ⟨w0,trivial⟩ e2) ?_
   rintro _ H3 ⟨rfl,w3,s3,_⟩
   refine br ?_
   refine aG hp (λhp=>?_) λhp=>?_
   ·exact aD hp ⟨rfl,w3,(s0.trans s3),trivial⟩
   ·exact ih rfl ⟨w3,(s0.trans s3),(rF.step s3)⟩ hp
  ·exact aD hp ⟨rfl,w0,s0,trivial⟩
def eU.p (F:Nat) (ai:anh):Option (Int):=eU.pl13 F F ai (ai.length:Int) 0
theorem eU.P {aS aC aT ai} (b_:aC=ai.length) (h0:Inn H R0 λR=>ROs (af eI (af eI (af eI (af eI eI)))) H R ⟨aS,aC,aT⟩ ai) {r:Int} (hp:eU.p F ai=some r):Rt (eU.tw F ⟨aS,aC,aT⟩ H) (eU.Q H R0 R0  r):=by
 obtain ⟨w0,bK⟩:=h0
 subst b_
 unfold eU.p at hp
 unfold eU.tw eU.twX
 have s0:=w0.rf
 exact eU.l13_P F rfl ⟨w0,s0,bK⟩ hp
def jQ.Q (H0:Hp) (Ri R0:am5)  (r:Bool) (v:AV) (H':Hp):Prop:=v=(.bool r)/\Out H0 Ri H' (R0) λR=>True
def jQ.p (F:Nat) (ai:anh):Option (Bool):=(eU.p F ai).bind λr1=>some (decide (r1>=0))
theorem jQ.P {aS aC aT ai} (b_:aC=ai.length) (h0:Inn H R0 λR=>ROs (af eI (af eI (af eI (af eI eI)))) H R ⟨aS,aC,aT⟩ ai) {r:Bool} (hp:jQ.p F ai=some r):Rt (jQ.tw F ⟨aS,aC,aT⟩ H) (jQ.Q H R0 R0  r):=by
 obtain ⟨w0,bK⟩:=h0
 subst b_
 unfold jQ.p at hp
 unfold jQ.tw jQ.twX
 have s0:=w0.rf
 obtain ⟨r1,e1,hp⟩:=ag hp
 refine aI (eU.P rfl ⟨w0,bK⟩ e1) ?_
 rintro _ H2 ⟨rfl,w2,s2,_⟩
 refine br ?_
 exact aD hp ⟨rfl,w2,(s0.trans s2),trivial⟩
def bits_Mul64.Q (H0:Hp) (Ri R0:am5)  (r:anA) (v:AV) (H':Hp):Prop:=v=(.tup [(.int .u64 r.1),(.int .u64 r.2)])/\Out H0 Ri H' (R0) λR=>True
def bits_Mul64.p (F:Nat) (aa:Int) (au:Int):Option (Int×Int):=some ((IntKind.u64.wrap ((IntKind.u64.wrap ((IntKind.u64.wrap ((Int.fdiv aa (2 ^ (min (32:Int).toNat (IntKind.u64).bits))) * (Int.fdiv au (2 ^ (min (32:Int).toNat (IntKind.u64).bits)))))+(Int.fdiv (IntKind.u64.wrap ((IntKind.u64.wrap ((Int.fdiv aa (2 ^ (min (32:Int).toNat (IntKind.u64).bits))) * (Go.bits .and .u64 au 4294967295)))+(Int.fdiv (IntKind.u64.wrap ((Go.bits .and .u64 aa 4294967295) * (Go.bits .and .u64 au 4294967295))) (2 ^ (min (32:Int).toNat (IntKind.u64).bits))))) (2 ^ (min (32:Int).toNat (IntKind.u64).bits)))))+(Int.fdiv (IntKind.u64.wrap ((Go.bits .and .u64 (IntKind.u64.wrap ((IntKind.u64.wrap ((Int.fdiv aa (2 ^ (min (32:Int).toNat (IntKind.u64).bits))) * (Go.bits .and .u64 au 4294967295)))+(Int.fdiv (IntKind.u64.wrap ((Go.bits .and .u64 aa 4294967295) * (Go.bits .and .u64 au 4294967295))) (2 ^ (min (32:Int).toNat (IntKind.u64).bits))))) 4294967295)+(IntKind.u64.wrap ((Go.bits .and .u64 aa 4294967295) * (Int.fdiv au (2 ^ (min (32:Int).toNat (IntKind.u64).bits))))))) (2 ^ (min (32:Int).toNat (IntKind.u64).bits))))),(IntKind.u64.wrap (aa * au)))
theorem bits_Mul64.P {aa au}  (h0:Inn H R0 λR=>True) {r:anA} (hp:bits_Mul64.p F aa au=some r):Rt (bits_Mul64.tw F aa au H) (bits_Mul64.Q H R0 R0  r):=by
 obtain ⟨w0,_⟩:=h0
 unfold bits_Mul64.p at hp
 unfold bits_Mul64.tw bits_Mul64.twX
 have s0:=w0.rf
 exact aD hp ⟨rfl,w0,s0,trivial⟩
def bits_Mul.Q (H0:Hp) (Ri R0:am5)  (r:anA) (v:AV) (H':Hp):Prop:=v=(.tup [(.int .u64 r.1),(.int .u64 r.2)])/\Out H0 Ri H' (R0) λR=>True
def bits_Mul.p (F:Nat) (aa:Int) (au:Int):Option (Int×Int):=(bits_Mul64.p F aa au).bind λr1=>some (r1.1,r1.2)
theorem bits_Mul.P {aa au}  (h0:Inn H R0 λR=>True) {r:anA} (hp:bits_Mul.p F aa au=some r):Rt (bits_Mul.tw F aa au H) (bits_Mul.Q H R0 R0  r):=by
 obtain ⟨w0,_⟩:=h0
 unfold bits_Mul.p at hp
 unfold bits_Mul.tw bits_Mul.twX
 have s0:=w0.rf
 obtain ⟨r1,e1,hp⟩:=ag hp
 refine aI (bits_Mul64.P ⟨w0,trivial⟩ e1) ?_
 rintro _ H2 ⟨rfl,w2,s2,_⟩
 refine br (br (br (br (br ?_))))
 exact aD hp ⟨rfl,w2,(s0.trans s2),trivial⟩
def du.Q (H0:Hp) (Ri R0:am5)  (r:(List (Int×Int))) (v:AV) (H':Hp):Prop:=∃ o0a:ON,∃ o0n:Nat,∃ o0k:List AV,v=(.sl ⟨o0a,o0n,.ex o0n⟩)/\o0n=(r).length/\Out H0 Ri H' (Rs.own ⟨o0a,o0n,.ex o0n⟩ (af eI eI).z o0k::R0) λR=>CR (af eI eI) H' R o0k (r)
def du.pj1 (F:Nat)  (Bu:ans) (vy:Int):Option ((List (Int×Int))):=(mkn (wrap .i64 vy) ((0:Int),(0:Int))).bind λl1=>(some (cpl l1 Bu)).bind λl3=>(BU F l3 ((min Bu.length l1.length:Nat):Int)).bind λl5=>some l5
theorem du.j1_P   {Zf Pt Zg Bu vy} (aiq:Pt=Bu.length) (h0:Out H0 Ri H R0 λR=>ROs (af eI eI) H R ⟨Zf,Pt,Zg⟩ Bu) {r:(List (Int×Int))} (hp:du.pj1 F  Bu vy=some r):Rt (du.j1 F (bits_Mul.tw F)  ⟨Zf,Pt,Zg⟩ vy H) (du.Q H0 Ri R0  r):=by
 obtain ⟨w0,s0,air⟩:=h0
 subst aiq
 unfold du.pj1 at hp
 unfold du.j1
 obtain ⟨l1,e1,hp⟩:=ag hp
 refine uY (af eI eI) ((0:Int),(0:Int)) w0 ⟨[_],_,rfl,rfl,rfl⟩ rfl rfl e1 λH2 k2 w2 s2 c2=>?_
 obtain ⟨x3,h3,c3⟩:=(air.step s2).row (z:=(af eI eI).z) rfl
 obtain ⟨l3,e3,hp⟩:=ag hp
 refine ak5 (af eI eI) w2 (i:=0) rfl rfl c2 h3 c3 rfl rfl e3 λk4 H4 w4 s4 c4=>?_
 obtain ⟨l5,e5,hp⟩:=ag hp
 refine ak6 (af eI eI) rfl (L:=du.l254 F (bits_Mul.tw F)) (λ_ _ _ _=>rfl) w4 (i:=0) rfl c4 e5 λH6 k6 w6 s6 c6=>?_
 dsimp only [List.set] at w6 s6 c6
 exact aD hp ⟨_,_,_,rfl,((ak7 e3).symm.trans (ak8 e5).symm),w6,(s0.trans (s2.trans (s4.trans s6))),c6⟩
def du.pj2 (F:Nat)  (Bv:ans) (ze:Int):Option ((List (Int×Int))):=(bits_Mul.p F (IntKind.u64.wrap (Bv.length:Int)) (IntKind.u64.wrap ze)).bind λr1=>(bif (decide (r1.1>0)) then (none) else ((bif (decide (r1.2>9223372036854775807)) then (none) else (du.pj1 F Bv r1.2))))
theorem du.j2_P   {Zh Pu Zi Bv ze} (ais:Pu=Bv.length) (h0:Out H0 Ri H R0 λR=>ROs (af eI eI) H R ⟨Zh,Pu,Zi⟩ Bv) {r:(List (Int×Int))} (hp:du.pj2 F  Bv ze=some r):Rt (du.j2 F (bits_Mul.tw F)  ⟨Zh,Pu,Zi⟩ ze H) (du.Q H0 Ri R0  r):=by
 obtain ⟨w0,s0,ait⟩:=h0
 subst ais
 unfold du.pj2 at hp
 unfold du.j2
 obtain ⟨r1,e1,hp⟩:=ag hp
 refine aI (bits_Mul.P ⟨w0,trivial⟩ e1) ?_
 rintro _ H2 ⟨rfl,w2,s2,_⟩
 refine br (br (br (br (br ?_))))
 refine aG hp (λhp=>?_) λhp=>?_
 ·cases hp
 ·refine aG hp (λhp=>?_) λhp=>?_
  ·cases hp
  ·exact du.j1_P rfl ⟨w2,(s0.trans s2),(ait.step s2)⟩ hp
def du.p (F:Nat) (ai:ans) (au:Int):Option ((List (Int×Int))):=(bif (decide (au<0)) then (none) else (du.pj2 F ai au))
theorem du.P {aS aC aT ai au} (b_:aC=ai.length) (h0:Inn H R0 λR=>ROs (af eI eI) H R ⟨aS,aC,aT⟩ ai) {r:(List (Int×Int))} (hp:du.p F ai au=some r):Rt (du.tw F ⟨aS,aC,aT⟩ au H) (du.Q H R0 R0  r):=by
 obtain ⟨w0,bK⟩:=h0
 subst b_
 unfold du.p at hp
 unfold du.tw du.twX
 have s0:=w0.rf
 refine aG hp (λhp=>?_) λhp=>?_
 ·cases hp
 ·exact du.j2_P rfl ⟨w0,s0,bK⟩ hp
def jd.Q (H0:Hp) (Ri R0:am5)  (r:Int×Int×Int×Int) (v:AV) (H':Hp):Prop:=v=(.agg [(.i r.1),(.i r.2.1),(.i r.2.2.1),(.i r.2.2.2)])/\Out H0 Ri H' (R0) λR=>True
def jd.p (F:Nat) (aa:Int) (ac:Int) (aZ:Int) (eN:Int):Option (Int×Int×Int×Int):=some (aa,ac,aZ,eN)
theorem jd.P {aa ac aZ eN ev}  (h0:Inn H R0 λR=>True) {r:Int×Int×Int×Int} (hp:jd.p F aa ac aZ eN=some r):Rt (jd.tw F aa ac aZ eN ev H) (jd.Q H R0 R0  r):=by
 obtain ⟨w0,_⟩:=h0
 unfold jd.p at hp
 unfold jd.tw jd.twX
 have s0:=w0.rf
 refine bm w0 λH1 w1 s1=>?_
 refine bm w1 λH2 w2 s2=>?_
 refine lI w2 1 ?_
 refine lI w2 1 ?_
 refine lI w2 1 ?_
 refine lI w2 1 ?_
 refine aE w2 0 λH3 w3 s3=>?_
 refine aE w3 0 λH4 w4 s4=>?_
 refine aE w4 0 λH5 w5 s5=>?_
 refine aE w5 0 λH6 w6 s6=>?_
 refine lI w6 0 ?_
 refine lI w6 0 ?_
 refine lI w6 0 ?_
 refine lI w6 0 ?_
 obtain ⟨w7,s7⟩:=w6.pp [] 2
 exact aD hp ⟨rfl,w7,(s0.trans (s1.trans (s2.trans (s3.trans (s4.trans (s5.trans (s6.trans s7))))))),trivial⟩
def je.Q (H0:Hp) (Ri R0:am5)  (r:Bool) (v:AV) (H':Hp):Prop:=v=(.bool r)/\Out H0 Ri H' (R0) λR=>True
def je.p (F:Nat) (ev:Int) (fE:Int):Option (Bool):=(bif (fE==0) then (some true) else (some (fE==(wrap .i64 (2+ev)))))
theorem je.P {aa ac aZ eN ev fE}  (h0:Inn H R0 λR=>True) {r:Bool} (hp:je.p F ev fE=some r):Rt (je.tw F aa ac aZ eN ev fE H) (je.Q H R0 R0  r):=by
 obtain ⟨w0,_⟩:=h0
 unfold je.p at hp
 unfold je.tw je.twX
 have s0:=w0.rf
 refine bm w0 λH1 w1 s1=>?_
 refine aG hp (λhp=>?_) λhp=>?_
 ·obtain ⟨w2,s2⟩:=w1.pp [] 1
  exact aD hp ⟨rfl,w2,(s0.trans (s1.trans s2)),trivial⟩
 ·refine lI w1 0 ?_
  obtain ⟨w3,s3⟩:=w1.pp [] 1
  exact aD hp ⟨rfl,w3,(s0.trans (s1.trans s3)),trivial⟩
def ma.Q (H0:Hp) (Ri R0:am5)  (r:Int) (v:AV) (H':Hp):Prop:=v=(.i r)/\Out H0 Ri H' (R0) λR=>True
def ma.p (F:Nat) (ai:ans):Option (Int):=some (ai.length:Int)
theorem ma.P {aS aC aT ai} (b_:aC=ai.length) (h0:Inn H R0 λR=>ROs (af eI eI) H R ⟨aS,aC,aT⟩ ai) {r:Int} (hp:ma.p F ai=some r):Rt (ma.tw F ⟨aS,aC,aT⟩ H) (ma.Q H R0 R0  r):=by
 obtain ⟨w0,bK⟩:=h0
 subst b_
 unfold ma.p at hp
 unfold ma.tw ma.twX
 have s0:=w0.rf
 exact aD hp ⟨rfl,w0,s0,trivial⟩
def iJ.Q (H0:Hp) (Ri R0:am5)  (r:Bool) (v:AV) (H':Hp):Prop:=v=(.bool r)/\Out H0 Ri H' (R0) λR=>True
def iJ.p (F:Nat) (ai:ans) (au:Int):Option (Bool):=(ma.p F ai).bind λr1=>(gq.p F au 0 (wrap .i64 (r1 - 1))).bind λr3=>some r3
theorem iJ.P {aS aC aT ai au} (b_:aC=ai.length) (h0:Inn H R0 λR=>ROs (af eI eI) H R ⟨aS,aC,aT⟩ ai) {r:Bool} (hp:iJ.p F ai au=some r):Rt (iJ.tw F ⟨aS,aC,aT⟩ au H) (iJ.Q H R0 R0  r):=by
 obtain ⟨w0,bK⟩:=h0
 subst b_
 unfold iJ.p at hp
 unfold iJ.tw iJ.twX
 have s0:=w0.rf
 obtain ⟨r1,e1,hp⟩:=ag hp
 refine aI (ma.P rfl ⟨w0,bK⟩ e1) ?_
 rintro _ H2 ⟨rfl,w2,s2,_⟩
 refine br ?_
 obtain ⟨r3,e3,hp⟩:=ag hp
 refine aI (gq.P ⟨w2,trivial⟩ e3) ?_
 rintro _ H4 ⟨rfl,w4,s4,_⟩
 refine br ?_
 exact aD hp ⟨rfl,w4,(s0.trans (s2.trans s4)),trivial⟩
def cG.Q (H0:Hp) (Ri R0:am5)  (r:(List (Int×Int))×(List (Int×Int))×Bool) (v:AV) (H':Hp):Prop:=∃ o0a:ON,∃ o0n:Nat,∃ o0c:Cap,∃ o0k:List AV,∃ o1a:ON,∃ o1n:Nat,∃ o1c:Cap,∃ o1k:List AV,v=(.tup [(.agg [(.sl ⟨o0a,o0n,o0c⟩),(.sl ⟨o1a,o1n,o1c⟩)]),(.bool r.2.2)])/\o0n=(r.1).length/\o1n=(r.2.1).length/\Out H0 Ri H' (Rs.own ⟨o0a,o0n,o0c⟩ (af eI eI).z o0k::Rs.own ⟨o1a,o1n,o1c⟩ (af eI eI).z o1k::R0) λR=>CR (af eI eI) H' R o0k (r.1)/\CR (af eI eI) H' R o1k (r.2.1)
def cG.S61 (H0:Hp) (Ri R0:am5)  (C:aoq) (pC:aoB):Prop:=∀ {Pv Pw Px Py Pz Ih Ii qN Ij Ik sS Il PA PB PC PD PE PF PG wW wX PH PI PJ PK ql qO nY},∀ {H:Hp},Ih=PF.length->Ii=PG.length->Ij=wW.length->Ik=wX.length->Il=ql.length->(Out H0 Ri H (Rs.own ⟨Pv,Ih,PA⟩ (af eI eI).z PH::Rs.own ⟨Pw,Ii,PB⟩ (af eI eI).z PI::Rs.blk qN [.sl ⟨Pv,Ih,PA⟩,.sl ⟨Pw,Ii,PB⟩]::Rs.own ⟨Px,Ij,PC⟩ (af eI eI).z PJ::Rs.own ⟨Py,Ik,PD⟩ (af eI eI).z PK::Rs.blk sS [.sl ⟨Px,Ij,PC⟩,.sl ⟨Py,Ik,PD⟩]::R0) λR=>CR (af eI eI) H R PH PF/\CR (af eI eI) H R PI PG/\CR (af eI eI) H R PJ wW/\CR (af eI eI) H R PK wX/\ROs (af eI (af eI (af eI (af eI eI)))) H R ⟨Pz,Il,PE⟩ ql)->∀ {r:(List (Int×Int))×(List (Int×Int))×Bool},pC wW wX ql qO nY=some r->Rt (C qN 0 sS 0 ⟨Pz,Il,PE⟩ qO nY H) (cG.Q H0 Ri R0  r)
def cG.S3931 (H0:Hp) (Ri R0:am5)  (C:Nat->Nat->Nat->Nat->Sl->Int->Int->Nat->Nat->Int->Int->Int->Int->Int->Int->Hp->OA) (pC:List (Int×Int)->List (Int×Int)->List (Int×Int×Int×Int×Int)->Int->Int->Int->Int->Int->Int->Int->Int->Int->Option ((List (Int×Int))×(List (Int×Int))×Bool)):Prop:=∀ {PL PM PO PP PQ Im In jR Io Ip mb Iq pB PR PU PW PX PY PZ P_ ns nu Qa Qb Qc Qd uK pz pA Zj Zk Zl Zm wY nX lr lu lw lx iy},∀ {H:Hp},Im=PZ.length->In=P_.length->Io=ns.length->Ip=nu.length->Iq=uK.length->(Out H0 Ri H (Rs.own ⟨PL,Im,PR⟩ (af eI eI).z Qa::Rs.own ⟨PM,In,PU⟩ (af eI eI).z Qb::Rs.blk jR [.sl ⟨PL,Im,PR⟩,.sl ⟨PM,In,PU⟩]::Rs.own ⟨PO,Io,PW⟩ (af eI eI).z Qc::Rs.own ⟨PP,Ip,PX⟩ (af eI eI).z Qd::Rs.blk mb [.sl ⟨PO,Io,PW⟩,.sl ⟨PP,Ip,PX⟩]::Rs.blk pB [.i Zj,.i Zk,.i Zl,.i Zm,.i wY]::R0) λR=>CR (af eI eI) H R Qa PZ/\CR (af eI eI) H R Qb P_/\CR (af eI eI) H R Qc ns/\CR (af eI eI) H R Qd nu/\ROs (af eI (af eI (af eI (af eI eI)))) H R ⟨PQ,Iq,PY⟩ uK)->∀ {r:(List (Int×Int))×(List (Int×Int))×Bool},pC ns nu uK pz pA wY nX lr lu lw lx iy=some r->Rt (C jR 0 mb 0 ⟨PQ,Iq,PY⟩ pz pA pB 0 nX lr lu lw lx iy H) (cG.Q H0 Ri R0  r)
def cG.pl3931 (F:Nat) (bS:aoB):Nat->List (Int×Int)->List (Int×Int)->List (Int×Int×Int×Int×Int)->Int->Int->Int->Int->Int->Int->Int->Int->Int->Option ((List (Int×Int))×(List (Int×Int))×Bool)
 | 0,_,_,_,_,_,_,_,_,_,_,_,_=>none
 | k+1,ns,nu,uK,pz,pA,wY,nX,lr,lu,lw,lx,iy=>(bif (decide (iy<4)) then ((if 0<=iy/\iy<(4:Int) then ((je.p F wY iy).bind λr2=>(bif r2 then ((iJ.p F nu (gt ([lr,lu,lw,lx]:List Int) (iy:Int).toNat)).bind λr6=>(bif (!r6) then (some (ns,nu,false)) else ((ix nu (gt ([lr,lu,lw,lx]:List Int) (iy:Int).toNat)).bind λn12=>(bif (decide (((gt nu n12).1)>=0)) then (some (ns,nu,false)) else ((ix nu (gt ([lr,lu,lw,lx]:List Int) (iy:Int).toNat)).bind λn16=>(some (nu.set n16 (nX,(gt nu n16).2))).bind λl17=>(some (l17.set n16 ((gt l17 n16).1,iy))).bind λl19=>cG.pl3931 F bS k ns l19 uK pz pA wY nX lr lu lw lx (wrap .i64 (iy+1))))))) else ((iJ.p F ns (gt ([lr,lu,lw,lx]:List Int) (iy:Int).toNat)).bind λr24=>(bif (!r24) then (some (ns,nu,false)) else ((ix ns (gt ([lr,lu,lw,lx]:List Int) (iy:Int).toNat)).bind λn30=>(bif (decide (((gt ns n30).1)>=0)) then (some (ns,nu,false)) else ((ix ns (gt ([lr,lu,lw,lx]:List Int) (iy:Int).toNat)).bind λn34=>(some (ns.set n34 (nX,(gt ns n34).2))).bind λl35=>(some (l35.set n34 ((gt l35 n34).1,iy))).bind λl37=>cG.pl3931 F bS k l37 nu uK pz pA wY nX lr lu lw lx (wrap .i64 (iy+1))))))))) else none)) else (bS ns nu uK pz (wrap .i64 (pA+1))))
theorem cG.l3931_P  {C61_:aoq} {bS:aoB} (hC61:cG.S61 H0 Ri R0  C61_ bS):∀ k,cG.S3931 H0 Ri R0  (cG.l3931 F (du.tw F) (jd.tw F) (je.tw F) (iJ.tw F) C61_ k) (cG.pl3931 F bS k):=by
 intro k
 induction k with
 | zero=>unfold cG.S3931;intros;rename_i hp;cases hp
 | succ k ih=>
  intro PL PM PO PP PQ Im In jR Io Ip mb Iq pB PR PU PW PX PY PZ P_ ns nu Qa Qb Qc Qd uK pz pA Zj Zk Zl Zm wY nX lr lu lw lx iy H aiu aiv aiw aix aiy h0 r hp
  obtain ⟨w0,s0,Qe,Qf,si,sj,Qg⟩:=h0
  subst aiu
  subst aiv
  subst aiw
  subst aix
  subst aiy
  unfold cG.pl3931 at hp
  unfold cG.l3931
  refine aG hp (λhp=>?_) λhp=>?_
  ·obtain ⟨g1,hp⟩:=lH hp
   refine fg g1 ?_
   refine ak (a:=AV.int .i64 (gt ([lr,lu,lw,lx]:List Int) (iy:Int).toNat)) (by rw [Nat.mul_one];exact abY (k:=.i64) (l:=[lr,lu,lw,lx]) rfl (by have:=g1;simp only [List.length_cons,List.length_nil];omega)) ?_
   refine br ?_
   refine lSl w0 5 ?_
   refine lI w0 6 ?_
   refine lI w0 6 ?_
   refine lI w0 6 ?_
   refine lI w0 6 ?_
   refine lI w0 6 ?_
   obtain ⟨r2,e2,hp⟩:=ag hp
   refine aI (je.P ⟨w0,trivial⟩ e2) ?_
   rintro _ H3 ⟨rfl,w3,s3,_⟩
   refine br ?_
   refine aG hp (λhp=>?_) λhp=>?_
   ·refine lSl w3 5 ?_
    obtain ⟨w4,s4⟩:=w3.pp [4,0,1,2,3,5,6] 7
    have f5:=W.borrow1 (af eI eI) w4 (sj.step (s3.trans s4))
    obtain ⟨w5,s5⟩:=w4.right1
    obtain ⟨r6,e6,hp⟩:=ag hp
    refine aI (iJ.P rfl ⟨w5,f5⟩ e6) ?_
    rintro _ H7 ⟨rfl,w7,s7,_⟩
    obtain ⟨w8,s8⟩:=W.frame1 w4 w7 s7
    refine br ?_
    refine aG hp (λhp=>?_) λhp=>?_
    ·refine lSl w8 5 ?_
     refine lSl w8 5 ?_
     refine aE w8 3 λH9 w9 s9=>?_
     refine aE w9 3 λH10 w10 s10=>?_
     refine lSl w10 3 ?_
     refine lSl w10 3 ?_
     obtain ⟨w11,s11⟩:=w10.pp [4,0] 7
     exact aD hp ⟨_,_,_,_,_,_,_,_,rfl,rfl,rfl,w11,(s0.trans (s3.trans (s4.trans (s8.trans (s9.trans (s10.trans s11)))))),(si.step (s3.trans (s4.trans (s8.trans (s9.trans (s10.trans s11)))))),(sj.step (s3.trans (s4.trans (s8.trans (s9.trans (s10.trans s11))))))⟩
    ·obtain ⟨n12,g12,hp⟩:=ag hp
     obtain ⟨p12,q12,i12,h12,j12⟩:=W.ixo (E:=(af eI eI)) w8 (i:=0) rfl rfl (sj.step (s3.trans (s4.trans s8))) g12
     refine ak i12 ?_
     obtain ⟨_,_,rfl,rfl,rfl⟩:=h12
     refine ak (bk (j12 0 _ rfl)) ?_
     refine aG hp (λhp=>?_) λhp=>?_
     ·refine lSl w8 5 ?_
      refine lSl w8 5 ?_
      refine aE w8 3 λH13 w13 s13=>?_
      refine aE w13 3 λH14 w14 s14=>?_
      refine lSl w14 3 ?_
      refine lSl w14 3 ?_
      obtain ⟨w15,s15⟩:=w14.pp [4,0] 7
      exact aD hp ⟨_,_,_,_,_,_,_,_,rfl,rfl,rfl,w15,(s0.trans (s3.trans (s4.trans (s8.trans (s13.trans (s14.trans s15)))))),(si.step (s3.trans (s4.trans (s8.trans (s13.trans (s14.trans s15)))))),(sj.step (s3.trans (s4.trans (s8.trans (s13.trans (s14.trans s15))))))⟩
     ·obtain ⟨n16,g16,hp⟩:=ag hp
      obtain ⟨p16,q16,i16,h16,j16⟩:=W.ixo (E:=(af eI eI)) w8 (i:=0) rfl rfl (sj.step (s3.trans (s4.trans s8))) g16
      refine ak i16 ?_
      obtain ⟨l17,e17,hp⟩:=ag hp
      refine fc (af eI eI) w8 (i:=0) (j:=0) (p:=p16) rfl rfl (sj.step (s3.trans (s4.trans s8))) g16 i16 e17 rfl rfl (λ_ h=>by obtain ⟨_,_,rfl,rfl,rfl⟩:=h;exact ⟨[_],_,rfl,rfl,rfl⟩) λH18 k18 w18 s18 c18=>?_
      obtain ⟨l19,e19,hp⟩:=ag hp
      refine fc (af eI eI) w18 (i:=0) (j:=1) (p:=p16) rfl rfl c18 (pd g16 (dl e17)) i16 e19 rfl rfl (λ_ h=>by obtain ⟨_,_,rfl,rfl,rfl⟩:=h;exact ⟨[_],_,rfl,rfl,rfl⟩) λH20 k20 w20 s20 c20=>?_
      obtain ⟨w21,s21⟩:=w20.pp [1,2,3,4,0,5,6] 7
      exact ih rfl rfl rfl ((dl e17).symm.trans (dl e19).symm) rfl ⟨w21,(s0.trans (s3.trans (s4.trans (s8.trans (s18.trans (s20.trans s21)))))),(Qe.step (s3.trans (s4.trans (s8.trans (s18.trans (s20.trans s21)))))),(Qf.step (s3.trans (s4.trans (s8.trans (s18.trans (s20.trans s21)))))),(si.step (s3.trans (s4.trans (s8.trans (s18.trans (s20.trans s21)))))),(c20.step s21),(Qg.step (s3.trans (s4.trans (s8.trans (s18.trans (s20.trans s21))))))⟩ hp
   ·obtain ⟨w22,s22⟩:=w3.pp [3,0,1,2,4,5,6] 7
    have f23:=W.borrow1 (af eI eI) w22 (si.step (s3.trans s22))
    obtain ⟨w23,s23⟩:=w22.right1
    obtain ⟨r24,e24,hp⟩:=ag hp
    refine aI (iJ.P rfl ⟨w23,f23⟩ e24) ?_
    rintro _ H25 ⟨rfl,w25,s25,_⟩
    obtain ⟨w26,s26⟩:=W.frame1 w22 w25 s25
    refine br ?_
    refine aG hp (λhp=>?_) λhp=>?_
    ·refine lSl w26 5 ?_
     refine lSl w26 5 ?_
     refine aE w26 3 λH27 w27 s27=>?_
     refine aE w27 3 λH28 w28 s28=>?_
     refine lSl w28 3 ?_
     refine lSl w28 3 ?_
     obtain ⟨w29,s29⟩:=w28.pp [0,4] 7
     exact aD hp ⟨_,_,_,_,_,_,_,_,rfl,rfl,rfl,w29,(s0.trans (s3.trans (s22.trans (s26.trans (s27.trans (s28.trans s29)))))),(si.step (s3.trans (s22.trans (s26.trans (s27.trans (s28.trans s29)))))),(sj.step (s3.trans (s22.trans (s26.trans (s27.trans (s28.trans s29))))))⟩
    ·obtain ⟨n30,g30,hp⟩:=ag hp
     obtain ⟨p30,q30,i30,h30,j30⟩:=W.ixo (E:=(af eI eI)) w26 (i:=0) rfl rfl (si.step (s3.trans (s22.trans s26))) g30
     refine ak i30 ?_
     obtain ⟨_,_,rfl,rfl,rfl⟩:=h30
     refine ak (bk (j30 0 _ rfl)) ?_
     refine aG hp (λhp=>?_) λhp=>?_
     ·refine lSl w26 5 ?_
      refine lSl w26 5 ?_
      refine aE w26 3 λH31 w31 s31=>?_
      refine aE w31 3 λH32 w32 s32=>?_
      refine lSl w32 3 ?_
      refine lSl w32 3 ?_
      obtain ⟨w33,s33⟩:=w32.pp [0,4] 7
      exact aD hp ⟨_,_,_,_,_,_,_,_,rfl,rfl,rfl,w33,(s0.trans (s3.trans (s22.trans (s26.trans (s31.trans (s32.trans s33)))))),(si.step (s3.trans (s22.trans (s26.trans (s31.trans (s32.trans s33)))))),(sj.step (s3.trans (s22.trans (s26.trans (s31.trans (s32.trans s33))))))⟩
     ·obtain ⟨n34,g34,hp⟩:=ag hp
      obtain ⟨p34,q34,i34,h34,j34⟩:=W.ixo (E:=(af eI eI)) w26 (i:=0) rfl rfl (si.step (s3.trans (s22.trans s26))) g34
      refine ak i34 ?_
      obtain ⟨l35,e35,hp⟩:=ag hp
      refine fc (af eI eI) w26 (i:=0) (j:=0) (p:=p34) rfl rfl (si.step (s3.trans (s22.trans s26))) g34 i34 e35 rfl rfl (λ_ h=>by obtain ⟨_,_,rfl,rfl,rfl⟩:=h;exact ⟨[_],_,rfl,rfl,rfl⟩) λH36 k36 w36 s36 c36=>?_
      obtain ⟨l37,e37,hp⟩:=ag hp
      refine fc (af eI eI) w36 (i:=0) (j:=1) (p:=p34) rfl rfl c36 (pd g34 (dl e35)) i34 e37 rfl rfl (λ_ h=>by obtain ⟨_,_,rfl,rfl,rfl⟩:=h;exact ⟨[_],_,rfl,rfl,rfl⟩) λH38 k38 w38 s38 c38=>?_
      obtain ⟨w39,s39⟩:=w38.pp [1,2,3,0,4,5,6] 7
      exact ih rfl rfl ((dl e35).symm.trans (dl e37).symm) rfl rfl ⟨w39,(s0.trans (s3.trans (s22.trans (s26.trans (s36.trans (s38.trans s39)))))),(Qe.step (s3.trans (s22.trans (s26.trans (s36.trans (s38.trans s39)))))),(Qf.step (s3.trans (s22.trans (s26.trans (s36.trans (s38.trans s39)))))),(c38.step s39),(sj.step (s3.trans (s22.trans (s26.trans (s36.trans (s38.trans s39)))))),(Qg.step (s3.trans (s22.trans (s26.trans (s36.trans (s38.trans s39))))))⟩ hp
  ·obtain ⟨w40,s40⟩:=w0.pp [0,1,2,3,4,5] 7
   exact hC61 rfl rfl rfl rfl rfl ⟨w40,(s0.trans s40),(Qe.step s40),(Qf.step s40),(si.step s40),(sj.step s40),(Qg.step s40)⟩ hp
def cG.pl61 (F:Nat) :Nat->List (Int×Int)->List (Int×Int)->List (Int×Int×Int×Int×Int)->Int->Int->Option ((List (Int×Int))×(List (Int×Int))×Bool)
 | 0,_,_,_,_,_=>none
 | k+1,wW,wX,ql,qO,nY=>(bif (decide (nY<qO)) then ((ix ql nY).bind λn1=>(jd.p F ((gt ql n1).1) ((gt ql n1).2.1) ((gt ql n1).2.2.1) ((gt ql n1).2.2.2.1)).bind λr8=>cG.pl3931 F (cG.pl61 F k) F wW wX ql qO nY ((gt ql n1).2.2.2.2) nY r8.1 r8.2.1 r8.2.2.1 r8.2.2.2 0) else (some (wW,wX,true)))
theorem cG.l61_P  :∀ k,cG.S61 H0 Ri R0  (cG.l61 F (du.tw F) (jd.tw F) (je.tw F) (iJ.tw F)  k) (cG.pl61 F  k):=by
 intro k
 induction k with
 | zero=>unfold cG.S61;intros;rename_i hp;cases hp
 | succ k ih=>
  intro Pv Pw Px Py Pz Ih Ii qN Ij Ik sS Il PA PB PC PD PE PF PG wW wX PH PI PJ PK ql qO nY H aiz aiA aiB aiC aiD h0 r hp
  obtain ⟨w0,s0,aiE,aiF,Zn,Zo,Zp⟩:=h0
  subst aiz
  subst aiA
  subst aiB
  subst aiC
  subst aiD
  unfold cG.pl61 at hp
  unfold cG.l61
  refine aG hp (λhp=>?_) λhp=>?_
  ·obtain ⟨n1,g1,hp⟩:=ag hp
   obtain ⟨p1,q1,i1,h1,j1⟩:=ROs.ixr Zp rfl g1
   refine ak i1 ?_
   obtain ⟨_,_,rfl,rfl,_,_,rfl,rfl,_,_,rfl,rfl,_,_,rfl,rfl,rfl⟩:=h1
   refine ak (bk (j1 0 _ rfl)) ?_
   refine ak (bk (j1 1 _ rfl)) ?_
   refine ak (bk (j1 2 _ rfl)) ?_
   refine ak (bk (j1 3 _ rfl)) ?_
   refine ak (bk (j1 4 _ rfl)) ?_
   refine bm w0 λH2 w2 s2=>?_
   refine aE w2 0 λH3 w3 s3=>?_
   refine aE w3 0 λH4 w4 s4=>?_
   refine aE w4 0 λH5 w5 s5=>?_
   refine aE w5 0 λH6 w6 s6=>?_
   refine aE w6 0 λH7 w7 s7=>?_
   refine lI w7 0 ?_
   refine lI w7 0 ?_
   refine lI w7 0 ?_
   refine lI w7 0 ?_
   refine lI w7 0 ?_
   obtain ⟨r8,e8,hp⟩:=ag hp
   refine aI (jd.P ⟨w7,trivial⟩ e8) ?_
   rintro _ H9 ⟨rfl,w9,s9,_⟩
   refine br (br (br (br (br (br (br (br (br ?_))))))))
   obtain ⟨w10,s10⟩:=w9.pp [1,2,3,4,5,6,0] 7
   exact cG.l3931_P (@ih) F rfl rfl rfl rfl rfl ⟨w10,(s0.trans (s2.trans (s3.trans (s4.trans (s5.trans (s6.trans (s7.trans (s9.trans s10)))))))),(aiE.step (s2.trans (s3.trans (s4.trans (s5.trans (s6.trans (s7.trans (s9.trans s10)))))))),(aiF.step (s2.trans (s3.trans (s4.trans (s5.trans (s6.trans (s7.trans (s9.trans s10)))))))),(Zn.step (s2.trans (s3.trans (s4.trans (s5.trans (s6.trans (s7.trans (s9.trans s10)))))))),(Zo.step (s2.trans (s3.trans (s4.trans (s5.trans (s6.trans (s7.trans (s9.trans s10)))))))),(Zp.step (s2.trans (s3.trans (s4.trans (s5.trans (s6.trans (s7.trans (s9.trans s10))))))))⟩ hp
  ·refine lSl w0 5 ?_
   refine lSl w0 5 ?_
   refine aE w0 2 λH11 w11 s11=>?_
   refine aE w11 2 λH12 w12 s12=>?_
   refine lSl w12 2 ?_
   refine lSl w12 2 ?_
   obtain ⟨w13,s13⟩:=w12.pp [3,4] 6
   exact aD hp ⟨_,_,_,_,_,_,_,_,rfl,rfl,rfl,w13,(s0.trans (s11.trans (s12.trans s13))),(Zn.step (s11.trans (s12.trans s13))),(Zo.step (s11.trans (s12.trans s13)))⟩
def cG.p (F:Nat) (ai:anh):Option ((List (Int×Int))×(List (Int×Int))×Bool):=(du.p F ([((-1),0)]:List (Int×Int)) (wrap .i64 (2 * (ai.length:Int)))).bind λr5=>(du.p F ([((-1),0)]:List (Int×Int)) (wrap .i64 (2 * (ai.length:Int)))).bind λr10=>cG.pl61 F F r5 r10 ai (ai.length:Int) 0
theorem cG.P {aS aC aT ai ac} (b_:aC=ai.length) (h0:Inn H R0 λR=>ROs (af eI (af eI (af eI (af eI eI)))) H R ⟨aS,aC,aT⟩ ai) {r:(List (Int×Int))×(List (Int×Int))×Bool} (hp:cG.p F ai=some r):Rt (cG.tw F ⟨aS,aC,aT⟩ ac H) (cG.Q H R0 R0  r):=by
 obtain ⟨w0,bK⟩:=h0
 subst b_
 unfold cG.p at hp
 unfold cG.tw cG.twX
 have s0:=w0.rf
 refine bm w0 λH1 w1 s1=>?_
 refine bm w1 λH2 w2 s2=>?_
 refine lSl w2 1 ?_
 refine jJ (af eI eI) w2 (n:=1) (l:=([((-1),0)]:List (Int×Int))) rfl (CR.cons (c:=[_,_]) ⟨[_],_,rfl,rfl,rfl⟩ CR.empty) rfl λH3 w3 s3 c3=>?_
 have f4:=W.borrow1 (af eI eI) w3 c3
 obtain ⟨w4,s4⟩:=w3.right1
 obtain ⟨r5,e5,hp⟩:=ag hp
 refine aI (du.P (show 1=List.length ([((-1),0)]:List (Int×Int)) from rfl) ⟨w4,f4⟩ e5) ?_
 rintro _ H6 ⟨o0a_6,o0n_6,o0k_6,rfl,rfl,w6,s6,f6_0⟩
 obtain ⟨w7,s7⟩:=W.frame1 w3 w6 s6
 refine br ?_
 refine jJ (af eI eI) w7 (n:=1) (l:=([((-1),0)]:List (Int×Int))) rfl (CR.cons (c:=[_,_]) ⟨[_],_,rfl,rfl,rfl⟩ CR.empty) rfl λH8 w8 s8 c8=>?_
 have f9:=W.borrow1 (af eI eI) w8 c8
 obtain ⟨w9,s9⟩:=w8.right1
 obtain ⟨r10,e10,hp⟩:=ag hp
 refine aI (du.P (show 1=List.length ([((-1),0)]:List (Int×Int)) from rfl) ⟨w9,f9⟩ e10) ?_
 rintro _ H11 ⟨o0a_11,o0n_11,o0k_11,rfl,rfl,w11,s11,f11_0⟩
 obtain ⟨w12,s12⟩:=W.frame1 w8 w11 s11
 refine br ?_
 refine bm w12 λH13 w13 s13=>?_
 refine aE w13 0 λH14 w14 s14=>?_
 refine aE w14 0 λH15 w15 s15=>?_
 refine lSl w15 6 ?_
 obtain ⟨w16,s16⟩:=w15.nilS (af eI eI).z (by decide)
 obtain ⟨w17,s17⟩:=w16.nilS (af eI eI).z (by decide)
 obtain ⟨w18,s18⟩:=w17.pp [1,0,7,6,4,2] 9
 exact cG.l61_P F rfl rfl rfl rfl rfl ⟨w18,(s0.trans (s1.trans (s2.trans (s3.trans (s7.trans (s8.trans (s12.trans (s13.trans (s14.trans (s15.trans (s16.trans (s17.trans s18)))))))))))),((CR.empty:CR (af eI eI) _ _ [] []).step (s17.trans s18)),((CR.empty:CR (af eI eI) _ _ [] []).step s18),((CR.flat (abZ (nz .i64) (nz .i64)) f6_0).step (s8.trans (s12.trans (s13.trans (s14.trans (s15.trans (s16.trans (s17.trans s18)))))))),((CR.flat (abZ (nz .i64) (nz .i64)) f11_0).step (s13.trans (s14.trans (s15.trans (s16.trans (s17.trans s18)))))),(bK.step (s1.trans (s2.trans (s3.trans (s7.trans (s8.trans (s12.trans (s13.trans (s14.trans (s15.trans (s16.trans (s17.trans s18))))))))))))⟩ hp
def hG.Q (H0:Hp) (Ri R0:am5)  (r:anA) (v:AV) (H':Hp):Prop:=v=(.agg [(.i r.1),(.i r.2)])/\Out H0 Ri H' (R0) λR=>True
def hG.p (F:Nat) (ai:anh) (jH:ans) (jY:ans) (ch:Int) (dt:Int):Option (Int×Int):=(ix ai ch).bind λn5=>(jd.p F ((gt ai n5).1) ((gt ai n5).2.1) ((gt ai n5).2.2.1) ((gt ai n5).2.2.2.1)).bind λr12=>(if 0<=dt/\dt<(4:Int) then ((je.p F ((gt ai n5).2.2.2.2) dt).bind λr16=>(bif r16 then ((ix jH (gt ([r12.1,r12.2.1,r12.2.2.1,r12.2.2.2]:List Int) (dt:Int).toNat)).bind λn18=>some (((gt jH n18).1),((gt jH n18).2))) else ((ix jY (gt ([r12.1,r12.2.1,r12.2.2.1,r12.2.2.2]:List Int) (dt:Int).toNat)).bind λn22=>some (((gt jY n22).1),((gt jY n22).2))))) else none)
theorem hG.P {aS rG rH aC oE oF aT rI rJ ai ac ch dt jH jY} (b_:aC=ai.length) (wZ:oE=jH.length) (w_:oF=jY.length) (h0:Inn H R0 λR=>ROs (af eI (af eI (af eI (af eI eI)))) H R ⟨aS,aC,aT⟩ ai/\ROs (af eI eI) H R ⟨rG,oE,rI⟩ jH/\ROs (af eI eI) H R ⟨rH,oF,rJ⟩ jY) {r:anA} (hp:hG.p F ai jH jY ch dt=some r):Rt (hG.tw F ⟨aS,aC,aT⟩ ac ⟨rG,oE,rI⟩ ⟨rH,oF,rJ⟩ ch dt H) (hG.Q H R0 R0  r):=by
 obtain ⟨w0,bK,xa,xb⟩:=h0
 subst b_
 subst wZ
 subst w_
 unfold hG.p at hp
 unfold hG.tw hG.twX
 have s0:=w0.rf
 refine bm w0 λH1 w1 s1=>?_
 refine bm w1 λH2 w2 s2=>?_
 refine bm w2 λH3 w3 s3=>?_
 refine bm w3 λH4 w4 s4=>?_
 refine lSl w4 3 ?_
 refine lI w4 1 ?_
 obtain ⟨n5,g5,hp⟩:=ag hp
 obtain ⟨p5,q5,i5,h5,j5⟩:=ROs.ixr (bK.step (s1.trans (s2.trans (s3.trans s4)))) rfl g5
 refine ak i5 ?_
 obtain ⟨_,_,rfl,rfl,_,_,rfl,rfl,_,_,rfl,rfl,_,_,rfl,rfl,rfl⟩:=h5
 refine ak (bk (j5 0 _ rfl)) ?_
 refine ak (bk (j5 1 _ rfl)) ?_
 refine ak (bk (j5 2 _ rfl)) ?_
 refine ak (bk (j5 3 _ rfl)) ?_
 refine ak (bk (j5 4 _ rfl)) ?_
 refine bm w4 λH6 w6 s6=>?_
 refine aE w6 0 λH7 w7 s7=>?_
 refine aE w7 0 λH8 w8 s8=>?_
 refine aE w8 0 λH9 w9 s9=>?_
 refine aE w9 0 λH10 w10 s10=>?_
 refine aE w10 0 λH11 w11 s11=>?_
 refine lI w11 0 ?_
 refine lI w11 0 ?_
 refine lI w11 0 ?_
 refine lI w11 0 ?_
 refine lI w11 0 ?_
 obtain ⟨r12,e12,hp⟩:=ag hp
 refine aI (jd.P ⟨w11,trivial⟩ e12) ?_
 rintro _ H13 ⟨rfl,w13,s13,_⟩
 refine br (br (br (br (br (br (br (br (br ?_))))))))
 refine fg (W.cons_of (Rn:=[]) w11 w13 s13) ?_
 refine lI w13 2 ?_
 obtain ⟨g15,hp⟩:=lH hp
 refine fg g15 ?_
 refine ak (a:=AV.int .i64 (gt ([r12.1,r12.2.1,r12.2.2.1,r12.2.2.2]:List Int) (dt:Int).toNat)) (by rw [Nat.mul_one];exact abY (k:=.i64) (l:=[r12.1,r12.2.1,r12.2.2.1,r12.2.2.2]) rfl (by have:=g15;simp only [List.length_cons,List.length_nil];omega)) ?_
 refine br ?_
 refine lI w13 0 ?_
 refine lI w13 0 ?_
 refine lI w13 0 ?_
 refine lI w13 0 ?_
 refine lI w13 0 ?_
 refine lI w13 2 ?_
 obtain ⟨r16,e16,hp⟩:=ag hp
 refine aI (je.P ⟨w13,trivial⟩ e16) ?_
 rintro _ H17 ⟨rfl,w17,s17,_⟩
 refine br ?_
 refine aG hp (λhp=>?_) λhp=>?_
 ·refine lSl w17 3 ?_
  obtain ⟨n18,g18,hp⟩:=ag hp
  obtain ⟨p18,q18,i18,h18,j18⟩:=ROs.ixr (xa.step (s1.trans (s2.trans (s3.trans (s4.trans (s6.trans (s7.trans (s8.trans (s9.trans (s10.trans (s11.trans (s13.trans s17)))))))))))) rfl g18
  refine ak i18 ?_
  obtain ⟨_,_,rfl,rfl,rfl⟩:=h18
  refine ak (bk (j18 0 _ rfl)) ?_
  refine ak (bk (j18 1 _ rfl)) ?_
  refine aE w17 1 λH19 w19 s19=>?_
  refine aE w19 1 λH20 w20 s20=>?_
  refine lI w20 1 ?_
  refine lI w20 1 ?_
  obtain ⟨w21,s21⟩:=w20.pp [] 5
  exact aD hp ⟨rfl,w21,(s0.trans (s1.trans (s2.trans (s3.trans (s4.trans (s6.trans (s7.trans (s8.trans (s9.trans (s10.trans (s11.trans (s13.trans (s17.trans (s19.trans (s20.trans s21))))))))))))))),trivial⟩
 ·refine lSl w17 3 ?_
  obtain ⟨n22,g22,hp⟩:=ag hp
  obtain ⟨p22,q22,i22,h22,j22⟩:=ROs.ixr (xb.step (s1.trans (s2.trans (s3.trans (s4.trans (s6.trans (s7.trans (s8.trans (s9.trans (s10.trans (s11.trans (s13.trans s17)))))))))))) rfl g22
  refine ak i22 ?_
  obtain ⟨_,_,rfl,rfl,rfl⟩:=h22
  refine ak (bk (j22 0 _ rfl)) ?_
  refine ak (bk (j22 1 _ rfl)) ?_
  refine aE w17 1 λH23 w23 s23=>?_
  refine aE w23 1 λH24 w24 s24=>?_
  refine lI w24 1 ?_
  refine lI w24 1 ?_
  obtain ⟨w25,s25⟩:=w24.pp [] 5
  exact aD hp ⟨rfl,w25,(s0.trans (s1.trans (s2.trans (s3.trans (s4.trans (s6.trans (s7.trans (s8.trans (s9.trans (s10.trans (s11.trans (s13.trans (s17.trans (s23.trans (s24.trans s25))))))))))))))),trivial⟩
def bH.Q (H0:Hp) (Ri R0:am5)  (r:anp) (v:AV) (H':Hp):Prop:=∃ o0a:ON,∃ o0n:Nat,∃ o0c:Cap,∃ o0k:List AV,v=(.sl ⟨o0a,o0n,o0c⟩)/\o0n=(r).length/\Out H0 Ri H' (Rs.own ⟨o0a,o0n,o0c⟩ (eSl eI).z o0k::R0) λR=>CR (eSl eI) H' R o0k (r)
def bH.S61 (H0:Hp) (Ri R0:am5)  (C:anD) (pC:anH):Prop:=∀ {Qh Qi Qj Qk Ql Ir vA Is It vB Iu Iv Qm Qn Qo Qp Qq Bw Zq qR pE Bx By xc Qr Qs Bz},∀ {H:Hp},Ir=Bw.length->Is=Bx.length->It=By.length->Iu=xc.length->Iv=Bz.length->(Out H0 Ri H (Rs.blk vA [.sl ⟨Qh,Ir,Qm⟩,.i Zq]::Rs.blk vB [.sl ⟨Qi,Is,Qn⟩,.sl ⟨Qj,It,Qo⟩]::Rs.own ⟨Qk,Iu,Qp⟩ (eSl eI).z Qr::Rs.own ⟨Ql,Iv,Qq⟩ fD.z Qs::R0) λR=>ROs (af eI (af eI (af eI (af eI eI)))) H R ⟨Qh,Ir,Qm⟩ Bw/\ROs (af eI eI) H R ⟨Qi,Is,Qn⟩ Bx/\ROs (af eI eI) H R ⟨Qj,It,Qo⟩ By/\CR (eSl eI) H R Qr xc/\CR fD H R Qs Bz)->∀ {r:anp},pC Bw Bx By xc Bz qR pE=some r->Rt (C vA 0 vB 0 ⟨Qk,Iu,Qp⟩ ⟨Ql,Iv,Qq⟩ qR pE H) (bH.Q H0 Ri R0  r)
def bH.S15725 (H0:Hp) (Ri R0:am5)  (C:Nat->Nat->Nat->Nat->Sl->Sl->Int->Int->Sl->Int->Hp->OA) (pC:List (Int×Int×Int×Int×Int)->List (Int×Int)->List (Int×Int)->List (List Int)->List Bool->Int->Int->List Int->Int->Option (List (List Int))):Prop:=∀ {Qt Qu Qv Qw Qx Qy Iw rY Ix Iy rZ Iz IA IB Qz QA QB QC QD QE uL Zr qP qQ mc uM uN xd QF QG QH sk xe},∀ {H:Hp},Iw=uL.length->Ix=uM.length->Iy=uN.length->Iz=xd.length->IA=sk.length->IB=xe.length->(Out H0 Ri H (Rs.blk rY [.sl ⟨Qt,Iw,Qz⟩,.i Zr]::Rs.blk rZ [.sl ⟨Qu,Ix,QA⟩,.sl ⟨Qv,Iy,QB⟩]::Rs.own ⟨Qw,Iz,QC⟩ (eSl eI).z QF::Rs.own ⟨Qx,IA,QD⟩ fD.z QG::Rs.own ⟨Qy,IB,QE⟩ eI.z QH::R0) λR=>ROs (af eI (af eI (af eI (af eI eI)))) H R ⟨Qt,Iw,Qz⟩ uL/\ROs (af eI eI) H R ⟨Qu,Ix,QA⟩ uM/\ROs (af eI eI) H R ⟨Qv,Iy,QB⟩ uN/\CR (eSl eI) H R QF xd/\CR fD H R QG sk/\CR eI H R QH xe)->∀ {r:anp},pC uL uM uN xd sk qP qQ xe mc=some r->Rt (C rY 0 rZ 0 ⟨Qw,Iz,QC⟩ ⟨Qx,IA,QD⟩ qP qQ ⟨Qy,IB,QE⟩ mc H) (bH.Q H0 Ri R0  r)
def bH.pj4 (F:Nat) (bS:anH) (DK:anh) (DL:ans) (DM:ans) (DN:anp) (DO:an5) (zg:Int) (zh:Int):Option (List (List Int)):=bS DK DL DM DN DO zg (wrap .i64 (zh+1))
theorem bH.j4_P  {C61_:anD} {bS:anH} (hC61:bH.S61 H0 Ri R0  C61_ bS) {Zs Zt Zu Zv Zw QI Fu QJ QK Fv QL QM Zx Zy Zz ZA ZB DK aiG zg zh DL DM DN ZC ZD DO} (aiH:QI=DK.length) (aiI:QJ=DL.length) (aiJ:QK=DM.length) (aiK:QL=DN.length) (aiL:QM=DO.length) (h0:Out H0 Ri H (Rs.blk Fu [.sl ⟨Zs,QI,Zx⟩,.i aiG]::Rs.blk Fv [.sl ⟨Zt,QJ,Zy⟩,.sl ⟨Zu,QK,Zz⟩]::Rs.own ⟨Zv,QL,ZA⟩ (eSl eI).z ZC::Rs.own ⟨Zw,QM,ZB⟩ fD.z ZD::R0) λR=>ROs (af eI (af eI (af eI (af eI eI)))) H R ⟨Zs,QI,Zx⟩ DK/\ROs (af eI eI) H R ⟨Zt,QJ,Zy⟩ DL/\ROs (af eI eI) H R ⟨Zu,QK,Zz⟩ DM/\CR (eSl eI) H R ZC DN/\CR fD H R ZD DO) {r:anp} (hp:bH.pj4 F bS DK DL DM DN DO zg zh=some r):Rt (bH.j4 F (hG.tw F) C61_ Fu 0 Fv 0 ⟨Zv,QL,ZA⟩ ⟨Zw,QM,ZB⟩ zg zh H) (bH.Q H0 Ri R0  r):=by
 obtain ⟨w0,s0,aiM,aiN,aiO,aiP,aiQ⟩:=h0
 subst aiH
 subst aiI
 subst aiJ
 subst aiK
 subst aiL
 unfold bH.pj4 at hp
 unfold bH.j4
 exact hC61 rfl rfl rfl rfl rfl ⟨w0,s0,aiM,aiN,aiO,aiP,aiQ⟩ hp
def bH.pj5 (F:Nat) (bS:anH) (DP:anh) (DQ:ans) (DR:ans) (DS:anp) (DT:an5) (zi:Int) (zj:Int):Option (List (List Int)):=bH.pj4 F bS DP DQ DR DS DT zi zj
theorem bH.j5_P  {C61_:anD} {bS:anH} (hC61:bH.S61 H0 Ri R0  C61_ bS) {ZE ZF ZG ZH ZI QN Fw QO QP xW QQ QR ZJ ZK ZL ZM ZN DP aiR zi zj DQ DR DS ZO ZP DT} (aiS:QN=DP.length) (aiT:QO=DQ.length) (aiU:QP=DR.length) (aiV:QQ=DS.length) (aiW:QR=DT.length) (h0:Out H0 Ri H (Rs.blk Fw [.sl ⟨ZE,QN,ZJ⟩,.i aiR]::Rs.blk xW [.sl ⟨ZF,QO,ZK⟩,.sl ⟨ZG,QP,ZL⟩]::Rs.own ⟨ZH,QQ,ZM⟩ (eSl eI).z ZO::Rs.own ⟨ZI,QR,ZN⟩ fD.z ZP::R0) λR=>ROs (af eI (af eI (af eI (af eI eI)))) H R ⟨ZE,QN,ZJ⟩ DP/\ROs (af eI eI) H R ⟨ZF,QO,ZK⟩ DQ/\ROs (af eI eI) H R ⟨ZG,QP,ZL⟩ DR/\CR (eSl eI) H R ZO DS/\CR fD H R ZP DT) {r:anp} (hp:bH.pj5 F bS DP DQ DR DS DT zi zj=some r):Rt (bH.j5 F (hG.tw F) C61_ Fw 0 xW 0 ⟨ZH,QQ,ZM⟩ ⟨ZI,QR,ZN⟩ zi zj H) (bH.Q H0 Ri R0  r):=by
 obtain ⟨w0,s0,aiX,aiY,aiZ,ai0,ai1⟩:=h0
 subst aiS
 subst aiT
 subst aiU
 subst aiV
 subst aiW
 unfold bH.pj5 at hp
 unfold bH.j5
 exact bH.j4_P (@hC61) rfl rfl rfl rfl rfl ⟨w0,s0,aiX,aiY,aiZ,ai0,ai1⟩ hp
def bH.pj6 (F:Nat) (bS:anH) (BA:anh) (BB:ans) (BC:ans) (BD:anp) (BE:an5) (uO:am3) (tZ:Int) (t_:Int):Option (List (List Int)):=(bif (decide ((uO.length:Int)>0)) then ((apn BD ([uO]:List (List Int))).bind λl3=>bH.pj5 F bS BA BB BC l3 BE tZ t_) else (bH.pj5 F bS BA BB BC BD BE tZ t_))
theorem bH.j6_P  {C61_:anD} {bS:anH} (hC61:bH.S61 H0 Ri R0  C61_ bS) {ZQ ZR ZS ZT ZU ZV QT Cq QU QV Ct QW QX QY ZW ZX ZY ZZ Z_ aaa BA ai2 tZ t_ BB BC BD aab aac aad BE uO} (ai3:QT=BA.length) (ai4:QU=BB.length) (ai5:QV=BC.length) (ai6:QW=BD.length) (ai7:QX=BE.length) (ai8:QY=uO.length) (h0:Out H0 Ri H (Rs.blk Cq [.sl ⟨ZQ,QT,ZW⟩,.i ai2]::Rs.blk Ct [.sl ⟨ZR,QU,ZX⟩,.sl ⟨ZS,QV,ZY⟩]::Rs.own ⟨ZT,QW,ZZ⟩ (eSl eI).z aab::Rs.own ⟨ZU,QX,Z_⟩ fD.z aac::Rs.own ⟨ZV,QY,aaa⟩ eI.z aad::R0) λR=>ROs (af eI (af eI (af eI (af eI eI)))) H R ⟨ZQ,QT,ZW⟩ BA/\ROs (af eI eI) H R ⟨ZR,QU,ZX⟩ BB/\ROs (af eI eI) H R ⟨ZS,QV,ZY⟩ BC/\CR (eSl eI) H R aab BD/\CR fD H R aac BE/\CR eI H R aad uO) {r:anp} (hp:bH.pj6 F bS BA BB BC BD BE uO tZ t_=some r):Rt (bH.j6 F (hG.tw F) C61_ Cq 0 Ct 0 ⟨ZT,QW,ZZ⟩ ⟨ZU,QX,Z_⟩ ⟨ZV,QY,aaa⟩ tZ t_ H) (bH.Q H0 Ri R0  r):=by
 obtain ⟨w0,s0,aae,aaf,aag,aah,aai,ai9⟩:=h0
 subst ai3
 subst ai4
 subst ai5
 subst ai6
 subst ai7
 subst ai8
 unfold bH.pj6 at hp
 unfold bH.j6
 refine aG hp (λhp=>?_) λhp=>?_
 ·obtain ⟨w1,s1,f1⟩:=w0.frz (i:=4) eI rfl ai9
  refine jJ (eSl eI) w1 (n:=1) (l:=([uO]:List (List Int))) rfl (CR.cons1 ⟨_,rfl,f1⟩ CR.empty) rfl λH2 w2 s2 c2=>?_
  refine ak (w2.rowo (i:=0) rfl) ?_
  obtain ⟨l3,e3,hp⟩:=ag hp
  refine pe (eSl eI) w2 (i:=3) rfl rfl (aah.step (s1.trans s2)) c2 (show 1=List.length ([uO]:List (List Int)) from rfl) rfl e3 λa4 d4 H4 w4 s4 c4 x4=>?_
  obtain ⟨w5,s5⟩:=w4.pp [1,2,3,4] 5
  exact bH.j5_P (@hC61) rfl rfl rfl rfl rfl ⟨w5,(s0.trans (s1.trans (s2.trans (s4.trans s5)))),(aae.step (s1.trans (s2.trans (s4.trans s5)))),(aaf.step (s1.trans (s2.trans (s4.trans s5)))),(aag.step (s1.trans (s2.trans (s4.trans s5)))),(c4.step s5),(aai.step (s1.trans (s2.trans (s4.trans s5))))⟩ hp
 ·obtain ⟨w6,s6⟩:=w0.pp [0,1,2,3] 5
  exact bH.j5_P (@hC61) rfl rfl rfl rfl rfl ⟨w6,(s0.trans s6),(aae.step s6),(aaf.step s6),(aag.step s6),(aah.step s6),(aai.step s6)⟩ hp
def bH.pl15725 (F:Nat) (bS:anH):Nat->List (Int×Int×Int×Int×Int)->List (Int×Int)->List (Int×Int)->List (List Int)->List Bool->Int->Int->List Int->Int->Option (List (List Int))
 | 0,_,_,_,_,_,_,_,_,_=>none
 | k+1,uL,uM,uN,xd,sk,qP,qQ,xe,mc=>(ix sk mc).bind λn1=>(bif (!(gt sk n1)) then ((ix sk mc).bind λn2=>(some (sk.set n2 true)).bind λl3=>(apn xe ([mc]:List Int)).bind λl6=>(hG.p F uL uM uN (wrap .i64 (Int.tdiv mc 4)) (Int.tmod (wrap .i64 (mc+1)) 4)).bind λr8=>bH.pl15725 F bS k uL uM uN xd l3 qP qQ l6 (wrap .i64 ((wrap .i64 (4 * r8.1))+r8.2))) else (bH.pj6 F bS uL uM uN xd sk xe qP qQ))
theorem bH.l15725_P  {C61_:anD} {bS:anH} (hC61:bH.S61 H0 Ri R0  C61_ bS):∀ k,bH.S15725 H0 Ri R0  (bH.l15725 F (hG.tw F) C61_ k) (bH.pl15725 F bS k):=by
 intro k
 induction k with
 | zero=>unfold bH.S15725;intros;rename_i hp;cases hp
 | succ k ih=>
  intro Qt Qu Qv Qw Qx Qy Iw rY Ix Iy rZ Iz IA IB Qz QA QB QC QD QE uL Zr qP qQ mc uM uN xd QF QG QH sk xe H ai_ aja ajb ajc ajd aje h0 r hp
  obtain ⟨w0,s0,QZ,Q_,Ra,aaj,IC,aak⟩:=h0
  subst ai_
  subst aja
  subst ajb
  subst ajc
  subst ajd
  subst aje
  unfold bH.pl15725 at hp
  unfold bH.l15725
  obtain ⟨n1,g1,hp⟩:=ag hp
  obtain ⟨p1,q1,i1,h1,j1⟩:=W.ixo (E:=fD) w0 (i:=3) rfl rfl IC g1
  refine ak i1 ?_
  have h1:_=[_]:=h1
  subst h1
  refine ak (BT (j1 0 _ rfl)) ?_
  refine aG hp (λhp=>?_) λhp=>?_
  ·obtain ⟨n2,g2,hp⟩:=ag hp
   obtain ⟨p2,q2,i2,h2,j2⟩:=W.ixo (E:=fD) w0 (i:=3) rfl rfl IC g2
   refine ak i2 ?_
   obtain ⟨l3,e3,hp⟩:=ag hp
   refine fc fD w0 (i:=3) (j:=0) (p:=p2) rfl rfl IC g2 i2 e3 rfl rfl (λ_ h=>by have h:_=[_]:=h;subst h;exact rfl) λH4 k4 w4 s4 c4=>?_
   refine jJ eI w4 (n:=1) (l:=([mc]:List Int)) rfl (CR.cons1 rfl CR.empty) rfl λH5 w5 s5 c5=>?_
   refine ak (w5.rowo (i:=0) rfl) ?_
   obtain ⟨l6,e6,hp⟩:=ag hp
   refine pe eI w5 (i:=5) rfl rfl (aak.step (s4.trans s5)) c5 (show 1=List.length ([mc]:List Int) from rfl) rfl e6 λa7 d7 H7 w7 s7 c7 x7=>?_
   refine lSl w7 1 ?_
   refine lI w7 1 ?_
   refine lSl w7 2 ?_
   refine lSl w7 2 ?_
   obtain ⟨r8,e8,hp⟩:=ag hp
   refine aI (hG.P rfl rfl rfl ⟨w7,(QZ.step (s4.trans (s5.trans s7))),(Q_.step (s4.trans (s5.trans s7))),(Ra.step (s4.trans (s5.trans s7)))⟩ e8) ?_
   rintro _ H9 ⟨rfl,w9,s9,_⟩
   refine br (br (br (br (br ?_))))
   refine bm w9 λH10 w10 s10=>?_
   refine aE w10 0 λH11 w11 s11=>?_
   refine aE w11 0 λH12 w12 s12=>?_
   refine lI w12 0 ?_
   refine lI w12 0 ?_
   obtain ⟨w13,s13⟩:=w12.pp [2,3,4,5,6] 7
   exact ih rfl rfl rfl rfl ((dl e3).symm) rfl ⟨w13,(s0.trans (s4.trans (s5.trans (s7.trans (s9.trans (s10.trans (s11.trans (s12.trans s13)))))))),(QZ.step (s4.trans (s5.trans (s7.trans (s9.trans (s10.trans (s11.trans (s12.trans s13)))))))),(Q_.step (s4.trans (s5.trans (s7.trans (s9.trans (s10.trans (s11.trans (s12.trans s13)))))))),(Ra.step (s4.trans (s5.trans (s7.trans (s9.trans (s10.trans (s11.trans (s12.trans s13)))))))),(aaj.step (s4.trans (s5.trans (s7.trans (s9.trans (s10.trans (s11.trans (s12.trans s13)))))))),(c4.step (s5.trans (s7.trans (s9.trans (s10.trans (s11.trans (s12.trans s13))))))),(c7.step (s9.trans (s10.trans (s11.trans (s12.trans s13)))))⟩ hp
  ·exact bH.j6_P (@hC61) rfl rfl rfl rfl rfl rfl ⟨w0,s0,QZ,Q_,Ra,aaj,IC,aak⟩ hp
def bH.pl61 (F:Nat) :Nat->List (Int×Int×Int×Int×Int)->List (Int×Int)->List (Int×Int)->List (List Int)->List Bool->Int->Int->Option (List (List Int))
 | 0,_,_,_,_,_,_,_=>none
 | k+1,Bw,Bx,By,xc,Bz,qR,pE=>(bif (decide (pE<qR)) then (bH.pl15725 F (bH.pl61 F k) F Bw Bx By xc Bz qR pE ([]:List Int) pE) else (some xc))
theorem bH.l61_P  :∀ k,bH.S61 H0 Ri R0  (bH.l61 F (hG.tw F)  k) (bH.pl61 F  k):=by
 intro k
 induction k with
 | zero=>unfold bH.S61;intros;rename_i hp;cases hp
 | succ k ih=>
  intro Qh Qi Qj Qk Ql Ir vA Is It vB Iu Iv Qm Qn Qo Qp Qq Bw Zq qR pE Bx By xc Qr Qs Bz H ajf ajg ajh aji ajj h0 r hp
  obtain ⟨w0,s0,ajk,ajl,ajm,aal,ajn⟩:=h0
  subst ajf
  subst ajg
  subst ajh
  subst aji
  subst ajj
  unfold bH.pl61 at hp
  unfold bH.l61
  refine aG hp (λhp=>?_) λhp=>?_
  ·obtain ⟨w1,s1⟩:=w0.nilS eI.z (by decide)
   obtain ⟨w2,s2⟩:=w1.pp [1,2,3,4,0] 5
   exact bH.l15725_P (@ih) F rfl rfl rfl rfl rfl rfl ⟨w2,(s0.trans (s1.trans s2)),(ajk.step (s1.trans s2)),(ajl.step (s1.trans s2)),(ajm.step (s1.trans s2)),(aal.step (s1.trans s2)),(ajn.step (s1.trans s2)),((CR.empty:CR eI _ _ [] []).step s2)⟩ hp
  ·obtain ⟨w3,s3⟩:=w0.pp [2] 4
   exact aD hp ⟨_,_,_,_,rfl,rfl,w3,(s0.trans s3),(aal.step s3)⟩
def bH.p (F:Nat) (ai:anh) (jH:ans) (jY:ans):Option (List (List Int)):=(mkn (wrap .i64 (4 * (ai.length:Int))) false).bind λl3=>bH.pl61 F F ai jH jY ([]:List (List Int)) l3 (l3.length:Int) 0
theorem bH.P {aS rG rH aC oE oF aT rI rJ ai ac jH jY} (b_:aC=ai.length) (wZ:oE=jH.length) (w_:oF=jY.length) (h0:Inn H R0 λR=>ROs (af eI (af eI (af eI (af eI eI)))) H R ⟨aS,aC,aT⟩ ai/\ROs (af eI eI) H R ⟨rG,oE,rI⟩ jH/\ROs (af eI eI) H R ⟨rH,oF,rJ⟩ jY) {r:anp} (hp:bH.p F ai jH jY=some r):Rt (bH.tw F ⟨aS,aC,aT⟩ ac ⟨rG,oE,rI⟩ ⟨rH,oF,rJ⟩ H) (bH.Q H R0 R0  r):=by
 obtain ⟨w0,bK,xa,xb⟩:=h0
 subst b_
 subst wZ
 subst w_
 unfold bH.p at hp
 unfold bH.tw bH.twX
 have s0:=w0.rf
 refine bm w0 λH1 w1 s1=>?_
 refine bm w1 λH2 w2 s2=>?_
 refine lSl w2 1 ?_
 obtain ⟨l3,e3,hp⟩:=ag hp
 refine uY fD false w2 rfl rfl rfl e3 λH4 k4 w4 s4 c4=>?_
 obtain ⟨w5,s5⟩:=w4.nilS (eSl eI).z (by decide)
 obtain ⟨w6,s6⟩:=w5.pp [3,2,0,1] 4
 exact bH.l61_P F rfl rfl rfl rfl rfl ⟨w6,(s0.trans (s1.trans (s2.trans (s4.trans (s5.trans s6))))),(bK.step (s1.trans (s2.trans (s4.trans (s5.trans s6))))),(xa.step (s1.trans (s2.trans (s4.trans (s5.trans s6))))),(xb.step (s1.trans (s2.trans (s4.trans (s5.trans s6))))),((CR.empty:CR (eSl eI) _ _ [] []).step s6),(c4.step (s5.trans s6))⟩ hp
def md.Q (H0:Hp) (Ri R0:am5)  (r:Int) (v:AV) (H':Hp):Prop:=v=(.i r)/\Out H0 Ri H' (R0) λR=>True
def md.p (F:Nat) (ai:anp):Option (Int):=some (ai.length:Int)
theorem md.P {aS aC aT ai} (b_:aC=ai.length) (h0:Inn H R0 λR=>ROs (eSl eI) H R ⟨aS,aC,aT⟩ ai) {r:Int} (hp:md.p F ai=some r):Rt (md.tw F ⟨aS,aC,aT⟩ H) (md.Q H R0 R0  r):=by
 obtain ⟨w0,bK⟩:=h0
 subst b_
 unfold md.p at hp
 unfold md.tw md.twX
 have s0:=w0.rf
 exact aD hp ⟨rfl,w0,s0,trivial⟩
def eE.Q (H0:Hp) (Ri R0:am5)  (r:am3) (v:AV) (H':Hp):Prop:=∃ o0a:ON,∃ o0n:Nat,∃ o0c:Cap,∃ o0k:List AV,v=(.sl ⟨o0a,o0n,o0c⟩)/\o0n=(r).length/\Out H0 Ri H' (Rs.own ⟨o0a,o0n,o0c⟩ eI.z o0k::R0) λR=>CR eI H' R o0k (r)
def eE.S29 (H0:Hp) (Ri R0:am5)  (C:ani) (pC:aol):Prop:=∀ {Rc ID Rd xf Re qS nZ},∀ {H:Hp},ID=xf.length->(Out H0 Ri H (Rs.own ⟨Rc,ID,Rd⟩ eI.z Re::R0) λR=>CR eI H R Re xf)->∀ {r:am3},pC xf qS nZ=some r->Rt (C ⟨Rc,ID,Rd⟩ qS nZ H) (eE.Q H0 Ri R0  r)
def eE.pl29 (F:Nat) :Nat->List Int->Int->Int->Option (List Int)
 | 0,_,_,_=>none
 | k+1,xf,qS,nZ=>(bif (decide (nZ<qS)) then ((apn xf ([nZ]:List Int)).bind λl2=>eE.pl29 F k l2 qS (wrap .i64 (nZ+1))) else (some xf))
theorem eE.l29_P  :∀ k,eE.S29 H0 Ri R0  (eE.l29 F   k) (eE.pl29 F  k):=by
 intro k
 induction k with
 | zero=>unfold eE.S29;intros;rename_i hp;cases hp
 | succ k ih=>
  intro Rc ID Rd xf Re qS nZ H ajo h0 r hp
  obtain ⟨w0,s0,aam⟩:=h0
  subst ajo
  unfold eE.pl29 at hp
  unfold eE.l29
  refine aG hp (λhp=>?_) λhp=>?_
  ·refine jJ eI w0 (n:=1) (l:=([nZ]:List Int)) rfl (CR.cons1 rfl CR.empty) rfl λH1 w1 s1 c1=>?_
   refine ak (w1.rowo (i:=0) rfl) ?_
   obtain ⟨l2,e2,hp⟩:=ag hp
   refine pe eI w1 (i:=1) rfl rfl (aam.step s1) c1 (show 1=List.length ([nZ]:List Int) from rfl) rfl e2 λa3 d3 H3 w3 s3 c3 x3=>?_
   obtain ⟨w4,s4⟩:=w3.pp [1] 2
   exact ih rfl ⟨w4,(s0.trans (s1.trans (s3.trans s4))),(c3.step s4)⟩ hp
  ·exact aD hp ⟨_,_,_,_,rfl,rfl,w0,s0,aam⟩
def eE.p (F:Nat) (aa:Int):Option (List Int):=eE.pl29 F F ([]:List Int) aa 0
theorem eE.P {aa}  (h0:Inn H R0 λR=>True) {r:am3} (hp:eE.p F aa=some r):Rt (eE.tw F aa H) (eE.Q H R0 R0  r):=by
 obtain ⟨w0,_⟩:=h0
 unfold eE.p at hp
 unfold eE.tw eE.twX
 have s0:=w0.rf
 obtain ⟨w1,s1⟩:=w0.nilS eI.z (by decide)
 exact eE.l29_P F rfl ⟨w1,(s0.trans s1),(CR.empty:CR eI _ _ [] [])⟩ hp
def da.Q (H0:Hp) (Ri R0:am5) (aS:ON) (aC:Nat) (aT:Cap) (iZ:Bool) (i_ ja:anb) (r:am3) (v:AV) (H':Hp):Prop:=∃ rK:List AV,v=(.tup [])/\aC=(r).length/\Out H0 Ri H' (Rs.ow iZ ⟨aS,aC,aT⟩ eI.z i_ rK ja::R0) λR=>CR eI H' R rK (r)
def da.S7 (H0:Hp) (Ri R0:am5) (kf:ON) (jk:Nat) (kg:Cap) (mV:Bool) (mW mX:anb) (C:aor) (pC:aoC):Prop:=∀ {kS Rf pF pG pH nk},∀ {H:Hp},jk=kS.length->(Out H0 Ri H (Rs.ow mV ⟨kf,jk,kg⟩ eI.z mW Rf mX::R0) λR=>CR eI H R Rf kS)->∀ {r:am3},pC kS pF pG pH nk=some r->Rt (C ⟨kf,jk,kg⟩ pF pG ⟨kf,jk,kg⟩ pH nk H) (da.Q H0 Ri R0 kf jk kg mV mW mX r)
def da.pj2 (F:Nat) (IE:aoC) (DU:am3) (zo:Int) (zp:Int) (zq:Int) (zr:Int):Option (List Int):=IE DU zo zp zq (wrap .i64 (zr+1))
theorem da.j2_P {kf jk kg mV mW mX} {C7_:aor} {IE:aoC} (hC7:da.S7 H0 Ri R0 kf jk kg mV mW mX C7_ IE) {DU aan zo zp zq zr} (ajp:jk=DU.length) (h0:Out H0 Ri H (Rs.ow mV ⟨kf,jk,kg⟩ eI.z mW aan mX::R0) λR=>CR eI H R aan DU) {r:am3} (hp:da.pj2 F IE DU zo zp zq zr=some r):Rt (da.j2 F  C7_ ⟨kf,jk,kg⟩ zo zp ⟨kf,jk,kg⟩ zq zr H) (da.Q H0 Ri R0 kf jk kg mV mW mX r):=by
 obtain ⟨w0,s0,ajq⟩:=h0
 subst ajp
 unfold da.pj2 at hp
 unfold da.j2
 exact hC7 rfl ⟨w0,s0,ajq⟩ hp
def da.pl7 (F:Nat) :Nat->List Int->Int->Int->Int->Int->Option (List Int)
 | 0,_,_,_,_,_=>none
 | k+1,kS,pF,pG,pH,nk=>(bif (decide (nk<pH)) then ((ix kS nk).bind λn1=>(bif ((gt kS n1)==pF) then ((ix kS nk).bind λn2=>(some (kS.set n2 pG)).bind λl3=>da.pj2 F (da.pl7 F k) l3 pF pG pH nk) else (da.pj2 F (da.pl7 F k) kS pF pG pH nk))) else (some kS))
theorem da.l7_P {kf jk kg mV mW mX} :∀ k,da.S7 H0 Ri R0 kf jk kg mV mW mX (da.l7 F   k) (da.pl7 F  k):=by
 intro k
 induction k with
 | zero=>unfold da.S7;intros;rename_i hp;cases hp
 | succ k ih=>
  intro kS Rf pF pG pH nk H Rh h0 r hp
  obtain ⟨w0,s0,uP⟩:=h0
  subst Rh
  unfold da.pl7 at hp
  unfold da.l7
  refine aG hp (λhp=>?_) λhp=>?_
  ·obtain ⟨n1,g1,hp⟩:=ag hp
   obtain ⟨p1,q1,i1,h1,j1⟩:=W.ixo (E:=eI) w0 (i:=0) rfl rfl uP g1
   refine ak i1 ?_
   have h1:_=[_]:=h1
   subst h1
   refine ak (bk (j1 0 _ rfl)) ?_
   refine aG hp (λhp=>?_) λhp=>?_
   ·obtain ⟨n2,g2,hp⟩:=ag hp
    obtain ⟨p2,q2,i2,h2,j2⟩:=W.ixo (E:=eI) w0 (i:=0) rfl rfl uP g2
    refine ak i2 ?_
    obtain ⟨l3,e3,hp⟩:=ag hp
    refine fc eI w0 (i:=0) (j:=0) (p:=p2) rfl rfl uP g2 i2 e3 rfl rfl (λ_ h=>by have h:_=[_]:=h;subst h;exact rfl) λH4 k4 w4 s4 c4=>?_
    exact da.j2_P (@ih) ((dl e3).symm) ⟨w4,(s0.trans s4),c4⟩ hp
   ·exact da.j2_P (@ih) rfl ⟨w0,s0,uP⟩ hp
  ·exact aD hp ⟨_,rfl,rfl,w0,s0,uP⟩
def da.p (F:Nat) (ai:am3) (au:Int) (eA:Int):Option (List Int):=(ix ai eA).bind λn1=>(ix ai au).bind λn2=>da.pl7 F F ai (gt ai n1) (gt ai n2) (ai.length:Int) 0
theorem da.P {aS aC aT ai iZ i_ ja kH au eA} (b_:aC=ai.length) (h0:Inn H (Rs.ow iZ ⟨aS,aC,aT⟩ eI.z i_ kH ja::R0) λR=>CR eI H R kH ai) {r:am3} (hp:da.p F ai au eA=some r):Rt (da.tw F ⟨aS,aC,aT⟩ au eA H) (da.Q H (Rs.ow iZ ⟨aS,aC,aT⟩ eI.z i_ kH ja::R0) R0 aS aC aT iZ i_ ja r):=by
 obtain ⟨w0,bK⟩:=h0
 subst b_
 unfold da.p at hp
 unfold da.tw da.twX
 have s0:=w0.rf
 obtain ⟨n1,g1,hp⟩:=ag hp
 obtain ⟨p1,q1,i1,h1,j1⟩:=W.ixo (E:=eI) w0 (i:=0) rfl rfl bK g1
 refine ak i1 ?_
 have h1:_=[_]:=h1
 subst h1
 refine ak (bk (j1 0 _ rfl)) ?_
 obtain ⟨n2,g2,hp⟩:=ag hp
 obtain ⟨p2,q2,i2,h2,j2⟩:=W.ixo (E:=eI) w0 (i:=0) rfl rfl bK g2
 refine ak i2 ?_
 have h2:_=[_]:=h2
 subst h2
 refine ak (bk (j2 0 _ rfl)) ?_
 exact da.l7_P F rfl ⟨w0,s0,bK⟩ hp
def gr.Q (H0:Hp) (Ri R0:am5)  (r:am3) (v:AV) (H':Hp):Prop:=∃ o0a:ON,∃ o0n:Nat,∃ o0c:Cap,∃ o0k:List AV,v=(.sl ⟨o0a,o0n,o0c⟩)/\o0n=(r).length/\Out H0 Ri H' (Rs.own ⟨o0a,o0n,o0c⟩ eI.z o0k::R0) λR=>CR eI H' R o0k (r)
def gr.p (F:Nat) (ai:am3):Option (List Int):=(if ai.length<=4294967296/\wfs ai=true then some (qt ai) else none)
theorem gr.P {aS aC aT ai} (b_:aC=ai.length) (h0:Inn H R0 λR=>ROs eI H R ⟨aS,aC,aT⟩ ai) {r:am3} (hp:gr.p F ai=some r):Rt (gr.tw F ⟨aS,aC,aT⟩ H) (gr.Q H R0 R0  r):=by
 obtain ⟨w0,f0⟩:=h0
 subst b_
 unfold gr.p at hp
 unfold gr.tw EB
 have s0:=w0.rf
 obtain ⟨hc,hp⟩:=lH hp
 have hp:=Option.some.inj hp
 obtain ⟨xs,hx,cx⟩:=f0.row rfl
 refine ak hx ?_
 obtain rfl:=cx.ints_eq
 refine ak (ab0 _) ?_
 refine fg hc ?_
 by_cases hz:ai.length=0
 ·rw [if_pos hz]
  obtain ⟨w1,s1⟩:=w0.nilS eI.z (by decide)
  obtain rfl:r=[]:=List.length_eq_zero_iff.1 (by rw [<- hp,Tz,hz])
  exact ⟨_,_,rfl,none,0,.ex 0,[],rfl,rfl,w1,s0.trans s1,CR.empty⟩
 ·rw [if_neg hz]
  obtain ⟨H2,e2,w2,s2⟩:=w0.newF ((qt ai).map (AV.int .i64)) ai.length eI.z (by rw [List.length_map,Tz];exact (Nat.mul_one _).symm) (by decide)
  subst e2
  subst hp
  exact ⟨_,_,rfl,some (_,0),_,.full 1,_,rfl,(Tz _).symm,w2,s0.trans s2,CR.ints _ _ _ _⟩
def eu.Q (H0:Hp) (Ri R0:am5)  (r:am3) (v:AV) (H':Hp):Prop:=∃ o0a:ON,∃ o0n:Nat,∃ o0c:Cap,∃ o0k:List AV,v=(.sl ⟨o0a,o0n,o0c⟩)/\o0n=(r).length/\Out H0 Ri H' (Rs.own ⟨o0a,o0n,o0c⟩ eI.z o0k::R0) λR=>CR eI H' R o0k (r)
def eu.S29 (H0:Hp) (Ri R0:am5)  (C:an_) (pC:List (Int×Int)->List (Int×Int)->List Int->Int->Int->Option (List Int)):Prop:=∀ {IF Rj Rk DV IG jA IH II Rl Rm uQ uR xh Rp qU n_},∀ {H:Hp},DV=uQ.length->IG=uR.length->IH=xh.length->(Out H0 Ri H (Rs.blk jA [.sl ⟨IF,DV,II⟩,.sl ⟨Rj,IG,Rl⟩]::Rs.own ⟨Rk,IH,Rm⟩ eI.z Rp::R0) λR=>ROs (af eI eI) H R ⟨IF,DV,II⟩ uQ/\ROs (af eI eI) H R ⟨Rj,IG,Rl⟩ uR/\CR eI H R Rp xh)->∀ {r:am3},pC uQ uR xh qU n_=some r->Rt (C jA 0 ⟨Rk,IH,Rm⟩ ⟨IF,DV,II⟩ qU n_ H) (eu.Q H0 Ri R0  r)
def eu.pl29 (F:Nat) :Nat->List (Int×Int)->List (Int×Int)->List Int->Int->Int->Option (List Int)
 | 0,_,_,_,_,_=>none
 | k+1,uQ,uR,xh,qU,n_=>(bif (decide (n_<qU)) then ((ix uQ n_).bind λn1=>(ix uR n_).bind λn5=>(da.p F xh ((gt uQ n1).1) ((gt uR n5).1)).bind λr7=>eu.pl29 F k uQ uR r7 qU (wrap .i64 (n_+1))) else ((gr.p F xh).bind λr12=>some r12))
theorem eu.l29_P  :∀ k,eu.S29 H0 Ri R0  (eu.l29 F (fl.tw F) (eE.tw F) (da.tw F) (gr.tw F)  k) (eu.pl29 F  k):=by
 intro k
 induction k with
 | zero=>unfold eu.S29;intros;rename_i hp;cases hp
 | succ k ih=>
  intro IF Rj Rk DV IG jA IH II Rl Rm uQ uR xh Rp qU n_ H ajr ajs ajt h0 r hp
  obtain ⟨w0,s0,aao,aap,aaq⟩:=h0
  subst ajr
  subst ajs
  subst ajt
  unfold eu.pl29 at hp
  unfold eu.l29
  refine aG hp (λhp=>?_) λhp=>?_
  ·obtain ⟨n1,g1,hp⟩:=ag hp
   obtain ⟨p1,q1,i1,h1,j1⟩:=ROs.ixr aao rfl g1
   refine ak i1 ?_
   obtain ⟨_,_,rfl,rfl,rfl⟩:=h1
   refine ak (bk (j1 0 _ rfl)) ?_
   refine ak (bk (j1 1 _ rfl)) ?_
   refine bm w0 λH2 w2 s2=>?_
   refine aE w2 0 λH3 w3 s3=>?_
   refine aE w3 0 λH4 w4 s4=>?_
   refine lI w4 0 ?_
   refine lSl w4 1 ?_
   obtain ⟨n5,g5,hp⟩:=ag hp
   obtain ⟨p5,q5,i5,h5,j5⟩:=ROs.ixr (aap.step (s2.trans (s3.trans s4))) rfl g5
   refine ak i5 ?_
   obtain ⟨_,_,rfl,rfl,rfl⟩:=h5
   refine ak (bk (j5 0 _ rfl)) ?_
   obtain ⟨w6,s6⟩:=w4.pp [2,0,1] 3
   obtain ⟨r7,e7,hp⟩:=ag hp
   refine aI (da.P rfl ⟨w6,(aaq.step (s2.trans (s3.trans (s4.trans s6))))⟩ e7) ?_
   rintro _ H8 ⟨amq,rfl,hl8_0,w8,s8,f8_0⟩
   obtain ⟨w9,s9⟩:=w8.pp [2,0] 3
   exact ih rfl rfl hl8_0 ⟨w9,(s0.trans (s2.trans (s3.trans (s4.trans (s6.trans (s8.trans s9)))))),(aao.step (s2.trans (s3.trans (s4.trans (s6.trans (s8.trans s9)))))),(aap.step (s2.trans (s3.trans (s4.trans (s6.trans (s8.trans s9)))))),(f8_0.step s9)⟩ hp
  ·obtain ⟨w10,s10⟩:=w0.pp [1,0] 2
   have f11:=W.borrow1 eI w10 (aaq.step s10)
   obtain ⟨w11,s11⟩:=w10.right1
   obtain ⟨r12,e12,hp⟩:=ag hp
   refine aI (gr.P rfl ⟨w11,f11⟩ e12) ?_
   rintro _ H13 ⟨o0a_13,o0n_13,o0c_13,o0k_13,rfl,rfl,w13,s13,f13_0⟩
   obtain ⟨w14,s14⟩:=W.frame1 w10 w13 s13
   refine br ?_
   obtain ⟨w15,s15⟩:=w14.pp [1] 3
   exact aD hp ⟨_,_,_,_,rfl,rfl,w15,(s0.trans (s10.trans (s14.trans s15))),((CR.flat (nz .i64) f13_0).step s15)⟩
def eu.p (F:Nat) (ai:anh) (jH:ans) (jY:ans):Option (List Int):=(fl.p F ai).bind λr3=>(eE.p F r3).bind λr5=>eu.pl29 F F jH jY r5 (jH.length:Int) 0
theorem eu.P {aS rG rH aC oE oF aT rI rJ ai ac jH jY} (b_:aC=ai.length) (wZ:oE=jH.length) (w_:oF=jY.length) (h0:Inn H R0 λR=>ROs (af eI (af eI (af eI (af eI eI)))) H R ⟨aS,aC,aT⟩ ai/\ROs (af eI eI) H R ⟨rG,oE,rI⟩ jH/\ROs (af eI eI) H R ⟨rH,oF,rJ⟩ jY) {r:am3} (hp:eu.p F ai jH jY=some r):Rt (eu.tw F ⟨aS,aC,aT⟩ ac ⟨rG,oE,rI⟩ ⟨rH,oF,rJ⟩ H) (eu.Q H R0 R0  r):=by
 obtain ⟨w0,bK,xa,xb⟩:=h0
 subst b_
 subst wZ
 subst w_
 unfold eu.p at hp
 unfold eu.tw eu.twX
 have s0:=w0.rf
 refine bm w0 λH1 w1 s1=>?_
 refine bm w1 λH2 w2 s2=>?_
 refine lSl w2 1 ?_
 obtain ⟨r3,e3,hp⟩:=ag hp
 refine aI (fl.P rfl ⟨w2,(bK.step (s1.trans s2))⟩ e3) ?_
 rintro _ H4 ⟨rfl,w4,s4,_⟩
 refine br ?_
 obtain ⟨r5,e5,hp⟩:=ag hp
 refine aI (eE.P ⟨w4,trivial⟩ e5) ?_
 rintro _ H6 ⟨o0a_6,o0n_6,o0c_6,o0k_6,rfl,rfl,w6,s6,f6_0⟩
 refine br ?_
 refine lSl w6 1 ?_
 obtain ⟨w7,s7⟩:=w6.pp [1,0] 3
 exact eu.l29_P F rfl rfl rfl ⟨w7,(s0.trans (s1.trans (s2.trans (s4.trans (s6.trans s7))))),(xa.step (s1.trans (s2.trans (s4.trans (s6.trans s7))))),(xb.step (s1.trans (s2.trans (s4.trans (s6.trans s7))))),(f6_0.step s7)⟩ hp
def ee.Q (H0:Hp) (Ri R0:am5)  (r:Int) (v:AV) (H':Hp):Prop:=v=(.i r)/\Out H0 Ri H' (R0) λR=>True
def ee.S61 (H0:Hp) (Ri R0:am5)  (C:ani) (pC:aog):Prop:=∀ {Rq IJ Rr kS mH pI},∀ {H:Hp},IJ=kS.length->(Out H0 Ri H R0 λR=>ROs eI H R ⟨Rq,IJ,Rr⟩ kS)->∀ {r:Int},pC kS mH pI=some r->Rt (C ⟨Rq,IJ,Rr⟩ mH pI H) (ee.Q H0 Ri R0  r)
def ee.pl61 (F:Nat) :Nat->List Int->Int->Int->Option (Int)
 | 0,_,_,_=>none
 | k+1,kS,mH,pI=>(bif (decide (pI<(kS.length:Int))) then ((ix kS pI).bind λn1=>ee.pl61 F k kS (if (gt kS n1)>mH then (gt kS n1) else mH) (wrap .i64 (pI+1))) else (some mH))
theorem ee.l61_P  :∀ k,ee.S61 H0 Ri R0  (ee.l61 F   k) (ee.pl61 F  k):=by
 intro k
 induction k with
 | zero=>unfold ee.S61;intros;rename_i hp;cases hp
 | succ k ih=>
  intro Rq IJ Rr kS mH pI H Rh h0 r hp
  obtain ⟨w0,s0,uP⟩:=h0
  subst Rh
  unfold ee.pl61 at hp
  unfold ee.l61
  refine aG hp (λhp=>?_) λhp=>?_
  ·obtain ⟨n1,g1,hp⟩:=ag hp
   obtain ⟨p1,q1,i1,h1,j1⟩:=ROs.ixr uP rfl g1
   refine ak i1 ?_
   have h1:_=[_]:=h1
   subst h1
   refine ak (bk (j1 0 _ rfl)) ?_
   exact ih rfl ⟨w0,s0,uP⟩ hp
  ·exact aD hp ⟨rfl,w0,s0,trivial⟩
def ee.pj1 (F:Nat)  (xi:am3):Option (Int):=(ix xi 0).bind λn1=>ee.pl61 F F xi (gt xi n1) 1
theorem ee.j1_P   {aar Ru aas xi} (aju:Ru=xi.length) (h0:Out H0 Ri H R0 λR=>ROs eI H R ⟨aar,Ru,aas⟩ xi) {r:Int} (hp:ee.pj1 F  xi=some r):Rt (ee.j1 F   ⟨aar,Ru,aas⟩ H) (ee.Q H0 Ri R0  r):=by
 obtain ⟨w0,s0,aat⟩:=h0
 subst aju
 unfold ee.pj1 at hp
 unfold ee.j1
 obtain ⟨n1,g1,hp⟩:=ag hp
 obtain ⟨p1,q1,i1,h1,j1⟩:=ROs.ixr aat rfl g1
 refine ak i1 ?_
 have h1:_=[_]:=h1
 subst h1
 refine ak (bk (j1 0 _ rfl)) ?_
 exact ee.l61_P F rfl ⟨w0,s0,aat⟩ hp
def ee.p (F:Nat) (ai:am3):Option (Int):=(bif (decide ((ai.length:Int)<1)) then (none) else (ee.pj1 F ai))
theorem ee.P {aS aC aT ai} (b_:aC=ai.length) (h0:Inn H R0 λR=>ROs eI H R ⟨aS,aC,aT⟩ ai) {r:Int} (hp:ee.p F ai=some r):Rt (ee.tw F ⟨aS,aC,aT⟩ H) (ee.Q H R0 R0  r):=by
 obtain ⟨w0,bK⟩:=h0
 subst b_
 unfold ee.p at hp
 unfold ee.tw ee.twX
 have s0:=w0.rf
 refine aG hp (λhp=>?_) λhp=>?_
 ·cases hp
 ·exact ee.j1_P rfl ⟨w0,s0,bK⟩ hp
def ic.Q (H0:Hp) (Ri R0:am5)  (r:Int) (v:AV) (H':Hp):Prop:=v=(.i r)/\Out H0 Ri H' (R0) λR=>True
def ic.p (F:Nat) (ai:am3):Option (Int):=(bif ((ai.length:Int)==0) then (some 0) else ((ee.p F ai).bind λr1=>some (wrap .i64 (r1+1))))
theorem ic.P {aS aC aT ai} (b_:aC=ai.length) (h0:Inn H R0 λR=>ROs eI H R ⟨aS,aC,aT⟩ ai) {r:Int} (hp:ic.p F ai=some r):Rt (ic.tw F ⟨aS,aC,aT⟩ H) (ic.Q H R0 R0  r):=by
 obtain ⟨w0,bK⟩:=h0
 subst b_
 unfold ic.p at hp
 unfold ic.tw ic.twX
 have s0:=w0.rf
 refine aG hp (λhp=>?_) λhp=>?_
 ·exact aD hp ⟨rfl,w0,s0,trivial⟩
 ·obtain ⟨r1,e1,hp⟩:=ag hp
  refine aI (ee.P rfl ⟨w0,bK⟩ e1) ?_
  rintro _ H2 ⟨rfl,w2,s2,_⟩
  refine br ?_
  exact aD hp ⟨rfl,w2,(s0.trans s2),trivial⟩
def gM.Q (H0:Hp) (Ri R0:am5)  (r:(List (Int×Int))×(List (Int×Int))×Bool) (v:AV) (H':Hp):Prop:=∃ o0a:ON,∃ o0n:Nat,∃ o0c:Cap,∃ o1a:ON,∃ o1n:Nat,∃ o1c:Cap,v=(.tup [(.agg [(.sl ⟨o0a,o0n,o0c⟩),(.sl ⟨o1a,o1n,o1c⟩)]),(.bool r.2.2)])/\o0n=(r.1).length/\o1n=(r.2.1).length/\Out H0 Ri H' (R0) λR=>ROs (af eI eI) H' R ⟨o0a,o0n,o0c⟩ (r.1)/\ROs (af eI eI) H' R ⟨o1a,o1n,o1c⟩ (r.2.1)
def gM.p (F:Nat) (ai:anh) (ac:Int):Option ((List (Int×Int))×(List (Int×Int))×Bool):=(fl.p F ai).bind λr3=>(bif (decide (r3>10)) then (some (([]:List (Int×Int)),([]:List (Int×Int)),false)) else ((gq.p F ac 0 8).bind λr12=>(bif (!r12) then (some (([]:List (Int×Int)),([]:List (Int×Int)),false)) else ((jQ.p F ai).bind λr21=>(bif r21 then (some (([]:List (Int×Int)),([]:List (Int×Int)),false)) else ((cG.p F ai).bind λr30=>(bif (!r30.2.2) then (some (([]:List (Int×Int)),([]:List (Int×Int)),false)) else ((bH.p F ai r30.1 r30.2.1).bind λr44=>(md.p F r44).bind λr48=>(eu.p F ai r30.1 r30.2.1).bind λr52=>(ic.p F r52).bind λr55=>(bif (r48 != (wrap .i64 (r3+(wrap .i64 (2 * r55))))) then (some (([]:List (Int×Int)),([]:List (Int×Int)),false)) else (some (r30.1,r30.2.1,true)))))))))))
end
end Go.Proofs.YtppbogklbhfboaaGreat.AE
