import Derived.Test.YtppbogklbhfboaaGreatT2
import Derived.Test.YtppbogklbhfboaaGreatE2
set_option linter.unusedVariables false
set_option linter.unusedSimpArgs false
namespace Go.Proofs.YtppbogklbhfboaaGreat.AE
open Go Go.AE Go.Proofs
set_option linter.unusedVariables false
variable {F:Nat} {H H0:Hp} {Ri R0:List Rs}
set_option maxHeartbeats 4000000
set_option maxRecDepth 100000
noncomputable section
theorem bT.inl {ac:Int} {ae:Int} {aK:Sl} {ax:Int} {bS:Int} {K:AV×Hp->OA} {Q:AV->Hp->Prop} (h:∃ u H1,((Hp.new H [(.i ac),(.i ae),(.sl aK)]).bind λH6=>(Hp.ldSl H6 H.length 2).bind λs7=>(Hp.ldI H6 .i64 H.length 1).bind λn8=>(Sl.idx s7 (IntKind.i64.wrap ((IntKind.i64.wrap (ax * n8))+bS)) 1).bind λp9=>some ((.ptr p9.1 p9.2),H6))=some (u,H1)/\∃ v H',K (u,H1)=some (v,H')/\Q v H'):∃ v H',(bT.tw F ac ae aK ax bS H).bind K=some (v,H')/\Q v H':=Gr h
theorem fm.inl {ac:Int} {ae:Int} {aK:Sl} {ax:Int} {K:AV×Hp->OA} {Q:AV->Hp->Prop} (h:∃ u H1,((Hp.new H [(.i ac),(.i ae),(.sl aK)]).bind λH5=>(Hp.ldSl H5 H.length 2).bind λs6=>(Hp.ldI H5 .i64 H.length 1).bind λn7=>(Hp.ldI H5 .i64 H.length 1).bind λn8=>(Sl.cut s6 1 (IntKind.i64.wrap (ax * n7)) (IntKind.i64.wrap ((IntKind.i64.wrap (ax+1)) * n8))).bind λs9=>some ((.sl s9),H5))=some (u,H1)/\∃ v H',K (u,H1)=some (v,H')/\Q v H'):∃ v H',(fm.tw F ac ae aK ax H).bind K=some (v,H')/\Q v H':=Gr h
theorem hO.inl {ac:Nat} {ae:Nat} {ah:Nat} {ax:Nat} {bS:Int} {oR:Int} {K:AV×Hp->OA} {Q:AV->Hp->Prop} (h:∃ u H1,((fV.tw F bS oR 2000000000000 H).bind λr7=>((r7.1).asTup 2).bind λl8=>(l8[0]?).bind λv9=>((v9).asI .i64).bind λn10=>(l8[1]?).bind λv11=>((v11).asB).bind λb12=>(Hp.ldI r7.2 .i64 ah ax).bind λn13=>(Hp.st r7.2 ah ax (.i (IntKind.i64.wrap (n13+n10)))).bind λH14=>(bif (!b12) then ((Hp.st H14 ac (ae+15) (.bool true)).bind λH15=>(Hp.st H15 ah ax (.i 0)).bind λH16=>some ((.tup []),H16)) else ((Hp.ldI H14 .i64 ah ax).bind λn17=>(eD.tw F n17 H14).bind λr18=>((r18.1).asI .i64).bind λn19=>(bif (decide (n19>1000000000000)) then ((Hp.st r18.2 ac (ae+15) (.bool true)).bind λH20=>(Hp.st H20 ah ax (.i 0)).bind λH21=>some ((.tup []),H21)) else (some ((.tup []),r18.2))))))=some (u,H1)/\∃ v H',K (u,H1)=some (v,H')/\Q v H'):∃ v H',(hO.tw F ac ae ah ax bS oR H).bind K=some (v,H')/\Q v H':=Gr h
theorem kL.inl {ac:Int} {ae:Int} {aK:Sl} {K:AV×Hp->OA} {Q:AV->Hp->Prop} (h:∃ u H1,((Hp.new H [(.i ac),(.i ae),(.sl aK)]).bind λH4=>(Hp.ldI H4 .i64 H.length 0).bind λn5=>(dP.tw F n5 H4).bind λr6=>((r6.1).asAgg 3).bind λl7=>(l7[0]?).bind λv8=>((v8).asI .i64).bind λn9=>(l7[1]?).bind λv10=>((v10).asI .i64).bind λn11=>(l7[2]?).bind λv12=>((v12).asSl).bind λs13=>(if bu H4 r6.2 then ((Hp.ldI r6.2 .i64 H.length 0).bind λn14=>(dP.tw F n14 r6.2).bind λr15=>((r15.1).asAgg 3).bind λl16=>(l16[0]?).bind λv17=>((v17).asI .i64).bind λn18=>(l16[1]?).bind λv19=>((v19).asI .i64).bind λn20=>(l16[2]?).bind λv21=>((v21).asSl).bind λs22=>(if bu r6.2 r15.2 then ((Hp.ldI r15.2 .i64 H.length 0).bind λn23=>(Hp.ldI r15.2 .i64 H.length (0+1)).bind λn24=>(Hp.ldSl r15.2 H.length (0+2)).bind λs25=>(jm.tw F n23 n24 s25 r15.2).bind λr26=>((r26.1).asAgg 3).bind λl27=>(l27[0]?).bind λv28=>((v28).asI .i64).bind λn29=>(l27[1]?).bind λv30=>((v30).asI .i64).bind λn31=>(l27[2]?).bind λv32=>((v32).asSl).bind λs33=>(if bu r15.2 r26.2 then ((Hp.ldI r26.2 .i64 H.length 1).bind λn34=>(dP.tw F n34 r26.2).bind λr35=>((r35.1).asAgg 3).bind λl36=>(l36[0]?).bind λv37=>((v37).asI .i64).bind λn38=>(l36[1]?).bind λv39=>((v39).asI .i64).bind λn40=>(l36[2]?).bind λv41=>((v41).asSl).bind λs42=>(if bu r26.2 r35.2 then ((Hp.ldI r35.2 .i64 H.length 1).bind λn43=>(dP.tw F n43 r35.2).bind λr44=>((r44.1).asAgg 3).bind λl45=>(l45[0]?).bind λv46=>((v46).asI .i64).bind λn47=>(l45[1]?).bind λv48=>((v48).asI .i64).bind λn49=>(l45[2]?).bind λv50=>((v50).asSl).bind λs51=>(Hp.new r44.2 [(.i n9),(.i n11),(.sl s13),(.i n18),(.i n20),(.sl s22),(.i n29),(.i n31),(.sl s33),(.i n38),(.i n40),(.sl s42),(.i n47),(.i n49),(.sl s51),(.bool false)]).bind λH52=>some ((.ptr r44.2.length 0),H52)) else none)) else none)) else none)) else none))=some (u,H1)/\∃ v H',K (u,H1)=some (v,H')/\Q v H'):∃ v H',(kL.tw F ac ae aK H).bind K=some (v,H')/\Q v H':=Gr h
def jI.Q (H0:Hp) (Ri R0:List Rs)  (r:Int) (v:AV) (H':Hp):Prop:=v=(.i r)/\Out H0 Ri H' (R0) λR=>True
def jI.p (F:Nat) (aq:List (Int×Int×Int×Int×Int)) (ap:Int):Option (Int):=(bif (decide ((IntKind.i64.wrap (ap - (aq.length:Int)))<0)) then (some (-1)) else (some (IntKind.i64.wrap (ap - (aq.length:Int)))))
theorem jI.P {bF:ON} {aX:Nat} {bG:Cap} {aq:List (Int×Int×Int×Int×Int)} {ap:Int} (cT:aX=aq.length) (h0:Inn H R0 λR=>ROs (ai eI (ai eI (ai eI (ai eI eI)))) H R ⟨bF,aX,bG⟩ aq) {r:Int} (hp:jI.p F aq ap=some r):Rt (jI.tw F ⟨bF,aX,bG⟩ ap H) (jI.Q H R0 R0  r):=by
 obtain ⟨w0,cF⟩:=h0
 subst cT
 unfold jI.p at hp
 unfold jI.tw jI.twX
 have s0:=w0.rf
 refine aM hp (λhp=>?_) λhp=>?_
 ·exact aR hp ⟨rfl,w0,s0,trivial⟩
 ·exact aR hp ⟨rfl,w0,s0,trivial⟩
def iO.Q (H0:Hp) (Ri R0:List Rs)  (r:Int) (v:AV) (H':Hp):Prop:=v=(.i r)/\Out H0 Ri H' (R0) λR=>True
def iO.p (F:Nat) (aq:List (Int×Int×Int×Int×Int)) (ah:Int):Option (Int):=(jI.p F aq ah).bind λr2=>(bif (decide (r2<0)) then (some (-1)) else (some r2))
theorem iO.P {bF:ON} {aX:Nat} {bG:Cap} {aq:List (Int×Int×Int×Int×Int)} {ae ah:Int} (cT:aX=aq.length) (h0:Inn H R0 λR=>ROs (ai eI (ai eI (ai eI (ai eI eI)))) H R ⟨bF,aX,bG⟩ aq) {r:Int} (hp:iO.p F aq ah=some r):Rt (iO.tw F ⟨bF,aX,bG⟩ ae ah H) (iO.Q H R0 R0  r):=by
 obtain ⟨w0,cF⟩:=h0
 subst cT
 unfold iO.p at hp
 unfold iO.tw iO.twX
 have s0:=w0.rf
 refine bR w0 λH1 w1 s1=>?_
 refine aa (az (w1.ld (i:=0) rfl rfl)) ?_
 obtain ⟨r2,e2,hp⟩:=aj hp
 refine aP (jI.P rfl ⟨w1,(cF.step s1)⟩ e2) ?_
 rintro _ H3 ⟨rfl,w3,s3,_⟩
 refine aa rfl ?_
 refine aM hp (λhp=>?_) λhp=>?_
 ·obtain ⟨w4,s4⟩:=w3.pick' [] 1 rfl rfl rfl
  exact aR hp ⟨rfl,w4,(s0.trans (s1.trans (s3.trans s4))),trivial⟩
 ·obtain ⟨w5,s5⟩:=w3.pick' [] 1 rfl rfl rfl
  exact aR hp ⟨rfl,w5,(s0.trans (s1.trans (s3.trans s5))),trivial⟩
def jw.Q (H0:Hp) (Ri R0:List Rs)  (r:Int×Int×Int×Int×Int) (v:AV) (H':Hp):Prop:=v=(.agg [(.i r.1),(.i r.2.1),(.i r.2.2.1),(.i r.2.2.2.1),(.i r.2.2.2.2)])/\Out H0 Ri H' (R0) λR=>True
def jw.p (F:Nat) (ac:Int) (ae:Int) (aK:Int) (cL:Int) (cH:Int):Option (Int×Int×Int×Int×Int):=some (ac,ae,aK,cL,cH)
theorem jw.P {ac ae aK cL cH:Int}  (h0:Inn H R0 λR=>True) {r:Int×Int×Int×Int×Int} (hp:jw.p F ac ae aK cL cH=some r):Rt (jw.tw F ac ae aK cL cH H) (jw.Q H R0 R0  r):=by
 obtain ⟨w0,_⟩:=h0
 unfold jw.p at hp
 unfold jw.tw jw.twX
 have s0:=w0.rf
 refine bR w0 λH1 w1 s1=>?_
 refine bR w1 λH2 w2 s2=>?_
 refine bR w2 λH3 w3 s3=>?_
 refine aa (af (w3.ld (i:=2) rfl rfl)) ?_
 refine aL w3 (i:=0) rfl rfl rfl λH4 w4 s4=>?_
 refine aa (af (w4.ld (i:=2) rfl rfl)) ?_
 refine aL w4 (i:=0) rfl rfl rfl λH5 w5 s5=>?_
 refine aa (af (w5.ld (i:=2) rfl rfl)) ?_
 refine aL w5 (i:=0) rfl rfl rfl λH6 w6 s6=>?_
 refine aa (af (w6.ld (i:=2) rfl rfl)) ?_
 refine aL w6 (i:=0) rfl rfl rfl λH7 w7 s7=>?_
 refine aa (af (w7.ld (i:=2) rfl rfl)) ?_
 refine aL w7 (i:=0) rfl rfl rfl λH8 w8 s8=>?_
 refine aa (af (w8.ld (i:=0) rfl rfl)) ?_
 refine aa (af (w8.ld (i:=0) rfl rfl)) ?_
 refine aa (af (w8.ld (i:=0) rfl rfl)) ?_
 refine aa (af (w8.ld (i:=0) rfl rfl)) ?_
 refine aa (af (w8.ld (i:=0) rfl rfl)) ?_
 refine aL w8 (i:=1) rfl rfl rfl λH9 w9 s9=>?_
 refine aL w9 (i:=1) rfl rfl rfl λH10 w10 s10=>?_
 refine aL w10 (i:=1) rfl rfl rfl λH11 w11 s11=>?_
 refine aL w11 (i:=1) rfl rfl rfl λH12 w12 s12=>?_
 dsimp only [pk,pks,nth,List.drop,List.set,List.eraseIdx] at w12 s4 s5 s6 s7 s8 s9 s10 s11 s12
 refine aL w12 (i:=1) rfl rfl rfl λH13 w13 s13=>?_
 refine aa (af (w13.ld (i:=1) rfl rfl)) ?_
 refine aa (af (w13.ld (i:=1) rfl rfl)) ?_
 refine aa (af (w13.ld (i:=1) rfl rfl)) ?_
 refine aa (af (w13.ld (i:=1) rfl rfl)) ?_
 refine aa (af (w13.ld (i:=1) rfl rfl)) ?_
 obtain ⟨w14,s14⟩:=w13.pick' [] 3 rfl rfl rfl
 exact aR hp ⟨rfl,w14,(s0.trans (s1.trans (s2.trans (s3.trans (s4.trans (s5.trans (s6.trans (s7.trans (s8.trans (s9.trans (s10.trans (s11.trans (s12.trans (s13.trans s14)))))))))))))),trivial⟩
def eE.Q (H0:Hp) (Ri R0:List Rs)  (r:(List (Int×Int×Int×Int×Int))) (v:AV) (H':Hp):Prop:=∃ o0a:ON,∃ o0n:Nat,∃ o0c:Cap,∃ o0k:List AV,v=(.sl ⟨o0a,o0n,o0c⟩)/\o0n=(r).length/\Out H0 Ri H' (Rs.own ⟨o0a,o0n,o0c⟩ (ai eI (ai eI (ai eI (ai eI eI)))).z o0k::R0) λR=>CR (ai eI (ai eI (ai eI (ai eI eI)))) H' R o0k (r)
def eE.S29 (H0:Hp) (Ri R0:List Rs)  (C:Sl->Sl->Int->Hp->OA) (pC:List (Int×Int×Int×Int×Int)->List (Int×Int×Int×Int×Int)->Int->Option ((List (Int×Int×Int×Int×Int)))):Prop:=∀ {vk GH:ON} {tf Dl:Nat} {vl GI:Cap} {jJ qH:List (Int×Int×Int×Int×Int)} {GJ:List AV} {l_:Int},∀ {H:Hp},tf=jJ.length->Dl=qH.length->(Out H0 Ri H (Rs.own ⟨GH,Dl,GI⟩ (ai eI (ai eI (ai eI (ai eI eI)))).z GJ::R0) λR=>ROs (ai eI (ai eI (ai eI (ai eI eI)))) H R ⟨vk,tf,vl⟩ jJ/\CR (ai eI (ai eI (ai eI (ai eI eI)))) H R GJ qH)->∀ {r:(List (Int×Int×Int×Int×Int))},pC jJ qH l_=some r->Rt (C ⟨vk,tf,vl⟩ ⟨GH,Dl,GI⟩ l_ H) (eE.Q H0 Ri R0  r)
def eE.pl29 (F:Nat) :Nat->List (Int×Int×Int×Int×Int)->List (Int×Int×Int×Int×Int)->Int->Option ((List (Int×Int×Int×Int×Int)))
 | 0,_,_,_=>none
 | k+1,jJ,qH,l_=>(bif (decide (l_<(jJ.length:Int))) then ((ix jJ l_).bind λn1=>(jw.p F ((gt jJ n1).1) ((gt jJ n1).2.1) ((gt jJ n1).2.2.1) ((gt jJ n1).2.2.2.1) ((gt jJ n1).2.2.2.2)).bind λr2=>(ix qH l_).bind λn4=>(some (qH.set n4 (r2.1,(gt qH n4).2.1,(gt qH n4).2.2.1,(gt qH n4).2.2.2.1,(gt qH n4).2.2.2.2))).bind λl5=>(some (l5.set n4 ((gt l5 n4).1,r2.2.1,(gt l5 n4).2.2.1,(gt l5 n4).2.2.2.1,(gt l5 n4).2.2.2.2))).bind λl7=>(some (l7.set n4 ((gt l7 n4).1,(gt l7 n4).2.1,r2.2.2.1,(gt l7 n4).2.2.2.1,(gt l7 n4).2.2.2.2))).bind λl9=>(some (l9.set n4 ((gt l9 n4).1,(gt l9 n4).2.1,(gt l9 n4).2.2.1,r2.2.2.2.1,(gt l9 n4).2.2.2.2))).bind λl11=>(some (l11.set n4 ((gt l11 n4).1,(gt l11 n4).2.1,(gt l11 n4).2.2.1,(gt l11 n4).2.2.2.1,r2.2.2.2.2))).bind λl13=>eE.pl29 F k jJ l13 (IntKind.i64.wrap (l_+1))) else (some qH))
theorem eE.l29_P  :∀ k,eE.S29 H0 Ri R0  (eE.l29 F (jw.tw F)  k) (eE.pl29 F  k):=by
 intro k
 induction k with
 | zero=>unfold eE.S29;intros;rename_i hp;cases hp
 | succ k ih=>
  intro vk GH tf Dl vl GI jJ qH GJ l_ H GK ZY h0 r hp
  obtain ⟨w0,s0,AJ,GL⟩:=h0
  subst GK
  subst ZY
  unfold eE.pl29 at hp
  unfold eE.l29
  refine aM hp (λhp=>?_) λhp=>?_
  ·obtain ⟨n1,g1,hp⟩:=aj hp
   obtain ⟨p1,q1,i1,h1,j1⟩:=ROs.ixr AJ rfl g1
   refine aa i1 ?_
   obtain ⟨_,_,rfl,rfl,_,_,rfl,rfl,_,_,rfl,rfl,_,_,rfl,rfl,rfl⟩:=h1
   refine aa (af (j1 0 _ rfl)) ?_
   refine aa (af (j1 1 _ rfl)) ?_
   refine aa (af (j1 2 _ rfl)) ?_
   refine aa (af (j1 3 _ rfl)) ?_
   refine aa (af (j1 4 _ rfl)) ?_
   obtain ⟨r2,e2,hp⟩:=aj hp
   refine aP (jw.P ⟨w0,trivial⟩ e2) ?_
   rintro _ H3 ⟨rfl,w3,s3,_⟩
   refine aa rfl ?_
   refine aa rfl ?_
   refine aa rfl ?_
   refine aa rfl ?_
   refine aa rfl ?_
   refine aa rfl ?_
   refine aa rfl ?_
   refine aa rfl ?_
   refine aa rfl ?_
   refine aa rfl ?_
   refine aa rfl ?_
   obtain ⟨n4,g4,hp⟩:=aj hp
   obtain ⟨p4,q4,i4,h4,j4⟩:=W.ixo (E:=(ai eI (ai eI (ai eI (ai eI eI))))) w3 (i:=0) rfl rfl (GL.step s3) g4
   refine aa i4 ?_
   obtain ⟨l5,e5,hp⟩:=aj hp
   refine gl (ai eI (ai eI (ai eI (ai eI eI)))) w3 (i:=0) (j:=0) (p:=p4) rfl rfl (GL.step s3) g4 i4 e5 rfl rfl (λ_ h=>by obtain ⟨_,_,rfl,rfl,_,_,rfl,rfl,_,_,rfl,rfl,_,_,rfl,rfl,rfl⟩:=h;exact ⟨[_],_,rfl,rfl,[_],_,rfl,rfl,[_],_,rfl,rfl,[_],_,rfl,rfl,rfl⟩) λH6 k6 w6 s6 c6=>?_
   obtain ⟨l7,e7,hp⟩:=aj hp
   refine gl (ai eI (ai eI (ai eI (ai eI eI)))) w6 (i:=0) (j:=1) (p:=p4) rfl rfl c6 (pT g4 (ev e5)) i4 e7 rfl rfl (λ_ h=>by obtain ⟨_,_,rfl,rfl,_,_,rfl,rfl,_,_,rfl,rfl,_,_,rfl,rfl,rfl⟩:=h;exact ⟨[_],_,rfl,rfl,[_],_,rfl,rfl,[_],_,rfl,rfl,[_],_,rfl,rfl,rfl⟩) λH8 k8 w8 s8 c8=>?_
   obtain ⟨l9,e9,hp⟩:=aj hp
   refine gl (ai eI (ai eI (ai eI (ai eI eI)))) w8 (i:=0) (j:=2) (p:=p4) rfl rfl c8 (pT g4 ((ev e7).trans (ev e5))) i4 e9 rfl rfl (λ_ h=>by obtain ⟨_,_,rfl,rfl,_,_,rfl,rfl,_,_,rfl,rfl,_,_,rfl,rfl,rfl⟩:=h;exact ⟨[_],_,rfl,rfl,[_],_,rfl,rfl,[_],_,rfl,rfl,[_],_,rfl,rfl,rfl⟩) λH10 k10 w10 s10 c10=>?_
   obtain ⟨l11,e11,hp⟩:=aj hp
   refine gl (ai eI (ai eI (ai eI (ai eI eI)))) w10 (i:=0) (j:=3) (p:=p4) rfl rfl c10 (pT g4 (((ev e9).trans (ev e7)).trans (ev e5))) i4 e11 rfl rfl (λ_ h=>by obtain ⟨_,_,rfl,rfl,_,_,rfl,rfl,_,_,rfl,rfl,_,_,rfl,rfl,rfl⟩:=h;exact ⟨[_],_,rfl,rfl,[_],_,rfl,rfl,[_],_,rfl,rfl,[_],_,rfl,rfl,rfl⟩) λH12 k12 w12 s12 c12=>?_
   obtain ⟨l13,e13,hp⟩:=aj hp
   refine gl (ai eI (ai eI (ai eI (ai eI eI)))) w12 (i:=0) (j:=4) (p:=p4) rfl rfl c12 (pT g4 ((((ev e11).trans (ev e9)).trans (ev e7)).trans (ev e5))) i4 e13 rfl rfl (λ_ h=>by obtain ⟨_,_,rfl,rfl,_,_,rfl,rfl,_,_,rfl,rfl,_,_,rfl,rfl,rfl⟩:=h;exact ⟨[_],_,rfl,rfl,[_],_,rfl,rfl,[_],_,rfl,rfl,[_],_,rfl,rfl,rfl⟩) λH14 k14 w14 s14 c14=>?_
   exact ih rfl (((((ev e5).symm.trans (ev e7).symm).trans (ev e9).symm).trans (ev e11).symm).trans (ev e13).symm) ⟨w14,(s0.trans (s3.trans (s6.trans (s8.trans (s10.trans (s12.trans s14)))))),(AJ.step (s3.trans (s6.trans (s8.trans (s10.trans (s12.trans s14)))))),c14⟩ hp
  ·exact aR hp ⟨_,_,_,_,rfl,rfl,w0,s0,GL⟩
def eE.p (F:Nat) (aq:List (Int×Int×Int×Int×Int)):Option ((List (Int×Int×Int×Int×Int))):=(mkn (aq.length:Int) ((0:Int),(0:Int),(0:Int),(0:Int),(0:Int))).bind λl1=>eE.pl29 F F aq l1 0
theorem eE.P {bF:ON} {aX:Nat} {bG:Cap} {aq:List (Int×Int×Int×Int×Int)} (cT:aX=aq.length) (h0:Inn H R0 λR=>ROs (ai eI (ai eI (ai eI (ai eI eI)))) H R ⟨bF,aX,bG⟩ aq) {r:(List (Int×Int×Int×Int×Int))} (hp:eE.p F aq=some r):Rt (eE.tw F ⟨bF,aX,bG⟩ H) (eE.Q H R0 R0  r):=by
 obtain ⟨w0,cF⟩:=h0
 subst cT
 unfold eE.p at hp
 unfold eE.tw eE.twX
 have s0:=w0.rf
 obtain ⟨l1,e1,hp⟩:=aj hp
 refine uX (ai eI (ai eI (ai eI (ai eI eI)))) ((0:Int),(0:Int),(0:Int),(0:Int),(0:Int)) w0 ⟨[_],_,rfl,rfl,⟨[_],_,rfl,rfl,⟨[_],_,rfl,rfl,⟨[_],_,rfl,rfl,rfl⟩⟩⟩⟩ rfl rfl e1 λH2 k2 w2 s2 c2=>?_
 exact eE.l29_P F rfl rfl ⟨w2,(s0.trans s2),(cF.step s2),c2⟩ hp
def iw.Q (H0:Hp) (Ri R0:List Rs)  (r:(List (Int×Int×Int×Int×Int))×Int) (v:AV) (H':Hp):Prop:=∃ o0a:ON,∃ o0n:Nat,∃ o0c:Cap,∃ o0k:List AV,v=(.agg [(.sl ⟨o0a,o0n,o0c⟩),(.i r.2)])/\o0n=(r.1).length/\Out H0 Ri H' (Rs.own ⟨o0a,o0n,o0c⟩ (ai eI (ai eI (ai eI (ai eI eI)))).z o0k::R0) λR=>CR (ai eI (ai eI (ai eI (ai eI eI)))) H' R o0k (r.1)
def iw.p (F:Nat) (aq:List (Int×Int×Int×Int×Int)) (ae:Int):Option ((List (Int×Int×Int×Int×Int))×Int):=(eE.p F aq).bind λr4=>some (r4,ae)
theorem iw.P {bF:ON} {aX:Nat} {bG:Cap} {aq:List (Int×Int×Int×Int×Int)} {ae:Int} (cT:aX=aq.length) (h0:Inn H R0 λR=>ROs (ai eI (ai eI (ai eI (ai eI eI)))) H R ⟨bF,aX,bG⟩ aq) {r:(List (Int×Int×Int×Int×Int))×Int} (hp:iw.p F aq ae=some r):Rt (iw.tw F ⟨bF,aX,bG⟩ ae H) (iw.Q H R0 R0  r):=by
 obtain ⟨w0,cF⟩:=h0
 subst cT
 unfold iw.p at hp
 unfold iw.tw iw.twX
 have s0:=w0.rf
 refine bR w0 λH1 w1 s1=>?_
 refine bR w1 λH2 w2 s2=>?_
 refine bR w2 λH3 w3 s3=>?_
 refine aa (az (w3.ld (i:=2) rfl rfl)) ?_
 obtain ⟨r4,e4,hp⟩:=aj hp
 refine aP (eE.P rfl ⟨w3,(cF.step (s1.trans (s2.trans s3)))⟩ e4) ?_
 rintro _ H5 ⟨o0a_5,o0n_5,o0c_5,o0k_5,rfl,rfl,w5,s5,f5_0⟩
 refine aa rfl ?_
 refine aL w5 (i:=1) rfl rfl rfl λH6 w6 s6=>?_
 refine aa (af (w6.ld (i:=3) rfl rfl)) ?_
 refine aL w6 (i:=1) rfl rfl rfl λH7 w7 s7=>?_
 refine aa (az (w7.ld (i:=1) rfl rfl)) ?_
 refine aa (af (w7.ld (i:=1) rfl rfl)) ?_
 refine aL w7 (i:=2) rfl rfl rfl λH8 w8 s8=>?_
 refine aL w8 (i:=2) rfl rfl rfl λH9 w9 s9=>?_
 refine aa (az (w9.ld (i:=2) rfl rfl)) ?_
 refine aa (af (w9.ld (i:=2) rfl rfl)) ?_
 obtain ⟨w10,s10⟩:=w9.pick' [0] 4 rfl rfl rfl
 exact aR hp ⟨_,_,_,_,rfl,rfl,w10,(s0.trans (s1.trans (s2.trans (s3.trans (s5.trans (s6.trans (s7.trans (s8.trans (s9.trans s10))))))))),(f5_0.step (s6.trans (s7.trans (s8.trans (s9.trans s10)))))⟩
def fv.Q (H0:Hp) (Ri R0:List Rs)  (r:Bool) (v:AV) (H':Hp):Prop:=v=(.bool r)/\Out H0 Ri H' (R0) λR=>True
def fv.p (F:Nat) (ac:Int) (ap:Int) (de:Int):Option (Bool):=(bif (decide (ac>=ap)) then (some (decide (ac<=de))) else (some false))
theorem fv.P {ac ap de:Int}  (h0:Inn H R0 λR=>True) {r:Bool} (hp:fv.p F ac ap de=some r):Rt (fv.tw F ac ap de H) (fv.Q H R0 R0  r):=by
 obtain ⟨w0,_⟩:=h0
 unfold fv.p at hp
 unfold fv.tw fv.twX
 have s0:=w0.rf
 refine aM hp (λhp=>?_) λhp=>?_
 ·exact aR hp ⟨rfl,w0,s0,trivial⟩
 ·exact aR hp ⟨rfl,w0,s0,trivial⟩
def fw.Q (H0:Hp) (Ri R0:List Rs)  (r:Int) (v:AV) (H':Hp):Prop:=v=(.i r)/\Out H0 Ri H' (R0) λR=>True
def fw.p (F:Nat) (ac:Int) (ae:Int) (aK:Int) (cL:Int) (eJ:Int):Option (Int):=(ix ([ac,ae,aK,cL]:List Int) eJ).bind λn3=>some (gt ([ac,ae,aK,cL]:List Int) n3)
theorem fw.P {ac ae aK cL cH eJ:Int}  (h0:Inn H R0 λR=>True) {r:Int} (hp:fw.p F ac ae aK cL eJ=some r):Rt (fw.tw F ac ae aK cL cH eJ H) (fw.Q H R0 R0  r):=by
 obtain ⟨w0,_⟩:=h0
 unfold fw.p at hp
 unfold fw.tw fw.twX
 have s0:=w0.rf
 refine bR w0 λH1 w1 s1=>?_
 refine aa (af (w1.ld (i:=0) rfl rfl)) ?_
 refine aa (af (w1.ld (i:=0) rfl rfl)) ?_
 refine aa (af (w1.ld (i:=0) rfl rfl)) ?_
 refine aa (af (w1.ld (i:=0) rfl rfl)) ?_
 refine lL eI w1 (n:=4) (l:=([ac,ae,aK,cL]:List Int)) rfl (CR.cons1 rfl (CR.cons1 rfl (CR.cons1 rfl (CR.cons1 rfl CR.empty)))) rfl λH2 w2 s2 c2=>?_
 obtain ⟨n3,g3,hp⟩:=aj hp
 obtain ⟨p3,q3,i3,h3,j3⟩:=W.ixo (E:=eI) w2 (i:=0) rfl rfl c2 g3
 refine aa i3 ?_
 have h3:_=[_]:=h3
 subst h3
 refine aa (af (j3 0 _ rfl)) ?_
 obtain ⟨w4,s4⟩:=w2.pick' [] 2 rfl rfl rfl
 exact aR hp ⟨rfl,w4,(s0.trans (s1.trans (s2.trans s4))),trivial⟩
def fx.Q (H0:Hp) (Ri R0:List Rs)  (r:Bool) (v:AV) (H':Hp):Prop:=v=(.bool r)/\Out H0 Ri H' (R0) λR=>True
def fx.p (F:Nat) (cH:Int) (eJ:Int):Option (Bool):=(bif (eJ==0) then (some true) else ((bif (eJ==3) then ((bif (cH==1) then (some true) else ((bif (eJ==1) then (some (cH==(-1))) else (some false))))) else ((bif (eJ==1) then (some (cH==(-1))) else (some false))))))
theorem fx.P {ac ae aK cL cH eJ:Int}  (h0:Inn H R0 λR=>True) {r:Bool} (hp:fx.p F cH eJ=some r):Rt (fx.tw F ac ae aK cL cH eJ H) (fx.Q H R0 R0  r):=by
 obtain ⟨w0,_⟩:=h0
 unfold fx.p at hp
 unfold fx.tw fx.twX
 have s0:=w0.rf
 refine bR w0 λH1 w1 s1=>?_
 refine aM hp (λhp=>?_) λhp=>?_
 ·obtain ⟨w2,s2⟩:=w1.pick' [] 1 rfl rfl rfl
  exact aR hp ⟨rfl,w2,(s0.trans (s1.trans s2)),trivial⟩
 ·refine aM hp (λhp=>?_) λhp=>?_
  ·refine aa (af (w1.ld (i:=0) rfl rfl)) ?_
   refine aM hp (λhp=>?_) λhp=>?_
   ·obtain ⟨w3,s3⟩:=w1.pick' [] 1 rfl rfl rfl
    exact aR hp ⟨rfl,w3,(s0.trans (s1.trans s3)),trivial⟩
   ·refine aM hp (λhp=>?_) λhp=>?_
    ·refine aa (af (w1.ld (i:=0) rfl rfl)) ?_
     obtain ⟨w4,s4⟩:=w1.pick' [] 1 rfl rfl rfl
     exact aR hp ⟨rfl,w4,(s0.trans (s1.trans s4)),trivial⟩
    ·obtain ⟨w5,s5⟩:=w1.pick' [] 1 rfl rfl rfl
     exact aR hp ⟨rfl,w5,(s0.trans (s1.trans s5)),trivial⟩
  ·refine aM hp (λhp=>?_) λhp=>?_
   ·refine aa (af (w1.ld (i:=0) rfl rfl)) ?_
    obtain ⟨w6,s6⟩:=w1.pick' [] 1 rfl rfl rfl
    exact aR hp ⟨rfl,w6,(s0.trans (s1.trans s6)),trivial⟩
   ·obtain ⟨w7,s7⟩:=w1.pick' [] 1 rfl rfl rfl
    exact aR hp ⟨rfl,w7,(s0.trans (s1.trans s7)),trivial⟩
def bU.Q (H0:Hp) (Ri R0:List Rs)  (r:Bool) (v:AV) (H':Hp):Prop:=v=(.bool r)/\Out H0 Ri H' (R0) λR=>True
def bU.S61 (H0:Hp) (Ri R0:List Rs)  (C:Nat->Nat->Int->Sl->Sl->Int->Hp->OA) (pC:List (Int×Int×Int×Int×Int)->Int->List Bool->List Bool->Int->Option (Bool)):Prop:=∀ {vm vn GM:ON} {tg jg th Dm:Nat} {vo vp GN:Cap} {jr:List (Int×Int×Int×Int×Int)} {AK dL mb:Int} {nU vq:List Bool} {vr GO:List AV},∀ {H:Hp},tg=jr.length->th=nU.length->Dm=vq.length->(Out H0 Ri H (Rs.blk jg [.sl ⟨vm,tg,vo⟩,.i AK]::Rs.own ⟨vn,th,vp⟩ fN.z vr::Rs.own ⟨GM,Dm,GN⟩ fN.z GO::R0) λR=>ROs (ai eI (ai eI (ai eI (ai eI eI)))) H R ⟨vm,tg,vo⟩ jr/\CR fN H R vr nU/\CR fN H R GO vq)->∀ {r:Bool},pC jr dL nU vq mb=some r->Rt (C jg 0 dL ⟨vn,th,vp⟩ ⟨GM,Dm,GN⟩ mb H) (bU.Q H0 Ri R0  r)
def bU.S3927 (H0:Hp) (Ri R0:List Rs)  (C:Nat->Nat->Int->Sl->Sl->Int->Nat->Nat->Int->Hp->OA) (pC:List (Int×Int×Int×Int×Int)->Int->List Bool->List Bool->Int->Int->Int->Int->Int->Int->Int->Option (Bool)):Prop:=∀ {GP GQ GR:ON} {Dn pp Do Dp kI:Nat} {GS GT GU:Cap} {uh:List (Int×Int×Int×Int×Int)} {PO ma jx vt vu vv vw vx lf:Int} {rn rp:List Bool} {GV GW:List AV},∀ {H:Hp},Dn=uh.length->Do=rn.length->Dp=rp.length->(Out H0 Ri H (Rs.blk pp [.sl ⟨GP,Dn,GS⟩,.i PO]::Rs.own ⟨GQ,Do,GT⟩ fN.z GV::Rs.own ⟨GR,Dp,GU⟩ fN.z GW::Rs.blk kI [.i vt,.i vu,.i vv,.i vw,.i vx]::R0) λR=>ROs (ai eI (ai eI (ai eI (ai eI eI)))) H R ⟨GP,Dn,GS⟩ uh/\CR fN H R GV rn/\CR fN H R GW rp)->∀ {r:Bool},pC uh ma rn rp jx vt vu vv vw vx lf=some r->Rt (C pp 0 ma ⟨GQ,Do,GT⟩ ⟨GR,Dp,GU⟩ jx kI 0 lf H) (bU.Q H0 Ri R0  r)
def bU.pl3927 (F:Nat) (ch:List (Int×Int×Int×Int×Int)->Int->List Bool->List Bool->Int->Option (Bool)):Nat->List (Int×Int×Int×Int×Int)->Int->List Bool->List Bool->Int->Int->Int->Int->Int->Int->Int->Option (Bool)
 | 0,_,_,_,_,_,_,_,_,_,_,_=>none
 | k+1,uh,ma,rn,rp,jx,vt,vu,vv,vw,vx,lf=>(bif (decide (lf<4)) then ((fw.p F vt vu vv vw lf).bind λr1=>(fv.p F r1 0 (IntKind.i64.wrap (ma - 1))).bind λr3=>(bif (!r3) then (some false) else ((fx.p F vx lf).bind λr6=>(bif r6 then ((ix rn r1).bind λn8=>(bif (gt rn n8) then (some false) else ((ix rn r1).bind λn10=>(some (rn.set n10 true)).bind λl11=>bU.pl3927 F ch k uh ma l11 rp jx vt vu vv vw vx (IntKind.i64.wrap (lf+1))))) else ((ix rp r1).bind λn13=>(bif (gt rp n13) then (some false) else ((ix rp r1).bind λn15=>(some (rp.set n15 true)).bind λl16=>bU.pl3927 F ch k uh ma rn l16 jx vt vu vv vw vx (IntKind.i64.wrap (lf+1))))))))) else (ch uh ma rn rp (IntKind.i64.wrap (jx+1))))
theorem bU.l3927_P  {C61_:Nat->Nat->Int->Sl->Sl->Int->Hp->OA} {ch:List (Int×Int×Int×Int×Int)->Int->List Bool->List Bool->Int->Option (Bool)} (hC61:bU.S61 H0 Ri R0  C61_ ch):∀ k,bU.S3927 H0 Ri R0  (bU.l3927 F (fw.tw F) (fv.tw F) (fx.tw F) C61_ k) (bU.pl3927 F ch k):=by
 intro k
 induction k with
 | zero=>unfold bU.S3927;intros;rename_i hp;cases hp
 | succ k ih=>
  intro GP GQ GR Dn pp Do Dp kI GS GT GU uh PO ma jx vt vu vv vw vx lf rn rp GV GW H ZZ Z_ aaa h0 r hp
  obtain ⟨w0,s0,GX,AL,AM⟩:=h0
  subst ZZ
  subst Z_
  subst aaa
  unfold bU.pl3927 at hp
  unfold bU.l3927
  refine aM hp (λhp=>?_) λhp=>?_
  ·refine aa (af (w0.ld (i:=3) rfl rfl)) ?_
   refine aa (af (w0.ld (i:=3) rfl rfl)) ?_
   refine aa (af (w0.ld (i:=3) rfl rfl)) ?_
   refine aa (af (w0.ld (i:=3) rfl rfl)) ?_
   refine aa (af (w0.ld (i:=3) rfl rfl)) ?_
   obtain ⟨r1,e1,hp⟩:=aj hp
   refine aP (fw.P ⟨w0,trivial⟩ e1) ?_
   rintro _ H2 ⟨rfl,w2,s2,_⟩
   refine aa rfl ?_
   obtain ⟨r3,e3,hp⟩:=aj hp
   refine aP (fv.P ⟨w2,trivial⟩ e3) ?_
   rintro _ H4 ⟨rfl,w4,s4,_⟩
   refine aa rfl ?_
   refine aM hp (λhp=>?_) λhp=>?_
   ·obtain ⟨w5,s5⟩:=w4.pick' [] 4 rfl rfl rfl
    exact aR hp ⟨rfl,w5,(s0.trans (s2.trans (s4.trans s5))),trivial⟩
   ·refine aa (af (w4.ld (i:=3) rfl rfl)) ?_
    refine aa (af (w4.ld (i:=3) rfl rfl)) ?_
    refine aa (af (w4.ld (i:=3) rfl rfl)) ?_
    refine aa (af (w4.ld (i:=3) rfl rfl)) ?_
    refine aa (af (w4.ld (i:=3) rfl rfl)) ?_
    obtain ⟨r6,e6,hp⟩:=aj hp
    refine aP (fx.P ⟨w4,trivial⟩ e6) ?_
    rintro _ H7 ⟨rfl,w7,s7,_⟩
    refine aa rfl ?_
    refine aM hp (λhp=>?_) λhp=>?_
    ·obtain ⟨n8,g8,hp⟩:=aj hp
     obtain ⟨p8,q8,i8,h8,j8⟩:=W.ixo (E:=fN) w7 (i:=1) rfl rfl (AL.step (s2.trans (s4.trans s7))) g8
     refine aa i8 ?_
     have h8:_=[_]:=h8
     subst h8
     refine aa (ns (j8 0 _ rfl)) ?_
     refine aM hp (λhp=>?_) λhp=>?_
     ·obtain ⟨w9,s9⟩:=w7.pick' [] 4 rfl rfl rfl
      exact aR hp ⟨rfl,w9,(s0.trans (s2.trans (s4.trans (s7.trans s9)))),trivial⟩
     ·obtain ⟨n10,g10,hp⟩:=aj hp
      obtain ⟨p10,q10,i10,h10,j10⟩:=W.ixo (E:=fN) w7 (i:=1) rfl rfl (AL.step (s2.trans (s4.trans s7))) g10
      refine aa i10 ?_
      obtain ⟨l11,e11,hp⟩:=aj hp
      refine gl fN w7 (i:=1) (j:=0) (p:=p10) rfl rfl (AL.step (s2.trans (s4.trans s7))) g10 i10 e11 rfl rfl (λ_ h=>by have h:_=[_]:=h;subst h;exact rfl) λH12 k12 w12 s12 c12=>?_
      exact ih rfl ((ev e11).symm) rfl ⟨w12,(s0.trans (s2.trans (s4.trans (s7.trans s12)))),(GX.step (s2.trans (s4.trans (s7.trans s12)))),c12,(AM.step (s2.trans (s4.trans (s7.trans s12))))⟩ hp
    ·obtain ⟨n13,g13,hp⟩:=aj hp
     obtain ⟨p13,q13,i13,h13,j13⟩:=W.ixo (E:=fN) w7 (i:=2) rfl rfl (AM.step (s2.trans (s4.trans s7))) g13
     refine aa i13 ?_
     have h13:_=[_]:=h13
     subst h13
     refine aa (ns (j13 0 _ rfl)) ?_
     refine aM hp (λhp=>?_) λhp=>?_
     ·obtain ⟨w14,s14⟩:=w7.pick' [] 4 rfl rfl rfl
      exact aR hp ⟨rfl,w14,(s0.trans (s2.trans (s4.trans (s7.trans s14)))),trivial⟩
     ·obtain ⟨n15,g15,hp⟩:=aj hp
      obtain ⟨p15,q15,i15,h15,j15⟩:=W.ixo (E:=fN) w7 (i:=2) rfl rfl (AM.step (s2.trans (s4.trans s7))) g15
      refine aa i15 ?_
      obtain ⟨l16,e16,hp⟩:=aj hp
      refine gl fN w7 (i:=2) (j:=0) (p:=p15) rfl rfl (AM.step (s2.trans (s4.trans s7))) g15 i15 e16 rfl rfl (λ_ h=>by have h:_=[_]:=h;subst h;exact rfl) λH17 k17 w17 s17 c17=>?_
      exact ih rfl rfl ((ev e16).symm) ⟨w17,(s0.trans (s2.trans (s4.trans (s7.trans s17)))),(GX.step (s2.trans (s4.trans (s7.trans s17)))),(AL.step (s2.trans (s4.trans (s7.trans s17)))),c17⟩ hp
  ·obtain ⟨w18,s18⟩:=w0.pick' [0,1,2] 4 rfl rfl rfl
   exact hC61 rfl rfl rfl ⟨w18,(s0.trans s18),(GX.step s18),(AL.step s18),(AM.step s18)⟩ hp
def bU.pl61 (F:Nat) :Nat->List (Int×Int×Int×Int×Int)->Int->List Bool->List Bool->Int->Option (Bool)
 | 0,_,_,_,_,_=>none
 | k+1,jr,dL,nU,vq,mb=>(bif (decide (mb<(jr.length:Int))) then ((ix jr mb).bind λn1=>(bif (((gt jr n1).2.2.2.2) != 1) then ((bif (((gt jr n1).2.2.2.2) != (-1)) then (some false) else (bU.pl3927 F (bU.pl61 F k) F jr dL nU vq mb ((gt jr n1).1) ((gt jr n1).2.1) ((gt jr n1).2.2.1) ((gt jr n1).2.2.2.1) ((gt jr n1).2.2.2.2) 0))) else (bU.pl3927 F (bU.pl61 F k) F jr dL nU vq mb ((gt jr n1).1) ((gt jr n1).2.1) ((gt jr n1).2.2.1) ((gt jr n1).2.2.2.1) ((gt jr n1).2.2.2.2) 0))) else (some true))
theorem bU.l61_P  :∀ k,bU.S61 H0 Ri R0  (bU.l61 F (fw.tw F) (fv.tw F) (fx.tw F)  k) (bU.pl61 F  k):=by
 intro k
 induction k with
 | zero=>unfold bU.S61;intros;rename_i hp;cases hp
 | succ k ih=>
  intro vm vn GM tg jg th Dm vo vp GN jr AK dL mb nU vq vr GO H GY GZ aab h0 r hp
  obtain ⟨w0,s0,zx,zy,PP⟩:=h0
  subst GY
  subst GZ
  subst aab
  unfold bU.pl61 at hp
  unfold bU.l61
  refine aa (az (w0.ld (i:=0) rfl rfl)) ?_
  refine aM hp (λhp=>?_) λhp=>?_
  ·refine aa (az (w0.ld (i:=0) rfl rfl)) ?_
   obtain ⟨n1,g1,hp⟩:=aj hp
   obtain ⟨p1,q1,i1,h1,j1⟩:=ROs.ixr zx rfl g1
   refine aa i1 ?_
   obtain ⟨_,_,rfl,rfl,_,_,rfl,rfl,_,_,rfl,rfl,_,_,rfl,rfl,rfl⟩:=h1
   refine aa (af (j1 0 _ rfl)) ?_
   refine aa (af (j1 1 _ rfl)) ?_
   refine aa (af (j1 2 _ rfl)) ?_
   refine aa (af (j1 3 _ rfl)) ?_
   refine aa (af (j1 4 _ rfl)) ?_
   refine bR w0 λH2 w2 s2=>?_
   refine aL w2 (i:=0) rfl rfl rfl λH3 w3 s3=>?_
   refine aL w3 (i:=0) rfl rfl rfl λH4 w4 s4=>?_
   refine aL w4 (i:=0) rfl rfl rfl λH5 w5 s5=>?_
   refine aL w5 (i:=0) rfl rfl rfl λH6 w6 s6=>?_
   refine aL w6 (i:=0) rfl rfl rfl λH7 w7 s7=>?_
   refine aa (af (w7.ld (i:=0) rfl rfl)) ?_
   refine aM hp (λhp=>?_) λhp=>?_
   ·refine aa (af (w7.ld (i:=0) rfl rfl)) ?_
    refine aM hp (λhp=>?_) λhp=>?_
    ·obtain ⟨w8,s8⟩:=w7.pick' [] 4 rfl rfl rfl
     exact aR hp ⟨rfl,w8,(s0.trans (s2.trans (s3.trans (s4.trans (s5.trans (s6.trans (s7.trans s8))))))),trivial⟩
    ·obtain ⟨w9,s9⟩:=w7.pick' [1,2,3,0] 4 rfl rfl rfl
     exact bU.l3927_P (@ih) F rfl rfl rfl ⟨w9,(s0.trans (s2.trans (s3.trans (s4.trans (s5.trans (s6.trans (s7.trans s9))))))),(zx.step (s2.trans (s3.trans (s4.trans (s5.trans (s6.trans (s7.trans s9))))))),(zy.step (s2.trans (s3.trans (s4.trans (s5.trans (s6.trans (s7.trans s9))))))),(PP.step (s2.trans (s3.trans (s4.trans (s5.trans (s6.trans (s7.trans s9)))))))⟩ hp
   ·obtain ⟨w10,s10⟩:=w7.pick' [1,2,3,0] 4 rfl rfl rfl
    exact bU.l3927_P (@ih) F rfl rfl rfl ⟨w10,(s0.trans (s2.trans (s3.trans (s4.trans (s5.trans (s6.trans (s7.trans s10))))))),(zx.step (s2.trans (s3.trans (s4.trans (s5.trans (s6.trans (s7.trans s10))))))),(zy.step (s2.trans (s3.trans (s4.trans (s5.trans (s6.trans (s7.trans s10))))))),(PP.step (s2.trans (s3.trans (s4.trans (s5.trans (s6.trans (s7.trans s10)))))))⟩ hp
  ·obtain ⟨w11,s11⟩:=w0.pick' [] 3 rfl rfl rfl
   exact aR hp ⟨rfl,w11,(s0.trans s11),trivial⟩
def bU.p (F:Nat) (aq:List (Int×Int×Int×Int×Int)):Option (Bool):=(mkn (IntKind.i64.wrap (2 * (aq.length:Int))) false).bind λl2=>(mkn (IntKind.i64.wrap (2 * (aq.length:Int))) false).bind λl4=>bU.pl61 F F aq (IntKind.i64.wrap (2 * (aq.length:Int))) l2 l4 0
theorem bU.P {bF:ON} {aX:Nat} {bG:Cap} {aq:List (Int×Int×Int×Int×Int)} {ae:Int} (cT:aX=aq.length) (h0:Inn H R0 λR=>ROs (ai eI (ai eI (ai eI (ai eI eI)))) H R ⟨bF,aX,bG⟩ aq) {r:Bool} (hp:bU.p F aq=some r):Rt (bU.tw F ⟨bF,aX,bG⟩ ae H) (bU.Q H R0 R0  r):=by
 obtain ⟨w0,cF⟩:=h0
 subst cT
 unfold bU.p at hp
 unfold bU.tw bU.twX
 have s0:=w0.rf
 refine bR w0 λH1 w1 s1=>?_
 refine aa (az (w1.ld (i:=0) rfl rfl)) ?_
 obtain ⟨l2,e2,hp⟩:=aj hp
 refine uX fN false w1 rfl rfl rfl e2 λH3 k3 w3 s3 c3=>?_
 obtain ⟨l4,e4,hp⟩:=aj hp
 refine uX fN false w3 rfl rfl rfl e4 λH5 k5 w5 s5 c5=>?_
 obtain ⟨w6,s6⟩:=w5.pick' [2,1,0] 3 rfl rfl rfl
 exact bU.l61_P F rfl rfl rfl ⟨w6,(s0.trans (s1.trans (s3.trans (s5.trans s6)))),(cF.step (s1.trans (s3.trans (s5.trans s6)))),(c3.step (s5.trans s6)),(c5.step s6)⟩ hp
def bm.Q (H0:Hp) (Ri R0:List Rs)  (r:Int×Int) (v:AV) (H':Hp):Prop:=v=(.tup [(.i r.1),(.i r.2)])/\Out H0 Ri H' (R0) λR=>True
def bm.S13 (H0:Hp) (Ri R0:List Rs)  (C:Int->Bool->Nat->Nat->Int->Hp->OA) (pC:Int->Bool->List (Int×Int×Int×Int×Int)->Int->Option (Int×Int)):Prop:=∀ {c_ PQ om:Int} {pt:Bool} {G_:ON} {Dq kJ:Nat} {Ha:Cap} {vy:List (Int×Int×Int×Int×Int)},∀ {H:Hp},Dq=vy.length->(Out H0 Ri H (Rs.blk kJ [.sl ⟨G_,Dq,Ha⟩,.i PQ]::R0) λR=>ROs (ai eI (ai eI (ai eI (ai eI eI)))) H R ⟨G_,Dq,Ha⟩ vy)->∀ {r:Int×Int},pC c_ pt vy om=some r->Rt (C c_ pt kJ 0 om H) (bm.Q H0 Ri R0  r)
def bm.S213 (H0:Hp) (Ri R0:List Rs)  (C:Int->Bool->Nat->Nat->Int->Int->Hp->OA) (pC:Int->Bool->List (Int×Int×Int×Int×Int)->Int->Int->Option (Int×Int)):Prop:=∀ {mc PR kq kr:Int} {md:Bool} {Hb:ON} {Dr ol:Nat} {Hc:Cap} {pc:List (Int×Int×Int×Int×Int)},∀ {H:Hp},Dr=pc.length->(Out H0 Ri H (Rs.blk ol [.sl ⟨Hb,Dr,Hc⟩,.i PR]::R0) λR=>ROs (ai eI (ai eI (ai eI (ai eI eI)))) H R ⟨Hb,Dr,Hc⟩ pc)->∀ {r:Int×Int},pC mc md pc kq kr=some r->Rt (C mc md ol 0 kq kr H) (bm.Q H0 Ri R0  r)
def bm.pj3 (F:Nat) (hU:Int->Bool->List (Int×Int×Int×Int×Int)->Int->Option (Int×Int)) (pW:Int) (wY:Bool) (AN:List (Int×Int×Int×Int×Int)) (w_:Int):Option (Int×Int):=hU pW wY AN (IntKind.i64.wrap (w_+1))
theorem bm.j3_P  {C13_:Int->Bool->Nat->Nat->Int->Hp->OA} {hU:Int->Bool->List (Int×Int×Int×Int×Int)->Int->Option (Int×Int)} (hC13:bm.S13 H0 Ri R0  C13_ hU) {pW ui w_:Int} {wY:Bool} {PU:ON} {Hd pr:Nat} {PW:Cap} {AN:List (Int×Int×Int×Int×Int)} (aac:Hd=AN.length) (h0:Out H0 Ri H (Rs.blk pr [.sl ⟨PU,Hd,PW⟩,.i ui]::R0) λR=>ROs (ai eI (ai eI (ai eI (ai eI eI)))) H R ⟨PU,Hd,PW⟩ AN) {r:Int×Int} (hp:bm.pj3 F hU pW wY AN w_=some r):Rt (bm.j3 F (fw.tw F) (fx.tw F) C13_ pW wY pr 0 w_ H) (bm.Q H0 Ri R0  r):=by
 obtain ⟨w0,s0,aad⟩:=h0
 subst aac
 unfold bm.pj3 at hp
 unfold bm.j3
 exact hC13 rfl ⟨w0,s0,aad⟩ hp
def bm.pj4 (F:Nat) (hU:Int->Bool->List (Int×Int×Int×Int×Int)->Int->Option (Int×Int)) (xa:Int) (xb:Bool) (AO:List (Int×Int×Int×Int×Int)) (xc:Int):Option (Int×Int):=bm.pj3 F hU xa xb AO xc
theorem bm.j4_P  {C13_:Int->Bool->Nat->Nat->Int->Hp->OA} {hU:Int->Bool->List (Int×Int×Int×Int×Int)->Int->Option (Int×Int)} (hC13:bm.S13 H0 Ri R0  C13_ hU) {xa aae xc:Int} {xb:Bool} {PX:ON} {He CE:Nat} {PY:Cap} {AO:List (Int×Int×Int×Int×Int)} (aaf:He=AO.length) (h0:Out H0 Ri H (Rs.blk CE [.sl ⟨PX,He,PY⟩,.i aae]::R0) λR=>ROs (ai eI (ai eI (ai eI (ai eI eI)))) H R ⟨PX,He,PY⟩ AO) {r:Int×Int} (hp:bm.pj4 F hU xa xb AO xc=some r):Rt (bm.j4 F (fw.tw F) (fx.tw F) C13_ xa xb CE 0 xc H) (bm.Q H0 Ri R0  r):=by
 obtain ⟨w0,s0,aag⟩:=h0
 subst aaf
 unfold bm.pj4 at hp
 unfold bm.j4
 exact bm.j3_P (@hC13) rfl ⟨w0,s0,aag⟩ hp
def bm.pl213 (F:Nat) (hU:Int->Bool->List (Int×Int×Int×Int×Int)->Int->Option (Int×Int)):Nat->Int->Bool->List (Int×Int×Int×Int×Int)->Int->Int->Option (Int×Int)
 | 0,_,_,_,_,_=>none
 | k+1,mc,md,pc,kq,kr=>(bif (decide (kr<4)) then ((ix pc kq).bind λn1=>(fw.p F ((gt pc n1).1) ((gt pc n1).2.1) ((gt pc n1).2.2.1) ((gt pc n1).2.2.2.1) kr).bind λr2=>(bif (r2==mc) then ((ix pc kq).bind λn4=>(fx.p F ((gt pc n4).2.2.2.2) kr).bind λr5=>(bif (r5==md) then (some (kq,kr)) else (bm.pl213 F hU k mc md pc kq (IntKind.i64.wrap (kr+1))))) else (bm.pl213 F hU k mc md pc kq (IntKind.i64.wrap (kr+1))))) else (bm.pj4 F hU mc md pc kq))
theorem bm.l213_P  {C13_:Int->Bool->Nat->Nat->Int->Hp->OA} {hU:Int->Bool->List (Int×Int×Int×Int×Int)->Int->Option (Int×Int)} (hC13:bm.S13 H0 Ri R0  C13_ hU):∀ k,bm.S213 H0 Ri R0  (bm.l213 F (fw.tw F) (fx.tw F) C13_ k) (bm.pl213 F hU k):=by
 intro k
 induction k with
 | zero=>unfold bm.S213;intros;rename_i hp;cases hp
 | succ k ih=>
  intro mc PR kq kr md Hb Dr ol Hc pc H aah h0 r hp
  obtain ⟨w0,s0,AP⟩:=h0
  subst aah
  unfold bm.pl213 at hp
  unfold bm.l213
  refine aM hp (λhp=>?_) λhp=>?_
  ·refine aa (az (w0.ld (i:=0) rfl rfl)) ?_
   obtain ⟨n1,g1,hp⟩:=aj hp
   obtain ⟨p1,q1,i1,h1,j1⟩:=ROs.ixr AP rfl g1
   refine aa i1 ?_
   obtain ⟨_,_,rfl,rfl,_,_,rfl,rfl,_,_,rfl,rfl,_,_,rfl,rfl,rfl⟩:=h1
   refine aa (af (j1 0 _ rfl)) ?_
   refine aa (af (j1 1 _ rfl)) ?_
   refine aa (af (j1 2 _ rfl)) ?_
   refine aa (af (j1 3 _ rfl)) ?_
   refine aa (af (j1 4 _ rfl)) ?_
   obtain ⟨r2,e2,hp⟩:=aj hp
   refine aP (fw.P ⟨w0,trivial⟩ e2) ?_
   rintro _ H3 ⟨rfl,w3,s3,_⟩
   refine aa rfl ?_
   refine aM hp (λhp=>?_) λhp=>?_
   ·refine aa (az (w3.ld (i:=0) rfl rfl)) ?_
    obtain ⟨n4,g4,hp⟩:=aj hp
    obtain ⟨p4,q4,i4,h4,j4⟩:=ROs.ixr (AP.step s3) rfl g4
    refine aa i4 ?_
    obtain ⟨_,_,rfl,rfl,_,_,rfl,rfl,_,_,rfl,rfl,_,_,rfl,rfl,rfl⟩:=h4
    refine aa (af (j4 0 _ rfl)) ?_
    refine aa (af (j4 1 _ rfl)) ?_
    refine aa (af (j4 2 _ rfl)) ?_
    refine aa (af (j4 3 _ rfl)) ?_
    refine aa (af (j4 4 _ rfl)) ?_
    obtain ⟨r5,e5,hp⟩:=aj hp
    refine aP (fx.P ⟨w3,trivial⟩ e5) ?_
    rintro _ H6 ⟨rfl,w6,s6,_⟩
    refine aa rfl ?_
    refine aM hp (λhp=>?_) λhp=>?_
    ·obtain ⟨w7,s7⟩:=w6.pick' [] 1 rfl rfl rfl
     exact aR hp ⟨rfl,w7,(s0.trans (s3.trans (s6.trans s7))),trivial⟩
    ·exact ih rfl ⟨w6,(s0.trans (s3.trans s6)),(AP.step (s3.trans s6))⟩ hp
   ·exact ih rfl ⟨w3,(s0.trans s3),(AP.step s3)⟩ hp
  ·exact bm.j4_P (@hC13) rfl ⟨w0,s0,AP⟩ hp
def bm.pl13 (F:Nat) :Nat->Int->Bool->List (Int×Int×Int×Int×Int)->Int->Option (Int×Int)
 | 0,_,_,_,_=>none
 | k+1,c_,pt,vy,om=>(bif (decide (om<(vy.length:Int))) then (bm.pl213 F (bm.pl13 F k) F c_ pt vy om 0) else (some ((-1),(-1))))
theorem bm.l13_P  :∀ k,bm.S13 H0 Ri R0  (bm.l13 F (fw.tw F) (fx.tw F)  k) (bm.pl13 F  k):=by
 intro k
 induction k with
 | zero=>unfold bm.S13;intros;rename_i hp;cases hp
 | succ k ih=>
  intro c_ PQ om pt G_ Dq kJ Ha vy H aai h0 r hp
  obtain ⟨w0,s0,aaj⟩:=h0
  subst aai
  unfold bm.pl13 at hp
  unfold bm.l13
  refine aa (az (w0.ld (i:=0) rfl rfl)) ?_
  refine aM hp (λhp=>?_) λhp=>?_
  ·exact bm.l213_P (@ih) F rfl ⟨w0,s0,aaj⟩ hp
  ·obtain ⟨w1,s1⟩:=w0.pick' [] 1 rfl rfl rfl
   exact aR hp ⟨rfl,w1,(s0.trans s1),trivial⟩
def bm.p (F:Nat) (aq:List (Int×Int×Int×Int×Int)) (ah:Int) (cf:Bool):Option (Int×Int):=bm.pl13 F F ah cf aq 0
theorem bm.P {bF:ON} {aX:Nat} {bG:Cap} {aq:List (Int×Int×Int×Int×Int)} {ae ah:Int} {cf:Bool} (cT:aX=aq.length) (h0:Inn H R0 λR=>ROs (ai eI (ai eI (ai eI (ai eI eI)))) H R ⟨bF,aX,bG⟩ aq) {r:Int×Int} (hp:bm.p F aq ah cf=some r):Rt (bm.tw F ⟨bF,aX,bG⟩ ae ah cf H) (bm.Q H R0 R0  r):=by
 obtain ⟨w0,cF⟩:=h0
 subst cT
 unfold bm.p at hp
 unfold bm.tw bm.twX
 have s0:=w0.rf
 refine bR w0 λH1 w1 s1=>?_
 exact bm.l13_P F rfl ⟨w1,(s0.trans s1),(cF.step s1)⟩ hp
def gM.Q (H0:Hp) (Ri R0:List Rs)  (r:Int) (v:AV) (H':Hp):Prop:=v=(.i r)/\Out H0 Ri H' (R0) λR=>True
def gM.p (F:Nat) (aq:List (Int×Int×Int×Int×Int)) (ah:Int):Option (Int):=(ix aq (IntKind.i64.wrap (Int.tdiv ah 4))).bind λn2=>(fw.p F ((gt aq n2).1) ((gt aq n2).2.1) ((gt aq n2).2.2.1) ((gt aq n2).2.2.2.1) (Int.tmod (IntKind.i64.wrap ((Int.tmod ah 4)+1)) 4)).bind λr9=>(fx.p F ((gt aq n2).2.2.2.2) (Int.tmod (IntKind.i64.wrap ((Int.tmod ah 4)+1)) 4)).bind λr12=>(bm.p F aq r9 (!r12)).bind λr15=>some (IntKind.i64.wrap ((IntKind.i64.wrap (4 * r15.1))+r15.2))
theorem gM.P {bF:ON} {aX:Nat} {bG:Cap} {aq:List (Int×Int×Int×Int×Int)} {ae ah:Int} (cT:aX=aq.length) (h0:Inn H R0 λR=>ROs (ai eI (ai eI (ai eI (ai eI eI)))) H R ⟨bF,aX,bG⟩ aq) {r:Int} (hp:gM.p F aq ah=some r):Rt (gM.tw F ⟨bF,aX,bG⟩ ae ah H) (gM.Q H R0 R0  r):=by
 obtain ⟨w0,cF⟩:=h0
 subst cT
 unfold gM.p at hp
 unfold gM.tw gM.twX
 have s0:=w0.rf
 refine bR w0 λH1 w1 s1=>?_
 refine aa (az (w1.ld (i:=0) rfl rfl)) ?_
 obtain ⟨n2,g2,hp⟩:=aj hp
 obtain ⟨p2,q2,i2,h2,j2⟩:=ROs.ixr (cF.step s1) rfl g2
 refine aa i2 ?_
 obtain ⟨_,_,rfl,rfl,_,_,rfl,rfl,_,_,rfl,rfl,_,_,rfl,rfl,rfl⟩:=h2
 refine aa (af (j2 0 _ rfl)) ?_
 refine aa (af (j2 1 _ rfl)) ?_
 refine aa (af (j2 2 _ rfl)) ?_
 refine aa (af (j2 3 _ rfl)) ?_
 refine aa (af (j2 4 _ rfl)) ?_
 refine bR w1 λH3 w3 s3=>?_
 refine aL w3 (i:=0) rfl rfl rfl λH4 w4 s4=>?_
 refine aL w4 (i:=0) rfl rfl rfl λH5 w5 s5=>?_
 refine aL w5 (i:=0) rfl rfl rfl λH6 w6 s6=>?_
 refine aL w6 (i:=0) rfl rfl rfl λH7 w7 s7=>?_
 refine aL w7 (i:=0) rfl rfl rfl λH8 w8 s8=>?_
 refine aa (az (w8.ld (i:=1) rfl rfl)) ?_
 refine aa (af (w8.ld (i:=1) rfl rfl)) ?_
 refine aa (af (w8.ld (i:=0) rfl rfl)) ?_
 refine aa (af (w8.ld (i:=0) rfl rfl)) ?_
 refine aa (af (w8.ld (i:=0) rfl rfl)) ?_
 refine aa (af (w8.ld (i:=0) rfl rfl)) ?_
 refine aa (af (w8.ld (i:=0) rfl rfl)) ?_
 obtain ⟨r9,e9,hp⟩:=aj hp
 refine aP (fw.P ⟨w8,trivial⟩ e9) ?_
 rintro _ H10 ⟨rfl,w10,s10,_⟩
 refine aa rfl ?_
 refine fO (W.cons_of (Rn:=[]) w8 w10 s10) ?_
 refine aa (af (w10.ld (i:=0) rfl rfl)) ?_
 refine aa (af (w10.ld (i:=0) rfl rfl)) ?_
 refine aa (af (w10.ld (i:=0) rfl rfl)) ?_
 refine aa (af (w10.ld (i:=0) rfl rfl)) ?_
 refine aa (af (w10.ld (i:=0) rfl rfl)) ?_
 obtain ⟨r12,e12,hp⟩:=aj hp
 refine aP (fx.P ⟨w10,trivial⟩ e12) ?_
 rintro _ H13 ⟨rfl,w13,s13,_⟩
 refine aa rfl ?_
 refine fO (W.cons_of (Rn:=[]) w10 w13 s13) ?_
 obtain ⟨r15,e15,hp⟩:=aj hp
 refine aP (bm.P rfl ⟨w13,(cF.step (s1.trans (s3.trans (s4.trans (s5.trans (s6.trans (s7.trans (s8.trans (s10.trans s13)))))))))⟩ e15) ?_
 rintro _ H16 ⟨rfl,w16,s16,_⟩
 refine aa rfl ?_
 refine aa rfl ?_
 refine aa rfl ?_
 refine aa rfl ?_
 refine aa rfl ?_
 obtain ⟨w17,s17⟩:=w16.pick' [] 2 rfl rfl rfl
 exact aR hp ⟨rfl,w17,(s0.trans (s1.trans (s3.trans (s4.trans (s5.trans (s6.trans (s7.trans (s8.trans (s10.trans (s13.trans (s16.trans s17))))))))))),trivial⟩
def bv.Q (H0:Hp) (Ri R0:List Rs)  (r:List (List Int)) (v:AV) (H':Hp):Prop:=∃ o0a:ON,∃ o0n:Nat,∃ o0c:Cap,∃ o0k:List AV,v=(.sl ⟨o0a,o0n,o0c⟩)/\o0n=(r).length/\Out H0 Ri H' (Rs.own ⟨o0a,o0n,o0c⟩ (eSl eI).z o0k::R0) λR=>CR (eSl eI) H' R o0k (r)
def bv.S61 (H0:Hp) (Ri R0:List Rs)  (C:Nat->Nat->Sl->Sl->Int->Hp->OA) (pC:List (Int×Int×Int×Int×Int)->List (List Int)->List Bool->Int->Option (List (List Int))):Prop:=∀ {vm Hf vn:ON} {tg jg Ds th:Nat} {vo Hg vp:Cap} {jr:List (Int×Int×Int×Int×Int)} {AK iM:Int} {uj:List (List Int)} {Hh vr:List AV} {nU:List Bool},∀ {H:Hp},tg=jr.length->Ds=uj.length->th=nU.length->(Out H0 Ri H (Rs.blk jg [.sl ⟨vm,tg,vo⟩,.i AK]::Rs.own ⟨Hf,Ds,Hg⟩ (eSl eI).z Hh::Rs.own ⟨vn,th,vp⟩ fN.z vr::R0) λR=>ROs (ai eI (ai eI (ai eI (ai eI eI)))) H R ⟨vm,tg,vo⟩ jr/\CR (eSl eI) H R Hh uj/\CR fN H R vr nU)->∀ {r:List (List Int)},pC jr uj nU iM=some r->Rt (C jg 0 ⟨Hf,Ds,Hg⟩ ⟨vn,th,vp⟩ iM H) (bv.Q H0 Ri R0  r)
def bv.pj4 (F:Nat) (ch:List (Int×Int×Int×Int×Int)->List (List Int)->List Bool->Int->Option (List (List Int))) (AQ:List (Int×Int×Int×Int×Int)) (AR:List (List Int)) (AS:List Bool) (mU:Int):Option (List (List Int)):=ch AQ AR AS (IntKind.i64.wrap (mU+1))
theorem bv.j4_P  {C61_:Nat->Nat->Sl->Sl->Int->Hp->OA} {ch:List (Int×Int×Int×Int×Int)->List (List Int)->List Bool->Int->Option (List (List Int))} (hC61:bv.S61 H0 Ri R0  C61_ ch) {PZ P_ Qa:ON} {Hj CG Hk Hl:Nat} {Qb Qc Qd:Cap} {AQ:List (Int×Int×Int×Int×Int)} {aak mU:Int} {AR:List (List Int)} {Qe Qf:List AV} {AS:List Bool} (aal:Hj=AQ.length) (aam:Hk=AR.length) (aan:Hl=AS.length) (h0:Out H0 Ri H (Rs.blk CG [.sl ⟨PZ,Hj,Qb⟩,.i aak]::Rs.own ⟨P_,Hk,Qc⟩ (eSl eI).z Qe::Rs.own ⟨Qa,Hl,Qd⟩ fN.z Qf::R0) λR=>ROs (ai eI (ai eI (ai eI (ai eI eI)))) H R ⟨PZ,Hj,Qb⟩ AQ/\CR (eSl eI) H R Qe AR/\CR fN H R Qf AS) {r:List (List Int)} (hp:bv.pj4 F ch AQ AR AS mU=some r):Rt (bv.j4 F (gM.tw F) C61_ CG 0 ⟨P_,Hk,Qc⟩ ⟨Qa,Hl,Qd⟩ mU H) (bv.Q H0 Ri R0  r):=by
 obtain ⟨w0,s0,aao,aap,aaq⟩:=h0
 subst aal
 subst aam
 subst aan
 unfold bv.pj4 at hp
 unfold bv.j4
 exact hC61 rfl rfl rfl ⟨w0,s0,aao,aap,aaq⟩ hp
def bv.S7853 (H0:Hp) (Ri R0:List Rs)  (C:Nat->Nat->Sl->Sl->Int->Sl->Int->Hp->OA) (pC:List (Int×Int×Int×Int×Int)->List (List Int)->List Bool->Int->List Int->Int->Option (List (List Int))):Prop:=∀ {Hm Hn Ho Hq:ON} {Dt oW Du Dv Dw:Nat} {Hr Hs Ht Hu:Cap} {uk:List (Int×Int×Int×Int×Int)} {Qg oq lg:Int} {vz:List (List Int)} {Hv Hw Hy:List AV} {r_:List Bool} {vA:List Int},∀ {H:Hp},Dt=uk.length->Du=vz.length->Dv=r_.length->Dw=vA.length->(Out H0 Ri H (Rs.blk oW [.sl ⟨Hm,Dt,Hr⟩,.i Qg]::Rs.own ⟨Hn,Du,Hs⟩ (eSl eI).z Hv::Rs.own ⟨Ho,Dv,Ht⟩ fN.z Hw::Rs.own ⟨Hq,Dw,Hu⟩ eI.z Hy::R0) λR=>ROs (ai eI (ai eI (ai eI (ai eI eI)))) H R ⟨Hm,Dt,Hr⟩ uk/\CR (eSl eI) H R Hv vz/\CR fN H R Hw r_/\CR eI H R Hy vA)->∀ {r:List (List Int)},pC uk vz r_ oq vA lg=some r->Rt (C oW 0 ⟨Hn,Du,Hs⟩ ⟨Ho,Dv,Ht⟩ oq ⟨Hq,Dw,Hu⟩ lg H) (bv.Q H0 Ri R0  r)
def bv.pj5 (F:Nat) (ch:List (Int×Int×Int×Int×Int)->List (List Int)->List Bool->Int->Option (List (List Int))) (AT:List (Int×Int×Int×Int×Int)) (AU:List (List Int)) (AW:List Bool) (xd:Int):Option (List (List Int)):=ch AT AU AW (IntKind.i64.wrap (xd+1))
theorem bv.j5_P  {C61_:Nat->Nat->Sl->Sl->Int->Hp->OA} {ch:List (Int×Int×Int×Int×Int)->List (List Int)->List Bool->Int->Option (List (List Int))} (hC61:bv.S61 H0 Ri R0  C61_ ch) {Qh Qi Qj:ON} {Hz CH HA HB:Nat} {Qk Ql Qm:Cap} {AT:List (Int×Int×Int×Int×Int)} {aar xd:Int} {AU:List (List Int)} {Qn Qo:List AV} {AW:List Bool} (aas:Hz=AT.length) (aat:HA=AU.length) (aau:HB=AW.length) (h0:Out H0 Ri H (Rs.blk CH [.sl ⟨Qh,Hz,Qk⟩,.i aar]::Rs.own ⟨Qi,HA,Ql⟩ (eSl eI).z Qn::Rs.own ⟨Qj,HB,Qm⟩ fN.z Qo::R0) λR=>ROs (ai eI (ai eI (ai eI (ai eI eI)))) H R ⟨Qh,Hz,Qk⟩ AT/\CR (eSl eI) H R Qn AU/\CR fN H R Qo AW) {r:List (List Int)} (hp:bv.pj5 F ch AT AU AW xd=some r):Rt (bv.j5 F (gM.tw F) C61_ CH 0 ⟨Qi,HA,Ql⟩ ⟨Qj,HB,Qm⟩ xd H) (bv.Q H0 Ri R0  r):=by
 obtain ⟨w0,s0,aav,aaw,aax⟩:=h0
 subst aas
 subst aat
 subst aau
 unfold bv.pj5 at hp
 unfold bv.j5
 exact hC61 rfl rfl rfl ⟨w0,s0,aav,aaw,aax⟩ hp
def bv.pj6 (F:Nat) (ch:List (Int×Int×Int×Int×Int)->List (List Int)->List Bool->Int->Option (List (List Int))) (AX:List (Int×Int×Int×Int×Int)) (AY:List (List Int)) (AZ:List Bool) (xf:Int) (vB:List Int):Option (List (List Int)):=(apn AY ([vB]:List (List Int))).bind λl3=>bv.pj5 F ch AX l3 AZ xf
theorem bv.j6_P  {C61_:Nat->Nat->Sl->Sl->Int->Hp->OA} {ch:List (Int×Int×Int×Int×Int)->List (List Int)->List Bool->Int->Option (List (List Int))} (hC61:bv.S61 H0 Ri R0  C61_ ch) {Qp Qq Qr Qs:ON} {HC CI HD HE HF:Nat} {Qt Qu Qv Qw:Cap} {AX:List (Int×Int×Int×Int×Int)} {aay xf:Int} {AY:List (List Int)} {Qx Qy Qz:List AV} {AZ:List Bool} {vB:List Int} (aaz:HC=AX.length) (aaA:HD=AY.length) (aaB:HE=AZ.length) (aaC:HF=vB.length) (h0:Out H0 Ri H (Rs.blk CI [.sl ⟨Qp,HC,Qt⟩,.i aay]::Rs.own ⟨Qq,HD,Qu⟩ (eSl eI).z Qx::Rs.own ⟨Qr,HE,Qv⟩ fN.z Qy::Rs.own ⟨Qs,HF,Qw⟩ eI.z Qz::R0) λR=>ROs (ai eI (ai eI (ai eI (ai eI eI)))) H R ⟨Qp,HC,Qt⟩ AX/\CR (eSl eI) H R Qx AY/\CR fN H R Qy AZ/\CR eI H R Qz vB) {r:List (List Int)} (hp:bv.pj6 F ch AX AY AZ xf vB=some r):Rt (bv.j6 F (gM.tw F) C61_ CI 0 ⟨Qq,HD,Qu⟩ ⟨Qr,HE,Qv⟩ xf ⟨Qs,HF,Qw⟩ H) (bv.Q H0 Ri R0  r):=by
 obtain ⟨w0,s0,aaD,aaE,aaF,aaG⟩:=h0
 subst aaz
 subst aaA
 subst aaB
 subst aaC
 unfold bv.pj6 at hp
 unfold bv.j6
 obtain ⟨w1,s1,f1⟩:=w0.frz (i:=3) eI rfl aaG
 refine lL (eSl eI) w1 (n:=1) (l:=([vB]:List (List Int))) rfl (CR.cons1 ⟨_,rfl,f1⟩ CR.empty) rfl λH2 w2 s2 c2=>?_
 refine aa (w2.rowo (i:=0) rfl) ?_
 obtain ⟨l3,e3,hp⟩:=aj hp
 refine qp (eSl eI) w2 (i:=2) rfl rfl (aaE.step (s1.trans s2)) c2 (show 1=List.length ([vB]:List (List Int)) from rfl) rfl e3 λa4 d4 H4 w4 s4 c4 x4=>?_
 obtain ⟨w5,s5⟩:=w4.pick' [1,2,3] 4 rfl rfl rfl
 exact bv.j5_P (@hC61) rfl rfl rfl ⟨w5,(s0.trans (s1.trans (s2.trans (s4.trans s5)))),(aaD.step (s1.trans (s2.trans (s4.trans s5)))),(c4.step s5),(aaF.step (s1.trans (s2.trans (s4.trans s5))))⟩ hp
def bv.pl7853 (F:Nat) (ch:List (Int×Int×Int×Int×Int)->List (List Int)->List Bool->Int->Option (List (List Int))):Nat->List (Int×Int×Int×Int×Int)->List (List Int)->List Bool->Int->List Int->Int->Option (List (List Int))
 | 0,_,_,_,_,_,_=>none
 | k+1,uk,vz,r_,oq,vA,lg=>(ix r_ lg).bind λn1=>(bif (!(gt r_ n1)) then ((ix r_ lg).bind λn2=>(some (r_.set n2 true)).bind λl3=>(apn vA ([lg]:List Int)).bind λl6=>(gM.p F uk lg).bind λr8=>bv.pl7853 F ch k uk vz l3 oq l6 r8) else (bv.pj6 F ch uk vz r_ oq vA))
theorem bv.l7853_P  {C61_:Nat->Nat->Sl->Sl->Int->Hp->OA} {ch:List (Int×Int×Int×Int×Int)->List (List Int)->List Bool->Int->Option (List (List Int))} (hC61:bv.S61 H0 Ri R0  C61_ ch):∀ k,bv.S7853 H0 Ri R0  (bv.l7853 F (gM.tw F) C61_ k) (bv.pl7853 F ch k):=by
 intro k
 induction k with
 | zero=>unfold bv.S7853;intros;rename_i hp;cases hp
 | succ k ih=>
  intro Hm Hn Ho Hq Dt oW Du Dv Dw Hr Hs Ht Hu uk Qg oq lg vz Hv Hw Hy r_ vA H aaH aaI aaJ aaK h0 r hp
  obtain ⟨w0,s0,HG,QA,Dx,QB⟩:=h0
  subst aaH
  subst aaI
  subst aaJ
  subst aaK
  unfold bv.pl7853 at hp
  unfold bv.l7853
  obtain ⟨n1,g1,hp⟩:=aj hp
  obtain ⟨p1,q1,i1,h1,j1⟩:=W.ixo (E:=fN) w0 (i:=2) rfl rfl Dx g1
  refine aa i1 ?_
  have h1:_=[_]:=h1
  subst h1
  refine aa (ns (j1 0 _ rfl)) ?_
  refine aM hp (λhp=>?_) λhp=>?_
  ·obtain ⟨n2,g2,hp⟩:=aj hp
   obtain ⟨p2,q2,i2,h2,j2⟩:=W.ixo (E:=fN) w0 (i:=2) rfl rfl Dx g2
   refine aa i2 ?_
   obtain ⟨l3,e3,hp⟩:=aj hp
   refine gl fN w0 (i:=2) (j:=0) (p:=p2) rfl rfl Dx g2 i2 e3 rfl rfl (λ_ h=>by have h:_=[_]:=h;subst h;exact rfl) λH4 k4 w4 s4 c4=>?_
   refine lL eI w4 (n:=1) (l:=([lg]:List Int)) rfl (CR.cons1 rfl CR.empty) rfl λH5 w5 s5 c5=>?_
   refine aa (w5.rowo (i:=0) rfl) ?_
   obtain ⟨l6,e6,hp⟩:=aj hp
   refine qp eI w5 (i:=4) rfl rfl (QB.step (s4.trans s5)) c5 (show 1=List.length ([lg]:List Int) from rfl) rfl e6 λa7 d7 H7 w7 s7 c7 x7=>?_
   refine aa (az (w7.ld (i:=1) rfl rfl)) ?_
   refine aa (af (w7.ld (i:=1) rfl rfl)) ?_
   obtain ⟨r8,e8,hp⟩:=aj hp
   refine aP (gM.P rfl ⟨w7,(HG.step (s4.trans (s5.trans s7)))⟩ e8) ?_
   rintro _ H9 ⟨rfl,w9,s9,_⟩
   refine aa rfl ?_
   obtain ⟨w10,s10⟩:=w9.pick' [1,2,3,4] 5 rfl rfl rfl
   exact ih rfl rfl ((ev e3).symm) rfl ⟨w10,(s0.trans (s4.trans (s5.trans (s7.trans (s9.trans s10))))),(HG.step (s4.trans (s5.trans (s7.trans (s9.trans s10))))),(QA.step (s4.trans (s5.trans (s7.trans (s9.trans s10))))),(c4.step (s5.trans (s7.trans (s9.trans s10)))),(c7.step (s9.trans s10))⟩ hp
  ·exact bv.j6_P (@hC61) rfl rfl rfl rfl ⟨w0,s0,HG,QA,Dx,QB⟩ hp
def bv.pl61 (F:Nat) :Nat->List (Int×Int×Int×Int×Int)->List (List Int)->List Bool->Int->Option (List (List Int))
 | 0,_,_,_,_=>none
 | k+1,jr,uj,nU,iM=>(bif (decide (iM<(nU.length:Int))) then ((ix nU iM).bind λn1=>(bif (gt nU n1) then (bv.pj4 F (bv.pl61 F k) jr uj nU iM) else (bv.pl7853 F (bv.pl61 F k) F jr uj nU iM ([]:List Int) iM))) else (some uj))
theorem bv.l61_P  :∀ k,bv.S61 H0 Ri R0  (bv.l61 F (gM.tw F)  k) (bv.pl61 F  k):=by
 intro k
 induction k with
 | zero=>unfold bv.S61;intros;rename_i hp;cases hp
 | succ k ih=>
  intro vm Hf vn tg jg Ds th vo Hg vp jr AK iM uj Hh vr nU H GY aaL GZ h0 r hp
  obtain ⟨w0,s0,zx,HI,zy⟩:=h0
  subst GY
  subst aaL
  subst GZ
  unfold bv.pl61 at hp
  unfold bv.l61
  refine aM hp (λhp=>?_) λhp=>?_
  ·obtain ⟨n1,g1,hp⟩:=aj hp
   obtain ⟨p1,q1,i1,h1,j1⟩:=W.ixo (E:=fN) w0 (i:=2) rfl rfl zy g1
   refine aa i1 ?_
   have h1:_=[_]:=h1
   subst h1
   refine aa (ns (j1 0 _ rfl)) ?_
   refine aM hp (λhp=>?_) λhp=>?_
   ·exact bv.j4_P (@ih) rfl rfl rfl ⟨w0,s0,zx,HI,zy⟩ hp
   ·refine lL eI w0 (n:=0) (l:=([]:List Int)) rfl CR.empty rfl λH2 w2 s2 c2=>?_
    obtain ⟨w3,s3⟩:=w2.pick' [1,2,3,0] 4 rfl rfl rfl
    exact bv.l7853_P (@ih) F rfl rfl rfl (show 0=List.length ([]:List Int) from rfl) ⟨w3,(s0.trans (s2.trans s3)),(zx.step (s2.trans s3)),(HI.step (s2.trans s3)),(zy.step (s2.trans s3)),(c2.step s3)⟩ hp
  ·obtain ⟨w4,s4⟩:=w0.pick' [1] 3 rfl rfl rfl
   exact aR hp ⟨_,_,_,_,rfl,rfl,w4,(s0.trans s4),(HI.step s4)⟩
def bv.p (F:Nat) (aq:List (Int×Int×Int×Int×Int)):Option (List (List Int)):=(mkn (IntKind.i64.wrap (4 * (aq.length:Int))) false).bind λl3=>bv.pl61 F F aq ([]:List (List Int)) l3 0
theorem bv.P {bF:ON} {aX:Nat} {bG:Cap} {aq:List (Int×Int×Int×Int×Int)} {ae:Int} (cT:aX=aq.length) (h0:Inn H R0 λR=>ROs (ai eI (ai eI (ai eI (ai eI eI)))) H R ⟨bF,aX,bG⟩ aq) {r:List (List Int)} (hp:bv.p F aq=some r):Rt (bv.tw F ⟨bF,aX,bG⟩ ae H) (bv.Q H R0 R0  r):=by
 obtain ⟨w0,cF⟩:=h0
 subst cT
 unfold bv.p at hp
 unfold bv.tw bv.twX
 have s0:=w0.rf
 refine bR w0 λH1 w1 s1=>?_
 refine lL (eSl eI) w1 (n:=0) (l:=([]:List (List Int))) rfl CR.empty rfl λH2 w2 s2 c2=>?_
 refine aa (az (w2.ld (i:=1) rfl rfl)) ?_
 obtain ⟨l3,e3,hp⟩:=aj hp
 refine uX fN false w2 rfl rfl rfl e3 λH4 k4 w4 s4 c4=>?_
 obtain ⟨w5,s5⟩:=w4.pick' [2,1,0] 3 rfl rfl rfl
 exact bv.l61_P F rfl (show 0=List.length ([]:List (List Int)) from rfl) rfl ⟨w5,(s0.trans (s1.trans (s2.trans (s4.trans s5)))),(cF.step (s1.trans (s2.trans (s4.trans s5)))),(c2.step (s4.trans s5)),(c4.step s5)⟩ hp
def aN.Q (H0:Hp) (Ri R0:List Rs)  (r:List Int) (v:AV) (H':Hp):Prop:=∃ o0a:ON,∃ o0n:Nat,∃ o0c:Cap,∃ o0k:List AV,v=(.sl ⟨o0a,o0n,o0c⟩)/\o0n=(r).length/\Out H0 Ri H' (Rs.own ⟨o0a,o0n,o0c⟩ eI.z o0k::R0) λR=>CR eI H' R o0k (r)
def aN.S29 (H0:Hp) (Ri R0:List Rs)  (C:Nat->Nat->Sl->Int->Hp->OA) (pC:List (Int×Int×Int×Int×Int)->List Int->Int->Option (List Int)):Prop:=∀ {vC HJ:ON} {ti jh Dy:Nat} {vD HK:Cap} {nY:List (Int×Int×Int×Int×Int)} {tj ja:Int} {vE:List Int} {HL:List AV},∀ {H:Hp},ti=nY.length->Dy=vE.length->(Out H0 Ri H (Rs.blk jh [.sl ⟨vC,ti,vD⟩,.i tj]::Rs.own ⟨HJ,Dy,HK⟩ eI.z HL::R0) λR=>ROs (ai eI (ai eI (ai eI (ai eI eI)))) H R ⟨vC,ti,vD⟩ nY/\CR eI H R HL vE)->∀ {r:List Int},pC nY vE ja=some r->Rt (C jh 0 ⟨HJ,Dy,HK⟩ ja H) (aN.Q H0 Ri R0  r)
def aN.S61 (H0:Hp) (Ri R0:List Rs)  (C:Nat->Nat->Sl->Int->Hp->OA) (pC:List (Int×Int×Int×Int×Int)->List Int->Int->Option (List Int)):Prop:=∀ {vF HM:ON} {tl iS Dz:Nat} {vG HN:Cap} {mL:List (Int×Int×Int×Int×Int)} {A_ gc:Int} {rq:List Int} {HO:List AV},∀ {H:Hp},tl=mL.length->Dz=rq.length->(Out H0 Ri H (Rs.blk iS [.sl ⟨vF,tl,vG⟩,.i A_]::Rs.own ⟨HM,Dz,HN⟩ eI.z HO::R0) λR=>ROs (ai eI (ai eI (ai eI (ai eI eI)))) H R ⟨vF,tl,vG⟩ mL/\CR eI H R HO rq)->∀ {r:List Int},pC mL rq gc=some r->Rt (C iS 0 ⟨HM,Dz,HN⟩ gc H) (aN.Q H0 Ri R0  r)
def aN.S7855 (H0:Hp) (Ri R0:List Rs)  (C:Nat->Nat->Sl->Int->Int->Int->Int->Hp->OA) (pC:List (Int×Int×Int×Int×Int)->List Int->Int->Int->Int->Int->Option (List Int)):Prop:=∀ {HP HQ:ON} {DA pu DB:Nat} {HR HS:Cap} {ul:List (Int×Int×Int×Int×Int)} {QC nv kt ku li:Int} {qI:List Int} {HT:List AV},∀ {H:Hp},DA=ul.length->DB=qI.length->(Out H0 Ri H (Rs.blk pu [.sl ⟨HP,DA,HR⟩,.i QC]::Rs.own ⟨HQ,DB,HS⟩ eI.z HT::R0) λR=>ROs (ai eI (ai eI (ai eI (ai eI eI)))) H R ⟨HP,DA,HR⟩ ul/\CR eI H R HT qI)->∀ {r:List Int},pC ul qI nv kt ku li=some r->Rt (C pu 0 ⟨HQ,DB,HS⟩ nv kt ku li H) (aN.Q H0 Ri R0  r)
def aN.pj8 (F:Nat) (DC:List (Int×Int×Int×Int×Int)->List Int->Int->Int->Int->Int->Option (List Int)) (Ba:List (Int×Int×Int×Int×Int)) (Bb:List Int) (xj:Int) (xk:Int) (xm:Int) (xn:Int):Option (List Int):=DC Ba Bb xj xk xm (IntKind.i64.wrap (xn+1))
theorem aN.j8_P  {C7855_:Nat->Nat->Sl->Int->Int->Int->Int->Hp->OA} {DC:List (Int×Int×Int×Int×Int)->List Int->Int->Int->Int->Int->Option (List Int)} (hC7855:aN.S7855 H0 Ri R0  C7855_ DC) {QD QE:ON} {HU CL HV:Nat} {QF QG:Cap} {Ba:List (Int×Int×Int×Int×Int)} {aaM xj xk xm xn:Int} {Bb:List Int} {QH:List AV} (aaN:HU=Ba.length) (aaO:HV=Bb.length) (h0:Out H0 Ri H (Rs.blk CL [.sl ⟨QD,HU,QF⟩,.i aaM]::Rs.own ⟨QE,HV,QG⟩ eI.z QH::R0) λR=>ROs (ai eI (ai eI (ai eI (ai eI eI)))) H R ⟨QD,HU,QF⟩ Ba/\CR eI H R QH Bb) {r:List Int} (hp:aN.pj8 F DC Ba Bb xj xk xm xn=some r):Rt (aN.j8 F (bm.tw F) C7855_ CL 0 ⟨QE,HV,QG⟩ xj xk xm xn H) (aN.Q H0 Ri R0  r):=by
 obtain ⟨w0,s0,aaP,aaQ⟩:=h0
 subst aaN
 subst aaO
 unfold aN.pj8 at hp
 unfold aN.j8
 exact hC7855 rfl rfl ⟨w0,s0,aaP,aaQ⟩ hp
def aN.pj6 (F:Nat) (ch:List (Int×Int×Int×Int×Int)->List Int->Int->Option (List Int)) (Bc:List (Int×Int×Int×Int×Int)) (Be:List Int) (xh:Int):Option (List Int):=ch Bc Be (IntKind.i64.wrap (xh+1))
theorem aN.j6_P  {C61_:Nat->Nat->Sl->Int->Hp->OA} {ch:List (Int×Int×Int×Int×Int)->List Int->Int->Option (List Int)} (hC61:aN.S61 H0 Ri R0  C61_ ch) {QI QJ:ON} {HW CJ HX:Nat} {QK QL:Cap} {Bc:List (Int×Int×Int×Int×Int)} {aaR xh:Int} {Be:List Int} {QM:List AV} (aaS:HW=Bc.length) (aaT:HX=Be.length) (h0:Out H0 Ri H (Rs.blk CJ [.sl ⟨QI,HW,QK⟩,.i aaR]::Rs.own ⟨QJ,HX,QL⟩ eI.z QM::R0) λR=>ROs (ai eI (ai eI (ai eI (ai eI eI)))) H R ⟨QI,HW,QK⟩ Bc/\CR eI H R QM Be) {r:List Int} (hp:aN.pj6 F ch Bc Be xh=some r):Rt (aN.j6 F (bm.tw F) C61_ CJ 0 ⟨QJ,HX,QL⟩ xh H) (aN.Q H0 Ri R0  r):=by
 obtain ⟨w0,s0,aaU,aaV⟩:=h0
 subst aaS
 subst aaT
 unfold aN.pj6 at hp
 unfold aN.j6
 exact hC61 rfl rfl ⟨w0,s0,aaU,aaV⟩ hp
def aN.pj7 (F:Nat) (ch:List (Int×Int×Int×Int×Int)->List Int->Int->Option (List Int)) (Bf:List (Int×Int×Int×Int×Int)) (Bg:List Int) (tV:Int):Option (List Int):=aN.pj6 F ch Bf Bg tV
theorem aN.j7_P  {C61_:Nat->Nat->Sl->Int->Hp->OA} {ch:List (Int×Int×Int×Int×Int)->List Int->Int->Option (List Int)} (hC61:aN.S61 H0 Ri R0  C61_ ch) {QN QO:ON} {HY CK HZ:Nat} {QP QQ:Cap} {Bf:List (Int×Int×Int×Int×Int)} {aaW tV:Int} {Bg:List Int} {QR:List AV} (aaX:HY=Bf.length) (aaY:HZ=Bg.length) (h0:Out H0 Ri H (Rs.blk CK [.sl ⟨QN,HY,QP⟩,.i aaW]::Rs.own ⟨QO,HZ,QQ⟩ eI.z QR::R0) λR=>ROs (ai eI (ai eI (ai eI (ai eI eI)))) H R ⟨QN,HY,QP⟩ Bf/\CR eI H R QR Bg) {r:List Int} (hp:aN.pj7 F ch Bf Bg tV=some r):Rt (aN.j7 F (bm.tw F) C61_ CK 0 ⟨QO,HZ,QQ⟩ tV H) (aN.Q H0 Ri R0  r):=by
 obtain ⟨w0,s0,aaZ,aa0⟩:=h0
 subst aaX
 subst aaY
 unfold aN.pj7 at hp
 unfold aN.j7
 exact aN.j6_P (@hC61) rfl rfl ⟨w0,s0,aaZ,aa0⟩ hp
def aN.pl7855 (F:Nat) (ch:List (Int×Int×Int×Int×Int)->List Int->Int->Option (List Int)):Nat->List (Int×Int×Int×Int×Int)->List Int->Int->Int->Int->Int->Option (List Int)
 | 0,_,_,_,_,_,_=>none
 | k+1,ul,qI,nv,kt,ku,li=>(bif (decide (li<(qI.length:Int))) then ((ix qI li).bind λn1=>(bif ((gt qI n1)==(if ku>kt then ku else kt)) then ((ix qI li).bind λn2=>(some (qI.set n2 (if ku<kt then ku else kt))).bind λl3=>aN.pj8 F (aN.pl7855 F ch k) ul l3 nv kt ku li) else (aN.pj8 F (aN.pl7855 F ch k) ul qI nv kt ku li))) else (aN.pj7 F ch ul qI nv))
theorem aN.l7855_P  {C61_:Nat->Nat->Sl->Int->Hp->OA} {ch:List (Int×Int×Int×Int×Int)->List Int->Int->Option (List Int)} (hC61:aN.S61 H0 Ri R0  C61_ ch):∀ k,aN.S7855 H0 Ri R0  (aN.l7855 F (bm.tw F) C61_ k) (aN.pl7855 F ch k):=by
 intro k
 induction k with
 | zero=>unfold aN.S7855;intros;rename_i hp;cases hp
 | succ k ih=>
  intro HP HQ DA pu DB HR HS ul QC nv kt ku li qI HT H aa1 aa2 h0 r hp
  obtain ⟨w0,s0,H_,Bh⟩:=h0
  subst aa1
  subst aa2
  unfold aN.pl7855 at hp
  unfold aN.l7855
  refine aM hp (λhp=>?_) λhp=>?_
  ·obtain ⟨n1,g1,hp⟩:=aj hp
   obtain ⟨p1,q1,i1,h1,j1⟩:=W.ixo (E:=eI) w0 (i:=1) rfl rfl Bh g1
   refine aa i1 ?_
   have h1:_=[_]:=h1
   subst h1
   refine aa (af (j1 0 _ rfl)) ?_
   refine aM hp (λhp=>?_) λhp=>?_
   ·obtain ⟨n2,g2,hp⟩:=aj hp
    obtain ⟨p2,q2,i2,h2,j2⟩:=W.ixo (E:=eI) w0 (i:=1) rfl rfl Bh g2
    refine aa i2 ?_
    obtain ⟨l3,e3,hp⟩:=aj hp
    refine gl eI w0 (i:=1) (j:=0) (p:=p2) rfl rfl Bh g2 i2 e3 rfl rfl (λ_ h=>by have h:_=[_]:=h;subst h;exact rfl) λH4 k4 w4 s4 c4=>?_
    exact aN.j8_P (@ih) rfl ((ev e3).symm) ⟨w4,(s0.trans s4),(H_.step s4),c4⟩ hp
   ·exact aN.j8_P (@ih) rfl rfl ⟨w0,s0,H_,Bh⟩ hp
  ·exact aN.j7_P (@hC61) rfl rfl ⟨w0,s0,H_,Bh⟩ hp
def aN.pl61 (F:Nat) :Nat->List (Int×Int×Int×Int×Int)->List Int->Int->Option (List Int)
 | 0,_,_,_=>none
 | k+1,mL,rq,gc=>(bif (decide (gc<(IntKind.i64.wrap (2 * (mL.length:Int))))) then ((bm.p F mL gc true).bind λr1=>(bm.p F mL gc false).bind λr3=>(ix rq r1.1).bind λn5=>(ix rq r3.1).bind λn6=>aN.pl7855 F (aN.pl61 F k) F mL rq gc (gt rq n5) (gt rq n6) 0) else (some rq))
theorem aN.l61_P  :∀ k,aN.S61 H0 Ri R0  (aN.l61 F (bm.tw F)  k) (aN.pl61 F  k):=by
 intro k
 induction k with
 | zero=>unfold aN.S61;intros;rename_i hp;cases hp
 | succ k ih=>
  intro vF HM tl iS Dz vG HN mL A_ gc rq HO H Ia aa3 h0 r hp
  obtain ⟨w0,s0,zA,DE⟩:=h0
  subst Ia
  subst aa3
  unfold aN.pl61 at hp
  unfold aN.l61
  refine aa (az (w0.ld (i:=0) rfl rfl)) ?_
  refine aM hp (λhp=>?_) λhp=>?_
  ·refine aa (az (w0.ld (i:=0) rfl rfl)) ?_
   refine aa (af (w0.ld (i:=0) rfl rfl)) ?_
   obtain ⟨r1,e1,hp⟩:=aj hp
   refine aP (bm.P rfl ⟨w0,zA⟩ e1) ?_
   rintro _ H2 ⟨rfl,w2,s2,_⟩
   refine aa rfl ?_
   refine aa rfl ?_
   refine aa rfl ?_
   refine aa rfl ?_
   refine aa rfl ?_
   refine aa (az (w2.ld (i:=0) rfl rfl)) ?_
   refine aa (af (w2.ld (i:=0) rfl rfl)) ?_
   obtain ⟨r3,e3,hp⟩:=aj hp
   refine aP (bm.P rfl ⟨w2,(zA.step s2)⟩ e3) ?_
   rintro _ H4 ⟨rfl,w4,s4,_⟩
   refine aa rfl ?_
   refine aa rfl ?_
   refine aa rfl ?_
   refine aa rfl ?_
   refine aa rfl ?_
   obtain ⟨n5,g5,hp⟩:=aj hp
   obtain ⟨p5,q5,i5,h5,j5⟩:=W.ixo (E:=eI) w4 (i:=1) rfl rfl (DE.step (s2.trans s4)) g5
   refine aa i5 ?_
   have h5:_=[_]:=h5
   subst h5
   refine aa (af (j5 0 _ rfl)) ?_
   obtain ⟨n6,g6,hp⟩:=aj hp
   obtain ⟨p6,q6,i6,h6,j6⟩:=W.ixo (E:=eI) w4 (i:=1) rfl rfl (DE.step (s2.trans s4)) g6
   refine aa i6 ?_
   have h6:_=[_]:=h6
   subst h6
   refine aa (af (j6 0 _ rfl)) ?_
   exact aN.l7855_P (@ih) F rfl rfl ⟨w4,(s0.trans (s2.trans s4)),(zA.step (s2.trans s4)),(DE.step (s2.trans s4))⟩ hp
  ·obtain ⟨w7,s7⟩:=w0.pick' [1] 2 rfl rfl rfl
   exact aR hp ⟨_,_,_,_,rfl,rfl,w7,(s0.trans s7),(DE.step s7)⟩
def aN.pj9 (F:Nat)  (Bi:List (Int×Int×Int×Int×Int)) (Bj:List Int):Option (List Int):=aN.pl61 F F Bi Bj 0
theorem aN.j9_P   {QT QU:ON} {Ib CN Ic:Nat} {QV QW:Cap} {Bi:List (Int×Int×Int×Int×Int)} {aa4:Int} {Bj:List Int} {QX:List AV} (aa5:Ib=Bi.length) (aa6:Ic=Bj.length) (h0:Out H0 Ri H (Rs.blk CN [.sl ⟨QT,Ib,QV⟩,.i aa4]::Rs.own ⟨QU,Ic,QW⟩ eI.z QX::R0) λR=>ROs (ai eI (ai eI (ai eI (ai eI eI)))) H R ⟨QT,Ib,QV⟩ Bi/\CR eI H R QX Bj) {r:List Int} (hp:aN.pj9 F  Bi Bj=some r):Rt (aN.j9 F (bm.tw F)  CN 0 ⟨QU,Ic,QW⟩ H) (aN.Q H0 Ri R0  r):=by
 obtain ⟨w0,s0,aa7,aa8⟩:=h0
 subst aa5
 subst aa6
 unfold aN.pj9 at hp
 unfold aN.j9
 exact aN.l61_P F rfl rfl ⟨w0,s0,aa7,aa8⟩ hp
def aN.pl29 (F:Nat) :Nat->List (Int×Int×Int×Int×Int)->List Int->Int->Option (List Int)
 | 0,_,_,_=>none
 | k+1,nY,vE,ja=>(bif (decide (ja<(nY.length:Int))) then ((apn vE ([ja]:List Int)).bind λl2=>aN.pl29 F k nY l2 (IntKind.i64.wrap (ja+1))) else (aN.pj9 F nY vE))
theorem aN.l29_P  :∀ k,aN.S29 H0 Ri R0  (aN.l29 F (bm.tw F)  k) (aN.pl29 F  k):=by
 intro k
 induction k with
 | zero=>unfold aN.S29;intros;rename_i hp;cases hp
 | succ k ih=>
  intro vC HJ ti jh Dy vD HK nY tj ja vE HL H Id aa9 h0 r hp
  obtain ⟨w0,s0,Bk,QY⟩:=h0
  subst Id
  subst aa9
  unfold aN.pl29 at hp
  unfold aN.l29
  refine aa (az (w0.ld (i:=0) rfl rfl)) ?_
  refine aM hp (λhp=>?_) λhp=>?_
  ·refine lL eI w0 (n:=1) (l:=([ja]:List Int)) rfl (CR.cons1 rfl CR.empty) rfl λH1 w1 s1 c1=>?_
   refine aa (w1.rowo (i:=0) rfl) ?_
   obtain ⟨l2,e2,hp⟩:=aj hp
   refine qp eI w1 (i:=2) rfl rfl (QY.step s1) c1 (show 1=List.length ([ja]:List Int) from rfl) rfl e2 λa3 d3 H3 w3 s3 c3 x3=>?_
   obtain ⟨w4,s4⟩:=w3.pick' [1,2] 3 rfl rfl rfl
   exact ih rfl rfl ⟨w4,(s0.trans (s1.trans (s3.trans s4))),(Bk.step (s1.trans (s3.trans s4))),(c3.step s4)⟩ hp
  ·exact aN.j9_P rfl rfl ⟨w0,s0,Bk,QY⟩ hp
def aN.p (F:Nat) (aq:List (Int×Int×Int×Int×Int)):Option (List Int):=aN.pl29 F F aq ([]:List Int) 0
theorem aN.P {bF:ON} {aX:Nat} {bG:Cap} {aq:List (Int×Int×Int×Int×Int)} {ae:Int} (cT:aX=aq.length) (h0:Inn H R0 λR=>ROs (ai eI (ai eI (ai eI (ai eI eI)))) H R ⟨bF,aX,bG⟩ aq) {r:List Int} (hp:aN.p F aq=some r):Rt (aN.tw F ⟨bF,aX,bG⟩ ae H) (aN.Q H R0 R0  r):=by
 obtain ⟨w0,cF⟩:=h0
 subst cT
 unfold aN.p at hp
 unfold aN.tw aN.twX
 have s0:=w0.rf
 refine bR w0 λH1 w1 s1=>?_
 refine lL eI w1 (n:=0) (l:=([]:List Int)) rfl CR.empty rfl λH2 w2 s2 c2=>?_
 obtain ⟨w3,s3⟩:=w2.pick' [1,0] 2 rfl rfl rfl
 exact aN.l29_P F rfl (show 0=List.length ([]:List Int) from rfl) ⟨w3,(s0.trans (s1.trans (s2.trans s3))),(cF.step (s1.trans (s2.trans s3))),(c2.step s3)⟩ hp
def df.Q (H0:Hp) (Ri R0:List Rs)  (r:Int) (v:AV) (H':Hp):Prop:=v=(.i r)/\Out H0 Ri H' (R0) λR=>True
def df.S61 (H0:Hp) (Ri R0:List Rs)  (C:Int->Sl->Int->Hp->OA) (pC:Int->List Int->Int->Option (Int)):Prop:=∀ {cE eY:Int} {Ie:ON} {DF:Nat} {If:Cap} {sb:List Int} {Ig:List AV},∀ {H:Hp},DF=sb.length->(Out H0 Ri H (Rs.own ⟨Ie,DF,If⟩ eI.z Ig::R0) λR=>CR eI H R Ig sb)->∀ {r:Int},pC cE sb eY=some r->Rt (C cE ⟨Ie,DF,If⟩ eY H) (df.Q H0 Ri R0  r)
def df.pj2 (F:Nat) (ch:Int->List Int->Int->Option (Int)) (xp:Int) (Bl:List Int) (xq:Int):Option (Int):=ch xp Bl (IntKind.i64.wrap (xq+1))
theorem df.j2_P  {C61_:Int->Sl->Int->Hp->OA} {ch:Int->List Int->Int->Option (Int)} (hC61:df.S61 H0 Ri R0  C61_ ch) {xp xq:Int} {QZ:ON} {Ih:Nat} {Q_:Cap} {Bl:List Int} {Ra:List AV} (aa_:Ih=Bl.length) (h0:Out H0 Ri H (Rs.own ⟨QZ,Ih,Q_⟩ eI.z Ra::R0) λR=>CR eI H R Ra Bl) {r:Int} (hp:df.pj2 F ch xp Bl xq=some r):Rt (df.j2 F (aN.tw F) C61_ xp ⟨QZ,Ih,Q_⟩ xq H) (df.Q H0 Ri R0  r):=by
 obtain ⟨w0,s0,aba⟩:=h0
 subst aa_
 unfold df.pj2 at hp
 unfold df.j2
 exact hC61 rfl ⟨w0,s0,aba⟩ hp
def df.pl61 (F:Nat) :Nat->Int->List Int->Int->Option (Int)
 | 0,_,_,_=>none
 | k+1,cE,sb,eY=>(bif (decide (eY<(sb.length:Int))) then ((ix sb eY).bind λn1=>(bif ((gt sb n1)==eY) then (df.pj2 F (df.pl61 F k) (IntKind.i64.wrap (cE+1)) sb eY) else (df.pj2 F (df.pl61 F k) cE sb eY))) else (some cE))
theorem df.l61_P  :∀ k,df.S61 H0 Ri R0  (df.l61 F (aN.tw F)  k) (df.pl61 F  k):=by
 intro k
 induction k with
 | zero=>unfold df.S61;intros;rename_i hp;cases hp
 | succ k ih=>
  intro cE eY Ie DF If sb Ig H abb h0 r hp
  obtain ⟨w0,s0,Ii⟩:=h0
  subst abb
  unfold df.pl61 at hp
  unfold df.l61
  refine aM hp (λhp=>?_) λhp=>?_
  ·obtain ⟨n1,g1,hp⟩:=aj hp
   obtain ⟨p1,q1,i1,h1,j1⟩:=W.ixo (E:=eI) w0 (i:=0) rfl rfl Ii g1
   refine aa i1 ?_
   have h1:_=[_]:=h1
   subst h1
   refine aa (af (j1 0 _ rfl)) ?_
   refine aM hp (λhp=>?_) λhp=>?_
   ·exact df.j2_P (@ih) rfl ⟨w0,s0,Ii⟩ hp
   ·exact df.j2_P (@ih) rfl ⟨w0,s0,Ii⟩ hp
  ·obtain ⟨w2,s2⟩:=w0.pick' [] 1 rfl rfl rfl
   exact aR hp ⟨rfl,w2,(s0.trans s2),trivial⟩
def df.p (F:Nat) (aq:List (Int×Int×Int×Int×Int)):Option (Int):=(aN.p F aq).bind λr2=>df.pl61 F F 0 r2 0
theorem df.P {bF:ON} {aX:Nat} {bG:Cap} {aq:List (Int×Int×Int×Int×Int)} {ae:Int} (cT:aX=aq.length) (h0:Inn H R0 λR=>ROs (ai eI (ai eI (ai eI (ai eI eI)))) H R ⟨bF,aX,bG⟩ aq) {r:Int} (hp:df.p F aq=some r):Rt (df.tw F ⟨bF,aX,bG⟩ ae H) (df.Q H R0 R0  r):=by
 obtain ⟨w0,cF⟩:=h0
 subst cT
 unfold df.p at hp
 unfold df.tw df.twX
 have s0:=w0.rf
 refine bR w0 λH1 w1 s1=>?_
 refine aa (az (w1.ld (i:=0) rfl rfl)) ?_
 refine aa (af (w1.ld (i:=0) rfl rfl)) ?_
 obtain ⟨r2,e2,hp⟩:=aj hp
 refine aP (aN.P rfl ⟨w1,(cF.step s1)⟩ e2) ?_
 rintro _ H3 ⟨o0a_3,o0n_3,o0c_3,o0k_3,rfl,rfl,w3,s3,f3_0⟩
 refine aa rfl ?_
 obtain ⟨w4,s4⟩:=w3.pick' [0] 2 rfl rfl rfl
 exact df.l61_P F rfl ⟨w4,(s0.trans (s1.trans (s3.trans s4))),(f3_0.step s4)⟩ hp
def gW.Q (H0:Hp) (Ri R0:List Rs)  (r:Bool) (v:AV) (H':Hp):Prop:=v=(.bool r)/\Out H0 Ri H' (R0) λR=>True
def gW.p (F:Nat) (aq:List (Int×Int×Int×Int×Int)) (ae:Int):Option (Bool):=(bif (decide ((aq.length:Int)>10)) then (some false) else ((fv.p F ae 0 8).bind λr3=>(bif (!r3) then (some false) else ((bU.p F aq).bind λr6=>(bif (!r6) then (some false) else ((bv.p F aq).bind λr9=>(df.p F aq).bind λr12=>some ((r9.length:Int)==(IntKind.i64.wrap ((aq.length:Int)+(IntKind.i64.wrap (2 * r12)))))))))))
theorem gW.P {bF:ON} {aX:Nat} {bG:Cap} {aq:List (Int×Int×Int×Int×Int)} {ae:Int} (cT:aX=aq.length) (h0:Inn H R0 λR=>ROs (ai eI (ai eI (ai eI (ai eI eI)))) H R ⟨bF,aX,bG⟩ aq) {r:Bool} (hp:gW.p F aq ae=some r):Rt (gW.tw F ⟨bF,aX,bG⟩ ae H) (gW.Q H R0 R0  r):=by
 obtain ⟨w0,cF⟩:=h0
 subst cT
 unfold gW.p at hp
 unfold gW.tw gW.twX
 have s0:=w0.rf
 refine bR w0 λH1 w1 s1=>?_
 refine aa (az (w1.ld (i:=0) rfl rfl)) ?_
 refine aM hp (λhp=>?_) λhp=>?_
 ·obtain ⟨w2,s2⟩:=w1.pick' [] 1 rfl rfl rfl
  exact aR hp ⟨rfl,w2,(s0.trans (s1.trans s2)),trivial⟩
 ·refine aa (af (w1.ld (i:=0) rfl rfl)) ?_
  obtain ⟨r3,e3,hp⟩:=aj hp
  refine aP (fv.P ⟨w1,trivial⟩ e3) ?_
  rintro _ H4 ⟨rfl,w4,s4,_⟩
  refine aa rfl ?_
  refine aM hp (λhp=>?_) λhp=>?_
  ·obtain ⟨w5,s5⟩:=w4.pick' [] 1 rfl rfl rfl
   exact aR hp ⟨rfl,w5,(s0.trans (s1.trans (s4.trans s5))),trivial⟩
  ·refine aa (az (w4.ld (i:=0) rfl rfl)) ?_
   refine aa (af (w4.ld (i:=0) rfl rfl)) ?_
   obtain ⟨r6,e6,hp⟩:=aj hp
   refine aP (bU.P rfl ⟨w4,(cF.step (s1.trans s4))⟩ e6) ?_
   rintro _ H7 ⟨rfl,w7,s7,_⟩
   refine aa rfl ?_
   refine aM hp (λhp=>?_) λhp=>?_
   ·obtain ⟨w8,s8⟩:=w7.pick' [] 1 rfl rfl rfl
    exact aR hp ⟨rfl,w8,(s0.trans (s1.trans (s4.trans (s7.trans s8)))),trivial⟩
   ·refine aa (az (w7.ld (i:=0) rfl rfl)) ?_
    refine aa (af (w7.ld (i:=0) rfl rfl)) ?_
    obtain ⟨r9,e9,hp⟩:=aj hp
    refine aP (bv.P rfl ⟨w7,(cF.step (s1.trans (s4.trans s7)))⟩ e9) ?_
    rintro _ H10 ⟨o0a_10,o0n_10,o0c_10,o0k_10,rfl,rfl,w10,s10,f10_0⟩
    refine aa rfl ?_
    refine fO (W.cons_of (Rn:=[_]) w7 w10 s10) ?_
    refine aa (az (w10.ld (i:=1) rfl rfl)) ?_
    refine aa (az (w10.ld (i:=1) rfl rfl)) ?_
    refine aa (af (w10.ld (i:=1) rfl rfl)) ?_
    obtain ⟨r12,e12,hp⟩:=aj hp
    refine aP (df.P rfl ⟨w10,(cF.step (s1.trans (s4.trans (s7.trans s10))))⟩ e12) ?_
    rintro _ H13 ⟨rfl,w13,s13,_⟩
    refine aa rfl ?_
    refine fO (W.cons_of (Rn:=[]) w10 w13 s13) ?_
    obtain ⟨w15,s15⟩:=w13.pick' [] 2 rfl rfl rfl
    exact aR hp ⟨rfl,w15,(s0.trans (s1.trans (s4.trans (s7.trans (s10.trans (s13.trans s15)))))),trivial⟩
def aD.Q (H0:Hp) (Ri R0:List Rs)  (r:List Int×Int) (v:AV) (H':Hp):Prop:=∃ o0a:ON,∃ o0n:Nat,∃ o0c:Cap,∃ o0k:List AV,v=(.tup [(.sl ⟨o0a,o0n,o0c⟩),(.i r.2)])/\o0n=(r.1).length/\Out H0 Ri H' (Rs.own ⟨o0a,o0n,o0c⟩ eI.z o0k::R0) λR=>CR eI H' R o0k (r.1)
def aD.S29 (H0:Hp) (Ri R0:List Rs)  (C:Nat->Nat->Sl->Int->Hp->OA) (pC:List (Int×Int×Int×Int×Int)->Int->List Int->Int->Option (List Int×Int)):Prop:=∀ {vC Ij:ON} {ti jh DH:Nat} {vD Ik:Cap} {nY:List (Int×Int×Int×Int×Int)} {tj mg:Int} {vH:List Int} {Il:List AV},∀ {H:Hp},ti=nY.length->DH=vH.length->(Out H0 Ri H (Rs.blk jh [.sl ⟨vC,ti,vD⟩,.i tj]::Rs.own ⟨Ij,DH,Ik⟩ eI.z Il::R0) λR=>ROs (ai eI (ai eI (ai eI (ai eI eI)))) H R ⟨vC,ti,vD⟩ nY/\CR eI H R Il vH)->∀ {r:List Int×Int},pC nY tj vH mg=some r->Rt (C jh 0 ⟨Ij,DH,Ik⟩ mg H) (aD.Q H0 Ri R0  r)
def aD.S61 (H0:Hp) (Ri R0:List Rs)  (C:Nat->Nat->Sl->Int->Hp->OA) (pC:List (Int×Int×Int×Int×Int)->Int->List Int->Int->Option (List Int×Int)):Prop:=∀ {Im In:ON} {DI ou DJ:Nat} {Io Ip:Cap} {rr:List (Int×Int×Int×Int×Int)} {zB mf:Int} {ru:List Int} {Iq:List AV},∀ {H:Hp},DI=rr.length->DJ=ru.length->(Out H0 Ri H (Rs.blk ou [.sl ⟨Im,DI,Io⟩,.i zB]::Rs.own ⟨In,DJ,Ip⟩ eI.z Iq::R0) λR=>ROs (ai eI (ai eI (ai eI (ai eI eI)))) H R ⟨Im,DI,Io⟩ rr/\CR eI H R Iq ru)->∀ {r:List Int×Int},pC rr zB ru mf=some r->Rt (C ou 0 ⟨In,DJ,Ip⟩ mf H) (aD.Q H0 Ri R0  r)
def aD.S1963 (H0:Hp) (Ri R0:List Rs)  (C:Nat->Nat->Sl->Int->Int->Int->Int->Hp->OA) (pC:List (Int×Int×Int×Int×Int)->Int->List Int->Int->Int->Int->Int->Option (List Int×Int)):Prop:=∀ {Ir Is:ON} {DK pw DL:Nat} {It Iu:Cap} {um:List (Int×Int×Int×Int×Int)} {vI nw kw kx ll:Int} {qJ:List Int} {Iv:List AV},∀ {H:Hp},DK=um.length->DL=qJ.length->(Out H0 Ri H (Rs.blk pw [.sl ⟨Ir,DK,It⟩,.i vI]::Rs.own ⟨Is,DL,Iu⟩ eI.z Iv::R0) λR=>ROs (ai eI (ai eI (ai eI (ai eI eI)))) H R ⟨Ir,DK,It⟩ um/\CR eI H R Iv qJ)->∀ {r:List Int×Int},pC um vI qJ nw kw kx ll=some r->Rt (C pw 0 ⟨Is,DL,Iu⟩ nw kw kx ll H) (aD.Q H0 Ri R0  r)
def aD.pj12 (F:Nat) (DM:List (Int×Int×Int×Int×Int)->Int->List Int->Int->Int->Int->Int->Option (List Int×Int)) (Bm:List (Int×Int×Int×Int×Int)) (DN:Int) (Bn:List Int) (xA:Int) (xB:Int) (xC:Int) (xD:Int):Option (List Int×Int):=DM Bm DN Bn xA xB xC (IntKind.i64.wrap (xD+1))
theorem aD.j12_P  {C1963_:Nat->Nat->Sl->Int->Int->Int->Int->Hp->OA} {DM:List (Int×Int×Int×Int×Int)->Int->List Int->Int->Int->Int->Int->Option (List Int×Int)} (hC1963:aD.S1963 H0 Ri R0  C1963_ DM) {Rc Rd:ON} {Iw CU Ix:Nat} {Re Rf:Cap} {Bm:List (Int×Int×Int×Int×Int)} {DN xA xB xC xD:Int} {Bn:List Int} {Rh:List AV} (abc:Iw=Bm.length) (abd:Ix=Bn.length) (h0:Out H0 Ri H (Rs.blk CU [.sl ⟨Rc,Iw,Re⟩,.i DN]::Rs.own ⟨Rd,Ix,Rf⟩ eI.z Rh::R0) λR=>ROs (ai eI (ai eI (ai eI (ai eI eI)))) H R ⟨Rc,Iw,Re⟩ Bm/\CR eI H R Rh Bn) {r:List Int×Int} (hp:aD.pj12 F DM Bm DN Bn xA xB xC xD=some r):Rt (aD.j12 F  C1963_ CU 0 ⟨Rd,Ix,Rf⟩ xA xB xC xD H) (aD.Q H0 Ri R0  r):=by
 obtain ⟨w0,s0,abe,abf⟩:=h0
 subst abc
 subst abd
 unfold aD.pj12 at hp
 unfold aD.j12
 exact hC1963 rfl rfl ⟨w0,s0,abe,abf⟩ hp
def aD.pj10 (F:Nat) (ch:List (Int×Int×Int×Int×Int)->Int->List Int->Int->Option (List Int×Int)) (Bo:List (Int×Int×Int×Int×Int)) (DO:Int) (Bp:List Int) (xy:Int):Option (List Int×Int):=ch Bo DO Bp (IntKind.i64.wrap (xy+1))
theorem aD.j10_P  {C61_:Nat->Nat->Sl->Int->Hp->OA} {ch:List (Int×Int×Int×Int×Int)->Int->List Int->Int->Option (List Int×Int)} (hC61:aD.S61 H0 Ri R0  C61_ ch) {Rj Rk:ON} {Iy CS Iz:Nat} {Rl Rm:Cap} {Bo:List (Int×Int×Int×Int×Int)} {DO xy:Int} {Bp:List Int} {Rp:List AV} (abg:Iy=Bo.length) (abh:Iz=Bp.length) (h0:Out H0 Ri H (Rs.blk CS [.sl ⟨Rj,Iy,Rl⟩,.i DO]::Rs.own ⟨Rk,Iz,Rm⟩ eI.z Rp::R0) λR=>ROs (ai eI (ai eI (ai eI (ai eI eI)))) H R ⟨Rj,Iy,Rl⟩ Bo/\CR eI H R Rp Bp) {r:List Int×Int} (hp:aD.pj10 F ch Bo DO Bp xy=some r):Rt (aD.j10 F  C61_ CS 0 ⟨Rk,Iz,Rm⟩ xy H) (aD.Q H0 Ri R0  r):=by
 obtain ⟨w0,s0,abi,abj⟩:=h0
 subst abg
 subst abh
 unfold aD.pj10 at hp
 unfold aD.j10
 exact hC61 rfl rfl ⟨w0,s0,abi,abj⟩ hp
def aD.pj11 (F:Nat) (ch:List (Int×Int×Int×Int×Int)->Int->List Int->Int->Option (List Int×Int)) (Bq:List (Int×Int×Int×Int×Int)) (DP:Int) (Br:List Int) (xz:Int):Option (List Int×Int):=aD.pj10 F ch Bq DP Br xz
theorem aD.j11_P  {C61_:Nat->Nat->Sl->Int->Hp->OA} {ch:List (Int×Int×Int×Int×Int)->Int->List Int->Int->Option (List Int×Int)} (hC61:aD.S61 H0 Ri R0  C61_ ch) {Rq Rr:ON} {IA CT IB:Nat} {Ru Rv:Cap} {Bq:List (Int×Int×Int×Int×Int)} {DP xz:Int} {Br:List Int} {Rw:List AV} (abk:IA=Bq.length) (abl:IB=Br.length) (h0:Out H0 Ri H (Rs.blk CT [.sl ⟨Rq,IA,Ru⟩,.i DP]::Rs.own ⟨Rr,IB,Rv⟩ eI.z Rw::R0) λR=>ROs (ai eI (ai eI (ai eI (ai eI eI)))) H R ⟨Rq,IA,Ru⟩ Bq/\CR eI H R Rw Br) {r:List Int×Int} (hp:aD.pj11 F ch Bq DP Br xz=some r):Rt (aD.j11 F  C61_ CT 0 ⟨Rr,IB,Rv⟩ xz H) (aD.Q H0 Ri R0  r):=by
 obtain ⟨w0,s0,abm,abn⟩:=h0
 subst abk
 subst abl
 unfold aD.pj11 at hp
 unfold aD.j11
 exact aD.j10_P (@hC61) rfl rfl ⟨w0,s0,abm,abn⟩ hp
def aD.pl1963 (F:Nat) (ch:List (Int×Int×Int×Int×Int)->Int->List Int->Int->Option (List Int×Int)):Nat->List (Int×Int×Int×Int×Int)->Int->List Int->Int->Int->Int->Int->Option (List Int×Int)
 | 0,_,_,_,_,_,_,_=>none
 | k+1,um,vI,qJ,nw,kw,kx,ll=>(bif (decide (ll<(qJ.length:Int))) then ((ix qJ ll).bind λn1=>(bif ((gt qJ n1)==(if kx>kw then kx else kw)) then ((ix qJ ll).bind λn2=>(some (qJ.set n2 (if kx<kw then kx else kw))).bind λl3=>aD.pj12 F (aD.pl1963 F ch k) um vI l3 nw kw kx ll) else (aD.pj12 F (aD.pl1963 F ch k) um vI qJ nw kw kx ll))) else (aD.pj11 F ch um vI qJ nw))
theorem aD.l1963_P  {C61_:Nat->Nat->Sl->Int->Hp->OA} {ch:List (Int×Int×Int×Int×Int)->Int->List Int->Int->Option (List Int×Int)} (hC61:aD.S61 H0 Ri R0  C61_ ch):∀ k,aD.S1963 H0 Ri R0  (aD.l1963 F  C61_ k) (aD.pl1963 F ch k):=by
 intro k
 induction k with
 | zero=>unfold aD.S1963;intros;rename_i hp;cases hp
 | succ k ih=>
  intro Ir Is DK pw DL It Iu um vI nw kw kx ll qJ Iv H abo abp h0 r hp
  obtain ⟨w0,s0,IC,Bs⟩:=h0
  subst abo
  subst abp
  unfold aD.pl1963 at hp
  unfold aD.l1963
  refine aM hp (λhp=>?_) λhp=>?_
  ·obtain ⟨n1,g1,hp⟩:=aj hp
   obtain ⟨p1,q1,i1,h1,j1⟩:=W.ixo (E:=eI) w0 (i:=1) rfl rfl Bs g1
   refine aa i1 ?_
   have h1:_=[_]:=h1
   subst h1
   refine aa (af (j1 0 _ rfl)) ?_
   refine aM hp (λhp=>?_) λhp=>?_
   ·obtain ⟨n2,g2,hp⟩:=aj hp
    obtain ⟨p2,q2,i2,h2,j2⟩:=W.ixo (E:=eI) w0 (i:=1) rfl rfl Bs g2
    refine aa i2 ?_
    obtain ⟨l3,e3,hp⟩:=aj hp
    refine gl eI w0 (i:=1) (j:=0) (p:=p2) rfl rfl Bs g2 i2 e3 rfl rfl (λ_ h=>by have h:_=[_]:=h;subst h;exact rfl) λH4 k4 w4 s4 c4=>?_
    exact aD.j12_P (@ih) rfl ((ev e3).symm) ⟨w4,(s0.trans s4),(IC.step s4),c4⟩ hp
   ·exact aD.j12_P (@ih) rfl rfl ⟨w0,s0,IC,Bs⟩ hp
  ·exact aD.j11_P (@hC61) rfl rfl ⟨w0,s0,IC,Bs⟩ hp
def aD.S509 (H0:Hp) (Ri R0:List Rs)  (C:Nat->Nat->Sl->Sl->Int->Int->Hp->OA) (pC:Int->List Int->List Int->Int->Int->Option (List Int×Int)):Prop:=∀ {ID IE IF:ON} {DQ pv DR DS:Nat} {IG IH II:Cap} {IJ:List (Int×Int×Int×Int×Int)} {vJ lj kv:Int} {qK qL:List Int} {IK IL:List AV},∀ {H:Hp},DQ=IJ.length->DR=qK.length->DS=qL.length->(Out H0 Ri H (Rs.blk pv [.sl ⟨ID,DQ,IG⟩,.i vJ]::Rs.own ⟨IE,DR,IH⟩ eI.z IK::Rs.own ⟨IF,DS,II⟩ eI.z IL::R0) λR=>ROs (ai eI (ai eI (ai eI (ai eI eI)))) H R ⟨ID,DQ,IG⟩ IJ/\CR eI H R IK qK/\CR eI H R IL qL)->∀ {r:List Int×Int},pC vJ qK qL lj kv=some r->Rt (C pv 0 ⟨IE,DR,IH⟩ ⟨IF,DS,II⟩ lj kv H) (aD.Q H0 Ri R0  r)
def aD.pj7 (F:Nat) (tn:Int->List Int->List Int->Int->Int->Option (List Int×Int)) (DT:Int) (Bt:List Int) (Bu:List Int) (xw:Int) (xx:Int):Option (List Int×Int):=tn DT Bt Bu xw (IntKind.i64.wrap (xx+1))
theorem aD.j7_P  {C509_:Nat->Nat->Sl->Sl->Int->Int->Hp->OA} {tn:Int->List Int->List Int->Int->Int->Option (List Int×Int)} (hC509:aD.S509 H0 Ri R0  C509_ tn) {Rx Ry Rz:ON} {IM CP IN IP:Nat} {RA RB RC:Cap} {RD:List (Int×Int×Int×Int×Int)} {DT xw xx:Int} {Bt Bu:List Int} {RE RF:List AV} (abq:IM=RD.length) (abr:IN=Bt.length) (abt:IP=Bu.length) (h0:Out H0 Ri H (Rs.blk CP [.sl ⟨Rx,IM,RA⟩,.i DT]::Rs.own ⟨Ry,IN,RB⟩ eI.z RE::Rs.own ⟨Rz,IP,RC⟩ eI.z RF::R0) λR=>ROs (ai eI (ai eI (ai eI (ai eI eI)))) H R ⟨Rx,IM,RA⟩ RD/\CR eI H R RE Bt/\CR eI H R RF Bu) {r:List Int×Int} (hp:aD.pj7 F tn DT Bt Bu xw xx=some r):Rt (aD.j7 F  C509_ CP 0 ⟨Ry,IN,RB⟩ ⟨Rz,IP,RC⟩ xw xx H) (aD.Q H0 Ri R0  r):=by
 obtain ⟨w0,s0,abu,abv,abw⟩:=h0
 subst abq
 subst abr
 subst abt
 unfold aD.pj7 at hp
 unfold aD.j7
 exact hC509 rfl rfl rfl ⟨w0,s0,abu,abv,abw⟩ hp
def aD.pj6 (F:Nat)  (DU:Int) (Bv:List Int) (xv:Int):Option (List Int×Int):=some (Bv,(IntKind.i64.wrap (xv+DU)))
theorem aD.j6_P   {RG RH:ON} {IQ CO IR:Nat} {RI RJ:Cap} {RK:List (Int×Int×Int×Int×Int)} {DU xv:Int} {Bv:List Int} {RL:List AV} (abx:IQ=RK.length) (aby:IR=Bv.length) (h0:Out H0 Ri H (Rs.blk CO [.sl ⟨RG,IQ,RI⟩,.i DU]::Rs.own ⟨RH,IR,RJ⟩ eI.z RL::R0) λR=>ROs (ai eI (ai eI (ai eI (ai eI eI)))) H R ⟨RG,IQ,RI⟩ RK/\CR eI H R RL Bv) {r:List Int×Int} (hp:aD.pj6 F  DU Bv xv=some r):Rt (aD.j6 F   CO 0 ⟨RH,IR,RJ⟩ xv H) (aD.Q H0 Ri R0  r):=by
 obtain ⟨w0,s0,agJ,abz⟩:=h0
 subst abx
 subst aby
 unfold aD.pj6 at hp
 unfold aD.j6
 refine aa (af (w0.ld (i:=0) rfl rfl)) ?_
 obtain ⟨w1,s1⟩:=w0.pick' [1] 2 rfl rfl rfl
 exact aR hp ⟨_,_,_,_,rfl,rfl,w1,(s0.trans s1),(abz.step s1)⟩
def aD.pl509 (F:Nat) :Nat->Int->List Int->List Int->Int->Int->Option (List Int×Int)
 | 0,_,_,_,_,_=>none
 | k+1,vJ,qK,qL,lj,kv=>(bif (decide (kv<(qK.length:Int))) then ((ix qK kv).bind λn1=>(bif ((gt qK n1)==kv) then ((apn qL ([lj]:List Int)).bind λl3=>aD.pj7 F (aD.pl509 F k) vJ qK l3 (IntKind.i64.wrap (lj+1)) kv) else ((ix qK kv).bind λn6=>(ix qL (gt qK n6)).bind λn7=>(apn qL ([(gt qL n7)]:List Int)).bind λl9=>aD.pj7 F (aD.pl509 F k) vJ qK l9 lj kv))) else (aD.pj6 F vJ qL lj))
theorem aD.l509_P  :∀ k,aD.S509 H0 Ri R0  (aD.l509 F   k) (aD.pl509 F  k):=by
 intro k
 induction k with
 | zero=>unfold aD.S509;intros;rename_i hp;cases hp
 | succ k ih=>
  intro ID IE IF DQ pv DR DS IG IH II IJ vJ lj kv qK qL IK IL H abA abB abC h0 r hp
  obtain ⟨w0,s0,IS,DV,DW⟩:=h0
  subst abA
  subst abB
  subst abC
  unfold aD.pl509 at hp
  unfold aD.l509
  refine aM hp (λhp=>?_) λhp=>?_
  ·obtain ⟨n1,g1,hp⟩:=aj hp
   obtain ⟨p1,q1,i1,h1,j1⟩:=W.ixo (E:=eI) w0 (i:=1) rfl rfl DV g1
   refine aa i1 ?_
   have h1:_=[_]:=h1
   subst h1
   refine aa (af (j1 0 _ rfl)) ?_
   refine aM hp (λhp=>?_) λhp=>?_
   ·refine lL eI w0 (n:=1) (l:=([lj]:List Int)) rfl (CR.cons1 rfl CR.empty) rfl λH2 w2 s2 c2=>?_
    refine aa (w2.rowo (i:=0) rfl) ?_
    obtain ⟨l3,e3,hp⟩:=aj hp
    refine qp eI w2 (i:=3) rfl rfl (DW.step s2) c2 (show 1=List.length ([lj]:List Int) from rfl) rfl e3 λa4 d4 H4 w4 s4 c4 x4=>?_
    obtain ⟨w5,s5⟩:=w4.pick' [1,2,3] 4 rfl rfl rfl
    exact aD.j7_P (@ih) rfl rfl rfl ⟨w5,(s0.trans (s2.trans (s4.trans s5))),(IS.step (s2.trans (s4.trans s5))),(DV.step (s2.trans (s4.trans s5))),(c4.step s5)⟩ hp
   ·obtain ⟨n6,g6,hp⟩:=aj hp
    obtain ⟨p6,q6,i6,h6,j6⟩:=W.ixo (E:=eI) w0 (i:=1) rfl rfl DV g6
    refine aa i6 ?_
    have h6:_=[_]:=h6
    subst h6
    refine aa (af (j6 0 _ rfl)) ?_
    obtain ⟨n7,g7,hp⟩:=aj hp
    obtain ⟨p7,q7,i7,h7,j7⟩:=W.ixo (E:=eI) w0 (i:=2) rfl rfl DW g7
    refine aa i7 ?_
    have h7:_=[_]:=h7
    subst h7
    refine aa (af (j7 0 _ rfl)) ?_
    refine lL eI w0 (n:=1) (l:=([(gt qL n7)]:List Int)) rfl (CR.cons1 rfl CR.empty) rfl λH8 w8 s8 c8=>?_
    refine aa (w8.rowo (i:=0) rfl) ?_
    obtain ⟨l9,e9,hp⟩:=aj hp
    refine qp eI w8 (i:=3) rfl rfl (DW.step s8) c8 (show 1=List.length ([(gt qL n7)]:List Int) from rfl) rfl e9 λa10 d10 H10 w10 s10 c10 x10=>?_
    obtain ⟨w11,s11⟩:=w10.pick' [1,2,3] 4 rfl rfl rfl
    exact aD.j7_P (@ih) rfl rfl rfl ⟨w11,(s0.trans (s8.trans (s10.trans s11))),(IS.step (s8.trans (s10.trans s11))),(DV.step (s8.trans (s10.trans s11))),(c10.step s11)⟩ hp
  ·obtain ⟨w12,s12⟩:=w0.pick' [0,2] 3 rfl rfl rfl
   exact aD.j6_P rfl rfl ⟨w12,(s0.trans s12),(IS.step s12),(DW.step s12)⟩ hp
def aD.pj8 (F:Nat)  (DX:Int) (Bw:List Int):Option (List Int×Int):=aD.pl509 F F DX Bw ([]:List Int) 0 0
theorem aD.j8_P   {RM RN:ON} {IT CQ IU:Nat} {RO RP:Cap} {RQ:List (Int×Int×Int×Int×Int)} {DX:Int} {Bw:List Int} {RR:List AV} (abD:IT=RQ.length) (abE:IU=Bw.length) (h0:Out H0 Ri H (Rs.blk CQ [.sl ⟨RM,IT,RO⟩,.i DX]::Rs.own ⟨RN,IU,RP⟩ eI.z RR::R0) λR=>ROs (ai eI (ai eI (ai eI (ai eI eI)))) H R ⟨RM,IT,RO⟩ RQ/\CR eI H R RR Bw) {r:List Int×Int} (hp:aD.pj8 F  DX Bw=some r):Rt (aD.j8 F   CQ 0 ⟨RN,IU,RP⟩ H) (aD.Q H0 Ri R0  r):=by
 obtain ⟨w0,s0,abF,abG⟩:=h0
 subst abD
 subst abE
 unfold aD.pj8 at hp
 unfold aD.j8
 refine lL eI w0 (n:=0) (l:=([]:List Int)) rfl CR.empty rfl λH1 w1 s1 c1=>?_
 obtain ⟨w2,s2⟩:=w1.pick' [1,2,0] 3 rfl rfl rfl
 exact aD.l509_P F rfl rfl (show 0=List.length ([]:List Int) from rfl) ⟨w2,(s0.trans (s1.trans s2)),(abF.step (s1.trans s2)),(abG.step (s1.trans s2)),(c1.step s2)⟩ hp
def aD.pl61 (F:Nat) :Nat->List (Int×Int×Int×Int×Int)->Int->List Int->Int->Option (List Int×Int)
 | 0,_,_,_,_=>none
 | k+1,rr,zB,ru,mf=>(bif (decide (mf<(rr.length:Int))) then ((ix rr mf).bind λn1=>(ix ru ((gt rr n1).2.1)).bind λn2=>(ix rr mf).bind λn3=>(ix ru ((gt rr n3).2.2.2.1)).bind λn4=>aD.pl1963 F (aD.pl61 F k) F rr zB ru mf (gt ru n2) (gt ru n4) 0) else (aD.pj8 F zB ru))
theorem aD.l61_P  :∀ k,aD.S61 H0 Ri R0  (aD.l61 F   k) (aD.pl61 F  k):=by
 intro k
 induction k with
 | zero=>unfold aD.S61;intros;rename_i hp;cases hp
 | succ k ih=>
  intro Im In DI ou DJ Io Ip rr zB mf ru Iq H abH abI h0 r hp
  obtain ⟨w0,s0,DY,DZ⟩:=h0
  subst abH
  subst abI
  unfold aD.pl61 at hp
  unfold aD.l61
  refine aa (az (w0.ld (i:=0) rfl rfl)) ?_
  refine aM hp (λhp=>?_) λhp=>?_
  ·refine aa (az (w0.ld (i:=0) rfl rfl)) ?_
   obtain ⟨n1,g1,hp⟩:=aj hp
   obtain ⟨p1,q1,i1,h1,j1⟩:=ROs.ixr DY rfl g1
   refine aa i1 ?_
   obtain ⟨_,_,rfl,rfl,_,_,rfl,rfl,_,_,rfl,rfl,_,_,rfl,rfl,rfl⟩:=h1
   refine aa (af (j1 1 _ rfl)) ?_
   obtain ⟨n2,g2,hp⟩:=aj hp
   obtain ⟨p2,q2,i2,h2,j2⟩:=W.ixo (E:=eI) w0 (i:=1) rfl rfl DZ g2
   refine aa i2 ?_
   have h2:_=[_]:=h2
   subst h2
   refine aa (af (j2 0 _ rfl)) ?_
   refine aa (az (w0.ld (i:=0) rfl rfl)) ?_
   obtain ⟨n3,g3,hp⟩:=aj hp
   obtain ⟨p3,q3,i3,h3,j3⟩:=ROs.ixr DY rfl g3
   refine aa i3 ?_
   obtain ⟨_,_,rfl,rfl,_,_,rfl,rfl,_,_,rfl,rfl,_,_,rfl,rfl,rfl⟩:=h3
   refine aa (af (j3 3 _ rfl)) ?_
   obtain ⟨n4,g4,hp⟩:=aj hp
   obtain ⟨p4,q4,i4,h4,j4⟩:=W.ixo (E:=eI) w0 (i:=1) rfl rfl DZ g4
   refine aa i4 ?_
   have h4:_=[_]:=h4
   subst h4
   refine aa (af (j4 0 _ rfl)) ?_
   exact aD.l1963_P (@ih) F rfl rfl ⟨w0,s0,DY,DZ⟩ hp
  ·exact aD.j8_P rfl rfl ⟨w0,s0,DY,DZ⟩ hp
def aD.pj13 (F:Nat)  (Bx:List (Int×Int×Int×Int×Int)) (D_:Int) (By:List Int):Option (List Int×Int):=aD.pl61 F F Bx D_ By 0
theorem aD.j13_P   {RS RT:ON} {IV xo IW:Nat} {RU RV:Cap} {Bx:List (Int×Int×Int×Int×Int)} {D_:Int} {By:List Int} {RW:List AV} (abJ:IV=Bx.length) (abK:IW=By.length) (h0:Out H0 Ri H (Rs.blk xo [.sl ⟨RS,IV,RU⟩,.i D_]::Rs.own ⟨RT,IW,RV⟩ eI.z RW::R0) λR=>ROs (ai eI (ai eI (ai eI (ai eI eI)))) H R ⟨RS,IV,RU⟩ Bx/\CR eI H R RW By) {r:List Int×Int} (hp:aD.pj13 F  Bx D_ By=some r):Rt (aD.j13 F   xo 0 ⟨RT,IW,RV⟩ H) (aD.Q H0 Ri R0  r):=by
 obtain ⟨w0,s0,abL,abM⟩:=h0
 subst abJ
 subst abK
 unfold aD.pj13 at hp
 unfold aD.j13
 exact aD.l61_P F rfl rfl ⟨w0,s0,abL,abM⟩ hp
def aD.pl29 (F:Nat) :Nat->List (Int×Int×Int×Int×Int)->Int->List Int->Int->Option (List Int×Int)
 | 0,_,_,_,_=>none
 | k+1,nY,tj,vH,mg=>(bif (decide (mg<(IntKind.i64.wrap (2 * (nY.length:Int))))) then ((apn vH ([mg]:List Int)).bind λl2=>aD.pl29 F k nY tj l2 (IntKind.i64.wrap (mg+1))) else (aD.pj13 F nY tj vH))
theorem aD.l29_P  :∀ k,aD.S29 H0 Ri R0  (aD.l29 F   k) (aD.pl29 F  k):=by
 intro k
 induction k with
 | zero=>unfold aD.S29;intros;rename_i hp;cases hp
 | succ k ih=>
  intro vC Ij ti jh DH vD Ik nY tj mg vH Il H Id abN h0 r hp
  obtain ⟨w0,s0,Bk,RX⟩:=h0
  subst Id
  subst abN
  unfold aD.pl29 at hp
  unfold aD.l29
  refine aa (az (w0.ld (i:=0) rfl rfl)) ?_
  refine aM hp (λhp=>?_) λhp=>?_
  ·refine lL eI w0 (n:=1) (l:=([mg]:List Int)) rfl (CR.cons1 rfl CR.empty) rfl λH1 w1 s1 c1=>?_
   refine aa (w1.rowo (i:=0) rfl) ?_
   obtain ⟨l2,e2,hp⟩:=aj hp
   refine qp eI w1 (i:=2) rfl rfl (RX.step s1) c1 (show 1=List.length ([mg]:List Int) from rfl) rfl e2 λa3 d3 H3 w3 s3 c3 x3=>?_
   obtain ⟨w4,s4⟩:=w3.pick' [1,2] 3 rfl rfl rfl
   exact ih rfl rfl ⟨w4,(s0.trans (s1.trans (s3.trans s4))),(Bk.step (s1.trans (s3.trans s4))),(c3.step s4)⟩ hp
  ·exact aD.j13_P rfl rfl ⟨w0,s0,Bk,RX⟩ hp
def aD.p (F:Nat) (aq:List (Int×Int×Int×Int×Int)) (ae:Int):Option (List Int×Int):=aD.pl29 F F aq ae ([]:List Int) 0
theorem aD.P {bF:ON} {aX:Nat} {bG:Cap} {aq:List (Int×Int×Int×Int×Int)} {ae:Int} (cT:aX=aq.length) (h0:Inn H R0 λR=>ROs (ai eI (ai eI (ai eI (ai eI eI)))) H R ⟨bF,aX,bG⟩ aq) {r:List Int×Int} (hp:aD.p F aq ae=some r):Rt (aD.tw F ⟨bF,aX,bG⟩ ae H) (aD.Q H R0 R0  r):=by
 obtain ⟨w0,cF⟩:=h0
 subst cT
 unfold aD.p at hp
 unfold aD.tw aD.twX
 have s0:=w0.rf
 refine bR w0 λH1 w1 s1=>?_
 refine lL eI w1 (n:=0) (l:=([]:List Int)) rfl CR.empty rfl λH2 w2 s2 c2=>?_
 obtain ⟨w3,s3⟩:=w2.pick' [1,0] 2 rfl rfl rfl
 exact aD.l29_P F rfl (show 0=List.length ([]:List Int) from rfl) ⟨w3,(s0.trans (s1.trans (s2.trans s3))),(cF.step (s1.trans (s2.trans s3))),(c2.step s3)⟩ hp
def gX.Q (H0:Hp) (Ri R0:List Rs)  (r:Int×Int×List Int) (v:AV) (H':Hp):Prop:=∃ o2a:ON,∃ o2n:Nat,∃ o2k:List AV,v=(.agg [(.i r.1),(.i r.2.1),(.sl ⟨o2a,o2n,.ex o2n⟩)])/\o2n=(r.2.2).length/\Out H0 Ri H' (Rs.own ⟨o2a,o2n,.ex o2n⟩ eI.z o2k::R0) λR=>CR eI H' R o2k (r.2.2)
def gX.p (F:Nat) (ac:Int) (ap:Int):Option (Int×Int×List Int):=(mkn (IntKind.i64.wrap (ac * ap)) (0:Int)).bind λl2=>some (ac,ap,l2)
theorem gX.P {ac ap:Int}  (h0:Inn H R0 λR=>True) {r:Int×Int×List Int} (hp:gX.p F ac ap=some r):Rt (gX.tw F ac ap H) (gX.Q H R0 R0  r):=by
 obtain ⟨w0,_⟩:=h0
 unfold gX.p at hp
 unfold gX.tw gX.twX
 have s0:=w0.rf
 refine bR w0 λH1 w1 s1=>?_
 obtain ⟨l2,e2,hp⟩:=aj hp
 refine uX eI (0:Int) w1 rfl rfl rfl e2 λH3 k3 w3 s3 c3=>?_
 refine aL w3 (i:=1) rfl rfl rfl λH4 w4 s4=>?_
 refine aL w4 (i:=1) rfl rfl rfl λH5 w5 s5=>?_
 refine aL w5 (i:=1) rfl rfl rfl λH6 w6 s6=>?_
 refine aa (af (w6.ld (i:=1) rfl rfl)) ?_
 refine aa (af (w6.ld (i:=1) rfl rfl)) ?_
 refine aa (az (w6.ld (i:=1) rfl rfl)) ?_
 obtain ⟨w7,s7⟩:=w6.pick' [0] 2 rfl rfl rfl
 exact aR hp ⟨_,_,_,rfl,rfl,w7,(s0.trans (s1.trans (s3.trans (s4.trans (s5.trans (s6.trans s7)))))),(c3.step (s4.trans (s5.trans (s6.trans s7))))⟩
def dS.Q (H0:Hp) (Ri R0:List Rs)  (r:Int×Int×List Int) (v:AV) (H':Hp):Prop:=∃ o2a:ON,∃ o2n:Nat,∃ o2c:Cap,∃ o2k:List AV,v=(.agg [(.i r.1),(.i r.2.1),(.sl ⟨o2a,o2n,o2c⟩)])/\o2n=(r.2.2).length/\Out H0 Ri H' (Rs.own ⟨o2a,o2n,o2c⟩ eI.z o2k::R0) λR=>CR eI H' R o2k (r.2.2)
def dS.S61 (H0:Hp) (Ri R0:List Rs)  (C:Nat->Nat->Nat->Nat->Sl->Int->Nat->Nat->Int->Hp->OA) (pC:List (Int×Int×Int×Int×Int)->List Int->Int->Int->Int->List Int->Int->Option (Int×Int×List Int)):Prop:=∀ {vF IX IY IZ:ON} {tl iS Ea nx Eb Ec gc:Nat} {vG I_ Ja Jb:Cap} {mL:List (Int×Int×Int×Int×Int)} {A_ RY RZ jR vK zC jb:Int} {Jc pd se:List Int} {Jd Je Jf:List AV},∀ {H:Hp},tl=mL.length->Ea=Jc.length->Eb=pd.length->Ec=se.length->(Out H0 Ri H (Rs.blk iS [.sl ⟨vF,tl,vG⟩,.i A_]::Rs.own ⟨IX,Ea,I_⟩ eI.z Jd::Rs.blk nx [.i RY,.i RZ,.sl ⟨IX,Ea,I_⟩]::Rs.own ⟨IY,Eb,Ja⟩ eI.z Je::Rs.own ⟨IZ,Ec,Jb⟩ eI.z Jf::Rs.blk gc [.i vK,.i zC,.sl ⟨IZ,Ec,Jb⟩]::R0) λR=>ROs (ai eI (ai eI (ai eI (ai eI eI)))) H R ⟨vF,tl,vG⟩ mL/\CR eI H R Jd Jc/\CR eI H R Je pd/\CR eI H R Jf se)->∀ {r:Int×Int×List Int},pC mL pd jR vK zC se jb=some r->Rt (C iS 0 nx 0 ⟨IY,Eb,Ja⟩ jR gc 0 jb H) (dS.Q H0 Ri R0  r)
def dS.pl61 (F:Nat) :Nat->List (Int×Int×Int×Int×Int)->List Int->Int->Int->Int->List Int->Int->Option (Int×Int×List Int)
 | 0,_,_,_,_,_,_,_=>none
 | k+1,mL,pd,jR,vK,zC,se,jb=>(bif (decide (jb<vK)) then ((ix mL jb).bind λn1=>(ix pd ((gt mL n1).1)).bind λn8=>(ix pd ((gt mL n1).2.2.1)).bind λn9=>(ix pd ((gt mL n1).2.1)).bind λn10=>(ix se (IntKind.i64.wrap ((IntKind.i64.wrap (jb * jR))+(gt pd n8)))).bind λn11=>(ix se (IntKind.i64.wrap ((IntKind.i64.wrap (jb * jR))+(gt pd n8)))).bind λn12=>(some (se.set n12 (IntKind.i64.wrap ((gt se n11) - 1)))).bind λl13=>(ix l13 (IntKind.i64.wrap ((IntKind.i64.wrap (jb * jR))+(gt pd n9)))).bind λn15=>(ix l13 (IntKind.i64.wrap ((IntKind.i64.wrap (jb * jR))+(gt pd n9)))).bind λn16=>(some (l13.set n16 (IntKind.i64.wrap ((gt l13 n15) - 1)))).bind λl17=>(ix l17 (IntKind.i64.wrap ((IntKind.i64.wrap (jb * jR))+(gt pd n10)))).bind λn19=>(ix l17 (IntKind.i64.wrap ((IntKind.i64.wrap (jb * jR))+(gt pd n10)))).bind λn20=>(some (l17.set n20 (IntKind.i64.wrap ((gt l17 n19)+2)))).bind λl21=>dS.pl61 F k mL pd jR vK zC l21 (IntKind.i64.wrap (jb+1))) else (some (vK,zC,se)))
theorem dS.l61_P  :∀ k,dS.S61 H0 Ri R0  (dS.l61 F (aD.tw F) (gX.tw F)  k) (dS.pl61 F  k):=by
 intro k
 induction k with
 | zero=>unfold dS.S61;intros;rename_i hp;cases hp
 | succ k ih=>
  intro vF IX IY IZ tl iS Ea nx Eb Ec gc vG I_ Ja Jb mL A_ RY RZ jR vK zC jb Jc pd se Jd Je Jf H Ia abO abQ abR h0 r hp
  obtain ⟨w0,s0,zA,abS,Ed,Ee⟩:=h0
  subst Ia
  subst abO
  subst abQ
  subst abR
  unfold dS.pl61 at hp
  unfold dS.l61
  refine aa (af (w0.ld (i:=5) rfl rfl)) ?_
  refine aM hp (λhp=>?_) λhp=>?_
  ·refine aa (az (w0.ld (i:=0) rfl rfl)) ?_
   obtain ⟨n1,g1,hp⟩:=aj hp
   obtain ⟨p1,q1,i1,h1,j1⟩:=ROs.ixr zA rfl g1
   refine aa i1 ?_
   obtain ⟨_,_,rfl,rfl,_,_,rfl,rfl,_,_,rfl,rfl,_,_,rfl,rfl,rfl⟩:=h1
   refine aa (af (j1 0 _ rfl)) ?_
   refine aa (af (j1 1 _ rfl)) ?_
   refine aa (af (j1 2 _ rfl)) ?_
   refine aa (af (j1 3 _ rfl)) ?_
   refine aa (af (j1 4 _ rfl)) ?_
   refine bR w0 λH2 w2 s2=>?_
   refine aL w2 (i:=0) rfl rfl rfl λH3 w3 s3=>?_
   refine aL w3 (i:=0) rfl rfl rfl λH4 w4 s4=>?_
   refine aL w4 (i:=0) rfl rfl rfl λH5 w5 s5=>?_
   refine aL w5 (i:=0) rfl rfl rfl λH6 w6 s6=>?_
   refine aL w6 (i:=0) rfl rfl rfl λH7 w7 s7=>?_
   refine aa (af (w7.ld (i:=0) rfl rfl)) ?_
   obtain ⟨n8,g8,hp⟩:=aj hp
   obtain ⟨p8,q8,i8,h8,j8⟩:=W.ixo (E:=eI) w7 (i:=4) rfl rfl (Ed.step (s2.trans (s3.trans (s4.trans (s5.trans (s6.trans s7)))))) g8
   refine aa i8 ?_
   have h8:_=[_]:=h8
   subst h8
   refine aa (af (j8 0 _ rfl)) ?_
   refine aa (af (w7.ld (i:=0) rfl rfl)) ?_
   obtain ⟨n9,g9,hp⟩:=aj hp
   obtain ⟨p9,q9,i9,h9,j9⟩:=W.ixo (E:=eI) w7 (i:=4) rfl rfl (Ed.step (s2.trans (s3.trans (s4.trans (s5.trans (s6.trans s7)))))) g9
   refine aa i9 ?_
   have h9:_=[_]:=h9
   subst h9
   refine aa (af (j9 0 _ rfl)) ?_
   refine aa (af (w7.ld (i:=0) rfl rfl)) ?_
   obtain ⟨n10,g10,hp⟩:=aj hp
   obtain ⟨p10,q10,i10,h10,j10⟩:=W.ixo (E:=eI) w7 (i:=4) rfl rfl (Ed.step (s2.trans (s3.trans (s4.trans (s5.trans (s6.trans s7)))))) g10
   refine aa i10 ?_
   have h10:_=[_]:=h10
   subst h10
   refine aa (af (j10 0 _ rfl)) ?_
   refine aa (az (w7.ld (i:=6) rfl rfl)) ?_
   refine aa (az (w7.ld (i:=6) rfl rfl)) ?_
   obtain ⟨n11,g11,hp⟩:=aj hp
   obtain ⟨p11,q11,i11,h11,j11⟩:=W.ixo (E:=eI) w7 (i:=5) rfl rfl (Ee.step (s2.trans (s3.trans (s4.trans (s5.trans (s6.trans s7)))))) g11
   refine aa i11 ?_
   have h11:_=[_]:=h11
   subst h11
   refine aa (af (j11 0 _ rfl)) ?_
   obtain ⟨n12,g12,hp⟩:=aj hp
   obtain ⟨p12,q12,i12,h12,j12⟩:=W.ixo (E:=eI) w7 (i:=5) rfl rfl (Ee.step (s2.trans (s3.trans (s4.trans (s5.trans (s6.trans s7)))))) g12
   refine aa i12 ?_
   obtain ⟨l13,e13,hp⟩:=aj hp
   refine gl eI w7 (i:=5) (j:=0) (p:=p12) rfl rfl (Ee.step (s2.trans (s3.trans (s4.trans (s5.trans (s6.trans s7)))))) g12 i12 e13 rfl rfl (λ_ h=>by have h:_=[_]:=h;subst h;exact rfl) λH14 k14 w14 s14 c14=>?_
   refine aa (az (w14.ld (i:=6) rfl rfl)) ?_
   refine aa (az (w14.ld (i:=6) rfl rfl)) ?_
   obtain ⟨n15,g15,hp⟩:=aj hp
   obtain ⟨p15,q15,i15,h15,j15⟩:=W.ixo (E:=eI) w14 (i:=5) rfl rfl c14 g15
   refine aa i15 ?_
   have h15:_=[_]:=h15
   subst h15
   refine aa (af (j15 0 _ rfl)) ?_
   obtain ⟨n16,g16,hp⟩:=aj hp
   obtain ⟨p16,q16,i16,h16,j16⟩:=W.ixo (E:=eI) w14 (i:=5) rfl rfl c14 g16
   refine aa i16 ?_
   obtain ⟨l17,e17,hp⟩:=aj hp
   refine gl eI w14 (i:=5) (j:=0) (p:=p16) rfl rfl c14 g16 i16 e17 rfl rfl (λ_ h=>by have h:_=[_]:=h;subst h;exact rfl) λH18 k18 w18 s18 c18=>?_
   refine aa (az (w18.ld (i:=6) rfl rfl)) ?_
   refine aa (az (w18.ld (i:=6) rfl rfl)) ?_
   obtain ⟨n19,g19,hp⟩:=aj hp
   obtain ⟨p19,q19,i19,h19,j19⟩:=W.ixo (E:=eI) w18 (i:=5) rfl rfl c18 g19
   refine aa i19 ?_
   have h19:_=[_]:=h19
   subst h19
   refine aa (af (j19 0 _ rfl)) ?_
   obtain ⟨n20,g20,hp⟩:=aj hp
   obtain ⟨p20,q20,i20,h20,j20⟩:=W.ixo (E:=eI) w18 (i:=5) rfl rfl c18 g20
   refine aa i20 ?_
   obtain ⟨l21,e21,hp⟩:=aj hp
   refine gl eI w18 (i:=5) (j:=0) (p:=p20) rfl rfl c18 g20 i20 e21 rfl rfl (λ_ h=>by have h:_=[_]:=h;subst h;exact rfl) λH22 k22 w22 s22 c22=>?_
   obtain ⟨w23,s23⟩:=w22.pick' [1,2,3,4,5,6] 7 rfl rfl rfl
   dsimp only [pk,pks,nth,List.drop,List.set,List.eraseIdx] at w23 s3 s4 s5 s6 s7 s14 c14 s18 c18 s22 c22 s23
   exact ih rfl rfl rfl (((ev e13).symm.trans (ev e17).symm).trans (ev e21).symm) ⟨w23,(s0.trans (s2.trans (s3.trans (s4.trans (s5.trans (s6.trans (s7.trans (s14.trans (s18.trans (s22.trans s23)))))))))),(zA.step (s2.trans (s3.trans (s4.trans (s5.trans (s6.trans (s7.trans (s14.trans (s18.trans (s22.trans s23)))))))))),(abS.step (s2.trans (s3.trans (s4.trans (s5.trans (s6.trans (s7.trans (s14.trans (s18.trans (s22.trans s23)))))))))),(Ed.step (s2.trans (s3.trans (s4.trans (s5.trans (s6.trans (s7.trans (s14.trans (s18.trans (s22.trans s23)))))))))),(c22.step s23)⟩ hp
  ·refine aa (af (w0.ld (i:=5) rfl rfl)) ?_
   refine aa (af (w0.ld (i:=5) rfl rfl)) ?_
   refine aa (az (w0.ld (i:=5) rfl rfl)) ?_
   refine aL w0 (i:=2) rfl rfl rfl λH24 w24 s24=>?_
   refine aL w24 (i:=2) rfl rfl rfl λH25 w25 s25=>?_
   refine aL w25 (i:=2) rfl rfl rfl λH26 w26 s26=>?_
   refine aa (af (w26.ld (i:=2) rfl rfl)) ?_
   refine aa (af (w26.ld (i:=2) rfl rfl)) ?_
   refine aa (az (w26.ld (i:=2) rfl rfl)) ?_
   obtain ⟨w27,s27⟩:=w26.pick' [4] 6 rfl rfl rfl
   exact aR hp ⟨_,_,_,_,rfl,rfl,w27,(s0.trans (s24.trans (s25.trans (s26.trans s27)))),(Ee.step (s24.trans (s25.trans (s26.trans s27))))⟩
def dS.p (F:Nat) (aq:List (Int×Int×Int×Int×Int)) (ae:Int):Option (Int×Int×List Int):=(aD.p F aq ae).bind λr3=>(gX.p F (aq.length:Int) r3.2).bind λr5=>dS.pl61 F F aq r3.1 r3.2 r5.1 r5.2.1 r5.2.2 0
theorem dS.P {bF:ON} {aX:Nat} {bG:Cap} {aq:List (Int×Int×Int×Int×Int)} {ae:Int} (cT:aX=aq.length) (h0:Inn H R0 λR=>ROs (ai eI (ai eI (ai eI (ai eI eI)))) H R ⟨bF,aX,bG⟩ aq) {r:Int×Int×List Int} (hp:dS.p F aq ae=some r):Rt (dS.tw F ⟨bF,aX,bG⟩ ae H) (dS.Q H R0 R0  r):=by
 obtain ⟨w0,cF⟩:=h0
 subst cT
 unfold dS.p at hp
 unfold dS.tw dS.twX
 have s0:=w0.rf
 refine bR w0 λH1 w1 s1=>?_
 refine bR w1 λH2 w2 s2=>?_
 refine aa (az (w2.ld (i:=1) rfl rfl)) ?_
 refine aa (af (w2.ld (i:=1) rfl rfl)) ?_
 obtain ⟨r3,e3,hp⟩:=aj hp
 refine aP (aD.P rfl ⟨w2,(cF.step (s1.trans s2))⟩ e3) ?_
 rintro _ H4 ⟨o0a_4,o0n_4,o0c_4,o0k_4,rfl,rfl,w4,s4,f4_0⟩
 refine aa rfl ?_
 refine aa rfl ?_
 refine aa rfl ?_
 refine aa rfl ?_
 refine aa rfl ?_
 refine aa (az (w4.ld (i:=2) rfl rfl)) ?_
 obtain ⟨r5,e5,hp⟩:=aj hp
 refine aP (gX.P ⟨w4,trivial⟩ e5) ?_
 rintro _ H6 ⟨o2a_6,o2n_6,o2k_6,rfl,rfl,w6,s6,f6_0⟩
 refine aa rfl ?_
 refine aa rfl ?_
 refine aa rfl ?_
 refine aa rfl ?_
 refine aa rfl ?_
 refine aa rfl ?_
 refine aa rfl ?_
 refine bR w6 λH7 w7 s7=>?_
 refine aL w7 (i:=0) rfl rfl rfl λH8 w8 s8=>?_
 refine aL w8 (i:=0) rfl rfl rfl λH9 w9 s9=>?_
 refine aL w9 (i:=0) rfl rfl rfl λH10 w10 s10=>?_
 obtain ⟨w11,s11⟩:=w10.nilS eI.z (by decide)
 obtain ⟨w12,s12⟩:=w11.pick' [5,0,4,3,2,1] 6 rfl rfl rfl
 exact dS.l61_P F rfl rfl rfl rfl ⟨w12,(s0.trans (s1.trans (s2.trans (s4.trans (s6.trans (s7.trans (s8.trans (s9.trans (s10.trans (s11.trans s12)))))))))),(cF.step (s1.trans (s2.trans (s4.trans (s6.trans (s7.trans (s8.trans (s9.trans (s10.trans (s11.trans s12)))))))))),((CR.empty:CR eI _ _ [] []).step s12),(f4_0.step (s6.trans (s7.trans (s8.trans (s9.trans (s10.trans (s11.trans s12))))))),(f6_0.step (s7.trans (s8.trans (s9.trans (s10.trans (s11.trans s12))))))⟩ hp
def dE.Q (H0:Hp) (Ri R0:List Rs)  (r:Int×Int×List Int) (v:AV) (H':Hp):Prop:=∃ o2a:ON,∃ o2n:Nat,∃ o2c:Cap,∃ o2k:List AV,v=(.agg [(.i r.1),(.i r.2.1),(.sl ⟨o2a,o2n,o2c⟩)])/\o2n=(r.2.2).length/\Out H0 Ri H' (Rs.own ⟨o2a,o2n,o2c⟩ eI.z o2k::R0) λR=>CR eI H' R o2k (r.2.2)
def dE.S29 (H0:Hp) (Ri R0:List Rs)  (C:Int->Nat->Nat->Nat->Nat->Int->Hp->OA) (pC:Int->Int->Int->List Int->Int->Option (Int×Int×List Int)):Prop:=∀ {nz Bz BA qj pP mh:Int} {vL vM:ON} {tp dM tq ii:Nat} {vN vO:Cap} {vP nZ:List Int} {vQ vR:List AV},∀ {H:Hp},tp=vP.length->tq=nZ.length->(Out H0 Ri H (Rs.own ⟨vL,tp,vN⟩ eI.z vQ::Rs.blk dM [.i Bz,.i BA,.sl ⟨vL,tp,vN⟩]::Rs.own ⟨vM,tq,vO⟩ eI.z vR::Rs.blk ii [.i qj,.i pP,.sl ⟨vM,tq,vO⟩]::R0) λR=>CR eI H R vQ vP/\CR eI H R vR nZ)->∀ {r:Int×Int×List Int},pC nz qj pP nZ mh=some r->Rt (C nz dM 0 ii 0 mh H) (dE.Q H0 Ri R0  r)
def dE.pl29 (F:Nat) :Nat->Int->Int->Int->List Int->Int->Option (Int×Int×List Int)
 | 0,_,_,_,_,_=>none
 | k+1,nz,qj,pP,nZ,mh=>(bif (decide (mh<nz)) then ((ix nZ (IntKind.i64.wrap ((IntKind.i64.wrap (mh * nz))+mh))).bind λn1=>(some (nZ.set n1 1)).bind λl2=>dE.pl29 F k nz qj pP l2 (IntKind.i64.wrap (mh+1))) else (some (qj,pP,nZ)))
theorem dE.l29_P  :∀ k,dE.S29 H0 Ri R0  (dE.l29 F (gX.tw F)  k) (dE.pl29 F  k):=by
 intro k
 induction k with
 | zero=>unfold dE.S29;intros;rename_i hp;cases hp
 | succ k ih=>
  intro nz Bz BA qj pP mh vL vM tp dM tq ii vN vO vP nZ vQ vR H Jg Jh h0 r hp
  obtain ⟨w0,s0,Ji,vS⟩:=h0
  subst Jg
  subst Jh
  unfold dE.pl29 at hp
  unfold dE.l29
  refine aM hp (λhp=>?_) λhp=>?_
  ·refine aa (az (w0.ld (i:=3) rfl rfl)) ?_
   obtain ⟨n1,g1,hp⟩:=aj hp
   obtain ⟨p1,q1,i1,h1,j1⟩:=W.ixo (E:=eI) w0 (i:=2) rfl rfl vS g1
   refine aa i1 ?_
   obtain ⟨l2,e2,hp⟩:=aj hp
   refine gl eI w0 (i:=2) (j:=0) (p:=p1) rfl rfl vS g1 i1 e2 rfl rfl (λ_ h=>by have h:_=[_]:=h;subst h;exact rfl) λH3 k3 w3 s3 c3=>?_
   exact ih rfl ((ev e2).symm) ⟨w3,(s0.trans s3),(Ji.step s3),c3⟩ hp
  ·refine aa (af (w0.ld (i:=3) rfl rfl)) ?_
   refine aa (af (w0.ld (i:=3) rfl rfl)) ?_
   refine aa (az (w0.ld (i:=3) rfl rfl)) ?_
   refine aL w0 (i:=1) rfl rfl rfl λH4 w4 s4=>?_
   refine aL w4 (i:=1) rfl rfl rfl λH5 w5 s5=>?_
   refine aL w5 (i:=1) rfl rfl rfl λH6 w6 s6=>?_
   refine aa (af (w6.ld (i:=1) rfl rfl)) ?_
   refine aa (af (w6.ld (i:=1) rfl rfl)) ?_
   refine aa (az (w6.ld (i:=1) rfl rfl)) ?_
   obtain ⟨w7,s7⟩:=w6.pick' [2] 4 rfl rfl rfl
   exact aR hp ⟨_,_,_,_,rfl,rfl,w7,(s0.trans (s4.trans (s5.trans (s6.trans s7)))),(vS.step (s4.trans (s5.trans (s6.trans s7))))⟩
def dE.p (F:Nat) (ac:Int):Option (Int×Int×List Int):=(gX.p F ac ac).bind λr2=>dE.pl29 F F ac r2.1 r2.2.1 r2.2.2 0
theorem dE.P {ac:Int}  (h0:Inn H R0 λR=>True) {r:Int×Int×List Int} (hp:dE.p F ac=some r):Rt (dE.tw F ac H) (dE.Q H R0 R0  r):=by
 obtain ⟨w0,_⟩:=h0
 unfold dE.p at hp
 unfold dE.tw dE.twX
 have s0:=w0.rf
 refine bR w0 λH1 w1 s1=>?_
 obtain ⟨r2,e2,hp⟩:=aj hp
 refine aP (gX.P ⟨w1,trivial⟩ e2) ?_
 rintro _ H3 ⟨o2a_3,o2n_3,o2k_3,rfl,rfl,w3,s3,f3_0⟩
 refine aa rfl ?_
 refine aa rfl ?_
 refine aa rfl ?_
 refine aa rfl ?_
 refine aa rfl ?_
 refine aa rfl ?_
 refine aa rfl ?_
 refine bR w3 λH4 w4 s4=>?_
 refine aL w4 (i:=0) rfl rfl rfl λH5 w5 s5=>?_
 refine aL w5 (i:=0) rfl rfl rfl λH6 w6 s6=>?_
 refine aL w6 (i:=0) rfl rfl rfl λH7 w7 s7=>?_
 obtain ⟨w8,s8⟩:=w7.nilS eI.z (by decide)
 obtain ⟨w9,s9⟩:=w8.pick' [0,3,2,1] 4 rfl rfl rfl
 exact dE.l29_P F rfl rfl ⟨w9,(s0.trans (s1.trans (s3.trans (s4.trans (s5.trans (s6.trans (s7.trans (s8.trans s9)))))))),((CR.empty:CR eI _ _ [] []).step s9),(f3_0.step (s4.trans (s5.trans (s6.trans (s7.trans (s8.trans s9))))))⟩ hp
def bD.Q (H0:Hp) (Ri R0:List Rs)  (r:Int) (v:AV) (H':Hp):Prop:=v=(.i r)/\Out H0 Ri H' (R0) λR=>True
def bD.p (F:Nat) (ae:Int) (eB:List Int) (ax:Int) (bS:Int):Option (Int):=(ix eB (IntKind.i64.wrap ((IntKind.i64.wrap (ax * ae))+bS))).bind λn2=>some (gt eB n2)
theorem bD.P {ac ae ax bS:Int} {ft:ON} {eK:Nat} {fu:Cap} {eB:List Int} (lU:eK=eB.length) (h0:Inn H R0 λR=>ROs eI H R ⟨ft,eK,fu⟩ eB) {r:Int} (hp:bD.p F ae eB ax bS=some r):Rt (bD.tw F ac ae ⟨ft,eK,fu⟩ ax bS H) (bD.Q H R0 R0  r):=by
 obtain ⟨w0,kN⟩:=h0
 subst lU
 unfold bD.p at hp
 unfold bD.tw bD.twX
 have s0:=w0.rf
 refine bR w0 λH1 w1 s1=>?_
 refine aa (az (w1.ld (i:=0) rfl rfl)) ?_
 refine aa (af (w1.ld (i:=0) rfl rfl)) ?_
 obtain ⟨n2,g2,hp⟩:=aj hp
 obtain ⟨p2,q2,i2,h2,j2⟩:=ROs.ixr (kN.step s1) rfl g2
 refine aa i2 ?_
 have h2:_=[_]:=h2
 subst h2
 refine aa (af (j2 0 _ rfl)) ?_
 obtain ⟨w3,s3⟩:=w1.pick' [] 1 rfl rfl rfl
 exact aR hp ⟨rfl,w3,(s0.trans (s1.trans s3)),trivial⟩
def fg.Q (H0:Hp) (Ri R0:List Rs)  (r:Int) (v:AV) (H':Hp):Prop:=v=(.i r)/\Out H0 Ri H' (R0) λR=>True
def fg.p (F:Nat) (ac:Int):Option (Int):=some (if (IntKind.i64.wrap (0 - ac))>ac then (IntKind.i64.wrap (0 - ac)) else ac)
theorem fg.P {ac:Int}  (h0:Inn H R0 λR=>True) {r:Int} (hp:fg.p F ac=some r):Rt (fg.tw F ac H) (fg.Q H R0 R0  r):=by
 obtain ⟨w0,_⟩:=h0
 unfold fg.p at hp
 unfold fg.tw fg.twX
 have s0:=w0.rf
 exact aR hp ⟨rfl,w0,s0,trivial⟩
def da.Q (H0:Hp) (Ri R0:List Rs) (ft:ON) (eK:Nat) (fu:Cap) (kO:Bool) (kP kQ:List AV) (r:List Int) (v:AV) (H':Hp):Prop:=∃ rv:List AV,v=(.tup [])/\eK=(r).length/\Out H0 Ri H' (Rs.ow kO ⟨ft,eK,fu⟩ eI.z kP rv kQ::R0) λR=>CR eI H' R rv (r)
def da.S7 (H0:Hp) (Ri R0:List Rs) (kR:ON) (jK:Nat) (kS:Cap) (ng:Bool) (nh ni:List AV) (C:Int->Int->Nat->Nat->Int->Hp->OA) (pC:Int->Int->Int->List Int->Int->Option (List Int)):Prop:=∀ {eT gY tt mM fp:Int} {lV:List Int} {vT:List AV} {dL:Nat},∀ {H:Hp},jK=lV.length->(Out H0 Ri H (Rs.ow ng ⟨kR,jK,kS⟩ eI.z nh vT ni::Rs.blk dL [.i tt,.i mM,.sl ⟨kR,jK,kS⟩]::R0) λR=>CR eI H R vT lV)->∀ {r:List Int},pC eT gY mM lV fp=some r->Rt (C eT gY dL 0 fp H) (da.Q H0 Ri R0 kR jK kS ng nh ni r)
def da.pl7 (F:Nat) :Nat->Int->Int->Int->List Int->Int->Option (List Int)
 | 0,_,_,_,_,_=>none
 | k+1,eT,gY,mM,lV,fp=>(bif (decide (fp<mM)) then ((bD.p F mM lV eT fp).bind λr2=>(bD.p F mM lV gY fp).bind λr6=>(ix lV (IntKind.i64.wrap ((IntKind.i64.wrap (eT * mM))+fp))).bind λn10=>(some (lV.set n10 r6)).bind λl11=>(ix l11 (IntKind.i64.wrap ((IntKind.i64.wrap (gY * mM))+fp))).bind λn13=>(some (l11.set n13 r2)).bind λl14=>da.pl7 F k eT gY mM l14 (IntKind.i64.wrap (fp+1))) else (some lV))
theorem da.l7_P {kR:ON} {jK:Nat} {kS:Cap} {ng:Bool} {nh ni:List AV} :∀ k,da.S7 H0 Ri R0 kR jK kS ng nh ni (da.l7 F (bD.tw F)  k) (da.pl7 F  k):=by
 intro k
 induction k with
 | zero=>unfold da.S7;intros;rename_i hp;cases hp
 | succ k ih=>
  intro eT gY tt mM fp lV vT dL H Jj h0 r hp
  obtain ⟨w0,s0,rx⟩:=h0
  subst Jj
  unfold da.pl7 at hp
  unfold da.l7
  refine aa (af (w0.ld (i:=1) rfl rfl)) ?_
  refine aM hp (λhp=>?_) λhp=>?_
  ·refine aa (af (w0.ld (i:=1) rfl rfl)) ?_
   refine aa (af (w0.ld (i:=1) rfl rfl)) ?_
   refine aa (az (w0.ld (i:=1) rfl rfl)) ?_
   have f1:=W.borrow1 eI w0 rx
   obtain ⟨w1,s1⟩:=w0.right1
   obtain ⟨r2,e2,hp⟩:=aj hp
   refine aP (bD.P rfl ⟨w1,f1⟩ e2) ?_
   rintro _ H3 ⟨rfl,w3,s3,_⟩
   obtain ⟨w4,s4⟩:=W.frame1 w0 w3 s3
   refine aa rfl ?_
   refine aa (az (w4.ld (i:=1) rfl rfl)) ?_
   refine aa (af (w4.ld (i:=1) rfl rfl)) ?_
   refine aa (af (w4.ld (i:=1) rfl rfl)) ?_
   refine aa (af (w4.ld (i:=1) rfl rfl)) ?_
   refine aa (az (w4.ld (i:=1) rfl rfl)) ?_
   have f5:=W.borrow1 eI w4 (rx.step s4)
   obtain ⟨w5,s5⟩:=w4.right1
   obtain ⟨r6,e6,hp⟩:=aj hp
   refine aP (bD.P rfl ⟨w5,f5⟩ e6) ?_
   rintro _ H7 ⟨rfl,w7,s7,_⟩
   obtain ⟨w8,s8⟩:=W.frame1 w4 w7 s7
   refine aa rfl ?_
   refine fO (W.cons_of (Rn:=[]) w5 w7 s7) ?_
   obtain ⟨n10,g10,hp⟩:=aj hp
   obtain ⟨p10,q10,i10,h10,j10⟩:=W.ixo (E:=eI) w8 (i:=0) rfl rfl (rx.step (s4.trans s8)) g10
   refine aa i10 ?_
   obtain ⟨l11,e11,hp⟩:=aj hp
   refine gl eI w8 (i:=0) (j:=0) (p:=p10) rfl rfl (rx.step (s4.trans s8)) g10 i10 e11 rfl rfl (λ_ h=>by have h:_=[_]:=h;subst h;exact rfl) λH12 k12 w12 s12 c12=>?_
   refine aa (az (w12.ld (i:=1) rfl rfl)) ?_
   refine aa (af (w12.ld (i:=1) rfl rfl)) ?_
   obtain ⟨n13,g13,hp⟩:=aj hp
   obtain ⟨p13,q13,i13,h13,j13⟩:=W.ixo (E:=eI) w12 (i:=0) rfl rfl c12 g13
   refine aa i13 ?_
   obtain ⟨l14,e14,hp⟩:=aj hp
   refine gl eI w12 (i:=0) (j:=0) (p:=p13) rfl rfl c12 g13 i13 e14 rfl rfl (λ_ h=>by have h:_=[_]:=h;subst h;exact rfl) λH15 k15 w15 s15 c15=>?_
   exact ih ((ev e11).symm.trans (ev e14).symm) ⟨w15,(s0.trans (s4.trans (s8.trans (s12.trans s15)))),c15⟩ hp
  ·obtain ⟨w16,s16⟩:=w0.pick' [0] 2 rfl rfl rfl
   exact aR hp ⟨_,rfl,rfl,w16,(s0.trans s16),(rx.step s16)⟩
def da.p (F:Nat) (ae:Int) (eB:List Int) (ax:Int) (bS:Int):Option (List Int):=da.pl7 F F ax bS ae eB 0
theorem da.P {ac ae ax bS:Int} {ft:ON} {eK:Nat} {fu:Cap} {eB:List Int} {kO:Bool} {kP kQ pe:List AV} (lU:eK=eB.length) (h0:Inn H (Rs.ow kO ⟨ft,eK,fu⟩ eI.z kP pe kQ::R0) λR=>CR eI H R pe eB) {r:List Int} (hp:da.p F ae eB ax bS=some r):Rt (da.tw F ac ae ⟨ft,eK,fu⟩ ax bS H) (da.Q H (Rs.ow kO ⟨ft,eK,fu⟩ eI.z kP pe kQ::R0) R0 ft eK fu kO kP kQ r):=by
 obtain ⟨w0,kN⟩:=h0
 subst lU
 unfold da.p at hp
 unfold da.tw da.twX
 have s0:=w0.rf
 refine bR w0 λH1 w1 s1=>?_
 obtain ⟨w2,s2⟩:=w1.pick' [1,0] 2 rfl rfl rfl
 exact da.l7_P F rfl ⟨w2,(s0.trans (s1.trans s2)),(kN.step (s1.trans s2))⟩ hp
def db.Q (H0:Hp) (Ri R0:List Rs) (ft:ON) (eK:Nat) (fu:Cap) (kO:Bool) (kP kQ:List AV) (r:List Int) (v:AV) (H':Hp):Prop:=∃ rv:List AV,v=(.tup [])/\eK=(r).length/\Out H0 Ri H' (Rs.ow kO ⟨ft,eK,fu⟩ eI.z kP rv kQ::R0) λR=>CR eI H' R rv (r)
def db.S7 (H0:Hp) (Ri R0:List Rs) (kR:ON) (jK:Nat) (kS:Cap) (ng:Bool) (nh ni:List AV) (C:Int->Int->Nat->Nat->Int->Hp->OA) (pC:Int->Int->Int->Int->List Int->Int->Option (List Int)):Prop:=∀ {eT gY tt mM fp:Int} {lV:List Int} {vT:List AV} {dL:Nat},∀ {H:Hp},jK=lV.length->(Out H0 Ri H (Rs.ow ng ⟨kR,jK,kS⟩ eI.z nh vT ni::Rs.blk dL [.i tt,.i mM,.sl ⟨kR,jK,kS⟩]::R0) λR=>CR eI H R vT lV)->∀ {r:List Int},pC eT gY tt mM lV fp=some r->Rt (C eT gY dL 0 fp H) (db.Q H0 Ri R0 kR jK kS ng nh ni r)
def db.pl7 (F:Nat) :Nat->Int->Int->Int->Int->List Int->Int->Option (List Int)
 | 0,_,_,_,_,_,_=>none
 | k+1,eT,gY,tt,mM,lV,fp=>(bif (decide (fp<tt)) then ((bD.p F mM lV fp eT).bind λr2=>(bD.p F mM lV fp gY).bind λr6=>(ix lV (IntKind.i64.wrap ((IntKind.i64.wrap (fp * mM))+eT))).bind λn10=>(some (lV.set n10 r6)).bind λl11=>(ix l11 (IntKind.i64.wrap ((IntKind.i64.wrap (fp * mM))+gY))).bind λn13=>(some (l11.set n13 r2)).bind λl14=>db.pl7 F k eT gY tt mM l14 (IntKind.i64.wrap (fp+1))) else (some lV))
theorem db.l7_P {kR:ON} {jK:Nat} {kS:Cap} {ng:Bool} {nh ni:List AV} :∀ k,db.S7 H0 Ri R0 kR jK kS ng nh ni (db.l7 F (bD.tw F)  k) (db.pl7 F  k):=by
 intro k
 induction k with
 | zero=>unfold db.S7;intros;rename_i hp;cases hp
 | succ k ih=>
  intro eT gY tt mM fp lV vT dL H Jj h0 r hp
  obtain ⟨w0,s0,rx⟩:=h0
  subst Jj
  unfold db.pl7 at hp
  unfold db.l7
  refine aa (af (w0.ld (i:=1) rfl rfl)) ?_
  refine aM hp (λhp=>?_) λhp=>?_
  ·refine aa (af (w0.ld (i:=1) rfl rfl)) ?_
   refine aa (af (w0.ld (i:=1) rfl rfl)) ?_
   refine aa (az (w0.ld (i:=1) rfl rfl)) ?_
   have f1:=W.borrow1 eI w0 rx
   obtain ⟨w1,s1⟩:=w0.right1
   obtain ⟨r2,e2,hp⟩:=aj hp
   refine aP (bD.P rfl ⟨w1,f1⟩ e2) ?_
   rintro _ H3 ⟨rfl,w3,s3,_⟩
   obtain ⟨w4,s4⟩:=W.frame1 w0 w3 s3
   refine aa rfl ?_
   refine aa (az (w4.ld (i:=1) rfl rfl)) ?_
   refine aa (af (w4.ld (i:=1) rfl rfl)) ?_
   refine aa (af (w4.ld (i:=1) rfl rfl)) ?_
   refine aa (af (w4.ld (i:=1) rfl rfl)) ?_
   refine aa (az (w4.ld (i:=1) rfl rfl)) ?_
   have f5:=W.borrow1 eI w4 (rx.step s4)
   obtain ⟨w5,s5⟩:=w4.right1
   obtain ⟨r6,e6,hp⟩:=aj hp
   refine aP (bD.P rfl ⟨w5,f5⟩ e6) ?_
   rintro _ H7 ⟨rfl,w7,s7,_⟩
   obtain ⟨w8,s8⟩:=W.frame1 w4 w7 s7
   refine aa rfl ?_
   refine fO (W.cons_of (Rn:=[]) w5 w7 s7) ?_
   obtain ⟨n10,g10,hp⟩:=aj hp
   obtain ⟨p10,q10,i10,h10,j10⟩:=W.ixo (E:=eI) w8 (i:=0) rfl rfl (rx.step (s4.trans s8)) g10
   refine aa i10 ?_
   obtain ⟨l11,e11,hp⟩:=aj hp
   refine gl eI w8 (i:=0) (j:=0) (p:=p10) rfl rfl (rx.step (s4.trans s8)) g10 i10 e11 rfl rfl (λ_ h=>by have h:_=[_]:=h;subst h;exact rfl) λH12 k12 w12 s12 c12=>?_
   refine aa (az (w12.ld (i:=1) rfl rfl)) ?_
   refine aa (af (w12.ld (i:=1) rfl rfl)) ?_
   obtain ⟨n13,g13,hp⟩:=aj hp
   obtain ⟨p13,q13,i13,h13,j13⟩:=W.ixo (E:=eI) w12 (i:=0) rfl rfl c12 g13
   refine aa i13 ?_
   obtain ⟨l14,e14,hp⟩:=aj hp
   refine gl eI w12 (i:=0) (j:=0) (p:=p13) rfl rfl c12 g13 i13 e14 rfl rfl (λ_ h=>by have h:_=[_]:=h;subst h;exact rfl) λH15 k15 w15 s15 c15=>?_
   exact ih ((ev e11).symm.trans (ev e14).symm) ⟨w15,(s0.trans (s4.trans (s8.trans (s12.trans s15)))),c15⟩ hp
  ·obtain ⟨w16,s16⟩:=w0.pick' [0] 2 rfl rfl rfl
   exact aR hp ⟨_,rfl,rfl,w16,(s0.trans s16),(rx.step s16)⟩
def db.p (F:Nat) (ac:Int) (ae:Int) (eB:List Int) (ax:Int) (bS:Int):Option (List Int):=db.pl7 F F ax bS ac ae eB 0
theorem db.P {ac ae ax bS:Int} {ft:ON} {eK:Nat} {fu:Cap} {eB:List Int} {kO:Bool} {kP kQ pe:List AV} (lU:eK=eB.length) (h0:Inn H (Rs.ow kO ⟨ft,eK,fu⟩ eI.z kP pe kQ::R0) λR=>CR eI H R pe eB) {r:List Int} (hp:db.p F ac ae eB ax bS=some r):Rt (db.tw F ac ae ⟨ft,eK,fu⟩ ax bS H) (db.Q H (Rs.ow kO ⟨ft,eK,fu⟩ eI.z kP pe kQ::R0) R0 ft eK fu kO kP kQ r):=by
 obtain ⟨w0,kN⟩:=h0
 subst lU
 unfold db.p at hp
 unfold db.tw db.twX
 have s0:=w0.rf
 refine bR w0 λH1 w1 s1=>?_
 obtain ⟨w2,s2⟩:=w1.pick' [1,0] 2 rfl rfl rfl
 exact db.l7_P F rfl ⟨w2,(s0.trans (s1.trans s2)),(kN.step (s1.trans s2))⟩ hp
def aF.Q (H0:Hp) (Ri R0:List Rs) (bH bk bJ bz bl bh bA bB bV bC:Int) (cY eL cJ eM eN:ON) (cb dH bZ dI dJ ac:Nat) (cZ eO cK eP eQ:Cap) (eu:List Int) (fC gw fD gy gz aG:Bool) (fE fF gA gB fG fH gC gD gE gF:List AV) (r:Bool×List Int×List Int×List Int×List Int×List Int) (v:AV) (H':Hp):Prop:=∃ kT:List AV,∃ mN:List AV,∃ kU:List AV,∃ mO:List AV,∃ mP:List AV,v=(.bool r.1)/\cb=(r.2.1).length/\dH=(r.2.2.1).length/\bZ=(r.2.2.2.1).length/\dI=(r.2.2.2.2.1).length/\dJ=(r.2.2.2.2.2).length/\Out H0 Ri H' (Rs.ow fC ⟨cY,cb,cZ⟩ eI.z fE kT fF::Rs.ow gw ⟨eL,dH,eO⟩ eI.z gA mN gB::Rs.ow fD ⟨cJ,bZ,cK⟩ eI.z fG kU fH::Rs.ow gy ⟨eM,dI,eP⟩ eI.z gC mO gD::Rs.ow gz ⟨eN,dJ,eQ⟩ eI.z gE mP gF::Rs.blk ac [.i bH,.i bk,.sl ⟨cY,cb,cZ⟩,.i bJ,.i bz,.sl ⟨eL,dH,eO⟩,.i bl,.i bh,.sl ⟨cJ,bZ,cK⟩,.i bA,.i bB,.sl ⟨eM,dI,eP⟩,.i bV,.i bC,.sl ⟨eN,dJ,eQ⟩,.bool aG]::R0) λR=>CR eI H' R kT (r.2.1)/\CR eI H' R mN (r.2.2.1)/\CR eI H' R kU (r.2.2.2.1)/\CR eI H' R mO (r.2.2.2.2.1)/\CR eI H' R mP (r.2.2.2.2.2)
def aF.S29 (H0:Hp) (Ri R0:List Rs) (aE au aI aw ay av aA aB aQ aC:Int) (bf bL aU bM bN:ON) (aO bo aJ bp br aH:Nat) (bg bO aV bP bQ:Cap) (cG:List Int) (ci cj ck cl cn bW:Bool) (co cp cq ct cu cv cw cz cA cB:List AV) (C:Nat->Nat->Int->Int->Int->Int->Hp->OA) (pC:Int->Int->List Int->Int->List Int->Int->Int->List Int->Int->Int->List Int->Int->List Int->Int->Int->Int->Int->Option (Bool×List Int×List Int×List Int×List Int×List Int)):Prop:=∀ {aS aW aT aZ a_:List Int} {dp dq dr dt du:List AV} {fc fj ov ox:Int},∀ {H:Hp},aO=aS.length->bo=aW.length->aJ=aT.length->bp=aZ.length->br=a_.length->(Out H0 Ri H (Rs.ow ci ⟨bf,aO,bg⟩ eI.z co dp cp::Rs.ow cj ⟨bL,bo,bO⟩ eI.z cq dq ct::Rs.ow ck ⟨aU,aJ,aV⟩ eI.z cu dr cv::Rs.ow cl ⟨bM,bp,bP⟩ eI.z cw dt cz::Rs.ow cn ⟨bN,br,bQ⟩ eI.z cA du cB::Rs.blk aH [.i aE,.i au,.sl ⟨bf,aO,bg⟩,.i aI,.i aw,.sl ⟨bL,bo,bO⟩,.i ay,.i av,.sl ⟨aU,aJ,aV⟩,.i aA,.i aB,.sl ⟨bM,bp,bP⟩,.i aQ,.i aC,.sl ⟨bN,br,bQ⟩,.bool bW]::R0) λR=>CR eI H R dp aS/\CR eI H R dq aW/\CR eI H R dr aT/\CR eI H R dt aZ/\CR eI H R du a_)->∀ {r:Bool×List Int×List Int×List Int×List Int×List Int},pC aE au aS aw aW ay av aT aA aB aZ aC a_ fc fj ov ox=some r->Rt (C aH 0 fc fj ov ox H) (aF.Q H0 Ri R0 aE au aI aw ay av aA aB aQ aC bf bL aU bM bN aO bo aJ bp br aH bg bO aV bP bQ cG ci cj ck cl cn bW co cp cq ct cu cv cw cz cA cB r)
def aF.S469 (H0:Hp) (Ri R0:List Rs) (aE au aI aw ay av aA aB aQ aC:Int) (bf bL aU bM bN:ON) (aO bo aJ bp br aH:Nat) (bg bO aV bP bQ:Cap) (cG:List Int) (ci cj ck cl cn bW:Bool) (co cp cq ct cu cv cw cz cA cB:List AV) (C:Nat->Nat->Int->Int->Int->Int->Int->Hp->OA) (pC:Int->Int->List Int->Int->List Int->Int->Int->List Int->Int->Int->List Int->Int->List Int->Int->Int->Int->Int->Int->Option (Bool×List Int×List Int×List Int×List Int×List Int)):Prop:=∀ {aS aW aT aZ a_:List Int} {dp dq dr dt du:List AV} {lu lw ml jA jB:Int},∀ {H:Hp},aO=aS.length->bo=aW.length->aJ=aT.length->bp=aZ.length->br=a_.length->(Out H0 Ri H (Rs.ow ci ⟨bf,aO,bg⟩ eI.z co dp cp::Rs.ow cj ⟨bL,bo,bO⟩ eI.z cq dq ct::Rs.ow ck ⟨aU,aJ,aV⟩ eI.z cu dr cv::Rs.ow cl ⟨bM,bp,bP⟩ eI.z cw dt cz::Rs.ow cn ⟨bN,br,bQ⟩ eI.z cA du cB::Rs.blk aH [.i aE,.i au,.sl ⟨bf,aO,bg⟩,.i aI,.i aw,.sl ⟨bL,bo,bO⟩,.i ay,.i av,.sl ⟨aU,aJ,aV⟩,.i aA,.i aB,.sl ⟨bM,bp,bP⟩,.i aQ,.i aC,.sl ⟨bN,br,bQ⟩,.bool bW]::R0) λR=>CR eI H R dp aS/\CR eI H R dq aW/\CR eI H R dr aT/\CR eI H R dt aZ/\CR eI H R du a_)->∀ {r:Bool×List Int×List Int×List Int×List Int×List Int},pC aE au aS aw aW ay av aT aA aB aZ aC a_ lu lw ml jA jB=some r->Rt (C aH 0 lu lw ml jA jB H) (aF.Q H0 Ri R0 aE au aI aw ay av aA aB aQ aC bf bL aU bM bN aO bo aJ bp br aH bg bO aV bP bQ cG ci cj ck cl cn bW co cp cq ct cu cv cw cz cA cB r)
def aF.pj10 (F:Nat) (tu:Int->Int->List Int->Int->List Int->Int->Int->List Int->Int->Int->List Int->Int->List Int->Int->Int->Int->Int->Int->Option (Bool×List Int×List Int×List Int×List Int×List Int)) (aE:Int) (au:Int) (aS:List Int) (aw:Int) (aW:List Int) (ay:Int) (av:Int) (aT:List Int) (aA:Int) (aB:Int) (aZ:List Int) (aC:Int) (a_:List Int) (xN:Int) (xO:Int) (xP:Int) (xQ:Int) (xR:Int):Option (Bool×List Int×List Int×List Int×List Int×List Int):=tu aE au aS aw aW ay av aT aA aB aZ aC a_ xN xO xP xQ (IntKind.i64.wrap (xR+1))
theorem aF.j10_P {aE au aI aw ay av aA aB aQ aC:Int} {bf bL aU bM bN:ON} {aO bo aJ bp br aH:Nat} {bg bO aV bP bQ:Cap} {cG:List Int} {ci cj ck cl cn bW:Bool} {co cp cq ct cu cv cw cz cA cB:List AV} {C469_:Nat->Nat->Int->Int->Int->Int->Int->Hp->OA} {tu:Int->Int->List Int->Int->List Int->Int->Int->List Int->Int->Int->List Int->Int->List Int->Int->Int->Int->Int->Int->Option (Bool×List Int×List Int×List Int×List Int×List Int)} (hC469:aF.S469 H0 Ri R0 aE au aI aw ay av aA aB aQ aC bf bL aU bM bN aO bo aJ bp br aH bg bO aV bP bQ cG ci cj ck cl cn bW co cp cq ct cu cv cw cz cA cB C469_ tu) {aS aW aT aZ a_:List Int} {dp dq dr dt du:List AV} {xN xO xP xQ xR:Int} (fI:aO=aS.length) (fJ:bo=aW.length) (fK:aJ=aT.length) (fL:bp=aZ.length) (fM:br=a_.length) (h0:Out H0 Ri H (Rs.ow ci ⟨bf,aO,bg⟩ eI.z co dp cp::Rs.ow cj ⟨bL,bo,bO⟩ eI.z cq dq ct::Rs.ow ck ⟨aU,aJ,aV⟩ eI.z cu dr cv::Rs.ow cl ⟨bM,bp,bP⟩ eI.z cw dt cz::Rs.ow cn ⟨bN,br,bQ⟩ eI.z cA du cB::Rs.blk aH [.i aE,.i au,.sl ⟨bf,aO,bg⟩,.i aI,.i aw,.sl ⟨bL,bo,bO⟩,.i ay,.i av,.sl ⟨aU,aJ,aV⟩,.i aA,.i aB,.sl ⟨bM,bp,bP⟩,.i aQ,.i aC,.sl ⟨bN,br,bQ⟩,.bool bW]::R0) λR=>CR eI H R dp aS/\CR eI H R dq aW/\CR eI H R dr aT/\CR eI H R dt aZ/\CR eI H R du a_) {r:Bool×List Int×List Int×List Int×List Int×List Int} (hp:aF.pj10 F tu aE au aS aw aW ay av aT aA aB aZ aC a_ xN xO xP xQ xR=some r):Rt (aF.j10 F (bD.tw F) (fg.tw F) (da.tw F) (db.tw F) C469_ aH 0 xN xO xP xQ xR H) (aF.Q H0 Ri R0 aE au aI aw ay av aA aB aQ aC bf bL aU bM bN aO bo aJ bp br aH bg bO aV bP bQ cG ci cj ck cl cn bW co cp cq ct cu cv cw cz cA cB r):=by
 obtain ⟨w0,s0,dv,dQ,dA,ec,ed⟩:=h0
 subst fI
 subst fJ
 subst fK
 subst fL
 subst fM
 unfold aF.pj10 at hp
 unfold aF.j10
 exact hC469 rfl rfl rfl rfl rfl ⟨w0,s0,dv,dQ,dA,ec,ed⟩ hp
def aF.pj8 (F:Nat) (ff:Int->Int->List Int->Int->List Int->Int->Int->List Int->Int->Int->List Int->Int->List Int->Int->Int->Int->Int->Option (Bool×List Int×List Int×List Int×List Int×List Int)) (aE:Int) (au:Int) (aS:List Int) (aw:Int) (aW:List Int) (ay:Int) (av:Int) (aT:List Int) (aA:Int) (aB:Int) (aZ:List Int) (aC:Int) (a_:List Int) (xF:Int) (xG:Int) (xH:Int) (xI:Int):Option (Bool×List Int×List Int×List Int×List Int×List Int):=ff aE au aS aw aW ay av aT aA aB aZ aC a_ xF xG xH (IntKind.i64.wrap (xI+1))
theorem aF.j8_P {aE au aI aw ay av aA aB aQ aC:Int} {bf bL aU bM bN:ON} {aO bo aJ bp br aH:Nat} {bg bO aV bP bQ:Cap} {cG:List Int} {ci cj ck cl cn bW:Bool} {co cp cq ct cu cv cw cz cA cB:List AV} {C29_:Nat->Nat->Int->Int->Int->Int->Hp->OA} {ff:Int->Int->List Int->Int->List Int->Int->Int->List Int->Int->Int->List Int->Int->List Int->Int->Int->Int->Int->Option (Bool×List Int×List Int×List Int×List Int×List Int)} (hC29:aF.S29 H0 Ri R0 aE au aI aw ay av aA aB aQ aC bf bL aU bM bN aO bo aJ bp br aH bg bO aV bP bQ cG ci cj ck cl cn bW co cp cq ct cu cv cw cz cA cB C29_ ff) {aS aW aT aZ a_:List Int} {dp dq dr dt du:List AV} {xF xG xH xI:Int} (fI:aO=aS.length) (fJ:bo=aW.length) (fK:aJ=aT.length) (fL:bp=aZ.length) (fM:br=a_.length) (h0:Out H0 Ri H (Rs.ow ci ⟨bf,aO,bg⟩ eI.z co dp cp::Rs.ow cj ⟨bL,bo,bO⟩ eI.z cq dq ct::Rs.ow ck ⟨aU,aJ,aV⟩ eI.z cu dr cv::Rs.ow cl ⟨bM,bp,bP⟩ eI.z cw dt cz::Rs.ow cn ⟨bN,br,bQ⟩ eI.z cA du cB::Rs.blk aH [.i aE,.i au,.sl ⟨bf,aO,bg⟩,.i aI,.i aw,.sl ⟨bL,bo,bO⟩,.i ay,.i av,.sl ⟨aU,aJ,aV⟩,.i aA,.i aB,.sl ⟨bM,bp,bP⟩,.i aQ,.i aC,.sl ⟨bN,br,bQ⟩,.bool bW]::R0) λR=>CR eI H R dp aS/\CR eI H R dq aW/\CR eI H R dr aT/\CR eI H R dt aZ/\CR eI H R du a_) {r:Bool×List Int×List Int×List Int×List Int×List Int} (hp:aF.pj8 F ff aE au aS aw aW ay av aT aA aB aZ aC a_ xF xG xH xI=some r):Rt (aF.j8 F (bD.tw F) (fg.tw F) (da.tw F) (db.tw F) C29_ aH 0 xF xG xH xI H) (aF.Q H0 Ri R0 aE au aI aw ay av aA aB aQ aC bf bL aU bM bN aO bo aJ bp br aH bg bO aV bP bQ cG ci cj ck cl cn bW co cp cq ct cu cv cw cz cA cB r):=by
 obtain ⟨w0,s0,dv,dQ,dA,ec,ed⟩:=h0
 subst fI
 subst fJ
 subst fK
 subst fL
 subst fM
 unfold aF.pj8 at hp
 unfold aF.j8
 exact hC29 rfl rfl rfl rfl rfl ⟨w0,s0,dv,dQ,dA,ec,ed⟩ hp
def aF.pj9 (F:Nat) (ff:Int->Int->List Int->Int->List Int->Int->Int->List Int->Int->Int->List Int->Int->List Int->Int->Int->Int->Int->Option (Bool×List Int×List Int×List Int×List Int×List Int)) (aE:Int) (au:Int) (aS:List Int) (aw:Int) (aW:List Int) (ay:Int) (av:Int) (aT:List Int) (aA:Int) (aB:Int) (aZ:List Int) (aC:Int) (a_:List Int) (xJ:Int) (xK:Int) (xL:Int) (xM:Int):Option (Bool×List Int×List Int×List Int×List Int×List Int):=aF.pj8 F ff aE au aS aw aW ay av aT aA aB aZ aC a_ xJ xK xL xM
theorem aF.j9_P {aE au aI aw ay av aA aB aQ aC:Int} {bf bL aU bM bN:ON} {aO bo aJ bp br aH:Nat} {bg bO aV bP bQ:Cap} {cG:List Int} {ci cj ck cl cn bW:Bool} {co cp cq ct cu cv cw cz cA cB:List AV} {C29_:Nat->Nat->Int->Int->Int->Int->Hp->OA} {ff:Int->Int->List Int->Int->List Int->Int->Int->List Int->Int->Int->List Int->Int->List Int->Int->Int->Int->Int->Option (Bool×List Int×List Int×List Int×List Int×List Int)} (hC29:aF.S29 H0 Ri R0 aE au aI aw ay av aA aB aQ aC bf bL aU bM bN aO bo aJ bp br aH bg bO aV bP bQ cG ci cj ck cl cn bW co cp cq ct cu cv cw cz cA cB C29_ ff) {aS aW aT aZ a_:List Int} {dp dq dr dt du:List AV} {xJ xK xL xM:Int} (fI:aO=aS.length) (fJ:bo=aW.length) (fK:aJ=aT.length) (fL:bp=aZ.length) (fM:br=a_.length) (h0:Out H0 Ri H (Rs.ow ci ⟨bf,aO,bg⟩ eI.z co dp cp::Rs.ow cj ⟨bL,bo,bO⟩ eI.z cq dq ct::Rs.ow ck ⟨aU,aJ,aV⟩ eI.z cu dr cv::Rs.ow cl ⟨bM,bp,bP⟩ eI.z cw dt cz::Rs.ow cn ⟨bN,br,bQ⟩ eI.z cA du cB::Rs.blk aH [.i aE,.i au,.sl ⟨bf,aO,bg⟩,.i aI,.i aw,.sl ⟨bL,bo,bO⟩,.i ay,.i av,.sl ⟨aU,aJ,aV⟩,.i aA,.i aB,.sl ⟨bM,bp,bP⟩,.i aQ,.i aC,.sl ⟨bN,br,bQ⟩,.bool bW]::R0) λR=>CR eI H R dp aS/\CR eI H R dq aW/\CR eI H R dr aT/\CR eI H R dt aZ/\CR eI H R du a_) {r:Bool×List Int×List Int×List Int×List Int×List Int} (hp:aF.pj9 F ff aE au aS aw aW ay av aT aA aB aZ aC a_ xJ xK xL xM=some r):Rt (aF.j9 F (bD.tw F) (fg.tw F) (da.tw F) (db.tw F) C29_ aH 0 xJ xK xL xM H) (aF.Q H0 Ri R0 aE au aI aw ay av aA aB aQ aC bf bL aU bM bN aO bo aJ bp br aH bg bO aV bP bQ cG ci cj ck cl cn bW co cp cq ct cu cv cw cz cA cB r):=by
 obtain ⟨w0,s0,dv,dQ,dA,ec,ed⟩:=h0
 subst fI
 subst fJ
 subst fK
 subst fL
 subst fM
 unfold aF.pj9 at hp
 unfold aF.j9
 exact aF.j8_P (@hC29) rfl rfl rfl rfl rfl ⟨w0,s0,dv,dQ,dA,ec,ed⟩ hp
def aF.pl469 (F:Nat) (ff:Int->Int->List Int->Int->List Int->Int->Int->List Int->Int->Int->List Int->Int->List Int->Int->Int->Int->Int->Option (Bool×List Int×List Int×List Int×List Int×List Int)):Nat->Int->Int->List Int->Int->List Int->Int->Int->List Int->Int->Int->List Int->Int->List Int->Int->Int->Int->Int->Int->Option (Bool×List Int×List Int×List Int×List Int×List Int)
 | 0,_,_,_,_,_,_,_,_,_,_,_,_,_,_,_,_,_,_=>none
 | k+1,aE,au,aS,aw,aW,ay,av,aT,aA,aB,aZ,aC,a_,lu,lw,ml,jA,jB=>(bif (decide (jB<au)) then ((bD.p F au aS jA jB).bind λr2=>(fg.p F r2).bind λr5=>(bif (decide (r5>0)) then ((bif (decide (lw<0)) then (aF.pl469 F ff k aE au aS aw aW ay av aT aA aB aZ aC a_ lu jA jB jA (IntKind.i64.wrap (jB+1))) else ((bD.p F au aS lw ml).bind λr8=>(fg.p F r8).bind λr11=>(bif (decide (r5<r11)) then (aF.pj10 F (aF.pl469 F ff k) aE au aS aw aW ay av aT aA aB aZ aC a_ lu jA jB jA jB) else (aF.pj10 F (aF.pl469 F ff k) aE au aS aw aW ay av aT aA aB aZ aC a_ lu lw ml jA jB))))) else (aF.pl469 F ff k aE au aS aw aW ay av aT aA aB aZ aC a_ lu lw ml jA (IntKind.i64.wrap (jB+1))))) else (aF.pj9 F ff aE au aS aw aW ay av aT aA aB aZ aC a_ lu lw ml jA))
theorem aF.l469_P {aE au aI aw ay av aA aB aQ aC:Int} {bf bL aU bM bN:ON} {aO bo aJ bp br aH:Nat} {bg bO aV bP bQ:Cap} {cG:List Int} {ci cj ck cl cn bW:Bool} {co cp cq ct cu cv cw cz cA cB:List AV} {C29_:Nat->Nat->Int->Int->Int->Int->Hp->OA} {ff:Int->Int->List Int->Int->List Int->Int->Int->List Int->Int->Int->List Int->Int->List Int->Int->Int->Int->Int->Option (Bool×List Int×List Int×List Int×List Int×List Int)} (hC29:aF.S29 H0 Ri R0 aE au aI aw ay av aA aB aQ aC bf bL aU bM bN aO bo aJ bp br aH bg bO aV bP bQ cG ci cj ck cl cn bW co cp cq ct cu cv cw cz cA cB C29_ ff):∀ k,aF.S469 H0 Ri R0 aE au aI aw ay av aA aB aQ aC bf bL aU bM bN aO bo aJ bp br aH bg bO aV bP bQ cG ci cj ck cl cn bW co cp cq ct cu cv cw cz cA cB (aF.l469 F (bD.tw F) (fg.tw F) (da.tw F) (db.tw F) C29_ k) (aF.pl469 F ff k):=by
 intro k
 induction k with
 | zero=>unfold aF.S469;intros;rename_i hp;cases hp
 | succ k ih=>
  intro aS aW aT aZ a_ dp dq dr dt du lu lw ml jA jB H fI fJ fK fL fM h0 r hp
  obtain ⟨w0,s0,dv,dQ,dA,ec,ed⟩:=h0
  subst fI
  subst fJ
  subst fK
  subst fL
  subst fM
  unfold aF.pl469 at hp
  unfold aF.l469
  refine aa (af (w0.ld (i:=5) rfl rfl)) ?_
  refine aM hp (λhp=>?_) λhp=>?_
  ·refine aa (af (w0.ld (i:=5) rfl rfl)) ?_
   refine aa (af (w0.ld (i:=5) rfl rfl)) ?_
   refine aa (az (w0.ld (i:=5) rfl rfl)) ?_
   have f1:=W.borrow1 eI w0 dv
   obtain ⟨w1,s1⟩:=w0.right1
   obtain ⟨r2,e2,hp⟩:=aj hp
   refine aP (bD.P rfl ⟨w1,f1⟩ e2) ?_
   rintro _ H3 ⟨rfl,w3,s3,_⟩
   obtain ⟨w4,s4⟩:=W.frame1 w0 w3 s3
   refine aa rfl ?_
   obtain ⟨r5,e5,hp⟩:=aj hp
   refine aP (fg.P ⟨w4,trivial⟩ e5) ?_
   rintro _ H6 ⟨rfl,w6,s6,_⟩
   refine aa rfl ?_
   refine aM hp (λhp=>?_) λhp=>?_
   ·refine aM hp (λhp=>?_) λhp=>?_
    ·exact ih rfl rfl rfl rfl rfl ⟨w6,(s0.trans (s4.trans s6)),(dv.step (s4.trans s6)),(dQ.step (s4.trans s6)),(dA.step (s4.trans s6)),(ec.step (s4.trans s6)),(ed.step (s4.trans s6))⟩ hp
    ·refine aa (af (w6.ld (i:=5) rfl rfl)) ?_
     refine aa (af (w6.ld (i:=5) rfl rfl)) ?_
     refine aa (az (w6.ld (i:=5) rfl rfl)) ?_
     have f7:=W.borrow1 eI w6 (dv.step (s4.trans s6))
     obtain ⟨w7,s7⟩:=w6.right1
     obtain ⟨r8,e8,hp⟩:=aj hp
     refine aP (bD.P rfl ⟨w7,f7⟩ e8) ?_
     rintro _ H9 ⟨rfl,w9,s9,_⟩
     obtain ⟨w10,s10⟩:=W.frame1 w6 w9 s9
     refine aa rfl ?_
     obtain ⟨r11,e11,hp⟩:=aj hp
     refine aP (fg.P ⟨w10,trivial⟩ e11) ?_
     rintro _ H12 ⟨rfl,w12,s12,_⟩
     refine aa rfl ?_
     refine aM hp (λhp=>?_) λhp=>?_
     ·exact aF.j10_P (@ih) rfl rfl rfl rfl rfl ⟨w12,(s0.trans (s4.trans (s6.trans (s10.trans s12)))),(dv.step (s4.trans (s6.trans (s10.trans s12)))),(dQ.step (s4.trans (s6.trans (s10.trans s12)))),(dA.step (s4.trans (s6.trans (s10.trans s12)))),(ec.step (s4.trans (s6.trans (s10.trans s12)))),(ed.step (s4.trans (s6.trans (s10.trans s12))))⟩ hp
     ·exact aF.j10_P (@ih) rfl rfl rfl rfl rfl ⟨w12,(s0.trans (s4.trans (s6.trans (s10.trans s12)))),(dv.step (s4.trans (s6.trans (s10.trans s12)))),(dQ.step (s4.trans (s6.trans (s10.trans s12)))),(dA.step (s4.trans (s6.trans (s10.trans s12)))),(ec.step (s4.trans (s6.trans (s10.trans s12)))),(ed.step (s4.trans (s6.trans (s10.trans s12))))⟩ hp
   ·exact ih rfl rfl rfl rfl rfl ⟨w6,(s0.trans (s4.trans s6)),(dv.step (s4.trans s6)),(dQ.step (s4.trans s6)),(dA.step (s4.trans s6)),(ec.step (s4.trans s6)),(ed.step (s4.trans s6))⟩ hp
  ·exact aF.j9_P (@hC29) rfl rfl rfl rfl rfl ⟨w0,s0,dv,dQ,dA,ec,ed⟩ hp
def aF.S65513 (H0:Hp) (Ri R0:List Rs) (aE au aI aw ay av aA aB aQ aC:Int) (bf bL aU bM bN:ON) (aO bo aJ bp br aH:Nat) (bg bO aV bP bQ:Cap) (cG:List Int) (ci cj ck cl cn bW:Bool) (co cp cq ct cu cv cw cz cA cB:List AV) (C:Nat->Nat->Int->Int->Hp->OA) (pC:Int->List Int->Int->List Int->Int->List Int->List Int->List Int->Int->Int->Option (Bool×List Int×List Int×List Int×List Int×List Int)):Prop:=∀ {aS aW aT aZ a_:List Int} {dp dq dr dt du:List AV} {mi mj:Int},∀ {H:Hp},aO=aS.length->bo=aW.length->aJ=aT.length->bp=aZ.length->br=a_.length->(Out H0 Ri H (Rs.ow ci ⟨bf,aO,bg⟩ eI.z co dp cp::Rs.ow cj ⟨bL,bo,bO⟩ eI.z cq dq ct::Rs.ow ck ⟨aU,aJ,aV⟩ eI.z cu dr cv::Rs.ow cl ⟨bM,bp,bP⟩ eI.z cw dt cz::Rs.ow cn ⟨bN,br,bQ⟩ eI.z cA du cB::Rs.blk aH [.i aE,.i au,.sl ⟨bf,aO,bg⟩,.i aI,.i aw,.sl ⟨bL,bo,bO⟩,.i ay,.i av,.sl ⟨aU,aJ,aV⟩,.i aA,.i aB,.sl ⟨bM,bp,bP⟩,.i aQ,.i aC,.sl ⟨bN,br,bQ⟩,.bool bW]::R0) λR=>CR eI H R dp aS/\CR eI H R dq aW/\CR eI H R dr aT/\CR eI H R dt aZ/\CR eI H R du a_)->∀ {r:Bool×List Int×List Int×List Int×List Int×List Int},pC au aS aw aW av aT aZ a_ mi mj=some r->Rt (C aH 0 mi mj H) (aF.Q H0 Ri R0 aE au aI aw ay av aA aB aQ aC bf bL aU bM bN aO bo aJ bp br aH bg bO aV bP bQ cG ci cj ck cl cn bW co cp cq ct cu cv cw cz cA cB r)
def aF.S65515 (H0:Hp) (Ri R0:List Rs) (aE au aI aw ay av aA aB aQ aC:Int) (bf bL aU bM bN:ON) (aO bo aJ bp br aH:Nat) (bg bO aV bP bQ:Cap) (cG:List Int) (ci cj ck cl cn bW:Bool) (co cp cq ct cu cv cw cz cA cB:List AV) (C:Nat->Nat->Int->Int->Hp->OA) (pC:List Int->Int->List Int->Int->List Int->List Int->List Int->Int->Int->Option (Bool×List Int×List Int×List Int×List Int×List Int)):Prop:=∀ {aS aW aT aZ a_:List Int} {dp dq dr dt du:List AV} {ln ky:Int},∀ {H:Hp},aO=aS.length->bo=aW.length->aJ=aT.length->bp=aZ.length->br=a_.length->(Out H0 Ri H (Rs.ow ci ⟨bf,aO,bg⟩ eI.z co dp cp::Rs.ow cj ⟨bL,bo,bO⟩ eI.z cq dq ct::Rs.ow ck ⟨aU,aJ,aV⟩ eI.z cu dr cv::Rs.ow cl ⟨bM,bp,bP⟩ eI.z cw dt cz::Rs.ow cn ⟨bN,br,bQ⟩ eI.z cA du cB::Rs.blk aH [.i aE,.i au,.sl ⟨bf,aO,bg⟩,.i aI,.i aw,.sl ⟨bL,bo,bO⟩,.i ay,.i av,.sl ⟨aU,aJ,aV⟩,.i aA,.i aB,.sl ⟨bM,bp,bP⟩,.i aQ,.i aC,.sl ⟨bN,br,bQ⟩,.bool bW]::R0) λR=>CR eI H R dp aS/\CR eI H R dq aW/\CR eI H R dr aT/\CR eI H R dt aZ/\CR eI H R du a_)->∀ {r:Bool×List Int×List Int×List Int×List Int×List Int},pC aS aw aW av aT aZ a_ ln ky=some r->Rt (C aH 0 ln ky H) (aF.Q H0 Ri R0 aE au aI aw ay av aA aB aQ aC bf bL aU bM bN aO bo aJ bp br aH bg bO aV bP bQ cG ci cj ck cl cn bW co cp cq ct cu cv cw cz cA cB r)
def aF.pl65515 (F:Nat) :Nat->List Int->Int->List Int->Int->List Int->List Int->List Int->Int->Int->Option (Bool×List Int×List Int×List Int×List Int×List Int)
 | 0,_,_,_,_,_,_,_,_,_=>none
 | k+1,aS,aw,aW,av,aT,aZ,a_,ln,ky=>(bif (decide (ky<aw)) then ((bD.p F aw aW ln ky).bind λr3=>(ix aW (IntKind.i64.wrap ((IntKind.i64.wrap (ln * aw))+ky))).bind λn7=>(some (aW.set n7 (IntKind.i64.wrap (0 - r3)))).bind λl8=>(bD.p F av aT ky ln).bind λr12=>(ix aT (IntKind.i64.wrap ((IntKind.i64.wrap (ky * av))+ln))).bind λn16=>(some (aT.set n16 (IntKind.i64.wrap (0 - r12)))).bind λl17=>aF.pl65515 F k aS aw l8 av l17 aZ a_ ln (IntKind.i64.wrap (ky+1))) else (some (true,aS,aW,aT,aZ,a_)))
theorem aF.l65515_P {aE au aI aw ay av aA aB aQ aC:Int} {bf bL aU bM bN:ON} {aO bo aJ bp br aH:Nat} {bg bO aV bP bQ:Cap} {cG:List Int} {ci cj ck cl cn bW:Bool} {co cp cq ct cu cv cw cz cA cB:List AV} :∀ k,aF.S65515 H0 Ri R0 aE au aI aw ay av aA aB aQ aC bf bL aU bM bN aO bo aJ bp br aH bg bO aV bP bQ cG ci cj ck cl cn bW co cp cq ct cu cv cw cz cA cB (aF.l65515 F (bD.tw F) (fg.tw F) (da.tw F) (db.tw F)  k) (aF.pl65515 F  k):=by
 intro k
 induction k with
 | zero=>unfold aF.S65515;intros;rename_i hp;cases hp
 | succ k ih=>
  intro aS aW aT aZ a_ dp dq dr dt du ln ky H fI fJ fK fL fM h0 r hp
  obtain ⟨w0,s0,dv,dQ,dA,ec,ed⟩:=h0
  subst fI
  subst fJ
  subst fK
  subst fL
  subst fM
  unfold aF.pl65515 at hp
  unfold aF.l65515
  refine aa (af (w0.ld (i:=5) rfl rfl)) ?_
  refine aM hp (λhp=>?_) λhp=>?_
  ·refine aa (az (w0.ld (i:=5) rfl rfl)) ?_
   refine aa (af (w0.ld (i:=5) rfl rfl)) ?_
   refine aa (af (w0.ld (i:=5) rfl rfl)) ?_
   refine aa (af (w0.ld (i:=5) rfl rfl)) ?_
   refine aa (az (w0.ld (i:=5) rfl rfl)) ?_
   obtain ⟨w1,s1⟩:=w0.pick' [1,0,2,3,4,5] 6 rfl rfl rfl
   have f2:=W.borrow1 eI w1 (dQ.step s1)
   obtain ⟨w2,s2⟩:=w1.right1
   obtain ⟨r3,e3,hp⟩:=aj hp
   refine aP (bD.P rfl ⟨w2,f2⟩ e3) ?_
   rintro _ H4 ⟨rfl,w4,s4,_⟩
   obtain ⟨w5,s5⟩:=W.frame1 w1 w4 s4
   refine aa rfl ?_
   refine fO (bu.tr (bu.refl _) s1 (W.cons_of (Rn:=[]) w2 w4 s4)) ?_
   obtain ⟨n7,g7,hp⟩:=aj hp
   obtain ⟨p7,q7,i7,h7,j7⟩:=W.ixo (E:=eI) w5 (i:=0) rfl rfl (dQ.step (s1.trans s5)) g7
   refine aa i7 ?_
   obtain ⟨l8,e8,hp⟩:=aj hp
   refine gl eI w5 (i:=0) (j:=0) (p:=p7) rfl rfl (dQ.step (s1.trans s5)) g7 i7 e8 rfl rfl (λ_ h=>by have h:_=[_]:=h;subst h;exact rfl) λH9 k9 w9 s9 c9=>?_
   refine aa (az (w9.ld (i:=5) rfl rfl)) ?_
   refine aa (af (w9.ld (i:=5) rfl rfl)) ?_
   refine aa (af (w9.ld (i:=5) rfl rfl)) ?_
   refine aa (af (w9.ld (i:=5) rfl rfl)) ?_
   refine aa (az (w9.ld (i:=5) rfl rfl)) ?_
   obtain ⟨w10,s10⟩:=w9.pick' [2,0,1,3,4,5] 6 rfl rfl rfl
   have f11:=W.borrow1 eI w10 (dA.step (s1.trans (s5.trans (s9.trans s10))))
   obtain ⟨w11,s11⟩:=w10.right1
   obtain ⟨r12,e12,hp⟩:=aj hp
   refine aP (bD.P rfl ⟨w11,f11⟩ e12) ?_
   rintro _ H13 ⟨rfl,w13,s13,_⟩
   obtain ⟨w14,s14⟩:=W.frame1 w10 w13 s13
   refine aa rfl ?_
   refine fO (bu.tr (bu.refl _) s10 (W.cons_of (Rn:=[]) w11 w13 s13)) ?_
   obtain ⟨n16,g16,hp⟩:=aj hp
   obtain ⟨p16,q16,i16,h16,j16⟩:=W.ixo (E:=eI) w14 (i:=0) rfl rfl (dA.step (s1.trans (s5.trans (s9.trans (s10.trans s14))))) g16
   refine aa i16 ?_
   obtain ⟨l17,e17,hp⟩:=aj hp
   refine gl eI w14 (i:=0) (j:=0) (p:=p16) rfl rfl (dA.step (s1.trans (s5.trans (s9.trans (s10.trans s14))))) g16 i16 e17 rfl rfl (λ_ h=>by have h:_=[_]:=h;subst h;exact rfl) λH18 k18 w18 s18 c18=>?_
   obtain ⟨w19,s19⟩:=w18.pick' [2,1,0,3,4,5] 6 rfl rfl rfl
   exact ih rfl ((ev e8).symm) ((ev e17).symm) rfl rfl ⟨w19,(s0.trans (s1.trans (s5.trans (s9.trans (s10.trans (s14.trans (s18.trans s19))))))),(dv.step (s1.trans (s5.trans (s9.trans (s10.trans (s14.trans (s18.trans s19))))))),(c9.step (s10.trans (s14.trans (s18.trans s19)))),(c18.step s19),(ec.step (s1.trans (s5.trans (s9.trans (s10.trans (s14.trans (s18.trans s19))))))),(ed.step (s1.trans (s5.trans (s9.trans (s10.trans (s14.trans (s18.trans s19)))))))⟩ hp
  ·exact aR hp ⟨_,_,_,_,_,rfl,rfl,rfl,rfl,rfl,rfl,w0,s0,dv,dQ,dA,ec,ed⟩
def aF.pj5 (F:Nat)  (aS:List Int) (aw:Int) (aW:List Int) (av:Int) (aT:List Int) (aZ:List Int) (a_:List Int) (xE:Int):Option (Bool×List Int×List Int×List Int×List Int×List Int):=aF.pl65515 F F aS aw aW av aT aZ a_ xE 0
theorem aF.j5_P {aE au aI aw ay av aA aB aQ aC:Int} {bf bL aU bM bN:ON} {aO bo aJ bp br aH:Nat} {bg bO aV bP bQ:Cap} {cG:List Int} {ci cj ck cl cn bW:Bool} {co cp cq ct cu cv cw cz cA cB:List AV}  {aS aW aT aZ a_:List Int} {dp dq dr dt du:List AV} {xE:Int} (fI:aO=aS.length) (fJ:bo=aW.length) (fK:aJ=aT.length) (fL:bp=aZ.length) (fM:br=a_.length) (h0:Out H0 Ri H (Rs.ow ci ⟨bf,aO,bg⟩ eI.z co dp cp::Rs.ow cj ⟨bL,bo,bO⟩ eI.z cq dq ct::Rs.ow ck ⟨aU,aJ,aV⟩ eI.z cu dr cv::Rs.ow cl ⟨bM,bp,bP⟩ eI.z cw dt cz::Rs.ow cn ⟨bN,br,bQ⟩ eI.z cA du cB::Rs.blk aH [.i aE,.i au,.sl ⟨bf,aO,bg⟩,.i aI,.i aw,.sl ⟨bL,bo,bO⟩,.i ay,.i av,.sl ⟨aU,aJ,aV⟩,.i aA,.i aB,.sl ⟨bM,bp,bP⟩,.i aQ,.i aC,.sl ⟨bN,br,bQ⟩,.bool bW]::R0) λR=>CR eI H R dp aS/\CR eI H R dq aW/\CR eI H R dr aT/\CR eI H R dt aZ/\CR eI H R du a_) {r:Bool×List Int×List Int×List Int×List Int×List Int} (hp:aF.pj5 F  aS aw aW av aT aZ a_ xE=some r):Rt (aF.j5 F (bD.tw F) (fg.tw F) (da.tw F) (db.tw F)  aH 0 xE H) (aF.Q H0 Ri R0 aE au aI aw ay av aA aB aQ aC bf bL aU bM bN aO bo aJ bp br aH bg bO aV bP bQ cG ci cj ck cl cn bW co cp cq ct cu cv cw cz cA cB r):=by
 obtain ⟨w0,s0,dv,dQ,dA,ec,ed⟩:=h0
 subst fI
 subst fJ
 subst fK
 subst fL
 subst fM
 unfold aF.pj5 at hp
 unfold aF.j5
 exact aF.l65515_P F rfl rfl rfl rfl rfl ⟨w0,s0,dv,dQ,dA,ec,ed⟩ hp
def aF.pl65513 (F:Nat) :Nat->Int->List Int->Int->List Int->Int->List Int->List Int->List Int->Int->Int->Option (Bool×List Int×List Int×List Int×List Int×List Int)
 | 0,_,_,_,_,_,_,_,_,_,_=>none
 | k+1,au,aS,aw,aW,av,aT,aZ,a_,mi,mj=>(bif (decide (mj<au)) then ((bD.p F au aS mi mj).bind λr2=>(ix aS (IntKind.i64.wrap ((IntKind.i64.wrap (mi * au))+mj))).bind λn6=>(some (aS.set n6 (IntKind.i64.wrap (0 - r2)))).bind λl7=>aF.pl65513 F k au l7 aw aW av aT aZ a_ mi (IntKind.i64.wrap (mj+1))) else (aF.pj5 F aS aw aW av aT aZ a_ mi))
theorem aF.l65513_P {aE au aI aw ay av aA aB aQ aC:Int} {bf bL aU bM bN:ON} {aO bo aJ bp br aH:Nat} {bg bO aV bP bQ:Cap} {cG:List Int} {ci cj ck cl cn bW:Bool} {co cp cq ct cu cv cw cz cA cB:List AV} :∀ k,aF.S65513 H0 Ri R0 aE au aI aw ay av aA aB aQ aC bf bL aU bM bN aO bo aJ bp br aH bg bO aV bP bQ cG ci cj ck cl cn bW co cp cq ct cu cv cw cz cA cB (aF.l65513 F (bD.tw F) (fg.tw F) (da.tw F) (db.tw F)  k) (aF.pl65513 F  k):=by
 intro k
 induction k with
 | zero=>unfold aF.S65513;intros;rename_i hp;cases hp
 | succ k ih=>
  intro aS aW aT aZ a_ dp dq dr dt du mi mj H fI fJ fK fL fM h0 r hp
  obtain ⟨w0,s0,dv,dQ,dA,ec,ed⟩:=h0
  subst fI
  subst fJ
  subst fK
  subst fL
  subst fM
  unfold aF.pl65513 at hp
  unfold aF.l65513
  refine aa (af (w0.ld (i:=5) rfl rfl)) ?_
  refine aM hp (λhp=>?_) λhp=>?_
  ·refine aa (az (w0.ld (i:=5) rfl rfl)) ?_
   refine aa (af (w0.ld (i:=5) rfl rfl)) ?_
   refine aa (af (w0.ld (i:=5) rfl rfl)) ?_
   refine aa (af (w0.ld (i:=5) rfl rfl)) ?_
   refine aa (az (w0.ld (i:=5) rfl rfl)) ?_
   have f1:=W.borrow1 eI w0 dv
   obtain ⟨w1,s1⟩:=w0.right1
   obtain ⟨r2,e2,hp⟩:=aj hp
   refine aP (bD.P rfl ⟨w1,f1⟩ e2) ?_
   rintro _ H3 ⟨rfl,w3,s3,_⟩
   obtain ⟨w4,s4⟩:=W.frame1 w0 w3 s3
   refine aa rfl ?_
   refine fO (W.cons_of (Rn:=[]) w1 w3 s3) ?_
   obtain ⟨n6,g6,hp⟩:=aj hp
   obtain ⟨p6,q6,i6,h6,j6⟩:=W.ixo (E:=eI) w4 (i:=0) rfl rfl (dv.step s4) g6
   refine aa i6 ?_
   obtain ⟨l7,e7,hp⟩:=aj hp
   refine gl eI w4 (i:=0) (j:=0) (p:=p6) rfl rfl (dv.step s4) g6 i6 e7 rfl rfl (λ_ h=>by have h:_=[_]:=h;subst h;exact rfl) λH8 k8 w8 s8 c8=>?_
   exact ih ((ev e7).symm) rfl rfl rfl rfl ⟨w8,(s0.trans (s4.trans s8)),c8,(dQ.step (s4.trans s8)),(dA.step (s4.trans s8)),(ec.step (s4.trans s8)),(ed.step (s4.trans s8))⟩ hp
  ·exact aF.j5_P rfl rfl rfl rfl rfl ⟨w0,s0,dv,dQ,dA,ec,ed⟩ hp
def aF.pj6 (F:Nat)  (aE:Int) (au:Int) (aS:List Int) (aw:Int) (aW:List Int) (ay:Int) (av:Int) (aT:List Int) (aA:Int) (aB:Int) (aZ:List Int) (aC:Int) (a_:List Int) (lr:Int) (mU:Int) (rN:Int):Option (Bool×List Int×List Int×List Int×List Int×List Int):=(bif (decide (mU<0)) then (some (false,aS,aW,aT,aZ,a_)) else ((da.p F au aS mU lr).bind λr1=>(da.p F aw aW mU lr).bind λr4=>(db.p F ay av aT mU lr).bind λr7=>(db.p F aE au r1 rN lr).bind λr10=>(db.p F aA aB aZ rN lr).bind λr13=>(da.p F aC a_ rN lr).bind λr16=>(bD.p F au r10 lr lr).bind λr20=>(bif (decide (r20<0)) then (aF.pl65513 F F au r10 aw r4 av r7 r13 r16 lr 0) else (some (true,r10,r4,r7,r13,r16)))))
theorem aF.j6_P {aE au aI aw ay av aA aB aQ aC:Int} {bf bL aU bM bN:ON} {aO bo aJ bp br aH:Nat} {bg bO aV bP bQ:Cap} {cG:List Int} {ci cj ck cl cn bW:Bool} {co cp cq ct cu cv cw cz cA cB:List AV}  {aS aW aT aZ a_:List Int} {dp dq dr dt du:List AV} {lr mU rN:Int} (fI:aO=aS.length) (fJ:bo=aW.length) (fK:aJ=aT.length) (fL:bp=aZ.length) (fM:br=a_.length) (h0:Out H0 Ri H (Rs.ow ci ⟨bf,aO,bg⟩ eI.z co dp cp::Rs.ow cj ⟨bL,bo,bO⟩ eI.z cq dq ct::Rs.ow ck ⟨aU,aJ,aV⟩ eI.z cu dr cv::Rs.ow cl ⟨bM,bp,bP⟩ eI.z cw dt cz::Rs.ow cn ⟨bN,br,bQ⟩ eI.z cA du cB::Rs.blk aH [.i aE,.i au,.sl ⟨bf,aO,bg⟩,.i aI,.i aw,.sl ⟨bL,bo,bO⟩,.i ay,.i av,.sl ⟨aU,aJ,aV⟩,.i aA,.i aB,.sl ⟨bM,bp,bP⟩,.i aQ,.i aC,.sl ⟨bN,br,bQ⟩,.bool bW]::R0) λR=>CR eI H R dp aS/\CR eI H R dq aW/\CR eI H R dr aT/\CR eI H R dt aZ/\CR eI H R du a_) {r:Bool×List Int×List Int×List Int×List Int×List Int} (hp:aF.pj6 F  aE au aS aw aW ay av aT aA aB aZ aC a_ lr mU rN=some r):Rt (aF.j6 F (bD.tw F) (fg.tw F) (da.tw F) (db.tw F)  aH 0 lr mU rN H) (aF.Q H0 Ri R0 aE au aI aw ay av aA aB aQ aC bf bL aU bM bN aO bo aJ bp br aH bg bO aV bP bQ cG ci cj ck cl cn bW co cp cq ct cu cv cw cz cA cB r):=by
 obtain ⟨w0,s0,dv,dQ,dA,ec,ed⟩:=h0
 subst fI
 subst fJ
 subst fK
 subst fL
 subst fM
 unfold aF.pj6 at hp
 unfold aF.j6
 refine aM hp (λhp=>?_) λhp=>?_
 ·exact aR hp ⟨_,_,_,_,_,rfl,rfl,rfl,rfl,rfl,rfl,w0,s0,dv,dQ,dA,ec,ed⟩
 ·refine aa (af (w0.ld (i:=5) rfl rfl)) ?_
  refine aa (af (w0.ld (i:=5) rfl rfl)) ?_
  refine aa (az (w0.ld (i:=5) rfl rfl)) ?_
  obtain ⟨r1,e1,hp⟩:=aj hp
  refine aP (da.P rfl ⟨w0,dv⟩ e1) ?_
  rintro _ H2 ⟨agK,rfl,hl2_0,w2,s2,f2_0⟩
  refine aa (af (w2.ld (i:=5) rfl rfl)) ?_
  refine aa (af (w2.ld (i:=5) rfl rfl)) ?_
  refine aa (az (w2.ld (i:=5) rfl rfl)) ?_
  obtain ⟨w3,s3⟩:=w2.pick' [1,0,2,3,4,5] 6 rfl rfl rfl
  obtain ⟨r4,e4,hp⟩:=aj hp
  refine aP (da.P rfl ⟨w3,(dQ.step (s2.trans s3))⟩ e4) ?_
  rintro _ H5 ⟨agL,rfl,hl5_0,w5,s5,f5_0⟩
  refine aa (af (w5.ld (i:=5) rfl rfl)) ?_
  refine aa (af (w5.ld (i:=5) rfl rfl)) ?_
  refine aa (az (w5.ld (i:=5) rfl rfl)) ?_
  obtain ⟨w6,s6⟩:=w5.pick' [2,0,1,3,4,5] 6 rfl rfl rfl
  obtain ⟨r7,e7,hp⟩:=aj hp
  refine aP (db.P rfl ⟨w6,(dA.step (s2.trans (s3.trans (s5.trans s6))))⟩ e7) ?_
  rintro _ H8 ⟨abT,rfl,hl8_0,w8,s8,f8_0⟩
  refine aa (af (w8.ld (i:=5) rfl rfl)) ?_
  refine aa (af (w8.ld (i:=5) rfl rfl)) ?_
  refine aa (az (w8.ld (i:=5) rfl rfl)) ?_
  obtain ⟨w9,s9⟩:=w8.pick' [2,0,1,3,4,5] 6 rfl rfl rfl
  obtain ⟨r10,e10,hp⟩:=aj hp
  refine aP (db.P hl2_0 ⟨w9,(f2_0.step (s3.trans (s5.trans (s6.trans (s8.trans s9)))))⟩ e10) ?_
  rintro _ H11 ⟨abU,rfl,hl11_0,w11,s11,f11_0⟩
  refine aa (af (w11.ld (i:=5) rfl rfl)) ?_
  refine aa (af (w11.ld (i:=5) rfl rfl)) ?_
  refine aa (az (w11.ld (i:=5) rfl rfl)) ?_
  obtain ⟨w12,s12⟩:=w11.pick' [3,0,1,2,4,5] 6 rfl rfl rfl
  obtain ⟨r13,e13,hp⟩:=aj hp
  refine aP (db.P rfl ⟨w12,(ec.step (s2.trans (s3.trans (s5.trans (s6.trans (s8.trans (s9.trans (s11.trans s12))))))))⟩ e13) ?_
  rintro _ H14 ⟨abV,rfl,hl14_0,w14,s14,f14_0⟩
  refine aa (af (w14.ld (i:=5) rfl rfl)) ?_
  refine aa (af (w14.ld (i:=5) rfl rfl)) ?_
  refine aa (az (w14.ld (i:=5) rfl rfl)) ?_
  obtain ⟨w15,s15⟩:=w14.pick' [4,0,1,2,3,5] 6 rfl rfl rfl
  obtain ⟨r16,e16,hp⟩:=aj hp
  refine aP (da.P rfl ⟨w15,(ed.step (s2.trans (s3.trans (s5.trans (s6.trans (s8.trans (s9.trans (s11.trans (s12.trans (s14.trans s15))))))))))⟩ e16) ?_
  rintro _ H17 ⟨abW,rfl,hl17_0,w17,s17,f17_0⟩
  refine aa (af (w17.ld (i:=5) rfl rfl)) ?_
  refine aa (af (w17.ld (i:=5) rfl rfl)) ?_
  refine aa (az (w17.ld (i:=5) rfl rfl)) ?_
  obtain ⟨w18,s18⟩:=w17.pick' [2,0,1,3,4,5] 6 rfl rfl rfl
  have f19:=W.borrow1 eI w18 (f11_0.step (s12.trans (s14.trans (s15.trans (s17.trans s18)))))
  obtain ⟨w19,s19⟩:=w18.right1
  obtain ⟨r20,e20,hp⟩:=aj hp
  refine aP (bD.P hl11_0 ⟨w19,f19⟩ e20) ?_
  rintro _ H21 ⟨rfl,w21,s21,_⟩
  obtain ⟨w22,s22⟩:=W.frame1 w18 w21 s21
  refine aa rfl ?_
  refine aM hp (λhp=>?_) λhp=>?_
  ·obtain ⟨w23,s23⟩:=w22.pick' [0,4,3,2,1,5] 6 rfl rfl rfl
   exact aF.l65513_P F hl11_0 hl5_0 hl8_0 hl14_0 hl17_0 ⟨w23,(s0.trans (s2.trans (s3.trans (s5.trans (s6.trans (s8.trans (s9.trans (s11.trans (s12.trans (s14.trans (s15.trans (s17.trans (s18.trans (s22.trans s23)))))))))))))),(f11_0.step (s12.trans (s14.trans (s15.trans (s17.trans (s18.trans (s22.trans s23))))))),(f5_0.step (s6.trans (s8.trans (s9.trans (s11.trans (s12.trans (s14.trans (s15.trans (s17.trans (s18.trans (s22.trans s23))))))))))),(f8_0.step (s9.trans (s11.trans (s12.trans (s14.trans (s15.trans (s17.trans (s18.trans (s22.trans s23))))))))),(f14_0.step (s15.trans (s17.trans (s18.trans (s22.trans s23))))),(f17_0.step (s18.trans (s22.trans s23)))⟩ hp
  ·obtain ⟨w24,s24⟩:=w22.pick' [0,4,3,2,1,5] 6 rfl rfl rfl
   exact aR hp ⟨_,_,_,_,_,rfl,hl11_0,hl5_0,hl8_0,hl14_0,hl17_0,w24,(s0.trans (s2.trans (s3.trans (s5.trans (s6.trans (s8.trans (s9.trans (s11.trans (s12.trans (s14.trans (s15.trans (s17.trans (s18.trans (s22.trans s24)))))))))))))),(f11_0.step (s12.trans (s14.trans (s15.trans (s17.trans (s18.trans (s22.trans s24))))))),(f5_0.step (s6.trans (s8.trans (s9.trans (s11.trans (s12.trans (s14.trans (s15.trans (s17.trans (s18.trans (s22.trans s24))))))))))),(f8_0.step (s9.trans (s11.trans (s12.trans (s14.trans (s15.trans (s17.trans (s18.trans (s22.trans s24))))))))),(f14_0.step (s15.trans (s17.trans (s18.trans (s22.trans s24))))),(f17_0.step (s18.trans (s22.trans s24)))⟩
def aF.pl29 (F:Nat) :Nat->Int->Int->List Int->Int->List Int->Int->Int->List Int->Int->Int->List Int->Int->List Int->Int->Int->Int->Int->Option (Bool×List Int×List Int×List Int×List Int×List Int)
 | 0,_,_,_,_,_,_,_,_,_,_,_,_,_,_,_,_,_=>none
 | k+1,aE,au,aS,aw,aW,ay,av,aT,aA,aB,aZ,aC,a_,fc,fj,ov,ox=>(bif (decide (ox<aE)) then (aF.pl469 F (aF.pl29 F k) F aE au aS aw aW ay av aT aA aB aZ aC a_ fc fj ov ox fc) else (aF.pj6 F aE au aS aw aW ay av aT aA aB aZ aC a_ fc fj ov))
theorem aF.l29_P {aE au aI aw ay av aA aB aQ aC:Int} {bf bL aU bM bN:ON} {aO bo aJ bp br aH:Nat} {bg bO aV bP bQ:Cap} {cG:List Int} {ci cj ck cl cn bW:Bool} {co cp cq ct cu cv cw cz cA cB:List AV} :∀ k,aF.S29 H0 Ri R0 aE au aI aw ay av aA aB aQ aC bf bL aU bM bN aO bo aJ bp br aH bg bO aV bP bQ cG ci cj ck cl cn bW co cp cq ct cu cv cw cz cA cB (aF.l29 F (bD.tw F) (fg.tw F) (da.tw F) (db.tw F)  k) (aF.pl29 F  k):=by
 intro k
 induction k with
 | zero=>unfold aF.S29;intros;rename_i hp;cases hp
 | succ k ih=>
  intro aS aW aT aZ a_ dp dq dr dt du fc fj ov ox H fI fJ fK fL fM h0 r hp
  obtain ⟨w0,s0,dv,dQ,dA,ec,ed⟩:=h0
  subst fI
  subst fJ
  subst fK
  subst fL
  subst fM
  unfold aF.pl29 at hp
  unfold aF.l29
  refine aa (af (w0.ld (i:=5) rfl rfl)) ?_
  refine aM hp (λhp=>?_) λhp=>?_
  ·exact aF.l469_P (@ih) F rfl rfl rfl rfl rfl ⟨w0,s0,dv,dQ,dA,ec,ed⟩ hp
  ·exact aF.j6_P rfl rfl rfl rfl rfl ⟨w0,s0,dv,dQ,dA,ec,ed⟩ hp
def aF.p (F:Nat) (bH:Int) (bk:Int) (eu:List Int) (bz:Int) (gi:List Int) (bl:Int) (bh:Int) (dK:List Int) (bA:Int) (bB:Int) (gj:List Int) (bC:Int) (gk:List Int) (ah:Int):Option (Bool×List Int×List Int×List Int×List Int×List Int):=aF.pl29 F F bH bk eu bz gi bl bh dK bA bB gj bC gk ah (-1) (-1) ah
theorem aF.P {bH bk bJ bz bl bh bA bB bV bC ah:Int} {cY eL cJ eM eN:ON} {cb dH bZ dI dJ ac:Nat} {cZ eO cK eP eQ:Cap} {eu gi dK gj gk:List Int} {fC gw fD gy gz aG:Bool} {fE fF iX gA gB jL fG fH iY gC gD jM gE gF jN:List AV} (nj:cb=eu.length) (qk:dH=gi.length) (lW:bZ=dK.length) (ql:dI=gj.length) (qn:dJ=gk.length) (h0:Inn H (Rs.ow fC ⟨cY,cb,cZ⟩ eI.z fE iX fF::Rs.ow gw ⟨eL,dH,eO⟩ eI.z gA jL gB::Rs.ow fD ⟨cJ,bZ,cK⟩ eI.z fG iY fH::Rs.ow gy ⟨eM,dI,eP⟩ eI.z gC jM gD::Rs.ow gz ⟨eN,dJ,eQ⟩ eI.z gE jN gF::Rs.blk ac [.i bH,.i bk,.sl ⟨cY,cb,cZ⟩,.i bJ,.i bz,.sl ⟨eL,dH,eO⟩,.i bl,.i bh,.sl ⟨cJ,bZ,cK⟩,.i bA,.i bB,.sl ⟨eM,dI,eP⟩,.i bV,.i bC,.sl ⟨eN,dJ,eQ⟩,.bool aG]::R0) λR=>CR eI H R iX eu/\CR eI H R jL gi/\CR eI H R iY dK/\CR eI H R jM gj/\CR eI H R jN gk) {r:Bool×List Int×List Int×List Int×List Int×List Int} (hp:aF.p F bH bk eu bz gi bl bh dK bA bB gj bC gk ah=some r):Rt (aF.tw F ac 0 ah H) (aF.Q H (Rs.ow fC ⟨cY,cb,cZ⟩ eI.z fE iX fF::Rs.ow gw ⟨eL,dH,eO⟩ eI.z gA jL gB::Rs.ow fD ⟨cJ,bZ,cK⟩ eI.z fG iY fH::Rs.ow gy ⟨eM,dI,eP⟩ eI.z gC jM gD::Rs.ow gz ⟨eN,dJ,eQ⟩ eI.z gE jN gF::Rs.blk ac [.i bH,.i bk,.sl ⟨cY,cb,cZ⟩,.i bJ,.i bz,.sl ⟨eL,dH,eO⟩,.i bl,.i bh,.sl ⟨cJ,bZ,cK⟩,.i bA,.i bB,.sl ⟨eM,dI,eP⟩,.i bV,.i bC,.sl ⟨eN,dJ,eQ⟩,.bool aG]::R0) R0 bH bk bJ bz bl bh bA bB bV bC cY eL cJ eM eN cb dH bZ dI dJ ac cZ eO cK eP eQ eu fC gw fD gy gz aG fE fF gA gB fG fH gC gD gE gF r):=by
 obtain ⟨w0,lJ,pf,kE,pg,ph⟩:=h0
 subst nj
 subst qk
 subst lW
 subst ql
 subst qn
 unfold aF.p at hp
 unfold aF.tw aF.twX
 have s0:=w0.rf
 exact aF.l29_P F rfl rfl rfl rfl rfl ⟨w0,s0,lJ,pf,kE,pg,ph⟩ hp
def io.Q (H0:Hp) (Ri R0:List Rs)  (r:Int) (v:AV) (H':Hp):Prop:=v=(.i r)/\Out H0 Ri H' (R0) λR=>True
def io.p (F:Nat) (ac:Int) (ap:Int):Option (Int):=(if ap=0 then none else ((if ap=0 then none else ((bif (decide ((Int.tmod ac ap)<0)) then (some (IntKind.i64.wrap ((IntKind.i64.wrap (Int.tdiv ac ap)) - 1))) else (some (IntKind.i64.wrap (Int.tdiv ac ap))))))))
theorem io.P {ac ap:Int}  (h0:Inn H R0 λR=>True) {r:Int} (hp:io.p F ac ap=some r):Rt (io.tw F ac ap H) (io.Q H R0 R0  r):=by
 obtain ⟨w0,_⟩:=h0
 unfold io.p at hp
 unfold io.tw io.twX
 have s0:=w0.rf
 obtain ⟨g1,hp⟩:=su hp
 refine sv g1 ?_
 obtain ⟨g2,hp⟩:=su hp
 refine sv g2 ?_
 refine aM hp (λhp=>?_) λhp=>?_
 ·exact aR hp ⟨rfl,w0,s0,trivial⟩
 ·exact aR hp ⟨rfl,w0,s0,trivial⟩
def gH.Q (H0:Hp) (Ri R0:List Rs)  (r:Int×Bool) (v:AV) (H':Hp):Prop:=v=(.tup [(.i r.1),(.bool r.2)])/\Out H0 Ri H' (R0) λR=>True
def gH.p (F:Nat) (ac:Int) (ap:Int) (de:Int):Option (Int×Bool):=(bif (ac != 0) then ((fg.p F ap).bind λr1=>(fg.p F ac).bind λr3=>(if r3=0 then none else ((bif (decide (r1>(IntKind.i64.wrap (Int.tdiv de r3)))) then (some (0,false)) else (some ((IntKind.i64.wrap (ac * ap)),true)))))) else (some ((IntKind.i64.wrap (ac * ap)),true)))
theorem gH.P {ac ap de:Int}  (h0:Inn H R0 λR=>True) {r:Int×Bool} (hp:gH.p F ac ap de=some r):Rt (gH.tw F ac ap de H) (gH.Q H R0 R0  r):=by
 obtain ⟨w0,_⟩:=h0
 unfold gH.p at hp
 unfold gH.tw gH.twX
 have s0:=w0.rf
 refine aM hp (λhp=>?_) λhp=>?_
 ·obtain ⟨r1,e1,hp⟩:=aj hp
  refine aP (fg.P ⟨w0,trivial⟩ e1) ?_
  rintro _ H2 ⟨rfl,w2,s2,_⟩
  refine aa rfl ?_
  obtain ⟨r3,e3,hp⟩:=aj hp
  refine aP (fg.P ⟨w2,trivial⟩ e3) ?_
  rintro _ H4 ⟨rfl,w4,s4,_⟩
  refine aa rfl ?_
  obtain ⟨g5,hp⟩:=su hp
  refine sv g5 ?_
  refine aM hp (λhp=>?_) λhp=>?_
  ·exact aR hp ⟨rfl,w4,(s0.trans (s2.trans s4)),trivial⟩
  ·exact aR hp ⟨rfl,w4,(s0.trans (s2.trans s4)),trivial⟩
 ·exact aR hp ⟨rfl,w0,s0,trivial⟩
def gN.Q (H0:Hp) (Ri R0:List Rs)  (r:Int) (v:AV) (H':Hp):Prop:=v=(.i r)/\Out H0 Ri H' (R0) λR=>True
def gN.p (F:Nat) (ac:Int) (ap:Int) (de:Int):Option (Int):=(gH.p F ap de 2000000000000).bind λr1=>(bif (!r1.2) then (some 3000000000000) else (some (IntKind.i64.wrap (ac - r1.1))))
theorem gN.P {ac ap de:Int}  (h0:Inn H R0 λR=>True) {r:Int} (hp:gN.p F ac ap de=some r):Rt (gN.tw F ac ap de H) (gN.Q H R0 R0  r):=by
 obtain ⟨w0,_⟩:=h0
 unfold gN.p at hp
 unfold gN.tw gN.twX
 have s0:=w0.rf
 obtain ⟨r1,e1,hp⟩:=aj hp
 refine aP (gH.P ⟨w0,trivial⟩ e1) ?_
 rintro _ H2 ⟨rfl,w2,s2,_⟩
 refine aa rfl ?_
 refine aa rfl ?_
 refine aa rfl ?_
 refine aa rfl ?_
 refine aa rfl ?_
 refine aM hp (λhp=>?_) λhp=>?_
 ·exact aR hp ⟨rfl,w2,(s0.trans s2),trivial⟩
 ·exact aR hp ⟨rfl,w2,(s0.trans s2),trivial⟩
def gO.Q (H0:Hp) (Ri R0:List Rs) (bH bk bJ bz bl bh bA bB bV bC:Int) (eU dB fh dC dD:Sl) (ac ga:Nat) (iu:ON) (iv:Cap) (js:Bool) (jt ju:List AV) (r:Bool×List Int) (v:AV) (H':Hp):Prop:=∃ pQ:List AV,v=(.tup [])/\ga=(r.2).length/\Out H0 Ri H' (Rs.blk ac [.i bH,.i bk,.sl eU,.i bJ,.i bz,.sl dB,.i bl,.i bh,.sl fh,.i bA,.i bB,.sl dC,.i bV,.i bC,.sl dD,.bool (r.1)]::Rs.ow js ⟨iu,ga,iv⟩ eI.z jt pQ ju::R0) λR=>CR eI H' R pQ (r.2)
def gO.p (F:Nat) (aG:Bool) (ax:Int) (iZ:List Int) (cQ:Int) (el:Int) (d_:Int):Option (Bool×List Int):=(fg.p F d_).bind λr2=>(bif (decide (r2>1000000000000)) then (some (true,iZ)) else ((ix iZ (IntKind.i64.wrap ((IntKind.i64.wrap (cQ * ax))+el))).bind λn6=>(some (iZ.set n6 d_)).bind λl7=>some (aG,l7)))
theorem gO.P {bH bk bJ bz bl bh bA bB bV bC ah ax cQ el d_:Int} {eU dB fh dC dD:Sl} {aG js:Bool} {ac ga:Nat} {iu:ON} {iv:Cap} {iZ:List Int} {jt ju nk:List AV} (tv:ga=iZ.length) (h0:Inn H (Rs.blk ac [.i bH,.i bk,.sl eU,.i bJ,.i bz,.sl dB,.i bl,.i bh,.sl fh,.i bA,.i bB,.sl dC,.i bV,.i bC,.sl dD,.bool aG]::Rs.ow js ⟨iu,ga,iv⟩ eI.z jt nk ju::R0) λR=>CR eI H R nk iZ) {r:Bool×List Int} (hp:gO.p F aG ax iZ cQ el d_=some r):Rt (gO.tw F ac 0 ah ax ⟨iu,ga,iv⟩ cQ el d_ H) (gO.Q H (Rs.blk ac [.i bH,.i bk,.sl eU,.i bJ,.i bz,.sl dB,.i bl,.i bh,.sl fh,.i bA,.i bB,.sl dC,.i bV,.i bC,.sl dD,.bool aG]::Rs.ow js ⟨iu,ga,iv⟩ eI.z jt nk ju::R0) R0 bH bk bJ bz bl bh bA bB bV bC eU dB fh dC dD ac ga iu iv js jt ju r):=by
 obtain ⟨w0,ry⟩:=h0
 subst tv
 unfold gO.p at hp
 unfold gO.tw gO.twX
 have s0:=w0.rf
 refine bR w0 λH1 w1 s1=>?_
 obtain ⟨r2,e2,hp⟩:=aj hp
 refine aP (fg.P ⟨w1,trivial⟩ e2) ?_
 rintro _ H3 ⟨rfl,w3,s3,_⟩
 refine aa rfl ?_
 refine aM hp (λhp=>?_) λhp=>?_
 ·refine aL w3 (i:=1) rfl rfl rfl λH4 w4 s4=>?_
  obtain ⟨w5,s5⟩:=w4.pick' [1,2] 3 rfl rfl rfl
  exact aR hp ⟨_,rfl,rfl,w5,(s0.trans (s1.trans (s3.trans (s4.trans s5)))),(ry.step (s1.trans (s3.trans (s4.trans s5))))⟩
 ·refine aa (az (w3.ld (i:=0) rfl rfl)) ?_
  refine aa (af (w3.ld (i:=0) rfl rfl)) ?_
  obtain ⟨n6,g6,hp⟩:=aj hp
  obtain ⟨p6,q6,i6,h6,j6⟩:=W.ixo (E:=eI) w3 (i:=2) rfl rfl (ry.step (s1.trans s3)) g6
  refine aa i6 ?_
  obtain ⟨l7,e7,hp⟩:=aj hp
  refine gl eI w3 (i:=2) (j:=0) (p:=p6) rfl rfl (ry.step (s1.trans s3)) g6 i6 e7 rfl rfl (λ_ h=>by have h:_=[_]:=h;subst h;exact rfl) λH8 k8 w8 s8 c8=>?_
  obtain ⟨w9,s9⟩:=w8.pick' [1,2] 3 rfl rfl rfl
  exact aR hp ⟨_,rfl,(ev e7).symm,w9,(s0.trans (s1.trans (s3.trans (s8.trans s9)))),(c8.step s9)⟩
def dh.Q (H0:Hp) (Ri R0:List Rs) (bH bk bJ bz bl bh bA bB bV bC:Int) (eU dB fh dC dD:Sl) (ac ga:Nat) (iu:ON) (iv:Cap) (js:Bool) (jt ju:List AV) (r:Bool×List Int) (v:AV) (H':Hp):Prop:=∃ pQ:List AV,v=(.tup [])/\ga=(r.2).length/\Out H0 Ri H' (Rs.blk ac [.i bH,.i bk,.sl eU,.i bJ,.i bz,.sl dB,.i bl,.i bh,.sl fh,.i bA,.i bB,.sl dC,.i bV,.i bC,.sl dD,.bool (r.1)]::Rs.ow js ⟨iu,ga,iv⟩ eI.z jt pQ ju::R0) λR=>CR eI H' R pQ (r.2)
def dh.S7 (H0:Hp) (Ri R0:List Rs) (aE au aI aw ay av aA aB aQ aC:Int) (eW cM fo cN cO:Sl) (aH jO:Nat) (kV:ON) (kW:Cap) (nl:Bool) (nm nn:List AV) (C:Nat->Nat->Int->Int->Int->Nat->Nat->Int->Hp->OA) (pC:Bool->Int->Int->Int->Int->List Int->Int->Option (Bool×List Int)):Prop:=∀ {aG:Bool} {gZ eZ iz tz nV fT:Int} {lX:List Int} {vU:List AV} {fS:Nat},∀ {H:Hp},jO=lX.length->(Out H0 Ri H (Rs.blk aH [.i aE,.i au,.sl eW,.i aI,.i aw,.sl cM,.i ay,.i av,.sl fo,.i aA,.i aB,.sl cN,.i aQ,.i aC,.sl cO,.bool aG]::Rs.ow nl ⟨kV,jO,kW⟩ eI.z nm vU nn::Rs.blk fS [.i tz,.i nV,.sl ⟨kV,jO,kW⟩]::R0) λR=>CR eI H R vU lX)->∀ {r:Bool×List Int},pC aG gZ eZ iz nV lX fT=some r->Rt (C aH 0 gZ eZ iz fS 0 fT H) (dh.Q H0 Ri R0 aE au aI aw ay av aA aB aQ aC eW cM fo cN cO aH jO kV kW nl nm nn r)
def dh.pl7 (F:Nat) :Nat->Bool->Int->Int->Int->Int->List Int->Int->Option (Bool×List Int)
 | 0,_,_,_,_,_,_,_=>none
 | k+1,aG,gZ,eZ,iz,nV,lX,fT=>(bif (decide (fT<nV)) then ((bif (!aG) then ((bD.p F nV lX gZ fT).bind λr3=>(bD.p F nV lX eZ fT).bind λr8=>(gN.p F r3 iz r8).bind λr12=>(gO.p F aG nV lX gZ fT r12).bind λr16=>dh.pl7 F k r16.1 gZ eZ iz nV r16.2 (IntKind.i64.wrap (fT+1))) else (some (aG,lX)))) else (some (aG,lX)))
theorem dh.l7_P {aE au aI aw ay av aA aB aQ aC:Int} {eW cM fo cN cO:Sl} {aH jO:Nat} {kV:ON} {kW:Cap} {nl:Bool} {nm nn:List AV} :∀ k,dh.S7 H0 Ri R0 aE au aI aw ay av aA aB aQ aC eW cM fo cN cO aH jO kV kW nl nm nn (dh.l7 F (bD.tw F) (gN.tw F) (gO.tw F)  k) (dh.pl7 F  k):=by
 intro k
 induction k with
 | zero=>unfold dh.S7;intros;rename_i hp;cases hp
 | succ k ih=>
  intro aG gZ eZ iz tz nV fT lX vU fS H Jk h0 r hp
  obtain ⟨w0,s0,rz⟩:=h0
  subst Jk
  unfold dh.pl7 at hp
  unfold dh.l7
  refine aa (af (w0.ld (i:=2) rfl rfl)) ?_
  refine aM hp (λhp=>?_) λhp=>?_
  ·refine aa (ns (w0.ld (i:=0) rfl rfl)) ?_
   refine aM hp (λhp=>?_) λhp=>?_
   ·refine aa (af (w0.ld (i:=2) rfl rfl)) ?_
    refine aa (af (w0.ld (i:=2) rfl rfl)) ?_
    refine aa (az (w0.ld (i:=2) rfl rfl)) ?_
    refine aa (af (w0.ld (i:=2) rfl rfl)) ?_
    refine aa (af (w0.ld (i:=2) rfl rfl)) ?_
    refine aa (az (w0.ld (i:=2) rfl rfl)) ?_
    obtain ⟨w1,s1⟩:=w0.pick' [1,0,2] 3 rfl rfl rfl
    have f2:=W.borrow1 eI w1 (rz.step s1)
    obtain ⟨w2,s2⟩:=w1.right1
    obtain ⟨r3,e3,hp⟩:=aj hp
    refine aP (bD.P rfl ⟨w2,f2⟩ e3) ?_
    rintro _ H4 ⟨rfl,w4,s4,_⟩
    obtain ⟨w5,s5⟩:=W.frame1 w1 w4 s4
    refine aa rfl ?_
    refine fO (bu.tr (bu.refl _) s1 (W.cons_of (Rn:=[]) w2 w4 s4)) ?_
    refine aa (af (w5.ld (i:=2) rfl rfl)) ?_
    refine aa (af (w5.ld (i:=2) rfl rfl)) ?_
    refine aa (az (w5.ld (i:=2) rfl rfl)) ?_
    have f7:=W.borrow1 eI w5 (rz.step (s1.trans s5))
    obtain ⟨w7,s7⟩:=w5.right1
    obtain ⟨r8,e8,hp⟩:=aj hp
    refine aP (bD.P rfl ⟨w7,f7⟩ e8) ?_
    rintro _ H9 ⟨rfl,w9,s9,_⟩
    obtain ⟨w10,s10⟩:=W.frame1 w5 w9 s9
    refine aa rfl ?_
    refine fO (W.cons_of (Rn:=[]) w7 w9 s9) ?_
    obtain ⟨r12,e12,hp⟩:=aj hp
    refine aP (gN.P ⟨w10,trivial⟩ e12) ?_
    rintro _ H13 ⟨rfl,w13,s13,_⟩
    refine aa rfl ?_
    refine fO (W.cons_of (Rn:=[]) w10 w13 s13) ?_
    obtain ⟨w15,s15⟩:=w13.pick' [1,0,2] 3 rfl rfl rfl
    obtain ⟨r16,e16,hp⟩:=aj hp
    refine aP (gO.P rfl ⟨w15,(rz.step (s1.trans (s5.trans (s10.trans (s13.trans s15)))))⟩ e16) ?_
    rintro _ H17 ⟨abX,rfl,hl17_0,w17,s17,f17_0⟩
    exact ih hl17_0 ⟨w17,(s0.trans (s1.trans (s5.trans (s10.trans (s13.trans (s15.trans s17)))))),f17_0⟩ hp
   ·obtain ⟨w18,s18⟩:=w0.pick' [0,1] 3 rfl rfl rfl
    exact aR hp ⟨_,rfl,rfl,w18,(s0.trans s18),(rz.step s18)⟩
  ·obtain ⟨w19,s19⟩:=w0.pick' [0,1] 3 rfl rfl rfl
   exact aR hp ⟨_,rfl,rfl,w19,(s0.trans s19),(rz.step s19)⟩
def dh.p (F:Nat) (aG:Bool) (ax:Int) (iZ:List Int) (cQ:Int) (el:Int) (d_:Int):Option (Bool×List Int):=dh.pl7 F F aG cQ el d_ ax iZ 0
theorem dh.P {bH bk bJ bz bl bh bA bB bV bC ah ax cQ el d_:Int} {eU dB fh dC dD:Sl} {aG js:Bool} {ac ga:Nat} {iu:ON} {iv:Cap} {iZ:List Int} {jt ju nk:List AV} (tv:ga=iZ.length) (h0:Inn H (Rs.blk ac [.i bH,.i bk,.sl eU,.i bJ,.i bz,.sl dB,.i bl,.i bh,.sl fh,.i bA,.i bB,.sl dC,.i bV,.i bC,.sl dD,.bool aG]::Rs.ow js ⟨iu,ga,iv⟩ eI.z jt nk ju::R0) λR=>CR eI H R nk iZ) {r:Bool×List Int} (hp:dh.p F aG ax iZ cQ el d_=some r):Rt (dh.tw F ac 0 ah ax ⟨iu,ga,iv⟩ cQ el d_ H) (dh.Q H (Rs.blk ac [.i bH,.i bk,.sl eU,.i bJ,.i bz,.sl dB,.i bl,.i bh,.sl fh,.i bA,.i bB,.sl dC,.i bV,.i bC,.sl dD,.bool aG]::Rs.ow js ⟨iu,ga,iv⟩ eI.z jt nk ju::R0) R0 bH bk bJ bz bl bh bA bB bV bC eU dB fh dC dD ac ga iu iv js jt ju r):=by
 obtain ⟨w0,ry⟩:=h0
 subst tv
 unfold dh.p at hp
 unfold dh.tw dh.twX
 have s0:=w0.rf
 refine bR w0 λH1 w1 s1=>?_
 obtain ⟨w2,s2⟩:=w1.pick' [1,2,0] 3 rfl rfl rfl
 exact dh.l7_P F rfl ⟨w2,(s0.trans (s1.trans s2)),(ry.step (s1.trans s2))⟩ hp
def di.Q (H0:Hp) (Ri R0:List Rs) (bH bk bJ bz bl bh bA bB bV bC:Int) (eU dB fh dC dD:Sl) (ac ga:Nat) (iu:ON) (iv:Cap) (js:Bool) (jt ju:List AV) (r:Bool×List Int) (v:AV) (H':Hp):Prop:=∃ pQ:List AV,v=(.tup [])/\ga=(r.2).length/\Out H0 Ri H' (Rs.blk ac [.i bH,.i bk,.sl eU,.i bJ,.i bz,.sl dB,.i bl,.i bh,.sl fh,.i bA,.i bB,.sl dC,.i bV,.i bC,.sl dD,.bool (r.1)]::Rs.ow js ⟨iu,ga,iv⟩ eI.z jt pQ ju::R0) λR=>CR eI H' R pQ (r.2)
def di.S7 (H0:Hp) (Ri R0:List Rs) (aE au aI aw ay av aA aB aQ aC:Int) (eW cM fo cN cO:Sl) (aH jO:Nat) (kV:ON) (kW:Cap) (nl:Bool) (nm nn:List AV) (C:Nat->Nat->Int->Int->Int->Nat->Nat->Int->Hp->OA) (pC:Bool->Int->Int->Int->Int->Int->List Int->Int->Option (Bool×List Int)):Prop:=∀ {aG:Bool} {gZ eZ iz tz nV fT:Int} {lX:List Int} {vU:List AV} {fS:Nat},∀ {H:Hp},jO=lX.length->(Out H0 Ri H (Rs.blk aH [.i aE,.i au,.sl eW,.i aI,.i aw,.sl cM,.i ay,.i av,.sl fo,.i aA,.i aB,.sl cN,.i aQ,.i aC,.sl cO,.bool aG]::Rs.ow nl ⟨kV,jO,kW⟩ eI.z nm vU nn::Rs.blk fS [.i tz,.i nV,.sl ⟨kV,jO,kW⟩]::R0) λR=>CR eI H R vU lX)->∀ {r:Bool×List Int},pC aG gZ eZ iz tz nV lX fT=some r->Rt (C aH 0 gZ eZ iz fS 0 fT H) (di.Q H0 Ri R0 aE au aI aw ay av aA aB aQ aC eW cM fo cN cO aH jO kV kW nl nm nn r)
def di.pl7 (F:Nat) :Nat->Bool->Int->Int->Int->Int->Int->List Int->Int->Option (Bool×List Int)
 | 0,_,_,_,_,_,_,_,_=>none
 | k+1,aG,gZ,eZ,iz,tz,nV,lX,fT=>(bif (decide (fT<tz)) then ((bif (!aG) then ((bD.p F nV lX fT gZ).bind λr3=>(bD.p F nV lX fT eZ).bind λr8=>(gN.p F r3 iz r8).bind λr12=>(gO.p F aG nV lX fT gZ r12).bind λr16=>di.pl7 F k r16.1 gZ eZ iz tz nV r16.2 (IntKind.i64.wrap (fT+1))) else (some (aG,lX)))) else (some (aG,lX)))
theorem di.l7_P {aE au aI aw ay av aA aB aQ aC:Int} {eW cM fo cN cO:Sl} {aH jO:Nat} {kV:ON} {kW:Cap} {nl:Bool} {nm nn:List AV} :∀ k,di.S7 H0 Ri R0 aE au aI aw ay av aA aB aQ aC eW cM fo cN cO aH jO kV kW nl nm nn (di.l7 F (bD.tw F) (gN.tw F) (gO.tw F)  k) (di.pl7 F  k):=by
 intro k
 induction k with
 | zero=>unfold di.S7;intros;rename_i hp;cases hp
 | succ k ih=>
  intro aG gZ eZ iz tz nV fT lX vU fS H Jk h0 r hp
  obtain ⟨w0,s0,rz⟩:=h0
  subst Jk
  unfold di.pl7 at hp
  unfold di.l7
  refine aa (af (w0.ld (i:=2) rfl rfl)) ?_
  refine aM hp (λhp=>?_) λhp=>?_
  ·refine aa (ns (w0.ld (i:=0) rfl rfl)) ?_
   refine aM hp (λhp=>?_) λhp=>?_
   ·refine aa (af (w0.ld (i:=2) rfl rfl)) ?_
    refine aa (af (w0.ld (i:=2) rfl rfl)) ?_
    refine aa (az (w0.ld (i:=2) rfl rfl)) ?_
    refine aa (af (w0.ld (i:=2) rfl rfl)) ?_
    refine aa (af (w0.ld (i:=2) rfl rfl)) ?_
    refine aa (az (w0.ld (i:=2) rfl rfl)) ?_
    obtain ⟨w1,s1⟩:=w0.pick' [1,0,2] 3 rfl rfl rfl
    have f2:=W.borrow1 eI w1 (rz.step s1)
    obtain ⟨w2,s2⟩:=w1.right1
    obtain ⟨r3,e3,hp⟩:=aj hp
    refine aP (bD.P rfl ⟨w2,f2⟩ e3) ?_
    rintro _ H4 ⟨rfl,w4,s4,_⟩
    obtain ⟨w5,s5⟩:=W.frame1 w1 w4 s4
    refine aa rfl ?_
    refine fO (bu.tr (bu.refl _) s1 (W.cons_of (Rn:=[]) w2 w4 s4)) ?_
    refine aa (af (w5.ld (i:=2) rfl rfl)) ?_
    refine aa (af (w5.ld (i:=2) rfl rfl)) ?_
    refine aa (az (w5.ld (i:=2) rfl rfl)) ?_
    have f7:=W.borrow1 eI w5 (rz.step (s1.trans s5))
    obtain ⟨w7,s7⟩:=w5.right1
    obtain ⟨r8,e8,hp⟩:=aj hp
    refine aP (bD.P rfl ⟨w7,f7⟩ e8) ?_
    rintro _ H9 ⟨rfl,w9,s9,_⟩
    obtain ⟨w10,s10⟩:=W.frame1 w5 w9 s9
    refine aa rfl ?_
    refine fO (W.cons_of (Rn:=[]) w7 w9 s9) ?_
    obtain ⟨r12,e12,hp⟩:=aj hp
    refine aP (gN.P ⟨w10,trivial⟩ e12) ?_
    rintro _ H13 ⟨rfl,w13,s13,_⟩
    refine aa rfl ?_
    refine fO (W.cons_of (Rn:=[]) w10 w13 s13) ?_
    obtain ⟨w15,s15⟩:=w13.pick' [1,0,2] 3 rfl rfl rfl
    obtain ⟨r16,e16,hp⟩:=aj hp
    refine aP (gO.P rfl ⟨w15,(rz.step (s1.trans (s5.trans (s10.trans (s13.trans s15)))))⟩ e16) ?_
    rintro _ H17 ⟨abX,rfl,hl17_0,w17,s17,f17_0⟩
    exact ih hl17_0 ⟨w17,(s0.trans (s1.trans (s5.trans (s10.trans (s13.trans (s15.trans s17)))))),f17_0⟩ hp
   ·obtain ⟨w18,s18⟩:=w0.pick' [0,1] 3 rfl rfl rfl
    exact aR hp ⟨_,rfl,rfl,w18,(s0.trans s18),(rz.step s18)⟩
  ·obtain ⟨w19,s19⟩:=w0.pick' [0,1] 3 rfl rfl rfl
   exact aR hp ⟨_,rfl,rfl,w19,(s0.trans s19),(rz.step s19)⟩
def di.p (F:Nat) (aG:Bool) (ah:Int) (ax:Int) (iZ:List Int) (cQ:Int) (el:Int) (d_:Int):Option (Bool×List Int):=di.pl7 F F aG cQ el d_ ah ax iZ 0
theorem di.P {bH bk bJ bz bl bh bA bB bV bC ah ax cQ el d_:Int} {eU dB fh dC dD:Sl} {aG js:Bool} {ac ga:Nat} {iu:ON} {iv:Cap} {iZ:List Int} {jt ju nk:List AV} (tv:ga=iZ.length) (h0:Inn H (Rs.blk ac [.i bH,.i bk,.sl eU,.i bJ,.i bz,.sl dB,.i bl,.i bh,.sl fh,.i bA,.i bB,.sl dC,.i bV,.i bC,.sl dD,.bool aG]::Rs.ow js ⟨iu,ga,iv⟩ eI.z jt nk ju::R0) λR=>CR eI H R nk iZ) {r:Bool×List Int} (hp:di.p F aG ah ax iZ cQ el d_=some r):Rt (di.tw F ac 0 ah ax ⟨iu,ga,iv⟩ cQ el d_ H) (di.Q H (Rs.blk ac [.i bH,.i bk,.sl eU,.i bJ,.i bz,.sl dB,.i bl,.i bh,.sl fh,.i bA,.i bB,.sl dC,.i bV,.i bC,.sl dD,.bool aG]::Rs.ow js ⟨iu,ga,iv⟩ eI.z jt nk ju::R0) R0 bH bk bJ bz bl bh bA bB bV bC eU dB fh dC dD ac ga iu iv js jt ju r):=by
 obtain ⟨w0,ry⟩:=h0
 subst tv
 unfold di.p at hp
 unfold di.tw di.twX
 have s0:=w0.rf
 refine bR w0 λH1 w1 s1=>?_
 obtain ⟨w2,s2⟩:=w1.pick' [1,2,0] 3 rfl rfl rfl
 exact di.l7_P F rfl ⟨w2,(s0.trans (s1.trans s2)),(ry.step (s1.trans s2))⟩ hp
def g_.Q (H0:Hp) (Ri R0:List Rs) (bH bk bJ bz bl bh bA bB bV bC:Int) (cY eL cJ:ON) (cb dH bZ ac:Nat) (cZ eO cK:Cap) (fC gw fD:Bool) (fE fF gA gB fG fH:List AV) (dC dD:Sl) (r:List Int×List Int×List Int×Bool) (v:AV) (H':Hp):Prop:=∃ kT:List AV,∃ mN:List AV,∃ kU:List AV,v=(.tup [])/\cb=(r.1).length/\dH=(r.2.1).length/\bZ=(r.2.2.1).length/\Out H0 Ri H' (Rs.ow fC ⟨cY,cb,cZ⟩ eI.z fE kT fF::Rs.ow gw ⟨eL,dH,eO⟩ eI.z gA mN gB::Rs.ow fD ⟨cJ,bZ,cK⟩ eI.z fG kU fH::Rs.blk ac [.i bH,.i bk,.sl ⟨cY,cb,cZ⟩,.i bJ,.i bz,.sl ⟨eL,dH,eO⟩,.i bl,.i bh,.sl ⟨cJ,bZ,cK⟩,.i bA,.i bB,.sl dC,.i bV,.i bC,.sl dD,.bool (r.2.2.2)]::R0) λR=>CR eI H' R kT (r.1)/\CR eI H' R mN (r.2.1)/\CR eI H' R kU (r.2.2.1)
def g_.p (F:Nat) (bk:Int) (eu:List Int) (bz:Int) (gi:List Int) (bl:Int) (bh:Int) (dK:List Int) (aG:Bool) (ah:Int) (cf:Int) (dN:Int):Option (List Int×List Int×List Int×Bool):=(bif (dN != 0) then ((dh.p F aG bk eu ah cf dN).bind λr2=>(dh.p F r2.1 bz gi ah cf dN).bind λr5=>(di.p F r5.1 bl bh dK cf ah (IntKind.i64.wrap (0 - dN))).bind λr8=>some (r2.2,r5.2,r8.2,r8.1)) else (some (eu,gi,dK,aG)))
theorem g_.P {bH bk bJ bz bl bh bA bB bV bC ah cf dN:Int} {cY eL cJ:ON} {cb dH bZ ac:Nat} {cZ eO cK:Cap} {eu gi dK:List Int} {fC gw fD aG:Bool} {fE fF iX gA gB jL fG fH iY:List AV} {dC dD:Sl} (nj:cb=eu.length) (qk:dH=gi.length) (lW:bZ=dK.length) (h0:Inn H (Rs.ow fC ⟨cY,cb,cZ⟩ eI.z fE iX fF::Rs.ow gw ⟨eL,dH,eO⟩ eI.z gA jL gB::Rs.ow fD ⟨cJ,bZ,cK⟩ eI.z fG iY fH::Rs.blk ac [.i bH,.i bk,.sl ⟨cY,cb,cZ⟩,.i bJ,.i bz,.sl ⟨eL,dH,eO⟩,.i bl,.i bh,.sl ⟨cJ,bZ,cK⟩,.i bA,.i bB,.sl dC,.i bV,.i bC,.sl dD,.bool aG]::R0) λR=>CR eI H R iX eu/\CR eI H R jL gi/\CR eI H R iY dK) {r:List Int×List Int×List Int×Bool} (hp:g_.p F bk eu bz gi bl bh dK aG ah cf dN=some r):Rt (g_.tw F ac 0 ah cf dN H) (g_.Q H (Rs.ow fC ⟨cY,cb,cZ⟩ eI.z fE iX fF::Rs.ow gw ⟨eL,dH,eO⟩ eI.z gA jL gB::Rs.ow fD ⟨cJ,bZ,cK⟩ eI.z fG iY fH::Rs.blk ac [.i bH,.i bk,.sl ⟨cY,cb,cZ⟩,.i bJ,.i bz,.sl ⟨eL,dH,eO⟩,.i bl,.i bh,.sl ⟨cJ,bZ,cK⟩,.i bA,.i bB,.sl dC,.i bV,.i bC,.sl dD,.bool aG]::R0) R0 bH bk bJ bz bl bh bA bB bV bC cY eL cJ cb dH bZ ac cZ eO cK fC gw fD fE fF gA gB fG fH dC dD r):=by
 obtain ⟨w0,lJ,pf,kE⟩:=h0
 subst nj
 subst qk
 subst lW
 unfold g_.p at hp
 unfold g_.tw g_.twX
 have s0:=w0.rf
 refine aM hp (λhp=>?_) λhp=>?_
 ·refine aa (af (w0.ld (i:=3) rfl rfl)) ?_
  refine aa (af (w0.ld (i:=3) rfl rfl)) ?_
  refine aa (az (w0.ld (i:=3) rfl rfl)) ?_
  obtain ⟨w1,s1⟩:=w0.pick' [3,0,1,2] 4 rfl rfl rfl
  obtain ⟨r2,e2,hp⟩:=aj hp
  refine aP (dh.P rfl ⟨w1,(lJ.step s1)⟩ e2) ?_
  rintro _ H3 ⟨Jl,rfl,hl3_0,w3,s3,f3_0⟩
  refine aa (af (w3.ld (i:=0) rfl rfl)) ?_
  refine aa (af (w3.ld (i:=0) rfl rfl)) ?_
  refine aa (az (w3.ld (i:=0) rfl rfl)) ?_
  obtain ⟨w4,s4⟩:=w3.pick' [0,2,1,3] 4 rfl rfl rfl
  obtain ⟨r5,e5,hp⟩:=aj hp
  refine aP (dh.P rfl ⟨w4,(pf.step (s1.trans (s3.trans s4)))⟩ e5) ?_
  rintro _ H6 ⟨Jm,rfl,hl6_0,w6,s6,f6_0⟩
  refine aa (af (w6.ld (i:=0) rfl rfl)) ?_
  refine aa (af (w6.ld (i:=0) rfl rfl)) ?_
  refine aa (az (w6.ld (i:=0) rfl rfl)) ?_
  obtain ⟨w7,s7⟩:=w6.pick' [0,3,1,2] 4 rfl rfl rfl
  obtain ⟨r8,e8,hp⟩:=aj hp
  refine aP (di.P rfl ⟨w7,(kE.step (s1.trans (s3.trans (s4.trans (s6.trans s7)))))⟩ e8) ?_
  rintro _ H9 ⟨Jn,rfl,hl9_0,w9,s9,f9_0⟩
  obtain ⟨w10,s10⟩:=w9.pick' [3,2,1,0] 4 rfl rfl rfl
  exact aR hp ⟨_,_,_,rfl,hl3_0,hl6_0,hl9_0,w10,(s0.trans (s1.trans (s3.trans (s4.trans (s6.trans (s7.trans (s9.trans s10))))))),(f3_0.step (s4.trans (s6.trans (s7.trans (s9.trans s10))))),(f6_0.step (s7.trans (s9.trans s10))),(f9_0.step s10)⟩
 ·exact aR hp ⟨_,_,_,rfl,rfl,rfl,rfl,w0,s0,lJ,pf,kE⟩
def ij.Q (H0:Hp) (Ri R0:List Rs) (bH bk bJ bz bl bh bA bB bV bC:Int) (cY eM eN:ON) (cb dI dJ ac:Nat) (cZ eP eQ:Cap) (fC gy gz:Bool) (fE fF gC gD gE gF:List AV) (dB fh:Sl) (r:List Int×List Int×List Int×Bool) (v:AV) (H':Hp):Prop:=∃ kT:List AV,∃ mO:List AV,∃ mP:List AV,v=(.tup [])/\cb=(r.1).length/\dI=(r.2.1).length/\dJ=(r.2.2.1).length/\Out H0 Ri H' (Rs.ow fC ⟨cY,cb,cZ⟩ eI.z fE kT fF::Rs.ow gy ⟨eM,dI,eP⟩ eI.z gC mO gD::Rs.ow gz ⟨eN,dJ,eQ⟩ eI.z gE mP gF::Rs.blk ac [.i bH,.i bk,.sl ⟨cY,cb,cZ⟩,.i bJ,.i bz,.sl dB,.i bl,.i bh,.sl fh,.i bA,.i bB,.sl ⟨eM,dI,eP⟩,.i bV,.i bC,.sl ⟨eN,dJ,eQ⟩,.bool (r.2.2.2)]::R0) λR=>CR eI H' R kT (r.1)/\CR eI H' R mO (r.2.1)/\CR eI H' R mP (r.2.2.1)
def ij.p (F:Nat) (bH:Int) (bk:Int) (eu:List Int) (bA:Int) (bB:Int) (gj:List Int) (bC:Int) (gk:List Int) (aG:Bool) (ah:Int) (cf:Int) (dN:Int):Option (List Int×List Int×List Int×Bool):=(bif (dN != 0) then ((di.p F aG bH bk eu ah cf dN).bind λr2=>(di.p F r2.1 bA bB gj ah cf dN).bind λr5=>(dh.p F r5.1 bC gk cf ah (IntKind.i64.wrap (0 - dN))).bind λr8=>some (r2.2,r5.2,r8.2,r8.1)) else (some (eu,gj,gk,aG)))
theorem ij.P {bH bk bJ bz bl bh bA bB bV bC ah cf dN:Int} {cY eM eN:ON} {cb dI dJ ac:Nat} {cZ eP eQ:Cap} {eu gj gk:List Int} {fC gy gz aG:Bool} {fE fF iX gC gD jM gE gF jN:List AV} {dB fh:Sl} (nj:cb=eu.length) (ql:dI=gj.length) (qn:dJ=gk.length) (h0:Inn H (Rs.ow fC ⟨cY,cb,cZ⟩ eI.z fE iX fF::Rs.ow gy ⟨eM,dI,eP⟩ eI.z gC jM gD::Rs.ow gz ⟨eN,dJ,eQ⟩ eI.z gE jN gF::Rs.blk ac [.i bH,.i bk,.sl ⟨cY,cb,cZ⟩,.i bJ,.i bz,.sl dB,.i bl,.i bh,.sl fh,.i bA,.i bB,.sl ⟨eM,dI,eP⟩,.i bV,.i bC,.sl ⟨eN,dJ,eQ⟩,.bool aG]::R0) λR=>CR eI H R iX eu/\CR eI H R jM gj/\CR eI H R jN gk) {r:List Int×List Int×List Int×Bool} (hp:ij.p F bH bk eu bA bB gj bC gk aG ah cf dN=some r):Rt (ij.tw F ac 0 ah cf dN H) (ij.Q H (Rs.ow fC ⟨cY,cb,cZ⟩ eI.z fE iX fF::Rs.ow gy ⟨eM,dI,eP⟩ eI.z gC jM gD::Rs.ow gz ⟨eN,dJ,eQ⟩ eI.z gE jN gF::Rs.blk ac [.i bH,.i bk,.sl ⟨cY,cb,cZ⟩,.i bJ,.i bz,.sl dB,.i bl,.i bh,.sl fh,.i bA,.i bB,.sl ⟨eM,dI,eP⟩,.i bV,.i bC,.sl ⟨eN,dJ,eQ⟩,.bool aG]::R0) R0 bH bk bJ bz bl bh bA bB bV bC cY eM eN cb dI dJ ac cZ eP eQ fC gy gz fE fF gC gD gE gF dB fh r):=by
 obtain ⟨w0,lJ,pg,ph⟩:=h0
 subst nj
 subst ql
 subst qn
 unfold ij.p at hp
 unfold ij.tw ij.twX
 have s0:=w0.rf
 refine aM hp (λhp=>?_) λhp=>?_
 ·refine aa (af (w0.ld (i:=3) rfl rfl)) ?_
  refine aa (af (w0.ld (i:=3) rfl rfl)) ?_
  refine aa (az (w0.ld (i:=3) rfl rfl)) ?_
  obtain ⟨w1,s1⟩:=w0.pick' [3,0,1,2] 4 rfl rfl rfl
  obtain ⟨r2,e2,hp⟩:=aj hp
  refine aP (di.P rfl ⟨w1,(lJ.step s1)⟩ e2) ?_
  rintro _ H3 ⟨Jl,rfl,hl3_0,w3,s3,f3_0⟩
  refine aa (af (w3.ld (i:=0) rfl rfl)) ?_
  refine aa (af (w3.ld (i:=0) rfl rfl)) ?_
  refine aa (az (w3.ld (i:=0) rfl rfl)) ?_
  obtain ⟨w4,s4⟩:=w3.pick' [0,2,1,3] 4 rfl rfl rfl
  obtain ⟨r5,e5,hp⟩:=aj hp
  refine aP (di.P rfl ⟨w4,(pg.step (s1.trans (s3.trans s4)))⟩ e5) ?_
  rintro _ H6 ⟨Jm,rfl,hl6_0,w6,s6,f6_0⟩
  refine aa (af (w6.ld (i:=0) rfl rfl)) ?_
  refine aa (af (w6.ld (i:=0) rfl rfl)) ?_
  refine aa (az (w6.ld (i:=0) rfl rfl)) ?_
  obtain ⟨w7,s7⟩:=w6.pick' [0,3,1,2] 4 rfl rfl rfl
  obtain ⟨r8,e8,hp⟩:=aj hp
  refine aP (dh.P rfl ⟨w7,(ph.step (s1.trans (s3.trans (s4.trans (s6.trans s7)))))⟩ e8) ?_
  rintro _ H9 ⟨Jn,rfl,hl9_0,w9,s9,f9_0⟩
  obtain ⟨w10,s10⟩:=w9.pick' [3,2,1,0] 4 rfl rfl rfl
  exact aR hp ⟨_,_,_,rfl,hl3_0,hl6_0,hl9_0,w10,(s0.trans (s1.trans (s3.trans (s4.trans (s6.trans (s7.trans (s9.trans s10))))))),(f3_0.step (s4.trans (s6.trans (s7.trans (s9.trans s10))))),(f6_0.step (s7.trans (s9.trans s10))),(f9_0.step s10)⟩
 ·exact aR hp ⟨_,_,_,rfl,rfl,rfl,rfl,w0,s0,lJ,pg,ph⟩
def bX.Q (H0:Hp) (Ri R0:List Rs) (bH bk bJ bz bl bh bA bB bV bC:Int) (cY:ON) (cb ac:Nat) (cZ:Cap) (eu:List Int) (dB fh dC dD:Sl) (aG:Bool) (r:Bool) (v:AV) (H':Hp):Prop:=v=(.bool r)/\Out H0 Ri H' (Rs.blk ac [.i bH,.i bk,.sl ⟨cY,cb,cZ⟩,.i bJ,.i bz,.sl dB,.i bl,.i bh,.sl fh,.i bA,.i bB,.sl dC,.i bV,.i bC,.sl dD,.bool aG]::R0) λR=>True
def bX.S13 (H0:Hp) (Ri R0:List Rs) (aE au aI aw ay av aA aB aQ aC:Int) (bf:ON) (aO aH:Nat) (bg:Cap) (cG:List Int) (cM fo cN cO:Sl) (bW:Bool) (C:Nat->Nat->Int->Int->Hp->OA) (pC:Int->Int->List Int->Int->Int->Option (Bool)):Prop:=∀ {fc fj:Int},∀ {H:Hp},aO=cG.length->(Out H0 Ri H (Rs.blk aH [.i aE,.i au,.sl ⟨bf,aO,bg⟩,.i aI,.i aw,.sl cM,.i ay,.i av,.sl fo,.i aA,.i aB,.sl cN,.i aQ,.i aC,.sl cO,.bool bW]::R0) λR=>ROs eI H R ⟨bf,aO,bg⟩ cG)->∀ {r:Bool},pC aE au cG fc fj=some r->Rt (C aH 0 fc fj H) (bX.Q H0 Ri R0 aE au aI aw ay av aA aB aQ aC bf aO aH bg cG cM fo cN cO bW r)
def bX.S29 (H0:Hp) (Ri R0:List Rs) (aE au aI aw ay av aA aB aQ aC:Int) (bf:ON) (aO aH:Nat) (bg:Cap) (cG:List Int) (cM fo cN cO:Sl) (bW:Bool) (C:Nat->Nat->Int->Int->Hp->OA) (pC:Int->List Int->Int->Int->Option (Bool)):Prop:=∀ {oy nB:Int},∀ {H:Hp},aO=cG.length->(Out H0 Ri H (Rs.blk aH [.i aE,.i au,.sl ⟨bf,aO,bg⟩,.i aI,.i aw,.sl cM,.i ay,.i av,.sl fo,.i aA,.i aB,.sl cN,.i aQ,.i aC,.sl cO,.bool bW]::R0) λR=>ROs eI H R ⟨bf,aO,bg⟩ cG)->∀ {r:Bool},pC au cG oy nB=some r->Rt (C aH 0 oy nB H) (bX.Q H0 Ri R0 aE au aI aw ay av aA aB aQ aC bf aO aH bg cG cM fo cN cO bW r)
def bX.pl29 (F:Nat) :Nat->Int->List Int->Int->Int->Option (Bool)
 | 0,_,_,_,_=>none
 | k+1,au,cG,oy,nB=>(bif (decide (nB<au)) then ((bD.p F au cG oy nB).bind λr1=>(bif (r1 != 0) then (some false) else (bX.pl29 F k au cG oy (IntKind.i64.wrap (nB+1))))) else (some true))
theorem bX.l29_P {aE au aI aw ay av aA aB aQ aC:Int} {bf:ON} {aO aH:Nat} {bg:Cap} {cG:List Int} {cM fo cN cO:Sl} {bW:Bool} :∀ k,bX.S29 H0 Ri R0 aE au aI aw ay av aA aB aQ aC bf aO aH bg cG cM fo cN cO bW (bX.l29 F (bD.tw F)  k) (bX.pl29 F  k):=by
 intro k
 induction k with
 | zero=>unfold bX.S29;intros;rename_i hp;cases hp
 | succ k ih=>
  intro oy nB H qo h0 r hp
  obtain ⟨w0,s0,np⟩:=h0
  subst qo
  unfold bX.pl29 at hp
  unfold bX.l29
  refine aa (af (w0.ld (i:=0) rfl rfl)) ?_
  refine aM hp (λhp=>?_) λhp=>?_
  ·refine aa (af (w0.ld (i:=0) rfl rfl)) ?_
   refine aa (af (w0.ld (i:=0) rfl rfl)) ?_
   refine aa (az (w0.ld (i:=0) rfl rfl)) ?_
   obtain ⟨r1,e1,hp⟩:=aj hp
   refine aP (bD.P rfl ⟨w0,np⟩ e1) ?_
   rintro _ H2 ⟨rfl,w2,s2,_⟩
   refine aa rfl ?_
   refine aM hp (λhp=>?_) λhp=>?_
   ·exact aR hp ⟨rfl,w2,(s0.trans s2),trivial⟩
   ·exact ih rfl ⟨w2,(s0.trans s2),(np.step s2)⟩ hp
  ·exact aR hp ⟨rfl,w0,s0,trivial⟩
def bX.pj1 (F:Nat)  (au:Int) (cG:List Int) (tW:Int):Option (Bool):=bX.pl29 F F au cG tW (IntKind.i64.wrap (tW+1))
theorem bX.j1_P {aE au aI aw ay av aA aB aQ aC:Int} {bf:ON} {aO aH:Nat} {bg:Cap} {cG:List Int} {cM fo cN cO:Sl} {bW:Bool}  {tW:Int} (qo:aO=cG.length) (h0:Out H0 Ri H (Rs.blk aH [.i aE,.i au,.sl ⟨bf,aO,bg⟩,.i aI,.i aw,.sl cM,.i ay,.i av,.sl fo,.i aA,.i aB,.sl cN,.i aQ,.i aC,.sl cO,.bool bW]::R0) λR=>ROs eI H R ⟨bf,aO,bg⟩ cG) {r:Bool} (hp:bX.pj1 F  au cG tW=some r):Rt (bX.j1 F (bD.tw F)  aH 0 tW H) (bX.Q H0 Ri R0 aE au aI aw ay av aA aB aQ aC bf aO aH bg cG cM fo cN cO bW r):=by
 obtain ⟨w0,s0,np⟩:=h0
 subst qo
 unfold bX.pj1 at hp
 unfold bX.j1
 exact bX.l29_P F rfl ⟨w0,s0,np⟩ hp
def bX.pl13 (F:Nat) :Nat->Int->Int->List Int->Int->Int->Option (Bool)
 | 0,_,_,_,_,_=>none
 | k+1,aE,au,cG,fc,fj=>(bif (decide (fj<aE)) then ((bD.p F au cG fj fc).bind λr1=>(bif (r1 != 0) then (some false) else (bX.pl13 F k aE au cG fc (IntKind.i64.wrap (fj+1))))) else (bX.pj1 F au cG fc))
theorem bX.l13_P {aE au aI aw ay av aA aB aQ aC:Int} {bf:ON} {aO aH:Nat} {bg:Cap} {cG:List Int} {cM fo cN cO:Sl} {bW:Bool} :∀ k,bX.S13 H0 Ri R0 aE au aI aw ay av aA aB aQ aC bf aO aH bg cG cM fo cN cO bW (bX.l13 F (bD.tw F)  k) (bX.pl13 F  k):=by
 intro k
 induction k with
 | zero=>unfold bX.S13;intros;rename_i hp;cases hp
 | succ k ih=>
  intro fc fj H qo h0 r hp
  obtain ⟨w0,s0,np⟩:=h0
  subst qo
  unfold bX.pl13 at hp
  unfold bX.l13
  refine aa (af (w0.ld (i:=0) rfl rfl)) ?_
  refine aM hp (λhp=>?_) λhp=>?_
  ·refine aa (af (w0.ld (i:=0) rfl rfl)) ?_
   refine aa (af (w0.ld (i:=0) rfl rfl)) ?_
   refine aa (az (w0.ld (i:=0) rfl rfl)) ?_
   obtain ⟨r1,e1,hp⟩:=aj hp
   refine aP (bD.P rfl ⟨w0,np⟩ e1) ?_
   rintro _ H2 ⟨rfl,w2,s2,_⟩
   refine aa rfl ?_
   refine aM hp (λhp=>?_) λhp=>?_
   ·exact aR hp ⟨rfl,w2,(s0.trans s2),trivial⟩
   ·exact ih rfl ⟨w2,(s0.trans s2),(np.step s2)⟩ hp
  ·exact bX.j1_P rfl ⟨w0,s0,np⟩ hp
def bX.p (F:Nat) (bH:Int) (bk:Int) (eu:List Int) (ah:Int):Option (Bool):=bX.pl13 F F bH bk eu ah (IntKind.i64.wrap (ah+1))
theorem bX.P {bH bk bJ bz bl bh bA bB bV bC ah:Int} {cY:ON} {cb ac:Nat} {cZ:Cap} {eu:List Int} {dB fh dC dD:Sl} {aG:Bool} (nj:cb=eu.length) (h0:Inn H (Rs.blk ac [.i bH,.i bk,.sl ⟨cY,cb,cZ⟩,.i bJ,.i bz,.sl dB,.i bl,.i bh,.sl fh,.i bA,.i bB,.sl dC,.i bV,.i bC,.sl dD,.bool aG]::R0) λR=>ROs eI H R ⟨cY,cb,cZ⟩ eu) {r:Bool} (hp:bX.p F bH bk eu ah=some r):Rt (bX.tw F ac 0 ah H) (bX.Q H (Rs.blk ac [.i bH,.i bk,.sl ⟨cY,cb,cZ⟩,.i bJ,.i bz,.sl dB,.i bl,.i bh,.sl fh,.i bA,.i bB,.sl dC,.i bV,.i bC,.sl dD,.bool aG]::R0) R0 bH bk bJ bz bl bh bA bB bV bC cY cb ac cZ eu dB fh dC dD aG r):=by
 obtain ⟨w0,lJ⟩:=h0
 subst nj
 unfold bX.p at hp
 unfold bX.tw bX.twX
 have s0:=w0.rf
 exact bX.l13_P F rfl ⟨w0,s0,lJ⟩ hp
def bE.Q (H0:Hp) (Ri R0:List Rs) (bH bk bJ bz bl bh bA bB bV bC:Int) (cY:ON) (cb ac:Nat) (cZ:Cap) (eu:List Int) (dB fh dC dD:Sl) (aG:Bool) (r:Int) (v:AV) (H':Hp):Prop:=v=(.i r)/\Out H0 Ri H' (Rs.blk ac [.i bH,.i bk,.sl ⟨cY,cb,cZ⟩,.i bJ,.i bz,.sl dB,.i bl,.i bh,.sl fh,.i bA,.i bB,.sl dC,.i bV,.i bC,.sl dD,.bool aG]::R0) λR=>True
def bE.S13 (H0:Hp) (Ri R0:List Rs) (aE au aI aw ay av aA aB aQ aC:Int) (bf:ON) (aO aH:Nat) (bg:Cap) (cG:List Int) (cM fo cN cO:Sl) (bW:Bool) (C:Nat->Nat->Int->Int->Hp->OA) (pC:Int->Int->List Int->Int->Int->Option (Int)):Prop:=∀ {fc fj:Int},∀ {H:Hp},aO=cG.length->(Out H0 Ri H (Rs.blk aH [.i aE,.i au,.sl ⟨bf,aO,bg⟩,.i aI,.i aw,.sl cM,.i ay,.i av,.sl fo,.i aA,.i aB,.sl cN,.i aQ,.i aC,.sl cO,.bool bW]::R0) λR=>ROs eI H R ⟨bf,aO,bg⟩ cG)->∀ {r:Int},pC aE au cG fc fj=some r->Rt (C aH 0 fc fj H) (bE.Q H0 Ri R0 aE au aI aw ay av aA aB aQ aC bf aO aH bg cG cM fo cN cO bW r)
def bE.S213 (H0:Hp) (Ri R0:List Rs) (aE au aI aw ay av aA aB aQ aC:Int) (bf:ON) (aO aH:Nat) (bg:Cap) (cG:List Int) (cM fo cN cO:Sl) (bW:Bool) (C:Nat->Nat->Int->Int->Int->Hp->OA) (pC:Int->Int->List Int->Int->Int->Int->Option (Int)):Prop:=∀ {mm mn nC:Int},∀ {H:Hp},aO=cG.length->(Out H0 Ri H (Rs.blk aH [.i aE,.i au,.sl ⟨bf,aO,bg⟩,.i aI,.i aw,.sl cM,.i ay,.i av,.sl fo,.i aA,.i aB,.sl cN,.i aQ,.i aC,.sl cO,.bool bW]::R0) λR=>ROs eI H R ⟨bf,aO,bg⟩ cG)->∀ {r:Int},pC aE au cG mm mn nC=some r->Rt (C aH 0 mm mn nC H) (bE.Q H0 Ri R0 aE au aI aw ay av aA aB aQ aC bf aO aH bg cG cM fo cN cO bW r)
def bE.pj3 (F:Nat) (hU:Int->Int->List Int->Int->Int->Option (Int)) (aE:Int) (au:Int) (cG:List Int) (xS:Int) (xT:Int):Option (Int):=hU aE au cG xS (IntKind.i64.wrap (xT+1))
theorem bE.j3_P {aE au aI aw ay av aA aB aQ aC:Int} {bf:ON} {aO aH:Nat} {bg:Cap} {cG:List Int} {cM fo cN cO:Sl} {bW:Bool} {C13_:Nat->Nat->Int->Int->Hp->OA} {hU:Int->Int->List Int->Int->Int->Option (Int)} (hC13:bE.S13 H0 Ri R0 aE au aI aw ay av aA aB aQ aC bf aO aH bg cG cM fo cN cO bW C13_ hU) {xS xT:Int} (qo:aO=cG.length) (h0:Out H0 Ri H (Rs.blk aH [.i aE,.i au,.sl ⟨bf,aO,bg⟩,.i aI,.i aw,.sl cM,.i ay,.i av,.sl fo,.i aA,.i aB,.sl cN,.i aQ,.i aC,.sl cO,.bool bW]::R0) λR=>ROs eI H R ⟨bf,aO,bg⟩ cG) {r:Int} (hp:bE.pj3 F hU aE au cG xS xT=some r):Rt (bE.j3 F (bD.tw F) C13_ aH 0 xS xT H) (bE.Q H0 Ri R0 aE au aI aw ay av aA aB aQ aC bf aO aH bg cG cM fo cN cO bW r):=by
 obtain ⟨w0,s0,np⟩:=h0
 subst qo
 unfold bE.pj3 at hp
 unfold bE.j3
 exact hC13 rfl ⟨w0,s0,np⟩ hp
def bE.pj4 (F:Nat) (hU:Int->Int->List Int->Int->Int->Option (Int)) (aE:Int) (au:Int) (cG:List Int) (xU:Int) (tX:Int):Option (Int):=bE.pj3 F hU aE au cG xU tX
theorem bE.j4_P {aE au aI aw ay av aA aB aQ aC:Int} {bf:ON} {aO aH:Nat} {bg:Cap} {cG:List Int} {cM fo cN cO:Sl} {bW:Bool} {C13_:Nat->Nat->Int->Int->Hp->OA} {hU:Int->Int->List Int->Int->Int->Option (Int)} (hC13:bE.S13 H0 Ri R0 aE au aI aw ay av aA aB aQ aC bf aO aH bg cG cM fo cN cO bW C13_ hU) {xU tX:Int} (qo:aO=cG.length) (h0:Out H0 Ri H (Rs.blk aH [.i aE,.i au,.sl ⟨bf,aO,bg⟩,.i aI,.i aw,.sl cM,.i ay,.i av,.sl fo,.i aA,.i aB,.sl cN,.i aQ,.i aC,.sl cO,.bool bW]::R0) λR=>ROs eI H R ⟨bf,aO,bg⟩ cG) {r:Int} (hp:bE.pj4 F hU aE au cG xU tX=some r):Rt (bE.j4 F (bD.tw F) C13_ aH 0 xU tX H) (bE.Q H0 Ri R0 aE au aI aw ay av aA aB aQ aC bf aO aH bg cG cM fo cN cO bW r):=by
 obtain ⟨w0,s0,np⟩:=h0
 subst qo
 unfold bE.pj4 at hp
 unfold bE.j4
 exact bE.j3_P (@hC13) rfl ⟨w0,s0,np⟩ hp
def bE.pl213 (F:Nat) (hU:Int->Int->List Int->Int->Int->Option (Int)):Nat->Int->Int->List Int->Int->Int->Int->Option (Int)
 | 0,_,_,_,_,_,_=>none
 | k+1,aE,au,cG,mm,mn,nC=>(bif (decide (nC<au)) then ((bD.p F au cG mn nC).bind λr1=>(bD.p F au cG mm mm).bind λr4=>(if r4=0 then none else ((bif ((Int.tmod r1 r4) != 0) then (some mn) else (bE.pl213 F hU k aE au cG mm mn (IntKind.i64.wrap (nC+1))))))) else (bE.pj4 F hU aE au cG mm mn))
theorem bE.l213_P {aE au aI aw ay av aA aB aQ aC:Int} {bf:ON} {aO aH:Nat} {bg:Cap} {cG:List Int} {cM fo cN cO:Sl} {bW:Bool} {C13_:Nat->Nat->Int->Int->Hp->OA} {hU:Int->Int->List Int->Int->Int->Option (Int)} (hC13:bE.S13 H0 Ri R0 aE au aI aw ay av aA aB aQ aC bf aO aH bg cG cM fo cN cO bW C13_ hU):∀ k,bE.S213 H0 Ri R0 aE au aI aw ay av aA aB aQ aC bf aO aH bg cG cM fo cN cO bW (bE.l213 F (bD.tw F) C13_ k) (bE.pl213 F hU k):=by
 intro k
 induction k with
 | zero=>unfold bE.S213;intros;rename_i hp;cases hp
 | succ k ih=>
  intro mm mn nC H qo h0 r hp
  obtain ⟨w0,s0,np⟩:=h0
  subst qo
  unfold bE.pl213 at hp
  unfold bE.l213
  refine aa (af (w0.ld (i:=0) rfl rfl)) ?_
  refine aM hp (λhp=>?_) λhp=>?_
  ·refine aa (af (w0.ld (i:=0) rfl rfl)) ?_
   refine aa (af (w0.ld (i:=0) rfl rfl)) ?_
   refine aa (az (w0.ld (i:=0) rfl rfl)) ?_
   obtain ⟨r1,e1,hp⟩:=aj hp
   refine aP (bD.P rfl ⟨w0,np⟩ e1) ?_
   rintro _ H2 ⟨rfl,w2,s2,_⟩
   refine aa rfl ?_
   refine fO (W.cons_of (Rn:=[]) w0 w2 s2) ?_
   refine aa (af (w2.ld (i:=0) rfl rfl)) ?_
   refine aa (af (w2.ld (i:=0) rfl rfl)) ?_
   refine aa (az (w2.ld (i:=0) rfl rfl)) ?_
   obtain ⟨r4,e4,hp⟩:=aj hp
   refine aP (bD.P rfl ⟨w2,(np.step s2)⟩ e4) ?_
   rintro _ H5 ⟨rfl,w5,s5,_⟩
   refine aa rfl ?_
   obtain ⟨g6,hp⟩:=su hp
   refine sv g6 ?_
   refine aM hp (λhp=>?_) λhp=>?_
   ·exact aR hp ⟨rfl,w5,(s0.trans (s2.trans s5)),trivial⟩
   ·exact ih rfl ⟨w5,(s0.trans (s2.trans s5)),(np.step (s2.trans s5))⟩ hp
  ·exact bE.j4_P (@hC13) rfl ⟨w0,s0,np⟩ hp
def bE.pl13 (F:Nat) :Nat->Int->Int->List Int->Int->Int->Option (Int)
 | 0,_,_,_,_,_=>none
 | k+1,aE,au,cG,fc,fj=>(bif (decide (fj<aE)) then (bE.pl213 F (bE.pl13 F k) F aE au cG fc fj (IntKind.i64.wrap (fc+1))) else (some (-1)))
theorem bE.l13_P {aE au aI aw ay av aA aB aQ aC:Int} {bf:ON} {aO aH:Nat} {bg:Cap} {cG:List Int} {cM fo cN cO:Sl} {bW:Bool} :∀ k,bE.S13 H0 Ri R0 aE au aI aw ay av aA aB aQ aC bf aO aH bg cG cM fo cN cO bW (bE.l13 F (bD.tw F)  k) (bE.pl13 F  k):=by
 intro k
 induction k with
 | zero=>unfold bE.S13;intros;rename_i hp;cases hp
 | succ k ih=>
  intro fc fj H qo h0 r hp
  obtain ⟨w0,s0,np⟩:=h0
  subst qo
  unfold bE.pl13 at hp
  unfold bE.l13
  refine aa (af (w0.ld (i:=0) rfl rfl)) ?_
  refine aM hp (λhp=>?_) λhp=>?_
  ·exact bE.l213_P (@ih) F rfl ⟨w0,s0,np⟩ hp
  ·exact aR hp ⟨rfl,w0,s0,trivial⟩
def bE.p (F:Nat) (bH:Int) (bk:Int) (eu:List Int) (ah:Int):Option (Int):=bE.pl13 F F bH bk eu ah (IntKind.i64.wrap (ah+1))
theorem bE.P {bH bk bJ bz bl bh bA bB bV bC ah:Int} {cY:ON} {cb ac:Nat} {cZ:Cap} {eu:List Int} {dB fh dC dD:Sl} {aG:Bool} (nj:cb=eu.length) (h0:Inn H (Rs.blk ac [.i bH,.i bk,.sl ⟨cY,cb,cZ⟩,.i bJ,.i bz,.sl dB,.i bl,.i bh,.sl fh,.i bA,.i bB,.sl dC,.i bV,.i bC,.sl dD,.bool aG]::R0) λR=>ROs eI H R ⟨cY,cb,cZ⟩ eu) {r:Int} (hp:bE.p F bH bk eu ah=some r):Rt (bE.tw F ac 0 ah H) (bE.Q H (Rs.blk ac [.i bH,.i bk,.sl ⟨cY,cb,cZ⟩,.i bJ,.i bz,.sl dB,.i bl,.i bh,.sl fh,.i bA,.i bB,.sl dC,.i bV,.i bC,.sl dD,.bool aG]::R0) R0 bH bk bJ bz bl bh bA bB bV bC cY cb ac cZ eu dB fh dC dD aG r):=by
 obtain ⟨w0,lJ⟩:=h0
 subst nj
 unfold bE.p at hp
 unfold bE.tw bE.twX
 have s0:=w0.rf
 exact bE.l13_P F rfl ⟨w0,s0,lJ⟩ hp
def bs.Q (H0:Hp) (Ri R0:List Rs) (bH bk bJ bz bl bh bA bB bV bC:Int) (cY eL cJ eM eN:ON) (cb dH bZ dI dJ ac:Nat) (cZ eO cK eP eQ:Cap) (fC gw fD gy gz:Bool) (fE fF gA gB fG fH gC gD gE gF:List AV) (r:Bool×Bool×List Int×List Int×List Int×List Int×List Int×Bool) (v:AV) (H':Hp):Prop:=∃ kT:List AV,∃ mN:List AV,∃ kU:List AV,∃ mO:List AV,∃ mP:List AV,v=(.tup [(.bool r.1),(.bool r.2.1)])/\cb=(r.2.2.1).length/\dH=(r.2.2.2.1).length/\bZ=(r.2.2.2.2.1).length/\dI=(r.2.2.2.2.2.1).length/\dJ=(r.2.2.2.2.2.2.1).length/\Out H0 Ri H' (Rs.ow fC ⟨cY,cb,cZ⟩ eI.z fE kT fF::Rs.ow gw ⟨eL,dH,eO⟩ eI.z gA mN gB::Rs.ow fD ⟨cJ,bZ,cK⟩ eI.z fG kU fH::Rs.ow gy ⟨eM,dI,eP⟩ eI.z gC mO gD::Rs.ow gz ⟨eN,dJ,eQ⟩ eI.z gE mP gF::Rs.blk ac [.i bH,.i bk,.sl ⟨cY,cb,cZ⟩,.i bJ,.i bz,.sl ⟨eL,dH,eO⟩,.i bl,.i bh,.sl ⟨cJ,bZ,cK⟩,.i bA,.i bB,.sl ⟨eM,dI,eP⟩,.i bV,.i bC,.sl ⟨eN,dJ,eQ⟩,.bool (r.2.2.2.2.2.2.2)]::R0) λR=>CR eI H' R kT (r.2.2.1)/\CR eI H' R mN (r.2.2.2.1)/\CR eI H' R kU (r.2.2.2.2.1)/\CR eI H' R mO (r.2.2.2.2.2.1)/\CR eI H' R mP (r.2.2.2.2.2.2.1)
def bs.S29 (H0:Hp) (Ri R0:List Rs) (aE au aI aw ay av aA aB aQ aC:Int) (bf bL aU bM bN:ON) (aO bo aJ bp br aH:Nat) (bg bO aV bP bQ:Cap) (ci cj ck cl cn:Bool) (co cp cq ct cu cv cw cz cA cB:List AV) (C:Nat->Nat->Int->Int->Hp->OA) (pC:Int->Int->List Int->Int->List Int->Int->Int->List Int->Int->Int->List Int->Int->List Int->Bool->Int->Int->Option (Bool×Bool×List Int×List Int×List Int×List Int×List Int×Bool)):Prop:=∀ {aS aW aT aZ a_:List Int} {dp dq dr dt du:List AV} {aG:Bool} {c_ mp:Int},∀ {H:Hp},aO=aS.length->bo=aW.length->aJ=aT.length->bp=aZ.length->br=a_.length->(Out H0 Ri H (Rs.ow ci ⟨bf,aO,bg⟩ eI.z co dp cp::Rs.ow cj ⟨bL,bo,bO⟩ eI.z cq dq ct::Rs.ow ck ⟨aU,aJ,aV⟩ eI.z cu dr cv::Rs.ow cl ⟨bM,bp,bP⟩ eI.z cw dt cz::Rs.ow cn ⟨bN,br,bQ⟩ eI.z cA du cB::Rs.blk aH [.i aE,.i au,.sl ⟨bf,aO,bg⟩,.i aI,.i aw,.sl ⟨bL,bo,bO⟩,.i ay,.i av,.sl ⟨aU,aJ,aV⟩,.i aA,.i aB,.sl ⟨bM,bp,bP⟩,.i aQ,.i aC,.sl ⟨bN,br,bQ⟩,.bool aG]::R0) λR=>CR eI H R dp aS/\CR eI H R dq aW/\CR eI H R dr aT/\CR eI H R dt aZ/\CR eI H R du a_)->∀ {r:Bool×Bool×List Int×List Int×List Int×List Int×List Int×Bool},pC aE au aS aw aW ay av aT aA aB aZ aC a_ aG c_ mp=some r->Rt (C aH 0 c_ mp H) (bs.Q H0 Ri R0 aE au aI aw ay av aA aB aQ aC bf bL aU bM bN aO bo aJ bp br aH bg bO aV bP bQ ci cj ck cl cn co cp cq ct cu cv cw cz cA cB r)
def bs.S61 (H0:Hp) (Ri R0:List Rs) (aE au aI aw ay av aA aB aQ aC:Int) (bf bL aU bM bN:ON) (aO bo aJ bp br aH:Nat) (bg bO aV bP bQ:Cap) (ci cj ck cl cn:Bool) (co cp cq ct cu cv cw cz cA cB:List AV) (C:Nat->Nat->Int->Int->Hp->OA) (pC:Int->Int->List Int->Int->List Int->Int->Int->List Int->Int->Int->List Int->Int->List Int->Bool->Int->Int->Option (Bool×Bool×List Int×List Int×List Int×List Int×List Int×Bool)):Prop:=∀ {aS aW aT aZ a_:List Int} {dp dq dr dt du:List AV} {aG:Bool} {jS mo:Int},∀ {H:Hp},aO=aS.length->bo=aW.length->aJ=aT.length->bp=aZ.length->br=a_.length->(Out H0 Ri H (Rs.ow ci ⟨bf,aO,bg⟩ eI.z co dp cp::Rs.ow cj ⟨bL,bo,bO⟩ eI.z cq dq ct::Rs.ow ck ⟨aU,aJ,aV⟩ eI.z cu dr cv::Rs.ow cl ⟨bM,bp,bP⟩ eI.z cw dt cz::Rs.ow cn ⟨bN,br,bQ⟩ eI.z cA du cB::Rs.blk aH [.i aE,.i au,.sl ⟨bf,aO,bg⟩,.i aI,.i aw,.sl ⟨bL,bo,bO⟩,.i ay,.i av,.sl ⟨aU,aJ,aV⟩,.i aA,.i aB,.sl ⟨bM,bp,bP⟩,.i aQ,.i aC,.sl ⟨bN,br,bQ⟩,.bool aG]::R0) λR=>CR eI H R dp aS/\CR eI H R dq aW/\CR eI H R dr aT/\CR eI H R dt aZ/\CR eI H R du a_)->∀ {r:Bool×Bool×List Int×List Int×List Int×List Int×List Int×Bool},pC aE au aS aw aW ay av aT aA aB aZ aC a_ aG jS mo=some r->Rt (C aH 0 jS mo H) (bs.Q H0 Ri R0 aE au aI aw ay av aA aB aQ aC bf bL aU bM bN aO bo aJ bp br aH bg bO aV bP bQ ci cj ck cl cn co cp cq ct cu cv cw cz cA cB r)
def bs.pj1 (F:Nat)  (aE:Int) (au:Int) (aS:List Int) (aw:Int) (aW:List Int) (ay:Int) (av:Int) (aT:List Int) (aZ:List Int) (a_:List Int) (aG:Bool) (rO:Int):Option (Bool×Bool×List Int×List Int×List Int×List Int×List Int×Bool):=(bif aG then (some (false,false,aS,aW,aT,aZ,a_,aG)) else ((bX.p F aE au aS rO).bind λr3=>(bif (!r3) then (some (false,false,aS,aW,aT,aZ,a_,aG)) else ((bE.p F aE au aS rO).bind λr8=>(bif (decide (r8<0)) then (some (true,false,aS,aW,aT,aZ,a_,aG)) else ((g_.p F au aS aw aW ay av aT aG rO r8 (-1)).bind λr13=>some (false,false,r13.1,r13.2.1,r13.2.2.1,aZ,a_,r13.2.2.2)))))))
theorem bs.j1_P {aE au aI aw ay av aA aB aQ aC:Int} {bf bL aU bM bN:ON} {aO bo aJ bp br aH:Nat} {bg bO aV bP bQ:Cap} {ci cj ck cl cn:Bool} {co cp cq ct cu cv cw cz cA cB:List AV}  {aS aW aT aZ a_:List Int} {dp dq dr dt du:List AV} {aG:Bool} {rO:Int} (fI:aO=aS.length) (fJ:bo=aW.length) (fK:aJ=aT.length) (fL:bp=aZ.length) (fM:br=a_.length) (h0:Out H0 Ri H (Rs.ow ci ⟨bf,aO,bg⟩ eI.z co dp cp::Rs.ow cj ⟨bL,bo,bO⟩ eI.z cq dq ct::Rs.ow ck ⟨aU,aJ,aV⟩ eI.z cu dr cv::Rs.ow cl ⟨bM,bp,bP⟩ eI.z cw dt cz::Rs.ow cn ⟨bN,br,bQ⟩ eI.z cA du cB::Rs.blk aH [.i aE,.i au,.sl ⟨bf,aO,bg⟩,.i aI,.i aw,.sl ⟨bL,bo,bO⟩,.i ay,.i av,.sl ⟨aU,aJ,aV⟩,.i aA,.i aB,.sl ⟨bM,bp,bP⟩,.i aQ,.i aC,.sl ⟨bN,br,bQ⟩,.bool aG]::R0) λR=>CR eI H R dp aS/\CR eI H R dq aW/\CR eI H R dr aT/\CR eI H R dt aZ/\CR eI H R du a_) {r:Bool×Bool×List Int×List Int×List Int×List Int×List Int×Bool} (hp:bs.pj1 F  aE au aS aw aW ay av aT aZ a_ aG rO=some r):Rt (bs.j1 F (aF.tw F) (bD.tw F) (io.tw F) (g_.tw F) (ij.tw F) (bX.tw F) (bE.tw F)  aH 0 rO H) (bs.Q H0 Ri R0 aE au aI aw ay av aA aB aQ aC bf bL aU bM bN aO bo aJ bp br aH bg bO aV bP bQ ci cj ck cl cn co cp cq ct cu cv cw cz cA cB r):=by
 obtain ⟨w0,s0,dv,dQ,dA,ec,ed⟩:=h0
 subst fI
 subst fJ
 subst fK
 subst fL
 subst fM
 unfold bs.pj1 at hp
 unfold bs.j1
 refine aa (ns (w0.ld (i:=5) rfl rfl)) ?_
 refine aM hp (λhp=>?_) λhp=>?_
 ·exact aR hp ⟨_,_,_,_,_,rfl,rfl,rfl,rfl,rfl,rfl,w0,s0,dv,dQ,dA,ec,ed⟩
 ·obtain ⟨w1,s1⟩:=w0.pick' [0,5,1,2,3,4] 6 rfl rfl rfl
  have f2:=W.borrow1 eI w1 (dv.step s1)
  obtain ⟨w2,s2⟩:=w1.right1
  obtain ⟨r3,e3,hp⟩:=aj hp
  refine aP (bX.P rfl ⟨w2,f2⟩ e3) ?_
  rintro _ H4 ⟨rfl,w4,s4,_⟩
  obtain ⟨w5,s5⟩:=W.frame1 w1 w4 s4
  refine aa rfl ?_
  refine aM hp (λhp=>?_) λhp=>?_
  ·obtain ⟨w6,s6⟩:=w5.pick' [0,2,3,4,5,1] 6 rfl rfl rfl
   exact aR hp ⟨_,_,_,_,_,rfl,rfl,rfl,rfl,rfl,rfl,w6,(s0.trans (s1.trans (s5.trans s6))),(dv.step (s1.trans (s5.trans s6))),(dQ.step (s1.trans (s5.trans s6))),(dA.step (s1.trans (s5.trans s6))),(ec.step (s1.trans (s5.trans s6))),(ed.step (s1.trans (s5.trans s6)))⟩
  ·have f7:=W.borrow1 eI w5 (dv.step (s1.trans s5))
   obtain ⟨w7,s7⟩:=w5.right1
   obtain ⟨r8,e8,hp⟩:=aj hp
   refine aP (bE.P rfl ⟨w7,f7⟩ e8) ?_
   rintro _ H9 ⟨rfl,w9,s9,_⟩
   obtain ⟨w10,s10⟩:=W.frame1 w5 w9 s9
   refine aa rfl ?_
   refine aM hp (λhp=>?_) λhp=>?_
   ·obtain ⟨w11,s11⟩:=w10.pick' [0,2,3,4,5,1] 6 rfl rfl rfl
    exact aR hp ⟨_,_,_,_,_,rfl,rfl,rfl,rfl,rfl,rfl,w11,(s0.trans (s1.trans (s5.trans (s10.trans s11)))),(dv.step (s1.trans (s5.trans (s10.trans s11)))),(dQ.step (s1.trans (s5.trans (s10.trans s11)))),(dA.step (s1.trans (s5.trans (s10.trans s11)))),(ec.step (s1.trans (s5.trans (s10.trans s11)))),(ed.step (s1.trans (s5.trans (s10.trans s11))))⟩
   ·obtain ⟨w12,s12⟩:=w10.pick' [0,2,3,1,4,5] 6 rfl rfl rfl
    obtain ⟨r13,e13,hp⟩:=aj hp
    refine aP (g_.P rfl rfl rfl ⟨w12,(dv.step (s1.trans (s5.trans (s10.trans s12)))),(dQ.step (s1.trans (s5.trans (s10.trans s12)))),(dA.step (s1.trans (s5.trans (s10.trans s12))))⟩ e13) ?_
    rintro _ H14 ⟨R_,abY,abZ,rfl,hl14_0,hl14_1,hl14_2,w14,s14,f14_0,f14_1,f14_2⟩
    obtain ⟨w15,s15⟩:=w14.pick' [0,1,2,4,5,3] 6 rfl rfl rfl
    exact aR hp ⟨_,_,_,_,_,rfl,hl14_0,hl14_1,hl14_2,rfl,rfl,w15,(s0.trans (s1.trans (s5.trans (s10.trans (s12.trans (s14.trans s15)))))),(f14_0.step s15),(f14_1.step s15),(f14_2.step s15),(ec.step (s1.trans (s5.trans (s10.trans (s12.trans (s14.trans s15)))))),(ed.step (s1.trans (s5.trans (s10.trans (s12.trans (s14.trans s15))))))⟩
def bs.pl61 (F:Nat) :Nat->Int->Int->List Int->Int->List Int->Int->Int->List Int->Int->Int->List Int->Int->List Int->Bool->Int->Int->Option (Bool×Bool×List Int×List Int×List Int×List Int×List Int×Bool)
 | 0,_,_,_,_,_,_,_,_,_,_,_,_,_,_,_,_=>none
 | k+1,aE,au,aS,aw,aW,ay,av,aT,aA,aB,aZ,aC,a_,aG,jS,mo=>(bif (decide (mo<au)) then ((bif (!aG) then ((bD.p F au aS jS mo).bind λr2=>(bD.p F au aS jS jS).bind λr7=>(io.p F r2 r7).bind λr10=>(ij.p F aE au aS aA aB aZ aC a_ aG mo jS r10).bind λr13=>bs.pl61 F k aE au r13.1 aw aW ay av aT aA aB r13.2.1 aC r13.2.2.1 r13.2.2.2 jS (IntKind.i64.wrap (mo+1))) else (bs.pj1 F aE au aS aw aW ay av aT aZ a_ aG jS))) else (bs.pj1 F aE au aS aw aW ay av aT aZ a_ aG jS))
theorem bs.l61_P {aE au aI aw ay av aA aB aQ aC:Int} {bf bL aU bM bN:ON} {aO bo aJ bp br aH:Nat} {bg bO aV bP bQ:Cap} {ci cj ck cl cn:Bool} {co cp cq ct cu cv cw cz cA cB:List AV} :∀ k,bs.S61 H0 Ri R0 aE au aI aw ay av aA aB aQ aC bf bL aU bM bN aO bo aJ bp br aH bg bO aV bP bQ ci cj ck cl cn co cp cq ct cu cv cw cz cA cB (bs.l61 F (aF.tw F) (bD.tw F) (io.tw F) (g_.tw F) (ij.tw F) (bX.tw F) (bE.tw F)  k) (bs.pl61 F  k):=by
 intro k
 induction k with
 | zero=>unfold bs.S61;intros;rename_i hp;cases hp
 | succ k ih=>
  intro aS aW aT aZ a_ dp dq dr dt du aG jS mo H fI fJ fK fL fM h0 r hp
  obtain ⟨w0,s0,dv,dQ,dA,ec,ed⟩:=h0
  subst fI
  subst fJ
  subst fK
  subst fL
  subst fM
  unfold bs.pl61 at hp
  unfold bs.l61
  refine aa (af (w0.ld (i:=5) rfl rfl)) ?_
  refine aM hp (λhp=>?_) λhp=>?_
  ·refine aa (ns (w0.ld (i:=5) rfl rfl)) ?_
   refine aM hp (λhp=>?_) λhp=>?_
   ·refine aa (af (w0.ld (i:=5) rfl rfl)) ?_
    refine aa (af (w0.ld (i:=5) rfl rfl)) ?_
    refine aa (az (w0.ld (i:=5) rfl rfl)) ?_
    have f1:=W.borrow1 eI w0 dv
    obtain ⟨w1,s1⟩:=w0.right1
    obtain ⟨r2,e2,hp⟩:=aj hp
    refine aP (bD.P rfl ⟨w1,f1⟩ e2) ?_
    rintro _ H3 ⟨rfl,w3,s3,_⟩
    obtain ⟨w4,s4⟩:=W.frame1 w0 w3 s3
    refine aa rfl ?_
    refine fO (W.cons_of (Rn:=[]) w1 w3 s3) ?_
    refine aa (af (w4.ld (i:=5) rfl rfl)) ?_
    refine aa (af (w4.ld (i:=5) rfl rfl)) ?_
    refine aa (az (w4.ld (i:=5) rfl rfl)) ?_
    have f6:=W.borrow1 eI w4 (dv.step s4)
    obtain ⟨w6,s6⟩:=w4.right1
    obtain ⟨r7,e7,hp⟩:=aj hp
    refine aP (bD.P rfl ⟨w6,f6⟩ e7) ?_
    rintro _ H8 ⟨rfl,w8,s8,_⟩
    obtain ⟨w9,s9⟩:=W.frame1 w4 w8 s8
    refine aa rfl ?_
    obtain ⟨r10,e10,hp⟩:=aj hp
    refine aP (io.P ⟨w9,trivial⟩ e10) ?_
    rintro _ H11 ⟨rfl,w11,s11,_⟩
    refine aa rfl ?_
    obtain ⟨w12,s12⟩:=w11.pick' [0,3,4,5,1,2] 6 rfl rfl rfl
    obtain ⟨r13,e13,hp⟩:=aj hp
    refine aP (ij.P rfl rfl rfl ⟨w12,(dv.step (s4.trans (s9.trans (s11.trans s12)))),(ec.step (s4.trans (s9.trans (s11.trans s12)))),(ed.step (s4.trans (s9.trans (s11.trans s12))))⟩ e13) ?_
    rintro _ H14 ⟨R_,agM,agN,rfl,hl14_0,hl14_1,hl14_2,w14,s14,f14_0,f14_1,f14_2⟩
    obtain ⟨w15,s15⟩:=w14.pick' [0,4,5,1,2,3] 6 rfl rfl rfl
    exact ih hl14_0 rfl rfl hl14_1 hl14_2 ⟨w15,(s0.trans (s4.trans (s9.trans (s11.trans (s12.trans (s14.trans s15)))))),(f14_0.step s15),(dQ.step (s4.trans (s9.trans (s11.trans (s12.trans (s14.trans s15)))))),(dA.step (s4.trans (s9.trans (s11.trans (s12.trans (s14.trans s15)))))),(f14_1.step s15),(f14_2.step s15)⟩ hp
   ·exact bs.j1_P rfl rfl rfl rfl rfl ⟨w0,s0,dv,dQ,dA,ec,ed⟩ hp
  ·exact bs.j1_P rfl rfl rfl rfl rfl ⟨w0,s0,dv,dQ,dA,ec,ed⟩ hp
def bs.pj2 (F:Nat)  (aE:Int) (au:Int) (aS:List Int) (aw:Int) (aW:List Int) (ay:Int) (av:Int) (aT:List Int) (aA:Int) (aB:Int) (aZ:List Int) (aC:Int) (a_:List Int) (aG:Bool) (tY:Int):Option (Bool×Bool×List Int×List Int×List Int×List Int×List Int×Bool):=bs.pl61 F F aE au aS aw aW ay av aT aA aB aZ aC a_ aG tY (IntKind.i64.wrap (tY+1))
theorem bs.j2_P {aE au aI aw ay av aA aB aQ aC:Int} {bf bL aU bM bN:ON} {aO bo aJ bp br aH:Nat} {bg bO aV bP bQ:Cap} {ci cj ck cl cn:Bool} {co cp cq ct cu cv cw cz cA cB:List AV}  {aS aW aT aZ a_:List Int} {dp dq dr dt du:List AV} {aG:Bool} {tY:Int} (fI:aO=aS.length) (fJ:bo=aW.length) (fK:aJ=aT.length) (fL:bp=aZ.length) (fM:br=a_.length) (h0:Out H0 Ri H (Rs.ow ci ⟨bf,aO,bg⟩ eI.z co dp cp::Rs.ow cj ⟨bL,bo,bO⟩ eI.z cq dq ct::Rs.ow ck ⟨aU,aJ,aV⟩ eI.z cu dr cv::Rs.ow cl ⟨bM,bp,bP⟩ eI.z cw dt cz::Rs.ow cn ⟨bN,br,bQ⟩ eI.z cA du cB::Rs.blk aH [.i aE,.i au,.sl ⟨bf,aO,bg⟩,.i aI,.i aw,.sl ⟨bL,bo,bO⟩,.i ay,.i av,.sl ⟨aU,aJ,aV⟩,.i aA,.i aB,.sl ⟨bM,bp,bP⟩,.i aQ,.i aC,.sl ⟨bN,br,bQ⟩,.bool aG]::R0) λR=>CR eI H R dp aS/\CR eI H R dq aW/\CR eI H R dr aT/\CR eI H R dt aZ/\CR eI H R du a_) {r:Bool×Bool×List Int×List Int×List Int×List Int×List Int×Bool} (hp:bs.pj2 F  aE au aS aw aW ay av aT aA aB aZ aC a_ aG tY=some r):Rt (bs.j2 F (aF.tw F) (bD.tw F) (io.tw F) (g_.tw F) (ij.tw F) (bX.tw F) (bE.tw F)  aH 0 tY H) (bs.Q H0 Ri R0 aE au aI aw ay av aA aB aQ aC bf bL aU bM bN aO bo aJ bp br aH bg bO aV bP bQ ci cj ck cl cn co cp cq ct cu cv cw cz cA cB r):=by
 obtain ⟨w0,s0,dv,dQ,dA,ec,ed⟩:=h0
 subst fI
 subst fJ
 subst fK
 subst fL
 subst fM
 unfold bs.pj2 at hp
 unfold bs.j2
 exact bs.l61_P F rfl rfl rfl rfl rfl ⟨w0,s0,dv,dQ,dA,ec,ed⟩ hp
def bs.pl29 (F:Nat) :Nat->Int->Int->List Int->Int->List Int->Int->Int->List Int->Int->Int->List Int->Int->List Int->Bool->Int->Int->Option (Bool×Bool×List Int×List Int×List Int×List Int×List Int×Bool)
 | 0,_,_,_,_,_,_,_,_,_,_,_,_,_,_,_,_=>none
 | k+1,aE,au,aS,aw,aW,ay,av,aT,aA,aB,aZ,aC,a_,aG,c_,mp=>(bif (decide (mp<aE)) then ((bif (!aG) then ((bD.p F au aS mp c_).bind λr2=>(bD.p F au aS c_ c_).bind λr7=>(io.p F r2 r7).bind λr10=>(g_.p F au aS aw aW ay av aT aG mp c_ r10).bind λr13=>bs.pl29 F k aE au r13.1 aw r13.2.1 ay av r13.2.2.1 aA aB aZ aC a_ r13.2.2.2 c_ (IntKind.i64.wrap (mp+1))) else (bs.pj2 F aE au aS aw aW ay av aT aA aB aZ aC a_ aG c_))) else (bs.pj2 F aE au aS aw aW ay av aT aA aB aZ aC a_ aG c_))
theorem bs.l29_P {aE au aI aw ay av aA aB aQ aC:Int} {bf bL aU bM bN:ON} {aO bo aJ bp br aH:Nat} {bg bO aV bP bQ:Cap} {ci cj ck cl cn:Bool} {co cp cq ct cu cv cw cz cA cB:List AV} :∀ k,bs.S29 H0 Ri R0 aE au aI aw ay av aA aB aQ aC bf bL aU bM bN aO bo aJ bp br aH bg bO aV bP bQ ci cj ck cl cn co cp cq ct cu cv cw cz cA cB (bs.l29 F (aF.tw F) (bD.tw F) (io.tw F) (g_.tw F) (ij.tw F) (bX.tw F) (bE.tw F)  k) (bs.pl29 F  k):=by
 intro k
 induction k with
 | zero=>unfold bs.S29;intros;rename_i hp;cases hp
 | succ k ih=>
  intro aS aW aT aZ a_ dp dq dr dt du aG c_ mp H fI fJ fK fL fM h0 r hp
  obtain ⟨w0,s0,dv,dQ,dA,ec,ed⟩:=h0
  subst fI
  subst fJ
  subst fK
  subst fL
  subst fM
  unfold bs.pl29 at hp
  unfold bs.l29
  refine aa (af (w0.ld (i:=5) rfl rfl)) ?_
  refine aM hp (λhp=>?_) λhp=>?_
  ·refine aa (ns (w0.ld (i:=5) rfl rfl)) ?_
   refine aM hp (λhp=>?_) λhp=>?_
   ·refine aa (af (w0.ld (i:=5) rfl rfl)) ?_
    refine aa (af (w0.ld (i:=5) rfl rfl)) ?_
    refine aa (az (w0.ld (i:=5) rfl rfl)) ?_
    have f1:=W.borrow1 eI w0 dv
    obtain ⟨w1,s1⟩:=w0.right1
    obtain ⟨r2,e2,hp⟩:=aj hp
    refine aP (bD.P rfl ⟨w1,f1⟩ e2) ?_
    rintro _ H3 ⟨rfl,w3,s3,_⟩
    obtain ⟨w4,s4⟩:=W.frame1 w0 w3 s3
    refine aa rfl ?_
    refine fO (W.cons_of (Rn:=[]) w1 w3 s3) ?_
    refine aa (af (w4.ld (i:=5) rfl rfl)) ?_
    refine aa (af (w4.ld (i:=5) rfl rfl)) ?_
    refine aa (az (w4.ld (i:=5) rfl rfl)) ?_
    have f6:=W.borrow1 eI w4 (dv.step s4)
    obtain ⟨w6,s6⟩:=w4.right1
    obtain ⟨r7,e7,hp⟩:=aj hp
    refine aP (bD.P rfl ⟨w6,f6⟩ e7) ?_
    rintro _ H8 ⟨rfl,w8,s8,_⟩
    obtain ⟨w9,s9⟩:=W.frame1 w4 w8 s8
    refine aa rfl ?_
    obtain ⟨r10,e10,hp⟩:=aj hp
    refine aP (io.P ⟨w9,trivial⟩ e10) ?_
    rintro _ H11 ⟨rfl,w11,s11,_⟩
    refine aa rfl ?_
    obtain ⟨w12,s12⟩:=w11.pick' [0,1,2,5,3,4] 6 rfl rfl rfl
    obtain ⟨r13,e13,hp⟩:=aj hp
    refine aP (g_.P rfl rfl rfl ⟨w12,(dv.step (s4.trans (s9.trans (s11.trans s12)))),(dQ.step (s4.trans (s9.trans (s11.trans s12)))),(dA.step (s4.trans (s9.trans (s11.trans s12))))⟩ e13) ?_
    rintro _ H14 ⟨R_,abY,abZ,rfl,hl14_0,hl14_1,hl14_2,w14,s14,f14_0,f14_1,f14_2⟩
    obtain ⟨w15,s15⟩:=w14.pick' [0,1,2,4,5,3] 6 rfl rfl rfl
    exact ih hl14_0 hl14_1 hl14_2 rfl rfl ⟨w15,(s0.trans (s4.trans (s9.trans (s11.trans (s12.trans (s14.trans s15)))))),(f14_0.step s15),(f14_1.step s15),(f14_2.step s15),(ec.step (s4.trans (s9.trans (s11.trans (s12.trans (s14.trans s15)))))),(ed.step (s4.trans (s9.trans (s11.trans (s12.trans (s14.trans s15))))))⟩ hp
   ·exact bs.j2_P rfl rfl rfl rfl rfl ⟨w0,s0,dv,dQ,dA,ec,ed⟩ hp
  ·exact bs.j2_P rfl rfl rfl rfl rfl ⟨w0,s0,dv,dQ,dA,ec,ed⟩ hp
def bs.p (F:Nat) (bH:Int) (bk:Int) (eu:List Int) (bz:Int) (gi:List Int) (bl:Int) (bh:Int) (dK:List Int) (bA:Int) (bB:Int) (gj:List Int) (bC:Int) (gk:List Int) (aG:Bool) (ah:Int):Option (Bool×Bool×List Int×List Int×List Int×List Int×List Int×Bool):=(aF.p F bH bk eu bz gi bl bh dK bA bB gj bC gk ah).bind λr1=>(bif (!r1.1) then (some (true,true,r1.2.1,r1.2.2.1,r1.2.2.2.1,r1.2.2.2.2.1,r1.2.2.2.2.2,aG)) else (bs.pl29 F F bH bk r1.2.1 bz r1.2.2.1 bl bh r1.2.2.2.1 bA bB r1.2.2.2.2.1 bC r1.2.2.2.2.2 aG ah (IntKind.i64.wrap (ah+1))))
theorem bs.P {bH bk bJ bz bl bh bA bB bV bC ah:Int} {cY eL cJ eM eN:ON} {cb dH bZ dI dJ ac:Nat} {cZ eO cK eP eQ:Cap} {eu gi dK gj gk:List Int} {fC gw fD gy gz aG:Bool} {fE fF iX gA gB jL fG fH iY gC gD jM gE gF jN:List AV} (nj:cb=eu.length) (qk:dH=gi.length) (lW:bZ=dK.length) (ql:dI=gj.length) (qn:dJ=gk.length) (h0:Inn H (Rs.ow fC ⟨cY,cb,cZ⟩ eI.z fE iX fF::Rs.ow gw ⟨eL,dH,eO⟩ eI.z gA jL gB::Rs.ow fD ⟨cJ,bZ,cK⟩ eI.z fG iY fH::Rs.ow gy ⟨eM,dI,eP⟩ eI.z gC jM gD::Rs.ow gz ⟨eN,dJ,eQ⟩ eI.z gE jN gF::Rs.blk ac [.i bH,.i bk,.sl ⟨cY,cb,cZ⟩,.i bJ,.i bz,.sl ⟨eL,dH,eO⟩,.i bl,.i bh,.sl ⟨cJ,bZ,cK⟩,.i bA,.i bB,.sl ⟨eM,dI,eP⟩,.i bV,.i bC,.sl ⟨eN,dJ,eQ⟩,.bool aG]::R0) λR=>CR eI H R iX eu/\CR eI H R jL gi/\CR eI H R iY dK/\CR eI H R jM gj/\CR eI H R jN gk) {r:Bool×Bool×List Int×List Int×List Int×List Int×List Int×Bool} (hp:bs.p F bH bk eu bz gi bl bh dK bA bB gj bC gk aG ah=some r):Rt (bs.tw F ac 0 ah H) (bs.Q H (Rs.ow fC ⟨cY,cb,cZ⟩ eI.z fE iX fF::Rs.ow gw ⟨eL,dH,eO⟩ eI.z gA jL gB::Rs.ow fD ⟨cJ,bZ,cK⟩ eI.z fG iY fH::Rs.ow gy ⟨eM,dI,eP⟩ eI.z gC jM gD::Rs.ow gz ⟨eN,dJ,eQ⟩ eI.z gE jN gF::Rs.blk ac [.i bH,.i bk,.sl ⟨cY,cb,cZ⟩,.i bJ,.i bz,.sl ⟨eL,dH,eO⟩,.i bl,.i bh,.sl ⟨cJ,bZ,cK⟩,.i bA,.i bB,.sl ⟨eM,dI,eP⟩,.i bV,.i bC,.sl ⟨eN,dJ,eQ⟩,.bool aG]::R0) R0 bH bk bJ bz bl bh bA bB bV bC cY eL cJ eM eN cb dH bZ dI dJ ac cZ eO cK eP eQ fC gw fD gy gz fE fF gA gB fG fH gC gD gE gF r):=by
 obtain ⟨w0,lJ,pf,kE,pg,ph⟩:=h0
 subst nj
 subst qk
 subst lW
 subst ql
 subst qn
 unfold bs.p at hp
 unfold bs.tw bs.twX
 have s0:=w0.rf
 obtain ⟨r1,e1,hp⟩:=aj hp
 refine aP (aF.P rfl rfl rfl rfl rfl ⟨w0,lJ,pf,kE,pg,ph⟩ e1) ?_
 rintro _ H2 ⟨ab0,ab1,ab2,ab3,ab4,rfl,hl2_0,hl2_1,hl2_2,hl2_3,hl2_4,w2,s2,f2_0,f2_1,f2_2,f2_3,f2_4⟩
 refine aa rfl ?_
 refine aM hp (λhp=>?_) λhp=>?_
 ·exact aR hp ⟨_,_,_,_,_,rfl,hl2_0,hl2_1,hl2_2,hl2_3,hl2_4,w2,(s0.trans s2),f2_0,f2_1,f2_2,f2_3,f2_4⟩
 ·exact bs.l29_P F hl2_0 hl2_1 hl2_2 hl2_3 hl2_4 ⟨w2,(s0.trans s2),f2_0,f2_1,f2_2,f2_3,f2_4⟩ hp
def bw.Q (H0:Hp) (Ri R0:List Rs)  (r:Int×Int×List Int×Int×Int×List Int×Int×Int×List Int×Int×Int×List Int×Int×Int×List Int×Bool) (v:AV) (H':Hp):Prop:=∃ o2a:ON,∃ o2n:Nat,∃ o2c:Cap,∃ o2k:List AV,∃ o5a:ON,∃ o5n:Nat,∃ o5c:Cap,∃ o5k:List AV,∃ o8a:ON,∃ o8n:Nat,∃ o8c:Cap,∃ o8k:List AV,∃ o11a:ON,∃ o11n:Nat,∃ o11c:Cap,∃ o11k:List AV,∃ o14a:ON,∃ o14n:Nat,∃ o14c:Cap,∃ o14k:List AV,∃ ob0:Nat,v=(.ptr ob0 0)/\o2n=(r.2.2.1).length/\o5n=(r.2.2.2.2.2.1).length/\o8n=(r.2.2.2.2.2.2.2.2.1).length/\o11n=(r.2.2.2.2.2.2.2.2.2.2.2.1).length/\o14n=(r.2.2.2.2.2.2.2.2.2.2.2.2.2.2.1).length/\Out H0 Ri H' (Rs.own ⟨o2a,o2n,o2c⟩ eI.z o2k::Rs.own ⟨o5a,o5n,o5c⟩ eI.z o5k::Rs.own ⟨o8a,o8n,o8c⟩ eI.z o8k::Rs.own ⟨o11a,o11n,o11c⟩ eI.z o11k::Rs.own ⟨o14a,o14n,o14c⟩ eI.z o14k::Rs.blk ob0 [.i r.1,.i r.2.1,.sl ⟨o2a,o2n,o2c⟩,.i r.2.2.2.1,.i r.2.2.2.2.1,.sl ⟨o5a,o5n,o5c⟩,.i r.2.2.2.2.2.2.1,.i r.2.2.2.2.2.2.2.1,.sl ⟨o8a,o8n,o8c⟩,.i r.2.2.2.2.2.2.2.2.2.1,.i r.2.2.2.2.2.2.2.2.2.2.1,.sl ⟨o11a,o11n,o11c⟩,.i r.2.2.2.2.2.2.2.2.2.2.2.2.1,.i r.2.2.2.2.2.2.2.2.2.2.2.2.2.1,.sl ⟨o14a,o14n,o14c⟩,.bool r.2.2.2.2.2.2.2.2.2.2.2.2.2.2.2]::R0) λR=>CR eI H' R o2k (r.2.2.1)/\CR eI H' R o5k (r.2.2.2.2.2.1)/\CR eI H' R o8k (r.2.2.2.2.2.2.2.2.1)/\CR eI H' R o11k (r.2.2.2.2.2.2.2.2.2.2.2.1)/\CR eI H' R o14k (r.2.2.2.2.2.2.2.2.2.2.2.2.2.2.1)
def bw.S29 (H0:Hp) (Ri R0:List Rs)  (C:Nat->Nat->Nat->Nat->Int->Hp->OA) (pC:Int->Int->Int->Int->List Int->Int->Int->List Int->Int->Int->List Int->Int->Int->List Int->Int->Int->List Int->Bool->Int->Option (Int×Int×List Int×Int×Int×List Int×Int×Int×List Int×Int×Int×List Int×Int×Int×List Int×Bool)):Prop:=∀ {vV vW zD zE zF zG zH zI zJ zK zL zM oD:Int} {Jo Jp Jq Jr Js Jt:ON} {Ef pG Eg Eh Ei Ej Ek pZ:Nat} {Ju Jv Jw Jx Jy Jz:Cap} {JA vX vY vZ v_ wa:List Int} {JB JC JD JE JF:List AV} {zN:Bool},∀ {H:Hp},Ef=JA.length->Eg=vX.length->Eh=vY.length->Ei=vZ.length->Ej=v_.length->Ek=wa.length->(Out H0 Ri H (Rs.blk pG [.i vV,.i vW,.sl ⟨Jo,Ef,Ju⟩]::Rs.own ⟨Jp,Eg,Jv⟩ eI.z JB::Rs.own ⟨Jq,Eh,Jw⟩ eI.z JC::Rs.own ⟨Jr,Ei,Jx⟩ eI.z JD::Rs.own ⟨Js,Ej,Jy⟩ eI.z JE::Rs.own ⟨Jt,Ek,Jz⟩ eI.z JF::Rs.blk pZ [.i zD,.i zE,.sl ⟨Jp,Eg,Jv⟩,.i zF,.i zG,.sl ⟨Jq,Eh,Jw⟩,.i zH,.i zI,.sl ⟨Jr,Ei,Jx⟩,.i zJ,.i zK,.sl ⟨Js,Ej,Jy⟩,.i zL,.i zM,.sl ⟨Jt,Ek,Jz⟩,.bool zN]::R0) λR=>ROs eI H R ⟨Jo,Ef,Ju⟩ JA/\CR eI H R JB vX/\CR eI H R JC vY/\CR eI H R JD vZ/\CR eI H R JE v_/\CR eI H R JF wa)->∀ {r:Int×Int×List Int×Int×Int×List Int×Int×Int×List Int×Int×Int×List Int×Int×Int×List Int×Bool},pC vV vW zD zE vX zF zG vY zH zI vZ zJ zK v_ zL zM wa zN oD=some r->Rt (C pG 0 pZ 0 oD H) (bw.Q H0 Ri R0  r)
def bw.S938 (H0:Hp) (Ri R0:List Rs)  (C:Nat->Nat->Nat->Nat->Int->Bool->Bool->Hp->OA) (pC:Int->Int->Int->Int->List Int->Int->Int->List Int->Int->Int->List Int->Int->Int->List Int->Int->Int->List Int->Bool->Int->Bool->Bool->Option (Int×Int×List Int×Int×Int×List Int×Int×Int×List Int×Int×Int×List Int×Int×Int×List Int×Bool)):Prop:=∀ {wb wc un uo wd uq ur ut uu uv wg uw mq:Int} {JG JH JI JJ JK JL:ON} {El pE Em En Er Es Et oB:Nat} {JM JN JO JP JQ JR:Cap} {JS ux uy uz uA uB:List Int} {JT JU JV JW JX:List AV} {uC pF oC:Bool},∀ {H:Hp},El=JS.length->Em=ux.length->En=uy.length->Er=uz.length->Es=uA.length->Et=uB.length->(Out H0 Ri H (Rs.blk pE [.i wb,.i wc,.sl ⟨JG,El,JM⟩]::Rs.own ⟨JH,Em,JN⟩ eI.z JT::Rs.own ⟨JI,En,JO⟩ eI.z JU::Rs.own ⟨JJ,Er,JP⟩ eI.z JV::Rs.own ⟨JK,Es,JQ⟩ eI.z JW::Rs.own ⟨JL,Et,JR⟩ eI.z JX::Rs.blk oB [.i un,.i uo,.sl ⟨JH,Em,JN⟩,.i wd,.i uq,.sl ⟨JI,En,JO⟩,.i ur,.i ut,.sl ⟨JJ,Er,JP⟩,.i uu,.i uv,.sl ⟨JK,Es,JQ⟩,.i wg,.i uw,.sl ⟨JL,Et,JR⟩,.bool uC]::R0) λR=>ROs eI H R ⟨JG,El,JM⟩ JS/\CR eI H R JT ux/\CR eI H R JU uy/\CR eI H R JV uz/\CR eI H R JW uA/\CR eI H R JX uB)->∀ {r:Int×Int×List Int×Int×Int×List Int×Int×Int×List Int×Int×Int×List Int×Int×Int×List Int×Bool},pC wb wc un uo ux wd uq uy ur ut uz uu uv uA wg uw uB uC mq pF oC=some r->Rt (C pE 0 oB 0 mq pF oC H) (bw.Q H0 Ri R0  r)
def bw.pj3 (F:Nat) (ff:Int->Int->Int->Int->List Int->Int->Int->List Int->Int->Int->List Int->Int->Int->List Int->Int->Int->List Int->Bool->Int->Option (Int×Int×List Int×Int×Int×List Int×Int×Int×List Int×Int×Int×List Int×Int×Int×List Int×Bool)) (Eu:Int) (Ev:Int) (Ew:Int) (Ex:Int) (BB:List Int) (Ey:Int) (Ez:Int) (BC:List Int) (EA:Int) (EB:Int) (BD:List Int) (EC:Int) (ED:Int) (BE:List Int) (EE:Int) (EF:Int) (BF:List Int) (EG:Bool) (xX:Int):Option (Int×Int×List Int×Int×Int×List Int×Int×Int×List Int×Int×Int×List Int×Int×Int×List Int×Bool):=ff Eu Ev Ew Ex BB Ey Ez BC EA EB BD EC ED BE EE EF BF EG (IntKind.i64.wrap (xX+1))
theorem bw.j3_P  {C29_:Nat->Nat->Nat->Nat->Int->Hp->OA} {ff:Int->Int->Int->Int->List Int->Int->Int->List Int->Int->Int->List Int->Int->Int->List Int->Int->Int->List Int->Bool->Int->Option (Int×Int×List Int×Int×Int×List Int×Int×Int×List Int×Int×Int×List Int×Int×Int×List Int×Bool)} (hC29:bw.S29 H0 Ri R0  C29_ ff) {Eu Ev Ew Ex Ey Ez EA EB EC ED EE EF xX:Int} {Sa Sb Sd Se Sf Sg:ON} {JY CV JZ J_ Ka Kb Kc CW:Nat} {Sh Si Sj Sk Sm Sn:Cap} {So BB BC BD BE BF:List Int} {Sp Sq Sr Ss Su:List AV} {EG:Bool} (ab5:JY=So.length) (ab6:JZ=BB.length) (ab7:J_=BC.length) (ab8:Ka=BD.length) (ab9:Kb=BE.length) (ab_:Kc=BF.length) (h0:Out H0 Ri H (Rs.blk CV [.i Eu,.i Ev,.sl ⟨Sa,JY,Sh⟩]::Rs.own ⟨Sb,JZ,Si⟩ eI.z Sp::Rs.own ⟨Sd,J_,Sj⟩ eI.z Sq::Rs.own ⟨Se,Ka,Sk⟩ eI.z Sr::Rs.own ⟨Sf,Kb,Sm⟩ eI.z Ss::Rs.own ⟨Sg,Kc,Sn⟩ eI.z Su::Rs.blk CW [.i Ew,.i Ex,.sl ⟨Sb,JZ,Si⟩,.i Ey,.i Ez,.sl ⟨Sd,J_,Sj⟩,.i EA,.i EB,.sl ⟨Se,Ka,Sk⟩,.i EC,.i ED,.sl ⟨Sf,Kb,Sm⟩,.i EE,.i EF,.sl ⟨Sg,Kc,Sn⟩,.bool EG]::R0) λR=>ROs eI H R ⟨Sa,JY,Sh⟩ So/\CR eI H R Sp BB/\CR eI H R Sq BC/\CR eI H R Sr BD/\CR eI H R Ss BE/\CR eI H R Su BF) {r:Int×Int×List Int×Int×Int×List Int×Int×Int×List Int×Int×Int×List Int×Int×Int×List Int×Bool} (hp:bw.pj3 F ff Eu Ev Ew Ex BB Ey Ez BC EA EB BD EC ED BE EE EF BF EG xX=some r):Rt (bw.j3 F (dE.tw F) (bs.tw F) C29_ CV 0 CW 0 xX H) (bw.Q H0 Ri R0  r):=by
 obtain ⟨w0,s0,aca,acb,acd,ace,acf,acg⟩:=h0
 subst ab5
 subst ab6
 subst ab7
 subst ab8
 subst ab9
 subst ab_
 unfold bw.pj3 at hp
 unfold bw.j3
 exact hC29 rfl rfl rfl rfl rfl rfl ⟨w0,s0,aca,acb,acd,ace,acf,acg⟩ hp
def bw.pj4 (F:Nat) (ff:Int->Int->Int->Int->List Int->Int->Int->List Int->Int->Int->List Int->Int->Int->List Int->Int->Int->List Int->Bool->Int->Option (Int×Int×List Int×Int×Int×List Int×Int×Int×List Int×Int×Int×List Int×Int×Int×List Int×Bool)) (EH:Int) (EI:Int) (zO:Int) (ui:Int) (wh:List Int) (zP:Int) (zQ:Int) (wi:List Int) (zR:Int) (zS:Int) (wj:List Int) (zT:Int) (zU:Int) (wk:List Int) (zV:Int) (zW:Int) (wl:List Int) (wo:Bool) (tZ:Int) (tU:Bool):Option (Int×Int×List Int×Int×Int×List Int×Int×Int×List Int×Int×Int×List Int×Int×Int×List Int×Bool):=(bif tU then (some (zO,ui,wh,zP,zQ,wi,zR,zS,wj,zT,zU,wk,zV,zW,wl,wo)) else ((bif wo then (some (zO,ui,wh,zP,zQ,wi,zR,zS,wj,zT,zU,wk,zV,zW,wl,wo)) else (bw.pj3 F ff EH EI zO ui wh zP zQ wi zR zS wj zT zU wk zV zW wl wo tZ))))
theorem bw.j4_P  {C29_:Nat->Nat->Nat->Nat->Int->Hp->OA} {ff:Int->Int->Int->Int->List Int->Int->Int->List Int->Int->Int->List Int->Int->Int->List Int->Int->Int->List Int->Bool->Int->Option (Int×Int×List Int×Int×Int×List Int×Int×Int×List Int×Int×Int×List Int×Int×Int×List Int×Bool)} (hC29:bw.S29 H0 Ri R0  C29_ ff) {EH EI zO ui zP zQ zR zS zT zU zV zW tZ:Int} {Sv Sw Sx Sy Sz SA:ON} {Kd pW Ke Kf Kg Kh Ki pr:Nat} {SB SC SD SF SG SH:Cap} {SJ wh wi wj wk wl:List Int} {SK SL SM SN SO:List AV} {wo tU:Bool} (ach:Kd=SJ.length) (aci:Ke=wh.length) (acj:Kf=wi.length) (ack:Kg=wj.length) (acl:Kh=wk.length) (acm:Ki=wl.length) (h0:Out H0 Ri H (Rs.blk pW [.i EH,.i EI,.sl ⟨Sv,Kd,SB⟩]::Rs.own ⟨Sw,Ke,SC⟩ eI.z SK::Rs.own ⟨Sx,Kf,SD⟩ eI.z SL::Rs.own ⟨Sy,Kg,SF⟩ eI.z SM::Rs.own ⟨Sz,Kh,SG⟩ eI.z SN::Rs.own ⟨SA,Ki,SH⟩ eI.z SO::Rs.blk pr [.i zO,.i ui,.sl ⟨Sw,Ke,SC⟩,.i zP,.i zQ,.sl ⟨Sx,Kf,SD⟩,.i zR,.i zS,.sl ⟨Sy,Kg,SF⟩,.i zT,.i zU,.sl ⟨Sz,Kh,SG⟩,.i zV,.i zW,.sl ⟨SA,Ki,SH⟩,.bool wo]::R0) λR=>ROs eI H R ⟨Sv,Kd,SB⟩ SJ/\CR eI H R SK wh/\CR eI H R SL wi/\CR eI H R SM wj/\CR eI H R SN wk/\CR eI H R SO wl) {r:Int×Int×List Int×Int×Int×List Int×Int×Int×List Int×Int×Int×List Int×Int×Int×List Int×Bool} (hp:bw.pj4 F ff EH EI zO ui wh zP zQ wi zR zS wj zT zU wk zV zW wl wo tZ tU=some r):Rt (bw.j4 F (dE.tw F) (bs.tw F) C29_ pW 0 pr 0 tZ tU H) (bw.Q H0 Ri R0  r):=by
 obtain ⟨w0,s0,acn,Kj,Kk,Kl,Km,Ko⟩:=h0
 subst ach
 subst aci
 subst acj
 subst ack
 subst acl
 subst acm
 unfold bw.pj4 at hp
 unfold bw.j4
 refine aM hp (λhp=>?_) λhp=>?_
 ·obtain ⟨w1,s1⟩:=w0.pick' [1,2,3,4,5,6] 7 rfl rfl rfl
  exact aR hp ⟨_,_,_,_,_,_,_,_,_,_,_,_,_,_,_,_,_,_,_,_,_,rfl,rfl,rfl,rfl,rfl,rfl,w1,(s0.trans s1),(Kj.step s1),(Kk.step s1),(Kl.step s1),(Km.step s1),(Ko.step s1)⟩
 ·refine aa (ns (w0.ld (i:=6) rfl rfl)) ?_
  refine aM hp (λhp=>?_) λhp=>?_
  ·obtain ⟨w2,s2⟩:=w0.pick' [1,2,3,4,5,6] 7 rfl rfl rfl
   exact aR hp ⟨_,_,_,_,_,_,_,_,_,_,_,_,_,_,_,_,_,_,_,_,_,rfl,rfl,rfl,rfl,rfl,rfl,w2,(s0.trans s2),(Kj.step s2),(Kk.step s2),(Kl.step s2),(Km.step s2),(Ko.step s2)⟩
  ·exact bw.j3_P (@hC29) rfl rfl rfl rfl rfl rfl ⟨w0,s0,acn,Kj,Kk,Kl,Km,Ko⟩ hp
def bw.pl938 (F:Nat) (ff:Int->Int->Int->Int->List Int->Int->Int->List Int->Int->Int->List Int->Int->Int->List Int->Int->Int->List Int->Bool->Int->Option (Int×Int×List Int×Int×Int×List Int×Int×Int×List Int×Int×Int×List Int×Int×Int×List Int×Bool)):Nat->Int->Int->Int->Int->List Int->Int->Int->List Int->Int->Int->List Int->Int->Int->List Int->Int->Int->List Int->Bool->Int->Bool->Bool->Option (Int×Int×List Int×Int×Int×List Int×Int×Int×List Int×Int×Int×List Int×Int×Int×List Int×Bool)
 | 0,_,_,_,_,_,_,_,_,_,_,_,_,_,_,_,_,_,_,_,_,_=>none
 | k+1,wb,wc,un,uo,ux,wd,uq,uy,ur,ut,uz,uu,uv,uA,wg,uw,uB,uC,mq,pF,oC=>(bif (!pF) then ((bif (!uC) then ((bs.p F un uo ux uq uy ur ut uz uu uv uA uw uB uC mq).bind λr2=>bw.pl938 F ff k wb wc un uo r2.2.2.1 wd uq r2.2.2.2.1 ur ut r2.2.2.2.2.1 uu uv r2.2.2.2.2.2.1 wg uw r2.2.2.2.2.2.2.1 r2.2.2.2.2.2.2.2 mq r2.1 r2.2.1) else (bw.pj4 F ff wb wc un uo ux wd uq uy ur ut uz uu uv uA wg uw uB uC mq oC))) else (bw.pj4 F ff wb wc un uo ux wd uq uy ur ut uz uu uv uA wg uw uB uC mq oC))
theorem bw.l938_P  {C29_:Nat->Nat->Nat->Nat->Int->Hp->OA} {ff:Int->Int->Int->Int->List Int->Int->Int->List Int->Int->Int->List Int->Int->Int->List Int->Int->Int->List Int->Bool->Int->Option (Int×Int×List Int×Int×Int×List Int×Int×Int×List Int×Int×Int×List Int×Int×Int×List Int×Bool)} (hC29:bw.S29 H0 Ri R0  C29_ ff):∀ k,bw.S938 H0 Ri R0  (bw.l938 F (dE.tw F) (bs.tw F) C29_ k) (bw.pl938 F ff k):=by
 intro k
 induction k with
 | zero=>unfold bw.S938;intros;rename_i hp;cases hp
 | succ k ih=>
  intro wb wc un uo wd uq ur ut uu uv wg uw mq JG JH JI JJ JK JL El pE Em En Er Es Et oB JM JN JO JP JQ JR JS ux uy uz uA uB JT JU JV JW JX uC pF oC H aco acp acq acr acs act h0 r hp
  obtain ⟨w0,s0,Kp,Kq,Ks,Kt,Ku,Kv⟩:=h0
  subst aco
  subst acp
  subst acq
  subst acr
  subst acs
  subst act
  unfold bw.pl938 at hp
  unfold bw.l938
  refine aM hp (λhp=>?_) λhp=>?_
  ·refine aa (ns (w0.ld (i:=6) rfl rfl)) ?_
   refine aM hp (λhp=>?_) λhp=>?_
   ·obtain ⟨w1,s1⟩:=w0.pick' [1,2,3,4,5,6,0] 7 rfl rfl rfl
    obtain ⟨r2,e2,hp⟩:=aj hp
    refine aP (bs.P rfl rfl rfl rfl rfl ⟨w1,(Kq.step s1),(Ks.step s1),(Kt.step s1),(Ku.step s1),(Kv.step s1)⟩ e2) ?_
    rintro _ H3 ⟨agO,agP,agQ,agR,agS,rfl,hl3_0,hl3_1,hl3_2,hl3_3,hl3_4,w3,s3,f3_0,f3_1,f3_2,f3_3,f3_4⟩
    refine aa rfl ?_
    refine aa rfl ?_
    refine aa rfl ?_
    refine aa rfl ?_
    refine aa rfl ?_
    obtain ⟨w4,s4⟩:=w3.pick' [6,0,1,2,3,4,5] 7 rfl rfl rfl
    exact ih rfl hl3_0 hl3_1 hl3_2 hl3_3 hl3_4 ⟨w4,(s0.trans (s1.trans (s3.trans s4))),(Kp.step (s1.trans (s3.trans s4))),(f3_0.step s4),(f3_1.step s4),(f3_2.step s4),(f3_3.step s4),(f3_4.step s4)⟩ hp
   ·exact bw.j4_P (@hC29) rfl rfl rfl rfl rfl rfl ⟨w0,s0,Kp,Kq,Ks,Kt,Ku,Kv⟩ hp
  ·exact bw.j4_P (@hC29) rfl rfl rfl rfl rfl rfl ⟨w0,s0,Kp,Kq,Ks,Kt,Ku,Kv⟩ hp
def bw.pl29 (F:Nat) :Nat->Int->Int->Int->Int->List Int->Int->Int->List Int->Int->Int->List Int->Int->Int->List Int->Int->Int->List Int->Bool->Int->Option (Int×Int×List Int×Int×Int×List Int×Int×Int×List Int×Int×Int×List Int×Int×Int×List Int×Bool)
 | 0,_,_,_,_,_,_,_,_,_,_,_,_,_,_,_,_,_,_,_=>none
 | k+1,vV,vW,zD,zE,vX,zF,zG,vY,zH,zI,vZ,zJ,zK,v_,zL,zM,wa,zN,oD=>(bif (decide (oD<(if vW<vV then vW else vV))) then (bw.pl938 F (bw.pl29 F k) F vV vW zD zE vX zF zG vY zH zI vZ zJ zK v_ zL zM wa zN oD false false) else (some (zD,zE,vX,zF,zG,vY,zH,zI,vZ,zJ,zK,v_,zL,zM,wa,zN)))
theorem bw.l29_P  :∀ k,bw.S29 H0 Ri R0  (bw.l29 F (dE.tw F) (bs.tw F)  k) (bw.pl29 F  k):=by
 intro k
 induction k with
 | zero=>unfold bw.S29;intros;rename_i hp;cases hp
 | succ k ih=>
  intro vV vW zD zE zF zG zH zI zJ zK zL zM oD Jo Jp Jq Jr Js Jt Ef pG Eg Eh Ei Ej Ek pZ Ju Jv Jw Jx Jy Jz JA vX vY vZ v_ wa JB JC JD JE JF zN H acu acv acw acx acy acz h0 r hp
  obtain ⟨w0,s0,acA,SP,SQ,SU,SV,SW⟩:=h0
  subst acu
  subst acv
  subst acw
  subst acx
  subst acy
  subst acz
  unfold bw.pl29 at hp
  unfold bw.l29
  refine aa (af (w0.ld (i:=0) rfl rfl)) ?_
  refine aa (af (w0.ld (i:=0) rfl rfl)) ?_
  refine aM hp (λhp=>?_) λhp=>?_
  ·exact bw.l938_P (@ih) F rfl rfl rfl rfl rfl rfl ⟨w0,s0,acA,SP,SQ,SU,SV,SW⟩ hp
  ·obtain ⟨w1,s1⟩:=w0.pick' [1,2,3,4,5,6] 7 rfl rfl rfl
   exact aR hp ⟨_,_,_,_,_,_,_,_,_,_,_,_,_,_,_,_,_,_,_,_,_,rfl,rfl,rfl,rfl,rfl,rfl,w1,(s0.trans s1),(SP.step s1),(SQ.step s1),(SU.step s1),(SV.step s1),(SW.step s1)⟩
def bw.p (F:Nat) (ac:Int) (ae:Int) (eB:List Int):Option (Int×Int×List Int×Int×Int×List Int×Int×Int×List Int×Int×Int×List Int×Int×Int×List Int×Bool):=(apn ([]:List Int) eB).bind λl4=>(dE.p F ac).bind λr7=>(dE.p F ac).bind λr10=>(dE.p F ae).bind λr13=>(dE.p F ae).bind λr16=>bw.pl29 F F ac ae ac ae l4 r7.1 r7.2.1 r7.2.2 r10.1 r10.2.1 r10.2.2 r13.1 r13.2.1 r13.2.2 r16.1 r16.2.1 r16.2.2 false 0
theorem bw.P {ac ae:Int} {ft:ON} {eK:Nat} {fu:Cap} {eB:List Int} (lU:eK=eB.length) (h0:Inn H R0 λR=>ROs eI H R ⟨ft,eK,fu⟩ eB) {r:Int×Int×List Int×Int×Int×List Int×Int×Int×List Int×Int×Int×List Int×Int×Int×List Int×Bool} (hp:bw.p F ac ae eB=some r):Rt (bw.tw F ac ae ⟨ft,eK,fu⟩ H) (bw.Q H R0 R0  r):=by
 obtain ⟨w0,kN⟩:=h0
 subst lU
 unfold bw.p at hp
 unfold bw.tw bw.twX
 have s0:=w0.rf
 refine bR w0 λH1 w1 s1=>?_
 refine aa (af (w1.ld (i:=0) rfl rfl)) ?_
 refine aa (af (w1.ld (i:=0) rfl rfl)) ?_
 refine lL eI w1 (n:=0) (l:=([]:List Int)) rfl CR.empty rfl λH2 w2 s2 c2=>?_
 refine aa (az (w2.ld (i:=1) rfl rfl)) ?_
 obtain ⟨x3,h3,c3⟩:=(kN.step (s1.trans s2)).row rfl
 refine aa h3 ?_
 obtain ⟨l4,e4,hp⟩:=aj hp
 refine qp eI w2 (i:=0) rfl rfl c2 c3 rfl rfl e4 λa5 d5 H5 w5 s5 c5 x5=>?_
 refine fO (x5 ⟨_,rfl⟩) ?_
 refine aa (af (w5.ld (i:=1) rfl rfl)) ?_
 obtain ⟨r7,e7,hp⟩:=aj hp
 refine aP (dE.P ⟨w5,trivial⟩ e7) ?_
 rintro _ H8 ⟨o2a_8,o2n_8,o2c_8,o2k_8,rfl,rfl,w8,s8,f8_0⟩
 refine aa rfl ?_
 refine aa rfl ?_
 refine aa rfl ?_
 refine aa rfl ?_
 refine aa rfl ?_
 refine aa rfl ?_
 refine aa rfl ?_
 refine fO (W.cons_of (Rn:=[_]) w5 w8 s8) ?_
 refine aa (af (w8.ld (i:=2) rfl rfl)) ?_
 obtain ⟨r10,e10,hp⟩:=aj hp
 refine aP (dE.P ⟨w8,trivial⟩ e10) ?_
 rintro _ H11 ⟨o2a_11,o2n_11,o2c_11,o2k_11,rfl,rfl,w11,s11,f11_0⟩
 refine aa rfl ?_
 refine aa rfl ?_
 refine aa rfl ?_
 refine aa rfl ?_
 refine aa rfl ?_
 refine aa rfl ?_
 refine aa rfl ?_
 refine fO (W.cons_of (Rn:=[_]) w8 w11 s11) ?_
 refine aa (af (w11.ld (i:=3) rfl rfl)) ?_
 obtain ⟨r13,e13,hp⟩:=aj hp
 refine aP (dE.P ⟨w11,trivial⟩ e13) ?_
 rintro _ H14 ⟨o2a_14,o2n_14,o2c_14,o2k_14,rfl,rfl,w14,s14,f14_0⟩
 refine aa rfl ?_
 refine aa rfl ?_
 refine aa rfl ?_
 refine aa rfl ?_
 refine aa rfl ?_
 refine aa rfl ?_
 refine aa rfl ?_
 refine fO (W.cons_of (Rn:=[_]) w11 w14 s14) ?_
 refine aa (af (w14.ld (i:=4) rfl rfl)) ?_
 obtain ⟨r16,e16,hp⟩:=aj hp
 refine aP (dE.P ⟨w14,trivial⟩ e16) ?_
 rintro _ H17 ⟨o2a_17,o2n_17,o2c_17,o2k_17,rfl,rfl,w17,s17,f17_0⟩
 refine aa rfl ?_
 refine aa rfl ?_
 refine aa rfl ?_
 refine aa rfl ?_
 refine aa rfl ?_
 refine aa rfl ?_
 refine aa rfl ?_
 refine fO (W.cons_of (Rn:=[_]) w14 w17 s17) ?_
 refine bR w17 λH19 w19 s19=>?_
 obtain ⟨w20,s20⟩:=w19.pick' [6,5,4,3,2,1,0] 7 rfl rfl rfl
 exact bw.l29_P F rfl rfl rfl rfl rfl rfl ⟨w20,(s0.trans (s1.trans (s2.trans (s5.trans (s8.trans (s11.trans (s14.trans (s17.trans (s19.trans s20))))))))),(kN.step (s1.trans (s2.trans (s5.trans (s8.trans (s11.trans (s14.trans (s17.trans (s19.trans s20))))))))),(c5.step (s8.trans (s11.trans (s14.trans (s17.trans (s19.trans s20)))))),(f8_0.step (s11.trans (s14.trans (s17.trans (s19.trans s20))))),(f11_0.step (s14.trans (s17.trans (s19.trans s20)))),(f14_0.step (s17.trans (s19.trans s20))),(f17_0.step (s19.trans s20))⟩ hp
def b_.Q (H0:Hp) (Ri R0:List Rs)  (r:List Int×Bool) (v:AV) (H':Hp):Prop:=∃ o0a:ON,∃ o0n:Nat,∃ o0c:Cap,∃ o0k:List AV,v=(.tup [(.sl ⟨o0a,o0n,o0c⟩),(.bool r.2)])/\o0n=(r.1).length/\Out H0 Ri H' (Rs.own ⟨o0a,o0n,o0c⟩ eI.z o0k::R0) λR=>CR eI H' R o0k (r.1)
def b_.S61 (H0:Hp) (Ri R0:List Rs)  (C:Nat->Nat->Nat->Nat->Sl->Int->Hp->OA) (pC:Int->Int->Int->List Int->Bool->List Int->Int->Option (List Int×Bool)):Prop:=∀ {uD uE SX wq SY SZ S_ Ta Tc Td Te Tf gf:Int} {Kw Ky Kz KA KB KC KD:ON} {EJ oZ EK EL EM EN EO e_ EP:Nat} {KE KF KG KH KI KJ KK:Cap} {KL uF KM KN KO KP tB:List Int} {KQ KR KS KT KU KV:List AV} {tC:Bool},∀ {H:Hp},EJ=KL.length->EK=uF.length->EL=KM.length->EM=KN.length->EN=KO.length->EO=KP.length->EP=tB.length->(Out H0 Ri H (Rs.blk oZ [.i uD,.i uE,.sl ⟨Kw,EJ,KE⟩]::Rs.own ⟨Ky,EK,KF⟩ eI.z KQ::Rs.own ⟨Kz,EL,KG⟩ eI.z KR::Rs.own ⟨KA,EM,KH⟩ eI.z KS::Rs.own ⟨KB,EN,KI⟩ eI.z KT::Rs.own ⟨KC,EO,KJ⟩ eI.z KU::Rs.blk e_ [.i SX,.i wq,.sl ⟨Ky,EK,KF⟩,.i SY,.i SZ,.sl ⟨Kz,EL,KG⟩,.i S_,.i Ta,.sl ⟨KA,EM,KH⟩,.i Tc,.i Td,.sl ⟨KB,EN,KI⟩,.i Te,.i Tf,.sl ⟨KC,EO,KJ⟩,.bool tC]::Rs.own ⟨KD,EP,KK⟩ eI.z KV::R0) λR=>ROs eI H R ⟨Kw,EJ,KE⟩ KL/\CR eI H R KQ uF/\CR eI H R KR KM/\CR eI H R KS KN/\CR eI H R KT KO/\CR eI H R KU KP/\CR eI H R KV tB)->∀ {r:List Int×Bool},pC uD uE wq uF tC tB gf=some r->Rt (C oZ 0 e_ 0 ⟨KD,EP,KK⟩ gf H) (b_.Q H0 Ri R0  r)
def b_.pj3 (F:Nat) (ch:Int->Int->Int->List Int->Bool->List Int->Int->Option (List Int×Bool)) (EQ:Int) (ER:Int) (ES:Int) (BG:List Int) (ET:Bool) (BH:List Int) (xY:Int):Option (List Int×Bool):=ch EQ ER ES BG ET BH (IntKind.i64.wrap (xY+1))
theorem b_.j3_P  {C61_:Nat->Nat->Nat->Nat->Sl->Int->Hp->OA} {ch:Int->Int->Int->List Int->Bool->List Int->Int->Option (List Int×Bool)} (hC61:b_.S61 H0 Ri R0  C61_ ch) {EQ ER acB ES acC acD acE acF acG acH acI acJ xY:Int} {Tg Th Ti Tj Tk Tl Tn:ON} {KW CY KX KY KZ K_ La CZ Lb:Nat} {To Tp Tq Ts Tt Tu Tv:Cap} {Tw BG Tx Ty Tz TA BH:List Int} {TC TE TF TG TH TJ:List AV} {ET:Bool} (acK:KW=Tw.length) (acL:KX=BG.length) (acM:KY=Tx.length) (acN:KZ=Ty.length) (acO:K_=Tz.length) (acP:La=TA.length) (acQ:Lb=BH.length) (h0:Out H0 Ri H (Rs.blk CY [.i EQ,.i ER,.sl ⟨Tg,KW,To⟩]::Rs.own ⟨Th,KX,Tp⟩ eI.z TC::Rs.own ⟨Ti,KY,Tq⟩ eI.z TE::Rs.own ⟨Tj,KZ,Ts⟩ eI.z TF::Rs.own ⟨Tk,K_,Tt⟩ eI.z TG::Rs.own ⟨Tl,La,Tu⟩ eI.z TH::Rs.blk CZ [.i acB,.i ES,.sl ⟨Th,KX,Tp⟩,.i acC,.i acD,.sl ⟨Ti,KY,Tq⟩,.i acE,.i acF,.sl ⟨Tj,KZ,Ts⟩,.i acG,.i acH,.sl ⟨Tk,K_,Tt⟩,.i acI,.i acJ,.sl ⟨Tl,La,Tu⟩,.bool ET]::Rs.own ⟨Tn,Lb,Tv⟩ eI.z TJ::R0) λR=>ROs eI H R ⟨Tg,KW,To⟩ Tw/\CR eI H R TC BG/\CR eI H R TE Tx/\CR eI H R TF Ty/\CR eI H R TG Tz/\CR eI H R TH TA/\CR eI H R TJ BH) {r:List Int×Bool} (hp:b_.pj3 F ch EQ ER ES BG ET BH xY=some r):Rt (b_.j3 F (bw.tw F) (bD.tw F) C61_ CY 0 CZ 0 ⟨Tn,Lb,Tv⟩ xY H) (b_.Q H0 Ri R0  r):=by
 obtain ⟨w0,s0,acR,acS,acT,acU,acV,acW,acX⟩:=h0
 subst acK
 subst acL
 subst acM
 subst acN
 subst acO
 subst acP
 subst acQ
 unfold b_.pj3 at hp
 unfold b_.j3
 exact hC61 rfl rfl rfl rfl rfl rfl rfl ⟨w0,s0,acR,acS,acT,acU,acV,acW,acX⟩ hp
def b_.pj2 (F:Nat)  (EU:Bool) (BI:List Int):Option (List Int×Bool):=some (BI,(!EU))
theorem b_.j2_P   {acY acZ ac0 ac1 ac2 ac3 ac4 ac5 ac6 ac7:Int} {TK TL TN TO TP TQ:ON} {Lc Ld Le Lf Lg CX Lh:Nat} {TT TU TV TW TX TY:Cap} {TZ T_ Ua Ub Uc BI:List Int} {Ud Ue Uf Ug Uh Ui:List AV} {EU:Bool} (ac8:Lc=TZ.length) (ac9:Ld=T_.length) (ac_:Le=Ua.length) (ada:Lf=Ub.length) (adb:Lg=Uc.length) (adc:Lh=BI.length) (h0:Out H0 Ri H (Rs.own ⟨TK,Lc,TT⟩ eI.z Ud::Rs.own ⟨TL,Ld,TU⟩ eI.z Ue::Rs.own ⟨TN,Le,TV⟩ eI.z Uf::Rs.own ⟨TO,Lf,TW⟩ eI.z Ug::Rs.own ⟨TP,Lg,TX⟩ eI.z Uh::Rs.blk CX [.i acY,.i acZ,.sl ⟨TK,Lc,TT⟩,.i ac0,.i ac1,.sl ⟨TL,Ld,TU⟩,.i ac2,.i ac3,.sl ⟨TN,Le,TV⟩,.i ac4,.i ac5,.sl ⟨TO,Lf,TW⟩,.i ac6,.i ac7,.sl ⟨TP,Lg,TX⟩,.bool EU]::Rs.own ⟨TQ,Lh,TY⟩ eI.z Ui::R0) λR=>CR eI H R Ud TZ/\CR eI H R Ue T_/\CR eI H R Uf Ua/\CR eI H R Ug Ub/\CR eI H R Uh Uc/\CR eI H R Ui BI) {r:List Int×Bool} (hp:b_.pj2 F  EU BI=some r):Rt (b_.j2 F (bw.tw F) (bD.tw F)  CX 0 ⟨TQ,Lh,TY⟩ H) (b_.Q H0 Ri R0  r):=by
 obtain ⟨w0,s0,agT,agU,agV,agW,agX,ade⟩:=h0
 subst ac8
 subst ac9
 subst ac_
 subst ada
 subst adb
 subst adc
 unfold b_.pj2 at hp
 unfold b_.j2
 refine aa (ns (w0.ld (i:=5) rfl rfl)) ?_
 obtain ⟨w1,s1⟩:=w0.pick' [6] 7 rfl rfl rfl
 exact aR hp ⟨_,_,_,_,rfl,rfl,w1,(s0.trans s1),(ade.step s1)⟩
def b_.pl61 (F:Nat) :Nat->Int->Int->Int->List Int->Bool->List Int->Int->Option (List Int×Bool)
 | 0,_,_,_,_,_,_,_=>none
 | k+1,uD,uE,wq,uF,tC,tB,gf=>(bif (decide (gf<(if uE<uD then uE else uD))) then ((bif (!tC) then ((bD.p F wq uF gf gf).bind λr3=>(bif (r3 != 0) then ((apn tB ([r3]:List Int)).bind λl7=>b_.pj3 F (b_.pl61 F k) uD uE wq uF tC l7 gf) else (b_.pj3 F (b_.pl61 F k) uD uE wq uF tC tB gf))) else (b_.pj2 F tC tB))) else (b_.pj2 F tC tB))
theorem b_.l61_P  :∀ k,b_.S61 H0 Ri R0  (b_.l61 F (bw.tw F) (bD.tw F)  k) (b_.pl61 F  k):=by
 intro k
 induction k with
 | zero=>unfold b_.S61;intros;rename_i hp;cases hp
 | succ k ih=>
  intro uD uE SX wq SY SZ S_ Ta Tc Td Te Tf gf Kw Ky Kz KA KB KC KD EJ oZ EK EL EM EN EO e_ EP KE KF KG KH KI KJ KK KL uF KM KN KO KP tB KQ KR KS KT KU KV tC H adf adg adh adi adj adk adl h0 r hp
  obtain ⟨w0,s0,Uj,BJ,EV,EW,EY,EZ,E_⟩:=h0
  subst adf
  subst adg
  subst adh
  subst adi
  subst adj
  subst adk
  subst adl
  unfold b_.pl61 at hp
  unfold b_.l61
  refine aa (af (w0.ld (i:=0) rfl rfl)) ?_
  refine aa (af (w0.ld (i:=0) rfl rfl)) ?_
  refine aM hp (λhp=>?_) λhp=>?_
  ·refine aa (ns (w0.ld (i:=6) rfl rfl)) ?_
   refine aM hp (λhp=>?_) λhp=>?_
   ·refine aa (af (w0.ld (i:=6) rfl rfl)) ?_
    refine aa (af (w0.ld (i:=6) rfl rfl)) ?_
    refine aa (az (w0.ld (i:=6) rfl rfl)) ?_
    obtain ⟨w1,s1⟩:=w0.pick' [1,0,2,3,4,5,6,7] 8 rfl rfl rfl
    have f2:=W.borrow1 eI w1 (BJ.step s1)
    obtain ⟨w2,s2⟩:=w1.right1
    obtain ⟨r3,e3,hp⟩:=aj hp
    refine aP (bD.P rfl ⟨w2,f2⟩ e3) ?_
    rintro _ H4 ⟨rfl,w4,s4,_⟩
    obtain ⟨w5,s5⟩:=W.frame1 w1 w4 s4
    refine aa rfl ?_
    refine aM hp (λhp=>?_) λhp=>?_
    ·refine lL eI w5 (n:=1) (l:=([r3]:List Int)) rfl (CR.cons1 rfl CR.empty) rfl λH6 w6 s6 c6=>?_
     refine aa (w6.rowo (i:=0) rfl) ?_
     obtain ⟨l7,e7,hp⟩:=aj hp
     refine qp eI w6 (i:=8) rfl rfl (E_.step (s1.trans (s5.trans s6))) c6 (show 1=List.length ([r3]:List Int) from rfl) rfl e7 λa8 d8 H8 w8 s8 c8 x8=>?_
     obtain ⟨w9,s9⟩:=w8.pick' [2,1,3,4,5,6,7,8] 9 rfl rfl rfl
     exact b_.j3_P (@ih) rfl rfl rfl rfl rfl rfl rfl ⟨w9,(s0.trans (s1.trans (s5.trans (s6.trans (s8.trans s9))))),(Uj.step (s1.trans (s5.trans (s6.trans (s8.trans s9))))),(BJ.step (s1.trans (s5.trans (s6.trans (s8.trans s9))))),(EV.step (s1.trans (s5.trans (s6.trans (s8.trans s9))))),(EW.step (s1.trans (s5.trans (s6.trans (s8.trans s9))))),(EY.step (s1.trans (s5.trans (s6.trans (s8.trans s9))))),(EZ.step (s1.trans (s5.trans (s6.trans (s8.trans s9))))),(c8.step s9)⟩ hp
    ·obtain ⟨w10,s10⟩:=w5.pick' [1,0,2,3,4,5,6,7] 8 rfl rfl rfl
     exact b_.j3_P (@ih) rfl rfl rfl rfl rfl rfl rfl ⟨w10,(s0.trans (s1.trans (s5.trans s10))),(Uj.step (s1.trans (s5.trans s10))),(BJ.step (s1.trans (s5.trans s10))),(EV.step (s1.trans (s5.trans s10))),(EW.step (s1.trans (s5.trans s10))),(EY.step (s1.trans (s5.trans s10))),(EZ.step (s1.trans (s5.trans s10))),(E_.step (s1.trans (s5.trans s10)))⟩ hp
   ·obtain ⟨w11,s11⟩:=w0.pick' [1,2,3,4,5,6,7] 8 rfl rfl rfl
    exact b_.j2_P rfl rfl rfl rfl rfl rfl ⟨w11,(s0.trans s11),(BJ.step s11),(EV.step s11),(EW.step s11),(EY.step s11),(EZ.step s11),(E_.step s11)⟩ hp
  ·obtain ⟨w12,s12⟩:=w0.pick' [1,2,3,4,5,6,7] 8 rfl rfl rfl
   exact b_.j2_P rfl rfl rfl rfl rfl rfl ⟨w12,(s0.trans s12),(BJ.step s12),(EV.step s12),(EW.step s12),(EY.step s12),(EZ.step s12),(E_.step s12)⟩ hp
def b_.p (F:Nat) (ac:Int) (ae:Int) (eB:List Int):Option (List Int×Bool):=(bw.p F ac ae eB).bind λr2=>b_.pl61 F F ac ae r2.2.1 r2.2.2.1 r2.2.2.2.2.2.2.2.2.2.2.2.2.2.2.2 ([]:List Int) 0
theorem b_.P {ac ae:Int} {ft:ON} {eK:Nat} {fu:Cap} {eB:List Int} (lU:eK=eB.length) (h0:Inn H R0 λR=>ROs eI H R ⟨ft,eK,fu⟩ eB) {r:List Int×Bool} (hp:b_.p F ac ae eB=some r):Rt (b_.tw F ac ae ⟨ft,eK,fu⟩ H) (b_.Q H R0 R0  r):=by
 obtain ⟨w0,kN⟩:=h0
 subst lU
 unfold b_.p at hp
 unfold b_.tw b_.twX
 have s0:=w0.rf
 refine bR w0 λH1 w1 s1=>?_
 refine aa (af (w1.ld (i:=0) rfl rfl)) ?_
 refine aa (af (w1.ld (i:=0) rfl rfl)) ?_
 refine aa (az (w1.ld (i:=0) rfl rfl)) ?_
 obtain ⟨r2,e2,hp⟩:=aj hp
 refine aP (bw.P rfl ⟨w1,(kN.step s1)⟩ e2) ?_
 rintro _ H3 ⟨o2a_3,o2n_3,o2c_3,o2k_3,o5a_3,o5n_3,o5c_3,o5k_3,o8a_3,o8n_3,o8c_3,o8k_3,o11a_3,o11n_3,o11c_3,o11k_3,o14a_3,o14n_3,o14c_3,o14k_3,ob0_3,rfl,rfl,rfl,rfl,rfl,rfl,w3,s3,f3_0,f3_1,f3_2,f3_3,f3_4⟩
 refine aa rfl ?_
 refine lL eI w3 (n:=0) (l:=([]:List Int)) rfl CR.empty rfl λH4 w4 s4 c4=>?_
 obtain ⟨w5,s5⟩:=w4.pick' [7,1,2,3,4,5,6,0] 8 rfl rfl rfl
 exact b_.l61_P F rfl rfl rfl rfl rfl rfl (show 0=List.length ([]:List Int) from rfl) ⟨w5,(s0.trans (s1.trans (s3.trans (s4.trans s5)))),(kN.step (s1.trans (s3.trans (s4.trans s5)))),(f3_0.step (s4.trans s5)),(f3_1.step (s4.trans s5)),(f3_2.step (s4.trans s5)),(f3_3.step (s4.trans s5)),(f3_4.step (s4.trans s5)),(c4.step s5)⟩ hp
def eA.Q (H0:Hp) (Ri R0:List Rs)  (r:Int) (v:AV) (H':Hp):Prop:=v=(.i r)/\Out H0 Ri H' (R0) λR=>True
def eA.S6 (H0:Hp) (Ri R0:List Rs)  (C:Int->Int->Hp->OA) (pC:Int->Int->Option (Int)):Prop:=∀ {eS jc:Int},∀ {H:Hp},(Out H0 Ri H R0 λR=>True)->∀ {r:Int},pC eS jc=some r->Rt (C eS jc H) (eA.Q H0 Ri R0  r)
def eA.pl6 (F:Nat) :Nat->Int->Int->Option (Int)
 | 0,_,_=>none
 | k+1,eS,jc=>(bif (decide (jc>0)) then ((if jc=0 then none else (eA.pl6 F k jc (Int.tmod eS jc)))) else (some eS))
theorem eA.l6_P  :∀ k,eA.S6 H0 Ri R0  (eA.l6 F   k) (eA.pl6 F  k):=by
 intro k
 induction k with
 | zero=>unfold eA.S6;intros;rename_i hp;cases hp
 | succ k ih=>
  intro eS jc H h0 r hp
  obtain ⟨w0,s0,_⟩:=h0
  unfold eA.pl6 at hp
  unfold eA.l6
  refine aM hp (λhp=>?_) λhp=>?_
  ·obtain ⟨g1,hp⟩:=su hp
   refine sv g1 ?_
   exact ih ⟨w0,s0,trivial⟩ hp
  ·exact aR hp ⟨rfl,w0,s0,trivial⟩
def eA.p (F:Nat) (ac:Int) (ap:Int):Option (Int):=eA.pl6 F F ac ap
theorem eA.P {ac ap:Int}  (h0:Inn H R0 λR=>True) {r:Int} (hp:eA.p F ac ap=some r):Rt (eA.tw F ac ap H) (eA.Q H R0 R0  r):=by
 obtain ⟨w0,_⟩:=h0
 unfold eA.p at hp
 unfold eA.tw eA.twX
 have s0:=w0.rf
 exact eA.l6_P F ⟨w0,s0,trivial⟩ hp
def cW.Q (H0:Hp) (Ri R0:List Rs)  (r:Int×Int) (v:AV) (H':Hp):Prop:=v=(.tup [(.i r.1),(.i r.2)])/\Out H0 Ri H' (R0) λR=>True
def cW.S1021 (H0:Hp) (Ri R0:List Rs)  (C:Int->Nat->Nat->Sl->Int->Int->Hp->OA) (pC:Int->Int->List Int->Int->Int->Option (Int×Int)):Prop:=∀ {mr Uk wt nD lx:Int} {Li Lj:ON} {Fa pH Fb:Nat} {Lk Ll:Cap} {Lm sf:List Int} {Ln Lo:List AV},∀ {H:Hp},Fa=Lm.length->Fb=sf.length->(Out H0 Ri H (Rs.own ⟨Li,Fa,Lk⟩ eI.z Ln::Rs.blk pH [.i Uk,.i wt,.sl ⟨Li,Fa,Lk⟩]::Rs.own ⟨Lj,Fb,Ll⟩ eI.z Lo::R0) λR=>CR eI H R Ln Lm/\CR eI H R Lo sf)->∀ {r:Int×Int},pC mr wt sf nD lx=some r->Rt (C mr pH 0 ⟨Lj,Fb,Ll⟩ nD lx H) (cW.Q H0 Ri R0  r)
def cW.pj2 (F:Nat) (Fc:Int->Int->List Int->Int->Int->Option (Int×Int)) (xZ:Int) (Fd:Int) (BK:List Int) (x_:Int) (ya:Int) (yb:Int):Option (Int×Int):=(gH.p F x_ yb 1000000000000).bind λr1=>(bif (!r1.2) then (some (0,3)) else (Fc xZ Fd BK r1.1 (IntKind.i64.wrap (ya+1))))
theorem cW.j2_P  {C1021_:Int->Nat->Nat->Sl->Int->Int->Hp->OA} {Fc:Int->Int->List Int->Int->Int->Option (Int×Int)} (hC1021:cW.S1021 H0 Ri R0  C1021_ Fc) {xZ adm Fd x_ ya yb:Int} {Ul Um:ON} {Lp C_ Lq:Nat} {Un Uo:Cap} {Up BK:List Int} {Uq Ur:List AV} (adn:Lp=Up.length) (ado:Lq=BK.length) (h0:Out H0 Ri H (Rs.own ⟨Ul,Lp,Un⟩ eI.z Uq::Rs.blk C_ [.i adm,.i Fd,.sl ⟨Ul,Lp,Un⟩]::Rs.own ⟨Um,Lq,Uo⟩ eI.z Ur::R0) λR=>CR eI H R Uq Up/\CR eI H R Ur BK) {r:Int×Int} (hp:cW.pj2 F Fc xZ Fd BK x_ ya yb=some r):Rt (cW.j2 F (gW.tw F) (fv.tw F) (dS.tw F) (b_.tw F) (eA.tw F) (gH.tw F) C1021_ xZ C_ 0 ⟨Um,Lq,Uo⟩ x_ ya yb H) (cW.Q H0 Ri R0  r):=by
 obtain ⟨w0,s0,adp,adq⟩:=h0
 subst adn
 subst ado
 unfold cW.pj2 at hp
 unfold cW.j2
 obtain ⟨r1,e1,hp⟩:=aj hp
 refine aP (gH.P ⟨w0,trivial⟩ e1) ?_
 rintro _ H2 ⟨rfl,w2,s2,_⟩
 refine aa rfl ?_
 refine aa rfl ?_
 refine aa rfl ?_
 refine aa rfl ?_
 refine aa rfl ?_
 refine aM hp (λhp=>?_) λhp=>?_
 ·obtain ⟨w3,s3⟩:=w2.pick' [] 3 rfl rfl rfl
  exact aR hp ⟨rfl,w3,(s0.trans (s2.trans s3)),trivial⟩
 ·exact hC1021 rfl rfl ⟨w2,(s0.trans s2),(adp.step s2),(adq.step s2)⟩ hp
def cW.pl1021 (F:Nat) :Nat->Int->Int->List Int->Int->Int->Option (Int×Int)
 | 0,_,_,_,_,_=>none
 | k+1,mr,wt,sf,nD,lx=>(bif (decide (lx<wt)) then ((bif (decide (lx<(sf.length:Int))) then ((ix sf lx).bind λn1=>(eA.p F mr (gt sf n1)).bind λr2=>cW.pj2 F (cW.pl1021 F k) mr wt sf nD lx r2) else (cW.pj2 F (cW.pl1021 F k) mr wt sf nD lx mr))) else (some (nD,0)))
theorem cW.l1021_P  :∀ k,cW.S1021 H0 Ri R0  (cW.l1021 F (gW.tw F) (fv.tw F) (dS.tw F) (b_.tw F) (eA.tw F) (gH.tw F)  k) (cW.pl1021 F  k):=by
 intro k
 induction k with
 | zero=>unfold cW.S1021;intros;rename_i hp;cases hp
 | succ k ih=>
  intro mr Uk wt nD lx Li Lj Fa pH Fb Lk Ll Lm sf Ln Lo H ads adt h0 r hp
  obtain ⟨w0,s0,Us,Lr⟩:=h0
  subst ads
  subst adt
  unfold cW.pl1021 at hp
  unfold cW.l1021
  refine aa (af (w0.ld (i:=1) rfl rfl)) ?_
  refine aM hp (λhp=>?_) λhp=>?_
  ·refine aM hp (λhp=>?_) λhp=>?_
   ·obtain ⟨n1,g1,hp⟩:=aj hp
    obtain ⟨p1,q1,i1,h1,j1⟩:=W.ixo (E:=eI) w0 (i:=2) rfl rfl Lr g1
    refine aa i1 ?_
    have h1:_=[_]:=h1
    subst h1
    refine aa (af (j1 0 _ rfl)) ?_
    obtain ⟨r2,e2,hp⟩:=aj hp
    refine aP (eA.P ⟨w0,trivial⟩ e2) ?_
    rintro _ H3 ⟨rfl,w3,s3,_⟩
    refine aa rfl ?_
    exact cW.j2_P (@ih) rfl rfl ⟨w3,(s0.trans s3),(Us.step s3),(Lr.step s3)⟩ hp
   ·exact cW.j2_P (@ih) rfl rfl ⟨w0,s0,Us,Lr⟩ hp
  ·obtain ⟨w4,s4⟩:=w0.pick' [] 3 rfl rfl rfl
   exact aR hp ⟨rfl,w4,(s0.trans s4),trivial⟩
def cW.p (F:Nat) (aq:List (Int×Int×Int×Int×Int)) (ae:Int) (ah:Int):Option (Int×Int):=(gW.p F aq ae).bind λr2=>(bif (!r2) then (some (0,1)) else ((fv.p F ah 1 30).bind λr5=>(bif (!r5) then (some (0,2)) else ((dS.p F aq ae).bind λr8=>(b_.p F r8.1 r8.2.1 r8.2.2).bind λr16=>(bif (!r16.2) then (some (0,3)) else (cW.pl1021 F F ah r8.2.1 r16.1 1 0))))))
theorem cW.P {bF:ON} {aX:Nat} {bG:Cap} {aq:List (Int×Int×Int×Int×Int)} {ae ah:Int} (cT:aX=aq.length) (h0:Inn H R0 λR=>ROs (ai eI (ai eI (ai eI (ai eI eI)))) H R ⟨bF,aX,bG⟩ aq) {r:Int×Int} (hp:cW.p F aq ae ah=some r):Rt (cW.tw F ⟨bF,aX,bG⟩ ae ah H) (cW.Q H R0 R0  r):=by
 obtain ⟨w0,cF⟩:=h0
 subst cT
 unfold cW.p at hp
 unfold cW.tw cW.twX
 have s0:=w0.rf
 refine bR w0 λH1 w1 s1=>?_
 refine aa (az (w1.ld (i:=0) rfl rfl)) ?_
 refine aa (af (w1.ld (i:=0) rfl rfl)) ?_
 obtain ⟨r2,e2,hp⟩:=aj hp
 refine aP (gW.P rfl ⟨w1,(cF.step s1)⟩ e2) ?_
 rintro _ H3 ⟨rfl,w3,s3,_⟩
 refine aa rfl ?_
 refine aM hp (λhp=>?_) λhp=>?_
 ·obtain ⟨w4,s4⟩:=w3.pick' [] 1 rfl rfl rfl
  exact aR hp ⟨rfl,w4,(s0.trans (s1.trans (s3.trans s4))),trivial⟩
 ·obtain ⟨r5,e5,hp⟩:=aj hp
  refine aP (fv.P ⟨w3,trivial⟩ e5) ?_
  rintro _ H6 ⟨rfl,w6,s6,_⟩
  refine aa rfl ?_
  refine aM hp (λhp=>?_) λhp=>?_
  ·obtain ⟨w7,s7⟩:=w6.pick' [] 1 rfl rfl rfl
   exact aR hp ⟨rfl,w7,(s0.trans (s1.trans (s3.trans (s6.trans s7)))),trivial⟩
  ·refine aa (az (w6.ld (i:=0) rfl rfl)) ?_
   refine aa (af (w6.ld (i:=0) rfl rfl)) ?_
   obtain ⟨r8,e8,hp⟩:=aj hp
   refine aP (dS.P rfl ⟨w6,(cF.step (s1.trans (s3.trans s6)))⟩ e8) ?_
   rintro _ H9 ⟨o2a_9,o2n_9,o2c_9,o2k_9,rfl,rfl,w9,s9,f9_0⟩
   refine aa rfl ?_
   refine aa rfl ?_
   refine aa rfl ?_
   refine aa rfl ?_
   refine aa rfl ?_
   refine aa rfl ?_
   refine aa rfl ?_
   refine bR w9 λH10 w10 s10=>?_
   refine aL w10 (i:=0) rfl rfl rfl λH11 w11 s11=>?_
   refine aL w11 (i:=0) rfl rfl rfl λH12 w12 s12=>?_
   refine aL w12 (i:=0) rfl rfl rfl λH13 w13 s13=>?_
   refine aa (af (w13.ld (i:=0) rfl rfl)) ?_
   refine aa (af (w13.ld (i:=0) rfl rfl)) ?_
   refine aa (az (w13.ld (i:=0) rfl rfl)) ?_
   obtain ⟨w14,s14⟩:=w13.pick' [1,0,2] 3 rfl rfl rfl
   have f15:=W.borrow1 eI w14 (f9_0.step (s10.trans (s11.trans (s12.trans (s13.trans s14)))))
   obtain ⟨w15,s15⟩:=w14.right1
   obtain ⟨r16,e16,hp⟩:=aj hp
   refine aP (b_.P rfl ⟨w15,f15⟩ e16) ?_
   rintro _ H17 ⟨o0a_17,o0n_17,o0c_17,o0k_17,rfl,rfl,w17,s17,f17_0⟩
   obtain ⟨w18,s18⟩:=W.frame1 w14 w17 s17
   refine aa rfl ?_
   refine aa rfl ?_
   refine aa rfl ?_
   refine aa rfl ?_
   refine aa rfl ?_
   refine aM hp (λhp=>?_) λhp=>?_
   ·obtain ⟨w19,s19⟩:=w18.pick' [] 4 rfl rfl rfl
    exact aR hp ⟨rfl,w19,(s0.trans (s1.trans (s3.trans (s6.trans (s9.trans (s10.trans (s11.trans (s12.trans (s13.trans (s14.trans (s18.trans s19))))))))))),trivial⟩
   ·obtain ⟨w20,s20⟩:=w18.pick' [0,2,1] 4 rfl rfl rfl
    exact cW.l1021_P F rfl rfl ⟨w20,(s0.trans (s1.trans (s3.trans (s6.trans (s9.trans (s10.trans (s11.trans (s12.trans (s13.trans (s14.trans (s18.trans s20))))))))))),(f9_0.step (s10.trans (s11.trans (s12.trans (s13.trans (s14.trans (s18.trans s20))))))),((CR.flat (tL .i64) f17_0).step s20)⟩ hp
def eV.Q (H0:Hp) (Ri R0:List Rs)  (r:Int) (v:AV) (H':Hp):Prop:=v=(.i r)/\Out H0 Ri H' (R0) λR=>True
def eV.p (F:Nat) (aq:List (Int×Int×Int×Int×Int)):Option (Int):=some (aq.length:Int)
theorem eV.P {bF:ON} {aX:Nat} {bG:Cap} {aq:List (Int×Int×Int×Int×Int)} (cT:aX=aq.length) (h0:Inn H R0 λR=>ROs (ai eI (ai eI (ai eI (ai eI eI)))) H R ⟨bF,aX,bG⟩ aq) {r:Int} (hp:eV.p F aq=some r):Rt (eV.tw F ⟨bF,aX,bG⟩ H) (eV.Q H R0 R0  r):=by
 obtain ⟨w0,cF⟩:=h0
 subst cT
 unfold eV.p at hp
 unfold eV.tw eV.twX
 have s0:=w0.rf
 exact aR hp ⟨rfl,w0,s0,trivial⟩
def gr.Q (H0:Hp) (Ri R0:List Rs)  (r:Bool) (v:AV) (H':Hp):Prop:=v=(.bool r)/\Out H0 Ri H' (R0) λR=>True
def gr.p (F:Nat) (ac:Int) (ap:Int) (de:Int):Option (Bool):=(bif (decide (ap<=ac)) then (some (decide (ac<=de))) else (some false))
theorem gr.P {ac ap de:Int}  (h0:Inn H R0 λR=>True) {r:Bool} (hp:gr.p F ac ap de=some r):Rt (gr.tw F ac ap de H) (gr.Q H R0 R0  r):=by
 obtain ⟨w0,_⟩:=h0
 unfold gr.p at hp
 unfold gr.tw gr.twX
 have s0:=w0.rf
 refine aM hp (λhp=>?_) λhp=>?_
 ·exact aR hp ⟨rfl,w0,s0,trivial⟩
 ·exact aR hp ⟨rfl,w0,s0,trivial⟩
def jC.Q (H0:Hp) (Ri R0:List Rs)  (r:Bool) (v:AV) (H':Hp):Prop:=v=(.bool r)/\Out H0 Ri H' (R0) λR=>True
def jC.p (F:Nat) (cH:Int):Option (Bool):=(bif (cH != 1) then (some (cH != (-1))) else (some false))
theorem jC.P {ac ae aK cL cH:Int}  (h0:Inn H R0 λR=>True) {r:Bool} (hp:jC.p F cH=some r):Rt (jC.tw F ac ae aK cL cH H) (jC.Q H R0 R0  r):=by
 obtain ⟨w0,_⟩:=h0
 unfold jC.p at hp
 unfold jC.tw jC.twX
 have s0:=w0.rf
 refine bR w0 λH1 w1 s1=>?_
 refine aa (af (w1.ld (i:=0) rfl rfl)) ?_
 refine aM hp (λhp=>?_) λhp=>?_
 ·refine aa (af (w1.ld (i:=0) rfl rfl)) ?_
  obtain ⟨w2,s2⟩:=w1.pick' [] 1 rfl rfl rfl
  exact aR hp ⟨rfl,w2,(s0.trans (s1.trans s2)),trivial⟩
 ·obtain ⟨w3,s3⟩:=w1.pick' [] 1 rfl rfl rfl
  exact aR hp ⟨rfl,w3,(s0.trans (s1.trans s3)),trivial⟩
def eC.Q (H0:Hp) (Ri R0:List Rs)  (r:Int) (v:AV) (H':Hp):Prop:=v=(.i r)/\Out H0 Ri H' (R0) λR=>True
def eC.S13 (H0:Hp) (Ri R0:List Rs)  (C:Sl->Int->Int->Hp->OA) (pC:List (Int×Int×Int×Int×Int)->Int->Int->Option (Int)):Prop:=∀ {wu:ON} {tD:Nat} {wv:Cap} {n_:List (Int×Int×Int×Int×Int)} {iA gu:Int},∀ {H:Hp},tD=n_.length->(Out H0 Ri H R0 λR=>ROs (ai eI (ai eI (ai eI (ai eI eI)))) H R ⟨wu,tD,wv⟩ n_)->∀ {r:Int},pC n_ iA gu=some r->Rt (C ⟨wu,tD,wv⟩ iA gu H) (eC.Q H0 Ri R0  r)
def eC.pl13 (F:Nat) :Nat->List (Int×Int×Int×Int×Int)->Int->Int->Option (Int)
 | 0,_,_,_=>none
 | k+1,n_,iA,gu=>(bif (decide (gu<iA)) then ((ix n_ gu).bind λn1=>(jC.p F ((gt n_ n1).2.2.2.2)).bind λr2=>(bif r2 then (some gu) else (eC.pl13 F k n_ iA (IntKind.i64.wrap (gu+1))))) else (some (-1)))
theorem eC.l13_P  :∀ k,eC.S13 H0 Ri R0  (eC.l13 F (jC.tw F)  k) (eC.pl13 F  k):=by
 intro k
 induction k with
 | zero=>unfold eC.S13;intros;rename_i hp;cases hp
 | succ k ih=>
  intro wu tD wv n_ iA gu H Lt h0 r hp
  obtain ⟨w0,s0,BL⟩:=h0
  subst Lt
  unfold eC.pl13 at hp
  unfold eC.l13
  refine aM hp (λhp=>?_) λhp=>?_
  ·obtain ⟨n1,g1,hp⟩:=aj hp
   obtain ⟨p1,q1,i1,h1,j1⟩:=ROs.ixr BL rfl g1
   refine aa i1 ?_
   obtain ⟨_,_,rfl,rfl,_,_,rfl,rfl,_,_,rfl,rfl,_,_,rfl,rfl,rfl⟩:=h1
   refine aa (af (j1 0 _ rfl)) ?_
   refine aa (af (j1 1 _ rfl)) ?_
   refine aa (af (j1 2 _ rfl)) ?_
   refine aa (af (j1 3 _ rfl)) ?_
   refine aa (af (j1 4 _ rfl)) ?_
   obtain ⟨r2,e2,hp⟩:=aj hp
   refine aP (jC.P ⟨w0,trivial⟩ e2) ?_
   rintro _ H3 ⟨rfl,w3,s3,_⟩
   refine aa rfl ?_
   refine aM hp (λhp=>?_) λhp=>?_
   ·exact aR hp ⟨rfl,w3,(s0.trans s3),trivial⟩
   ·exact ih rfl ⟨w3,(s0.trans s3),(BL.step s3)⟩ hp
  ·exact aR hp ⟨rfl,w0,s0,trivial⟩
def eC.p (F:Nat) (aq:List (Int×Int×Int×Int×Int)):Option (Int):=eC.pl13 F F aq (aq.length:Int) 0
theorem eC.P {bF:ON} {aX:Nat} {bG:Cap} {aq:List (Int×Int×Int×Int×Int)} (cT:aX=aq.length) (h0:Inn H R0 λR=>ROs (ai eI (ai eI (ai eI (ai eI eI)))) H R ⟨bF,aX,bG⟩ aq) {r:Int} (hp:eC.p F aq=some r):Rt (eC.tw F ⟨bF,aX,bG⟩ H) (eC.Q H R0 R0  r):=by
 obtain ⟨w0,cF⟩:=h0
 subst cT
 unfold eC.p at hp
 unfold eC.tw eC.twX
 have s0:=w0.rf
 exact eC.l13_P F rfl ⟨w0,s0,cF⟩ hp
def jl.Q (H0:Hp) (Ri R0:List Rs)  (r:Bool) (v:AV) (H':Hp):Prop:=v=(.bool r)/\Out H0 Ri H' (R0) λR=>True
def jl.p (F:Nat) (aq:List (Int×Int×Int×Int×Int)):Option (Bool):=(eC.p F aq).bind λr1=>some (decide (r1>=0))
theorem jl.P {bF:ON} {aX:Nat} {bG:Cap} {aq:List (Int×Int×Int×Int×Int)} (cT:aX=aq.length) (h0:Inn H R0 λR=>ROs (ai eI (ai eI (ai eI (ai eI eI)))) H R ⟨bF,aX,bG⟩ aq) {r:Bool} (hp:jl.p F aq=some r):Rt (jl.tw F ⟨bF,aX,bG⟩ H) (jl.Q H R0 R0  r):=by
 obtain ⟨w0,cF⟩:=h0
 subst cT
 unfold jl.p at hp
 unfold jl.tw jl.twX
 have s0:=w0.rf
 obtain ⟨r1,e1,hp⟩:=aj hp
 refine aP (eC.P rfl ⟨w0,cF⟩ e1) ?_
 rintro _ H2 ⟨rfl,w2,s2,_⟩
 refine aa rfl ?_
 exact aR hp ⟨rfl,w2,(s0.trans s2),trivial⟩
def bits_Mul64.Q (H0:Hp) (Ri R0:List Rs)  (r:Int×Int) (v:AV) (H':Hp):Prop:=v=(.tup [(.int .u64 r.1),(.int .u64 r.2)])/\Out H0 Ri H' (R0) λR=>True
def bits_Mul64.p (F:Nat) (ac:Int) (ap:Int):Option (Int×Int):=some ((IntKind.u64.wrap ((IntKind.u64.wrap ((IntKind.u64.wrap ((Int.fdiv ac (2 ^ (min (32:Int).toNat (IntKind.u64).bits))) * (Int.fdiv ap (2 ^ (min (32:Int).toNat (IntKind.u64).bits)))))+(Int.fdiv (IntKind.u64.wrap ((IntKind.u64.wrap ((Int.fdiv ac (2 ^ (min (32:Int).toNat (IntKind.u64).bits))) * (Go.bits .and .u64 ap 4294967295)))+(Int.fdiv (IntKind.u64.wrap ((Go.bits .and .u64 ac 4294967295) * (Go.bits .and .u64 ap 4294967295))) (2 ^ (min (32:Int).toNat (IntKind.u64).bits))))) (2 ^ (min (32:Int).toNat (IntKind.u64).bits)))))+(Int.fdiv (IntKind.u64.wrap ((Go.bits .and .u64 (IntKind.u64.wrap ((IntKind.u64.wrap ((Int.fdiv ac (2 ^ (min (32:Int).toNat (IntKind.u64).bits))) * (Go.bits .and .u64 ap 4294967295)))+(Int.fdiv (IntKind.u64.wrap ((Go.bits .and .u64 ac 4294967295) * (Go.bits .and .u64 ap 4294967295))) (2 ^ (min (32:Int).toNat (IntKind.u64).bits))))) 4294967295)+(IntKind.u64.wrap ((Go.bits .and .u64 ac 4294967295) * (Int.fdiv ap (2 ^ (min (32:Int).toNat (IntKind.u64).bits))))))) (2 ^ (min (32:Int).toNat (IntKind.u64).bits))))),(IntKind.u64.wrap (ac * ap)))
theorem bits_Mul64.P {ac ap:Int}  (h0:Inn H R0 λR=>True) {r:Int×Int} (hp:bits_Mul64.p F ac ap=some r):Rt (bits_Mul64.tw F ac ap H) (bits_Mul64.Q H R0 R0  r):=by
 obtain ⟨w0,_⟩:=h0
 unfold bits_Mul64.p at hp
 unfold bits_Mul64.tw bits_Mul64.twX
 have s0:=w0.rf
 exact aR hp ⟨rfl,w0,s0,trivial⟩
def bits_Mul.Q (H0:Hp) (Ri R0:List Rs)  (r:Int×Int) (v:AV) (H':Hp):Prop:=v=(.tup [(.int .u64 r.1),(.int .u64 r.2)])/\Out H0 Ri H' (R0) λR=>True
def bits_Mul.p (F:Nat) (ac:Int) (ap:Int):Option (Int×Int):=(bits_Mul64.p F ac ap).bind λr1=>some (r1.1,r1.2)
theorem bits_Mul.P {ac ap:Int}  (h0:Inn H R0 λR=>True) {r:Int×Int} (hp:bits_Mul.p F ac ap=some r):Rt (bits_Mul.tw F ac ap H) (bits_Mul.Q H R0 R0  r):=by
 obtain ⟨w0,_⟩:=h0
 unfold bits_Mul.p at hp
 unfold bits_Mul.tw bits_Mul.twX
 have s0:=w0.rf
 obtain ⟨r1,e1,hp⟩:=aj hp
 refine aP (bits_Mul64.P ⟨w0,trivial⟩ e1) ?_
 rintro _ H2 ⟨rfl,w2,s2,_⟩
 refine aa rfl ?_
 refine aa rfl ?_
 refine aa rfl ?_
 refine aa rfl ?_
 refine aa rfl ?_
 exact aR hp ⟨rfl,w2,(s0.trans s2),trivial⟩
def dd.Q (H0:Hp) (Ri R0:List Rs)  (r:(List (Int×Int))) (v:AV) (H':Hp):Prop:=∃ o0a:ON,∃ o0n:Nat,∃ o0k:List AV,v=(.sl ⟨o0a,o0n,.ex o0n⟩)/\o0n=(r).length/\Out H0 Ri H' (Rs.own ⟨o0a,o0n,.ex o0n⟩ (ai eI eI).z o0k::R0) λR=>CR (ai eI eI) H' R o0k (r)
def dd.pj1 (F:Nat)  (zX:List (Int×Int)) (vj:Int):Option ((List (Int×Int))):=(mkn (IntKind.i64.wrap vj) ((0:Int),(0:Int))).bind λl1=>(some (cpl l1 zX)).bind λl3=>(Ar F l3 ((min zX.length l1.length:Nat):Int)).bind λl5=>some l5
theorem dd.j1_P   {Ut:ON} {Lu:Nat} {Uu:Cap} {zX:List (Int×Int)} {vj:Int} (adu:Lu=zX.length) (h0:Out H0 Ri H R0 λR=>ROs (ai eI eI) H R ⟨Ut,Lu,Uu⟩ zX) {r:(List (Int×Int))} (hp:dd.pj1 F  zX vj=some r):Rt (dd.j1 F (bits_Mul.tw F)  ⟨Ut,Lu,Uu⟩ vj H) (dd.Q H0 Ri R0  r):=by
 obtain ⟨w0,s0,adv⟩:=h0
 subst adu
 unfold dd.pj1 at hp
 unfold dd.j1
 obtain ⟨l1,e1,hp⟩:=aj hp
 refine uX (ai eI eI) ((0:Int),(0:Int)) w0 ⟨[_],_,rfl,rfl,rfl⟩ rfl rfl e1 λH2 k2 w2 s2 c2=>?_
 obtain ⟨x3,h3,c3⟩:=(adv.step s2).row (z:=(ai eI eI).z) rfl
 obtain ⟨l3,e3,hp⟩:=aj hp
 refine afH (ai eI eI) w2 (i:=0) rfl rfl c2 h3 c3 rfl rfl e3 λk4 H4 w4 s4 c4=>?_
 obtain ⟨l5,e5,hp⟩:=aj hp
 refine afI (ai eI eI) rfl (L:=dd.l254 F (bits_Mul.tw F)) (λ_ _ _ _=>rfl) w4 (i:=0) rfl c4 e5 λH6 k6 w6 s6 c6=>?_
 dsimp only [List.set] at w6 s6 c6
 exact aR hp ⟨_,_,_,rfl,((afJ e3).symm.trans (afK e5).symm),w6,(s0.trans (s2.trans (s4.trans s6))),c6⟩
def dd.pj2 (F:Nat)  (zY:List (Int×Int)) (yd:Int):Option ((List (Int×Int))):=(bits_Mul.p F (IntKind.u64.wrap (zY.length:Int)) (IntKind.u64.wrap yd)).bind λr1=>(bif (decide (r1.1>0)) then (none) else ((bif (decide (r1.2>9223372036854775807)) then (none) else (dd.pj1 F zY r1.2))))
theorem dd.j2_P   {Uv:ON} {Lv:Nat} {Uw:Cap} {zY:List (Int×Int)} {yd:Int} (adw:Lv=zY.length) (h0:Out H0 Ri H R0 λR=>ROs (ai eI eI) H R ⟨Uv,Lv,Uw⟩ zY) {r:(List (Int×Int))} (hp:dd.pj2 F  zY yd=some r):Rt (dd.j2 F (bits_Mul.tw F)  ⟨Uv,Lv,Uw⟩ yd H) (dd.Q H0 Ri R0  r):=by
 obtain ⟨w0,s0,adx⟩:=h0
 subst adw
 unfold dd.pj2 at hp
 unfold dd.j2
 obtain ⟨r1,e1,hp⟩:=aj hp
 refine aP (bits_Mul.P ⟨w0,trivial⟩ e1) ?_
 rintro _ H2 ⟨rfl,w2,s2,_⟩
 refine aa rfl ?_
 refine aa rfl ?_
 refine aa rfl ?_
 refine aa rfl ?_
 refine aa rfl ?_
 refine aM hp (λhp=>?_) λhp=>?_
 ·cases hp
 ·refine aM hp (λhp=>?_) λhp=>?_
  ·cases hp
  ·exact dd.j1_P rfl ⟨w2,(s0.trans s2),(adx.step s2)⟩ hp
def dd.p (F:Nat) (aq:List (Int×Int)) (ap:Int):Option ((List (Int×Int))):=(bif (decide (ap<0)) then (none) else (dd.pj2 F aq ap))
theorem dd.P {bF:ON} {aX:Nat} {bG:Cap} {aq:List (Int×Int)} {ap:Int} (cT:aX=aq.length) (h0:Inn H R0 λR=>ROs (ai eI eI) H R ⟨bF,aX,bG⟩ aq) {r:(List (Int×Int))} (hp:dd.p F aq ap=some r):Rt (dd.tw F ⟨bF,aX,bG⟩ ap H) (dd.Q H R0 R0  r):=by
 obtain ⟨w0,cF⟩:=h0
 subst cT
 unfold dd.p at hp
 unfold dd.tw dd.twX
 have s0:=w0.rf
 refine aM hp (λhp=>?_) λhp=>?_
 ·cases hp
 ·exact dd.j2_P rfl ⟨w0,s0,cF⟩ hp
def h_.Q (H0:Hp) (Ri R0:List Rs)  (r:Int×Int×Int×Int) (v:AV) (H':Hp):Prop:=v=(.agg [(.i r.1),(.i r.2.1),(.i r.2.2.1),(.i r.2.2.2)])/\Out H0 Ri H' (R0) λR=>True
def h_.p (F:Nat) (ac:Int) (ae:Int) (aK:Int) (cL:Int):Option (Int×Int×Int×Int):=some (ac,ae,aK,cL)
theorem h_.P {ac ae aK cL cH:Int}  (h0:Inn H R0 λR=>True) {r:Int×Int×Int×Int} (hp:h_.p F ac ae aK cL=some r):Rt (h_.tw F ac ae aK cL cH H) (h_.Q H R0 R0  r):=by
 obtain ⟨w0,_⟩:=h0
 unfold h_.p at hp
 unfold h_.tw h_.twX
 have s0:=w0.rf
 refine bR w0 λH1 w1 s1=>?_
 refine bR w1 λH2 w2 s2=>?_
 refine aa (af (w2.ld (i:=1) rfl rfl)) ?_
 refine aa (af (w2.ld (i:=1) rfl rfl)) ?_
 refine aa (af (w2.ld (i:=1) rfl rfl)) ?_
 refine aa (af (w2.ld (i:=1) rfl rfl)) ?_
 refine aL w2 (i:=0) rfl rfl rfl λH3 w3 s3=>?_
 refine aL w3 (i:=0) rfl rfl rfl λH4 w4 s4=>?_
 refine aL w4 (i:=0) rfl rfl rfl λH5 w5 s5=>?_
 refine aL w5 (i:=0) rfl rfl rfl λH6 w6 s6=>?_
 refine aa (af (w6.ld (i:=0) rfl rfl)) ?_
 refine aa (af (w6.ld (i:=0) rfl rfl)) ?_
 refine aa (af (w6.ld (i:=0) rfl rfl)) ?_
 refine aa (af (w6.ld (i:=0) rfl rfl)) ?_
 obtain ⟨w7,s7⟩:=w6.pick' [] 2 rfl rfl rfl
 exact aR hp ⟨rfl,w7,(s0.trans (s1.trans (s2.trans (s3.trans (s4.trans (s5.trans (s6.trans s7))))))),trivial⟩
def ia.Q (H0:Hp) (Ri R0:List Rs)  (r:Bool) (v:AV) (H':Hp):Prop:=v=(.bool r)/\Out H0 Ri H' (R0) λR=>True
def ia.p (F:Nat) (cH:Int) (eJ:Int):Option (Bool):=(bif (eJ==0) then (some true) else (some (eJ==(IntKind.i64.wrap (2+cH)))))
theorem ia.P {ac ae aK cL cH eJ:Int}  (h0:Inn H R0 λR=>True) {r:Bool} (hp:ia.p F cH eJ=some r):Rt (ia.tw F ac ae aK cL cH eJ H) (ia.Q H R0 R0  r):=by
 obtain ⟨w0,_⟩:=h0
 unfold ia.p at hp
 unfold ia.tw ia.twX
 have s0:=w0.rf
 refine bR w0 λH1 w1 s1=>?_
 refine aM hp (λhp=>?_) λhp=>?_
 ·obtain ⟨w2,s2⟩:=w1.pick' [] 1 rfl rfl rfl
  exact aR hp ⟨rfl,w2,(s0.trans (s1.trans s2)),trivial⟩
 ·refine aa (af (w1.ld (i:=0) rfl rfl)) ?_
  obtain ⟨w3,s3⟩:=w1.pick' [] 1 rfl rfl rfl
  exact aR hp ⟨rfl,w3,(s0.trans (s1.trans s3)),trivial⟩
def jX.Q (H0:Hp) (Ri R0:List Rs)  (r:Int) (v:AV) (H':Hp):Prop:=v=(.i r)/\Out H0 Ri H' (R0) λR=>True
def jX.p (F:Nat) (aq:List (Int×Int)):Option (Int):=some (aq.length:Int)
theorem jX.P {bF:ON} {aX:Nat} {bG:Cap} {aq:List (Int×Int)} (cT:aX=aq.length) (h0:Inn H R0 λR=>ROs (ai eI eI) H R ⟨bF,aX,bG⟩ aq) {r:Int} (hp:jX.p F aq=some r):Rt (jX.tw F ⟨bF,aX,bG⟩ H) (jX.Q H R0 R0  r):=by
 obtain ⟨w0,cF⟩:=h0
 subst cT
 unfold jX.p at hp
 unfold jX.tw jX.twX
 have s0:=w0.rf
 exact aR hp ⟨rfl,w0,s0,trivial⟩
def ip.Q (H0:Hp) (Ri R0:List Rs)  (r:Bool) (v:AV) (H':Hp):Prop:=v=(.bool r)/\Out H0 Ri H' (R0) λR=>True
def ip.p (F:Nat) (aq:List (Int×Int)) (ap:Int):Option (Bool):=(jX.p F aq).bind λr1=>(gr.p F ap 0 (IntKind.i64.wrap (r1 - 1))).bind λr3=>some r3
theorem ip.P {bF:ON} {aX:Nat} {bG:Cap} {aq:List (Int×Int)} {ap:Int} (cT:aX=aq.length) (h0:Inn H R0 λR=>ROs (ai eI eI) H R ⟨bF,aX,bG⟩ aq) {r:Bool} (hp:ip.p F aq ap=some r):Rt (ip.tw F ⟨bF,aX,bG⟩ ap H) (ip.Q H R0 R0  r):=by
 obtain ⟨w0,cF⟩:=h0
 subst cT
 unfold ip.p at hp
 unfold ip.tw ip.twX
 have s0:=w0.rf
 obtain ⟨r1,e1,hp⟩:=aj hp
 refine aP (jX.P rfl ⟨w0,cF⟩ e1) ?_
 rintro _ H2 ⟨rfl,w2,s2,_⟩
 refine aa rfl ?_
 obtain ⟨r3,e3,hp⟩:=aj hp
 refine aP (gr.P ⟨w2,trivial⟩ e3) ?_
 rintro _ H4 ⟨rfl,w4,s4,_⟩
 refine aa rfl ?_
 exact aR hp ⟨rfl,w4,(s0.trans (s2.trans s4)),trivial⟩
def bY.Q (H0:Hp) (Ri R0:List Rs)  (r:(List (Int×Int))×(List (Int×Int))×Bool) (v:AV) (H':Hp):Prop:=∃ o0a:ON,∃ o0n:Nat,∃ o0c:Cap,∃ o0k:List AV,∃ o1a:ON,∃ o1n:Nat,∃ o1c:Cap,∃ o1k:List AV,v=(.tup [(.agg [(.sl ⟨o0a,o0n,o0c⟩),(.sl ⟨o1a,o1n,o1c⟩)]),(.bool r.2.2)])/\o0n=(r.1).length/\o1n=(r.2.1).length/\Out H0 Ri H' (Rs.own ⟨o0a,o0n,o0c⟩ (ai eI eI).z o0k::Rs.own ⟨o1a,o1n,o1c⟩ (ai eI eI).z o1k::R0) λR=>CR (ai eI eI) H' R o0k (r.1)/\CR (ai eI eI) H' R o1k (r.2.1)
def bY.S61 (H0:Hp) (Ri R0:List Rs)  (C:Nat->Nat->Nat->Nat->Sl->Int->Int->Hp->OA) (pC:List (Int×Int)->List (Int×Int)->List (Int×Int×Int×Int×Int)->Int->Int->Option ((List (Int×Int))×(List (Int×Int))×Bool)):Prop:=∀ {Lw Lx Ly Lz LA:ON} {Fe Ff oE Fg Fh pJ Fi:Nat} {LB LC LD LE LF:Cap} {LG LI ww wx:List (Int×Int)} {LJ LL LM LN:List AV} {qM:List (Int×Int×Int×Int×Int)} {oF mw:Int},∀ {H:Hp},Fe=LG.length->Ff=LI.length->Fg=ww.length->Fh=wx.length->Fi=qM.length->(Out H0 Ri H (Rs.own ⟨Lw,Fe,LB⟩ (ai eI eI).z LJ::Rs.own ⟨Lx,Ff,LC⟩ (ai eI eI).z LL::Rs.blk oE [.sl ⟨Lw,Fe,LB⟩,.sl ⟨Lx,Ff,LC⟩]::Rs.own ⟨Ly,Fg,LD⟩ (ai eI eI).z LM::Rs.own ⟨Lz,Fh,LE⟩ (ai eI eI).z LN::Rs.blk pJ [.sl ⟨Ly,Fg,LD⟩,.sl ⟨Lz,Fh,LE⟩]::R0) λR=>CR (ai eI eI) H R LJ LG/\CR (ai eI eI) H R LL LI/\CR (ai eI eI) H R LM ww/\CR (ai eI eI) H R LN wx/\ROs (ai eI (ai eI (ai eI (ai eI eI)))) H R ⟨LA,Fi,LF⟩ qM)->∀ {r:(List (Int×Int))×(List (Int×Int))×Bool},pC ww wx qM oF mw=some r->Rt (C oE 0 pJ 0 ⟨LA,Fi,LF⟩ oF mw H) (bY.Q H0 Ri R0  r)
def bY.S3931 (H0:Hp) (Ri R0:List Rs)  (C:Nat->Nat->Nat->Nat->Sl->Int->Int->Nat->Nat->Int->Int->Int->Int->Int->Int->Hp->OA) (pC:List (Int×Int)->List (Int×Int)->List (Int×Int×Int×Int×Int)->Int->Int->Int->Int->Int->Int->Int->Int->Int->Option ((List (Int×Int))×(List (Int×Int))×Bool)):Prop:=∀ {LP LQ LR LS LT:ON} {Fj Fk jd Fl Fm kz Fn nG:Nat} {LU LV LW LX LY:Cap} {LZ L_ oa ob:List (Int×Int)} {Ma Mb Mc Md:List AV} {uG:List (Int×Int×Int×Int×Int)} {nE nF Ux Uy Uz UA wy mv kl kn ko kp ib:Int},∀ {H:Hp},Fj=LZ.length->Fk=L_.length->Fl=oa.length->Fm=ob.length->Fn=uG.length->(Out H0 Ri H (Rs.own ⟨LP,Fj,LU⟩ (ai eI eI).z Ma::Rs.own ⟨LQ,Fk,LV⟩ (ai eI eI).z Mb::Rs.blk jd [.sl ⟨LP,Fj,LU⟩,.sl ⟨LQ,Fk,LV⟩]::Rs.own ⟨LR,Fl,LW⟩ (ai eI eI).z Mc::Rs.own ⟨LS,Fm,LX⟩ (ai eI eI).z Md::Rs.blk kz [.sl ⟨LR,Fl,LW⟩,.sl ⟨LS,Fm,LX⟩]::Rs.blk nG [.i Ux,.i Uy,.i Uz,.i UA,.i wy]::R0) λR=>CR (ai eI eI) H R Ma LZ/\CR (ai eI eI) H R Mb L_/\CR (ai eI eI) H R Mc oa/\CR (ai eI eI) H R Md ob/\ROs (ai eI (ai eI (ai eI (ai eI eI)))) H R ⟨LT,Fn,LY⟩ uG)->∀ {r:(List (Int×Int))×(List (Int×Int))×Bool},pC oa ob uG nE nF wy mv kl kn ko kp ib=some r->Rt (C jd 0 kz 0 ⟨LT,Fn,LY⟩ nE nF nG 0 mv kl kn ko kp ib H) (bY.Q H0 Ri R0  r)
def bY.pl3931 (F:Nat) (ch:List (Int×Int)->List (Int×Int)->List (Int×Int×Int×Int×Int)->Int->Int->Option ((List (Int×Int))×(List (Int×Int))×Bool)):Nat->List (Int×Int)->List (Int×Int)->List (Int×Int×Int×Int×Int)->Int->Int->Int->Int->Int->Int->Int->Int->Int->Option ((List (Int×Int))×(List (Int×Int))×Bool)
 | 0,_,_,_,_,_,_,_,_,_,_,_,_=>none
 | k+1,oa,ob,uG,nE,nF,wy,mv,kl,kn,ko,kp,ib=>(bif (decide (ib<4)) then ((if 0<=ib/\ib<(4:Int) then ((ia.p F wy ib).bind λr2=>(bif r2 then ((ip.p F ob (gt ([kl,kn,ko,kp]:List Int) (ib:Int).toNat)).bind λr6=>(bif (!r6) then (some (oa,ob,false)) else ((ix ob (gt ([kl,kn,ko,kp]:List Int) (ib:Int).toNat)).bind λn12=>(bif (decide (((gt ob n12).1)>=0)) then (some (oa,ob,false)) else ((ix ob (gt ([kl,kn,ko,kp]:List Int) (ib:Int).toNat)).bind λn16=>(some (ob.set n16 (mv,(gt ob n16).2))).bind λl17=>(some (l17.set n16 ((gt l17 n16).1,ib))).bind λl19=>bY.pl3931 F ch k oa l19 uG nE nF wy mv kl kn ko kp (IntKind.i64.wrap (ib+1))))))) else ((ip.p F oa (gt ([kl,kn,ko,kp]:List Int) (ib:Int).toNat)).bind λr24=>(bif (!r24) then (some (oa,ob,false)) else ((ix oa (gt ([kl,kn,ko,kp]:List Int) (ib:Int).toNat)).bind λn30=>(bif (decide (((gt oa n30).1)>=0)) then (some (oa,ob,false)) else ((ix oa (gt ([kl,kn,ko,kp]:List Int) (ib:Int).toNat)).bind λn34=>(some (oa.set n34 (mv,(gt oa n34).2))).bind λl35=>(some (l35.set n34 ((gt l35 n34).1,ib))).bind λl37=>bY.pl3931 F ch k l37 ob uG nE nF wy mv kl kn ko kp (IntKind.i64.wrap (ib+1))))))))) else none)) else (ch oa ob uG nE (IntKind.i64.wrap (nF+1))))
theorem bY.l3931_P  {C61_:Nat->Nat->Nat->Nat->Sl->Int->Int->Hp->OA} {ch:List (Int×Int)->List (Int×Int)->List (Int×Int×Int×Int×Int)->Int->Int->Option ((List (Int×Int))×(List (Int×Int))×Bool)} (hC61:bY.S61 H0 Ri R0  C61_ ch):∀ k,bY.S3931 H0 Ri R0  (bY.l3931 F (dd.tw F) (h_.tw F) (ia.tw F) (ip.tw F) C61_ k) (bY.pl3931 F ch k):=by
 intro k
 induction k with
 | zero=>unfold bY.S3931;intros;rename_i hp;cases hp
 | succ k ih=>
  intro LP LQ LR LS LT Fj Fk jd Fl Fm kz Fn nG LU LV LW LX LY LZ L_ oa ob Ma Mb Mc Md uG nE nF Ux Uy Uz UA wy mv kl kn ko kp ib H ady adz adA adB adD h0 r hp
  obtain ⟨w0,s0,Me,Mf,si,sj,Mg⟩:=h0
  subst ady
  subst adz
  subst adA
  subst adB
  subst adD
  unfold bY.pl3931 at hp
  unfold bY.l3931
  refine aM hp (λhp=>?_) λhp=>?_
  ·obtain ⟨g1,hp⟩:=mS hp
   refine fO g1 ?_
   refine aa (a:=AV.int .i64 (gt ([kl,kn,ko,kp]:List Int) (ib:Int).toNat)) (by rw [Nat.mul_one];exact WW (k:=.i64) (l:=[kl,kn,ko,kp]) rfl (by have:=g1;simp only [List.length_cons,List.length_nil];omega)) ?_
   refine aa rfl ?_
   refine aa (az (w0.ld (i:=5) rfl rfl)) ?_
   refine aa (af (w0.ld (i:=6) rfl rfl)) ?_
   refine aa (af (w0.ld (i:=6) rfl rfl)) ?_
   refine aa (af (w0.ld (i:=6) rfl rfl)) ?_
   refine aa (af (w0.ld (i:=6) rfl rfl)) ?_
   refine aa (af (w0.ld (i:=6) rfl rfl)) ?_
   obtain ⟨r2,e2,hp⟩:=aj hp
   refine aP (ia.P ⟨w0,trivial⟩ e2) ?_
   rintro _ H3 ⟨rfl,w3,s3,_⟩
   refine aa rfl ?_
   refine aM hp (λhp=>?_) λhp=>?_
   ·refine aa (az (w3.ld (i:=5) rfl rfl)) ?_
    obtain ⟨w4,s4⟩:=w3.pick' [4,0,1,2,3,5,6] 7 rfl rfl rfl
    have f5:=W.borrow1 (ai eI eI) w4 (sj.step (s3.trans s4))
    obtain ⟨w5,s5⟩:=w4.right1
    obtain ⟨r6,e6,hp⟩:=aj hp
    refine aP (ip.P rfl ⟨w5,f5⟩ e6) ?_
    rintro _ H7 ⟨rfl,w7,s7,_⟩
    obtain ⟨w8,s8⟩:=W.frame1 w4 w7 s7
    refine aa rfl ?_
    refine aM hp (λhp=>?_) λhp=>?_
    ·refine aa (az (w8.ld (i:=5) rfl rfl)) ?_
     refine aa (az (w8.ld (i:=5) rfl rfl)) ?_
     refine aL w8 (i:=3) rfl rfl rfl λH9 w9 s9=>?_
     refine aL w9 (i:=3) rfl rfl rfl λH10 w10 s10=>?_
     refine aa (az (w10.ld (i:=3) rfl rfl)) ?_
     refine aa (az (w10.ld (i:=3) rfl rfl)) ?_
     obtain ⟨w11,s11⟩:=w10.pick' [4,0] 7 rfl rfl rfl
     exact aR hp ⟨_,_,_,_,_,_,_,_,rfl,rfl,rfl,w11,(s0.trans (s3.trans (s4.trans (s8.trans (s9.trans (s10.trans s11)))))),(si.step (s3.trans (s4.trans (s8.trans (s9.trans (s10.trans s11)))))),(sj.step (s3.trans (s4.trans (s8.trans (s9.trans (s10.trans s11))))))⟩
    ·obtain ⟨n12,g12,hp⟩:=aj hp
     obtain ⟨p12,q12,i12,h12,j12⟩:=W.ixo (E:=(ai eI eI)) w8 (i:=0) rfl rfl (sj.step (s3.trans (s4.trans s8))) g12
     refine aa i12 ?_
     obtain ⟨_,_,rfl,rfl,rfl⟩:=h12
     refine aa (af (j12 0 _ rfl)) ?_
     refine aM hp (λhp=>?_) λhp=>?_
     ·refine aa (az (w8.ld (i:=5) rfl rfl)) ?_
      refine aa (az (w8.ld (i:=5) rfl rfl)) ?_
      refine aL w8 (i:=3) rfl rfl rfl λH13 w13 s13=>?_
      refine aL w13 (i:=3) rfl rfl rfl λH14 w14 s14=>?_
      refine aa (az (w14.ld (i:=3) rfl rfl)) ?_
      refine aa (az (w14.ld (i:=3) rfl rfl)) ?_
      obtain ⟨w15,s15⟩:=w14.pick' [4,0] 7 rfl rfl rfl
      exact aR hp ⟨_,_,_,_,_,_,_,_,rfl,rfl,rfl,w15,(s0.trans (s3.trans (s4.trans (s8.trans (s13.trans (s14.trans s15)))))),(si.step (s3.trans (s4.trans (s8.trans (s13.trans (s14.trans s15)))))),(sj.step (s3.trans (s4.trans (s8.trans (s13.trans (s14.trans s15))))))⟩
     ·obtain ⟨n16,g16,hp⟩:=aj hp
      obtain ⟨p16,q16,i16,h16,j16⟩:=W.ixo (E:=(ai eI eI)) w8 (i:=0) rfl rfl (sj.step (s3.trans (s4.trans s8))) g16
      refine aa i16 ?_
      obtain ⟨l17,e17,hp⟩:=aj hp
      refine gl (ai eI eI) w8 (i:=0) (j:=0) (p:=p16) rfl rfl (sj.step (s3.trans (s4.trans s8))) g16 i16 e17 rfl rfl (λ_ h=>by obtain ⟨_,_,rfl,rfl,rfl⟩:=h;exact ⟨[_],_,rfl,rfl,rfl⟩) λH18 k18 w18 s18 c18=>?_
      obtain ⟨l19,e19,hp⟩:=aj hp
      refine gl (ai eI eI) w18 (i:=0) (j:=1) (p:=p16) rfl rfl c18 (pT g16 (ev e17)) i16 e19 rfl rfl (λ_ h=>by obtain ⟨_,_,rfl,rfl,rfl⟩:=h;exact ⟨[_],_,rfl,rfl,rfl⟩) λH20 k20 w20 s20 c20=>?_
      obtain ⟨w21,s21⟩:=w20.pick' [1,2,3,4,0,5,6] 7 rfl rfl rfl
      exact ih rfl rfl rfl ((ev e17).symm.trans (ev e19).symm) rfl ⟨w21,(s0.trans (s3.trans (s4.trans (s8.trans (s18.trans (s20.trans s21)))))),(Me.step (s3.trans (s4.trans (s8.trans (s18.trans (s20.trans s21)))))),(Mf.step (s3.trans (s4.trans (s8.trans (s18.trans (s20.trans s21)))))),(si.step (s3.trans (s4.trans (s8.trans (s18.trans (s20.trans s21)))))),(c20.step s21),(Mg.step (s3.trans (s4.trans (s8.trans (s18.trans (s20.trans s21))))))⟩ hp
   ·obtain ⟨w22,s22⟩:=w3.pick' [3,0,1,2,4,5,6] 7 rfl rfl rfl
    have f23:=W.borrow1 (ai eI eI) w22 (si.step (s3.trans s22))
    obtain ⟨w23,s23⟩:=w22.right1
    obtain ⟨r24,e24,hp⟩:=aj hp
    refine aP (ip.P rfl ⟨w23,f23⟩ e24) ?_
    rintro _ H25 ⟨rfl,w25,s25,_⟩
    obtain ⟨w26,s26⟩:=W.frame1 w22 w25 s25
    refine aa rfl ?_
    refine aM hp (λhp=>?_) λhp=>?_
    ·refine aa (az (w26.ld (i:=5) rfl rfl)) ?_
     refine aa (az (w26.ld (i:=5) rfl rfl)) ?_
     refine aL w26 (i:=3) rfl rfl rfl λH27 w27 s27=>?_
     refine aL w27 (i:=3) rfl rfl rfl λH28 w28 s28=>?_
     refine aa (az (w28.ld (i:=3) rfl rfl)) ?_
     refine aa (az (w28.ld (i:=3) rfl rfl)) ?_
     obtain ⟨w29,s29⟩:=w28.pick' [0,4] 7 rfl rfl rfl
     exact aR hp ⟨_,_,_,_,_,_,_,_,rfl,rfl,rfl,w29,(s0.trans (s3.trans (s22.trans (s26.trans (s27.trans (s28.trans s29)))))),(si.step (s3.trans (s22.trans (s26.trans (s27.trans (s28.trans s29)))))),(sj.step (s3.trans (s22.trans (s26.trans (s27.trans (s28.trans s29))))))⟩
    ·obtain ⟨n30,g30,hp⟩:=aj hp
     obtain ⟨p30,q30,i30,h30,j30⟩:=W.ixo (E:=(ai eI eI)) w26 (i:=0) rfl rfl (si.step (s3.trans (s22.trans s26))) g30
     refine aa i30 ?_
     obtain ⟨_,_,rfl,rfl,rfl⟩:=h30
     refine aa (af (j30 0 _ rfl)) ?_
     refine aM hp (λhp=>?_) λhp=>?_
     ·refine aa (az (w26.ld (i:=5) rfl rfl)) ?_
      refine aa (az (w26.ld (i:=5) rfl rfl)) ?_
      refine aL w26 (i:=3) rfl rfl rfl λH31 w31 s31=>?_
      refine aL w31 (i:=3) rfl rfl rfl λH32 w32 s32=>?_
      refine aa (az (w32.ld (i:=3) rfl rfl)) ?_
      refine aa (az (w32.ld (i:=3) rfl rfl)) ?_
      obtain ⟨w33,s33⟩:=w32.pick' [0,4] 7 rfl rfl rfl
      exact aR hp ⟨_,_,_,_,_,_,_,_,rfl,rfl,rfl,w33,(s0.trans (s3.trans (s22.trans (s26.trans (s31.trans (s32.trans s33)))))),(si.step (s3.trans (s22.trans (s26.trans (s31.trans (s32.trans s33)))))),(sj.step (s3.trans (s22.trans (s26.trans (s31.trans (s32.trans s33))))))⟩
     ·obtain ⟨n34,g34,hp⟩:=aj hp
      obtain ⟨p34,q34,i34,h34,j34⟩:=W.ixo (E:=(ai eI eI)) w26 (i:=0) rfl rfl (si.step (s3.trans (s22.trans s26))) g34
      refine aa i34 ?_
      obtain ⟨l35,e35,hp⟩:=aj hp
      refine gl (ai eI eI) w26 (i:=0) (j:=0) (p:=p34) rfl rfl (si.step (s3.trans (s22.trans s26))) g34 i34 e35 rfl rfl (λ_ h=>by obtain ⟨_,_,rfl,rfl,rfl⟩:=h;exact ⟨[_],_,rfl,rfl,rfl⟩) λH36 k36 w36 s36 c36=>?_
      obtain ⟨l37,e37,hp⟩:=aj hp
      refine gl (ai eI eI) w36 (i:=0) (j:=1) (p:=p34) rfl rfl c36 (pT g34 (ev e35)) i34 e37 rfl rfl (λ_ h=>by obtain ⟨_,_,rfl,rfl,rfl⟩:=h;exact ⟨[_],_,rfl,rfl,rfl⟩) λH38 k38 w38 s38 c38=>?_
      obtain ⟨w39,s39⟩:=w38.pick' [1,2,3,0,4,5,6] 7 rfl rfl rfl
      exact ih rfl rfl ((ev e35).symm.trans (ev e37).symm) rfl rfl ⟨w39,(s0.trans (s3.trans (s22.trans (s26.trans (s36.trans (s38.trans s39)))))),(Me.step (s3.trans (s22.trans (s26.trans (s36.trans (s38.trans s39)))))),(Mf.step (s3.trans (s22.trans (s26.trans (s36.trans (s38.trans s39)))))),(c38.step s39),(sj.step (s3.trans (s22.trans (s26.trans (s36.trans (s38.trans s39)))))),(Mg.step (s3.trans (s22.trans (s26.trans (s36.trans (s38.trans s39))))))⟩ hp
  ·obtain ⟨w40,s40⟩:=w0.pick' [0,1,2,3,4,5] 7 rfl rfl rfl
   exact hC61 rfl rfl rfl rfl rfl ⟨w40,(s0.trans s40),(Me.step s40),(Mf.step s40),(si.step s40),(sj.step s40),(Mg.step s40)⟩ hp
def bY.pl61 (F:Nat) :Nat->List (Int×Int)->List (Int×Int)->List (Int×Int×Int×Int×Int)->Int->Int->Option ((List (Int×Int))×(List (Int×Int))×Bool)
 | 0,_,_,_,_,_=>none
 | k+1,ww,wx,qM,oF,mw=>(bif (decide (mw<oF)) then ((ix qM mw).bind λn1=>(h_.p F ((gt qM n1).1) ((gt qM n1).2.1) ((gt qM n1).2.2.1) ((gt qM n1).2.2.2.1)).bind λr8=>bY.pl3931 F (bY.pl61 F k) F ww wx qM oF mw ((gt qM n1).2.2.2.2) mw r8.1 r8.2.1 r8.2.2.1 r8.2.2.2 0) else (some (ww,wx,true)))
theorem bY.l61_P  :∀ k,bY.S61 H0 Ri R0  (bY.l61 F (dd.tw F) (h_.tw F) (ia.tw F) (ip.tw F)  k) (bY.pl61 F  k):=by
 intro k
 induction k with
 | zero=>unfold bY.S61;intros;rename_i hp;cases hp
 | succ k ih=>
  intro Lw Lx Ly Lz LA Fe Ff oE Fg Fh pJ Fi LB LC LD LE LF LG LI ww wx LJ LL LM LN qM oF mw H adE adF adG adH adI h0 r hp
  obtain ⟨w0,s0,adJ,adK,UB,UC,UD⟩:=h0
  subst adE
  subst adF
  subst adG
  subst adH
  subst adI
  unfold bY.pl61 at hp
  unfold bY.l61
  refine aM hp (λhp=>?_) λhp=>?_
  ·obtain ⟨n1,g1,hp⟩:=aj hp
   obtain ⟨p1,q1,i1,h1,j1⟩:=ROs.ixr UD rfl g1
   refine aa i1 ?_
   obtain ⟨_,_,rfl,rfl,_,_,rfl,rfl,_,_,rfl,rfl,_,_,rfl,rfl,rfl⟩:=h1
   refine aa (af (j1 0 _ rfl)) ?_
   refine aa (af (j1 1 _ rfl)) ?_
   refine aa (af (j1 2 _ rfl)) ?_
   refine aa (af (j1 3 _ rfl)) ?_
   refine aa (af (j1 4 _ rfl)) ?_
   refine bR w0 λH2 w2 s2=>?_
   refine aL w2 (i:=0) rfl rfl rfl λH3 w3 s3=>?_
   refine aL w3 (i:=0) rfl rfl rfl λH4 w4 s4=>?_
   refine aL w4 (i:=0) rfl rfl rfl λH5 w5 s5=>?_
   refine aL w5 (i:=0) rfl rfl rfl λH6 w6 s6=>?_
   refine aL w6 (i:=0) rfl rfl rfl λH7 w7 s7=>?_
   refine aa (af (w7.ld (i:=0) rfl rfl)) ?_
   refine aa (af (w7.ld (i:=0) rfl rfl)) ?_
   refine aa (af (w7.ld (i:=0) rfl rfl)) ?_
   refine aa (af (w7.ld (i:=0) rfl rfl)) ?_
   refine aa (af (w7.ld (i:=0) rfl rfl)) ?_
   obtain ⟨r8,e8,hp⟩:=aj hp
   refine aP (h_.P ⟨w7,trivial⟩ e8) ?_
   rintro _ H9 ⟨rfl,w9,s9,_⟩
   refine aa rfl ?_
   refine aa rfl ?_
   refine aa rfl ?_
   refine aa rfl ?_
   refine aa rfl ?_
   refine aa rfl ?_
   refine aa rfl ?_
   refine aa rfl ?_
   refine aa rfl ?_
   obtain ⟨w10,s10⟩:=w9.pick' [1,2,3,4,5,6,0] 7 rfl rfl rfl
   exact bY.l3931_P (@ih) F rfl rfl rfl rfl rfl ⟨w10,(s0.trans (s2.trans (s3.trans (s4.trans (s5.trans (s6.trans (s7.trans (s9.trans s10)))))))),(adJ.step (s2.trans (s3.trans (s4.trans (s5.trans (s6.trans (s7.trans (s9.trans s10)))))))),(adK.step (s2.trans (s3.trans (s4.trans (s5.trans (s6.trans (s7.trans (s9.trans s10)))))))),(UB.step (s2.trans (s3.trans (s4.trans (s5.trans (s6.trans (s7.trans (s9.trans s10)))))))),(UC.step (s2.trans (s3.trans (s4.trans (s5.trans (s6.trans (s7.trans (s9.trans s10)))))))),(UD.step (s2.trans (s3.trans (s4.trans (s5.trans (s6.trans (s7.trans (s9.trans s10))))))))⟩ hp
  ·refine aa (az (w0.ld (i:=5) rfl rfl)) ?_
   refine aa (az (w0.ld (i:=5) rfl rfl)) ?_
   refine aL w0 (i:=2) rfl rfl rfl λH11 w11 s11=>?_
   refine aL w11 (i:=2) rfl rfl rfl λH12 w12 s12=>?_
   refine aa (az (w12.ld (i:=2) rfl rfl)) ?_
   refine aa (az (w12.ld (i:=2) rfl rfl)) ?_
   obtain ⟨w13,s13⟩:=w12.pick' [3,4] 6 rfl rfl rfl
   exact aR hp ⟨_,_,_,_,_,_,_,_,rfl,rfl,rfl,w13,(s0.trans (s11.trans (s12.trans s13))),(UB.step (s11.trans (s12.trans s13))),(UC.step (s11.trans (s12.trans s13)))⟩
def bY.p (F:Nat) (aq:List (Int×Int×Int×Int×Int)):Option ((List (Int×Int))×(List (Int×Int))×Bool):=(dd.p F ([((-1),0)]:List (Int×Int)) (IntKind.i64.wrap (2 * (aq.length:Int)))).bind λr5=>(dd.p F ([((-1),0)]:List (Int×Int)) (IntKind.i64.wrap (2 * (aq.length:Int)))).bind λr10=>bY.pl61 F F r5 r10 aq (aq.length:Int) 0
theorem bY.P {bF:ON} {aX:Nat} {bG:Cap} {aq:List (Int×Int×Int×Int×Int)} {ae:Int} (cT:aX=aq.length) (h0:Inn H R0 λR=>ROs (ai eI (ai eI (ai eI (ai eI eI)))) H R ⟨bF,aX,bG⟩ aq) {r:(List (Int×Int))×(List (Int×Int))×Bool} (hp:bY.p F aq=some r):Rt (bY.tw F ⟨bF,aX,bG⟩ ae H) (bY.Q H R0 R0  r):=by
 obtain ⟨w0,cF⟩:=h0
 subst cT
 unfold bY.p at hp
 unfold bY.tw bY.twX
 have s0:=w0.rf
 refine bR w0 λH1 w1 s1=>?_
 refine bR w1 λH2 w2 s2=>?_
 refine aa (az (w2.ld (i:=1) rfl rfl)) ?_
 refine lL (ai eI eI) w2 (n:=1) (l:=([((-1),0)]:List (Int×Int))) rfl (CR.cons (c:=[_,_]) ⟨[_],_,rfl,rfl,rfl⟩ CR.empty) rfl λH3 w3 s3 c3=>?_
 have f4:=W.borrow1 (ai eI eI) w3 c3
 obtain ⟨w4,s4⟩:=w3.right1
 obtain ⟨r5,e5,hp⟩:=aj hp
 refine aP (dd.P (show 1=List.length ([((-1),0)]:List (Int×Int)) from rfl) ⟨w4,f4⟩ e5) ?_
 rintro _ H6 ⟨o0a_6,o0n_6,o0k_6,rfl,rfl,w6,s6,f6_0⟩
 obtain ⟨w7,s7⟩:=W.frame1 w3 w6 s6
 refine aa rfl ?_
 refine lL (ai eI eI) w7 (n:=1) (l:=([((-1),0)]:List (Int×Int))) rfl (CR.cons (c:=[_,_]) ⟨[_],_,rfl,rfl,rfl⟩ CR.empty) rfl λH8 w8 s8 c8=>?_
 have f9:=W.borrow1 (ai eI eI) w8 c8
 obtain ⟨w9,s9⟩:=w8.right1
 obtain ⟨r10,e10,hp⟩:=aj hp
 refine aP (dd.P (show 1=List.length ([((-1),0)]:List (Int×Int)) from rfl) ⟨w9,f9⟩ e10) ?_
 rintro _ H11 ⟨o0a_11,o0n_11,o0k_11,rfl,rfl,w11,s11,f11_0⟩
 obtain ⟨w12,s12⟩:=W.frame1 w8 w11 s11
 refine aa rfl ?_
 refine bR w12 λH13 w13 s13=>?_
 refine aL w13 (i:=0) rfl rfl rfl λH14 w14 s14=>?_
 refine aL w14 (i:=0) rfl rfl rfl λH15 w15 s15=>?_
 refine aa (az (w15.ld (i:=6) rfl rfl)) ?_
 obtain ⟨w16,s16⟩:=w15.nilS (ai eI eI).z (by decide)
 obtain ⟨w17,s17⟩:=w16.nilS (ai eI eI).z (by decide)
 obtain ⟨w18,s18⟩:=w17.pick' [1,0,7,6,4,2] 9 rfl rfl rfl
 exact bY.l61_P F rfl rfl rfl rfl rfl ⟨w18,(s0.trans (s1.trans (s2.trans (s3.trans (s7.trans (s8.trans (s12.trans (s13.trans (s14.trans (s15.trans (s16.trans (s17.trans s18)))))))))))),((CR.empty:CR (ai eI eI) _ _ [] []).step (s17.trans s18)),((CR.empty:CR (ai eI eI) _ _ [] []).step s18),((CR.flat (WX (tL .i64) (tL .i64)) f6_0).step (s8.trans (s12.trans (s13.trans (s14.trans (s15.trans (s16.trans (s17.trans s18)))))))),((CR.flat (WX (tL .i64) (tL .i64)) f11_0).step (s13.trans (s14.trans (s15.trans (s16.trans (s17.trans s18)))))),(cF.step (s1.trans (s2.trans (s3.trans (s7.trans (s8.trans (s12.trans (s13.trans (s14.trans (s15.trans (s16.trans (s17.trans s18))))))))))))⟩ hp
def gU.Q (H0:Hp) (Ri R0:List Rs)  (r:Int×Int) (v:AV) (H':Hp):Prop:=v=(.agg [(.i r.1),(.i r.2)])/\Out H0 Ri H' (R0) λR=>True
def gU.p (F:Nat) (aq:List (Int×Int×Int×Int×Int)) (kg:List (Int×Int)) (nq:List (Int×Int)) (bS:Int) (cQ:Int):Option (Int×Int):=(ix aq bS).bind λn5=>(h_.p F ((gt aq n5).1) ((gt aq n5).2.1) ((gt aq n5).2.2.1) ((gt aq n5).2.2.2.1)).bind λr12=>(if 0<=cQ/\cQ<(4:Int) then ((ia.p F ((gt aq n5).2.2.2.2) cQ).bind λr16=>(bif r16 then ((ix kg (gt ([r12.1,r12.2.1,r12.2.2.1,r12.2.2.2]:List Int) (cQ:Int).toNat)).bind λn18=>some (((gt kg n18).1),((gt kg n18).2))) else ((ix nq (gt ([r12.1,r12.2.1,r12.2.2.1,r12.2.2.2]:List Int) (cQ:Int).toNat)).bind λn22=>some (((gt nq n22).1),((gt nq n22).2))))) else none)
theorem gU.P {bF rA uH:ON} {aX pi rB:Nat} {bG rC uI:Cap} {aq:List (Int×Int×Int×Int×Int)} {ae bS cQ:Int} {kg nq:List (Int×Int)} (cT:aX=aq.length) (wz:pi=kg.length) (BM:rB=nq.length) (h0:Inn H R0 λR=>ROs (ai eI (ai eI (ai eI (ai eI eI)))) H R ⟨bF,aX,bG⟩ aq/\ROs (ai eI eI) H R ⟨rA,pi,rC⟩ kg/\ROs (ai eI eI) H R ⟨uH,rB,uI⟩ nq) {r:Int×Int} (hp:gU.p F aq kg nq bS cQ=some r):Rt (gU.tw F ⟨bF,aX,bG⟩ ae ⟨rA,pi,rC⟩ ⟨uH,rB,uI⟩ bS cQ H) (gU.Q H R0 R0  r):=by
 obtain ⟨w0,cF,wA,BN⟩:=h0
 subst cT
 subst wz
 subst BM
 unfold gU.p at hp
 unfold gU.tw gU.twX
 have s0:=w0.rf
 refine bR w0 λH1 w1 s1=>?_
 refine bR w1 λH2 w2 s2=>?_
 refine bR w2 λH3 w3 s3=>?_
 refine bR w3 λH4 w4 s4=>?_
 refine aa (az (w4.ld (i:=3) rfl rfl)) ?_
 refine aa (af (w4.ld (i:=1) rfl rfl)) ?_
 obtain ⟨n5,g5,hp⟩:=aj hp
 obtain ⟨p5,q5,i5,h5,j5⟩:=ROs.ixr (cF.step (s1.trans (s2.trans (s3.trans s4)))) rfl g5
 refine aa i5 ?_
 obtain ⟨_,_,rfl,rfl,_,_,rfl,rfl,_,_,rfl,rfl,_,_,rfl,rfl,rfl⟩:=h5
 refine aa (af (j5 0 _ rfl)) ?_
 refine aa (af (j5 1 _ rfl)) ?_
 refine aa (af (j5 2 _ rfl)) ?_
 refine aa (af (j5 3 _ rfl)) ?_
 refine aa (af (j5 4 _ rfl)) ?_
 refine bR w4 λH6 w6 s6=>?_
 refine aL w6 (i:=0) rfl rfl rfl λH7 w7 s7=>?_
 refine aL w7 (i:=0) rfl rfl rfl λH8 w8 s8=>?_
 refine aL w8 (i:=0) rfl rfl rfl λH9 w9 s9=>?_
 refine aL w9 (i:=0) rfl rfl rfl λH10 w10 s10=>?_
 refine aL w10 (i:=0) rfl rfl rfl λH11 w11 s11=>?_
 refine aa (af (w11.ld (i:=0) rfl rfl)) ?_
 refine aa (af (w11.ld (i:=0) rfl rfl)) ?_
 refine aa (af (w11.ld (i:=0) rfl rfl)) ?_
 refine aa (af (w11.ld (i:=0) rfl rfl)) ?_
 refine aa (af (w11.ld (i:=0) rfl rfl)) ?_
 obtain ⟨r12,e12,hp⟩:=aj hp
 refine aP (h_.P ⟨w11,trivial⟩ e12) ?_
 rintro _ H13 ⟨rfl,w13,s13,_⟩
 refine aa rfl ?_
 refine aa rfl ?_
 refine aa rfl ?_
 refine aa rfl ?_
 refine aa rfl ?_
 refine aa rfl ?_
 refine aa rfl ?_
 refine aa rfl ?_
 refine aa rfl ?_
 refine fO (W.cons_of (Rn:=[]) w11 w13 s13) ?_
 refine aa (af (w13.ld (i:=2) rfl rfl)) ?_
 obtain ⟨g15,hp⟩:=mS hp
 refine fO g15 ?_
 refine aa (a:=AV.int .i64 (gt ([r12.1,r12.2.1,r12.2.2.1,r12.2.2.2]:List Int) (cQ:Int).toNat)) (by rw [Nat.mul_one];exact WW (k:=.i64) (l:=[r12.1,r12.2.1,r12.2.2.1,r12.2.2.2]) rfl (by have:=g15;simp only [List.length_cons,List.length_nil];omega)) ?_
 refine aa rfl ?_
 refine aa (af (w13.ld (i:=0) rfl rfl)) ?_
 refine aa (af (w13.ld (i:=0) rfl rfl)) ?_
 refine aa (af (w13.ld (i:=0) rfl rfl)) ?_
 refine aa (af (w13.ld (i:=0) rfl rfl)) ?_
 refine aa (af (w13.ld (i:=0) rfl rfl)) ?_
 refine aa (af (w13.ld (i:=2) rfl rfl)) ?_
 obtain ⟨r16,e16,hp⟩:=aj hp
 refine aP (ia.P ⟨w13,trivial⟩ e16) ?_
 rintro _ H17 ⟨rfl,w17,s17,_⟩
 refine aa rfl ?_
 refine aM hp (λhp=>?_) λhp=>?_
 ·refine aa (az (w17.ld (i:=3) rfl rfl)) ?_
  obtain ⟨n18,g18,hp⟩:=aj hp
  obtain ⟨p18,q18,i18,h18,j18⟩:=ROs.ixr (wA.step (s1.trans (s2.trans (s3.trans (s4.trans (s6.trans (s7.trans (s8.trans (s9.trans (s10.trans (s11.trans (s13.trans s17)))))))))))) rfl g18
  refine aa i18 ?_
  obtain ⟨_,_,rfl,rfl,rfl⟩:=h18
  refine aa (af (j18 0 _ rfl)) ?_
  refine aa (af (j18 1 _ rfl)) ?_
  refine aL w17 (i:=1) rfl rfl rfl λH19 w19 s19=>?_
  refine aL w19 (i:=1) rfl rfl rfl λH20 w20 s20=>?_
  refine aa (af (w20.ld (i:=1) rfl rfl)) ?_
  refine aa (af (w20.ld (i:=1) rfl rfl)) ?_
  obtain ⟨w21,s21⟩:=w20.pick' [] 5 rfl rfl rfl
  exact aR hp ⟨rfl,w21,(s0.trans (s1.trans (s2.trans (s3.trans (s4.trans (s6.trans (s7.trans (s8.trans (s9.trans (s10.trans (s11.trans (s13.trans (s17.trans (s19.trans (s20.trans s21))))))))))))))),trivial⟩
 ·refine aa (az (w17.ld (i:=3) rfl rfl)) ?_
  obtain ⟨n22,g22,hp⟩:=aj hp
  obtain ⟨p22,q22,i22,h22,j22⟩:=ROs.ixr (BN.step (s1.trans (s2.trans (s3.trans (s4.trans (s6.trans (s7.trans (s8.trans (s9.trans (s10.trans (s11.trans (s13.trans s17)))))))))))) rfl g22
  refine aa i22 ?_
  obtain ⟨_,_,rfl,rfl,rfl⟩:=h22
  refine aa (af (j22 0 _ rfl)) ?_
  refine aa (af (j22 1 _ rfl)) ?_
  refine aL w17 (i:=1) rfl rfl rfl λH23 w23 s23=>?_
  refine aL w23 (i:=1) rfl rfl rfl λH24 w24 s24=>?_
  refine aa (af (w24.ld (i:=1) rfl rfl)) ?_
  refine aa (af (w24.ld (i:=1) rfl rfl)) ?_
  obtain ⟨w25,s25⟩:=w24.pick' [] 5 rfl rfl rfl
  exact aR hp ⟨rfl,w25,(s0.trans (s1.trans (s2.trans (s3.trans (s4.trans (s6.trans (s7.trans (s8.trans (s9.trans (s10.trans (s11.trans (s13.trans (s17.trans (s23.trans (s24.trans s25))))))))))))))),trivial⟩
def bt.Q (H0:Hp) (Ri R0:List Rs)  (r:List (List Int)) (v:AV) (H':Hp):Prop:=∃ o0a:ON,∃ o0n:Nat,∃ o0c:Cap,∃ o0k:List AV,v=(.sl ⟨o0a,o0n,o0c⟩)/\o0n=(r).length/\Out H0 Ri H' (Rs.own ⟨o0a,o0n,o0c⟩ (eSl eI).z o0k::R0) λR=>CR (eSl eI) H' R o0k (r)
def bt.S61 (H0:Hp) (Ri R0:List Rs)  (C:Nat->Nat->Nat->Nat->Sl->Sl->Int->Int->Hp->OA) (pC:List (Int×Int×Int×Int×Int)->List (Int×Int)->List (Int×Int)->List (List Int)->List Bool->Int->Int->Option (List (List Int))):Prop:=∀ {Mh Mi Mj Ml Mm:ON} {Fo qE Fp Fq qF Fs Ft:Nat} {Mn Mo Mp Mq Mr:Cap} {zZ:List (Int×Int×Int×Int×Int)} {UE oI nH:Int} {z_ Aa:List (Int×Int)} {wB:List (List Int)} {Ms Mt:List AV} {Ab:List Bool},∀ {H:Hp},Fo=zZ.length->Fp=z_.length->Fq=Aa.length->Fs=wB.length->Ft=Ab.length->(Out H0 Ri H (Rs.blk qE [.sl ⟨Mh,Fo,Mn⟩,.i UE]::Rs.blk qF [.sl ⟨Mi,Fp,Mo⟩,.sl ⟨Mj,Fq,Mp⟩]::Rs.own ⟨Ml,Fs,Mq⟩ (eSl eI).z Ms::Rs.own ⟨Mm,Ft,Mr⟩ fN.z Mt::R0) λR=>ROs (ai eI (ai eI (ai eI (ai eI eI)))) H R ⟨Mh,Fo,Mn⟩ zZ/\ROs (ai eI eI) H R ⟨Mi,Fp,Mo⟩ z_/\ROs (ai eI eI) H R ⟨Mj,Fq,Mp⟩ Aa/\CR (eSl eI) H R Ms wB/\CR fN H R Mt Ab)->∀ {r:List (List Int)},pC zZ z_ Aa wB Ab oI nH=some r->Rt (C qE 0 qF 0 ⟨Ml,Fs,Mq⟩ ⟨Mm,Ft,Mr⟩ oI nH H) (bt.Q H0 Ri R0  r)
def bt.S15725 (H0:Hp) (Ri R0:List Rs)  (C:Nat->Nat->Nat->Nat->Sl->Sl->Int->Int->Sl->Int->Hp->OA) (pC:List (Int×Int×Int×Int×Int)->List (Int×Int)->List (Int×Int)->List (List Int)->List Bool->Int->Int->List Int->Int->Option (List (List Int))):Prop:=∀ {Mu Mv Mw Mx My Mz:ON} {Fu pa Fv Fw pb Fx Fy Fz:Nat} {MA MB MC MD ME MF:Cap} {uJ:List (Int×Int×Int×Int×Int)} {UG oG oH kA:Int} {uK uL:List (Int×Int)} {wC:List (List Int)} {MG MH MI:List AV} {sk:List Bool} {wD:List Int},∀ {H:Hp},Fu=uJ.length->Fv=uK.length->Fw=uL.length->Fx=wC.length->Fy=sk.length->Fz=wD.length->(Out H0 Ri H (Rs.blk pa [.sl ⟨Mu,Fu,MA⟩,.i UG]::Rs.blk pb [.sl ⟨Mv,Fv,MB⟩,.sl ⟨Mw,Fw,MC⟩]::Rs.own ⟨Mx,Fx,MD⟩ (eSl eI).z MG::Rs.own ⟨My,Fy,ME⟩ fN.z MH::Rs.own ⟨Mz,Fz,MF⟩ eI.z MI::R0) λR=>ROs (ai eI (ai eI (ai eI (ai eI eI)))) H R ⟨Mu,Fu,MA⟩ uJ/\ROs (ai eI eI) H R ⟨Mv,Fv,MB⟩ uK/\ROs (ai eI eI) H R ⟨Mw,Fw,MC⟩ uL/\CR (eSl eI) H R MG wC/\CR fN H R MH sk/\CR eI H R MI wD)->∀ {r:List (List Int)},pC uJ uK uL wC sk oG oH wD kA=some r->Rt (C pa 0 pb 0 ⟨Mx,Fx,MD⟩ ⟨My,Fy,ME⟩ oG oH ⟨Mz,Fz,MF⟩ kA H) (bt.Q H0 Ri R0  r)
def bt.pj4 (F:Nat) (ch:List (Int×Int×Int×Int×Int)->List (Int×Int)->List (Int×Int)->List (List Int)->List Bool->Int->Int->Option (List (List Int))) (BO:List (Int×Int×Int×Int×Int)) (BP:List (Int×Int)) (BQ:List (Int×Int)) (BR:List (List Int)) (BS:List Bool) (yf:Int) (yh:Int):Option (List (List Int)):=ch BO BP BQ BR BS yf (IntKind.i64.wrap (yh+1))
theorem bt.j4_P  {C61_:Nat->Nat->Nat->Nat->Sl->Sl->Int->Int->Hp->OA} {ch:List (Int×Int×Int×Int×Int)->List (Int×Int)->List (Int×Int)->List (List Int)->List Bool->Int->Int->Option (List (List Int))} (hC61:bt.S61 H0 Ri R0  C61_ ch) {UH UI UJ UK UL:ON} {MJ Da MK ML Db MM MN:Nat} {UM UN UO UP UQ:Cap} {BO:List (Int×Int×Int×Int×Int)} {adL yf yh:Int} {BP BQ:List (Int×Int)} {BR:List (List Int)} {UR US:List AV} {BS:List Bool} (adM:MJ=BO.length) (adN:MK=BP.length) (adO:ML=BQ.length) (adP:MM=BR.length) (adQ:MN=BS.length) (h0:Out H0 Ri H (Rs.blk Da [.sl ⟨UH,MJ,UM⟩,.i adL]::Rs.blk Db [.sl ⟨UI,MK,UN⟩,.sl ⟨UJ,ML,UO⟩]::Rs.own ⟨UK,MM,UP⟩ (eSl eI).z UR::Rs.own ⟨UL,MN,UQ⟩ fN.z US::R0) λR=>ROs (ai eI (ai eI (ai eI (ai eI eI)))) H R ⟨UH,MJ,UM⟩ BO/\ROs (ai eI eI) H R ⟨UI,MK,UN⟩ BP/\ROs (ai eI eI) H R ⟨UJ,ML,UO⟩ BQ/\CR (eSl eI) H R UR BR/\CR fN H R US BS) {r:List (List Int)} (hp:bt.pj4 F ch BO BP BQ BR BS yf yh=some r):Rt (bt.j4 F (gU.tw F) C61_ Da 0 Db 0 ⟨UK,MM,UP⟩ ⟨UL,MN,UQ⟩ yf yh H) (bt.Q H0 Ri R0  r):=by
 obtain ⟨w0,s0,adS,adT,adU,adV,adW⟩:=h0
 subst adM
 subst adN
 subst adO
 subst adP
 subst adQ
 unfold bt.pj4 at hp
 unfold bt.j4
 exact hC61 rfl rfl rfl rfl rfl ⟨w0,s0,adS,adT,adU,adV,adW⟩ hp
def bt.pj5 (F:Nat) (ch:List (Int×Int×Int×Int×Int)->List (Int×Int)->List (Int×Int)->List (List Int)->List Bool->Int->Int->Option (List (List Int))) (BT:List (Int×Int×Int×Int×Int)) (BU:List (Int×Int)) (BV:List (Int×Int)) (BW:List (List Int)) (BX:List Bool) (yi:Int) (yj:Int):Option (List (List Int)):=bt.pj4 F ch BT BU BV BW BX yi yj
theorem bt.j5_P  {C61_:Nat->Nat->Nat->Nat->Sl->Sl->Int->Int->Hp->OA} {ch:List (Int×Int×Int×Int×Int)->List (Int×Int)->List (Int×Int)->List (List Int)->List Bool->Int->Int->Option (List (List Int))} (hC61:bt.S61 H0 Ri R0  C61_ ch) {UT UU UV UW UX:ON} {MO Dc MP MQ xi MR MS:Nat} {UY UZ U_ Va Vb:Cap} {BT:List (Int×Int×Int×Int×Int)} {adX yi yj:Int} {BU BV:List (Int×Int)} {BW:List (List Int)} {Vc Vd:List AV} {BX:List Bool} (adY:MO=BT.length) (adZ:MP=BU.length) (ad0:MQ=BV.length) (ad2:MR=BW.length) (ad3:MS=BX.length) (h0:Out H0 Ri H (Rs.blk Dc [.sl ⟨UT,MO,UY⟩,.i adX]::Rs.blk xi [.sl ⟨UU,MP,UZ⟩,.sl ⟨UV,MQ,U_⟩]::Rs.own ⟨UW,MR,Va⟩ (eSl eI).z Vc::Rs.own ⟨UX,MS,Vb⟩ fN.z Vd::R0) λR=>ROs (ai eI (ai eI (ai eI (ai eI eI)))) H R ⟨UT,MO,UY⟩ BT/\ROs (ai eI eI) H R ⟨UU,MP,UZ⟩ BU/\ROs (ai eI eI) H R ⟨UV,MQ,U_⟩ BV/\CR (eSl eI) H R Vc BW/\CR fN H R Vd BX) {r:List (List Int)} (hp:bt.pj5 F ch BT BU BV BW BX yi yj=some r):Rt (bt.j5 F (gU.tw F) C61_ Dc 0 xi 0 ⟨UW,MR,Va⟩ ⟨UX,MS,Vb⟩ yi yj H) (bt.Q H0 Ri R0  r):=by
 obtain ⟨w0,s0,ad4,ad5,ad6,ad7,ad8⟩:=h0
 subst adY
 subst adZ
 subst ad0
 subst ad2
 subst ad3
 unfold bt.pj5 at hp
 unfold bt.j5
 exact bt.j4_P (@hC61) rfl rfl rfl rfl rfl ⟨w0,s0,ad4,ad5,ad6,ad7,ad8⟩ hp
def bt.pj6 (F:Nat) (ch:List (Int×Int×Int×Int×Int)->List (Int×Int)->List (Int×Int)->List (List Int)->List Bool->Int->Int->Option (List (List Int))) (Ac:List (Int×Int×Int×Int×Int)) (Ad:List (Int×Int)) (Ae:List (Int×Int)) (Af:List (List Int)) (Ag:List Bool) (uM:List Int) (t_:Int) (ua:Int):Option (List (List Int)):=(bif (decide ((uM.length:Int)>0)) then ((apn Af ([uM]:List (List Int))).bind λl3=>bt.pj5 F ch Ac Ad Ae l3 Ag t_ ua) else (bt.pj5 F ch Ac Ad Ae Af Ag t_ ua))
theorem bt.j6_P  {C61_:Nat->Nat->Nat->Nat->Sl->Sl->Int->Int->Hp->OA} {ch:List (Int×Int×Int×Int×Int)->List (Int×Int)->List (Int×Int)->List (List Int)->List Bool->Int->Int->Option (List (List Int))} (hC61:bt.S61 H0 Ri R0  C61_ ch) {Ve Vf Vg Vh Vi Vj:ON} {MT AH MU MV AI MW MX MY:Nat} {Vk Vl Vm Vn Vo Vp:Cap} {Ac:List (Int×Int×Int×Int×Int)} {ad9 t_ ua:Int} {Ad Ae:List (Int×Int)} {Af:List (List Int)} {Vq Vr Vs:List AV} {Ag:List Bool} {uM:List Int} (ad_:MT=Ac.length) (aea:MU=Ad.length) (aeb:MV=Ae.length) (aec:MW=Af.length) (aed:MX=Ag.length) (aee:MY=uM.length) (h0:Out H0 Ri H (Rs.blk AH [.sl ⟨Ve,MT,Vk⟩,.i ad9]::Rs.blk AI [.sl ⟨Vf,MU,Vl⟩,.sl ⟨Vg,MV,Vm⟩]::Rs.own ⟨Vh,MW,Vn⟩ (eSl eI).z Vq::Rs.own ⟨Vi,MX,Vo⟩ fN.z Vr::Rs.own ⟨Vj,MY,Vp⟩ eI.z Vs::R0) λR=>ROs (ai eI (ai eI (ai eI (ai eI eI)))) H R ⟨Ve,MT,Vk⟩ Ac/\ROs (ai eI eI) H R ⟨Vf,MU,Vl⟩ Ad/\ROs (ai eI eI) H R ⟨Vg,MV,Vm⟩ Ae/\CR (eSl eI) H R Vq Af/\CR fN H R Vr Ag/\CR eI H R Vs uM) {r:List (List Int)} (hp:bt.pj6 F ch Ac Ad Ae Af Ag uM t_ ua=some r):Rt (bt.j6 F (gU.tw F) C61_ AH 0 AI 0 ⟨Vh,MW,Vn⟩ ⟨Vi,MX,Vo⟩ ⟨Vj,MY,Vp⟩ t_ ua H) (bt.Q H0 Ri R0  r):=by
 obtain ⟨w0,s0,Vt,Vu,Vv,Vw,Vx,aef⟩:=h0
 subst ad_
 subst aea
 subst aeb
 subst aec
 subst aed
 subst aee
 unfold bt.pj6 at hp
 unfold bt.j6
 refine aM hp (λhp=>?_) λhp=>?_
 ·obtain ⟨w1,s1,f1⟩:=w0.frz (i:=4) eI rfl aef
  refine lL (eSl eI) w1 (n:=1) (l:=([uM]:List (List Int))) rfl (CR.cons1 ⟨_,rfl,f1⟩ CR.empty) rfl λH2 w2 s2 c2=>?_
  refine aa (w2.rowo (i:=0) rfl) ?_
  obtain ⟨l3,e3,hp⟩:=aj hp
  refine qp (eSl eI) w2 (i:=3) rfl rfl (Vw.step (s1.trans s2)) c2 (show 1=List.length ([uM]:List (List Int)) from rfl) rfl e3 λa4 d4 H4 w4 s4 c4 x4=>?_
  obtain ⟨w5,s5⟩:=w4.pick' [1,2,3,4] 5 rfl rfl rfl
  exact bt.j5_P (@hC61) rfl rfl rfl rfl rfl ⟨w5,(s0.trans (s1.trans (s2.trans (s4.trans s5)))),(Vt.step (s1.trans (s2.trans (s4.trans s5)))),(Vu.step (s1.trans (s2.trans (s4.trans s5)))),(Vv.step (s1.trans (s2.trans (s4.trans s5)))),(c4.step s5),(Vx.step (s1.trans (s2.trans (s4.trans s5))))⟩ hp
 ·obtain ⟨w6,s6⟩:=w0.pick' [0,1,2,3] 5 rfl rfl rfl
  exact bt.j5_P (@hC61) rfl rfl rfl rfl rfl ⟨w6,(s0.trans s6),(Vt.step s6),(Vu.step s6),(Vv.step s6),(Vw.step s6),(Vx.step s6)⟩ hp
def bt.pl15725 (F:Nat) (ch:List (Int×Int×Int×Int×Int)->List (Int×Int)->List (Int×Int)->List (List Int)->List Bool->Int->Int->Option (List (List Int))):Nat->List (Int×Int×Int×Int×Int)->List (Int×Int)->List (Int×Int)->List (List Int)->List Bool->Int->Int->List Int->Int->Option (List (List Int))
 | 0,_,_,_,_,_,_,_,_,_=>none
 | k+1,uJ,uK,uL,wC,sk,oG,oH,wD,kA=>(ix sk kA).bind λn1=>(bif (!(gt sk n1)) then ((ix sk kA).bind λn2=>(some (sk.set n2 true)).bind λl3=>(apn wD ([kA]:List Int)).bind λl6=>(gU.p F uJ uK uL (IntKind.i64.wrap (Int.tdiv kA 4)) (Int.tmod (IntKind.i64.wrap (kA+1)) 4)).bind λr8=>bt.pl15725 F ch k uJ uK uL wC l3 oG oH l6 (IntKind.i64.wrap ((IntKind.i64.wrap (4 * r8.1))+r8.2))) else (bt.pj6 F ch uJ uK uL wC sk wD oG oH))
end
end Go.Proofs.YtppbogklbhfboaaGreat.AE
