import Derived.Test.YtnkgeongfneafaaT1
import Derived.Test.YtnkgeongfneafaaE2
set_option linter.unusedVariables false
set_option linter.unusedSimpArgs false
namespace Go.Proofs.Ytnkgeongfneafaa.AE
open Go Go.AE Go.Proofs
set_option linter.unusedVariables false
set_option maxHeartbeats 4000000
set_option maxRecDepth 100000
noncomputable section
theorem bH.inl {F:Nat} {aa:Int} {af:Int} {bz:Sl} {aw:Int} {bN:Int} {H:Hp} {K:AV×Hp->OA} {Q:AV->Hp->Prop} (h:∃ u H1,((Hp.new H [(.i aa),(.i af),(.sl bz)]).bind λH6=>(Hp.ldSl H6 H.length 2).bind λs7=>(Hp.ldI H6 .i64 H.length 1).bind λn8=>(Sl.idx s7 (IntKind.i64.wrap ((IntKind.i64.wrap (aw * n8))+bN)) 1).bind λp9=>some ((.ptr p9.1 p9.2),H6))=some (u,H1)/\∃ v H',K (u,H1)=some (v,H')/\Q v H'):∃ v H',(bH.tw F aa af bz aw bN H).bind K=some (v,H')/\Q v H':=xN h
theorem eA.inl {F:Nat} {aa:Int} {af:Int} {bz:Sl} {aw:Int} {H:Hp} {K:AV×Hp->OA} {Q:AV->Hp->Prop} (h:∃ u H1,((Hp.new H [(.i aa),(.i af),(.sl bz)]).bind λH5=>(Hp.ldSl H5 H.length 2).bind λs6=>(Hp.ldI H5 .i64 H.length 1).bind λn7=>(Hp.ldI H5 .i64 H.length 1).bind λn8=>(Sl.cut s6 1 (IntKind.i64.wrap (aw * n7)) (IntKind.i64.wrap ((IntKind.i64.wrap (aw+1)) * n8))).bind λs9=>some ((.sl s9),H5))=some (u,H1)/\∃ v H',K (u,H1)=some (v,H')/\Q v H'):∃ v H',(eA.tw F aa af bz aw H).bind K=some (v,H')/\Q v H':=xN h
theorem gi.inl {F:Nat} {aa:Nat} {af:Nat} {ag:Nat} {aw:Nat} {bN:Int} {lW:Int} {H:Hp} {K:AV×Hp->OA} {Q:AV->Hp->Prop} (h:∃ u H1,((gD.tw F bN lW 2000000000000 H).bind λr7=>((r7.1).asTup 2).bind λl8=>(l8[0]?).bind λv9=>((v9).asI .i64).bind λn10=>(l8[1]?).bind λv11=>((v11).asB).bind λb12=>(Hp.ldI r7.2 .i64 ag aw).bind λn13=>(Hp.st r7.2 ag aw (.i (IntKind.i64.wrap (n13+n10)))).bind λH14=>(bif (!b12) then ((Hp.st H14 aa (af+15) (.bool true)).bind λH15=>(Hp.st H15 ag aw (.i 0)).bind λH16=>some ((.tup []),H16)) else ((Hp.ldI H14 .i64 ag aw).bind λn17=>(ee.tw F n17 H14).bind λr18=>((r18.1).asI .i64).bind λn19=>(bif (decide (n19>1000000000000)) then ((Hp.st r18.2 aa (af+15) (.bool true)).bind λH20=>(Hp.st H20 ag aw (.i 0)).bind λH21=>some ((.tup []),H21)) else (some ((.tup []),r18.2))))))=some (u,H1)/\∃ v H',K (u,H1)=some (v,H')/\Q v H'):∃ v H',(gi.tw F aa af ag aw bN lW H).bind K=some (v,H')/\Q v H':=xN h
theorem jt.inl {F:Nat} {aa:Int} {af:Int} {bz:Sl} {H:Hp} {K:AV×Hp->OA} {Q:AV->Hp->Prop} (h:∃ u H1,((Hp.new H [(.i aa),(.i af),(.sl bz)]).bind λH4=>(Hp.ldI H4 .i64 H.length 0).bind λn5=>(dn.tw F n5 H4).bind λr6=>((r6.1).asAgg 3).bind λl7=>(l7[0]?).bind λv8=>((v8).asI .i64).bind λn9=>(l7[1]?).bind λv10=>((v10).asI .i64).bind λn11=>(l7[2]?).bind λv12=>((v12).asSl).bind λs13=>(if bh H4 r6.2 then ((Hp.ldI r6.2 .i64 H.length 0).bind λn14=>(dn.tw F n14 r6.2).bind λr15=>((r15.1).asAgg 3).bind λl16=>(l16[0]?).bind λv17=>((v17).asI .i64).bind λn18=>(l16[1]?).bind λv19=>((v19).asI .i64).bind λn20=>(l16[2]?).bind λv21=>((v21).asSl).bind λs22=>(if bh r6.2 r15.2 then ((Hp.ldI r15.2 .i64 H.length 0).bind λn23=>(Hp.ldI r15.2 .i64 H.length (0+1)).bind λn24=>(Hp.ldSl r15.2 H.length (0+2)).bind λs25=>(io.tw F n23 n24 s25 r15.2).bind λr26=>((r26.1).asAgg 3).bind λl27=>(l27[0]?).bind λv28=>((v28).asI .i64).bind λn29=>(l27[1]?).bind λv30=>((v30).asI .i64).bind λn31=>(l27[2]?).bind λv32=>((v32).asSl).bind λs33=>(if bh r15.2 r26.2 then ((Hp.ldI r26.2 .i64 H.length 1).bind λn34=>(dn.tw F n34 r26.2).bind λr35=>((r35.1).asAgg 3).bind λl36=>(l36[0]?).bind λv37=>((v37).asI .i64).bind λn38=>(l36[1]?).bind λv39=>((v39).asI .i64).bind λn40=>(l36[2]?).bind λv41=>((v41).asSl).bind λs42=>(if bh r26.2 r35.2 then ((Hp.ldI r35.2 .i64 H.length 1).bind λn43=>(dn.tw F n43 r35.2).bind λr44=>((r44.1).asAgg 3).bind λl45=>(l45[0]?).bind λv46=>((v46).asI .i64).bind λn47=>(l45[1]?).bind λv48=>((v48).asI .i64).bind λn49=>(l45[2]?).bind λv50=>((v50).asSl).bind λs51=>(Hp.new r44.2 [(.i n9),(.i n11),(.sl s13),(.i n18),(.i n20),(.sl s22),(.i n29),(.i n31),(.sl s33),(.i n38),(.i n40),(.sl s42),(.i n47),(.i n49),(.sl s51),(.bool false)]).bind λH52=>some ((.ptr r44.2.length 0),H52)) else none)) else none)) else none)) else none))=some (u,H1)/\∃ v H',K (u,H1)=some (v,H')/\Q v H'):∃ v H',(jt.tw F aa af bz H).bind K=some (v,H')/\Q v H':=xN h
def iU.Q (H0:Hp) (Ri R0:List Rs)  (r:Int) (v:AV) (H':Hp):Prop:=v=(.i r)/\Out H0 Ri H' (R0) λR=>True
def iU.p (F:Nat) (bO:List Int) (au:Int):Option (Int):=(bif (decide ((IntKind.i64.wrap (au - (bO.length:Int)))<0)) then (some (-1)) else (some (IntKind.i64.wrap (au - (bO.length:Int)))))
theorem iU.P {F:Nat} {eo:ON} {dz:Nat} {es:Cap} {bO:List Int} {au:Int} {H:Hp} {R0:List Rs} (hJ:dz=bO.length) (h0:Inn H R0 λR=>ROs (ae .i64) H R ⟨eo,dz,es⟩ bO) {r:Int} (hp:iU.p F bO au=some r):∃ v H',iU.tw F ⟨eo,dz,es⟩ au H=some (v,H')/\iU.Q H R0 R0  r v H':=by
 obtain ⟨w0,iK⟩:=h0
 subst hJ
 unfold iU.p at hp
 unfold iU.tw iU.twX
 have s0:=w0.rf
 refine aZ hp (λhp=>?_) λhp=>?_
 ·exact a_ hp ⟨rfl,w0,s0,trivial⟩
 ·exact a_ hp ⟨rfl,w0,s0,trivial⟩
def gZ.Q (H0:Hp) (Ri R0:List Rs)  (r:Int) (v:AV) (H':Hp):Prop:=v=(.i r)/\Out H0 Ri H' (R0) λR=>True
def gZ.p (F:Nat) (dv:List Int) (ag:Int):Option (Int):=(iU.p F dv ag).bind λr2=>(bif (decide (r2<0)) then (some (-1)) else (some r2))
theorem gZ.P {F:Nat} {aa ag:Int} {gR:ON} {fm:Nat} {gS:Cap} {dv:List Int} {H:Hp} {R0:List Rs} (kU:fm=dv.length) (h0:Inn H R0 λR=>ROs (ae .i64) H R ⟨gR,fm,gS⟩ dv) {r:Int} (hp:gZ.p F dv ag=some r):∃ v H',gZ.tw F aa ⟨gR,fm,gS⟩ ag H=some (v,H')/\gZ.Q H R0 R0  r v H':=by
 obtain ⟨w0,iL⟩:=h0
 subst kU
 unfold gZ.p at hp
 unfold gZ.tw gZ.twX
 have s0:=w0.rf
 refine cJ w0 λH1 w1 s1=>?_
 refine ac (aH (w1.ld (i:=0) rfl rfl)) ?_
 obtain ⟨r2,e2,hp⟩:=ak hp
 refine aW (iU.P rfl ⟨w1,(iL.step s1)⟩ e2) ?_
 rintro _ H3 ⟨rfl,w3,s3,_⟩
 refine ac rfl ?_
 refine aZ hp (λhp=>?_) λhp=>?_
 ·obtain ⟨w4,s4⟩:=w3.pick' [] 1 rfl rfl rfl
  exact a_ hp ⟨rfl,w4,(s0.trans (s1.trans (s3.trans s4))),trivial⟩
 ·obtain ⟨w5,s5⟩:=w3.pick' [] 1 rfl rfl rfl
  exact a_ hp ⟨rfl,w5,(s0.trans (s1.trans (s3.trans s5))),trivial⟩
def dN.Q (H0:Hp) (Ri R0:List Rs)  (r:List Int) (v:AV) (H':Hp):Prop:=∃ o0a:ON,∃ o0n:Nat,∃ o0c:Cap,∃ o0k:List AV,v=(.sl ⟨o0a,o0n,o0c⟩)/\o0n=(r).length/\Out H0 Ri H' (Rs.own ⟨o0a,o0n,o0c⟩ (ae .i64).z o0k :: R0) λR=>CR (ae .i64) H' R o0k (r)
def dN.S29 (H0:Hp) (Ri R0:List Rs)  (C:Sl->Sl->Int->Hp->OA) (pC:List Int->List Int->Int->Option (List Int)):Prop:=∀ {mi qw:ON} {kV oR:Nat} {mj qx:Cap} {el lB:List Int} {qy:List AV} {ft:Int},∀ {H:Hp},kV=el.length->oR=lB.length->(Out H0 Ri H (Rs.own ⟨qw,oR,qx⟩ (ae .i64).z qy :: R0) λR=>ROs (ae .i64) H R ⟨mi,kV,mj⟩ el/\CR (ae .i64) H R qy lB)->∀ {r:List Int},pC el lB ft=some r->∃ v H',C ⟨mi,kV,mj⟩ ⟨qw,oR,qx⟩ ft H=some (v,H')/\dN.Q H0 Ri R0  r v H'
def dN.pl29 (F:Nat) :Nat->List Int->List Int->Int->Option (List Int)
 | 0,_,_,_=>none
 | k+1,el,lB,ft=>(bif (decide (ft<(el.length:Int))) then ((ix el ft).bind λn1=>(ix lB ft).bind λn2=>(some (lB.set n2 (gt el n1))).bind λl3=>dN.pl29 F k el l3 (IntKind.i64.wrap (ft+1))) else (some lB))
termination_by structural n=>n
theorem dN.l29_P {F:Nat} {H0:Hp} {Ri R0:List Rs}  :∀ k,dN.S29 H0 Ri R0  (dN.l29 F   k) (dN.pl29 F  k):=by
 intro k
 induction k with
 | zero=>unfold dN.S29;intros;rename_i hp;cases hp
 | succ k ih=>
  intro mi qw kV oR mj qx el lB qy ft H oS yh h0 r hp
  obtain ⟨w0,s0,lC,qz⟩:=h0
  subst oS
  subst yh
  unfold dN.pl29 at hp
  unfold dN.l29
  refine aZ hp (λhp=>?_) λhp=>?_
  ·obtain ⟨n1,g1,hp⟩:=ak hp
   obtain ⟨p1,q1,i1,h1,j1⟩:=ROs.ixr lC rfl g1
   refine ac i1 ?_
   have h1:_=[_]:=h1
   subst h1
   refine ac (ah (j1 0 _ rfl)) ?_
   obtain ⟨n2,g2,hp⟩:=ak hp
   obtain ⟨p2,q2,i2,h2,j2⟩:=W.ixo (E:=(ae .i64)) w0 (i:=0) rfl rfl qz g2
   refine ac i2 ?_
   obtain ⟨l3,e3,hp⟩:=ak hp
   refine jb (ae .i64) w0 (i:=0) (j:=0) (p:=p2) rfl rfl qz g2 i2 e3 rfl rfl (λ_ h=>by have h:_=[_]:=h;subst h;exact rfl) λH4 k4 w4 s4 c4=>?_
   exact ih rfl ((gb e3).symm) ⟨w4,(s0.trans s4),(lC.step s4),c4⟩ hp
  ·exact a_ hp ⟨_,_,_,_,rfl,rfl,w0,s0,qz⟩
def dN.p (F:Nat) (bO:List Int):Option (List Int):=(mkn (bO.length:Int) (0:Int)).bind λl1=>dN.pl29 F F bO l1 0
theorem dN.P {F:Nat} {eo:ON} {dz:Nat} {es:Cap} {bO:List Int} {H:Hp} {R0:List Rs} (hJ:dz=bO.length) (h0:Inn H R0 λR=>ROs (ae .i64) H R ⟨eo,dz,es⟩ bO) {r:List Int} (hp:dN.p F bO=some r):∃ v H',dN.tw F ⟨eo,dz,es⟩ H=some (v,H')/\dN.Q H R0 R0  r v H':=by
 obtain ⟨w0,iK⟩:=h0
 subst hJ
 unfold dN.p at hp
 unfold dN.tw dN.twX
 have s0:=w0.rf
 obtain ⟨l1,e1,hp⟩:=ak hp
 refine BU (ae .i64) (0:Int) w0 rfl rfl rfl e1 λH2 k2 w2 s2 c2=>?_
 exact dN.l29_P F rfl rfl ⟨w2,(s0.trans s2),(iK.step s2),c2⟩ hp
def fz.Q (H0:Hp) (Ri R0:List Rs)  (r:Int×List Int) (v:AV) (H':Hp):Prop:=∃ o1a:ON,∃ o1n:Nat,∃ o1c:Cap,∃ o1k:List AV,v=(.agg [(.i r.1),(.sl ⟨o1a,o1n,o1c⟩)])/\o1n=(r.2).length/\Out H0 Ri H' (Rs.own ⟨o1a,o1n,o1c⟩ (ae .i64).z o1k :: R0) λR=>CR (ae .i64) H' R o1k (r.2)
def fz.p (F:Nat) (aa:Int) (dv:List Int):Option (Int×List Int):=(dN.p F dv).bind λr5=>some (aa,r5)
theorem fz.P {F:Nat} {aa:Int} {gR:ON} {fm:Nat} {gS:Cap} {dv:List Int} {H:Hp} {R0:List Rs} (kU:fm=dv.length) (h0:Inn H R0 λR=>ROs (ae .i64) H R ⟨gR,fm,gS⟩ dv) {r:Int×List Int} (hp:fz.p F aa dv=some r):∃ v H',fz.tw F aa ⟨gR,fm,gS⟩ H=some (v,H')/\fz.Q H R0 R0  r v H':=by
 obtain ⟨w0,iL⟩:=h0
 subst kU
 unfold fz.p at hp
 unfold fz.tw fz.twX
 have s0:=w0.rf
 refine cJ w0 λH1 w1 s1=>?_
 refine cJ w1 λH2 w2 s2=>?_
 refine cJ w2 λH3 w3 s3=>?_
 refine ac (ah (w3.ld (i:=2) rfl rfl)) ?_
 refine bt w3 (i:=0) rfl rfl rfl λH4 w4 s4=>?_
 refine ac (aH (w4.ld (i:=2) rfl rfl)) ?_
 obtain ⟨r5,e5,hp⟩:=ak hp
 refine aW (dN.P rfl ⟨w4,(iL.step (s1.trans (s2.trans (s3.trans s4))))⟩ e5) ?_
 rintro _ H6 ⟨o0a_6,o0n_6,o0c_6,o0k_6,rfl,rfl,w6,s6,f6_0⟩
 refine ac rfl ?_
 refine bt w6 (i:=1) rfl rfl rfl λH7 w7 s7=>?_
 refine ac (ah (w7.ld (i:=1) rfl rfl)) ?_
 refine ac (aH (w7.ld (i:=1) rfl rfl)) ?_
 refine bt w7 (i:=2) rfl rfl rfl λH8 w8 s8=>?_
 dsimp only [pk,pks,nth,List.drop,List.set,List.eraseIdx] at w8 s4 s7 s8
 refine bt w8 (i:=2) rfl rfl rfl λH9 w9 s9=>?_
 refine ac (ah (w9.ld (i:=2) rfl rfl)) ?_
 refine ac (aH (w9.ld (i:=2) rfl rfl)) ?_
 obtain ⟨w10,s10⟩:=w9.pick' [0] 4 rfl rfl rfl
 exact a_ hp ⟨_,_,_,_,rfl,rfl,w10,(s0.trans (s1.trans (s2.trans (s3.trans (s4.trans (s6.trans (s7.trans (s8.trans (s9.trans s10))))))))),(f6_0.step (s7.trans (s8.trans (s9.trans s10))))⟩
def gU.Q (H0:Hp) (Ri R0:List Rs)  (r:Bool) (v:AV) (H':Hp):Prop:=v=(.bool r)/\Out H0 Ri H' (R0) λR=>True
def gU.p (F:Nat) (aa:Int) (au:Int) (dA:Int):Option (Bool):=(bif (decide (aa>=au)) then (some (decide (aa<=dA))) else (some false))
theorem gU.P {F:Nat} {aa au dA:Int} {H:Hp} {R0:List Rs}  (h0:Inn H R0 λR=>True) {r:Bool} (hp:gU.p F aa au dA=some r):∃ v H',gU.tw F aa au dA H=some (v,H')/\gU.Q H R0 R0  r v H':=by
 obtain ⟨w0,_⟩:=h0
 unfold gU.p at hp
 unfold gU.tw gU.twX
 have s0:=w0.rf
 refine aZ hp (λhp=>?_) λhp=>?_
 ·exact a_ hp ⟨rfl,w0,s0,trivial⟩
 ·exact a_ hp ⟨rfl,w0,s0,trivial⟩
def cu.Q (H0:Hp) (Ri R0:List Rs)  (r:Bool) (v:AV) (H':Hp):Prop:=v=(.bool r)/\Out H0 Ri H' (R0) λR=>True
def cu.S13 (H0:Hp) (Ri R0:List Rs)  (C:Nat->Nat->Int->Hp->OA) (pC:Int->List Int->Int->Option (Bool)):Prop:=∀ {qA iW:Int} {yi:ON} {vY dq:Nat} {yj:Cap} {ma:List Int},∀ {H:Hp},vY=ma.length->(Out H0 Ri H (Rs.blk dq [.i qA,.sl ⟨yi,vY,yj⟩] :: R0) λR=>ROs (ae .i64) H R ⟨yi,vY,yj⟩ ma)->∀ {r:Bool},pC qA ma iW=some r->∃ v H',C dq 0 iW H=some (v,H')/\cu.Q H0 Ri R0  r v H'
def cu.pj1 (F:Nat)  (vZ:Int) (uD:List Int):Option (Bool):=(gU.p F vZ 0 48).bind λr1=>(bif r1 then (some (decide ((uD.length:Int)<=48))) else (some false))
theorem cu.j1_P {F:Nat} {H0:Hp} {Ri R0:List Rs}   {vZ:Int} {CD:ON} {yk uA:Nat} {CE:Cap} {uD:List Int} {H:Hp} (IS:yk=uD.length) (h0:Out H0 Ri H (Rs.blk uA [.i vZ,.sl ⟨CD,yk,CE⟩] :: R0) λR=>ROs (ae .i64) H R ⟨CD,yk,CE⟩ uD) {r:Bool} (hp:cu.pj1 F  vZ uD=some r):∃ v H',cu.j1 F (gU.tw F)  uA 0 H=some (v,H')/\cu.Q H0 Ri R0  r v H':=by
 obtain ⟨w0,s0,Nw⟩:=h0
 subst IS
 unfold cu.pj1 at hp
 unfold cu.j1
 refine ac (ah (w0.ld (i:=0) rfl rfl)) ?_
 obtain ⟨r1,e1,hp⟩:=ak hp
 refine aW (gU.P ⟨w0,trivial⟩ e1) ?_
 rintro _ H2 ⟨rfl,w2,s2,_⟩
 refine ac rfl ?_
 refine aZ hp (λhp=>?_) λhp=>?_
 ·refine ac (aH (w2.ld (i:=0) rfl rfl)) ?_
  obtain ⟨w3,s3⟩:=w2.pick' [] 1 rfl rfl rfl
  exact a_ hp ⟨rfl,w3,(s0.trans (s2.trans s3)),trivial⟩
 ·obtain ⟨w4,s4⟩:=w2.pick' [] 1 rfl rfl rfl
  exact a_ hp ⟨rfl,w4,(s0.trans (s2.trans s4)),trivial⟩
def cu.pl13 (F:Nat) :Nat->Int->List Int->Int->Option (Bool)
 | 0,_,_,_=>none
 | k+1,qA,ma,iW=>(bif (decide (iW<(ma.length:Int))) then ((ix ma iW).bind λn1=>(gU.p F (gt ma n1) 2 1000000000000).bind λr2=>(bif (!r2) then (some false) else ((bif (decide (iW>0)) then ((ix ma iW).bind λn5=>(ix ma (IntKind.i64.wrap (iW - 1))).bind λn6=>(if (gt ma n6)=0 then none else ((bif ((Int.tmod (gt ma n5) (gt ma n6)) != 0) then (some false) else (cu.pl13 F k qA ma (IntKind.i64.wrap (iW+1))))))) else (cu.pl13 F k qA ma (IntKind.i64.wrap (iW+1))))))) else (cu.pj1 F qA ma))
termination_by structural n=>n
theorem cu.l13_P {F:Nat} {H0:Hp} {Ri R0:List Rs}  :∀ k,cu.S13 H0 Ri R0  (cu.l13 F (gU.tw F)  k) (cu.pl13 F  k):=by
 intro k
 induction k with
 | zero=>unfold cu.S13;intros;rename_i hp;cases hp
 | succ k ih=>
  intro qA iW yi vY dq yj ma H IT h0 r hp
  obtain ⟨w0,s0,tH⟩:=h0
  subst IT
  unfold cu.pl13 at hp
  unfold cu.l13
  refine ac (aH (w0.ld (i:=0) rfl rfl)) ?_
  refine aZ hp (λhp=>?_) λhp=>?_
  ·refine ac (aH (w0.ld (i:=0) rfl rfl)) ?_
   obtain ⟨n1,g1,hp⟩:=ak hp
   obtain ⟨p1,q1,i1,h1,j1⟩:=ROs.ixr tH rfl g1
   refine ac i1 ?_
   have h1:_=[_]:=h1
   subst h1
   refine ac (ah (j1 0 _ rfl)) ?_
   obtain ⟨r2,e2,hp⟩:=ak hp
   refine aW (gU.P ⟨w0,trivial⟩ e2) ?_
   rintro _ H3 ⟨rfl,w3,s3,_⟩
   refine ac rfl ?_
   refine aZ hp (λhp=>?_) λhp=>?_
   ·obtain ⟨w4,s4⟩:=w3.pick' [] 1 rfl rfl rfl
    exact a_ hp ⟨rfl,w4,(s0.trans (s3.trans s4)),trivial⟩
   ·refine aZ hp (λhp=>?_) λhp=>?_
    ·refine ac (aH (w3.ld (i:=0) rfl rfl)) ?_
     obtain ⟨n5,g5,hp⟩:=ak hp
     obtain ⟨p5,q5,i5,h5,j5⟩:=ROs.ixr (tH.step s3) rfl g5
     refine ac i5 ?_
     have h5:_=[_]:=h5
     subst h5
     refine ac (ah (j5 0 _ rfl)) ?_
     refine ac (aH (w3.ld (i:=0) rfl rfl)) ?_
     obtain ⟨n6,g6,hp⟩:=ak hp
     obtain ⟨p6,q6,i6,h6,j6⟩:=ROs.ixr (tH.step s3) rfl g6
     refine ac i6 ?_
     have h6:_=[_]:=h6
     subst h6
     refine ac (ah (j6 0 _ rfl)) ?_
     obtain ⟨g7,hp⟩:=oh hp
     refine ol g7 ?_
     refine aZ hp (λhp=>?_) λhp=>?_
     ·obtain ⟨w8,s8⟩:=w3.pick' [] 1 rfl rfl rfl
      exact a_ hp ⟨rfl,w8,(s0.trans (s3.trans s8)),trivial⟩
     ·exact ih rfl ⟨w3,(s0.trans s3),(tH.step s3)⟩ hp
    ·exact ih rfl ⟨w3,(s0.trans s3),(tH.step s3)⟩ hp
  ·exact cu.j1_P rfl ⟨w0,s0,tH⟩ hp
def cu.p (F:Nat) (aa:Int) (dv:List Int):Option (Bool):=cu.pl13 F F aa dv 0
theorem cu.P {F:Nat} {aa:Int} {gR:ON} {fm:Nat} {gS:Cap} {dv:List Int} {H:Hp} {R0:List Rs} (kU:fm=dv.length) (h0:Inn H R0 λR=>ROs (ae .i64) H R ⟨gR,fm,gS⟩ dv) {r:Bool} (hp:cu.p F aa dv=some r):∃ v H',cu.tw F aa ⟨gR,fm,gS⟩ H=some (v,H')/\cu.Q H R0 R0  r v H':=by
 obtain ⟨w0,iL⟩:=h0
 subst kU
 unfold cu.p at hp
 unfold cu.tw cu.twX
 have s0:=w0.rf
 refine cJ w0 λH1 w1 s1=>?_
 exact cu.l13_P F rfl ⟨w1,(s0.trans s1),(iL.step s1)⟩ hp
def fZ.Q (H0:Hp) (Ri R0:List Rs)  (r:Int×Int×List Int) (v:AV) (H':Hp):Prop:=∃ o2a:ON,∃ o2n:Nat,∃ o2k:List AV,v=(.agg [(.i r.1),(.i r.2.1),(.sl ⟨o2a,o2n,.ex o2n⟩)])/\o2n=(r.2.2).length/\Out H0 Ri H' (Rs.own ⟨o2a,o2n,.ex o2n⟩ (ae .i64).z o2k :: R0) λR=>CR (ae .i64) H' R o2k (r.2.2)
def fZ.p (F:Nat) (aa:Int) (au:Int):Option (Int×Int×List Int):=(mkn (IntKind.i64.wrap (aa * au)) (0:Int)).bind λl2=>some (aa,au,l2)
theorem fZ.P {F:Nat} {aa au:Int} {H:Hp} {R0:List Rs}  (h0:Inn H R0 λR=>True) {r:Int×Int×List Int} (hp:fZ.p F aa au=some r):∃ v H',fZ.tw F aa au H=some (v,H')/\fZ.Q H R0 R0  r v H':=by
 obtain ⟨w0,_⟩:=h0
 unfold fZ.p at hp
 unfold fZ.tw fZ.twX
 have s0:=w0.rf
 refine cJ w0 λH1 w1 s1=>?_
 obtain ⟨l2,e2,hp⟩:=ak hp
 refine BU (ae .i64) (0:Int) w1 rfl rfl rfl e2 λH3 k3 w3 s3 c3=>?_
 refine bt w3 (i:=1) rfl rfl rfl λH4 w4 s4=>?_
 refine bt w4 (i:=1) rfl rfl rfl λH5 w5 s5=>?_
 refine bt w5 (i:=1) rfl rfl rfl λH6 w6 s6=>?_
 dsimp only [pk,pks,nth,List.drop,List.set,List.eraseIdx] at w6 s4 s5 s6
 refine ac (ah (w6.ld (i:=1) rfl rfl)) ?_
 refine ac (ah (w6.ld (i:=1) rfl rfl)) ?_
 refine ac (aH (w6.ld (i:=1) rfl rfl)) ?_
 obtain ⟨w7,s7⟩:=w6.pick' [0] 2 rfl rfl rfl
 exact a_ hp ⟨_,_,_,rfl,rfl,w7,(s0.trans (s1.trans (s3.trans (s4.trans (s5.trans (s6.trans s7)))))),(c3.step (s4.trans (s5.trans (s6.trans s7))))⟩
def dc.Q (H0:Hp) (Ri R0:List Rs)  (r:Int×Int×List Int) (v:AV) (H':Hp):Prop:=∃ o2a:ON,∃ o2n:Nat,∃ o2c:Cap,∃ o2k:List AV,v=(.agg [(.i r.1),(.i r.2.1),(.sl ⟨o2a,o2n,o2c⟩)])/\o2n=(r.2.2).length/\Out H0 Ri H' (Rs.own ⟨o2a,o2n,o2c⟩ (ae .i64).z o2k :: R0) λR=>CR (ae .i64) H' R o2k (r.2.2)
def dc.S29 (H0:Hp) (Ri R0:List Rs)  (C:Int->Nat->Nat->Nat->Nat->Int->Hp->OA) (pC:Int->Int->Int->List Int->Int->Option (Int×Int×List Int)):Prop:=∀ {lj uE uF mT mI kg:Int} {qB qC:ON} {oT dj oU gq:Nat} {qD qE:Cap} {qF lD:List Int} {qG qH:List AV},∀ {H:Hp},oT=qF.length->oU=lD.length->(Out H0 Ri H (Rs.own ⟨qB,oT,qD⟩ (ae .i64).z qG :: Rs.blk dj [.i uE,.i uF,.sl ⟨qB,oT,qD⟩] :: Rs.own ⟨qC,oU,qE⟩ (ae .i64).z qH :: Rs.blk gq [.i mT,.i mI,.sl ⟨qC,oU,qE⟩] :: R0) λR=>CR (ae .i64) H R qG qF/\CR (ae .i64) H R qH lD)->∀ {r:Int×Int×List Int},pC lj mT mI lD kg=some r->∃ v H',C lj dj 0 gq 0 kg H=some (v,H')/\dc.Q H0 Ri R0  r v H'
def dc.pl29 (F:Nat) :Nat->Int->Int->Int->List Int->Int->Option (Int×Int×List Int)
 | 0,_,_,_,_,_=>none
 | k+1,lj,mT,mI,lD,kg=>(bif (decide (kg<lj)) then ((ix lD (IntKind.i64.wrap ((IntKind.i64.wrap (kg * lj))+kg))).bind λn1=>(some (lD.set n1 1)).bind λl2=>dc.pl29 F k lj mT mI l2 (IntKind.i64.wrap (kg+1))) else (some (mT,mI,lD)))
termination_by structural n=>n
theorem dc.l29_P {F:Nat} {H0:Hp} {Ri R0:List Rs}  :∀ k,dc.S29 H0 Ri R0  (dc.l29 F (fZ.tw F)  k) (dc.pl29 F  k):=by
 intro k
 induction k with
 | zero=>unfold dc.S29;intros;rename_i hp;cases hp
 | succ k ih=>
  intro lj uE uF mT mI kg qB qC oT dj oU gq qD qE qF lD qG qH H ym yn h0 r hp
  obtain ⟨w0,s0,yo,qI⟩:=h0
  subst ym
  subst yn
  unfold dc.pl29 at hp
  unfold dc.l29
  refine aZ hp (λhp=>?_) λhp=>?_
  ·refine ac (aH (w0.ld (i:=3) rfl rfl)) ?_
   obtain ⟨n1,g1,hp⟩:=ak hp
   obtain ⟨p1,q1,i1,h1,j1⟩:=W.ixo (E:=(ae .i64)) w0 (i:=2) rfl rfl qI g1
   refine ac i1 ?_
   obtain ⟨l2,e2,hp⟩:=ak hp
   refine jb (ae .i64) w0 (i:=2) (j:=0) (p:=p1) rfl rfl qI g1 i1 e2 rfl rfl (λ_ h=>by have h:_=[_]:=h;subst h;exact rfl) λH3 k3 w3 s3 c3=>?_
   exact ih rfl ((gb e2).symm) ⟨w3,(s0.trans s3),(yo.step s3),c3⟩ hp
  ·refine ac (ah (w0.ld (i:=3) rfl rfl)) ?_
   refine ac (ah (w0.ld (i:=3) rfl rfl)) ?_
   refine ac (aH (w0.ld (i:=3) rfl rfl)) ?_
   refine bt w0 (i:=1) rfl rfl rfl λH4 w4 s4=>?_
   refine bt w4 (i:=1) rfl rfl rfl λH5 w5 s5=>?_
   refine bt w5 (i:=1) rfl rfl rfl λH6 w6 s6=>?_
   dsimp only [pk,pks,nth,List.drop,List.set,List.eraseIdx] at w6 s4 s5 s6
   refine ac (ah (w6.ld (i:=1) rfl rfl)) ?_
   refine ac (ah (w6.ld (i:=1) rfl rfl)) ?_
   refine ac (aH (w6.ld (i:=1) rfl rfl)) ?_
   obtain ⟨w7,s7⟩:=w6.pick' [2] 4 rfl rfl rfl
   exact a_ hp ⟨_,_,_,_,rfl,rfl,w7,(s0.trans (s4.trans (s5.trans (s6.trans s7)))),(qI.step (s4.trans (s5.trans (s6.trans s7))))⟩
def dc.p (F:Nat) (aa:Int):Option (Int×Int×List Int):=(fZ.p F aa aa).bind λr2=>dc.pl29 F F aa r2.1 r2.2.1 r2.2.2 0
theorem dc.P {F:Nat} {aa:Int} {H:Hp} {R0:List Rs}  (h0:Inn H R0 λR=>True) {r:Int×Int×List Int} (hp:dc.p F aa=some r):∃ v H',dc.tw F aa H=some (v,H')/\dc.Q H R0 R0  r v H':=by
 obtain ⟨w0,_⟩:=h0
 unfold dc.p at hp
 unfold dc.tw dc.twX
 have s0:=w0.rf
 refine cJ w0 λH1 w1 s1=>?_
 obtain ⟨r2,e2,hp⟩:=ak hp
 refine aW (fZ.P ⟨w1,trivial⟩ e2) ?_
 rintro _ H3 ⟨o2a_3,o2n_3,o2k_3,rfl,rfl,w3,s3,f3_0⟩
 refine ac rfl ?_
 refine ac rfl ?_
 refine ac rfl ?_
 refine ac rfl ?_
 refine ac rfl ?_
 refine ac rfl ?_
 refine ac rfl ?_
 refine cJ w3 λH4 w4 s4=>?_
 refine bt w4 (i:=0) rfl rfl rfl λH5 w5 s5=>?_
 refine bt w5 (i:=0) rfl rfl rfl λH6 w6 s6=>?_
 refine bt w6 (i:=0) rfl rfl rfl λH7 w7 s7=>?_
 dsimp only [pk,pks,nth,List.drop,List.set,List.eraseIdx] at w7 s5 s6 s7
 obtain ⟨w8,s8⟩:=w7.nilS (ae .i64).z (by decide)
 obtain ⟨w9,s9⟩:=w8.pick' [0,3,2,1] 4 rfl rfl rfl
 exact dc.l29_P F rfl rfl ⟨w9,(s0.trans (s1.trans (s3.trans (s4.trans (s5.trans (s6.trans (s7.trans (s8.trans s9)))))))),((CR.empty:CR (ae .i64) _ _ [] []).step s9),(f3_0.step (s4.trans (s5.trans (s6.trans (s7.trans (s8.trans s9))))))⟩ hp
def bo.Q (H0:Hp) (Ri R0:List Rs)  (r:Int) (v:AV) (H':Hp):Prop:=v=(.i r)/\Out H0 Ri H' (R0) λR=>True
def bo.p (F:Nat) (af:Int) (dG:List Int) (aw:Int) (bN:Int):Option (Int):=(ix dG (IntKind.i64.wrap ((IntKind.i64.wrap (aw * af))+bN))).bind λn2=>some (gt dG n2)
theorem bo.P {F:Nat} {aa af aw bN:Int} {eK:ON} {dM:Nat} {eL:Cap} {dG:List Int} {H:Hp} {R0:List Rs} (kb:dM=dG.length) (h0:Inn H R0 λR=>ROs (ae .i64) H R ⟨eK,dM,eL⟩ dG) {r:Int} (hp:bo.p F af dG aw bN=some r):∃ v H',bo.tw F aa af ⟨eK,dM,eL⟩ aw bN H=some (v,H')/\bo.Q H R0 R0  r v H':=by
 obtain ⟨w0,jv⟩:=h0
 subst kb
 unfold bo.p at hp
 unfold bo.tw bo.twX
 have s0:=w0.rf
 refine cJ w0 λH1 w1 s1=>?_
 refine ac (aH (w1.ld (i:=0) rfl rfl)) ?_
 refine ac (ah (w1.ld (i:=0) rfl rfl)) ?_
 obtain ⟨n2,g2,hp⟩:=ak hp
 obtain ⟨p2,q2,i2,h2,j2⟩:=ROs.ixr (jv.step s1) rfl g2
 refine ac i2 ?_
 have h2:_=[_]:=h2
 subst h2
 refine ac (ah (j2 0 _ rfl)) ?_
 obtain ⟨w3,s3⟩:=w1.pick' [] 1 rfl rfl rfl
 exact a_ hp ⟨rfl,w3,(s0.trans (s1.trans s3)),trivial⟩
def en.Q (H0:Hp) (Ri R0:List Rs)  (r:Int) (v:AV) (H':Hp):Prop:=v=(.i r)/\Out H0 Ri H' (R0) λR=>True
def en.p (F:Nat) (aa:Int):Option (Int):=some (if (IntKind.i64.wrap (0 - aa))>aa then (IntKind.i64.wrap (0 - aa)) else aa)
theorem en.P {F:Nat} {aa:Int} {H:Hp} {R0:List Rs}  (h0:Inn H R0 λR=>True) {r:Int} (hp:en.p F aa=some r):∃ v H',en.tw F aa H=some (v,H')/\en.Q H R0 R0  r v H':=by
 obtain ⟨w0,_⟩:=h0
 unfold en.p at hp
 unfold en.tw en.twX
 have s0:=w0.rf
 exact a_ hp ⟨rfl,w0,s0,trivial⟩
def cD.Q (H0:Hp) (Ri R0:List Rs) (eK:ON) (dM:Nat) (eL:Cap) (jw:Bool) (jx jy:List AV) (r:List Int) (v:AV) (H':Hp):Prop:=∃ nB:List AV,v=(.tup [])/\dM=(r).length/\Out H0 Ri H' (Rs.ow jw ⟨eK,dM,eL⟩ (ae .i64).z jx nB jy :: R0) λR=>CR (ae .i64) H' R nB (r)
def cD.S7 (H0:Hp) (Ri R0:List Rs) (jz:ON) (iM:Nat) (jA:Cap) (kW:Bool) (kX kY:List AV) (C:Int->Int->Nat->Nat->Int->Hp->OA) (pC:Int->Int->Int->List Int->Int->Option (List Int)):Prop:=∀ {gc gd oV kC eF:Int} {kc:List Int} {qJ:List AV} {eO:Nat},∀ {H:Hp},iM=kc.length->(Out H0 Ri H (Rs.ow kW ⟨jz,iM,jA⟩ (ae .i64).z kX qJ kY :: Rs.blk eO [.i oV,.i kC,.sl ⟨jz,iM,jA⟩] :: R0) λR=>CR (ae .i64) H R qJ kc)->∀ {r:List Int},pC gc gd kC kc eF=some r->∃ v H',C gc gd eO 0 eF H=some (v,H')/\cD.Q H0 Ri R0 jz iM jA kW kX kY r v H'
def cD.pl7 (F:Nat) :Nat->Int->Int->Int->List Int->Int->Option (List Int)
 | 0,_,_,_,_,_=>none
 | k+1,gc,gd,kC,kc,eF=>(bif (decide (eF<kC)) then ((bo.p F kC kc gc eF).bind λr2=>(bo.p F kC kc gd eF).bind λr6=>(ix kc (IntKind.i64.wrap ((IntKind.i64.wrap (gc * kC))+eF))).bind λn10=>(some (kc.set n10 r6)).bind λl11=>(ix l11 (IntKind.i64.wrap ((IntKind.i64.wrap (gd * kC))+eF))).bind λn13=>(some (l11.set n13 r2)).bind λl14=>cD.pl7 F k gc gd kC l14 (IntKind.i64.wrap (eF+1))) else (some kc))
termination_by structural n=>n
theorem cD.l7_P {F:Nat} {H0:Hp} {Ri R0:List Rs} {jz:ON} {iM:Nat} {jA:Cap} {kW:Bool} {kX kY:List AV} :∀ k,cD.S7 H0 Ri R0 jz iM jA kW kX kY (cD.l7 F (bo.tw F)  k) (cD.pl7 F  k):=by
 intro k
 induction k with
 | zero=>unfold cD.S7;intros;rename_i hp;cases hp
 | succ k ih=>
  intro gc gd oV kC eF kc qJ eO H yp h0 r hp
  obtain ⟨w0,s0,nC⟩:=h0
  subst yp
  unfold cD.pl7 at hp
  unfold cD.l7
  refine ac (ah (w0.ld (i:=1) rfl rfl)) ?_
  refine aZ hp (λhp=>?_) λhp=>?_
  ·refine ac (ah (w0.ld (i:=1) rfl rfl)) ?_
   refine ac (ah (w0.ld (i:=1) rfl rfl)) ?_
   refine ac (aH (w0.ld (i:=1) rfl rfl)) ?_
   have f1:=W.borrow1 (ae .i64) w0 nC
   obtain ⟨w1,s1⟩:=w0.right1
   obtain ⟨r2,e2,hp⟩:=ak hp
   refine aW (bo.P rfl ⟨w1,f1⟩ e2) ?_
   rintro _ H3 ⟨rfl,w3,s3,_⟩
   obtain ⟨w4,s4⟩:=W.frame1 w0 w3 s3
   refine ac rfl ?_
   refine ac (aH (w4.ld (i:=1) rfl rfl)) ?_
   refine ac (ah (w4.ld (i:=1) rfl rfl)) ?_
   refine ac (ah (w4.ld (i:=1) rfl rfl)) ?_
   refine ac (ah (w4.ld (i:=1) rfl rfl)) ?_
   refine ac (aH (w4.ld (i:=1) rfl rfl)) ?_
   have f5:=W.borrow1 (ae .i64) w4 (nC.step s4)
   obtain ⟨w5,s5⟩:=w4.right1
   obtain ⟨r6,e6,hp⟩:=ak hp
   refine aW (bo.P rfl ⟨w5,f5⟩ e6) ?_
   rintro _ H7 ⟨rfl,w7,s7,_⟩
   obtain ⟨w8,s8⟩:=W.frame1 w4 w7 s7
   refine ac rfl ?_
   refine fq (W.cons_of (Rn:=[]) w5 w7 s7) ?_
   obtain ⟨n10,g10,hp⟩:=ak hp
   obtain ⟨p10,q10,i10,h10,j10⟩:=W.ixo (E:=(ae .i64)) w8 (i:=0) rfl rfl (nC.step (s4.trans s8)) g10
   refine ac i10 ?_
   obtain ⟨l11,e11,hp⟩:=ak hp
   refine jb (ae .i64) w8 (i:=0) (j:=0) (p:=p10) rfl rfl (nC.step (s4.trans s8)) g10 i10 e11 rfl rfl (λ_ h=>by have h:_=[_]:=h;subst h;exact rfl) λH12 k12 w12 s12 c12=>?_
   refine ac (aH (w12.ld (i:=1) rfl rfl)) ?_
   refine ac (ah (w12.ld (i:=1) rfl rfl)) ?_
   obtain ⟨n13,g13,hp⟩:=ak hp
   obtain ⟨p13,q13,i13,h13,j13⟩:=W.ixo (E:=(ae .i64)) w12 (i:=0) rfl rfl c12 g13
   refine ac i13 ?_
   obtain ⟨l14,e14,hp⟩:=ak hp
   refine jb (ae .i64) w12 (i:=0) (j:=0) (p:=p13) rfl rfl c12 g13 i13 e14 rfl rfl (λ_ h=>by have h:_=[_]:=h;subst h;exact rfl) λH15 k15 w15 s15 c15=>?_
   exact ih ((gb e11).symm.trans (gb e14).symm) ⟨w15,(s0.trans (s4.trans (s8.trans (s12.trans s15)))),c15⟩ hp
  ·obtain ⟨w16,s16⟩:=w0.pick' [0] 2 rfl rfl rfl
   exact a_ hp ⟨_,rfl,rfl,w16,(s0.trans s16),(nC.step s16)⟩
def cD.p (F:Nat) (af:Int) (dG:List Int) (aw:Int) (bN:Int):Option (List Int):=cD.pl7 F F aw bN af dG 0
theorem cD.P {F:Nat} {aa af aw bN:Int} {eK:ON} {dM:Nat} {eL:Cap} {dG:List Int} {jw:Bool} {jx jy ml:List AV} {H:Hp} {R0:List Rs} (kb:dM=dG.length) (h0:Inn H (Rs.ow jw ⟨eK,dM,eL⟩ (ae .i64).z jx ml jy :: R0) λR=>CR (ae .i64) H R ml dG) {r:List Int} (hp:cD.p F af dG aw bN=some r):∃ v H',cD.tw F aa af ⟨eK,dM,eL⟩ aw bN H=some (v,H')/\cD.Q H (Rs.ow jw ⟨eK,dM,eL⟩ (ae .i64).z jx ml jy :: R0) R0 eK dM eL jw jx jy r v H':=by
 obtain ⟨w0,jv⟩:=h0
 subst kb
 unfold cD.p at hp
 unfold cD.tw cD.twX
 have s0:=w0.rf
 refine cJ w0 λH1 w1 s1=>?_
 obtain ⟨w2,s2⟩:=w1.pick' [1,0] 2 rfl rfl rfl
 exact cD.l7_P F rfl ⟨w2,(s0.trans (s1.trans s2)),(jv.step (s1.trans s2))⟩ hp
def cE.Q (H0:Hp) (Ri R0:List Rs) (eK:ON) (dM:Nat) (eL:Cap) (jw:Bool) (jx jy:List AV) (r:List Int) (v:AV) (H':Hp):Prop:=∃ nB:List AV,v=(.tup [])/\dM=(r).length/\Out H0 Ri H' (Rs.ow jw ⟨eK,dM,eL⟩ (ae .i64).z jx nB jy :: R0) λR=>CR (ae .i64) H' R nB (r)
def cE.S7 (H0:Hp) (Ri R0:List Rs) (jz:ON) (iM:Nat) (jA:Cap) (kW:Bool) (kX kY:List AV) (C:Int->Int->Nat->Nat->Int->Hp->OA) (pC:Int->Int->Int->Int->List Int->Int->Option (List Int)):Prop:=∀ {gc gd oV kC eF:Int} {kc:List Int} {qJ:List AV} {eO:Nat},∀ {H:Hp},iM=kc.length->(Out H0 Ri H (Rs.ow kW ⟨jz,iM,jA⟩ (ae .i64).z kX qJ kY :: Rs.blk eO [.i oV,.i kC,.sl ⟨jz,iM,jA⟩] :: R0) λR=>CR (ae .i64) H R qJ kc)->∀ {r:List Int},pC gc gd oV kC kc eF=some r->∃ v H',C gc gd eO 0 eF H=some (v,H')/\cE.Q H0 Ri R0 jz iM jA kW kX kY r v H'
def cE.pl7 (F:Nat) :Nat->Int->Int->Int->Int->List Int->Int->Option (List Int)
 | 0,_,_,_,_,_,_=>none
 | k+1,gc,gd,oV,kC,kc,eF=>(bif (decide (eF<oV)) then ((bo.p F kC kc eF gc).bind λr2=>(bo.p F kC kc eF gd).bind λr6=>(ix kc (IntKind.i64.wrap ((IntKind.i64.wrap (eF * kC))+gc))).bind λn10=>(some (kc.set n10 r6)).bind λl11=>(ix l11 (IntKind.i64.wrap ((IntKind.i64.wrap (eF * kC))+gd))).bind λn13=>(some (l11.set n13 r2)).bind λl14=>cE.pl7 F k gc gd oV kC l14 (IntKind.i64.wrap (eF+1))) else (some kc))
termination_by structural n=>n
theorem cE.l7_P {F:Nat} {H0:Hp} {Ri R0:List Rs} {jz:ON} {iM:Nat} {jA:Cap} {kW:Bool} {kX kY:List AV} :∀ k,cE.S7 H0 Ri R0 jz iM jA kW kX kY (cE.l7 F (bo.tw F)  k) (cE.pl7 F  k):=by
 intro k
 induction k with
 | zero=>unfold cE.S7;intros;rename_i hp;cases hp
 | succ k ih=>
  intro gc gd oV kC eF kc qJ eO H yp h0 r hp
  obtain ⟨w0,s0,nC⟩:=h0
  subst yp
  unfold cE.pl7 at hp
  unfold cE.l7
  refine ac (ah (w0.ld (i:=1) rfl rfl)) ?_
  refine aZ hp (λhp=>?_) λhp=>?_
  ·refine ac (ah (w0.ld (i:=1) rfl rfl)) ?_
   refine ac (ah (w0.ld (i:=1) rfl rfl)) ?_
   refine ac (aH (w0.ld (i:=1) rfl rfl)) ?_
   have f1:=W.borrow1 (ae .i64) w0 nC
   obtain ⟨w1,s1⟩:=w0.right1
   obtain ⟨r2,e2,hp⟩:=ak hp
   refine aW (bo.P rfl ⟨w1,f1⟩ e2) ?_
   rintro _ H3 ⟨rfl,w3,s3,_⟩
   obtain ⟨w4,s4⟩:=W.frame1 w0 w3 s3
   refine ac rfl ?_
   refine ac (aH (w4.ld (i:=1) rfl rfl)) ?_
   refine ac (ah (w4.ld (i:=1) rfl rfl)) ?_
   refine ac (ah (w4.ld (i:=1) rfl rfl)) ?_
   refine ac (ah (w4.ld (i:=1) rfl rfl)) ?_
   refine ac (aH (w4.ld (i:=1) rfl rfl)) ?_
   have f5:=W.borrow1 (ae .i64) w4 (nC.step s4)
   obtain ⟨w5,s5⟩:=w4.right1
   obtain ⟨r6,e6,hp⟩:=ak hp
   refine aW (bo.P rfl ⟨w5,f5⟩ e6) ?_
   rintro _ H7 ⟨rfl,w7,s7,_⟩
   obtain ⟨w8,s8⟩:=W.frame1 w4 w7 s7
   refine ac rfl ?_
   refine fq (W.cons_of (Rn:=[]) w5 w7 s7) ?_
   obtain ⟨n10,g10,hp⟩:=ak hp
   obtain ⟨p10,q10,i10,h10,j10⟩:=W.ixo (E:=(ae .i64)) w8 (i:=0) rfl rfl (nC.step (s4.trans s8)) g10
   refine ac i10 ?_
   obtain ⟨l11,e11,hp⟩:=ak hp
   refine jb (ae .i64) w8 (i:=0) (j:=0) (p:=p10) rfl rfl (nC.step (s4.trans s8)) g10 i10 e11 rfl rfl (λ_ h=>by have h:_=[_]:=h;subst h;exact rfl) λH12 k12 w12 s12 c12=>?_
   refine ac (aH (w12.ld (i:=1) rfl rfl)) ?_
   refine ac (ah (w12.ld (i:=1) rfl rfl)) ?_
   obtain ⟨n13,g13,hp⟩:=ak hp
   obtain ⟨p13,q13,i13,h13,j13⟩:=W.ixo (E:=(ae .i64)) w12 (i:=0) rfl rfl c12 g13
   refine ac i13 ?_
   obtain ⟨l14,e14,hp⟩:=ak hp
   refine jb (ae .i64) w12 (i:=0) (j:=0) (p:=p13) rfl rfl c12 g13 i13 e14 rfl rfl (λ_ h=>by have h:_=[_]:=h;subst h;exact rfl) λH15 k15 w15 s15 c15=>?_
   exact ih ((gb e11).symm.trans (gb e14).symm) ⟨w15,(s0.trans (s4.trans (s8.trans (s12.trans s15)))),c15⟩ hp
  ·obtain ⟨w16,s16⟩:=w0.pick' [0] 2 rfl rfl rfl
   exact a_ hp ⟨_,rfl,rfl,w16,(s0.trans s16),(nC.step s16)⟩
def cE.p (F:Nat) (aa:Int) (af:Int) (dG:List Int) (aw:Int) (bN:Int):Option (List Int):=cE.pl7 F F aw bN aa af dG 0
theorem cE.P {F:Nat} {aa af aw bN:Int} {eK:ON} {dM:Nat} {eL:Cap} {dG:List Int} {jw:Bool} {jx jy ml:List AV} {H:Hp} {R0:List Rs} (kb:dM=dG.length) (h0:Inn H (Rs.ow jw ⟨eK,dM,eL⟩ (ae .i64).z jx ml jy :: R0) λR=>CR (ae .i64) H R ml dG) {r:List Int} (hp:cE.p F aa af dG aw bN=some r):∃ v H',cE.tw F aa af ⟨eK,dM,eL⟩ aw bN H=some (v,H')/\cE.Q H (Rs.ow jw ⟨eK,dM,eL⟩ (ae .i64).z jx ml jy :: R0) R0 eK dM eL jw jx jy r v H':=by
 obtain ⟨w0,jv⟩:=h0
 subst kb
 unfold cE.p at hp
 unfold cE.tw cE.twX
 have s0:=w0.rf
 refine cJ w0 λH1 w1 s1=>?_
 obtain ⟨w2,s2⟩:=w1.pick' [1,0] 2 rfl rfl rfl
 exact cE.l7_P F rfl ⟨w2,(s0.trans (s1.trans s2)),(jv.step (s1.trans s2))⟩ hp
def aC.Q (H0:Hp) (Ri R0:List Rs) (br aX bu bj aY aV bk bl bI bm:Int) (cB dQ cn dR dS:ON) (bQ de bL df dg aa:Nat) (cC dT co dU dV:Cap) (dF:List Int) (eS fE eT fF fG aD:Bool) (eU eV fH fI eW eX fJ fK fL fM:List AV) (r:Bool×List Int×List Int×List Int×List Int×List Int) (v:AV) (H':Hp):Prop:=∃ jB:List AV,∃ kD:List AV,∃ jC:List AV,∃ kE:List AV,∃ kF:List AV,v=(.bool r.1)/\bQ=(r.2.1).length/\de=(r.2.2.1).length/\bL=(r.2.2.2.1).length/\df=(r.2.2.2.2.1).length/\dg=(r.2.2.2.2.2).length/\Out H0 Ri H' (Rs.ow eS ⟨cB,bQ,cC⟩ (ae .i64).z eU jB eV :: Rs.ow fE ⟨dQ,de,dT⟩ (ae .i64).z fH kD fI :: Rs.ow eT ⟨cn,bL,co⟩ (ae .i64).z eW jC eX :: Rs.ow fF ⟨dR,df,dU⟩ (ae .i64).z fJ kE fK :: Rs.ow fG ⟨dS,dg,dV⟩ (ae .i64).z fL kF fM :: Rs.blk aa [.i br,.i aX,.sl ⟨cB,bQ,cC⟩,.i bu,.i bj,.sl ⟨dQ,de,dT⟩,.i aY,.i aV,.sl ⟨cn,bL,co⟩,.i bk,.i bl,.sl ⟨dR,df,dU⟩,.i bI,.i bm,.sl ⟨dS,dg,dV⟩,.bool aD] :: R0) λR=>CR (ae .i64) H' R jB (r.2.1)/\CR (ae .i64) H' R kD (r.2.2.1)/\CR (ae .i64) H' R jC (r.2.2.2.1)/\CR (ae .i64) H' R kE (r.2.2.2.2.1)/\CR (ae .i64) H' R kF (r.2.2.2.2.2)
def aC.S29 (H0:Hp) (Ri R0:List Rs) (aB aq aF av ax ar ay az aJ aA:Int) (aT bA aM bB bC:ON) (aI ba aG bc bf aE:Nat) (aU bD aN bE bF:Cap) (ck:List Int) (bS bT bU bV bW bJ:Bool) (bX bY bZ b_ ca cb ce cf cg ch:List AV) (C:Nat->Nat->Int->Int->Int->Int->Hp->OA) (pC:Int->Int->List Int->Int->List Int->Int->Int->List Int->Int->Int->List Int->Int->List Int->Int->Int->Int->Int->Option (Bool×List Int×List Int×List Int×List Int×List Int)):Prop:=∀ {aK aO aL aP aQ:List Int} {cO cP cQ cR cS:List AV} {dq eu lK lL:Int},∀ {H:Hp},aI=aK.length->ba=aO.length->aG=aL.length->bc=aP.length->bf=aQ.length->(Out H0 Ri H (Rs.ow bS ⟨aT,aI,aU⟩ (ae .i64).z bX cO bY :: Rs.ow bT ⟨bA,ba,bD⟩ (ae .i64).z bZ cP b_ :: Rs.ow bU ⟨aM,aG,aN⟩ (ae .i64).z ca cQ cb :: Rs.ow bV ⟨bB,bc,bE⟩ (ae .i64).z ce cR cf :: Rs.ow bW ⟨bC,bf,bF⟩ (ae .i64).z cg cS ch :: Rs.blk aE [.i aB,.i aq,.sl ⟨aT,aI,aU⟩,.i aF,.i av,.sl ⟨bA,ba,bD⟩,.i ax,.i ar,.sl ⟨aM,aG,aN⟩,.i ay,.i az,.sl ⟨bB,bc,bE⟩,.i aJ,.i aA,.sl ⟨bC,bf,bF⟩,.bool bJ] :: R0) λR=>CR (ae .i64) H R cO aK/\CR (ae .i64) H R cP aO/\CR (ae .i64) H R cQ aL/\CR (ae .i64) H R cR aP/\CR (ae .i64) H R cS aQ)->∀ {r:Bool×List Int×List Int×List Int×List Int×List Int},pC aB aq aK av aO ax ar aL ay az aP aA aQ dq eu lK lL=some r->∃ v H',C aE 0 dq eu lK lL H=some (v,H')/\aC.Q H0 Ri R0 aB aq aF av ax ar ay az aJ aA aT bA aM bB bC aI ba aG bc bf aE aU bD aN bE bF ck bS bT bU bV bW bJ bX bY bZ b_ ca cb ce cf cg ch r v H'
def aC.S469 (H0:Hp) (Ri R0:List Rs) (aB aq aF av ax ar ay az aJ aA:Int) (aT bA aM bB bC:ON) (aI ba aG bc bf aE:Nat) (aU bD aN bE bF:Cap) (ck:List Int) (bS bT bU bV bW bJ:Bool) (bX bY bZ b_ ca cb ce cf cg ch:List AV) (C:Nat->Nat->Int->Int->Int->Int->Int->Hp->OA) (pC:Int->Int->List Int->Int->List Int->Int->Int->List Int->Int->Int->List Int->Int->List Int->Int->Int->Int->Int->Int->Option (Bool×List Int×List Int×List Int×List Int×List Int)):Prop:=∀ {aK aO aL aP aQ:List Int} {cO cP cQ cR cS:List AV} {jN jO kl iz iA:Int},∀ {H:Hp},aI=aK.length->ba=aO.length->aG=aL.length->bc=aP.length->bf=aQ.length->(Out H0 Ri H (Rs.ow bS ⟨aT,aI,aU⟩ (ae .i64).z bX cO bY :: Rs.ow bT ⟨bA,ba,bD⟩ (ae .i64).z bZ cP b_ :: Rs.ow bU ⟨aM,aG,aN⟩ (ae .i64).z ca cQ cb :: Rs.ow bV ⟨bB,bc,bE⟩ (ae .i64).z ce cR cf :: Rs.ow bW ⟨bC,bf,bF⟩ (ae .i64).z cg cS ch :: Rs.blk aE [.i aB,.i aq,.sl ⟨aT,aI,aU⟩,.i aF,.i av,.sl ⟨bA,ba,bD⟩,.i ax,.i ar,.sl ⟨aM,aG,aN⟩,.i ay,.i az,.sl ⟨bB,bc,bE⟩,.i aJ,.i aA,.sl ⟨bC,bf,bF⟩,.bool bJ] :: R0) λR=>CR (ae .i64) H R cO aK/\CR (ae .i64) H R cP aO/\CR (ae .i64) H R cQ aL/\CR (ae .i64) H R cR aP/\CR (ae .i64) H R cS aQ)->∀ {r:Bool×List Int×List Int×List Int×List Int×List Int},pC aB aq aK av aO ax ar aL ay az aP aA aQ jN jO kl iz iA=some r->∃ v H',C aE 0 jN jO kl iz iA H=some (v,H')/\aC.Q H0 Ri R0 aB aq aF av ax ar ay az aJ aA aT bA aM bB bC aI ba aG bc bf aE aU bD aN bE bF ck bS bT bU bV bW bJ bX bY bZ b_ ca cb ce cf cg ch r v H'
def aC.pj10 (F:Nat) (oW:Int->Int->List Int->Int->List Int->Int->Int->List Int->Int->Int->List Int->Int->List Int->Int->Int->Int->Int->Int->Option (Bool×List Int×List Int×List Int×List Int×List Int)) (aB:Int) (aq:Int) (aK:List Int) (av:Int) (aO:List Int) (ax:Int) (ar:Int) (aL:List Int) (ay:Int) (az:Int) (aP:List Int) (aA:Int) (aQ:List Int) (sf:Int) (sg:Int) (si:Int) (sj:Int) (sk:Int):Option (Bool×List Int×List Int×List Int×List Int×List Int):=oW aB aq aK av aO ax ar aL ay az aP aA aQ sf sg si sj (IntKind.i64.wrap (sk+1))
theorem aC.j10_P {F:Nat} {H0:Hp} {Ri R0:List Rs} {aB aq aF av ax ar ay az aJ aA:Int} {aT bA aM bB bC:ON} {aI ba aG bc bf aE:Nat} {aU bD aN bE bF:Cap} {ck:List Int} {bS bT bU bV bW bJ:Bool} {bX bY bZ b_ ca cb ce cf cg ch:List AV} {C469_:Nat->Nat->Int->Int->Int->Int->Int->Hp->OA} {oW:Int->Int->List Int->Int->List Int->Int->Int->List Int->Int->Int->List Int->Int->List Int->Int->Int->Int->Int->Int->Option (Bool×List Int×List Int×List Int×List Int×List Int)} (hC469:aC.S469 H0 Ri R0 aB aq aF av ax ar ay az aJ aA aT bA aM bB bC aI ba aG bc bf aE aU bD aN bE bF ck bS bT bU bV bW bJ bX bY bZ b_ ca cb ce cf cg ch C469_ oW) {aK aO aL aP aQ:List Int} {cO cP cQ cR cS:List AV} {sf sg si sj sk:Int} {H:Hp} (eY:aI=aK.length) (eZ:ba=aO.length) (e_:aG=aL.length) (fa:bc=aP.length) (fb:bf=aQ.length) (h0:Out H0 Ri H (Rs.ow bS ⟨aT,aI,aU⟩ (ae .i64).z bX cO bY :: Rs.ow bT ⟨bA,ba,bD⟩ (ae .i64).z bZ cP b_ :: Rs.ow bU ⟨aM,aG,aN⟩ (ae .i64).z ca cQ cb :: Rs.ow bV ⟨bB,bc,bE⟩ (ae .i64).z ce cR cf :: Rs.ow bW ⟨bC,bf,bF⟩ (ae .i64).z cg cS ch :: Rs.blk aE [.i aB,.i aq,.sl ⟨aT,aI,aU⟩,.i aF,.i av,.sl ⟨bA,ba,bD⟩,.i ax,.i ar,.sl ⟨aM,aG,aN⟩,.i ay,.i az,.sl ⟨bB,bc,bE⟩,.i aJ,.i aA,.sl ⟨bC,bf,bF⟩,.bool bJ] :: R0) λR=>CR (ae .i64) H R cO aK/\CR (ae .i64) H R cP aO/\CR (ae .i64) H R cQ aL/\CR (ae .i64) H R cR aP/\CR (ae .i64) H R cS aQ) {r:Bool×List Int×List Int×List Int×List Int×List Int} (hp:aC.pj10 F oW aB aq aK av aO ax ar aL ay az aP aA aQ sf sg si sj sk=some r):∃ v H',aC.j10 F (bo.tw F) (en.tw F) (cD.tw F) (cE.tw F) C469_ aE 0 sf sg si sj sk H=some (v,H')/\aC.Q H0 Ri R0 aB aq aF av ax ar ay az aJ aA aT bA aM bB bC aI ba aG bc bf aE aU bD aN bE bF ck bS bT bU bV bW bJ bX bY bZ b_ ca cb ce cf cg ch r v H':=by
 obtain ⟨w0,s0,cT,dp,cZ,dx,dy⟩:=h0
 subst eY
 subst eZ
 subst e_
 subst fa
 subst fb
 unfold aC.pj10 at hp
 unfold aC.j10
 exact hC469 rfl rfl rfl rfl rfl ⟨w0,s0,cT,dp,cZ,dx,dy⟩ hp
def aC.pj8 (F:Nat) (dX:Int->Int->List Int->Int->List Int->Int->Int->List Int->Int->Int->List Int->Int->List Int->Int->Int->Int->Int->Option (Bool×List Int×List Int×List Int×List Int×List Int)) (aB:Int) (aq:Int) (aK:List Int) (av:Int) (aO:List Int) (ax:Int) (ar:Int) (aL:List Int) (ay:Int) (az:Int) (aP:List Int) (aA:Int) (aQ:List Int) (rU:Int) (rV:Int) (rW:Int) (rX:Int):Option (Bool×List Int×List Int×List Int×List Int×List Int):=dX aB aq aK av aO ax ar aL ay az aP aA aQ rU rV rW (IntKind.i64.wrap (rX+1))
theorem aC.j8_P {F:Nat} {H0:Hp} {Ri R0:List Rs} {aB aq aF av ax ar ay az aJ aA:Int} {aT bA aM bB bC:ON} {aI ba aG bc bf aE:Nat} {aU bD aN bE bF:Cap} {ck:List Int} {bS bT bU bV bW bJ:Bool} {bX bY bZ b_ ca cb ce cf cg ch:List AV} {C29_:Nat->Nat->Int->Int->Int->Int->Hp->OA} {dX:Int->Int->List Int->Int->List Int->Int->Int->List Int->Int->Int->List Int->Int->List Int->Int->Int->Int->Int->Option (Bool×List Int×List Int×List Int×List Int×List Int)} (hC29:aC.S29 H0 Ri R0 aB aq aF av ax ar ay az aJ aA aT bA aM bB bC aI ba aG bc bf aE aU bD aN bE bF ck bS bT bU bV bW bJ bX bY bZ b_ ca cb ce cf cg ch C29_ dX) {aK aO aL aP aQ:List Int} {cO cP cQ cR cS:List AV} {rU rV rW rX:Int} {H:Hp} (eY:aI=aK.length) (eZ:ba=aO.length) (e_:aG=aL.length) (fa:bc=aP.length) (fb:bf=aQ.length) (h0:Out H0 Ri H (Rs.ow bS ⟨aT,aI,aU⟩ (ae .i64).z bX cO bY :: Rs.ow bT ⟨bA,ba,bD⟩ (ae .i64).z bZ cP b_ :: Rs.ow bU ⟨aM,aG,aN⟩ (ae .i64).z ca cQ cb :: Rs.ow bV ⟨bB,bc,bE⟩ (ae .i64).z ce cR cf :: Rs.ow bW ⟨bC,bf,bF⟩ (ae .i64).z cg cS ch :: Rs.blk aE [.i aB,.i aq,.sl ⟨aT,aI,aU⟩,.i aF,.i av,.sl ⟨bA,ba,bD⟩,.i ax,.i ar,.sl ⟨aM,aG,aN⟩,.i ay,.i az,.sl ⟨bB,bc,bE⟩,.i aJ,.i aA,.sl ⟨bC,bf,bF⟩,.bool bJ] :: R0) λR=>CR (ae .i64) H R cO aK/\CR (ae .i64) H R cP aO/\CR (ae .i64) H R cQ aL/\CR (ae .i64) H R cR aP/\CR (ae .i64) H R cS aQ) {r:Bool×List Int×List Int×List Int×List Int×List Int} (hp:aC.pj8 F dX aB aq aK av aO ax ar aL ay az aP aA aQ rU rV rW rX=some r):∃ v H',aC.j8 F (bo.tw F) (en.tw F) (cD.tw F) (cE.tw F) C29_ aE 0 rU rV rW rX H=some (v,H')/\aC.Q H0 Ri R0 aB aq aF av ax ar ay az aJ aA aT bA aM bB bC aI ba aG bc bf aE aU bD aN bE bF ck bS bT bU bV bW bJ bX bY bZ b_ ca cb ce cf cg ch r v H':=by
 obtain ⟨w0,s0,cT,dp,cZ,dx,dy⟩:=h0
 subst eY
 subst eZ
 subst e_
 subst fa
 subst fb
 unfold aC.pj8 at hp
 unfold aC.j8
 exact hC29 rfl rfl rfl rfl rfl ⟨w0,s0,cT,dp,cZ,dx,dy⟩ hp
def aC.pj9 (F:Nat) (dX:Int->Int->List Int->Int->List Int->Int->Int->List Int->Int->Int->List Int->Int->List Int->Int->Int->Int->Int->Option (Bool×List Int×List Int×List Int×List Int×List Int)) (aB:Int) (aq:Int) (aK:List Int) (av:Int) (aO:List Int) (ax:Int) (ar:Int) (aL:List Int) (ay:Int) (az:Int) (aP:List Int) (aA:Int) (aQ:List Int) (rY:Int) (rZ:Int) (r_:Int) (sb:Int):Option (Bool×List Int×List Int×List Int×List Int×List Int):=aC.pj8 F dX aB aq aK av aO ax ar aL ay az aP aA aQ rY rZ r_ sb
theorem aC.j9_P {F:Nat} {H0:Hp} {Ri R0:List Rs} {aB aq aF av ax ar ay az aJ aA:Int} {aT bA aM bB bC:ON} {aI ba aG bc bf aE:Nat} {aU bD aN bE bF:Cap} {ck:List Int} {bS bT bU bV bW bJ:Bool} {bX bY bZ b_ ca cb ce cf cg ch:List AV} {C29_:Nat->Nat->Int->Int->Int->Int->Hp->OA} {dX:Int->Int->List Int->Int->List Int->Int->Int->List Int->Int->Int->List Int->Int->List Int->Int->Int->Int->Int->Option (Bool×List Int×List Int×List Int×List Int×List Int)} (hC29:aC.S29 H0 Ri R0 aB aq aF av ax ar ay az aJ aA aT bA aM bB bC aI ba aG bc bf aE aU bD aN bE bF ck bS bT bU bV bW bJ bX bY bZ b_ ca cb ce cf cg ch C29_ dX) {aK aO aL aP aQ:List Int} {cO cP cQ cR cS:List AV} {rY rZ r_ sb:Int} {H:Hp} (eY:aI=aK.length) (eZ:ba=aO.length) (e_:aG=aL.length) (fa:bc=aP.length) (fb:bf=aQ.length) (h0:Out H0 Ri H (Rs.ow bS ⟨aT,aI,aU⟩ (ae .i64).z bX cO bY :: Rs.ow bT ⟨bA,ba,bD⟩ (ae .i64).z bZ cP b_ :: Rs.ow bU ⟨aM,aG,aN⟩ (ae .i64).z ca cQ cb :: Rs.ow bV ⟨bB,bc,bE⟩ (ae .i64).z ce cR cf :: Rs.ow bW ⟨bC,bf,bF⟩ (ae .i64).z cg cS ch :: Rs.blk aE [.i aB,.i aq,.sl ⟨aT,aI,aU⟩,.i aF,.i av,.sl ⟨bA,ba,bD⟩,.i ax,.i ar,.sl ⟨aM,aG,aN⟩,.i ay,.i az,.sl ⟨bB,bc,bE⟩,.i aJ,.i aA,.sl ⟨bC,bf,bF⟩,.bool bJ] :: R0) λR=>CR (ae .i64) H R cO aK/\CR (ae .i64) H R cP aO/\CR (ae .i64) H R cQ aL/\CR (ae .i64) H R cR aP/\CR (ae .i64) H R cS aQ) {r:Bool×List Int×List Int×List Int×List Int×List Int} (hp:aC.pj9 F dX aB aq aK av aO ax ar aL ay az aP aA aQ rY rZ r_ sb=some r):∃ v H',aC.j9 F (bo.tw F) (en.tw F) (cD.tw F) (cE.tw F) C29_ aE 0 rY rZ r_ sb H=some (v,H')/\aC.Q H0 Ri R0 aB aq aF av ax ar ay az aJ aA aT bA aM bB bC aI ba aG bc bf aE aU bD aN bE bF ck bS bT bU bV bW bJ bX bY bZ b_ ca cb ce cf cg ch r v H':=by
 obtain ⟨w0,s0,cT,dp,cZ,dx,dy⟩:=h0
 subst eY
 subst eZ
 subst e_
 subst fa
 subst fb
 unfold aC.pj9 at hp
 unfold aC.j9
 exact aC.j8_P (@hC29) rfl rfl rfl rfl rfl ⟨w0,s0,cT,dp,cZ,dx,dy⟩ hp
def aC.pl469 (F:Nat) (dX:Int->Int->List Int->Int->List Int->Int->Int->List Int->Int->Int->List Int->Int->List Int->Int->Int->Int->Int->Option (Bool×List Int×List Int×List Int×List Int×List Int)):Nat->Int->Int->List Int->Int->List Int->Int->Int->List Int->Int->Int->List Int->Int->List Int->Int->Int->Int->Int->Int->Option (Bool×List Int×List Int×List Int×List Int×List Int)
 | 0,_,_,_,_,_,_,_,_,_,_,_,_,_,_,_,_,_,_=>none
 | k+1,aB,aq,aK,av,aO,ax,ar,aL,ay,az,aP,aA,aQ,jN,jO,kl,iz,iA=>(bif (decide (iA<aq)) then ((bo.p F aq aK iz iA).bind λr2=>(en.p F r2).bind λr5=>(bif (decide (r5>0)) then ((bif (decide (jO<0)) then (aC.pl469 F dX k aB aq aK av aO ax ar aL ay az aP aA aQ jN iz iA iz (IntKind.i64.wrap (iA+1))) else ((bo.p F aq aK jO kl).bind λr8=>(en.p F r8).bind λr11=>(bif (decide (r5<r11)) then (aC.pj10 F (aC.pl469 F dX k) aB aq aK av aO ax ar aL ay az aP aA aQ jN iz iA iz iA) else (aC.pj10 F (aC.pl469 F dX k) aB aq aK av aO ax ar aL ay az aP aA aQ jN jO kl iz iA))))) else (aC.pl469 F dX k aB aq aK av aO ax ar aL ay az aP aA aQ jN jO kl iz (IntKind.i64.wrap (iA+1))))) else (aC.pj9 F dX aB aq aK av aO ax ar aL ay az aP aA aQ jN jO kl iz))
termination_by structural n=>n
theorem aC.l469_P {F:Nat} {H0:Hp} {Ri R0:List Rs} {aB aq aF av ax ar ay az aJ aA:Int} {aT bA aM bB bC:ON} {aI ba aG bc bf aE:Nat} {aU bD aN bE bF:Cap} {ck:List Int} {bS bT bU bV bW bJ:Bool} {bX bY bZ b_ ca cb ce cf cg ch:List AV} {C29_:Nat->Nat->Int->Int->Int->Int->Hp->OA} {dX:Int->Int->List Int->Int->List Int->Int->Int->List Int->Int->Int->List Int->Int->List Int->Int->Int->Int->Int->Option (Bool×List Int×List Int×List Int×List Int×List Int)} (hC29:aC.S29 H0 Ri R0 aB aq aF av ax ar ay az aJ aA aT bA aM bB bC aI ba aG bc bf aE aU bD aN bE bF ck bS bT bU bV bW bJ bX bY bZ b_ ca cb ce cf cg ch C29_ dX):∀ k,aC.S469 H0 Ri R0 aB aq aF av ax ar ay az aJ aA aT bA aM bB bC aI ba aG bc bf aE aU bD aN bE bF ck bS bT bU bV bW bJ bX bY bZ b_ ca cb ce cf cg ch (aC.l469 F (bo.tw F) (en.tw F) (cD.tw F) (cE.tw F) C29_ k) (aC.pl469 F dX k):=by
 intro k
 induction k with
 | zero=>unfold aC.S469;intros;rename_i hp;cases hp
 | succ k ih=>
  intro aK aO aL aP aQ cO cP cQ cR cS jN jO kl iz iA H eY eZ e_ fa fb h0 r hp
  obtain ⟨w0,s0,cT,dp,cZ,dx,dy⟩:=h0
  subst eY
  subst eZ
  subst e_
  subst fa
  subst fb
  unfold aC.pl469 at hp
  unfold aC.l469
  refine ac (ah (w0.ld (i:=5) rfl rfl)) ?_
  refine aZ hp (λhp=>?_) λhp=>?_
  ·refine ac (ah (w0.ld (i:=5) rfl rfl)) ?_
   refine ac (ah (w0.ld (i:=5) rfl rfl)) ?_
   refine ac (aH (w0.ld (i:=5) rfl rfl)) ?_
   have f1:=W.borrow1 (ae .i64) w0 cT
   obtain ⟨w1,s1⟩:=w0.right1
   obtain ⟨r2,e2,hp⟩:=ak hp
   refine aW (bo.P rfl ⟨w1,f1⟩ e2) ?_
   rintro _ H3 ⟨rfl,w3,s3,_⟩
   obtain ⟨w4,s4⟩:=W.frame1 w0 w3 s3
   refine ac rfl ?_
   obtain ⟨r5,e5,hp⟩:=ak hp
   refine aW (en.P ⟨w4,trivial⟩ e5) ?_
   rintro _ H6 ⟨rfl,w6,s6,_⟩
   refine ac rfl ?_
   refine aZ hp (λhp=>?_) λhp=>?_
   ·refine aZ hp (λhp=>?_) λhp=>?_
    ·exact ih rfl rfl rfl rfl rfl ⟨w6,(s0.trans (s4.trans s6)),(cT.step (s4.trans s6)),(dp.step (s4.trans s6)),(cZ.step (s4.trans s6)),(dx.step (s4.trans s6)),(dy.step (s4.trans s6))⟩ hp
    ·refine ac (ah (w6.ld (i:=5) rfl rfl)) ?_
     refine ac (ah (w6.ld (i:=5) rfl rfl)) ?_
     refine ac (aH (w6.ld (i:=5) rfl rfl)) ?_
     have f7:=W.borrow1 (ae .i64) w6 (cT.step (s4.trans s6))
     obtain ⟨w7,s7⟩:=w6.right1
     obtain ⟨r8,e8,hp⟩:=ak hp
     refine aW (bo.P rfl ⟨w7,f7⟩ e8) ?_
     rintro _ H9 ⟨rfl,w9,s9,_⟩
     obtain ⟨w10,s10⟩:=W.frame1 w6 w9 s9
     refine ac rfl ?_
     obtain ⟨r11,e11,hp⟩:=ak hp
     refine aW (en.P ⟨w10,trivial⟩ e11) ?_
     rintro _ H12 ⟨rfl,w12,s12,_⟩
     refine ac rfl ?_
     refine aZ hp (λhp=>?_) λhp=>?_
     ·exact aC.j10_P (@ih) rfl rfl rfl rfl rfl ⟨w12,(s0.trans (s4.trans (s6.trans (s10.trans s12)))),(cT.step (s4.trans (s6.trans (s10.trans s12)))),(dp.step (s4.trans (s6.trans (s10.trans s12)))),(cZ.step (s4.trans (s6.trans (s10.trans s12)))),(dx.step (s4.trans (s6.trans (s10.trans s12)))),(dy.step (s4.trans (s6.trans (s10.trans s12))))⟩ hp
     ·exact aC.j10_P (@ih) rfl rfl rfl rfl rfl ⟨w12,(s0.trans (s4.trans (s6.trans (s10.trans s12)))),(cT.step (s4.trans (s6.trans (s10.trans s12)))),(dp.step (s4.trans (s6.trans (s10.trans s12)))),(cZ.step (s4.trans (s6.trans (s10.trans s12)))),(dx.step (s4.trans (s6.trans (s10.trans s12)))),(dy.step (s4.trans (s6.trans (s10.trans s12))))⟩ hp
   ·exact ih rfl rfl rfl rfl rfl ⟨w6,(s0.trans (s4.trans s6)),(cT.step (s4.trans s6)),(dp.step (s4.trans s6)),(cZ.step (s4.trans s6)),(dx.step (s4.trans s6)),(dy.step (s4.trans s6))⟩ hp
  ·exact aC.j9_P (@hC29) rfl rfl rfl rfl rfl ⟨w0,s0,cT,dp,cZ,dx,dy⟩ hp
def aC.S65513 (H0:Hp) (Ri R0:List Rs) (aB aq aF av ax ar ay az aJ aA:Int) (aT bA aM bB bC:ON) (aI ba aG bc bf aE:Nat) (aU bD aN bE bF:Cap) (ck:List Int) (bS bT bU bV bW bJ:Bool) (bX bY bZ b_ ca cb ce cf cg ch:List AV) (C:Nat->Nat->Int->Int->Hp->OA) (pC:Int->List Int->Int->List Int->Int->List Int->List Int->List Int->Int->Int->Option (Bool×List Int×List Int×List Int×List Int×List Int)):Prop:=∀ {aK aO aL aP aQ:List Int} {cO cP cQ cR cS:List AV} {ki kj:Int},∀ {H:Hp},aI=aK.length->ba=aO.length->aG=aL.length->bc=aP.length->bf=aQ.length->(Out H0 Ri H (Rs.ow bS ⟨aT,aI,aU⟩ (ae .i64).z bX cO bY :: Rs.ow bT ⟨bA,ba,bD⟩ (ae .i64).z bZ cP b_ :: Rs.ow bU ⟨aM,aG,aN⟩ (ae .i64).z ca cQ cb :: Rs.ow bV ⟨bB,bc,bE⟩ (ae .i64).z ce cR cf :: Rs.ow bW ⟨bC,bf,bF⟩ (ae .i64).z cg cS ch :: Rs.blk aE [.i aB,.i aq,.sl ⟨aT,aI,aU⟩,.i aF,.i av,.sl ⟨bA,ba,bD⟩,.i ax,.i ar,.sl ⟨aM,aG,aN⟩,.i ay,.i az,.sl ⟨bB,bc,bE⟩,.i aJ,.i aA,.sl ⟨bC,bf,bF⟩,.bool bJ] :: R0) λR=>CR (ae .i64) H R cO aK/\CR (ae .i64) H R cP aO/\CR (ae .i64) H R cQ aL/\CR (ae .i64) H R cR aP/\CR (ae .i64) H R cS aQ)->∀ {r:Bool×List Int×List Int×List Int×List Int×List Int},pC aq aK av aO ar aL aP aQ ki kj=some r->∃ v H',C aE 0 ki kj H=some (v,H')/\aC.Q H0 Ri R0 aB aq aF av ax ar ay az aJ aA aT bA aM bB bC aI ba aG bc bf aE aU bD aN bE bF ck bS bT bU bV bW bJ bX bY bZ b_ ca cb ce cf cg ch r v H'
def aC.S65515 (H0:Hp) (Ri R0:List Rs) (aB aq aF av ax ar ay az aJ aA:Int) (aT bA aM bB bC:ON) (aI ba aG bc bf aE:Nat) (aU bD aN bE bF:Cap) (ck:List Int) (bS bT bU bV bW bJ:Bool) (bX bY bZ b_ ca cb ce cf cg ch:List AV) (C:Nat->Nat->Int->Int->Hp->OA) (pC:List Int->Int->List Int->Int->List Int->List Int->List Int->Int->Int->Option (Bool×List Int×List Int×List Int×List Int×List Int)):Prop:=∀ {aK aO aL aP aQ:List Int} {cO cP cQ cR cS:List AV} {jJ jf:Int},∀ {H:Hp},aI=aK.length->ba=aO.length->aG=aL.length->bc=aP.length->bf=aQ.length->(Out H0 Ri H (Rs.ow bS ⟨aT,aI,aU⟩ (ae .i64).z bX cO bY :: Rs.ow bT ⟨bA,ba,bD⟩ (ae .i64).z bZ cP b_ :: Rs.ow bU ⟨aM,aG,aN⟩ (ae .i64).z ca cQ cb :: Rs.ow bV ⟨bB,bc,bE⟩ (ae .i64).z ce cR cf :: Rs.ow bW ⟨bC,bf,bF⟩ (ae .i64).z cg cS ch :: Rs.blk aE [.i aB,.i aq,.sl ⟨aT,aI,aU⟩,.i aF,.i av,.sl ⟨bA,ba,bD⟩,.i ax,.i ar,.sl ⟨aM,aG,aN⟩,.i ay,.i az,.sl ⟨bB,bc,bE⟩,.i aJ,.i aA,.sl ⟨bC,bf,bF⟩,.bool bJ] :: R0) λR=>CR (ae .i64) H R cO aK/\CR (ae .i64) H R cP aO/\CR (ae .i64) H R cQ aL/\CR (ae .i64) H R cR aP/\CR (ae .i64) H R cS aQ)->∀ {r:Bool×List Int×List Int×List Int×List Int×List Int},pC aK av aO ar aL aP aQ jJ jf=some r->∃ v H',C aE 0 jJ jf H=some (v,H')/\aC.Q H0 Ri R0 aB aq aF av ax ar ay az aJ aA aT bA aM bB bC aI ba aG bc bf aE aU bD aN bE bF ck bS bT bU bV bW bJ bX bY bZ b_ ca cb ce cf cg ch r v H'
def aC.pl65515 (F:Nat) :Nat->List Int->Int->List Int->Int->List Int->List Int->List Int->Int->Int->Option (Bool×List Int×List Int×List Int×List Int×List Int)
 | 0,_,_,_,_,_,_,_,_,_=>none
 | k+1,aK,av,aO,ar,aL,aP,aQ,jJ,jf=>(bif (decide (jf<av)) then ((bo.p F av aO jJ jf).bind λr3=>(ix aO (IntKind.i64.wrap ((IntKind.i64.wrap (jJ * av))+jf))).bind λn7=>(some (aO.set n7 (IntKind.i64.wrap (0 - r3)))).bind λl8=>(bo.p F ar aL jf jJ).bind λr12=>(ix aL (IntKind.i64.wrap ((IntKind.i64.wrap (jf * ar))+jJ))).bind λn16=>(some (aL.set n16 (IntKind.i64.wrap (0 - r12)))).bind λl17=>aC.pl65515 F k aK av l8 ar l17 aP aQ jJ (IntKind.i64.wrap (jf+1))) else (some (true,aK,aO,aL,aP,aQ)))
termination_by structural n=>n
theorem aC.l65515_P {F:Nat} {H0:Hp} {Ri R0:List Rs} {aB aq aF av ax ar ay az aJ aA:Int} {aT bA aM bB bC:ON} {aI ba aG bc bf aE:Nat} {aU bD aN bE bF:Cap} {ck:List Int} {bS bT bU bV bW bJ:Bool} {bX bY bZ b_ ca cb ce cf cg ch:List AV} :∀ k,aC.S65515 H0 Ri R0 aB aq aF av ax ar ay az aJ aA aT bA aM bB bC aI ba aG bc bf aE aU bD aN bE bF ck bS bT bU bV bW bJ bX bY bZ b_ ca cb ce cf cg ch (aC.l65515 F (bo.tw F) (en.tw F) (cD.tw F) (cE.tw F)  k) (aC.pl65515 F  k):=by
 intro k
 induction k with
 | zero=>unfold aC.S65515;intros;rename_i hp;cases hp
 | succ k ih=>
  intro aK aO aL aP aQ cO cP cQ cR cS jJ jf H eY eZ e_ fa fb h0 r hp
  obtain ⟨w0,s0,cT,dp,cZ,dx,dy⟩:=h0
  subst eY
  subst eZ
  subst e_
  subst fa
  subst fb
  unfold aC.pl65515 at hp
  unfold aC.l65515
  refine ac (ah (w0.ld (i:=5) rfl rfl)) ?_
  refine aZ hp (λhp=>?_) λhp=>?_
  ·refine ac (aH (w0.ld (i:=5) rfl rfl)) ?_
   refine ac (ah (w0.ld (i:=5) rfl rfl)) ?_
   refine ac (ah (w0.ld (i:=5) rfl rfl)) ?_
   refine ac (ah (w0.ld (i:=5) rfl rfl)) ?_
   refine ac (aH (w0.ld (i:=5) rfl rfl)) ?_
   obtain ⟨w1,s1⟩:=w0.pick' [1,0,2,3,4,5] 6 rfl rfl rfl
   have f2:=W.borrow1 (ae .i64) w1 (dp.step s1)
   obtain ⟨w2,s2⟩:=w1.right1
   obtain ⟨r3,e3,hp⟩:=ak hp
   refine aW (bo.P rfl ⟨w2,f2⟩ e3) ?_
   rintro _ H4 ⟨rfl,w4,s4,_⟩
   obtain ⟨w5,s5⟩:=W.frame1 w1 w4 s4
   refine ac rfl ?_
   refine fq (bh.tr (bh.refl _) s1 (W.cons_of (Rn:=[]) w2 w4 s4)) ?_
   obtain ⟨n7,g7,hp⟩:=ak hp
   obtain ⟨p7,q7,i7,h7,j7⟩:=W.ixo (E:=(ae .i64)) w5 (i:=0) rfl rfl (dp.step (s1.trans s5)) g7
   refine ac i7 ?_
   obtain ⟨l8,e8,hp⟩:=ak hp
   refine jb (ae .i64) w5 (i:=0) (j:=0) (p:=p7) rfl rfl (dp.step (s1.trans s5)) g7 i7 e8 rfl rfl (λ_ h=>by have h:_=[_]:=h;subst h;exact rfl) λH9 k9 w9 s9 c9=>?_
   refine ac (aH (w9.ld (i:=5) rfl rfl)) ?_
   refine ac (ah (w9.ld (i:=5) rfl rfl)) ?_
   refine ac (ah (w9.ld (i:=5) rfl rfl)) ?_
   refine ac (ah (w9.ld (i:=5) rfl rfl)) ?_
   refine ac (aH (w9.ld (i:=5) rfl rfl)) ?_
   obtain ⟨w10,s10⟩:=w9.pick' [2,0,1,3,4,5] 6 rfl rfl rfl
   dsimp only [pk,pks,nth,List.drop,List.set,List.eraseIdx] at w10 s1 s9 c9 s10
   have f11:=W.borrow1 (ae .i64) w10 (cZ.step (s1.trans (s5.trans (s9.trans s10))))
   obtain ⟨w11,s11⟩:=w10.right1
   obtain ⟨r12,e12,hp⟩:=ak hp
   refine aW (bo.P rfl ⟨w11,f11⟩ e12) ?_
   rintro _ H13 ⟨rfl,w13,s13,_⟩
   obtain ⟨w14,s14⟩:=W.frame1 w10 w13 s13
   refine ac rfl ?_
   refine fq (bh.tr (bh.refl _) s10 (W.cons_of (Rn:=[]) w11 w13 s13)) ?_
   obtain ⟨n16,g16,hp⟩:=ak hp
   obtain ⟨p16,q16,i16,h16,j16⟩:=W.ixo (E:=(ae .i64)) w14 (i:=0) rfl rfl (cZ.step (s1.trans (s5.trans (s9.trans (s10.trans s14))))) g16
   refine ac i16 ?_
   obtain ⟨l17,e17,hp⟩:=ak hp
   refine jb (ae .i64) w14 (i:=0) (j:=0) (p:=p16) rfl rfl (cZ.step (s1.trans (s5.trans (s9.trans (s10.trans s14))))) g16 i16 e17 rfl rfl (λ_ h=>by have h:_=[_]:=h;subst h;exact rfl) λH18 k18 w18 s18 c18=>?_
   obtain ⟨w19,s19⟩:=w18.pick' [2,1,0,3,4,5] 6 rfl rfl rfl
   exact ih rfl ((gb e8).symm) ((gb e17).symm) rfl rfl ⟨w19,(s0.trans (s1.trans (s5.trans (s9.trans (s10.trans (s14.trans (s18.trans s19))))))),(cT.step (s1.trans (s5.trans (s9.trans (s10.trans (s14.trans (s18.trans s19))))))),(c9.step (s10.trans (s14.trans (s18.trans s19)))),(c18.step s19),(dx.step (s1.trans (s5.trans (s9.trans (s10.trans (s14.trans (s18.trans s19))))))),(dy.step (s1.trans (s5.trans (s9.trans (s10.trans (s14.trans (s18.trans s19)))))))⟩ hp
  ·exact a_ hp ⟨_,_,_,_,_,rfl,rfl,rfl,rfl,rfl,rfl,w0,s0,cT,dp,cZ,dx,dy⟩
def aC.pj5 (F:Nat)  (aK:List Int) (av:Int) (aO:List Int) (ar:Int) (aL:List Int) (aP:List Int) (aQ:List Int) (rT:Int):Option (Bool×List Int×List Int×List Int×List Int×List Int):=aC.pl65515 F F aK av aO ar aL aP aQ rT 0
theorem aC.j5_P {F:Nat} {H0:Hp} {Ri R0:List Rs} {aB aq aF av ax ar ay az aJ aA:Int} {aT bA aM bB bC:ON} {aI ba aG bc bf aE:Nat} {aU bD aN bE bF:Cap} {ck:List Int} {bS bT bU bV bW bJ:Bool} {bX bY bZ b_ ca cb ce cf cg ch:List AV}  {aK aO aL aP aQ:List Int} {cO cP cQ cR cS:List AV} {rT:Int} {H:Hp} (eY:aI=aK.length) (eZ:ba=aO.length) (e_:aG=aL.length) (fa:bc=aP.length) (fb:bf=aQ.length) (h0:Out H0 Ri H (Rs.ow bS ⟨aT,aI,aU⟩ (ae .i64).z bX cO bY :: Rs.ow bT ⟨bA,ba,bD⟩ (ae .i64).z bZ cP b_ :: Rs.ow bU ⟨aM,aG,aN⟩ (ae .i64).z ca cQ cb :: Rs.ow bV ⟨bB,bc,bE⟩ (ae .i64).z ce cR cf :: Rs.ow bW ⟨bC,bf,bF⟩ (ae .i64).z cg cS ch :: Rs.blk aE [.i aB,.i aq,.sl ⟨aT,aI,aU⟩,.i aF,.i av,.sl ⟨bA,ba,bD⟩,.i ax,.i ar,.sl ⟨aM,aG,aN⟩,.i ay,.i az,.sl ⟨bB,bc,bE⟩,.i aJ,.i aA,.sl ⟨bC,bf,bF⟩,.bool bJ] :: R0) λR=>CR (ae .i64) H R cO aK/\CR (ae .i64) H R cP aO/\CR (ae .i64) H R cQ aL/\CR (ae .i64) H R cR aP/\CR (ae .i64) H R cS aQ) {r:Bool×List Int×List Int×List Int×List Int×List Int} (hp:aC.pj5 F  aK av aO ar aL aP aQ rT=some r):∃ v H',aC.j5 F (bo.tw F) (en.tw F) (cD.tw F) (cE.tw F)  aE 0 rT H=some (v,H')/\aC.Q H0 Ri R0 aB aq aF av ax ar ay az aJ aA aT bA aM bB bC aI ba aG bc bf aE aU bD aN bE bF ck bS bT bU bV bW bJ bX bY bZ b_ ca cb ce cf cg ch r v H':=by
 obtain ⟨w0,s0,cT,dp,cZ,dx,dy⟩:=h0
 subst eY
 subst eZ
 subst e_
 subst fa
 subst fb
 unfold aC.pj5 at hp
 unfold aC.j5
 exact aC.l65515_P F rfl rfl rfl rfl rfl ⟨w0,s0,cT,dp,cZ,dx,dy⟩ hp
def aC.pl65513 (F:Nat) :Nat->Int->List Int->Int->List Int->Int->List Int->List Int->List Int->Int->Int->Option (Bool×List Int×List Int×List Int×List Int×List Int)
 | 0,_,_,_,_,_,_,_,_,_,_=>none
 | k+1,aq,aK,av,aO,ar,aL,aP,aQ,ki,kj=>(bif (decide (kj<aq)) then ((bo.p F aq aK ki kj).bind λr2=>(ix aK (IntKind.i64.wrap ((IntKind.i64.wrap (ki * aq))+kj))).bind λn6=>(some (aK.set n6 (IntKind.i64.wrap (0 - r2)))).bind λl7=>aC.pl65513 F k aq l7 av aO ar aL aP aQ ki (IntKind.i64.wrap (kj+1))) else (aC.pj5 F aK av aO ar aL aP aQ ki))
termination_by structural n=>n
theorem aC.l65513_P {F:Nat} {H0:Hp} {Ri R0:List Rs} {aB aq aF av ax ar ay az aJ aA:Int} {aT bA aM bB bC:ON} {aI ba aG bc bf aE:Nat} {aU bD aN bE bF:Cap} {ck:List Int} {bS bT bU bV bW bJ:Bool} {bX bY bZ b_ ca cb ce cf cg ch:List AV} :∀ k,aC.S65513 H0 Ri R0 aB aq aF av ax ar ay az aJ aA aT bA aM bB bC aI ba aG bc bf aE aU bD aN bE bF ck bS bT bU bV bW bJ bX bY bZ b_ ca cb ce cf cg ch (aC.l65513 F (bo.tw F) (en.tw F) (cD.tw F) (cE.tw F)  k) (aC.pl65513 F  k):=by
 intro k
 induction k with
 | zero=>unfold aC.S65513;intros;rename_i hp;cases hp
 | succ k ih=>
  intro aK aO aL aP aQ cO cP cQ cR cS ki kj H eY eZ e_ fa fb h0 r hp
  obtain ⟨w0,s0,cT,dp,cZ,dx,dy⟩:=h0
  subst eY
  subst eZ
  subst e_
  subst fa
  subst fb
  unfold aC.pl65513 at hp
  unfold aC.l65513
  refine ac (ah (w0.ld (i:=5) rfl rfl)) ?_
  refine aZ hp (λhp=>?_) λhp=>?_
  ·refine ac (aH (w0.ld (i:=5) rfl rfl)) ?_
   refine ac (ah (w0.ld (i:=5) rfl rfl)) ?_
   refine ac (ah (w0.ld (i:=5) rfl rfl)) ?_
   refine ac (ah (w0.ld (i:=5) rfl rfl)) ?_
   refine ac (aH (w0.ld (i:=5) rfl rfl)) ?_
   have f1:=W.borrow1 (ae .i64) w0 cT
   obtain ⟨w1,s1⟩:=w0.right1
   obtain ⟨r2,e2,hp⟩:=ak hp
   refine aW (bo.P rfl ⟨w1,f1⟩ e2) ?_
   rintro _ H3 ⟨rfl,w3,s3,_⟩
   obtain ⟨w4,s4⟩:=W.frame1 w0 w3 s3
   refine ac rfl ?_
   refine fq (W.cons_of (Rn:=[]) w1 w3 s3) ?_
   obtain ⟨n6,g6,hp⟩:=ak hp
   obtain ⟨p6,q6,i6,h6,j6⟩:=W.ixo (E:=(ae .i64)) w4 (i:=0) rfl rfl (cT.step s4) g6
   refine ac i6 ?_
   obtain ⟨l7,e7,hp⟩:=ak hp
   refine jb (ae .i64) w4 (i:=0) (j:=0) (p:=p6) rfl rfl (cT.step s4) g6 i6 e7 rfl rfl (λ_ h=>by have h:_=[_]:=h;subst h;exact rfl) λH8 k8 w8 s8 c8=>?_
   exact ih ((gb e7).symm) rfl rfl rfl rfl ⟨w8,(s0.trans (s4.trans s8)),c8,(dp.step (s4.trans s8)),(cZ.step (s4.trans s8)),(dx.step (s4.trans s8)),(dy.step (s4.trans s8))⟩ hp
  ·exact aC.j5_P rfl rfl rfl rfl rfl ⟨w0,s0,cT,dp,cZ,dx,dy⟩ hp
def aC.pj6 (F:Nat)  (aB:Int) (aq:Int) (aK:List Int) (av:Int) (aO:List Int) (ax:Int) (ar:Int) (aL:List Int) (ay:Int) (az:Int) (aP:List Int) (aA:Int) (aQ:List Int) (jM:Int) (nk:Int) (nS:Int):Option (Bool×List Int×List Int×List Int×List Int×List Int):=(bif (decide (nk<0)) then (some (false,aK,aO,aL,aP,aQ)) else ((cD.p F aq aK nk jM).bind λr1=>(cD.p F av aO nk jM).bind λr4=>(cE.p F ax ar aL nk jM).bind λr7=>(cE.p F aB aq r1 nS jM).bind λr10=>(cE.p F ay az aP nS jM).bind λr13=>(cD.p F aA aQ nS jM).bind λr16=>(bo.p F aq r10 jM jM).bind λr20=>(bif (decide (r20<0)) then (aC.pl65513 F F aq r10 av r4 ar r7 r13 r16 jM 0) else (some (true,r10,r4,r7,r13,r16)))))
theorem aC.j6_P {F:Nat} {H0:Hp} {Ri R0:List Rs} {aB aq aF av ax ar ay az aJ aA:Int} {aT bA aM bB bC:ON} {aI ba aG bc bf aE:Nat} {aU bD aN bE bF:Cap} {ck:List Int} {bS bT bU bV bW bJ:Bool} {bX bY bZ b_ ca cb ce cf cg ch:List AV}  {aK aO aL aP aQ:List Int} {cO cP cQ cR cS:List AV} {jM nk nS:Int} {H:Hp} (eY:aI=aK.length) (eZ:ba=aO.length) (e_:aG=aL.length) (fa:bc=aP.length) (fb:bf=aQ.length) (h0:Out H0 Ri H (Rs.ow bS ⟨aT,aI,aU⟩ (ae .i64).z bX cO bY :: Rs.ow bT ⟨bA,ba,bD⟩ (ae .i64).z bZ cP b_ :: Rs.ow bU ⟨aM,aG,aN⟩ (ae .i64).z ca cQ cb :: Rs.ow bV ⟨bB,bc,bE⟩ (ae .i64).z ce cR cf :: Rs.ow bW ⟨bC,bf,bF⟩ (ae .i64).z cg cS ch :: Rs.blk aE [.i aB,.i aq,.sl ⟨aT,aI,aU⟩,.i aF,.i av,.sl ⟨bA,ba,bD⟩,.i ax,.i ar,.sl ⟨aM,aG,aN⟩,.i ay,.i az,.sl ⟨bB,bc,bE⟩,.i aJ,.i aA,.sl ⟨bC,bf,bF⟩,.bool bJ] :: R0) λR=>CR (ae .i64) H R cO aK/\CR (ae .i64) H R cP aO/\CR (ae .i64) H R cQ aL/\CR (ae .i64) H R cR aP/\CR (ae .i64) H R cS aQ) {r:Bool×List Int×List Int×List Int×List Int×List Int} (hp:aC.pj6 F  aB aq aK av aO ax ar aL ay az aP aA aQ jM nk nS=some r):∃ v H',aC.j6 F (bo.tw F) (en.tw F) (cD.tw F) (cE.tw F)  aE 0 jM nk nS H=some (v,H')/\aC.Q H0 Ri R0 aB aq aF av ax ar ay az aJ aA aT bA aM bB bC aI ba aG bc bf aE aU bD aN bE bF ck bS bT bU bV bW bJ bX bY bZ b_ ca cb ce cf cg ch r v H':=by
 obtain ⟨w0,s0,cT,dp,cZ,dx,dy⟩:=h0
 subst eY
 subst eZ
 subst e_
 subst fa
 subst fb
 unfold aC.pj6 at hp
 unfold aC.j6
 refine aZ hp (λhp=>?_) λhp=>?_
 ·exact a_ hp ⟨_,_,_,_,_,rfl,rfl,rfl,rfl,rfl,rfl,w0,s0,cT,dp,cZ,dx,dy⟩
 ·refine ac (ah (w0.ld (i:=5) rfl rfl)) ?_
  refine ac (ah (w0.ld (i:=5) rfl rfl)) ?_
  refine ac (aH (w0.ld (i:=5) rfl rfl)) ?_
  obtain ⟨r1,e1,hp⟩:=ak hp
  refine aW (cD.P rfl ⟨w0,cT⟩ e1) ?_
  rintro _ H2 ⟨Nx,rfl,hl2_0,w2,s2,f2_0⟩
  refine ac (ah (w2.ld (i:=5) rfl rfl)) ?_
  refine ac (ah (w2.ld (i:=5) rfl rfl)) ?_
  refine ac (aH (w2.ld (i:=5) rfl rfl)) ?_
  obtain ⟨w3,s3⟩:=w2.pick' [1,0,2,3,4,5] 6 rfl rfl rfl
  obtain ⟨r4,e4,hp⟩:=ak hp
  refine aW (cD.P rfl ⟨w3,(dp.step (s2.trans s3))⟩ e4) ?_
  rintro _ H5 ⟨Ny,rfl,hl5_0,w5,s5,f5_0⟩
  refine ac (ah (w5.ld (i:=5) rfl rfl)) ?_
  refine ac (ah (w5.ld (i:=5) rfl rfl)) ?_
  refine ac (aH (w5.ld (i:=5) rfl rfl)) ?_
  obtain ⟨w6,s6⟩:=w5.pick' [2,0,1,3,4,5] 6 rfl rfl rfl
  obtain ⟨r7,e7,hp⟩:=ak hp
  refine aW (cE.P rfl ⟨w6,(cZ.step (s2.trans (s3.trans (s5.trans s6))))⟩ e7) ?_
  rintro _ H8 ⟨IU,rfl,hl8_0,w8,s8,f8_0⟩
  refine ac (ah (w8.ld (i:=5) rfl rfl)) ?_
  refine ac (ah (w8.ld (i:=5) rfl rfl)) ?_
  refine ac (aH (w8.ld (i:=5) rfl rfl)) ?_
  obtain ⟨w9,s9⟩:=w8.pick' [2,0,1,3,4,5] 6 rfl rfl rfl
  dsimp only [pk,pks,nth,List.drop,List.set,List.eraseIdx] at w9 s3 s6 s9
  obtain ⟨r10,e10,hp⟩:=ak hp
  refine aW (cE.P hl2_0 ⟨w9,(f2_0.step (s3.trans (s5.trans (s6.trans (s8.trans s9)))))⟩ e10) ?_
  rintro _ H11 ⟨IV,rfl,hl11_0,w11,s11,f11_0⟩
  refine ac (ah (w11.ld (i:=5) rfl rfl)) ?_
  refine ac (ah (w11.ld (i:=5) rfl rfl)) ?_
  refine ac (aH (w11.ld (i:=5) rfl rfl)) ?_
  obtain ⟨w12,s12⟩:=w11.pick' [3,0,1,2,4,5] 6 rfl rfl rfl
  obtain ⟨r13,e13,hp⟩:=ak hp
  refine aW (cE.P rfl ⟨w12,(dx.step (s2.trans (s3.trans (s5.trans (s6.trans (s8.trans (s9.trans (s11.trans s12))))))))⟩ e13) ?_
  rintro _ H14 ⟨IW,rfl,hl14_0,w14,s14,f14_0⟩
  refine ac (ah (w14.ld (i:=5) rfl rfl)) ?_
  refine ac (ah (w14.ld (i:=5) rfl rfl)) ?_
  refine ac (aH (w14.ld (i:=5) rfl rfl)) ?_
  obtain ⟨w15,s15⟩:=w14.pick' [4,0,1,2,3,5] 6 rfl rfl rfl
  obtain ⟨r16,e16,hp⟩:=ak hp
  refine aW (cD.P rfl ⟨w15,(dy.step (s2.trans (s3.trans (s5.trans (s6.trans (s8.trans (s9.trans (s11.trans (s12.trans (s14.trans s15))))))))))⟩ e16) ?_
  rintro _ H17 ⟨IX,rfl,hl17_0,w17,s17,f17_0⟩
  refine ac (ah (w17.ld (i:=5) rfl rfl)) ?_
  refine ac (ah (w17.ld (i:=5) rfl rfl)) ?_
  refine ac (aH (w17.ld (i:=5) rfl rfl)) ?_
  obtain ⟨w18,s18⟩:=w17.pick' [2,0,1,3,4,5] 6 rfl rfl rfl
  dsimp only [pk,pks,nth,List.drop,List.set,List.eraseIdx] at w18 s12 s15 s18
  have f19:=W.borrow1 (ae .i64) w18 (f11_0.step (s12.trans (s14.trans (s15.trans (s17.trans s18)))))
  obtain ⟨w19,s19⟩:=w18.right1
  obtain ⟨r20,e20,hp⟩:=ak hp
  refine aW (bo.P hl11_0 ⟨w19,f19⟩ e20) ?_
  rintro _ H21 ⟨rfl,w21,s21,_⟩
  obtain ⟨w22,s22⟩:=W.frame1 w18 w21 s21
  refine ac rfl ?_
  refine aZ hp (λhp=>?_) λhp=>?_
  ·obtain ⟨w23,s23⟩:=w22.pick' [0,4,3,2,1,5] 6 rfl rfl rfl
   exact aC.l65513_P F hl11_0 hl5_0 hl8_0 hl14_0 hl17_0 ⟨w23,(s0.trans (s2.trans (s3.trans (s5.trans (s6.trans (s8.trans (s9.trans (s11.trans (s12.trans (s14.trans (s15.trans (s17.trans (s18.trans (s22.trans s23)))))))))))))),(f11_0.step (s12.trans (s14.trans (s15.trans (s17.trans (s18.trans (s22.trans s23))))))),(f5_0.step (s6.trans (s8.trans (s9.trans (s11.trans (s12.trans (s14.trans (s15.trans (s17.trans (s18.trans (s22.trans s23))))))))))),(f8_0.step (s9.trans (s11.trans (s12.trans (s14.trans (s15.trans (s17.trans (s18.trans (s22.trans s23))))))))),(f14_0.step (s15.trans (s17.trans (s18.trans (s22.trans s23))))),(f17_0.step (s18.trans (s22.trans s23)))⟩ hp
  ·obtain ⟨w24,s24⟩:=w22.pick' [0,4,3,2,1,5] 6 rfl rfl rfl
   exact a_ hp ⟨_,_,_,_,_,rfl,hl11_0,hl5_0,hl8_0,hl14_0,hl17_0,w24,(s0.trans (s2.trans (s3.trans (s5.trans (s6.trans (s8.trans (s9.trans (s11.trans (s12.trans (s14.trans (s15.trans (s17.trans (s18.trans (s22.trans s24)))))))))))))),(f11_0.step (s12.trans (s14.trans (s15.trans (s17.trans (s18.trans (s22.trans s24))))))),(f5_0.step (s6.trans (s8.trans (s9.trans (s11.trans (s12.trans (s14.trans (s15.trans (s17.trans (s18.trans (s22.trans s24))))))))))),(f8_0.step (s9.trans (s11.trans (s12.trans (s14.trans (s15.trans (s17.trans (s18.trans (s22.trans s24))))))))),(f14_0.step (s15.trans (s17.trans (s18.trans (s22.trans s24))))),(f17_0.step (s18.trans (s22.trans s24)))⟩
def aC.pl29 (F:Nat) :Nat->Int->Int->List Int->Int->List Int->Int->Int->List Int->Int->Int->List Int->Int->List Int->Int->Int->Int->Int->Option (Bool×List Int×List Int×List Int×List Int×List Int)
 | 0,_,_,_,_,_,_,_,_,_,_,_,_,_,_,_,_,_=>none
 | k+1,aB,aq,aK,av,aO,ax,ar,aL,ay,az,aP,aA,aQ,dq,eu,lK,lL=>(bif (decide (lL<aB)) then (aC.pl469 F (aC.pl29 F k) F aB aq aK av aO ax ar aL ay az aP aA aQ dq eu lK lL dq) else (aC.pj6 F aB aq aK av aO ax ar aL ay az aP aA aQ dq eu lK))
termination_by structural n=>n
theorem aC.l29_P {F:Nat} {H0:Hp} {Ri R0:List Rs} {aB aq aF av ax ar ay az aJ aA:Int} {aT bA aM bB bC:ON} {aI ba aG bc bf aE:Nat} {aU bD aN bE bF:Cap} {ck:List Int} {bS bT bU bV bW bJ:Bool} {bX bY bZ b_ ca cb ce cf cg ch:List AV} :∀ k,aC.S29 H0 Ri R0 aB aq aF av ax ar ay az aJ aA aT bA aM bB bC aI ba aG bc bf aE aU bD aN bE bF ck bS bT bU bV bW bJ bX bY bZ b_ ca cb ce cf cg ch (aC.l29 F (bo.tw F) (en.tw F) (cD.tw F) (cE.tw F)  k) (aC.pl29 F  k):=by
 intro k
 induction k with
 | zero=>unfold aC.S29;intros;rename_i hp;cases hp
 | succ k ih=>
  intro aK aO aL aP aQ cO cP cQ cR cS dq eu lK lL H eY eZ e_ fa fb h0 r hp
  obtain ⟨w0,s0,cT,dp,cZ,dx,dy⟩:=h0
  subst eY
  subst eZ
  subst e_
  subst fa
  subst fb
  unfold aC.pl29 at hp
  unfold aC.l29
  refine ac (ah (w0.ld (i:=5) rfl rfl)) ?_
  refine aZ hp (λhp=>?_) λhp=>?_
  ·exact aC.l469_P (@ih) F rfl rfl rfl rfl rfl ⟨w0,s0,cT,dp,cZ,dx,dy⟩ hp
  ·exact aC.j6_P rfl rfl rfl rfl rfl ⟨w0,s0,cT,dp,cZ,dx,dy⟩ hp
def aC.p (F:Nat) (br:Int) (aX:Int) (dF:List Int) (bj:Int) (fw:List Int) (aY:Int) (aV:Int) (dh:List Int) (bk:Int) (bl:Int) (fx:List Int) (bm:Int) (fy:List Int) (ag:Int):Option (Bool×List Int×List Int×List Int×List Int×List Int):=aC.pl29 F F br aX dF bj fw aY aV dh bk bl fx bm fy ag (-1) (-1) ag
theorem aC.P {F:Nat} {br aX bu bj aY aV bk bl bI bm ag:Int} {cB dQ cn dR dS:ON} {bQ de bL df dg aa:Nat} {cC dT co dU dV:Cap} {dF fw dh fx fy:List Int} {eS fE eT fF fG aD:Bool} {eU eV hK fH fI iN eW eX hN fJ fK iO fL fM iR:List AV} {H:Hp} {R0:List Rs} (kZ:bQ=dF.length) (mU:de=fw.length) (kd:bL=dh.length) (mV:df=fx.length) (mW:dg=fy.length) (h0:Inn H (Rs.ow eS ⟨cB,bQ,cC⟩ (ae .i64).z eU hK eV :: Rs.ow fE ⟨dQ,de,dT⟩ (ae .i64).z fH iN fI :: Rs.ow eT ⟨cn,bL,co⟩ (ae .i64).z eW hN eX :: Rs.ow fF ⟨dR,df,dU⟩ (ae .i64).z fJ iO fK :: Rs.ow fG ⟨dS,dg,dV⟩ (ae .i64).z fL iR fM :: Rs.blk aa [.i br,.i aX,.sl ⟨cB,bQ,cC⟩,.i bu,.i bj,.sl ⟨dQ,de,dT⟩,.i aY,.i aV,.sl ⟨cn,bL,co⟩,.i bk,.i bl,.sl ⟨dR,df,dU⟩,.i bI,.i bm,.sl ⟨dS,dg,dV⟩,.bool aD] :: R0) λR=>CR (ae .i64) H R hK dF/\CR (ae .i64) H R iN fw/\CR (ae .i64) H R hN dh/\CR (ae .i64) H R iO fx/\CR (ae .i64) H R iR fy) {r:Bool×List Int×List Int×List Int×List Int×List Int} (hp:aC.p F br aX dF bj fw aY aV dh bk bl fx bm fy ag=some r):∃ v H',aC.tw F aa 0 ag H=some (v,H')/\aC.Q H (Rs.ow eS ⟨cB,bQ,cC⟩ (ae .i64).z eU hK eV :: Rs.ow fE ⟨dQ,de,dT⟩ (ae .i64).z fH iN fI :: Rs.ow eT ⟨cn,bL,co⟩ (ae .i64).z eW hN eX :: Rs.ow fF ⟨dR,df,dU⟩ (ae .i64).z fJ iO fK :: Rs.ow fG ⟨dS,dg,dV⟩ (ae .i64).z fL iR fM :: Rs.blk aa [.i br,.i aX,.sl ⟨cB,bQ,cC⟩,.i bu,.i bj,.sl ⟨dQ,de,dT⟩,.i aY,.i aV,.sl ⟨cn,bL,co⟩,.i bk,.i bl,.sl ⟨dR,df,dU⟩,.i bI,.i bm,.sl ⟨dS,dg,dV⟩,.bool aD] :: R0) R0 br aX bu bj aY aV bk bl bI bm cB dQ cn dR dS bQ de bL df dg aa cC dT co dU dV dF eS fE eT fF fG aD eU eV fH fI eW eX fJ fK fL fM r v H':=by
 obtain ⟨w0,jX,mm,jo,mn,mo⟩:=h0
 subst kZ
 subst mU
 subst kd
 subst mV
 subst mW
 unfold aC.p at hp
 unfold aC.tw aC.twX
 have s0:=w0.rf
 exact aC.l29_P F rfl rfl rfl rfl rfl ⟨w0,s0,jX,mm,jo,mn,mo⟩ hp
def gA.Q (H0:Hp) (Ri R0:List Rs)  (r:Int) (v:AV) (H':Hp):Prop:=v=(.i r)/\Out H0 Ri H' (R0) λR=>True
def gA.p (F:Nat) (aa:Int) (au:Int):Option (Int):=(if au=0 then none else ((if au=0 then none else ((bif (decide ((Int.tmod aa au)<0)) then (some (IntKind.i64.wrap ((IntKind.i64.wrap (Int.tdiv aa au)) - 1))) else (some (IntKind.i64.wrap (Int.tdiv aa au))))))))
theorem gA.P {F:Nat} {aa au:Int} {H:Hp} {R0:List Rs}  (h0:Inn H R0 λR=>True) {r:Int} (hp:gA.p F aa au=some r):∃ v H',gA.tw F aa au H=some (v,H')/\gA.Q H R0 R0  r v H':=by
 obtain ⟨w0,_⟩:=h0
 unfold gA.p at hp
 unfold gA.tw gA.twX
 have s0:=w0.rf
 obtain ⟨g1,hp⟩:=oh hp
 refine ol g1 ?_
 obtain ⟨g2,hp⟩:=oh hp
 refine ol g2 ?_
 refine aZ hp (λhp=>?_) λhp=>?_
 ·exact a_ hp ⟨rfl,w0,s0,trivial⟩
 ·exact a_ hp ⟨rfl,w0,s0,trivial⟩
def ii.Q (H0:Hp) (Ri R0:List Rs)  (r:Int×Bool) (v:AV) (H':Hp):Prop:=v=(.tup [(.i r.1),(.bool r.2)])/\Out H0 Ri H' (R0) λR=>True
def ii.p (F:Nat) (aa:Int) (au:Int) (dA:Int):Option (Int×Bool):=(bif (aa != 0) then ((en.p F au).bind λr1=>(en.p F aa).bind λr3=>(if r3=0 then none else ((bif (decide (r1>(IntKind.i64.wrap (Int.tdiv dA r3)))) then (some (0,false)) else (some ((IntKind.i64.wrap (aa * au)),true)))))) else (some ((IntKind.i64.wrap (aa * au)),true)))
theorem ii.P {F:Nat} {aa au dA:Int} {H:Hp} {R0:List Rs}  (h0:Inn H R0 λR=>True) {r:Int×Bool} (hp:ii.p F aa au dA=some r):∃ v H',ii.tw F aa au dA H=some (v,H')/\ii.Q H R0 R0  r v H':=by
 obtain ⟨w0,_⟩:=h0
 unfold ii.p at hp
 unfold ii.tw ii.twX
 have s0:=w0.rf
 refine aZ hp (λhp=>?_) λhp=>?_
 ·obtain ⟨r1,e1,hp⟩:=ak hp
  refine aW (en.P ⟨w0,trivial⟩ e1) ?_
  rintro _ H2 ⟨rfl,w2,s2,_⟩
  refine ac rfl ?_
  obtain ⟨r3,e3,hp⟩:=ak hp
  refine aW (en.P ⟨w2,trivial⟩ e3) ?_
  rintro _ H4 ⟨rfl,w4,s4,_⟩
  refine ac rfl ?_
  obtain ⟨g5,hp⟩:=oh hp
  refine ol g5 ?_
  refine aZ hp (λhp=>?_) λhp=>?_
  ·exact a_ hp ⟨rfl,w4,(s0.trans (s2.trans s4)),trivial⟩
  ·exact a_ hp ⟨rfl,w4,(s0.trans (s2.trans s4)),trivial⟩
 ·exact a_ hp ⟨rfl,w0,s0,trivial⟩
def fR.Q (H0:Hp) (Ri R0:List Rs)  (r:Int) (v:AV) (H':Hp):Prop:=v=(.i r)/\Out H0 Ri H' (R0) λR=>True
def fR.p (F:Nat) (aa:Int) (au:Int) (dA:Int):Option (Int):=(ii.p F au dA 2000000000000).bind λr1=>(bif (!r1.2) then (some 3000000000000) else (some (IntKind.i64.wrap (aa - r1.1))))
theorem fR.P {F:Nat} {aa au dA:Int} {H:Hp} {R0:List Rs}  (h0:Inn H R0 λR=>True) {r:Int} (hp:fR.p F aa au dA=some r):∃ v H',fR.tw F aa au dA H=some (v,H')/\fR.Q H R0 R0  r v H':=by
 obtain ⟨w0,_⟩:=h0
 unfold fR.p at hp
 unfold fR.tw fR.twX
 have s0:=w0.rf
 obtain ⟨r1,e1,hp⟩:=ak hp
 refine aW (ii.P ⟨w0,trivial⟩ e1) ?_
 rintro _ H2 ⟨rfl,w2,s2,_⟩
 refine ac rfl ?_
 refine ac rfl ?_
 refine ac rfl ?_
 refine ac rfl ?_
 refine ac rfl ?_
 refine aZ hp (λhp=>?_) λhp=>?_
 ·exact a_ hp ⟨rfl,w2,(s0.trans s2),trivial⟩
 ·exact a_ hp ⟨rfl,w2,(s0.trans s2),trivial⟩
def fS.Q (H0:Hp) (Ri R0:List Rs) (br aX bu bj aY aV bk bl bI bm:Int) (dY c_ et da db:Sl) (aa fo:Nat) (gE:ON) (gF:Cap) (iu:Bool) (iv iw:List AV) (r:Bool×List Int) (v:AV) (H':Hp):Prop:=∃ mJ:List AV,v=(.tup [])/\fo=(r.2).length/\Out H0 Ri H' (Rs.blk aa [.i br,.i aX,.sl dY,.i bu,.i bj,.sl c_,.i aY,.i aV,.sl et,.i bk,.i bl,.sl da,.i bI,.i bm,.sl db,.bool (r.1)] :: Rs.ow iu ⟨gE,fo,gF⟩ (ae .i64).z iv mJ iw :: R0) λR=>CR (ae .i64) H' R mJ (r.2)
def fS.p (F:Nat) (aD:Bool) (aw:Int) (hO:List Int) (dC:Int) (dD:Int) (dw:Int):Option (Bool×List Int):=(en.p F dw).bind λr2=>(bif (decide (r2>1000000000000)) then (some (true,hO)) else ((ix hO (IntKind.i64.wrap ((IntKind.i64.wrap (dC * aw))+dD))).bind λn6=>(some (hO.set n6 dw)).bind λl7=>some (aD,l7)))
theorem fS.P {F:Nat} {br aX bu bj aY aV bk bl bI bm ag aw dC dD dw:Int} {dY c_ et da db:Sl} {aD iu:Bool} {aa fo:Nat} {gE:ON} {gF:Cap} {hO:List Int} {iv iw k_:List AV} {H:Hp} {R0:List Rs} (oX:fo=hO.length) (h0:Inn H (Rs.blk aa [.i br,.i aX,.sl dY,.i bu,.i bj,.sl c_,.i aY,.i aV,.sl et,.i bk,.i bl,.sl da,.i bI,.i bm,.sl db,.bool aD] :: Rs.ow iu ⟨gE,fo,gF⟩ (ae .i64).z iv k_ iw :: R0) λR=>CR (ae .i64) H R k_ hO) {r:Bool×List Int} (hp:fS.p F aD aw hO dC dD dw=some r):∃ v H',fS.tw F aa 0 ag aw ⟨gE,fo,gF⟩ dC dD dw H=some (v,H')/\fS.Q H (Rs.blk aa [.i br,.i aX,.sl dY,.i bu,.i bj,.sl c_,.i aY,.i aV,.sl et,.i bk,.i bl,.sl da,.i bI,.i bm,.sl db,.bool aD] :: Rs.ow iu ⟨gE,fo,gF⟩ (ae .i64).z iv k_ iw :: R0) R0 br aX bu bj aY aV bk bl bI bm dY c_ et da db aa fo gE gF iu iv iw r v H':=by
 obtain ⟨w0,nD⟩:=h0
 subst oX
 unfold fS.p at hp
 unfold fS.tw fS.twX
 have s0:=w0.rf
 refine cJ w0 λH1 w1 s1=>?_
 obtain ⟨r2,e2,hp⟩:=ak hp
 refine aW (en.P ⟨w1,trivial⟩ e2) ?_
 rintro _ H3 ⟨rfl,w3,s3,_⟩
 refine ac rfl ?_
 refine aZ hp (λhp=>?_) λhp=>?_
 ·refine bt w3 (i:=1) rfl rfl rfl λH4 w4 s4=>?_
  obtain ⟨w5,s5⟩:=w4.pick' [1,2] 3 rfl rfl rfl
  exact a_ hp ⟨_,rfl,rfl,w5,(s0.trans (s1.trans (s3.trans (s4.trans s5)))),(nD.step (s1.trans (s3.trans (s4.trans s5))))⟩
 ·refine ac (aH (w3.ld (i:=0) rfl rfl)) ?_
  refine ac (ah (w3.ld (i:=0) rfl rfl)) ?_
  obtain ⟨n6,g6,hp⟩:=ak hp
  obtain ⟨p6,q6,i6,h6,j6⟩:=W.ixo (E:=(ae .i64)) w3 (i:=2) rfl rfl (nD.step (s1.trans s3)) g6
  refine ac i6 ?_
  obtain ⟨l7,e7,hp⟩:=ak hp
  refine jb (ae .i64) w3 (i:=2) (j:=0) (p:=p6) rfl rfl (nD.step (s1.trans s3)) g6 i6 e7 rfl rfl (λ_ h=>by have h:_=[_]:=h;subst h;exact rfl) λH8 k8 w8 s8 c8=>?_
  obtain ⟨w9,s9⟩:=w8.pick' [1,2] 3 rfl rfl rfl
  exact a_ hp ⟨_,rfl,(gb e7).symm,w9,(s0.trans (s1.trans (s3.trans (s8.trans s9)))),(c8.step s9)⟩
def cK.Q (H0:Hp) (Ri R0:List Rs) (br aX bu bj aY aV bk bl bI bm:Int) (dY c_ et da db:Sl) (aa fo:Nat) (gE:ON) (gF:Cap) (iu:Bool) (iv iw:List AV) (r:Bool×List Int) (v:AV) (H':Hp):Prop:=∃ mJ:List AV,v=(.tup [])/\fo=(r.2).length/\Out H0 Ri H' (Rs.blk aa [.i br,.i aX,.sl dY,.i bu,.i bj,.sl c_,.i aY,.i aV,.sl et,.i bk,.i bl,.sl da,.i bI,.i bm,.sl db,.bool (r.1)] :: Rs.ow iu ⟨gE,fo,gF⟩ (ae .i64).z iv mJ iw :: R0) λR=>CR (ae .i64) H' R mJ (r.2)
def cK.S7 (H0:Hp) (Ri R0:List Rs) (aB aq aF av ax ar ay az aJ aA:Int) (d_ cp eC cq ct:Sl) (aE iS:Nat) (jD:ON) (jE:Cap) (la:Bool) (lb lc:List AV) (C:Nat->Nat->Int->Int->Int->Nat->Nat->Int->Hp->OA) (pC:Bool->Int->Int->Int->Int->List Int->Int->Option (Bool×List Int)):Prop:=∀ {aD:Bool} {gf eH gG oY ly fg:Int} {ke:List Int} {qK:List AV} {ff:Nat},∀ {H:Hp},iS=ke.length->(Out H0 Ri H (Rs.blk aE [.i aB,.i aq,.sl d_,.i aF,.i av,.sl cp,.i ax,.i ar,.sl eC,.i ay,.i az,.sl cq,.i aJ,.i aA,.sl ct,.bool aD] :: Rs.ow la ⟨jD,iS,jE⟩ (ae .i64).z lb qK lc :: Rs.blk ff [.i oY,.i ly,.sl ⟨jD,iS,jE⟩] :: R0) λR=>CR (ae .i64) H R qK ke)->∀ {r:Bool×List Int},pC aD gf eH gG ly ke fg=some r->∃ v H',C aE 0 gf eH gG ff 0 fg H=some (v,H')/\cK.Q H0 Ri R0 aB aq aF av ax ar ay az aJ aA d_ cp eC cq ct aE iS jD jE la lb lc r v H'
def cK.pl7 (F:Nat) :Nat->Bool->Int->Int->Int->Int->List Int->Int->Option (Bool×List Int)
 | 0,_,_,_,_,_,_,_=>none
 | k+1,aD,gf,eH,gG,ly,ke,fg=>(bif (decide (fg<ly)) then ((bif (!aD) then ((bo.p F ly ke gf fg).bind λr3=>(bo.p F ly ke eH fg).bind λr8=>(fR.p F r3 gG r8).bind λr12=>(fS.p F aD ly ke gf fg r12).bind λr16=>cK.pl7 F k r16.1 gf eH gG ly r16.2 (IntKind.i64.wrap (fg+1))) else (some (aD,ke)))) else (some (aD,ke)))
termination_by structural n=>n
theorem cK.l7_P {F:Nat} {H0:Hp} {Ri R0:List Rs} {aB aq aF av ax ar ay az aJ aA:Int} {d_ cp eC cq ct:Sl} {aE iS:Nat} {jD:ON} {jE:Cap} {la:Bool} {lb lc:List AV} :∀ k,cK.S7 H0 Ri R0 aB aq aF av ax ar ay az aJ aA d_ cp eC cq ct aE iS jD jE la lb lc (cK.l7 F (bo.tw F) (fR.tw F) (fS.tw F)  k) (cK.pl7 F  k):=by
 intro k
 induction k with
 | zero=>unfold cK.S7;intros;rename_i hp;cases hp
 | succ k ih=>
  intro aD gf eH gG oY ly fg ke qK ff H yq h0 r hp
  obtain ⟨w0,s0,nE⟩:=h0
  subst yq
  unfold cK.pl7 at hp
  unfold cK.l7
  refine ac (ah (w0.ld (i:=2) rfl rfl)) ?_
  refine aZ hp (λhp=>?_) λhp=>?_
  ·refine ac (mN (w0.ld (i:=0) rfl rfl)) ?_
   refine aZ hp (λhp=>?_) λhp=>?_
   ·refine ac (ah (w0.ld (i:=2) rfl rfl)) ?_
    refine ac (ah (w0.ld (i:=2) rfl rfl)) ?_
    refine ac (aH (w0.ld (i:=2) rfl rfl)) ?_
    refine ac (ah (w0.ld (i:=2) rfl rfl)) ?_
    refine ac (ah (w0.ld (i:=2) rfl rfl)) ?_
    refine ac (aH (w0.ld (i:=2) rfl rfl)) ?_
    obtain ⟨w1,s1⟩:=w0.pick' [1,0,2] 3 rfl rfl rfl
    have f2:=W.borrow1 (ae .i64) w1 (nE.step s1)
    obtain ⟨w2,s2⟩:=w1.right1
    obtain ⟨r3,e3,hp⟩:=ak hp
    refine aW (bo.P rfl ⟨w2,f2⟩ e3) ?_
    rintro _ H4 ⟨rfl,w4,s4,_⟩
    obtain ⟨w5,s5⟩:=W.frame1 w1 w4 s4
    refine ac rfl ?_
    refine fq (bh.tr (bh.refl _) s1 (W.cons_of (Rn:=[]) w2 w4 s4)) ?_
    refine ac (ah (w5.ld (i:=2) rfl rfl)) ?_
    refine ac (ah (w5.ld (i:=2) rfl rfl)) ?_
    refine ac (aH (w5.ld (i:=2) rfl rfl)) ?_
    have f7:=W.borrow1 (ae .i64) w5 (nE.step (s1.trans s5))
    obtain ⟨w7,s7⟩:=w5.right1
    obtain ⟨r8,e8,hp⟩:=ak hp
    refine aW (bo.P rfl ⟨w7,f7⟩ e8) ?_
    rintro _ H9 ⟨rfl,w9,s9,_⟩
    obtain ⟨w10,s10⟩:=W.frame1 w5 w9 s9
    refine ac rfl ?_
    refine fq (W.cons_of (Rn:=[]) w7 w9 s9) ?_
    obtain ⟨r12,e12,hp⟩:=ak hp
    refine aW (fR.P ⟨w10,trivial⟩ e12) ?_
    rintro _ H13 ⟨rfl,w13,s13,_⟩
    refine ac rfl ?_
    refine fq (W.cons_of (Rn:=[]) w10 w13 s13) ?_
    obtain ⟨w15,s15⟩:=w13.pick' [1,0,2] 3 rfl rfl rfl
    obtain ⟨r16,e16,hp⟩:=ak hp
    refine aW (fS.P rfl ⟨w15,(nE.step (s1.trans (s5.trans (s10.trans (s13.trans s15)))))⟩ e16) ?_
    rintro _ H17 ⟨IY,rfl,hl17_0,w17,s17,f17_0⟩
    exact ih hl17_0 ⟨w17,(s0.trans (s1.trans (s5.trans (s10.trans (s13.trans (s15.trans s17)))))),f17_0⟩ hp
   ·obtain ⟨w18,s18⟩:=w0.pick' [0,1] 3 rfl rfl rfl
    exact a_ hp ⟨_,rfl,rfl,w18,(s0.trans s18),(nE.step s18)⟩
  ·obtain ⟨w19,s19⟩:=w0.pick' [0,1] 3 rfl rfl rfl
   exact a_ hp ⟨_,rfl,rfl,w19,(s0.trans s19),(nE.step s19)⟩
def cK.p (F:Nat) (aD:Bool) (aw:Int) (hO:List Int) (dC:Int) (dD:Int) (dw:Int):Option (Bool×List Int):=cK.pl7 F F aD dC dD dw aw hO 0
theorem cK.P {F:Nat} {br aX bu bj aY aV bk bl bI bm ag aw dC dD dw:Int} {dY c_ et da db:Sl} {aD iu:Bool} {aa fo:Nat} {gE:ON} {gF:Cap} {hO:List Int} {iv iw k_:List AV} {H:Hp} {R0:List Rs} (oX:fo=hO.length) (h0:Inn H (Rs.blk aa [.i br,.i aX,.sl dY,.i bu,.i bj,.sl c_,.i aY,.i aV,.sl et,.i bk,.i bl,.sl da,.i bI,.i bm,.sl db,.bool aD] :: Rs.ow iu ⟨gE,fo,gF⟩ (ae .i64).z iv k_ iw :: R0) λR=>CR (ae .i64) H R k_ hO) {r:Bool×List Int} (hp:cK.p F aD aw hO dC dD dw=some r):∃ v H',cK.tw F aa 0 ag aw ⟨gE,fo,gF⟩ dC dD dw H=some (v,H')/\cK.Q H (Rs.blk aa [.i br,.i aX,.sl dY,.i bu,.i bj,.sl c_,.i aY,.i aV,.sl et,.i bk,.i bl,.sl da,.i bI,.i bm,.sl db,.bool aD] :: Rs.ow iu ⟨gE,fo,gF⟩ (ae .i64).z iv k_ iw :: R0) R0 br aX bu bj aY aV bk bl bI bm dY c_ et da db aa fo gE gF iu iv iw r v H':=by
 obtain ⟨w0,nD⟩:=h0
 subst oX
 unfold cK.p at hp
 unfold cK.tw cK.twX
 have s0:=w0.rf
 refine cJ w0 λH1 w1 s1=>?_
 obtain ⟨w2,s2⟩:=w1.pick' [1,2,0] 3 rfl rfl rfl
 exact cK.l7_P F rfl ⟨w2,(s0.trans (s1.trans s2)),(nD.step (s1.trans s2))⟩ hp
def cL.Q (H0:Hp) (Ri R0:List Rs) (br aX bu bj aY aV bk bl bI bm:Int) (dY c_ et da db:Sl) (aa fo:Nat) (gE:ON) (gF:Cap) (iu:Bool) (iv iw:List AV) (r:Bool×List Int) (v:AV) (H':Hp):Prop:=∃ mJ:List AV,v=(.tup [])/\fo=(r.2).length/\Out H0 Ri H' (Rs.blk aa [.i br,.i aX,.sl dY,.i bu,.i bj,.sl c_,.i aY,.i aV,.sl et,.i bk,.i bl,.sl da,.i bI,.i bm,.sl db,.bool (r.1)] :: Rs.ow iu ⟨gE,fo,gF⟩ (ae .i64).z iv mJ iw :: R0) λR=>CR (ae .i64) H' R mJ (r.2)
def cL.S7 (H0:Hp) (Ri R0:List Rs) (aB aq aF av ax ar ay az aJ aA:Int) (d_ cp eC cq ct:Sl) (aE iS:Nat) (jD:ON) (jE:Cap) (la:Bool) (lb lc:List AV) (C:Nat->Nat->Int->Int->Int->Nat->Nat->Int->Hp->OA) (pC:Bool->Int->Int->Int->Int->Int->List Int->Int->Option (Bool×List Int)):Prop:=∀ {aD:Bool} {gf eH gG oY ly fg:Int} {ke:List Int} {qK:List AV} {ff:Nat},∀ {H:Hp},iS=ke.length->(Out H0 Ri H (Rs.blk aE [.i aB,.i aq,.sl d_,.i aF,.i av,.sl cp,.i ax,.i ar,.sl eC,.i ay,.i az,.sl cq,.i aJ,.i aA,.sl ct,.bool aD] :: Rs.ow la ⟨jD,iS,jE⟩ (ae .i64).z lb qK lc :: Rs.blk ff [.i oY,.i ly,.sl ⟨jD,iS,jE⟩] :: R0) λR=>CR (ae .i64) H R qK ke)->∀ {r:Bool×List Int},pC aD gf eH gG oY ly ke fg=some r->∃ v H',C aE 0 gf eH gG ff 0 fg H=some (v,H')/\cL.Q H0 Ri R0 aB aq aF av ax ar ay az aJ aA d_ cp eC cq ct aE iS jD jE la lb lc r v H'
def cL.pl7 (F:Nat) :Nat->Bool->Int->Int->Int->Int->Int->List Int->Int->Option (Bool×List Int)
 | 0,_,_,_,_,_,_,_,_=>none
 | k+1,aD,gf,eH,gG,oY,ly,ke,fg=>(bif (decide (fg<oY)) then ((bif (!aD) then ((bo.p F ly ke fg gf).bind λr3=>(bo.p F ly ke fg eH).bind λr8=>(fR.p F r3 gG r8).bind λr12=>(fS.p F aD ly ke fg gf r12).bind λr16=>cL.pl7 F k r16.1 gf eH gG oY ly r16.2 (IntKind.i64.wrap (fg+1))) else (some (aD,ke)))) else (some (aD,ke)))
termination_by structural n=>n
theorem cL.l7_P {F:Nat} {H0:Hp} {Ri R0:List Rs} {aB aq aF av ax ar ay az aJ aA:Int} {d_ cp eC cq ct:Sl} {aE iS:Nat} {jD:ON} {jE:Cap} {la:Bool} {lb lc:List AV} :∀ k,cL.S7 H0 Ri R0 aB aq aF av ax ar ay az aJ aA d_ cp eC cq ct aE iS jD jE la lb lc (cL.l7 F (bo.tw F) (fR.tw F) (fS.tw F)  k) (cL.pl7 F  k):=by
 intro k
 induction k with
 | zero=>unfold cL.S7;intros;rename_i hp;cases hp
 | succ k ih=>
  intro aD gf eH gG oY ly fg ke qK ff H yq h0 r hp
  obtain ⟨w0,s0,nE⟩:=h0
  subst yq
  unfold cL.pl7 at hp
  unfold cL.l7
  refine ac (ah (w0.ld (i:=2) rfl rfl)) ?_
  refine aZ hp (λhp=>?_) λhp=>?_
  ·refine ac (mN (w0.ld (i:=0) rfl rfl)) ?_
   refine aZ hp (λhp=>?_) λhp=>?_
   ·refine ac (ah (w0.ld (i:=2) rfl rfl)) ?_
    refine ac (ah (w0.ld (i:=2) rfl rfl)) ?_
    refine ac (aH (w0.ld (i:=2) rfl rfl)) ?_
    refine ac (ah (w0.ld (i:=2) rfl rfl)) ?_
    refine ac (ah (w0.ld (i:=2) rfl rfl)) ?_
    refine ac (aH (w0.ld (i:=2) rfl rfl)) ?_
    obtain ⟨w1,s1⟩:=w0.pick' [1,0,2] 3 rfl rfl rfl
    have f2:=W.borrow1 (ae .i64) w1 (nE.step s1)
    obtain ⟨w2,s2⟩:=w1.right1
    obtain ⟨r3,e3,hp⟩:=ak hp
    refine aW (bo.P rfl ⟨w2,f2⟩ e3) ?_
    rintro _ H4 ⟨rfl,w4,s4,_⟩
    obtain ⟨w5,s5⟩:=W.frame1 w1 w4 s4
    refine ac rfl ?_
    refine fq (bh.tr (bh.refl _) s1 (W.cons_of (Rn:=[]) w2 w4 s4)) ?_
    refine ac (ah (w5.ld (i:=2) rfl rfl)) ?_
    refine ac (ah (w5.ld (i:=2) rfl rfl)) ?_
    refine ac (aH (w5.ld (i:=2) rfl rfl)) ?_
    have f7:=W.borrow1 (ae .i64) w5 (nE.step (s1.trans s5))
    obtain ⟨w7,s7⟩:=w5.right1
    obtain ⟨r8,e8,hp⟩:=ak hp
    refine aW (bo.P rfl ⟨w7,f7⟩ e8) ?_
    rintro _ H9 ⟨rfl,w9,s9,_⟩
    obtain ⟨w10,s10⟩:=W.frame1 w5 w9 s9
    refine ac rfl ?_
    refine fq (W.cons_of (Rn:=[]) w7 w9 s9) ?_
    obtain ⟨r12,e12,hp⟩:=ak hp
    refine aW (fR.P ⟨w10,trivial⟩ e12) ?_
    rintro _ H13 ⟨rfl,w13,s13,_⟩
    refine ac rfl ?_
    refine fq (W.cons_of (Rn:=[]) w10 w13 s13) ?_
    obtain ⟨w15,s15⟩:=w13.pick' [1,0,2] 3 rfl rfl rfl
    obtain ⟨r16,e16,hp⟩:=ak hp
    refine aW (fS.P rfl ⟨w15,(nE.step (s1.trans (s5.trans (s10.trans (s13.trans s15)))))⟩ e16) ?_
    rintro _ H17 ⟨IY,rfl,hl17_0,w17,s17,f17_0⟩
    exact ih hl17_0 ⟨w17,(s0.trans (s1.trans (s5.trans (s10.trans (s13.trans (s15.trans s17)))))),f17_0⟩ hp
   ·obtain ⟨w18,s18⟩:=w0.pick' [0,1] 3 rfl rfl rfl
    exact a_ hp ⟨_,rfl,rfl,w18,(s0.trans s18),(nE.step s18)⟩
  ·obtain ⟨w19,s19⟩:=w0.pick' [0,1] 3 rfl rfl rfl
   exact a_ hp ⟨_,rfl,rfl,w19,(s0.trans s19),(nE.step s19)⟩
def cL.p (F:Nat) (aD:Bool) (ag:Int) (aw:Int) (hO:List Int) (dC:Int) (dD:Int) (dw:Int):Option (Bool×List Int):=cL.pl7 F F aD dC dD dw ag aw hO 0
theorem cL.P {F:Nat} {br aX bu bj aY aV bk bl bI bm ag aw dC dD dw:Int} {dY c_ et da db:Sl} {aD iu:Bool} {aa fo:Nat} {gE:ON} {gF:Cap} {hO:List Int} {iv iw k_:List AV} {H:Hp} {R0:List Rs} (oX:fo=hO.length) (h0:Inn H (Rs.blk aa [.i br,.i aX,.sl dY,.i bu,.i bj,.sl c_,.i aY,.i aV,.sl et,.i bk,.i bl,.sl da,.i bI,.i bm,.sl db,.bool aD] :: Rs.ow iu ⟨gE,fo,gF⟩ (ae .i64).z iv k_ iw :: R0) λR=>CR (ae .i64) H R k_ hO) {r:Bool×List Int} (hp:cL.p F aD ag aw hO dC dD dw=some r):∃ v H',cL.tw F aa 0 ag aw ⟨gE,fo,gF⟩ dC dD dw H=some (v,H')/\cL.Q H (Rs.blk aa [.i br,.i aX,.sl dY,.i bu,.i bj,.sl c_,.i aY,.i aV,.sl et,.i bk,.i bl,.sl da,.i bI,.i bm,.sl db,.bool aD] :: Rs.ow iu ⟨gE,fo,gF⟩ (ae .i64).z iv k_ iw :: R0) R0 br aX bu bj aY aV bk bl bI bm dY c_ et da db aa fo gE gF iu iv iw r v H':=by
 obtain ⟨w0,nD⟩:=h0
 subst oX
 unfold cL.p at hp
 unfold cL.tw cL.twX
 have s0:=w0.rf
 refine cJ w0 λH1 w1 s1=>?_
 obtain ⟨w2,s2⟩:=w1.pick' [1,2,0] 3 rfl rfl rfl
 exact cL.l7_P F rfl ⟨w2,(s0.trans (s1.trans s2)),(nD.step (s1.trans s2))⟩ hp
def gg.Q (H0:Hp) (Ri R0:List Rs) (br aX bu bj aY aV bk bl bI bm:Int) (cB dQ cn:ON) (bQ de bL aa:Nat) (cC dT co:Cap) (eS fE eT:Bool) (eU eV fH fI eW eX:List AV) (da db:Sl) (r:List Int×List Int×List Int×Bool) (v:AV) (H':Hp):Prop:=∃ jB:List AV,∃ kD:List AV,∃ jC:List AV,v=(.tup [])/\bQ=(r.1).length/\de=(r.2.1).length/\bL=(r.2.2.1).length/\Out H0 Ri H' (Rs.ow eS ⟨cB,bQ,cC⟩ (ae .i64).z eU jB eV :: Rs.ow fE ⟨dQ,de,dT⟩ (ae .i64).z fH kD fI :: Rs.ow eT ⟨cn,bL,co⟩ (ae .i64).z eW jC eX :: Rs.blk aa [.i br,.i aX,.sl ⟨cB,bQ,cC⟩,.i bu,.i bj,.sl ⟨dQ,de,dT⟩,.i aY,.i aV,.sl ⟨cn,bL,co⟩,.i bk,.i bl,.sl da,.i bI,.i bm,.sl db,.bool (r.2.2.2)] :: R0) λR=>CR (ae .i64) H' R jB (r.1)/\CR (ae .i64) H' R kD (r.2.1)/\CR (ae .i64) H' R jC (r.2.2.1)
def gg.p (F:Nat) (aX:Int) (dF:List Int) (bj:Int) (fw:List Int) (aY:Int) (aV:Int) (dh:List Int) (aD:Bool) (ag:Int) (cv:Int) (dl:Int):Option (List Int×List Int×List Int×Bool):=(bif (dl != 0) then ((cK.p F aD aX dF ag cv dl).bind λr2=>(cK.p F r2.1 bj fw ag cv dl).bind λr5=>(cL.p F r5.1 aY aV dh cv ag (IntKind.i64.wrap (0 - dl))).bind λr8=>some (r2.2,r5.2,r8.2,r8.1)) else (some (dF,fw,dh,aD)))
theorem gg.P {F:Nat} {br aX bu bj aY aV bk bl bI bm ag cv dl:Int} {cB dQ cn:ON} {bQ de bL aa:Nat} {cC dT co:Cap} {dF fw dh:List Int} {eS fE eT aD:Bool} {eU eV hK fH fI iN eW eX hN:List AV} {da db:Sl} {H:Hp} {R0:List Rs} (kZ:bQ=dF.length) (mU:de=fw.length) (kd:bL=dh.length) (h0:Inn H (Rs.ow eS ⟨cB,bQ,cC⟩ (ae .i64).z eU hK eV :: Rs.ow fE ⟨dQ,de,dT⟩ (ae .i64).z fH iN fI :: Rs.ow eT ⟨cn,bL,co⟩ (ae .i64).z eW hN eX :: Rs.blk aa [.i br,.i aX,.sl ⟨cB,bQ,cC⟩,.i bu,.i bj,.sl ⟨dQ,de,dT⟩,.i aY,.i aV,.sl ⟨cn,bL,co⟩,.i bk,.i bl,.sl da,.i bI,.i bm,.sl db,.bool aD] :: R0) λR=>CR (ae .i64) H R hK dF/\CR (ae .i64) H R iN fw/\CR (ae .i64) H R hN dh) {r:List Int×List Int×List Int×Bool} (hp:gg.p F aX dF bj fw aY aV dh aD ag cv dl=some r):∃ v H',gg.tw F aa 0 ag cv dl H=some (v,H')/\gg.Q H (Rs.ow eS ⟨cB,bQ,cC⟩ (ae .i64).z eU hK eV :: Rs.ow fE ⟨dQ,de,dT⟩ (ae .i64).z fH iN fI :: Rs.ow eT ⟨cn,bL,co⟩ (ae .i64).z eW hN eX :: Rs.blk aa [.i br,.i aX,.sl ⟨cB,bQ,cC⟩,.i bu,.i bj,.sl ⟨dQ,de,dT⟩,.i aY,.i aV,.sl ⟨cn,bL,co⟩,.i bk,.i bl,.sl da,.i bI,.i bm,.sl db,.bool aD] :: R0) R0 br aX bu bj aY aV bk bl bI bm cB dQ cn bQ de bL aa cC dT co eS fE eT eU eV fH fI eW eX da db r v H':=by
 obtain ⟨w0,jX,mm,jo⟩:=h0
 subst kZ
 subst mU
 subst kd
 unfold gg.p at hp
 unfold gg.tw gg.twX
 have s0:=w0.rf
 refine aZ hp (λhp=>?_) λhp=>?_
 ·refine ac (ah (w0.ld (i:=3) rfl rfl)) ?_
  refine ac (ah (w0.ld (i:=3) rfl rfl)) ?_
  refine ac (aH (w0.ld (i:=3) rfl rfl)) ?_
  obtain ⟨w1,s1⟩:=w0.pick' [3,0,1,2] 4 rfl rfl rfl
  obtain ⟨r2,e2,hp⟩:=ak hp
  refine aW (cK.P rfl ⟨w1,(jX.step s1)⟩ e2) ?_
  rintro _ H3 ⟨yr,rfl,hl3_0,w3,s3,f3_0⟩
  refine ac (ah (w3.ld (i:=0) rfl rfl)) ?_
  refine ac (ah (w3.ld (i:=0) rfl rfl)) ?_
  refine ac (aH (w3.ld (i:=0) rfl rfl)) ?_
  obtain ⟨w4,s4⟩:=w3.pick' [0,2,1,3] 4 rfl rfl rfl
  obtain ⟨r5,e5,hp⟩:=ak hp
  refine aW (cK.P rfl ⟨w4,(mm.step (s1.trans (s3.trans s4)))⟩ e5) ?_
  rintro _ H6 ⟨ys,rfl,hl6_0,w6,s6,f6_0⟩
  refine ac (ah (w6.ld (i:=0) rfl rfl)) ?_
  refine ac (ah (w6.ld (i:=0) rfl rfl)) ?_
  refine ac (aH (w6.ld (i:=0) rfl rfl)) ?_
  obtain ⟨w7,s7⟩:=w6.pick' [0,3,1,2] 4 rfl rfl rfl
  dsimp only [pk,pks,nth,List.drop,List.set,List.eraseIdx] at w7 s1 s4 s7
  obtain ⟨r8,e8,hp⟩:=ak hp
  refine aW (cL.P rfl ⟨w7,(jo.step (s1.trans (s3.trans (s4.trans (s6.trans s7)))))⟩ e8) ?_
  rintro _ H9 ⟨yt,rfl,hl9_0,w9,s9,f9_0⟩
  obtain ⟨w10,s10⟩:=w9.pick' [3,2,1,0] 4 rfl rfl rfl
  exact a_ hp ⟨_,_,_,rfl,hl3_0,hl6_0,hl9_0,w10,(s0.trans (s1.trans (s3.trans (s4.trans (s6.trans (s7.trans (s9.trans s10))))))),(f3_0.step (s4.trans (s6.trans (s7.trans (s9.trans s10))))),(f6_0.step (s7.trans (s9.trans s10))),(f9_0.step s10)⟩
 ·exact a_ hp ⟨_,_,_,rfl,rfl,rfl,rfl,w0,s0,jX,mm,jo⟩
def gr.Q (H0:Hp) (Ri R0:List Rs) (br aX bu bj aY aV bk bl bI bm:Int) (cB dR dS:ON) (bQ df dg aa:Nat) (cC dU dV:Cap) (eS fF fG:Bool) (eU eV fJ fK fL fM:List AV) (c_ et:Sl) (r:List Int×List Int×List Int×Bool) (v:AV) (H':Hp):Prop:=∃ jB:List AV,∃ kE:List AV,∃ kF:List AV,v=(.tup [])/\bQ=(r.1).length/\df=(r.2.1).length/\dg=(r.2.2.1).length/\Out H0 Ri H' (Rs.ow eS ⟨cB,bQ,cC⟩ (ae .i64).z eU jB eV :: Rs.ow fF ⟨dR,df,dU⟩ (ae .i64).z fJ kE fK :: Rs.ow fG ⟨dS,dg,dV⟩ (ae .i64).z fL kF fM :: Rs.blk aa [.i br,.i aX,.sl ⟨cB,bQ,cC⟩,.i bu,.i bj,.sl c_,.i aY,.i aV,.sl et,.i bk,.i bl,.sl ⟨dR,df,dU⟩,.i bI,.i bm,.sl ⟨dS,dg,dV⟩,.bool (r.2.2.2)] :: R0) λR=>CR (ae .i64) H' R jB (r.1)/\CR (ae .i64) H' R kE (r.2.1)/\CR (ae .i64) H' R kF (r.2.2.1)
def gr.p (F:Nat) (br:Int) (aX:Int) (dF:List Int) (bk:Int) (bl:Int) (fx:List Int) (bm:Int) (fy:List Int) (aD:Bool) (ag:Int) (cv:Int) (dl:Int):Option (List Int×List Int×List Int×Bool):=(bif (dl != 0) then ((cL.p F aD br aX dF ag cv dl).bind λr2=>(cL.p F r2.1 bk bl fx ag cv dl).bind λr5=>(cK.p F r5.1 bm fy cv ag (IntKind.i64.wrap (0 - dl))).bind λr8=>some (r2.2,r5.2,r8.2,r8.1)) else (some (dF,fx,fy,aD)))
theorem gr.P {F:Nat} {br aX bu bj aY aV bk bl bI bm ag cv dl:Int} {cB dR dS:ON} {bQ df dg aa:Nat} {cC dU dV:Cap} {dF fx fy:List Int} {eS fF fG aD:Bool} {eU eV hK fJ fK iO fL fM iR:List AV} {c_ et:Sl} {H:Hp} {R0:List Rs} (kZ:bQ=dF.length) (mV:df=fx.length) (mW:dg=fy.length) (h0:Inn H (Rs.ow eS ⟨cB,bQ,cC⟩ (ae .i64).z eU hK eV :: Rs.ow fF ⟨dR,df,dU⟩ (ae .i64).z fJ iO fK :: Rs.ow fG ⟨dS,dg,dV⟩ (ae .i64).z fL iR fM :: Rs.blk aa [.i br,.i aX,.sl ⟨cB,bQ,cC⟩,.i bu,.i bj,.sl c_,.i aY,.i aV,.sl et,.i bk,.i bl,.sl ⟨dR,df,dU⟩,.i bI,.i bm,.sl ⟨dS,dg,dV⟩,.bool aD] :: R0) λR=>CR (ae .i64) H R hK dF/\CR (ae .i64) H R iO fx/\CR (ae .i64) H R iR fy) {r:List Int×List Int×List Int×Bool} (hp:gr.p F br aX dF bk bl fx bm fy aD ag cv dl=some r):∃ v H',gr.tw F aa 0 ag cv dl H=some (v,H')/\gr.Q H (Rs.ow eS ⟨cB,bQ,cC⟩ (ae .i64).z eU hK eV :: Rs.ow fF ⟨dR,df,dU⟩ (ae .i64).z fJ iO fK :: Rs.ow fG ⟨dS,dg,dV⟩ (ae .i64).z fL iR fM :: Rs.blk aa [.i br,.i aX,.sl ⟨cB,bQ,cC⟩,.i bu,.i bj,.sl c_,.i aY,.i aV,.sl et,.i bk,.i bl,.sl ⟨dR,df,dU⟩,.i bI,.i bm,.sl ⟨dS,dg,dV⟩,.bool aD] :: R0) R0 br aX bu bj aY aV bk bl bI bm cB dR dS bQ df dg aa cC dU dV eS fF fG eU eV fJ fK fL fM c_ et r v H':=by
 obtain ⟨w0,jX,mn,mo⟩:=h0
 subst kZ
 subst mV
 subst mW
 unfold gr.p at hp
 unfold gr.tw gr.twX
 have s0:=w0.rf
 refine aZ hp (λhp=>?_) λhp=>?_
 ·refine ac (ah (w0.ld (i:=3) rfl rfl)) ?_
  refine ac (ah (w0.ld (i:=3) rfl rfl)) ?_
  refine ac (aH (w0.ld (i:=3) rfl rfl)) ?_
  obtain ⟨w1,s1⟩:=w0.pick' [3,0,1,2] 4 rfl rfl rfl
  obtain ⟨r2,e2,hp⟩:=ak hp
  refine aW (cL.P rfl ⟨w1,(jX.step s1)⟩ e2) ?_
  rintro _ H3 ⟨yr,rfl,hl3_0,w3,s3,f3_0⟩
  refine ac (ah (w3.ld (i:=0) rfl rfl)) ?_
  refine ac (ah (w3.ld (i:=0) rfl rfl)) ?_
  refine ac (aH (w3.ld (i:=0) rfl rfl)) ?_
  obtain ⟨w4,s4⟩:=w3.pick' [0,2,1,3] 4 rfl rfl rfl
  obtain ⟨r5,e5,hp⟩:=ak hp
  refine aW (cL.P rfl ⟨w4,(mn.step (s1.trans (s3.trans s4)))⟩ e5) ?_
  rintro _ H6 ⟨ys,rfl,hl6_0,w6,s6,f6_0⟩
  refine ac (ah (w6.ld (i:=0) rfl rfl)) ?_
  refine ac (ah (w6.ld (i:=0) rfl rfl)) ?_
  refine ac (aH (w6.ld (i:=0) rfl rfl)) ?_
  obtain ⟨w7,s7⟩:=w6.pick' [0,3,1,2] 4 rfl rfl rfl
  dsimp only [pk,pks,nth,List.drop,List.set,List.eraseIdx] at w7 s1 s4 s7
  obtain ⟨r8,e8,hp⟩:=ak hp
  refine aW (cK.P rfl ⟨w7,(mo.step (s1.trans (s3.trans (s4.trans (s6.trans s7)))))⟩ e8) ?_
  rintro _ H9 ⟨yt,rfl,hl9_0,w9,s9,f9_0⟩
  obtain ⟨w10,s10⟩:=w9.pick' [3,2,1,0] 4 rfl rfl rfl
  exact a_ hp ⟨_,_,_,rfl,hl3_0,hl6_0,hl9_0,w10,(s0.trans (s1.trans (s3.trans (s4.trans (s6.trans (s7.trans (s9.trans s10))))))),(f3_0.step (s4.trans (s6.trans (s7.trans (s9.trans s10))))),(f6_0.step (s7.trans (s9.trans s10))),(f9_0.step s10)⟩
 ·exact a_ hp ⟨_,_,_,rfl,rfl,rfl,rfl,w0,s0,jX,mn,mo⟩
def bK.Q (H0:Hp) (Ri R0:List Rs) (br aX bu bj aY aV bk bl bI bm:Int) (cB:ON) (bQ aa:Nat) (cC:Cap) (dF:List Int) (c_ et da db:Sl) (aD:Bool) (r:Bool) (v:AV) (H':Hp):Prop:=v=(.bool r)/\Out H0 Ri H' (Rs.blk aa [.i br,.i aX,.sl ⟨cB,bQ,cC⟩,.i bu,.i bj,.sl c_,.i aY,.i aV,.sl et,.i bk,.i bl,.sl da,.i bI,.i bm,.sl db,.bool aD] :: R0) λR=>True
def bK.S13 (H0:Hp) (Ri R0:List Rs) (aB aq aF av ax ar ay az aJ aA:Int) (aT:ON) (aI aE:Nat) (aU:Cap) (ck:List Int) (cp eC cq ct:Sl) (bJ:Bool) (C:Nat->Nat->Int->Int->Hp->OA) (pC:Int->Int->List Int->Int->Int->Option (Bool)):Prop:=∀ {dq eu:Int},∀ {H:Hp},aI=ck.length->(Out H0 Ri H (Rs.blk aE [.i aB,.i aq,.sl ⟨aT,aI,aU⟩,.i aF,.i av,.sl cp,.i ax,.i ar,.sl eC,.i ay,.i az,.sl cq,.i aJ,.i aA,.sl ct,.bool bJ] :: R0) λR=>ROs (ae .i64) H R ⟨aT,aI,aU⟩ ck)->∀ {r:Bool},pC aB aq ck dq eu=some r->∃ v H',C aE 0 dq eu H=some (v,H')/\bK.Q H0 Ri R0 aB aq aF av ax ar ay az aJ aA aT aI aE aU ck cp eC cq ct bJ r v H'
def bK.S29 (H0:Hp) (Ri R0:List Rs) (aB aq aF av ax ar ay az aJ aA:Int) (aT:ON) (aI aE:Nat) (aU:Cap) (ck:List Int) (cp eC cq ct:Sl) (bJ:Bool) (C:Nat->Nat->Int->Int->Hp->OA) (pC:Int->List Int->Int->Int->Option (Bool)):Prop:=∀ {lM ll:Int},∀ {H:Hp},aI=ck.length->(Out H0 Ri H (Rs.blk aE [.i aB,.i aq,.sl ⟨aT,aI,aU⟩,.i aF,.i av,.sl cp,.i ax,.i ar,.sl eC,.i ay,.i az,.sl cq,.i aJ,.i aA,.sl ct,.bool bJ] :: R0) λR=>ROs (ae .i64) H R ⟨aT,aI,aU⟩ ck)->∀ {r:Bool},pC aq ck lM ll=some r->∃ v H',C aE 0 lM ll H=some (v,H')/\bK.Q H0 Ri R0 aB aq aF av ax ar ay az aJ aA aT aI aE aU ck cp eC cq ct bJ r v H'
def bK.pl29 (F:Nat) :Nat->Int->List Int->Int->Int->Option (Bool)
 | 0,_,_,_,_=>none
 | k+1,aq,ck,lM,ll=>(bif (decide (ll<aq)) then ((bo.p F aq ck lM ll).bind λr1=>(bif (r1 != 0) then (some false) else (bK.pl29 F k aq ck lM (IntKind.i64.wrap (ll+1))))) else (some true))
termination_by structural n=>n
theorem bK.l29_P {F:Nat} {H0:Hp} {Ri R0:List Rs} {aB aq aF av ax ar ay az aJ aA:Int} {aT:ON} {aI aE:Nat} {aU:Cap} {ck:List Int} {cp eC cq ct:Sl} {bJ:Bool} :∀ k,bK.S29 H0 Ri R0 aB aq aF av ax ar ay az aJ aA aT aI aE aU ck cp eC cq ct bJ (bK.l29 F (bo.tw F)  k) (bK.pl29 F  k):=by
 intro k
 induction k with
 | zero=>unfold bK.S29;intros;rename_i hp;cases hp
 | succ k ih=>
  intro lM ll H mX h0 r hp
  obtain ⟨w0,s0,lf⟩:=h0
  subst mX
  unfold bK.pl29 at hp
  unfold bK.l29
  refine ac (ah (w0.ld (i:=0) rfl rfl)) ?_
  refine aZ hp (λhp=>?_) λhp=>?_
  ·refine ac (ah (w0.ld (i:=0) rfl rfl)) ?_
   refine ac (ah (w0.ld (i:=0) rfl rfl)) ?_
   refine ac (aH (w0.ld (i:=0) rfl rfl)) ?_
   obtain ⟨r1,e1,hp⟩:=ak hp
   refine aW (bo.P rfl ⟨w0,lf⟩ e1) ?_
   rintro _ H2 ⟨rfl,w2,s2,_⟩
   refine ac rfl ?_
   refine aZ hp (λhp=>?_) λhp=>?_
   ·exact a_ hp ⟨rfl,w2,(s0.trans s2),trivial⟩
   ·exact ih rfl ⟨w2,(s0.trans s2),(lf.step s2)⟩ hp
  ·exact a_ hp ⟨rfl,w0,s0,trivial⟩
def bK.pj1 (F:Nat)  (aq:Int) (ck:List Int) (pu:Int):Option (Bool):=bK.pl29 F F aq ck pu (IntKind.i64.wrap (pu+1))
theorem bK.j1_P {F:Nat} {H0:Hp} {Ri R0:List Rs} {aB aq aF av ax ar ay az aJ aA:Int} {aT:ON} {aI aE:Nat} {aU:Cap} {ck:List Int} {cp eC cq ct:Sl} {bJ:Bool}  {pu:Int} {H:Hp} (mX:aI=ck.length) (h0:Out H0 Ri H (Rs.blk aE [.i aB,.i aq,.sl ⟨aT,aI,aU⟩,.i aF,.i av,.sl cp,.i ax,.i ar,.sl eC,.i ay,.i az,.sl cq,.i aJ,.i aA,.sl ct,.bool bJ] :: R0) λR=>ROs (ae .i64) H R ⟨aT,aI,aU⟩ ck) {r:Bool} (hp:bK.pj1 F  aq ck pu=some r):∃ v H',bK.j1 F (bo.tw F)  aE 0 pu H=some (v,H')/\bK.Q H0 Ri R0 aB aq aF av ax ar ay az aJ aA aT aI aE aU ck cp eC cq ct bJ r v H':=by
 obtain ⟨w0,s0,lf⟩:=h0
 subst mX
 unfold bK.pj1 at hp
 unfold bK.j1
 exact bK.l29_P F rfl ⟨w0,s0,lf⟩ hp
def bK.pl13 (F:Nat) :Nat->Int->Int->List Int->Int->Int->Option (Bool)
 | 0,_,_,_,_,_=>none
 | k+1,aB,aq,ck,dq,eu=>(bif (decide (eu<aB)) then ((bo.p F aq ck eu dq).bind λr1=>(bif (r1 != 0) then (some false) else (bK.pl13 F k aB aq ck dq (IntKind.i64.wrap (eu+1))))) else (bK.pj1 F aq ck dq))
termination_by structural n=>n
theorem bK.l13_P {F:Nat} {H0:Hp} {Ri R0:List Rs} {aB aq aF av ax ar ay az aJ aA:Int} {aT:ON} {aI aE:Nat} {aU:Cap} {ck:List Int} {cp eC cq ct:Sl} {bJ:Bool} :∀ k,bK.S13 H0 Ri R0 aB aq aF av ax ar ay az aJ aA aT aI aE aU ck cp eC cq ct bJ (bK.l13 F (bo.tw F)  k) (bK.pl13 F  k):=by
 intro k
 induction k with
 | zero=>unfold bK.S13;intros;rename_i hp;cases hp
 | succ k ih=>
  intro dq eu H mX h0 r hp
  obtain ⟨w0,s0,lf⟩:=h0
  subst mX
  unfold bK.pl13 at hp
  unfold bK.l13
  refine ac (ah (w0.ld (i:=0) rfl rfl)) ?_
  refine aZ hp (λhp=>?_) λhp=>?_
  ·refine ac (ah (w0.ld (i:=0) rfl rfl)) ?_
   refine ac (ah (w0.ld (i:=0) rfl rfl)) ?_
   refine ac (aH (w0.ld (i:=0) rfl rfl)) ?_
   obtain ⟨r1,e1,hp⟩:=ak hp
   refine aW (bo.P rfl ⟨w0,lf⟩ e1) ?_
   rintro _ H2 ⟨rfl,w2,s2,_⟩
   refine ac rfl ?_
   refine aZ hp (λhp=>?_) λhp=>?_
   ·exact a_ hp ⟨rfl,w2,(s0.trans s2),trivial⟩
   ·exact ih rfl ⟨w2,(s0.trans s2),(lf.step s2)⟩ hp
  ·exact bK.j1_P rfl ⟨w0,s0,lf⟩ hp
def bK.p (F:Nat) (br:Int) (aX:Int) (dF:List Int) (ag:Int):Option (Bool):=bK.pl13 F F br aX dF ag (IntKind.i64.wrap (ag+1))
theorem bK.P {F:Nat} {br aX bu bj aY aV bk bl bI bm ag:Int} {cB:ON} {bQ aa:Nat} {cC:Cap} {dF:List Int} {c_ et da db:Sl} {aD:Bool} {H:Hp} {R0:List Rs} (kZ:bQ=dF.length) (h0:Inn H (Rs.blk aa [.i br,.i aX,.sl ⟨cB,bQ,cC⟩,.i bu,.i bj,.sl c_,.i aY,.i aV,.sl et,.i bk,.i bl,.sl da,.i bI,.i bm,.sl db,.bool aD] :: R0) λR=>ROs (ae .i64) H R ⟨cB,bQ,cC⟩ dF) {r:Bool} (hp:bK.p F br aX dF ag=some r):∃ v H',bK.tw F aa 0 ag H=some (v,H')/\bK.Q H (Rs.blk aa [.i br,.i aX,.sl ⟨cB,bQ,cC⟩,.i bu,.i bj,.sl c_,.i aY,.i aV,.sl et,.i bk,.i bl,.sl da,.i bI,.i bm,.sl db,.bool aD] :: R0) R0 br aX bu bj aY aV bk bl bI bm cB bQ aa cC dF c_ et da db aD r v H':=by
 obtain ⟨w0,jX⟩:=h0
 subst kZ
 unfold bK.p at hp
 unfold bK.tw bK.twX
 have s0:=w0.rf
 exact bK.l13_P F rfl ⟨w0,s0,jX⟩ hp
def bp.Q (H0:Hp) (Ri R0:List Rs) (br aX bu bj aY aV bk bl bI bm:Int) (cB:ON) (bQ aa:Nat) (cC:Cap) (dF:List Int) (c_ et da db:Sl) (aD:Bool) (r:Int) (v:AV) (H':Hp):Prop:=v=(.i r)/\Out H0 Ri H' (Rs.blk aa [.i br,.i aX,.sl ⟨cB,bQ,cC⟩,.i bu,.i bj,.sl c_,.i aY,.i aV,.sl et,.i bk,.i bl,.sl da,.i bI,.i bm,.sl db,.bool aD] :: R0) λR=>True
def bp.S13 (H0:Hp) (Ri R0:List Rs) (aB aq aF av ax ar ay az aJ aA:Int) (aT:ON) (aI aE:Nat) (aU:Cap) (ck:List Int) (cp eC cq ct:Sl) (bJ:Bool) (C:Nat->Nat->Int->Int->Hp->OA) (pC:Int->Int->List Int->Int->Int->Option (Int)):Prop:=∀ {dq eu:Int},∀ {H:Hp},aI=ck.length->(Out H0 Ri H (Rs.blk aE [.i aB,.i aq,.sl ⟨aT,aI,aU⟩,.i aF,.i av,.sl cp,.i ax,.i ar,.sl eC,.i ay,.i az,.sl cq,.i aJ,.i aA,.sl ct,.bool bJ] :: R0) λR=>ROs (ae .i64) H R ⟨aT,aI,aU⟩ ck)->∀ {r:Int},pC aB aq ck dq eu=some r->∃ v H',C aE 0 dq eu H=some (v,H')/\bp.Q H0 Ri R0 aB aq aF av ax ar ay az aJ aA aT aI aE aU ck cp eC cq ct bJ r v H'
def bp.S213 (H0:Hp) (Ri R0:List Rs) (aB aq aF av ax ar ay az aJ aA:Int) (aT:ON) (aI aE:Nat) (aU:Cap) (ck:List Int) (cp eC cq ct:Sl) (bJ:Bool) (C:Nat->Nat->Int->Int->Int->Hp->OA) (pC:Int->Int->List Int->Int->Int->Int->Option (Int)):Prop:=∀ {kn ko lm:Int},∀ {H:Hp},aI=ck.length->(Out H0 Ri H (Rs.blk aE [.i aB,.i aq,.sl ⟨aT,aI,aU⟩,.i aF,.i av,.sl cp,.i ax,.i ar,.sl eC,.i ay,.i az,.sl cq,.i aJ,.i aA,.sl ct,.bool bJ] :: R0) λR=>ROs (ae .i64) H R ⟨aT,aI,aU⟩ ck)->∀ {r:Int},pC aB aq ck kn ko lm=some r->∃ v H',C aE 0 kn ko lm H=some (v,H')/\bp.Q H0 Ri R0 aB aq aF av ax ar ay az aJ aA aT aI aE aU ck cp eC cq ct bJ r v H'
def bp.pj3 (F:Nat) (kG:Int->Int->List Int->Int->Int->Option (Int)) (aB:Int) (aq:Int) (ck:List Int) (sp:Int) (sq:Int):Option (Int):=kG aB aq ck sp (IntKind.i64.wrap (sq+1))
theorem bp.j3_P {F:Nat} {H0:Hp} {Ri R0:List Rs} {aB aq aF av ax ar ay az aJ aA:Int} {aT:ON} {aI aE:Nat} {aU:Cap} {ck:List Int} {cp eC cq ct:Sl} {bJ:Bool} {C13_:Nat->Nat->Int->Int->Hp->OA} {kG:Int->Int->List Int->Int->Int->Option (Int)} (hC13:bp.S13 H0 Ri R0 aB aq aF av ax ar ay az aJ aA aT aI aE aU ck cp eC cq ct bJ C13_ kG) {sp sq:Int} {H:Hp} (mX:aI=ck.length) (h0:Out H0 Ri H (Rs.blk aE [.i aB,.i aq,.sl ⟨aT,aI,aU⟩,.i aF,.i av,.sl cp,.i ax,.i ar,.sl eC,.i ay,.i az,.sl cq,.i aJ,.i aA,.sl ct,.bool bJ] :: R0) λR=>ROs (ae .i64) H R ⟨aT,aI,aU⟩ ck) {r:Int} (hp:bp.pj3 F kG aB aq ck sp sq=some r):∃ v H',bp.j3 F (bo.tw F) C13_ aE 0 sp sq H=some (v,H')/\bp.Q H0 Ri R0 aB aq aF av ax ar ay az aJ aA aT aI aE aU ck cp eC cq ct bJ r v H':=by
 obtain ⟨w0,s0,lf⟩:=h0
 subst mX
 unfold bp.pj3 at hp
 unfold bp.j3
 exact hC13 rfl ⟨w0,s0,lf⟩ hp
def bp.pj4 (F:Nat) (kG:Int->Int->List Int->Int->Int->Option (Int)) (aB:Int) (aq:Int) (ck:List Int) (su:Int) (pv:Int):Option (Int):=bp.pj3 F kG aB aq ck su pv
theorem bp.j4_P {F:Nat} {H0:Hp} {Ri R0:List Rs} {aB aq aF av ax ar ay az aJ aA:Int} {aT:ON} {aI aE:Nat} {aU:Cap} {ck:List Int} {cp eC cq ct:Sl} {bJ:Bool} {C13_:Nat->Nat->Int->Int->Hp->OA} {kG:Int->Int->List Int->Int->Int->Option (Int)} (hC13:bp.S13 H0 Ri R0 aB aq aF av ax ar ay az aJ aA aT aI aE aU ck cp eC cq ct bJ C13_ kG) {su pv:Int} {H:Hp} (mX:aI=ck.length) (h0:Out H0 Ri H (Rs.blk aE [.i aB,.i aq,.sl ⟨aT,aI,aU⟩,.i aF,.i av,.sl cp,.i ax,.i ar,.sl eC,.i ay,.i az,.sl cq,.i aJ,.i aA,.sl ct,.bool bJ] :: R0) λR=>ROs (ae .i64) H R ⟨aT,aI,aU⟩ ck) {r:Int} (hp:bp.pj4 F kG aB aq ck su pv=some r):∃ v H',bp.j4 F (bo.tw F) C13_ aE 0 su pv H=some (v,H')/\bp.Q H0 Ri R0 aB aq aF av ax ar ay az aJ aA aT aI aE aU ck cp eC cq ct bJ r v H':=by
 obtain ⟨w0,s0,lf⟩:=h0
 subst mX
 unfold bp.pj4 at hp
 unfold bp.j4
 exact bp.j3_P (@hC13) rfl ⟨w0,s0,lf⟩ hp
def bp.pl213 (F:Nat) (kG:Int->Int->List Int->Int->Int->Option (Int)):Nat->Int->Int->List Int->Int->Int->Int->Option (Int)
 | 0,_,_,_,_,_,_=>none
 | k+1,aB,aq,ck,kn,ko,lm=>(bif (decide (lm<aq)) then ((bo.p F aq ck ko lm).bind λr1=>(bo.p F aq ck kn kn).bind λr4=>(if r4=0 then none else ((bif ((Int.tmod r1 r4) != 0) then (some ko) else (bp.pl213 F kG k aB aq ck kn ko (IntKind.i64.wrap (lm+1))))))) else (bp.pj4 F kG aB aq ck kn ko))
termination_by structural n=>n
theorem bp.l213_P {F:Nat} {H0:Hp} {Ri R0:List Rs} {aB aq aF av ax ar ay az aJ aA:Int} {aT:ON} {aI aE:Nat} {aU:Cap} {ck:List Int} {cp eC cq ct:Sl} {bJ:Bool} {C13_:Nat->Nat->Int->Int->Hp->OA} {kG:Int->Int->List Int->Int->Int->Option (Int)} (hC13:bp.S13 H0 Ri R0 aB aq aF av ax ar ay az aJ aA aT aI aE aU ck cp eC cq ct bJ C13_ kG):∀ k,bp.S213 H0 Ri R0 aB aq aF av ax ar ay az aJ aA aT aI aE aU ck cp eC cq ct bJ (bp.l213 F (bo.tw F) C13_ k) (bp.pl213 F kG k):=by
 intro k
 induction k with
 | zero=>unfold bp.S213;intros;rename_i hp;cases hp
 | succ k ih=>
  intro kn ko lm H mX h0 r hp
  obtain ⟨w0,s0,lf⟩:=h0
  subst mX
  unfold bp.pl213 at hp
  unfold bp.l213
  refine ac (ah (w0.ld (i:=0) rfl rfl)) ?_
  refine aZ hp (λhp=>?_) λhp=>?_
  ·refine ac (ah (w0.ld (i:=0) rfl rfl)) ?_
   refine ac (ah (w0.ld (i:=0) rfl rfl)) ?_
   refine ac (aH (w0.ld (i:=0) rfl rfl)) ?_
   obtain ⟨r1,e1,hp⟩:=ak hp
   refine aW (bo.P rfl ⟨w0,lf⟩ e1) ?_
   rintro _ H2 ⟨rfl,w2,s2,_⟩
   refine ac rfl ?_
   refine fq (W.cons_of (Rn:=[]) w0 w2 s2) ?_
   refine ac (ah (w2.ld (i:=0) rfl rfl)) ?_
   refine ac (ah (w2.ld (i:=0) rfl rfl)) ?_
   refine ac (aH (w2.ld (i:=0) rfl rfl)) ?_
   obtain ⟨r4,e4,hp⟩:=ak hp
   refine aW (bo.P rfl ⟨w2,(lf.step s2)⟩ e4) ?_
   rintro _ H5 ⟨rfl,w5,s5,_⟩
   refine ac rfl ?_
   obtain ⟨g6,hp⟩:=oh hp
   refine ol g6 ?_
   refine aZ hp (λhp=>?_) λhp=>?_
   ·exact a_ hp ⟨rfl,w5,(s0.trans (s2.trans s5)),trivial⟩
   ·exact ih rfl ⟨w5,(s0.trans (s2.trans s5)),(lf.step (s2.trans s5))⟩ hp
  ·exact bp.j4_P (@hC13) rfl ⟨w0,s0,lf⟩ hp
def bp.pl13 (F:Nat) :Nat->Int->Int->List Int->Int->Int->Option (Int)
 | 0,_,_,_,_,_=>none
 | k+1,aB,aq,ck,dq,eu=>(bif (decide (eu<aB)) then (bp.pl213 F (bp.pl13 F k) F aB aq ck dq eu (IntKind.i64.wrap (dq+1))) else (some (-1)))
termination_by structural n=>n
theorem bp.l13_P {F:Nat} {H0:Hp} {Ri R0:List Rs} {aB aq aF av ax ar ay az aJ aA:Int} {aT:ON} {aI aE:Nat} {aU:Cap} {ck:List Int} {cp eC cq ct:Sl} {bJ:Bool} :∀ k,bp.S13 H0 Ri R0 aB aq aF av ax ar ay az aJ aA aT aI aE aU ck cp eC cq ct bJ (bp.l13 F (bo.tw F)  k) (bp.pl13 F  k):=by
 intro k
 induction k with
 | zero=>unfold bp.S13;intros;rename_i hp;cases hp
 | succ k ih=>
  intro dq eu H mX h0 r hp
  obtain ⟨w0,s0,lf⟩:=h0
  subst mX
  unfold bp.pl13 at hp
  unfold bp.l13
  refine ac (ah (w0.ld (i:=0) rfl rfl)) ?_
  refine aZ hp (λhp=>?_) λhp=>?_
  ·exact bp.l213_P (@ih) F rfl ⟨w0,s0,lf⟩ hp
  ·exact a_ hp ⟨rfl,w0,s0,trivial⟩
def bp.p (F:Nat) (br:Int) (aX:Int) (dF:List Int) (ag:Int):Option (Int):=bp.pl13 F F br aX dF ag (IntKind.i64.wrap (ag+1))
theorem bp.P {F:Nat} {br aX bu bj aY aV bk bl bI bm ag:Int} {cB:ON} {bQ aa:Nat} {cC:Cap} {dF:List Int} {c_ et da db:Sl} {aD:Bool} {H:Hp} {R0:List Rs} (kZ:bQ=dF.length) (h0:Inn H (Rs.blk aa [.i br,.i aX,.sl ⟨cB,bQ,cC⟩,.i bu,.i bj,.sl c_,.i aY,.i aV,.sl et,.i bk,.i bl,.sl da,.i bI,.i bm,.sl db,.bool aD] :: R0) λR=>ROs (ae .i64) H R ⟨cB,bQ,cC⟩ dF) {r:Int} (hp:bp.p F br aX dF ag=some r):∃ v H',bp.tw F aa 0 ag H=some (v,H')/\bp.Q H (Rs.blk aa [.i br,.i aX,.sl ⟨cB,bQ,cC⟩,.i bu,.i bj,.sl c_,.i aY,.i aV,.sl et,.i bk,.i bl,.sl da,.i bI,.i bm,.sl db,.bool aD] :: R0) R0 br aX bu bj aY aV bk bl bI bm cB bQ aa cC dF c_ et da db aD r v H':=by
 obtain ⟨w0,jX⟩:=h0
 subst kZ
 unfold bp.p at hp
 unfold bp.tw bp.twX
 have s0:=w0.rf
 exact bp.l13_P F rfl ⟨w0,s0,jX⟩ hp
def bg.Q (H0:Hp) (Ri R0:List Rs) (br aX bu bj aY aV bk bl bI bm:Int) (cB dQ cn dR dS:ON) (bQ de bL df dg aa:Nat) (cC dT co dU dV:Cap) (eS fE eT fF fG:Bool) (eU eV fH fI eW eX fJ fK fL fM:List AV) (r:Bool×Bool×List Int×List Int×List Int×List Int×List Int×Bool) (v:AV) (H':Hp):Prop:=∃ jB:List AV,∃ kD:List AV,∃ jC:List AV,∃ kE:List AV,∃ kF:List AV,v=(.tup [(.bool r.1),(.bool r.2.1)])/\bQ=(r.2.2.1).length/\de=(r.2.2.2.1).length/\bL=(r.2.2.2.2.1).length/\df=(r.2.2.2.2.2.1).length/\dg=(r.2.2.2.2.2.2.1).length/\Out H0 Ri H' (Rs.ow eS ⟨cB,bQ,cC⟩ (ae .i64).z eU jB eV :: Rs.ow fE ⟨dQ,de,dT⟩ (ae .i64).z fH kD fI :: Rs.ow eT ⟨cn,bL,co⟩ (ae .i64).z eW jC eX :: Rs.ow fF ⟨dR,df,dU⟩ (ae .i64).z fJ kE fK :: Rs.ow fG ⟨dS,dg,dV⟩ (ae .i64).z fL kF fM :: Rs.blk aa [.i br,.i aX,.sl ⟨cB,bQ,cC⟩,.i bu,.i bj,.sl ⟨dQ,de,dT⟩,.i aY,.i aV,.sl ⟨cn,bL,co⟩,.i bk,.i bl,.sl ⟨dR,df,dU⟩,.i bI,.i bm,.sl ⟨dS,dg,dV⟩,.bool (r.2.2.2.2.2.2.2)] :: R0) λR=>CR (ae .i64) H' R jB (r.2.2.1)/\CR (ae .i64) H' R kD (r.2.2.2.1)/\CR (ae .i64) H' R jC (r.2.2.2.2.1)/\CR (ae .i64) H' R kE (r.2.2.2.2.2.1)/\CR (ae .i64) H' R kF (r.2.2.2.2.2.2.1)
def bg.S29 (H0:Hp) (Ri R0:List Rs) (aB aq aF av ax ar ay az aJ aA:Int) (aT bA aM bB bC:ON) (aI ba aG bc bf aE:Nat) (aU bD aN bE bF:Cap) (bS bT bU bV bW:Bool) (bX bY bZ b_ ca cb ce cf cg ch:List AV) (C:Nat->Nat->Int->Int->Hp->OA) (pC:Int->Int->List Int->Int->List Int->Int->Int->List Int->Int->Int->List Int->Int->List Int->Bool->Int->Int->Option (Bool×Bool×List Int×List Int×List Int×List Int×List Int×Bool)):Prop:=∀ {aK aO aL aP aQ:List Int} {cO cP cQ cR cS:List AV} {aD:Bool} {f_ kq:Int},∀ {H:Hp},aI=aK.length->ba=aO.length->aG=aL.length->bc=aP.length->bf=aQ.length->(Out H0 Ri H (Rs.ow bS ⟨aT,aI,aU⟩ (ae .i64).z bX cO bY :: Rs.ow bT ⟨bA,ba,bD⟩ (ae .i64).z bZ cP b_ :: Rs.ow bU ⟨aM,aG,aN⟩ (ae .i64).z ca cQ cb :: Rs.ow bV ⟨bB,bc,bE⟩ (ae .i64).z ce cR cf :: Rs.ow bW ⟨bC,bf,bF⟩ (ae .i64).z cg cS ch :: Rs.blk aE [.i aB,.i aq,.sl ⟨aT,aI,aU⟩,.i aF,.i av,.sl ⟨bA,ba,bD⟩,.i ax,.i ar,.sl ⟨aM,aG,aN⟩,.i ay,.i az,.sl ⟨bB,bc,bE⟩,.i aJ,.i aA,.sl ⟨bC,bf,bF⟩,.bool aD] :: R0) λR=>CR (ae .i64) H R cO aK/\CR (ae .i64) H R cP aO/\CR (ae .i64) H R cQ aL/\CR (ae .i64) H R cR aP/\CR (ae .i64) H R cS aQ)->∀ {r:Bool×Bool×List Int×List Int×List Int×List Int×List Int×Bool},pC aB aq aK av aO ax ar aL ay az aP aA aQ aD f_ kq=some r->∃ v H',C aE 0 f_ kq H=some (v,H')/\bg.Q H0 Ri R0 aB aq aF av ax ar ay az aJ aA aT bA aM bB bC aI ba aG bc bf aE aU bD aN bE bF bS bT bU bV bW bX bY bZ b_ ca cb ce cf cg ch r v H'
def bg.S61 (H0:Hp) (Ri R0:List Rs) (aB aq aF av ax ar ay az aJ aA:Int) (aT bA aM bB bC:ON) (aI ba aG bc bf aE:Nat) (aU bD aN bE bF:Cap) (bS bT bU bV bW:Bool) (bX bY bZ b_ ca cb ce cf cg ch:List AV) (C:Nat->Nat->Int->Int->Hp->OA) (pC:Int->Int->List Int->Int->List Int->Int->Int->List Int->Int->Int->List Int->Int->List Int->Bool->Int->Int->Option (Bool×Bool×List Int×List Int×List Int×List Int×List Int×Bool)):Prop:=∀ {aK aO aL aP aQ:List Int} {cO cP cQ cR cS:List AV} {aD:Bool} {iX kp:Int},∀ {H:Hp},aI=aK.length->ba=aO.length->aG=aL.length->bc=aP.length->bf=aQ.length->(Out H0 Ri H (Rs.ow bS ⟨aT,aI,aU⟩ (ae .i64).z bX cO bY :: Rs.ow bT ⟨bA,ba,bD⟩ (ae .i64).z bZ cP b_ :: Rs.ow bU ⟨aM,aG,aN⟩ (ae .i64).z ca cQ cb :: Rs.ow bV ⟨bB,bc,bE⟩ (ae .i64).z ce cR cf :: Rs.ow bW ⟨bC,bf,bF⟩ (ae .i64).z cg cS ch :: Rs.blk aE [.i aB,.i aq,.sl ⟨aT,aI,aU⟩,.i aF,.i av,.sl ⟨bA,ba,bD⟩,.i ax,.i ar,.sl ⟨aM,aG,aN⟩,.i ay,.i az,.sl ⟨bB,bc,bE⟩,.i aJ,.i aA,.sl ⟨bC,bf,bF⟩,.bool aD] :: R0) λR=>CR (ae .i64) H R cO aK/\CR (ae .i64) H R cP aO/\CR (ae .i64) H R cQ aL/\CR (ae .i64) H R cR aP/\CR (ae .i64) H R cS aQ)->∀ {r:Bool×Bool×List Int×List Int×List Int×List Int×List Int×Bool},pC aB aq aK av aO ax ar aL ay az aP aA aQ aD iX kp=some r->∃ v H',C aE 0 iX kp H=some (v,H')/\bg.Q H0 Ri R0 aB aq aF av ax ar ay az aJ aA aT bA aM bB bC aI ba aG bc bf aE aU bD aN bE bF bS bT bU bV bW bX bY bZ b_ ca cb ce cf cg ch r v H'
def bg.pj1 (F:Nat)  (aB:Int) (aq:Int) (aK:List Int) (av:Int) (aO:List Int) (ax:Int) (ar:Int) (aL:List Int) (aP:List Int) (aQ:List Int) (aD:Bool) (nT:Int):Option (Bool×Bool×List Int×List Int×List Int×List Int×List Int×Bool):=(bif aD then (some (false,false,aK,aO,aL,aP,aQ,aD)) else ((bK.p F aB aq aK nT).bind λr3=>(bif (!r3) then (some (false,false,aK,aO,aL,aP,aQ,aD)) else ((bp.p F aB aq aK nT).bind λr8=>(bif (decide (r8<0)) then (some (true,false,aK,aO,aL,aP,aQ,aD)) else ((gg.p F aq aK av aO ax ar aL aD nT r8 (-1)).bind λr13=>some (false,false,r13.1,r13.2.1,r13.2.2.1,aP,aQ,r13.2.2.2)))))))
theorem bg.j1_P {F:Nat} {H0:Hp} {Ri R0:List Rs} {aB aq aF av ax ar ay az aJ aA:Int} {aT bA aM bB bC:ON} {aI ba aG bc bf aE:Nat} {aU bD aN bE bF:Cap} {bS bT bU bV bW:Bool} {bX bY bZ b_ ca cb ce cf cg ch:List AV}  {aK aO aL aP aQ:List Int} {cO cP cQ cR cS:List AV} {aD:Bool} {nT:Int} {H:Hp} (eY:aI=aK.length) (eZ:ba=aO.length) (e_:aG=aL.length) (fa:bc=aP.length) (fb:bf=aQ.length) (h0:Out H0 Ri H (Rs.ow bS ⟨aT,aI,aU⟩ (ae .i64).z bX cO bY :: Rs.ow bT ⟨bA,ba,bD⟩ (ae .i64).z bZ cP b_ :: Rs.ow bU ⟨aM,aG,aN⟩ (ae .i64).z ca cQ cb :: Rs.ow bV ⟨bB,bc,bE⟩ (ae .i64).z ce cR cf :: Rs.ow bW ⟨bC,bf,bF⟩ (ae .i64).z cg cS ch :: Rs.blk aE [.i aB,.i aq,.sl ⟨aT,aI,aU⟩,.i aF,.i av,.sl ⟨bA,ba,bD⟩,.i ax,.i ar,.sl ⟨aM,aG,aN⟩,.i ay,.i az,.sl ⟨bB,bc,bE⟩,.i aJ,.i aA,.sl ⟨bC,bf,bF⟩,.bool aD] :: R0) λR=>CR (ae .i64) H R cO aK/\CR (ae .i64) H R cP aO/\CR (ae .i64) H R cQ aL/\CR (ae .i64) H R cR aP/\CR (ae .i64) H R cS aQ) {r:Bool×Bool×List Int×List Int×List Int×List Int×List Int×Bool} (hp:bg.pj1 F  aB aq aK av aO ax ar aL aP aQ aD nT=some r):∃ v H',bg.j1 F (aC.tw F) (bo.tw F) (gA.tw F) (gg.tw F) (gr.tw F) (bK.tw F) (bp.tw F)  aE 0 nT H=some (v,H')/\bg.Q H0 Ri R0 aB aq aF av ax ar ay az aJ aA aT bA aM bB bC aI ba aG bc bf aE aU bD aN bE bF bS bT bU bV bW bX bY bZ b_ ca cb ce cf cg ch r v H':=by
 obtain ⟨w0,s0,cT,dp,cZ,dx,dy⟩:=h0
 subst eY
 subst eZ
 subst e_
 subst fa
 subst fb
 unfold bg.pj1 at hp
 unfold bg.j1
 refine ac (mN (w0.ld (i:=5) rfl rfl)) ?_
 refine aZ hp (λhp=>?_) λhp=>?_
 ·exact a_ hp ⟨_,_,_,_,_,rfl,rfl,rfl,rfl,rfl,rfl,w0,s0,cT,dp,cZ,dx,dy⟩
 ·obtain ⟨w1,s1⟩:=w0.pick' [0,5,1,2,3,4] 6 rfl rfl rfl
  have f2:=W.borrow1 (ae .i64) w1 (cT.step s1)
  obtain ⟨w2,s2⟩:=w1.right1
  obtain ⟨r3,e3,hp⟩:=ak hp
  refine aW (bK.P rfl ⟨w2,f2⟩ e3) ?_
  rintro _ H4 ⟨rfl,w4,s4,_⟩
  obtain ⟨w5,s5⟩:=W.frame1 w1 w4 s4
  refine ac rfl ?_
  refine aZ hp (λhp=>?_) λhp=>?_
  ·obtain ⟨w6,s6⟩:=w5.pick' [0,2,3,4,5,1] 6 rfl rfl rfl
   exact a_ hp ⟨_,_,_,_,_,rfl,rfl,rfl,rfl,rfl,rfl,w6,(s0.trans (s1.trans (s5.trans s6))),(cT.step (s1.trans (s5.trans s6))),(dp.step (s1.trans (s5.trans s6))),(cZ.step (s1.trans (s5.trans s6))),(dx.step (s1.trans (s5.trans s6))),(dy.step (s1.trans (s5.trans s6)))⟩
  ·have f7:=W.borrow1 (ae .i64) w5 (cT.step (s1.trans s5))
   obtain ⟨w7,s7⟩:=w5.right1
   obtain ⟨r8,e8,hp⟩:=ak hp
   refine aW (bp.P rfl ⟨w7,f7⟩ e8) ?_
   rintro _ H9 ⟨rfl,w9,s9,_⟩
   obtain ⟨w10,s10⟩:=W.frame1 w5 w9 s9
   refine ac rfl ?_
   refine aZ hp (λhp=>?_) λhp=>?_
   ·obtain ⟨w11,s11⟩:=w10.pick' [0,2,3,4,5,1] 6 rfl rfl rfl
    exact a_ hp ⟨_,_,_,_,_,rfl,rfl,rfl,rfl,rfl,rfl,w11,(s0.trans (s1.trans (s5.trans (s10.trans s11)))),(cT.step (s1.trans (s5.trans (s10.trans s11)))),(dp.step (s1.trans (s5.trans (s10.trans s11)))),(cZ.step (s1.trans (s5.trans (s10.trans s11)))),(dx.step (s1.trans (s5.trans (s10.trans s11)))),(dy.step (s1.trans (s5.trans (s10.trans s11))))⟩
   ·obtain ⟨w12,s12⟩:=w10.pick' [0,2,3,1,4,5] 6 rfl rfl rfl
    obtain ⟨r13,e13,hp⟩:=ak hp
    refine aW (gg.P rfl rfl rfl ⟨w12,(cT.step (s1.trans (s5.trans (s10.trans s12)))),(dp.step (s1.trans (s5.trans (s10.trans s12)))),(cZ.step (s1.trans (s5.trans (s10.trans s12))))⟩ e13) ?_
    rintro _ H14 ⟨CF,IZ,I_,rfl,hl14_0,hl14_1,hl14_2,w14,s14,f14_0,f14_1,f14_2⟩
    obtain ⟨w15,s15⟩:=w14.pick' [0,1,2,4,5,3] 6 rfl rfl rfl
    dsimp only [pk,pks,nth,List.drop,List.set,List.eraseIdx] at w15 s1 s12 s15
    exact a_ hp ⟨_,_,_,_,_,rfl,hl14_0,hl14_1,hl14_2,rfl,rfl,w15,(s0.trans (s1.trans (s5.trans (s10.trans (s12.trans (s14.trans s15)))))),(f14_0.step s15),(f14_1.step s15),(f14_2.step s15),(dx.step (s1.trans (s5.trans (s10.trans (s12.trans (s14.trans s15)))))),(dy.step (s1.trans (s5.trans (s10.trans (s12.trans (s14.trans s15))))))⟩
def bg.pl61 (F:Nat) :Nat->Int->Int->List Int->Int->List Int->Int->Int->List Int->Int->Int->List Int->Int->List Int->Bool->Int->Int->Option (Bool×Bool×List Int×List Int×List Int×List Int×List Int×Bool)
 | 0,_,_,_,_,_,_,_,_,_,_,_,_,_,_,_,_=>none
 | k+1,aB,aq,aK,av,aO,ax,ar,aL,ay,az,aP,aA,aQ,aD,iX,kp=>(bif (decide (kp<aq)) then ((bif (!aD) then ((bo.p F aq aK iX kp).bind λr2=>(bo.p F aq aK iX iX).bind λr7=>(gA.p F r2 r7).bind λr10=>(gr.p F aB aq aK ay az aP aA aQ aD kp iX r10).bind λr13=>bg.pl61 F k aB aq r13.1 av aO ax ar aL ay az r13.2.1 aA r13.2.2.1 r13.2.2.2 iX (IntKind.i64.wrap (kp+1))) else (bg.pj1 F aB aq aK av aO ax ar aL aP aQ aD iX))) else (bg.pj1 F aB aq aK av aO ax ar aL aP aQ aD iX))
termination_by structural n=>n
theorem bg.l61_P {F:Nat} {H0:Hp} {Ri R0:List Rs} {aB aq aF av ax ar ay az aJ aA:Int} {aT bA aM bB bC:ON} {aI ba aG bc bf aE:Nat} {aU bD aN bE bF:Cap} {bS bT bU bV bW:Bool} {bX bY bZ b_ ca cb ce cf cg ch:List AV} :∀ k,bg.S61 H0 Ri R0 aB aq aF av ax ar ay az aJ aA aT bA aM bB bC aI ba aG bc bf aE aU bD aN bE bF bS bT bU bV bW bX bY bZ b_ ca cb ce cf cg ch (bg.l61 F (aC.tw F) (bo.tw F) (gA.tw F) (gg.tw F) (gr.tw F) (bK.tw F) (bp.tw F)  k) (bg.pl61 F  k):=by
 intro k
 induction k with
 | zero=>unfold bg.S61;intros;rename_i hp;cases hp
 | succ k ih=>
  intro aK aO aL aP aQ cO cP cQ cR cS aD iX kp H eY eZ e_ fa fb h0 r hp
  obtain ⟨w0,s0,cT,dp,cZ,dx,dy⟩:=h0
  subst eY
  subst eZ
  subst e_
  subst fa
  subst fb
  unfold bg.pl61 at hp
  unfold bg.l61
  refine ac (ah (w0.ld (i:=5) rfl rfl)) ?_
  refine aZ hp (λhp=>?_) λhp=>?_
  ·refine ac (mN (w0.ld (i:=5) rfl rfl)) ?_
   refine aZ hp (λhp=>?_) λhp=>?_
   ·refine ac (ah (w0.ld (i:=5) rfl rfl)) ?_
    refine ac (ah (w0.ld (i:=5) rfl rfl)) ?_
    refine ac (aH (w0.ld (i:=5) rfl rfl)) ?_
    have f1:=W.borrow1 (ae .i64) w0 cT
    obtain ⟨w1,s1⟩:=w0.right1
    obtain ⟨r2,e2,hp⟩:=ak hp
    refine aW (bo.P rfl ⟨w1,f1⟩ e2) ?_
    rintro _ H3 ⟨rfl,w3,s3,_⟩
    obtain ⟨w4,s4⟩:=W.frame1 w0 w3 s3
    refine ac rfl ?_
    refine fq (W.cons_of (Rn:=[]) w1 w3 s3) ?_
    refine ac (ah (w4.ld (i:=5) rfl rfl)) ?_
    refine ac (ah (w4.ld (i:=5) rfl rfl)) ?_
    refine ac (aH (w4.ld (i:=5) rfl rfl)) ?_
    have f6:=W.borrow1 (ae .i64) w4 (cT.step s4)
    obtain ⟨w6,s6⟩:=w4.right1
    obtain ⟨r7,e7,hp⟩:=ak hp
    refine aW (bo.P rfl ⟨w6,f6⟩ e7) ?_
    rintro _ H8 ⟨rfl,w8,s8,_⟩
    obtain ⟨w9,s9⟩:=W.frame1 w4 w8 s8
    refine ac rfl ?_
    obtain ⟨r10,e10,hp⟩:=ak hp
    refine aW (gA.P ⟨w9,trivial⟩ e10) ?_
    rintro _ H11 ⟨rfl,w11,s11,_⟩
    refine ac rfl ?_
    obtain ⟨w12,s12⟩:=w11.pick' [0,3,4,5,1,2] 6 rfl rfl rfl
    obtain ⟨r13,e13,hp⟩:=ak hp
    refine aW (gr.P rfl rfl rfl ⟨w12,(cT.step (s4.trans (s9.trans (s11.trans s12)))),(dx.step (s4.trans (s9.trans (s11.trans s12)))),(dy.step (s4.trans (s9.trans (s11.trans s12))))⟩ e13) ?_
    rintro _ H14 ⟨CF,Nz,NA,rfl,hl14_0,hl14_1,hl14_2,w14,s14,f14_0,f14_1,f14_2⟩
    obtain ⟨w15,s15⟩:=w14.pick' [0,4,5,1,2,3] 6 rfl rfl rfl
    exact ih hl14_0 rfl rfl hl14_1 hl14_2 ⟨w15,(s0.trans (s4.trans (s9.trans (s11.trans (s12.trans (s14.trans s15)))))),(f14_0.step s15),(dp.step (s4.trans (s9.trans (s11.trans (s12.trans (s14.trans s15)))))),(cZ.step (s4.trans (s9.trans (s11.trans (s12.trans (s14.trans s15)))))),(f14_1.step s15),(f14_2.step s15)⟩ hp
   ·exact bg.j1_P rfl rfl rfl rfl rfl ⟨w0,s0,cT,dp,cZ,dx,dy⟩ hp
  ·exact bg.j1_P rfl rfl rfl rfl rfl ⟨w0,s0,cT,dp,cZ,dx,dy⟩ hp
def bg.pj2 (F:Nat)  (aB:Int) (aq:Int) (aK:List Int) (av:Int) (aO:List Int) (ax:Int) (ar:Int) (aL:List Int) (ay:Int) (az:Int) (aP:List Int) (aA:Int) (aQ:List Int) (aD:Bool) (pw:Int):Option (Bool×Bool×List Int×List Int×List Int×List Int×List Int×Bool):=bg.pl61 F F aB aq aK av aO ax ar aL ay az aP aA aQ aD pw (IntKind.i64.wrap (pw+1))
theorem bg.j2_P {F:Nat} {H0:Hp} {Ri R0:List Rs} {aB aq aF av ax ar ay az aJ aA:Int} {aT bA aM bB bC:ON} {aI ba aG bc bf aE:Nat} {aU bD aN bE bF:Cap} {bS bT bU bV bW:Bool} {bX bY bZ b_ ca cb ce cf cg ch:List AV}  {aK aO aL aP aQ:List Int} {cO cP cQ cR cS:List AV} {aD:Bool} {pw:Int} {H:Hp} (eY:aI=aK.length) (eZ:ba=aO.length) (e_:aG=aL.length) (fa:bc=aP.length) (fb:bf=aQ.length) (h0:Out H0 Ri H (Rs.ow bS ⟨aT,aI,aU⟩ (ae .i64).z bX cO bY :: Rs.ow bT ⟨bA,ba,bD⟩ (ae .i64).z bZ cP b_ :: Rs.ow bU ⟨aM,aG,aN⟩ (ae .i64).z ca cQ cb :: Rs.ow bV ⟨bB,bc,bE⟩ (ae .i64).z ce cR cf :: Rs.ow bW ⟨bC,bf,bF⟩ (ae .i64).z cg cS ch :: Rs.blk aE [.i aB,.i aq,.sl ⟨aT,aI,aU⟩,.i aF,.i av,.sl ⟨bA,ba,bD⟩,.i ax,.i ar,.sl ⟨aM,aG,aN⟩,.i ay,.i az,.sl ⟨bB,bc,bE⟩,.i aJ,.i aA,.sl ⟨bC,bf,bF⟩,.bool aD] :: R0) λR=>CR (ae .i64) H R cO aK/\CR (ae .i64) H R cP aO/\CR (ae .i64) H R cQ aL/\CR (ae .i64) H R cR aP/\CR (ae .i64) H R cS aQ) {r:Bool×Bool×List Int×List Int×List Int×List Int×List Int×Bool} (hp:bg.pj2 F  aB aq aK av aO ax ar aL ay az aP aA aQ aD pw=some r):∃ v H',bg.j2 F (aC.tw F) (bo.tw F) (gA.tw F) (gg.tw F) (gr.tw F) (bK.tw F) (bp.tw F)  aE 0 pw H=some (v,H')/\bg.Q H0 Ri R0 aB aq aF av ax ar ay az aJ aA aT bA aM bB bC aI ba aG bc bf aE aU bD aN bE bF bS bT bU bV bW bX bY bZ b_ ca cb ce cf cg ch r v H':=by
 obtain ⟨w0,s0,cT,dp,cZ,dx,dy⟩:=h0
 subst eY
 subst eZ
 subst e_
 subst fa
 subst fb
 unfold bg.pj2 at hp
 unfold bg.j2
 exact bg.l61_P F rfl rfl rfl rfl rfl ⟨w0,s0,cT,dp,cZ,dx,dy⟩ hp
def bg.pl29 (F:Nat) :Nat->Int->Int->List Int->Int->List Int->Int->Int->List Int->Int->Int->List Int->Int->List Int->Bool->Int->Int->Option (Bool×Bool×List Int×List Int×List Int×List Int×List Int×Bool)
 | 0,_,_,_,_,_,_,_,_,_,_,_,_,_,_,_,_=>none
 | k+1,aB,aq,aK,av,aO,ax,ar,aL,ay,az,aP,aA,aQ,aD,f_,kq=>(bif (decide (kq<aB)) then ((bif (!aD) then ((bo.p F aq aK kq f_).bind λr2=>(bo.p F aq aK f_ f_).bind λr7=>(gA.p F r2 r7).bind λr10=>(gg.p F aq aK av aO ax ar aL aD kq f_ r10).bind λr13=>bg.pl29 F k aB aq r13.1 av r13.2.1 ax ar r13.2.2.1 ay az aP aA aQ r13.2.2.2 f_ (IntKind.i64.wrap (kq+1))) else (bg.pj2 F aB aq aK av aO ax ar aL ay az aP aA aQ aD f_))) else (bg.pj2 F aB aq aK av aO ax ar aL ay az aP aA aQ aD f_))
termination_by structural n=>n
theorem bg.l29_P {F:Nat} {H0:Hp} {Ri R0:List Rs} {aB aq aF av ax ar ay az aJ aA:Int} {aT bA aM bB bC:ON} {aI ba aG bc bf aE:Nat} {aU bD aN bE bF:Cap} {bS bT bU bV bW:Bool} {bX bY bZ b_ ca cb ce cf cg ch:List AV} :∀ k,bg.S29 H0 Ri R0 aB aq aF av ax ar ay az aJ aA aT bA aM bB bC aI ba aG bc bf aE aU bD aN bE bF bS bT bU bV bW bX bY bZ b_ ca cb ce cf cg ch (bg.l29 F (aC.tw F) (bo.tw F) (gA.tw F) (gg.tw F) (gr.tw F) (bK.tw F) (bp.tw F)  k) (bg.pl29 F  k):=by
 intro k
 induction k with
 | zero=>unfold bg.S29;intros;rename_i hp;cases hp
 | succ k ih=>
  intro aK aO aL aP aQ cO cP cQ cR cS aD f_ kq H eY eZ e_ fa fb h0 r hp
  obtain ⟨w0,s0,cT,dp,cZ,dx,dy⟩:=h0
  subst eY
  subst eZ
  subst e_
  subst fa
  subst fb
  unfold bg.pl29 at hp
  unfold bg.l29
  refine ac (ah (w0.ld (i:=5) rfl rfl)) ?_
  refine aZ hp (λhp=>?_) λhp=>?_
  ·refine ac (mN (w0.ld (i:=5) rfl rfl)) ?_
   refine aZ hp (λhp=>?_) λhp=>?_
   ·refine ac (ah (w0.ld (i:=5) rfl rfl)) ?_
    refine ac (ah (w0.ld (i:=5) rfl rfl)) ?_
    refine ac (aH (w0.ld (i:=5) rfl rfl)) ?_
    have f1:=W.borrow1 (ae .i64) w0 cT
    obtain ⟨w1,s1⟩:=w0.right1
    obtain ⟨r2,e2,hp⟩:=ak hp
    refine aW (bo.P rfl ⟨w1,f1⟩ e2) ?_
    rintro _ H3 ⟨rfl,w3,s3,_⟩
    obtain ⟨w4,s4⟩:=W.frame1 w0 w3 s3
    refine ac rfl ?_
    refine fq (W.cons_of (Rn:=[]) w1 w3 s3) ?_
    refine ac (ah (w4.ld (i:=5) rfl rfl)) ?_
    refine ac (ah (w4.ld (i:=5) rfl rfl)) ?_
    refine ac (aH (w4.ld (i:=5) rfl rfl)) ?_
    have f6:=W.borrow1 (ae .i64) w4 (cT.step s4)
    obtain ⟨w6,s6⟩:=w4.right1
    obtain ⟨r7,e7,hp⟩:=ak hp
    refine aW (bo.P rfl ⟨w6,f6⟩ e7) ?_
    rintro _ H8 ⟨rfl,w8,s8,_⟩
    obtain ⟨w9,s9⟩:=W.frame1 w4 w8 s8
    refine ac rfl ?_
    obtain ⟨r10,e10,hp⟩:=ak hp
    refine aW (gA.P ⟨w9,trivial⟩ e10) ?_
    rintro _ H11 ⟨rfl,w11,s11,_⟩
    refine ac rfl ?_
    obtain ⟨w12,s12⟩:=w11.pick' [0,1,2,5,3,4] 6 rfl rfl rfl
    obtain ⟨r13,e13,hp⟩:=ak hp
    refine aW (gg.P rfl rfl rfl ⟨w12,(cT.step (s4.trans (s9.trans (s11.trans s12)))),(dp.step (s4.trans (s9.trans (s11.trans s12)))),(cZ.step (s4.trans (s9.trans (s11.trans s12))))⟩ e13) ?_
    rintro _ H14 ⟨CF,IZ,I_,rfl,hl14_0,hl14_1,hl14_2,w14,s14,f14_0,f14_1,f14_2⟩
    obtain ⟨w15,s15⟩:=w14.pick' [0,1,2,4,5,3] 6 rfl rfl rfl
    exact ih hl14_0 hl14_1 hl14_2 rfl rfl ⟨w15,(s0.trans (s4.trans (s9.trans (s11.trans (s12.trans (s14.trans s15)))))),(f14_0.step s15),(f14_1.step s15),(f14_2.step s15),(dx.step (s4.trans (s9.trans (s11.trans (s12.trans (s14.trans s15)))))),(dy.step (s4.trans (s9.trans (s11.trans (s12.trans (s14.trans s15))))))⟩ hp
   ·exact bg.j2_P rfl rfl rfl rfl rfl ⟨w0,s0,cT,dp,cZ,dx,dy⟩ hp
  ·exact bg.j2_P rfl rfl rfl rfl rfl ⟨w0,s0,cT,dp,cZ,dx,dy⟩ hp
def bg.p (F:Nat) (br:Int) (aX:Int) (dF:List Int) (bj:Int) (fw:List Int) (aY:Int) (aV:Int) (dh:List Int) (bk:Int) (bl:Int) (fx:List Int) (bm:Int) (fy:List Int) (aD:Bool) (ag:Int):Option (Bool×Bool×List Int×List Int×List Int×List Int×List Int×Bool):=(aC.p F br aX dF bj fw aY aV dh bk bl fx bm fy ag).bind λr1=>(bif (!r1.1) then (some (true,true,r1.2.1,r1.2.2.1,r1.2.2.2.1,r1.2.2.2.2.1,r1.2.2.2.2.2,aD)) else (bg.pl29 F F br aX r1.2.1 bj r1.2.2.1 aY aV r1.2.2.2.1 bk bl r1.2.2.2.2.1 bm r1.2.2.2.2.2 aD ag (IntKind.i64.wrap (ag+1))))
theorem bg.P {F:Nat} {br aX bu bj aY aV bk bl bI bm ag:Int} {cB dQ cn dR dS:ON} {bQ de bL df dg aa:Nat} {cC dT co dU dV:Cap} {dF fw dh fx fy:List Int} {eS fE eT fF fG aD:Bool} {eU eV hK fH fI iN eW eX hN fJ fK iO fL fM iR:List AV} {H:Hp} {R0:List Rs} (kZ:bQ=dF.length) (mU:de=fw.length) (kd:bL=dh.length) (mV:df=fx.length) (mW:dg=fy.length) (h0:Inn H (Rs.ow eS ⟨cB,bQ,cC⟩ (ae .i64).z eU hK eV :: Rs.ow fE ⟨dQ,de,dT⟩ (ae .i64).z fH iN fI :: Rs.ow eT ⟨cn,bL,co⟩ (ae .i64).z eW hN eX :: Rs.ow fF ⟨dR,df,dU⟩ (ae .i64).z fJ iO fK :: Rs.ow fG ⟨dS,dg,dV⟩ (ae .i64).z fL iR fM :: Rs.blk aa [.i br,.i aX,.sl ⟨cB,bQ,cC⟩,.i bu,.i bj,.sl ⟨dQ,de,dT⟩,.i aY,.i aV,.sl ⟨cn,bL,co⟩,.i bk,.i bl,.sl ⟨dR,df,dU⟩,.i bI,.i bm,.sl ⟨dS,dg,dV⟩,.bool aD] :: R0) λR=>CR (ae .i64) H R hK dF/\CR (ae .i64) H R iN fw/\CR (ae .i64) H R hN dh/\CR (ae .i64) H R iO fx/\CR (ae .i64) H R iR fy) {r:Bool×Bool×List Int×List Int×List Int×List Int×List Int×Bool} (hp:bg.p F br aX dF bj fw aY aV dh bk bl fx bm fy aD ag=some r):∃ v H',bg.tw F aa 0 ag H=some (v,H')/\bg.Q H (Rs.ow eS ⟨cB,bQ,cC⟩ (ae .i64).z eU hK eV :: Rs.ow fE ⟨dQ,de,dT⟩ (ae .i64).z fH iN fI :: Rs.ow eT ⟨cn,bL,co⟩ (ae .i64).z eW hN eX :: Rs.ow fF ⟨dR,df,dU⟩ (ae .i64).z fJ iO fK :: Rs.ow fG ⟨dS,dg,dV⟩ (ae .i64).z fL iR fM :: Rs.blk aa [.i br,.i aX,.sl ⟨cB,bQ,cC⟩,.i bu,.i bj,.sl ⟨dQ,de,dT⟩,.i aY,.i aV,.sl ⟨cn,bL,co⟩,.i bk,.i bl,.sl ⟨dR,df,dU⟩,.i bI,.i bm,.sl ⟨dS,dg,dV⟩,.bool aD] :: R0) R0 br aX bu bj aY aV bk bl bI bm cB dQ cn dR dS bQ de bL df dg aa cC dT co dU dV eS fE eT fF fG eU eV fH fI eW eX fJ fK fL fM r v H':=by
 obtain ⟨w0,jX,mm,jo,mn,mo⟩:=h0
 subst kZ
 subst mU
 subst kd
 subst mV
 subst mW
 unfold bg.p at hp
 unfold bg.tw bg.twX
 have s0:=w0.rf
 obtain ⟨r1,e1,hp⟩:=ak hp
 refine aW (aC.P rfl rfl rfl rfl rfl ⟨w0,jX,mm,jo,mn,mo⟩ e1) ?_
 rintro _ H2 ⟨Ja,Jb,Jc,Jd,Je,rfl,hl2_0,hl2_1,hl2_2,hl2_3,hl2_4,w2,s2,f2_0,f2_1,f2_2,f2_3,f2_4⟩
 refine ac rfl ?_
 refine aZ hp (λhp=>?_) λhp=>?_
 ·exact a_ hp ⟨_,_,_,_,_,rfl,hl2_0,hl2_1,hl2_2,hl2_3,hl2_4,w2,(s0.trans s2),f2_0,f2_1,f2_2,f2_3,f2_4⟩
 ·exact bg.l29_P F hl2_0 hl2_1 hl2_2 hl2_3 hl2_4 ⟨w2,(s0.trans s2),f2_0,f2_1,f2_2,f2_3,f2_4⟩ hp
def bi.Q (H0:Hp) (Ri R0:List Rs)  (r:Int×Int×List Int×Int×Int×List Int×Int×Int×List Int×Int×Int×List Int×Int×Int×List Int×Bool) (v:AV) (H':Hp):Prop:=∃ o2a:ON,∃ o2n:Nat,∃ o2c:Cap,∃ o2k:List AV,∃ o5a:ON,∃ o5n:Nat,∃ o5c:Cap,∃ o5k:List AV,∃ o8a:ON,∃ o8n:Nat,∃ o8c:Cap,∃ o8k:List AV,∃ o11a:ON,∃ o11n:Nat,∃ o11c:Cap,∃ o11k:List AV,∃ o14a:ON,∃ o14n:Nat,∃ o14c:Cap,∃ o14k:List AV,∃ ob0:Nat,v=(.ptr ob0 0)/\o2n=(r.2.2.1).length/\o5n=(r.2.2.2.2.2.1).length/\o8n=(r.2.2.2.2.2.2.2.2.1).length/\o11n=(r.2.2.2.2.2.2.2.2.2.2.2.1).length/\o14n=(r.2.2.2.2.2.2.2.2.2.2.2.2.2.2.1).length/\Out H0 Ri H' (Rs.own ⟨o2a,o2n,o2c⟩ (ae .i64).z o2k :: Rs.own ⟨o5a,o5n,o5c⟩ (ae .i64).z o5k :: Rs.own ⟨o8a,o8n,o8c⟩ (ae .i64).z o8k :: Rs.own ⟨o11a,o11n,o11c⟩ (ae .i64).z o11k :: Rs.own ⟨o14a,o14n,o14c⟩ (ae .i64).z o14k :: Rs.blk ob0 [.i r.1,.i r.2.1,.sl ⟨o2a,o2n,o2c⟩,.i r.2.2.2.1,.i r.2.2.2.2.1,.sl ⟨o5a,o5n,o5c⟩,.i r.2.2.2.2.2.2.1,.i r.2.2.2.2.2.2.2.1,.sl ⟨o8a,o8n,o8c⟩,.i r.2.2.2.2.2.2.2.2.2.1,.i r.2.2.2.2.2.2.2.2.2.2.1,.sl ⟨o11a,o11n,o11c⟩,.i r.2.2.2.2.2.2.2.2.2.2.2.2.1,.i r.2.2.2.2.2.2.2.2.2.2.2.2.2.1,.sl ⟨o14a,o14n,o14c⟩,.bool r.2.2.2.2.2.2.2.2.2.2.2.2.2.2.2] :: R0) λR=>CR (ae .i64) H' R o2k (r.2.2.1)/\CR (ae .i64) H' R o5k (r.2.2.2.2.2.1)/\CR (ae .i64) H' R o8k (r.2.2.2.2.2.2.2.2.1)/\CR (ae .i64) H' R o11k (r.2.2.2.2.2.2.2.2.2.2.2.1)/\CR (ae .i64) H' R o14k (r.2.2.2.2.2.2.2.2.2.2.2.2.2.2.1)
def bi.S29 (H0:Hp) (Ri R0:List Rs)  (C:Nat->Nat->Nat->Nat->Int->Hp->OA) (pC:Int->Int->Int->Int->List Int->Int->Int->List Int->Int->Int->List Int->Int->Int->List Int->Int->Int->List Int->Bool->Int->Option (Int×Int×List Int×Int×Int×List Int×Int×Int×List Int×Int×Int×List Int×Int×Int×List Int×Bool)):Prop:=∀ {qL qM tI tJ tK tL tM tN tO tP tQ tR lR:Int} {yu yw yx yy yz yA:ON} {v_ mD wa wb wc wd wg mQ:Nat} {yB yC yD yE yF yG:Cap} {yH qN qO qP qQ qR:List Int} {yI yJ yK yL yM:List AV} {tS:Bool},∀ {H:Hp},v_=yH.length->wa=qN.length->wb=qO.length->wc=qP.length->wd=qQ.length->wg=qR.length->(Out H0 Ri H (Rs.blk mD [.i qL,.i qM,.sl ⟨yu,v_,yB⟩] :: Rs.own ⟨yw,wa,yC⟩ (ae .i64).z yI :: Rs.own ⟨yx,wb,yD⟩ (ae .i64).z yJ :: Rs.own ⟨yy,wc,yE⟩ (ae .i64).z yK :: Rs.own ⟨yz,wd,yF⟩ (ae .i64).z yL :: Rs.own ⟨yA,wg,yG⟩ (ae .i64).z yM :: Rs.blk mQ [.i tI,.i tJ,.sl ⟨yw,wa,yC⟩,.i tK,.i tL,.sl ⟨yx,wb,yD⟩,.i tM,.i tN,.sl ⟨yy,wc,yE⟩,.i tO,.i tP,.sl ⟨yz,wd,yF⟩,.i tQ,.i tR,.sl ⟨yA,wg,yG⟩,.bool tS] :: R0) λR=>ROs (ae .i64) H R ⟨yu,v_,yB⟩ yH/\CR (ae .i64) H R yI qN/\CR (ae .i64) H R yJ qO/\CR (ae .i64) H R yK qP/\CR (ae .i64) H R yL qQ/\CR (ae .i64) H R yM qR)->∀ {r:Int×Int×List Int×Int×Int×List Int×Int×Int×List Int×Int×Int×List Int×Int×Int×List Int×Bool},pC qL qM tI tJ qN tK tL qO tM tN qP tO tP qQ tQ tR qR tS lR=some r->∃ v H',C mD 0 mQ 0 lR H=some (v,H')/\bi.Q H0 Ri R0  r v H'
def bi.S938 (H0:Hp) (Ri R0:List Rs)  (C:Nat->Nat->Nat->Nat->Int->Bool->Bool->Hp->OA) (pC:Int->Int->Int->Int->List Int->Int->Int->List Int->Int->Int->List Int->Int->Int->List Int->Int->Int->List Int->Bool->Int->Bool->Bool->Option (Int×Int×List Int×Int×Int×List Int×Int×Int×List Int×Int×Int×List Int×Int×Int×List Int×Bool)):Prop:=∀ {qS qT pI pJ qU pK pL pM pN pO qV pP kr:Int} {yN yO yP yQ yR yS:ON} {wh mB wi wj wk wl wo lP:Nat} {yT yU yV yW yX yY:Cap} {yZ pQ pR pS pT pU:List Int} {y_ za zb zd ze:List AV} {pV mC lQ:Bool},∀ {H:Hp},wh=yZ.length->wi=pQ.length->wj=pR.length->wk=pS.length->wl=pT.length->wo=pU.length->(Out H0 Ri H (Rs.blk mB [.i qS,.i qT,.sl ⟨yN,wh,yT⟩] :: Rs.own ⟨yO,wi,yU⟩ (ae .i64).z y_ :: Rs.own ⟨yP,wj,yV⟩ (ae .i64).z za :: Rs.own ⟨yQ,wk,yW⟩ (ae .i64).z zb :: Rs.own ⟨yR,wl,yX⟩ (ae .i64).z zd :: Rs.own ⟨yS,wo,yY⟩ (ae .i64).z ze :: Rs.blk lP [.i pI,.i pJ,.sl ⟨yO,wi,yU⟩,.i qU,.i pK,.sl ⟨yP,wj,yV⟩,.i pL,.i pM,.sl ⟨yQ,wk,yW⟩,.i pN,.i pO,.sl ⟨yR,wl,yX⟩,.i qV,.i pP,.sl ⟨yS,wo,yY⟩,.bool pV] :: R0) λR=>ROs (ae .i64) H R ⟨yN,wh,yT⟩ yZ/\CR (ae .i64) H R y_ pQ/\CR (ae .i64) H R za pR/\CR (ae .i64) H R zb pS/\CR (ae .i64) H R zd pT/\CR (ae .i64) H R ze pU)->∀ {r:Int×Int×List Int×Int×Int×List Int×Int×Int×List Int×Int×Int×List Int×Int×Int×List Int×Bool},pC qS qT pI pJ pQ qU pK pR pL pM pS pN pO pT qV pP pU pV kr mC lQ=some r->∃ v H',C mB 0 lP 0 kr mC lQ H=some (v,H')/\bi.Q H0 Ri R0  r v H'
def bi.pj3 (F:Nat) (dX:Int->Int->Int->Int->List Int->Int->Int->List Int->Int->Int->List Int->Int->Int->List Int->Int->Int->List Int->Bool->Int->Option (Int×Int×List Int×Int×Int×List Int×Int×Int×List Int×Int×Int×List Int×Int×Int×List Int×Bool)) (wq:Int) (wr:Int) (wt:Int) (wu:Int) (uG:List Int) (wv:Int) (ww:Int) (uH:List Int) (wx:Int) (wy:Int) (uI:List Int) (wz:Int) (wA:Int) (uJ:List Int) (wB:Int) (wC:Int) (uK:List Int) (wD:Bool) (sy:Int):Option (Int×Int×List Int×Int×Int×List Int×Int×Int×List Int×Int×Int×List Int×Int×Int×List Int×Bool):=dX wq wr wt wu uG wv ww uH wx wy uI wz wA uJ wB wC uK wD (IntKind.i64.wrap (sy+1))
theorem bi.j3_P {F:Nat} {H0:Hp} {Ri R0:List Rs}  {C29_:Nat->Nat->Nat->Nat->Int->Hp->OA} {dX:Int->Int->Int->Int->List Int->Int->Int->List Int->Int->Int->List Int->Int->Int->List Int->Int->Int->List Int->Bool->Int->Option (Int×Int×List Int×Int×Int×List Int×Int×Int×List Int×Int×Int×List Int×Int×Int×List Int×Bool)} (hC29:bi.S29 H0 Ri R0  C29_ dX) {wq wr wt wu wv ww wx wy wz wA wB wC sy:Int} {CG CH CI CJ CK CL:ON} {zf vE zg zh zi zj zk vF:Nat} {CM CN CO CP CQ CS:Cap} {CT uG uH uI uJ uK:List Int} {CU CV CW CX CY:List AV} {wD:Bool} {H:Hp} (Jf:zf=CT.length) (Jg:zg=uG.length) (Jh:zh=uH.length) (Ji:zi=uI.length) (Jj:zj=uJ.length) (Jk:zk=uK.length) (h0:Out H0 Ri H (Rs.blk vE [.i wq,.i wr,.sl ⟨CG,zf,CM⟩] :: Rs.own ⟨CH,zg,CN⟩ (ae .i64).z CU :: Rs.own ⟨CI,zh,CO⟩ (ae .i64).z CV :: Rs.own ⟨CJ,zi,CP⟩ (ae .i64).z CW :: Rs.own ⟨CK,zj,CQ⟩ (ae .i64).z CX :: Rs.own ⟨CL,zk,CS⟩ (ae .i64).z CY :: Rs.blk vF [.i wt,.i wu,.sl ⟨CH,zg,CN⟩,.i wv,.i ww,.sl ⟨CI,zh,CO⟩,.i wx,.i wy,.sl ⟨CJ,zi,CP⟩,.i wz,.i wA,.sl ⟨CK,zj,CQ⟩,.i wB,.i wC,.sl ⟨CL,zk,CS⟩,.bool wD] :: R0) λR=>ROs (ae .i64) H R ⟨CG,zf,CM⟩ CT/\CR (ae .i64) H R CU uG/\CR (ae .i64) H R CV uH/\CR (ae .i64) H R CW uI/\CR (ae .i64) H R CX uJ/\CR (ae .i64) H R CY uK) {r:Int×Int×List Int×Int×Int×List Int×Int×Int×List Int×Int×Int×List Int×Int×Int×List Int×Bool} (hp:bi.pj3 F dX wq wr wt wu uG wv ww uH wx wy uI wz wA uJ wB wC uK wD sy=some r):∃ v H',bi.j3 F (dc.tw F) (bg.tw F) C29_ vE 0 vF 0 sy H=some (v,H')/\bi.Q H0 Ri R0  r v H':=by
 obtain ⟨w0,s0,Jl,Jm,Jn,Jo,Jp,Jq⟩:=h0
 subst Jf
 subst Jg
 subst Jh
 subst Ji
 subst Jj
 subst Jk
 unfold bi.pj3 at hp
 unfold bi.j3
 exact hC29 rfl rfl rfl rfl rfl rfl ⟨w0,s0,Jl,Jm,Jn,Jo,Jp,Jq⟩ hp
def bi.pj4 (F:Nat) (dX:Int->Int->Int->Int->List Int->Int->Int->List Int->Int->Int->List Int->Int->Int->List Int->Int->Int->List Int->Bool->Int->Option (Int×Int×List Int×Int×Int×List Int×Int×Int×List Int×Int×Int×List Int×Int×Int×List Int×Bool)) (wE:Int) (wF:Int) (tT:Int) (tU:Int) (qW:List Int) (tV:Int) (tW:Int) (qX:List Int) (tX:Int) (tY:Int) (qY:List Int) (tZ:Int) (t_:Int) (qZ:List Int) (ua:Int) (ub:Int) (q_:List Int) (ra:Bool) (pz:Int) (sz:Bool):Option (Int×Int×List Int×Int×Int×List Int×Int×Int×List Int×Int×Int×List Int×Int×Int×List Int×Bool):=(bif sz then (some (tT,tU,qW,tV,tW,qX,tX,tY,qY,tZ,t_,qZ,ua,ub,q_,ra)) else ((bif ra then (some (tT,tU,qW,tV,tW,qX,tX,tY,qY,tZ,t_,qZ,ua,ub,q_,ra)) else (bi.pj3 F dX wE wF tT tU qW tV tW qX tX tY qY tZ t_ qZ ua ub q_ ra pz))))
theorem bi.j4_P {F:Nat} {H0:Hp} {Ri R0:List Rs}  {C29_:Nat->Nat->Nat->Nat->Int->Hp->OA} {dX:Int->Int->Int->Int->List Int->Int->Int->List Int->Int->Int->List Int->Int->Int->List Int->Int->Int->List Int->Bool->Int->Option (Int×Int×List Int×Int×Int×List Int×Int×Int×List Int×Int×Int×List Int×Int×Int×List Int×Bool)} (hC29:bi.S29 H0 Ri R0  C29_ dX) {wE wF tT tU tV tW tX tY tZ t_ ua ub pz:Int} {CZ C_ Da Db Dc Dd:ON} {zm vG zn zo zp zq zr qp:Nat} {De Df Dg Dh Di Dj:Cap} {Dk qW qX qY qZ q_:List Int} {Dl Dm Dn Do Dp:List AV} {ra sz:Bool} {H:Hp} (Jr:zm=Dk.length) (Js:zn=qW.length) (Jt:zo=qX.length) (Ju:zp=qY.length) (Jv:zq=qZ.length) (Jw:zr=q_.length) (h0:Out H0 Ri H (Rs.blk vG [.i wE,.i wF,.sl ⟨CZ,zm,De⟩] :: Rs.own ⟨C_,zn,Df⟩ (ae .i64).z Dl :: Rs.own ⟨Da,zo,Dg⟩ (ae .i64).z Dm :: Rs.own ⟨Db,zp,Dh⟩ (ae .i64).z Dn :: Rs.own ⟨Dc,zq,Di⟩ (ae .i64).z Do :: Rs.own ⟨Dd,zr,Dj⟩ (ae .i64).z Dp :: Rs.blk qp [.i tT,.i tU,.sl ⟨C_,zn,Df⟩,.i tV,.i tW,.sl ⟨Da,zo,Dg⟩,.i tX,.i tY,.sl ⟨Db,zp,Dh⟩,.i tZ,.i t_,.sl ⟨Dc,zq,Di⟩,.i ua,.i ub,.sl ⟨Dd,zr,Dj⟩,.bool ra] :: R0) λR=>ROs (ae .i64) H R ⟨CZ,zm,De⟩ Dk/\CR (ae .i64) H R Dl qW/\CR (ae .i64) H R Dm qX/\CR (ae .i64) H R Dn qY/\CR (ae .i64) H R Do qZ/\CR (ae .i64) H R Dp q_) {r:Int×Int×List Int×Int×Int×List Int×Int×Int×List Int×Int×Int×List Int×Int×Int×List Int×Bool} (hp:bi.pj4 F dX wE wF tT tU qW tV tW qX tX tY qY tZ t_ qZ ua ub q_ ra pz sz=some r):∃ v H',bi.j4 F (dc.tw F) (bg.tw F) C29_ vG 0 qp 0 pz sz H=some (v,H')/\bi.Q H0 Ri R0  r v H':=by
 obtain ⟨w0,s0,Jx,zt,zu,zw,zx,zy⟩:=h0
 subst Jr
 subst Js
 subst Jt
 subst Ju
 subst Jv
 subst Jw
 unfold bi.pj4 at hp
 unfold bi.j4
 refine aZ hp (λhp=>?_) λhp=>?_
 ·obtain ⟨w1,s1⟩:=w0.pick' [1,2,3,4,5,6] 7 rfl rfl rfl
  exact a_ hp ⟨_,_,_,_,_,_,_,_,_,_,_,_,_,_,_,_,_,_,_,_,_,rfl,rfl,rfl,rfl,rfl,rfl,w1,(s0.trans s1),(zt.step s1),(zu.step s1),(zw.step s1),(zx.step s1),(zy.step s1)⟩
 ·refine ac (mN (w0.ld (i:=6) rfl rfl)) ?_
  refine aZ hp (λhp=>?_) λhp=>?_
  ·obtain ⟨w2,s2⟩:=w0.pick' [1,2,3,4,5,6] 7 rfl rfl rfl
   exact a_ hp ⟨_,_,_,_,_,_,_,_,_,_,_,_,_,_,_,_,_,_,_,_,_,rfl,rfl,rfl,rfl,rfl,rfl,w2,(s0.trans s2),(zt.step s2),(zu.step s2),(zw.step s2),(zx.step s2),(zy.step s2)⟩
  ·exact bi.j3_P (@hC29) rfl rfl rfl rfl rfl rfl ⟨w0,s0,Jx,zt,zu,zw,zx,zy⟩ hp
def bi.pl938 (F:Nat) (dX:Int->Int->Int->Int->List Int->Int->Int->List Int->Int->Int->List Int->Int->Int->List Int->Int->Int->List Int->Bool->Int->Option (Int×Int×List Int×Int×Int×List Int×Int×Int×List Int×Int×Int×List Int×Int×Int×List Int×Bool)):Nat->Int->Int->Int->Int->List Int->Int->Int->List Int->Int->Int->List Int->Int->Int->List Int->Int->Int->List Int->Bool->Int->Bool->Bool->Option (Int×Int×List Int×Int×Int×List Int×Int×Int×List Int×Int×Int×List Int×Int×Int×List Int×Bool)
 | 0,_,_,_,_,_,_,_,_,_,_,_,_,_,_,_,_,_,_,_,_,_=>none
 | k+1,qS,qT,pI,pJ,pQ,qU,pK,pR,pL,pM,pS,pN,pO,pT,qV,pP,pU,pV,kr,mC,lQ=>(bif (!mC) then ((bif (!pV) then ((bg.p F pI pJ pQ pK pR pL pM pS pN pO pT pP pU pV kr).bind λr2=>bi.pl938 F dX k qS qT pI pJ r2.2.2.1 qU pK r2.2.2.2.1 pL pM r2.2.2.2.2.1 pN pO r2.2.2.2.2.2.1 qV pP r2.2.2.2.2.2.2.1 r2.2.2.2.2.2.2.2 kr r2.1 r2.2.1) else (bi.pj4 F dX qS qT pI pJ pQ qU pK pR pL pM pS pN pO pT qV pP pU pV kr lQ))) else (bi.pj4 F dX qS qT pI pJ pQ qU pK pR pL pM pS pN pO pT qV pP pU pV kr lQ))
termination_by structural n=>n
theorem bi.l938_P {F:Nat} {H0:Hp} {Ri R0:List Rs}  {C29_:Nat->Nat->Nat->Nat->Int->Hp->OA} {dX:Int->Int->Int->Int->List Int->Int->Int->List Int->Int->Int->List Int->Int->Int->List Int->Int->Int->List Int->Bool->Int->Option (Int×Int×List Int×Int×Int×List Int×Int×Int×List Int×Int×Int×List Int×Int×Int×List Int×Bool)} (hC29:bi.S29 H0 Ri R0  C29_ dX):∀ k,bi.S938 H0 Ri R0  (bi.l938 F (dc.tw F) (bg.tw F) C29_ k) (bi.pl938 F dX k):=by
 intro k
 induction k with
 | zero=>unfold bi.S938;intros;rename_i hp;cases hp
 | succ k ih=>
  intro qS qT pI pJ qU pK pL pM pN pO qV pP kr yN yO yP yQ yR yS wh mB wi wj wk wl wo lP yT yU yV yW yX yY yZ pQ pR pS pT pU y_ za zb zd ze pV mC lQ H Jy Jz JA JB JC JD h0 r hp
  obtain ⟨w0,s0,zA,zB,zC,zD,zE,zF⟩:=h0
  subst Jy
  subst Jz
  subst JA
  subst JB
  subst JC
  subst JD
  unfold bi.pl938 at hp
  unfold bi.l938
  refine aZ hp (λhp=>?_) λhp=>?_
  ·refine ac (mN (w0.ld (i:=6) rfl rfl)) ?_
   refine aZ hp (λhp=>?_) λhp=>?_
   ·obtain ⟨w1,s1⟩:=w0.pick' [1,2,3,4,5,6,0] 7 rfl rfl rfl
    obtain ⟨r2,e2,hp⟩:=ak hp
    refine aW (bg.P rfl rfl rfl rfl rfl ⟨w1,(zB.step s1),(zC.step s1),(zD.step s1),(zE.step s1),(zF.step s1)⟩ e2) ?_
    rintro _ H3 ⟨NB,NC,ND,NE,NF,rfl,hl3_0,hl3_1,hl3_2,hl3_3,hl3_4,w3,s3,f3_0,f3_1,f3_2,f3_3,f3_4⟩
    refine ac rfl ?_
    refine ac rfl ?_
    refine ac rfl ?_
    refine ac rfl ?_
    refine ac rfl ?_
    obtain ⟨w4,s4⟩:=w3.pick' [6,0,1,2,3,4,5] 7 rfl rfl rfl
    exact ih rfl hl3_0 hl3_1 hl3_2 hl3_3 hl3_4 ⟨w4,(s0.trans (s1.trans (s3.trans s4))),(zA.step (s1.trans (s3.trans s4))),(f3_0.step s4),(f3_1.step s4),(f3_2.step s4),(f3_3.step s4),(f3_4.step s4)⟩ hp
   ·exact bi.j4_P (@hC29) rfl rfl rfl rfl rfl rfl ⟨w0,s0,zA,zB,zC,zD,zE,zF⟩ hp
  ·exact bi.j4_P (@hC29) rfl rfl rfl rfl rfl rfl ⟨w0,s0,zA,zB,zC,zD,zE,zF⟩ hp
def bi.pl29 (F:Nat) :Nat->Int->Int->Int->Int->List Int->Int->Int->List Int->Int->Int->List Int->Int->Int->List Int->Int->Int->List Int->Bool->Int->Option (Int×Int×List Int×Int×Int×List Int×Int×Int×List Int×Int×Int×List Int×Int×Int×List Int×Bool)
 | 0,_,_,_,_,_,_,_,_,_,_,_,_,_,_,_,_,_,_,_=>none
 | k+1,qL,qM,tI,tJ,qN,tK,tL,qO,tM,tN,qP,tO,tP,qQ,tQ,tR,qR,tS,lR=>(bif (decide (lR<(if qM<qL then qM else qL))) then (bi.pl938 F (bi.pl29 F k) F qL qM tI tJ qN tK tL qO tM tN qP tO tP qQ tQ tR qR tS lR false false) else (some (tI,tJ,qN,tK,tL,qO,tM,tN,qP,tO,tP,qQ,tQ,tR,qR,tS)))
termination_by structural n=>n
theorem bi.l29_P {F:Nat} {H0:Hp} {Ri R0:List Rs}  :∀ k,bi.S29 H0 Ri R0  (bi.l29 F (dc.tw F) (bg.tw F)  k) (bi.pl29 F  k):=by
 intro k
 induction k with
 | zero=>unfold bi.S29;intros;rename_i hp;cases hp
 | succ k ih=>
  intro qL qM tI tJ tK tL tM tN tO tP tQ tR lR yu yw yx yy yz yA v_ mD wa wb wc wd wg mQ yB yC yD yE yF yG yH qN qO qP qQ qR yI yJ yK yL yM tS H JE JF JG JH JI JJ h0 r hp
  obtain ⟨w0,s0,JK,Dq,Dr,Ds,Dt,Du⟩:=h0
  subst JE
  subst JF
  subst JG
  subst JH
  subst JI
  subst JJ
  unfold bi.pl29 at hp
  unfold bi.l29
  refine ac (ah (w0.ld (i:=0) rfl rfl)) ?_
  refine ac (ah (w0.ld (i:=0) rfl rfl)) ?_
  refine aZ hp (λhp=>?_) λhp=>?_
  ·exact bi.l938_P (@ih) F rfl rfl rfl rfl rfl rfl ⟨w0,s0,JK,Dq,Dr,Ds,Dt,Du⟩ hp
  ·obtain ⟨w1,s1⟩:=w0.pick' [1,2,3,4,5,6] 7 rfl rfl rfl
   exact a_ hp ⟨_,_,_,_,_,_,_,_,_,_,_,_,_,_,_,_,_,_,_,_,_,rfl,rfl,rfl,rfl,rfl,rfl,w1,(s0.trans s1),(Dq.step s1),(Dr.step s1),(Ds.step s1),(Dt.step s1),(Du.step s1)⟩
def bi.p (F:Nat) (aa:Int) (af:Int) (dG:List Int):Option (Int×Int×List Int×Int×Int×List Int×Int×Int×List Int×Int×Int×List Int×Int×Int×List Int×Bool):=(apn ([]:List Int) dG).bind λl4=>(dc.p F aa).bind λr7=>(dc.p F aa).bind λr10=>(dc.p F af).bind λr13=>(dc.p F af).bind λr16=>bi.pl29 F F aa af aa af l4 r7.1 r7.2.1 r7.2.2 r10.1 r10.2.1 r10.2.2 r13.1 r13.2.1 r13.2.2 r16.1 r16.2.1 r16.2.2 false 0
theorem bi.P {F:Nat} {aa af:Int} {eK:ON} {dM:Nat} {eL:Cap} {dG:List Int} {H:Hp} {R0:List Rs} (kb:dM=dG.length) (h0:Inn H R0 λR=>ROs (ae .i64) H R ⟨eK,dM,eL⟩ dG) {r:Int×Int×List Int×Int×Int×List Int×Int×Int×List Int×Int×Int×List Int×Int×Int×List Int×Bool} (hp:bi.p F aa af dG=some r):∃ v H',bi.tw F aa af ⟨eK,dM,eL⟩ H=some (v,H')/\bi.Q H R0 R0  r v H':=by
 obtain ⟨w0,jv⟩:=h0
 subst kb
 unfold bi.p at hp
 unfold bi.tw bi.twX
 have s0:=w0.rf
 refine cJ w0 λH1 w1 s1=>?_
 refine ac (ah (w1.ld (i:=0) rfl rfl)) ?_
 refine ac (ah (w1.ld (i:=0) rfl rfl)) ?_
 refine pl (ae .i64) w1 (n:=0) (l:=([]:List Int)) rfl CR.empty rfl λH2 w2 s2 c2=>?_
 refine ac (aH (w2.ld (i:=1) rfl rfl)) ?_
 obtain ⟨x3,h3,c3⟩:=(jv.step (s1.trans s2)).row rfl
 refine ac h3 ?_
 obtain ⟨l4,e4,hp⟩:=ak hp
 refine rH (ae .i64) w2 (i:=0) rfl rfl c2 c3 rfl rfl e4 λa5 d5 H5 w5 s5 c5 x5=>?_
 refine fq (x5 ⟨_,rfl⟩) ?_
 refine ac (ah (w5.ld (i:=1) rfl rfl)) ?_
 obtain ⟨r7,e7,hp⟩:=ak hp
 refine aW (dc.P ⟨w5,trivial⟩ e7) ?_
 rintro _ H8 ⟨o2a_8,o2n_8,o2c_8,o2k_8,rfl,rfl,w8,s8,f8_0⟩
 refine ac rfl ?_
 refine ac rfl ?_
 refine ac rfl ?_
 refine ac rfl ?_
 refine ac rfl ?_
 refine ac rfl ?_
 refine ac rfl ?_
 refine fq (W.cons_of (Rn:=[_]) w5 w8 s8) ?_
 refine ac (ah (w8.ld (i:=2) rfl rfl)) ?_
 obtain ⟨r10,e10,hp⟩:=ak hp
 refine aW (dc.P ⟨w8,trivial⟩ e10) ?_
 rintro _ H11 ⟨o2a_11,o2n_11,o2c_11,o2k_11,rfl,rfl,w11,s11,f11_0⟩
 refine ac rfl ?_
 refine ac rfl ?_
 refine ac rfl ?_
 refine ac rfl ?_
 refine ac rfl ?_
 refine ac rfl ?_
 refine ac rfl ?_
 refine fq (W.cons_of (Rn:=[_]) w8 w11 s11) ?_
 refine ac (ah (w11.ld (i:=3) rfl rfl)) ?_
 obtain ⟨r13,e13,hp⟩:=ak hp
 refine aW (dc.P ⟨w11,trivial⟩ e13) ?_
 rintro _ H14 ⟨o2a_14,o2n_14,o2c_14,o2k_14,rfl,rfl,w14,s14,f14_0⟩
 refine ac rfl ?_
 refine ac rfl ?_
 refine ac rfl ?_
 refine ac rfl ?_
 refine ac rfl ?_
 refine ac rfl ?_
 refine ac rfl ?_
 refine fq (W.cons_of (Rn:=[_]) w11 w14 s14) ?_
 refine ac (ah (w14.ld (i:=4) rfl rfl)) ?_
 obtain ⟨r16,e16,hp⟩:=ak hp
 refine aW (dc.P ⟨w14,trivial⟩ e16) ?_
 rintro _ H17 ⟨o2a_17,o2n_17,o2c_17,o2k_17,rfl,rfl,w17,s17,f17_0⟩
 refine ac rfl ?_
 refine ac rfl ?_
 refine ac rfl ?_
 refine ac rfl ?_
 refine ac rfl ?_
 refine ac rfl ?_
 refine ac rfl ?_
 refine fq (W.cons_of (Rn:=[_]) w14 w17 s17) ?_
 refine cJ w17 λH19 w19 s19=>?_
 obtain ⟨w20,s20⟩:=w19.pick' [6,5,4,3,2,1,0] 7 rfl rfl rfl
 exact bi.l29_P F rfl rfl rfl rfl rfl rfl ⟨w20,(s0.trans (s1.trans (s2.trans (s5.trans (s8.trans (s11.trans (s14.trans (s17.trans (s19.trans s20))))))))),(jv.step (s1.trans (s2.trans (s5.trans (s8.trans (s11.trans (s14.trans (s17.trans (s19.trans s20))))))))),(c5.step (s8.trans (s11.trans (s14.trans (s17.trans (s19.trans s20)))))),(f8_0.step (s11.trans (s14.trans (s17.trans (s19.trans s20))))),(f11_0.step (s14.trans (s17.trans (s19.trans s20)))),(f14_0.step (s17.trans (s19.trans s20))),(f17_0.step (s19.trans s20))⟩ hp
def bP.Q (H0:Hp) (Ri R0:List Rs)  (r:List Int×Bool) (v:AV) (H':Hp):Prop:=∃ o0a:ON,∃ o0n:Nat,∃ o0c:Cap,∃ o0k:List AV,v=(.tup [(.sl ⟨o0a,o0n,o0c⟩),(.bool r.2)])/\o0n=(r.1).length/\Out H0 Ri H' (Rs.own ⟨o0a,o0n,o0c⟩ (ae .i64).z o0k :: R0) λR=>CR (ae .i64) H' R o0k (r.1)
def bP.S61 (H0:Hp) (Ri R0:List Rs)  (C:Nat->Nat->Nat->Nat->Sl->Int->Hp->OA) (pC:Int->Int->Int->List Int->Bool->List Int->Int->Option (List Int×Bool)):Prop:=∀ {pW pX Dv rb Dw Dx Dy Dz DA DB DC DD fv:Int} {zG zH zI zJ zK zL zM:ON} {wG mg wH wI wJ wK wL eb wM:Nat} {zN zO zP zQ zR zS zT:Cap} {zU pY zV zW zX zY oZ:List Int} {zZ z_ Aa Ab Ac Ad:List AV} {o_:Bool},∀ {H:Hp},wG=zU.length->wH=pY.length->wI=zV.length->wJ=zW.length->wK=zX.length->wL=zY.length->wM=oZ.length->(Out H0 Ri H (Rs.blk mg [.i pW,.i pX,.sl ⟨zG,wG,zN⟩] :: Rs.own ⟨zH,wH,zO⟩ (ae .i64).z zZ :: Rs.own ⟨zI,wI,zP⟩ (ae .i64).z z_ :: Rs.own ⟨zJ,wJ,zQ⟩ (ae .i64).z Aa :: Rs.own ⟨zK,wK,zR⟩ (ae .i64).z Ab :: Rs.own ⟨zL,wL,zS⟩ (ae .i64).z Ac :: Rs.blk eb [.i Dv,.i rb,.sl ⟨zH,wH,zO⟩,.i Dw,.i Dx,.sl ⟨zI,wI,zP⟩,.i Dy,.i Dz,.sl ⟨zJ,wJ,zQ⟩,.i DA,.i DB,.sl ⟨zK,wK,zR⟩,.i DC,.i DD,.sl ⟨zL,wL,zS⟩,.bool o_] :: Rs.own ⟨zM,wM,zT⟩ (ae .i64).z Ad :: R0) λR=>ROs (ae .i64) H R ⟨zG,wG,zN⟩ zU/\CR (ae .i64) H R zZ pY/\CR (ae .i64) H R z_ zV/\CR (ae .i64) H R Aa zW/\CR (ae .i64) H R Ab zX/\CR (ae .i64) H R Ac zY/\CR (ae .i64) H R Ad oZ)->∀ {r:List Int×Bool},pC pW pX rb pY o_ oZ fv=some r->∃ v H',C mg 0 eb 0 ⟨zM,wM,zT⟩ fv H=some (v,H')/\bP.Q H0 Ri R0  r v H'
def bP.pj3 (F:Nat) (pa:Int->Int->Int->List Int->Bool->List Int->Int->Option (List Int×Bool)) (wN:Int) (wO:Int) (wP:Int) (uL:List Int) (wQ:Bool) (uM:List Int) (sA:Int):Option (List Int×Bool):=pa wN wO wP uL wQ uM (IntKind.i64.wrap (sA+1))
theorem bP.j3_P {F:Nat} {H0:Hp} {Ri R0:List Rs}  {C61_:Nat->Nat->Nat->Nat->Sl->Int->Hp->OA} {pa:Int->Int->Int->List Int->Bool->List Int->Int->Option (List Int×Bool)} (hC61:bP.S61 H0 Ri R0  C61_ pa) {wN wO JL wP JM JN JO JP JQ JR JS JT sA:Int} {DE DF DG DH DI DJ DK:ON} {Ae vJ Af Ag Ah Ai Aj vK Ak:Nat} {DL DM DN DO DP DQ DR:Cap} {DS uL DT DU DV DW uM:List Int} {DX DY DZ D_ Ea Eb:List AV} {wQ:Bool} {H:Hp} (JU:Ae=DS.length) (JV:Af=uL.length) (JW:Ag=DT.length) (JX:Ah=DU.length) (JY:Ai=DV.length) (JZ:Aj=DW.length) (J_:Ak=uM.length) (h0:Out H0 Ri H (Rs.blk vJ [.i wN,.i wO,.sl ⟨DE,Ae,DL⟩] :: Rs.own ⟨DF,Af,DM⟩ (ae .i64).z DX :: Rs.own ⟨DG,Ag,DN⟩ (ae .i64).z DY :: Rs.own ⟨DH,Ah,DO⟩ (ae .i64).z DZ :: Rs.own ⟨DI,Ai,DP⟩ (ae .i64).z D_ :: Rs.own ⟨DJ,Aj,DQ⟩ (ae .i64).z Ea :: Rs.blk vK [.i JL,.i wP,.sl ⟨DF,Af,DM⟩,.i JM,.i JN,.sl ⟨DG,Ag,DN⟩,.i JO,.i JP,.sl ⟨DH,Ah,DO⟩,.i JQ,.i JR,.sl ⟨DI,Ai,DP⟩,.i JS,.i JT,.sl ⟨DJ,Aj,DQ⟩,.bool wQ] :: Rs.own ⟨DK,Ak,DR⟩ (ae .i64).z Eb :: R0) λR=>ROs (ae .i64) H R ⟨DE,Ae,DL⟩ DS/\CR (ae .i64) H R DX uL/\CR (ae .i64) H R DY DT/\CR (ae .i64) H R DZ DU/\CR (ae .i64) H R D_ DV/\CR (ae .i64) H R Ea DW/\CR (ae .i64) H R Eb uM) {r:List Int×Bool} (hp:bP.pj3 F pa wN wO wP uL wQ uM sA=some r):∃ v H',bP.j3 F (bi.tw F) (bo.tw F) C61_ vJ 0 vK 0 ⟨DK,Ak,DR⟩ sA H=some (v,H')/\bP.Q H0 Ri R0  r v H':=by
 obtain ⟨w0,s0,Ka,Kb,Kc,Kd,Ke,Kf,Kg⟩:=h0
 subst JU
 subst JV
 subst JW
 subst JX
 subst JY
 subst JZ
 subst J_
 unfold bP.pj3 at hp
 unfold bP.j3
 exact hC61 rfl rfl rfl rfl rfl rfl rfl ⟨w0,s0,Ka,Kb,Kc,Kd,Ke,Kf,Kg⟩ hp
def bP.pj2 (F:Nat)  (wR:Bool) (uN:List Int):Option (List Int×Bool):=some (uN,(!wR))
theorem bP.j2_P {F:Nat} {H0:Hp} {Ri R0:List Rs}   {Kh Ki Kj Kk Kl Km Ko Kp Kq Ks:Int} {Ec Ed Ee Ef Eg Eh:ON} {Al Am An Ao Ap vI Aq:Nat} {Ei Ej Ek El Em En:Cap} {Eo Ep Er Es Et uN:List Int} {Eu Ev Ew Ex Ey Ez:List AV} {wR:Bool} {H:Hp} (Kt:Al=Eo.length) (Ku:Am=Ep.length) (Kv:An=Er.length) (Kw:Ao=Es.length) (Ky:Ap=Et.length) (Kz:Aq=uN.length) (h0:Out H0 Ri H (Rs.own ⟨Ec,Al,Ei⟩ (ae .i64).z Eu :: Rs.own ⟨Ed,Am,Ej⟩ (ae .i64).z Ev :: Rs.own ⟨Ee,An,Ek⟩ (ae .i64).z Ew :: Rs.own ⟨Ef,Ao,El⟩ (ae .i64).z Ex :: Rs.own ⟨Eg,Ap,Em⟩ (ae .i64).z Ey :: Rs.blk vI [.i Kh,.i Ki,.sl ⟨Ec,Al,Ei⟩,.i Kj,.i Kk,.sl ⟨Ed,Am,Ej⟩,.i Kl,.i Km,.sl ⟨Ee,An,Ek⟩,.i Ko,.i Kp,.sl ⟨Ef,Ao,El⟩,.i Kq,.i Ks,.sl ⟨Eg,Ap,Em⟩,.bool wR] :: Rs.own ⟨Eh,Aq,En⟩ (ae .i64).z Ez :: R0) λR=>CR (ae .i64) H R Eu Eo/\CR (ae .i64) H R Ev Ep/\CR (ae .i64) H R Ew Er/\CR (ae .i64) H R Ex Es/\CR (ae .i64) H R Ey Et/\CR (ae .i64) H R Ez uN) {r:List Int×Bool} (hp:bP.pj2 F  wR uN=some r):∃ v H',bP.j2 F (bi.tw F) (bo.tw F)  vI 0 ⟨Eh,Aq,En⟩ H=some (v,H')/\bP.Q H0 Ri R0  r v H':=by
 obtain ⟨w0,s0,NG,NH,NI,NJ,NK,KA⟩:=h0
 subst Kt
 subst Ku
 subst Kv
 subst Kw
 subst Ky
 subst Kz
 unfold bP.pj2 at hp
 unfold bP.j2
 refine ac (mN (w0.ld (i:=5) rfl rfl)) ?_
 obtain ⟨w1,s1⟩:=w0.pick' [6] 7 rfl rfl rfl
 exact a_ hp ⟨_,_,_,_,rfl,rfl,w1,(s0.trans s1),(KA.step s1)⟩
def bP.pl61 (F:Nat) :Nat->Int->Int->Int->List Int->Bool->List Int->Int->Option (List Int×Bool)
 | 0,_,_,_,_,_,_,_=>none
 | k+1,pW,pX,rb,pY,o_,oZ,fv=>(bif (decide (fv<(if pX<pW then pX else pW))) then ((bif (!o_) then ((bo.p F rb pY fv fv).bind λr3=>(bif (r3 != 0) then ((apn oZ ([r3]:List Int)).bind λl7=>bP.pj3 F (bP.pl61 F k) pW pX rb pY o_ l7 fv) else (bP.pj3 F (bP.pl61 F k) pW pX rb pY o_ oZ fv))) else (bP.pj2 F o_ oZ))) else (bP.pj2 F o_ oZ))
termination_by structural n=>n
theorem bP.l61_P {F:Nat} {H0:Hp} {Ri R0:List Rs}  :∀ k,bP.S61 H0 Ri R0  (bP.l61 F (bi.tw F) (bo.tw F)  k) (bP.pl61 F  k):=by
 intro k
 induction k with
 | zero=>unfold bP.S61;intros;rename_i hp;cases hp
 | succ k ih=>
  intro pW pX Dv rb Dw Dx Dy Dz DA DB DC DD fv zG zH zI zJ zK zL zM wG mg wH wI wJ wK wL eb wM zN zO zP zQ zR zS zT zU pY zV zW zX zY oZ zZ z_ Aa Ab Ac Ad o_ H KB KC KD KE KF KG KH h0 r hp
  obtain ⟨w0,s0,EA,uO,wS,wT,wU,wV,wW⟩:=h0
  subst KB
  subst KC
  subst KD
  subst KE
  subst KF
  subst KG
  subst KH
  unfold bP.pl61 at hp
  unfold bP.l61
  refine ac (ah (w0.ld (i:=0) rfl rfl)) ?_
  refine ac (ah (w0.ld (i:=0) rfl rfl)) ?_
  refine aZ hp (λhp=>?_) λhp=>?_
  ·refine ac (mN (w0.ld (i:=6) rfl rfl)) ?_
   refine aZ hp (λhp=>?_) λhp=>?_
   ·refine ac (ah (w0.ld (i:=6) rfl rfl)) ?_
    refine ac (ah (w0.ld (i:=6) rfl rfl)) ?_
    refine ac (aH (w0.ld (i:=6) rfl rfl)) ?_
    obtain ⟨w1,s1⟩:=w0.pick' [1,0,2,3,4,5,6,7] 8 rfl rfl rfl
    have f2:=W.borrow1 (ae .i64) w1 (uO.step s1)
    obtain ⟨w2,s2⟩:=w1.right1
    obtain ⟨r3,e3,hp⟩:=ak hp
    refine aW (bo.P rfl ⟨w2,f2⟩ e3) ?_
    rintro _ H4 ⟨rfl,w4,s4,_⟩
    obtain ⟨w5,s5⟩:=W.frame1 w1 w4 s4
    refine ac rfl ?_
    refine aZ hp (λhp=>?_) λhp=>?_
    ·refine pl (ae .i64) w5 (n:=1) (l:=([r3]:List Int)) rfl (CR.cons1 rfl CR.empty) rfl λH6 w6 s6 c6=>?_
     refine ac (w6.rowo (i:=0) rfl) ?_
     obtain ⟨l7,e7,hp⟩:=ak hp
     refine rH (ae .i64) w6 (i:=8) rfl rfl (wW.step (s1.trans (s5.trans s6))) c6 (show 1=List.length ([r3]:List Int) from rfl) rfl e7 λa8 d8 H8 w8 s8 c8 x8=>?_
     obtain ⟨w9,s9⟩:=w8.pick' [2,1,3,4,5,6,7,8] 9 rfl rfl rfl
     dsimp only [pk,pks,nth,List.drop,List.set,List.eraseIdx] at w9 s1 s6 s8 c8 s9
     exact bP.j3_P (@ih) rfl rfl rfl rfl rfl rfl rfl ⟨w9,(s0.trans (s1.trans (s5.trans (s6.trans (s8.trans s9))))),(EA.step (s1.trans (s5.trans (s6.trans (s8.trans s9))))),(uO.step (s1.trans (s5.trans (s6.trans (s8.trans s9))))),(wS.step (s1.trans (s5.trans (s6.trans (s8.trans s9))))),(wT.step (s1.trans (s5.trans (s6.trans (s8.trans s9))))),(wU.step (s1.trans (s5.trans (s6.trans (s8.trans s9))))),(wV.step (s1.trans (s5.trans (s6.trans (s8.trans s9))))),(c8.step s9)⟩ hp
    ·obtain ⟨w10,s10⟩:=w5.pick' [1,0,2,3,4,5,6,7] 8 rfl rfl rfl
     exact bP.j3_P (@ih) rfl rfl rfl rfl rfl rfl rfl ⟨w10,(s0.trans (s1.trans (s5.trans s10))),(EA.step (s1.trans (s5.trans s10))),(uO.step (s1.trans (s5.trans s10))),(wS.step (s1.trans (s5.trans s10))),(wT.step (s1.trans (s5.trans s10))),(wU.step (s1.trans (s5.trans s10))),(wV.step (s1.trans (s5.trans s10))),(wW.step (s1.trans (s5.trans s10)))⟩ hp
   ·obtain ⟨w11,s11⟩:=w0.pick' [1,2,3,4,5,6,7] 8 rfl rfl rfl
    exact bP.j2_P rfl rfl rfl rfl rfl rfl ⟨w11,(s0.trans s11),(uO.step s11),(wS.step s11),(wT.step s11),(wU.step s11),(wV.step s11),(wW.step s11)⟩ hp
  ·obtain ⟨w12,s12⟩:=w0.pick' [1,2,3,4,5,6,7] 8 rfl rfl rfl
   exact bP.j2_P rfl rfl rfl rfl rfl rfl ⟨w12,(s0.trans s12),(uO.step s12),(wS.step s12),(wT.step s12),(wU.step s12),(wV.step s12),(wW.step s12)⟩ hp
def bP.p (F:Nat) (aa:Int) (af:Int) (dG:List Int):Option (List Int×Bool):=(bi.p F aa af dG).bind λr2=>bP.pl61 F F aa af r2.2.1 r2.2.2.1 r2.2.2.2.2.2.2.2.2.2.2.2.2.2.2.2 ([]:List Int) 0
theorem bP.P {F:Nat} {aa af:Int} {eK:ON} {dM:Nat} {eL:Cap} {dG:List Int} {H:Hp} {R0:List Rs} (kb:dM=dG.length) (h0:Inn H R0 λR=>ROs (ae .i64) H R ⟨eK,dM,eL⟩ dG) {r:List Int×Bool} (hp:bP.p F aa af dG=some r):∃ v H',bP.tw F aa af ⟨eK,dM,eL⟩ H=some (v,H')/\bP.Q H R0 R0  r v H':=by
 obtain ⟨w0,jv⟩:=h0
 subst kb
 unfold bP.p at hp
 unfold bP.tw bP.twX
 have s0:=w0.rf
 refine cJ w0 λH1 w1 s1=>?_
 refine ac (ah (w1.ld (i:=0) rfl rfl)) ?_
 refine ac (ah (w1.ld (i:=0) rfl rfl)) ?_
 refine ac (aH (w1.ld (i:=0) rfl rfl)) ?_
 obtain ⟨r2,e2,hp⟩:=ak hp
 refine aW (bi.P rfl ⟨w1,(jv.step s1)⟩ e2) ?_
 rintro _ H3 ⟨o2a_3,o2n_3,o2c_3,o2k_3,o5a_3,o5n_3,o5c_3,o5k_3,o8a_3,o8n_3,o8c_3,o8k_3,o11a_3,o11n_3,o11c_3,o11k_3,o14a_3,o14n_3,o14c_3,o14k_3,ob0_3,rfl,rfl,rfl,rfl,rfl,rfl,w3,s3,f3_0,f3_1,f3_2,f3_3,f3_4⟩
 refine ac rfl ?_
 refine pl (ae .i64) w3 (n:=0) (l:=([]:List Int)) rfl CR.empty rfl λH4 w4 s4 c4=>?_
 obtain ⟨w5,s5⟩:=w4.pick' [7,1,2,3,4,5,6,0] 8 rfl rfl rfl
 exact bP.l61_P F rfl rfl rfl rfl rfl rfl (show 0=List.length ([]:List Int) from rfl) ⟨w5,(s0.trans (s1.trans (s3.trans (s4.trans s5)))),(jv.step (s1.trans (s3.trans (s4.trans s5)))),(f3_0.step (s4.trans s5)),(f3_1.step (s4.trans s5)),(f3_2.step (s4.trans s5)),(f3_3.step (s4.trans s5)),(f3_4.step (s4.trans s5)),(c4.step s5)⟩ hp
def cG.Q (H0:Hp) (Ri R0:List Rs)  (r:List Int) (v:AV) (H':Hp):Prop:=∃ o0a:ON,∃ o0n:Nat,∃ o0c:Cap,∃ o0k:List AV,v=(.sl ⟨o0a,o0n,o0c⟩)/\o0n=(r).length/\Out H0 Ri H' (Rs.own ⟨o0a,o0n,o0c⟩ (ae .i64).z o0k :: R0) λR=>CR (ae .i64) H' R o0k (r)
def cG.S29 (H0:Hp) (Ri R0:List Rs)  (C:Sl->Sl->Int->Hp->OA) (pC:List Int->List Int->Int->Option (List Int)):Prop:=∀ {mi qw:ON} {kV oR:Nat} {mj qx:Cap} {el lB:List Int} {qy:List AV} {ft:Int},∀ {H:Hp},kV=el.length->oR=lB.length->(Out H0 Ri H (Rs.own ⟨qw,oR,qx⟩ (ae .i64).z qy :: R0) λR=>ROs (ae .i64) H R ⟨mi,kV,mj⟩ el/\CR (ae .i64) H R qy lB)->∀ {r:List Int},pC el lB ft=some r->∃ v H',C ⟨mi,kV,mj⟩ ⟨qw,oR,qx⟩ ft H=some (v,H')/\cG.Q H0 Ri R0  r v H'
def cG.pj2 (F:Nat) (dX:List Int->List Int->Int->Option (List Int)) (uP:List Int) (uQ:List Int) (sB:Int):Option (List Int):=dX uP uQ (IntKind.i64.wrap (sB+1))
theorem cG.j2_P {F:Nat} {H0:Hp} {Ri R0:List Rs}  {C29_:Sl->Sl->Int->Hp->OA} {dX:List Int->List Int->Int->Option (List Int)} (hC29:cG.S29 H0 Ri R0  C29_ dX) {EB EC:ON} {Ar As:Nat} {ED EE:Cap} {uP uQ:List Int} {EF:List AV} {sB:Int} {H:Hp} (KI:Ar=uP.length) (KJ:As=uQ.length) (h0:Out H0 Ri H (Rs.own ⟨EC,As,EE⟩ (ae .i64).z EF :: R0) λR=>ROs (ae .i64) H R ⟨EB,Ar,ED⟩ uP/\CR (ae .i64) H R EF uQ) {r:List Int} (hp:cG.pj2 F dX uP uQ sB=some r):∃ v H',cG.j2 F  C29_ ⟨EB,Ar,ED⟩ ⟨EC,As,EE⟩ sB H=some (v,H')/\cG.Q H0 Ri R0  r v H':=by
 obtain ⟨w0,s0,KK,KL⟩:=h0
 subst KI
 subst KJ
 unfold cG.pj2 at hp
 unfold cG.j2
 exact hC29 rfl rfl ⟨w0,s0,KK,KL⟩ hp
def cG.pl29 (F:Nat) :Nat->List Int->List Int->Int->Option (List Int)
 | 0,_,_,_=>none
 | k+1,el,lB,ft=>(bif (decide (ft<(el.length:Int))) then ((ix el ft).bind λn1=>(bif (decide ((gt el n1)>1)) then ((ix el ft).bind λn2=>(apn lB ([(gt el n2)]:List Int)).bind λl4=>cG.pj2 F (cG.pl29 F k) el l4 ft) else (cG.pj2 F (cG.pl29 F k) el lB ft))) else (some lB))
termination_by structural n=>n
theorem cG.l29_P {F:Nat} {H0:Hp} {Ri R0:List Rs}  :∀ k,cG.S29 H0 Ri R0  (cG.l29 F   k) (cG.pl29 F  k):=by
 intro k
 induction k with
 | zero=>unfold cG.S29;intros;rename_i hp;cases hp
 | succ k ih=>
  intro mi qw kV oR mj qx el lB qy ft H oS yh h0 r hp
  obtain ⟨w0,s0,lC,qz⟩:=h0
  subst oS
  subst yh
  unfold cG.pl29 at hp
  unfold cG.l29
  refine aZ hp (λhp=>?_) λhp=>?_
  ·obtain ⟨n1,g1,hp⟩:=ak hp
   obtain ⟨p1,q1,i1,h1,j1⟩:=ROs.ixr lC rfl g1
   refine ac i1 ?_
   have h1:_=[_]:=h1
   subst h1
   refine ac (ah (j1 0 _ rfl)) ?_
   refine aZ hp (λhp=>?_) λhp=>?_
   ·obtain ⟨n2,g2,hp⟩:=ak hp
    obtain ⟨p2,q2,i2,h2,j2⟩:=ROs.ixr lC rfl g2
    refine ac i2 ?_
    have h2:_=[_]:=h2
    subst h2
    refine ac (ah (j2 0 _ rfl)) ?_
    refine pl (ae .i64) w0 (n:=1) (l:=([(gt el n2)]:List Int)) rfl (CR.cons1 rfl CR.empty) rfl λH3 w3 s3 c3=>?_
    refine ac (w3.rowo (i:=0) rfl) ?_
    obtain ⟨l4,e4,hp⟩:=ak hp
    refine rH (ae .i64) w3 (i:=1) rfl rfl (qz.step s3) c3 (show 1=List.length ([(gt el n2)]:List Int) from rfl) rfl e4 λa5 d5 H5 w5 s5 c5 x5=>?_
    obtain ⟨w6,s6⟩:=w5.pick' [1] 2 rfl rfl rfl
    exact cG.j2_P (@ih) rfl rfl ⟨w6,(s0.trans (s3.trans (s5.trans s6))),(lC.step (s3.trans (s5.trans s6))),(c5.step s6)⟩ hp
   ·exact cG.j2_P (@ih) rfl rfl ⟨w0,s0,lC,qz⟩ hp
  ·exact a_ hp ⟨_,_,_,_,rfl,rfl,w0,s0,qz⟩
def cG.p (F:Nat) (bO:List Int):Option (List Int):=cG.pl29 F F bO ([]:List Int) 0
theorem cG.P {F:Nat} {eo:ON} {dz:Nat} {es:Cap} {bO:List Int} {H:Hp} {R0:List Rs} (hJ:dz=bO.length) (h0:Inn H R0 λR=>ROs (ae .i64) H R ⟨eo,dz,es⟩ bO) {r:List Int} (hp:cG.p F bO=some r):∃ v H',cG.tw F ⟨eo,dz,es⟩ H=some (v,H')/\cG.Q H R0 R0  r v H':=by
 obtain ⟨w0,iK⟩:=h0
 subst hJ
 unfold cG.p at hp
 unfold cG.tw cG.twX
 have s0:=w0.rf
 refine pl (ae .i64) w0 (n:=0) (l:=([]:List Int)) rfl CR.empty rfl λH1 w1 s1 c1=>?_
 exact cG.l29_P F rfl (show 0=List.length ([]:List Int) from rfl) ⟨w1,(s0.trans s1),(iK.step s1),c1⟩ hp
def cH.Q (H0:Hp) (Ri R0:List Rs)  (r:Int×List Int×Int) (v:AV) (H':Hp):Prop:=∃ o1a:ON,∃ o1n:Nat,∃ o1c:Cap,∃ o1k:List AV,v=(.tup [(.agg [(.i r.1),(.sl ⟨o1a,o1n,o1c⟩)]),(.i r.2.2)])/\o1n=(r.2.1).length/\Out H0 Ri H' (Rs.own ⟨o1a,o1n,o1c⟩ (ae .i64).z o1k :: R0) λR=>CR (ae .i64) H' R o1k (r.2.1)
def cH.S509 (H0:Hp) (Ri R0:List Rs)  (C:Nat->Nat->Nat->Nat->Nat->Nat->Sl->Int->Nat->Nat->Int->Hp->OA) (pC:Int->Int->List Int->Int->Int->Int->List Int->Int->Option (Int×List Int×Int)):Prop:=∀ {mY mZ uR ln m_ mK jP:Int} {rc rd rg Au rh:ON} {pb iH pc iI pd iJ wX pe g_:Nat} {ri rj rk Av rl:Cap} {rm rn rp pZ lE:List Int} {rq Aw rr:List AV},∀ {H:Hp},pb=rm.length->pc=rn.length->pd=rp.length->wX=pZ.length->pe=lE.length->(Out H0 Ri H (Rs.blk iH [.i mY,.sl ⟨rc,pb,ri⟩] :: Rs.blk iI [.i mZ,.sl ⟨rd,pc,rj⟩] :: Rs.own ⟨rg,pd,rk⟩ (ae .i64).z rq :: Rs.blk iJ [.i uR,.sl ⟨rg,pd,rk⟩] :: Rs.own ⟨Au,wX,Av⟩ (ae .i64).z Aw :: Rs.own ⟨rh,pe,rl⟩ (ae .i64).z rr :: Rs.blk g_ [.i m_,.i mK,.sl ⟨rh,pe,rl⟩] :: R0) λR=>ROs (ae .i64) H R ⟨rc,pb,ri⟩ rm/\ROs (ae .i64) H R ⟨rd,pc,rj⟩ rn/\CR (ae .i64) H R rq rp/\CR (ae .i64) H R Aw pZ/\CR (ae .i64) H R rr lE)->∀ {r:Int×List Int×Int},pC mY mZ pZ ln m_ mK lE jP=some r->∃ v H',C iH 0 iI 0 iJ 0 ⟨Au,wX,Av⟩ ln g_ 0 jP H=some (v,H')/\cH.Q H0 Ri R0  r v H'
def cH.pj1 (F:Nat)  (wY:Int) (wZ:Int) (w_:Int) (xa:Int) (uS:List Int):Option (Int×List Int×Int):=(bP.p F w_ xa uS).bind λr3=>(bif (!r3.2) then (some (0,([]:List Int),3)) else ((cG.p F r3.1).bind λr12=>some ((IntKind.i64.wrap (wY+wZ)),r12,0)))
theorem cH.j1_P {F:Nat} {H0:Hp} {Ri R0:List Rs}   {wY wZ KM w_ xa:Int} {EG EH EI EJ:ON} {Ax vL Ay vM Az ny AA sC:Nat} {EK EL EM EN:Cap} {EO EP EQ uS:List Int} {ER ES:List AV} {H:Hp} (KN:Ax=EO.length) (KO:Ay=EP.length) (KP:Az=EQ.length) (KQ:AA=uS.length) (h0:Out H0 Ri H (Rs.blk vL [.i wY,.sl ⟨EG,Ax,EK⟩] :: Rs.blk vM [.i wZ,.sl ⟨EH,Ay,EL⟩] :: Rs.own ⟨EI,Az,EM⟩ (ae .i64).z ER :: Rs.blk ny [.i KM,.sl ⟨EI,Az,EM⟩] :: Rs.own ⟨EJ,AA,EN⟩ (ae .i64).z ES :: Rs.blk sC [.i w_,.i xa,.sl ⟨EJ,AA,EN⟩] :: R0) λR=>ROs (ae .i64) H R ⟨EG,Ax,EK⟩ EO/\ROs (ae .i64) H R ⟨EH,Ay,EL⟩ EP/\CR (ae .i64) H R ER EQ/\CR (ae .i64) H R ES uS) {r:Int×List Int×Int} (hp:cH.pj1 F  wY wZ w_ xa uS=some r):∃ v H',cH.j1 F (cu.tw F) (fZ.tw F) (bP.tw F) (cG.tw F)  vL 0 vM 0 ny 0 sC 0 H=some (v,H')/\cH.Q H0 Ri R0  r v H':=by
 obtain ⟨w0,s0,NL,NM,NN,KR⟩:=h0
 subst KN
 subst KO
 subst KP
 subst KQ
 unfold cH.pj1 at hp
 unfold cH.j1
 refine ac (ah (w0.ld (i:=5) rfl rfl)) ?_
 refine ac (ah (w0.ld (i:=5) rfl rfl)) ?_
 refine ac (aH (w0.ld (i:=5) rfl rfl)) ?_
 obtain ⟨w1,s1⟩:=w0.pick' [4,0,1,2,3,5] 6 rfl rfl rfl
 have f2:=W.borrow1 (ae .i64) w1 (KR.step s1)
 obtain ⟨w2,s2⟩:=w1.right1
 obtain ⟨r3,e3,hp⟩:=ak hp
 refine aW (bP.P rfl ⟨w2,f2⟩ e3) ?_
 rintro _ H4 ⟨o0a_4,o0n_4,o0c_4,o0k_4,rfl,rfl,w4,s4,f4_0⟩
 obtain ⟨w5,s5⟩:=W.frame1 w1 w4 s4
 refine ac rfl ?_
 refine ac rfl ?_
 refine ac rfl ?_
 refine ac rfl ?_
 refine ac rfl ?_
 refine aZ hp (λhp=>?_) λhp=>?_
 ·refine bt w5 (i:=5) rfl rfl rfl λH6 w6 s6=>?_
  refine bt w6 (i:=5) rfl rfl rfl λH7 w7 s7=>?_
  dsimp only [pk,pks,nth,List.drop,List.set,List.eraseIdx] at w7 s1 s6 s7
  refine ac (ah (w7.ld (i:=5) rfl rfl)) ?_
  refine ac (aH (w7.ld (i:=5) rfl rfl)) ?_
  obtain ⟨w8,s8⟩:=w7.nilS (ae .i64).z (by decide)
  obtain ⟨w9,s9⟩:=w8.pick' [0] 8 rfl rfl rfl
  exact a_ hp ⟨_,_,_,_,rfl,rfl,w9,(s0.trans (s1.trans (s5.trans (s6.trans (s7.trans (s8.trans s9)))))),((CR.empty:CR (ae .i64) _ _ [] []).step s9)⟩
 ·refine ac (ah (w5.ld (i:=2) rfl rfl)) ?_
  refine ac (ah (w5.ld (i:=3) rfl rfl)) ?_
  obtain ⟨w10,s10⟩:=w5.pick' [1,0,2,3,4,5,6] 7 rfl rfl rfl
  have f11:=W.borrow1 (ae .i64) w10 ((CR.flat (ns .i64) f4_0).step s10)
  obtain ⟨w11,s11⟩:=w10.right1
  obtain ⟨r12,e12,hp⟩:=ak hp
  refine aW (cG.P rfl ⟨w11,f11⟩ e12) ?_
  rintro _ H13 ⟨o0a_13,o0n_13,o0c_13,o0k_13,rfl,rfl,w13,s13,f13_0⟩
  obtain ⟨w14,s14⟩:=W.frame1 w10 w13 s13
  refine ac rfl ?_
  refine fq (bh.tr (bh.refl _) s10 (W.cons_of (Rn:=[_]) w11 w13 s13)) ?_
  refine bt w14 (i:=6) rfl rfl rfl λH16 w16 s16=>?_
  dsimp only [pk,pks,nth,List.drop,List.set,List.eraseIdx] at w16 s1 s10 s16
  refine bt w16 (i:=6) rfl rfl rfl λH17 w17 s17=>?_
  refine ac (ah (w17.ld (i:=6) rfl rfl)) ?_
  refine ac (aH (w17.ld (i:=6) rfl rfl)) ?_
  obtain ⟨w18,s18⟩:=w17.pick' [1] 8 rfl rfl rfl
  exact a_ hp ⟨_,_,_,_,rfl,rfl,w18,(s0.trans (s1.trans (s5.trans (s10.trans (s14.trans (s16.trans (s17.trans s18))))))),((CR.flat (ns .i64) f13_0).step (s16.trans (s17.trans s18)))⟩
def cH.pl509 (F:Nat) :Nat->Int->Int->List Int->Int->Int->Int->List Int->Int->Option (Int×List Int×Int)
 | 0,_,_,_,_,_,_,_,_=>none
 | k+1,mY,mZ,pZ,ln,m_,mK,lE,jP=>(bif (decide (jP<ln)) then ((ix pZ jP).bind λn1=>(ix lE (IntKind.i64.wrap ((IntKind.i64.wrap (jP * ln))+jP))).bind λn2=>(some (lE.set n2 (gt pZ n1))).bind λl3=>cH.pl509 F k mY mZ pZ ln m_ mK l3 (IntKind.i64.wrap (jP+1))) else (cH.pj1 F mY mZ m_ mK lE))
termination_by structural n=>n
theorem cH.l509_P {F:Nat} {H0:Hp} {Ri R0:List Rs}  :∀ k,cH.S509 H0 Ri R0  (cH.l509 F (cu.tw F) (fZ.tw F) (bP.tw F) (cG.tw F)  k) (cH.pl509 F  k):=by
 intro k
 induction k with
 | zero=>unfold cH.S509;intros;rename_i hp;cases hp
 | succ k ih=>
  intro mY mZ uR ln m_ mK jP rc rd rg Au rh pb iH pc iI pd iJ wX pe g_ ri rj rk Av rl rm rn rp pZ lE rq Aw rr H AB AC AD KS AF h0 r hp
  obtain ⟨w0,s0,uT,uU,uV,ET,ru⟩:=h0
  subst AB
  subst AC
  subst AD
  subst KS
  subst AF
  unfold cH.pl509 at hp
  unfold cH.l509
  refine aZ hp (λhp=>?_) λhp=>?_
  ·refine ac (aH (w0.ld (i:=6) rfl rfl)) ?_
   obtain ⟨n1,g1,hp⟩:=ak hp
   obtain ⟨p1,q1,i1,h1,j1⟩:=W.ixo (E:=(ae .i64)) w0 (i:=4) rfl rfl ET g1
   refine ac i1 ?_
   have h1:_=[_]:=h1
   subst h1
   refine ac (ah (j1 0 _ rfl)) ?_
   obtain ⟨n2,g2,hp⟩:=ak hp
   obtain ⟨p2,q2,i2,h2,j2⟩:=W.ixo (E:=(ae .i64)) w0 (i:=5) rfl rfl ru g2
   refine ac i2 ?_
   obtain ⟨l3,e3,hp⟩:=ak hp
   refine jb (ae .i64) w0 (i:=5) (j:=0) (p:=p2) rfl rfl ru g2 i2 e3 rfl rfl (λ_ h=>by have h:_=[_]:=h;subst h;exact rfl) λH4 k4 w4 s4 c4=>?_
   exact ih rfl rfl rfl rfl ((gb e3).symm) ⟨w4,(s0.trans s4),(uT.step s4),(uU.step s4),(uV.step s4),(ET.step s4),c4⟩ hp
  ·obtain ⟨w5,s5⟩:=w0.pick' [0,1,2,3,5,6] 7 rfl rfl rfl
   exact cH.j1_P rfl rfl rfl rfl ⟨w5,(s0.trans s5),(uT.step s5),(uU.step s5),(uV.step s5),(ru.step s5)⟩ hp
def cH.p (F:Nat) (aa:Int) (dv:List Int) (ag:Int) (gw:List Int):Option (Int×List Int×Int):=(cu.p F aa dv).bind λr4=>(bif (!r4) then (some (0,([]:List Int),1)) else ((cu.p F ag gw).bind λr10=>(bif (!r10) then (some (0,([]:List Int),1)) else ((apn ([]:List Int) dv).bind λl18=>(apn l18 gw).bind λl22=>(bif (decide ((IntKind.i64.wrap (aa+ag))>48)) then (some (0,([]:List Int),3)) else ((bif (decide ((l22.length:Int)>48)) then (some (0,([]:List Int),3)) else ((fZ.p F (l22.length:Int) (l22.length:Int)).bind λr32=>cH.pl509 F F aa ag l22 (l22.length:Int) r32.1 r32.2.1 r32.2.2 0))))))))
theorem cH.P {F:Nat} {aa ag:Int} {gR nF:ON} {fm mp:Nat} {gS nG:Cap} {dv gw:List Int} {H:Hp} {R0:List Rs} (kU:fm=dv.length) (rv:mp=gw.length) (h0:Inn H R0 λR=>ROs (ae .i64) H R ⟨gR,fm,gS⟩ dv/\ROs (ae .i64) H R ⟨nF,mp,nG⟩ gw) {r:Int×List Int×Int} (hp:cH.p F aa dv ag gw=some r):∃ v H',cH.tw F aa ⟨gR,fm,gS⟩ ag ⟨nF,mp,nG⟩ H=some (v,H')/\cH.Q H R0 R0  r v H':=by
 obtain ⟨w0,iL,mq⟩:=h0
 subst kU
 subst rv
 unfold cH.p at hp
 unfold cH.tw cH.twX
 have s0:=w0.rf
 refine cJ w0 λH1 w1 s1=>?_
 refine cJ w1 λH2 w2 s2=>?_
 refine cJ w2 λH3 w3 s3=>?_
 refine ac (ah (w3.ld (i:=2) rfl rfl)) ?_
 refine ac (aH (w3.ld (i:=2) rfl rfl)) ?_
 obtain ⟨r4,e4,hp⟩:=ak hp
 refine aW (cu.P rfl ⟨w3,(iL.step (s1.trans (s2.trans s3)))⟩ e4) ?_
 rintro _ H5 ⟨rfl,w5,s5,_⟩
 refine ac rfl ?_
 refine aZ hp (λhp=>?_) λhp=>?_
 ·refine bt w5 (i:=0) rfl rfl rfl λH6 w6 s6=>?_
  refine bt w6 (i:=0) rfl rfl rfl λH7 w7 s7=>?_
  refine ac (ah (w7.ld (i:=0) rfl rfl)) ?_
  refine ac (aH (w7.ld (i:=0) rfl rfl)) ?_
  obtain ⟨w8,s8⟩:=w7.nilS (ae .i64).z (by decide)
  obtain ⟨w9,s9⟩:=w8.pick' [0] 4 rfl rfl rfl
  dsimp only [pk,pks,nth,List.drop,List.set,List.eraseIdx] at w9 s6 s7 s8 s9
  exact a_ hp ⟨_,_,_,_,rfl,rfl,w9,(s0.trans (s1.trans (s2.trans (s3.trans (s5.trans (s6.trans (s7.trans (s8.trans s9)))))))),((CR.empty:CR (ae .i64) _ _ [] []).step s9)⟩
 ·refine ac (ah (w5.ld (i:=1) rfl rfl)) ?_
  refine ac (aH (w5.ld (i:=1) rfl rfl)) ?_
  obtain ⟨r10,e10,hp⟩:=ak hp
  refine aW (cu.P rfl ⟨w5,(mq.step (s1.trans (s2.trans (s3.trans s5))))⟩ e10) ?_
  rintro _ H11 ⟨rfl,w11,s11,_⟩
  refine ac rfl ?_
  refine aZ hp (λhp=>?_) λhp=>?_
  ·refine bt w11 (i:=0) rfl rfl rfl λH12 w12 s12=>?_
   refine bt w12 (i:=0) rfl rfl rfl λH13 w13 s13=>?_
   refine ac (ah (w13.ld (i:=0) rfl rfl)) ?_
   refine ac (aH (w13.ld (i:=0) rfl rfl)) ?_
   obtain ⟨w14,s14⟩:=w13.nilS (ae .i64).z (by decide)
   obtain ⟨w15,s15⟩:=w14.pick' [0] 4 rfl rfl rfl
   dsimp only [pk,pks,nth,List.drop,List.set,List.eraseIdx] at w15 s12 s13 s14 s15
   exact a_ hp ⟨_,_,_,_,rfl,rfl,w15,(s0.trans (s1.trans (s2.trans (s3.trans (s5.trans (s11.trans (s12.trans (s13.trans (s14.trans s15))))))))),((CR.empty:CR (ae .i64) _ _ [] []).step s15)⟩
  ·refine pl (ae .i64) w11 (n:=0) (l:=([]:List Int)) rfl CR.empty rfl λH16 w16 s16 c16=>?_
   refine ac (aH (w16.ld (i:=3) rfl rfl)) ?_
   obtain ⟨x17,h17,c17⟩:=(iL.step (s1.trans (s2.trans (s3.trans (s5.trans (s11.trans s16)))))).row rfl
   refine ac h17 ?_
   obtain ⟨l18,e18,hp⟩:=ak hp
   refine rH (ae .i64) w16 (i:=0) rfl rfl c16 c17 rfl rfl e18 λa19 d19 H19 w19 s19 c19 x19=>?_
   refine fq (x19 ⟨_,rfl⟩) ?_
   refine ac (aH (w19.ld (i:=2) rfl rfl)) ?_
   obtain ⟨x21,h21,c21⟩:=(mq.step (s1.trans (s2.trans (s3.trans (s5.trans (s11.trans (s16.trans s19))))))).row rfl
   refine ac h21 ?_
   obtain ⟨l22,e22,hp⟩:=ak hp
   refine rH (ae .i64) w19 (i:=0) rfl rfl c19 c21 rfl rfl e22 λa23 d23 H23 w23 s23 c23 x23=>?_
   refine ac (ah (w23.ld (i:=3) rfl rfl)) ?_
   refine ac (ah (w23.ld (i:=2) rfl rfl)) ?_
   refine aZ hp (λhp=>?_) λhp=>?_
   ·refine bt w23 (i:=1) rfl rfl rfl λH24 w24 s24=>?_
    dsimp only [pk,pks,nth,List.drop,List.set,List.eraseIdx] at w24 s19 c19 s23 c23 s24
    refine bt w24 (i:=1) rfl rfl rfl λH25 w25 s25=>?_
    refine ac (ah (w25.ld (i:=1) rfl rfl)) ?_
    refine ac (aH (w25.ld (i:=1) rfl rfl)) ?_
    obtain ⟨w26,s26⟩:=w25.nilS (ae .i64).z (by decide)
    obtain ⟨w27,s27⟩:=w26.pick' [0] 5 rfl rfl rfl
    exact a_ hp ⟨_,_,_,_,rfl,rfl,w27,(s0.trans (s1.trans (s2.trans (s3.trans (s5.trans (s11.trans (s16.trans (s19.trans (s23.trans (s24.trans (s25.trans (s26.trans s27)))))))))))),((CR.empty:CR (ae .i64) _ _ [] []).step s27)⟩
   ·refine aZ hp (λhp=>?_) λhp=>?_
    ·refine bt w23 (i:=1) rfl rfl rfl λH28 w28 s28=>?_
     dsimp only [pk,pks,nth,List.drop,List.set,List.eraseIdx] at w28 s19 c19 s23 c23 s28
     refine bt w28 (i:=1) rfl rfl rfl λH29 w29 s29=>?_
     refine ac (ah (w29.ld (i:=1) rfl rfl)) ?_
     refine ac (aH (w29.ld (i:=1) rfl rfl)) ?_
     obtain ⟨w30,s30⟩:=w29.nilS (ae .i64).z (by decide)
     obtain ⟨w31,s31⟩:=w30.pick' [0] 5 rfl rfl rfl
     exact a_ hp ⟨_,_,_,_,rfl,rfl,w31,(s0.trans (s1.trans (s2.trans (s3.trans (s5.trans (s11.trans (s16.trans (s19.trans (s23.trans (s28.trans (s29.trans (s30.trans s31)))))))))))),((CR.empty:CR (ae .i64) _ _ [] []).step s31)⟩
    ·obtain ⟨r32,e32,hp⟩:=ak hp
     refine aW (fZ.P ⟨w23,trivial⟩ e32) ?_
     rintro _ H33 ⟨o2a_33,o2n_33,o2k_33,rfl,rfl,w33,s33,f33_0⟩
     refine ac rfl ?_
     refine ac rfl ?_
     refine ac rfl ?_
     refine ac rfl ?_
     refine ac rfl ?_
     refine ac rfl ?_
     refine ac rfl ?_
     refine cJ w33 λH34 w34 s34=>?_
     refine bt w34 (i:=0) rfl rfl rfl λH35 w35 s35=>?_
     dsimp only [pk,pks,nth,List.drop,List.set,List.eraseIdx] at w35 s19 c19 s23 c23 s34 s35
     refine bt w35 (i:=0) rfl rfl rfl λH36 w36 s36=>?_
     refine bt w36 (i:=0) rfl rfl rfl λH37 w37 s37=>?_
     obtain ⟨w38,s38⟩:=w37.nilS (ae .i64).z (by decide)
     obtain ⟨w39,s39⟩:=w38.pick' [6,5,0,4,3,2,1] 7 rfl rfl rfl
     dsimp only [pk,pks,nth,List.drop,List.set,List.eraseIdx] at w39 s36 s37 s38 s39
     exact cH.l509_P F rfl rfl rfl rfl rfl ⟨w39,(s0.trans (s1.trans (s2.trans (s3.trans (s5.trans (s11.trans (s16.trans (s19.trans (s23.trans (s33.trans (s34.trans (s35.trans (s36.trans (s37.trans (s38.trans s39))))))))))))))),(iL.step (s1.trans (s2.trans (s3.trans (s5.trans (s11.trans (s16.trans (s19.trans (s23.trans (s33.trans (s34.trans (s35.trans (s36.trans (s37.trans (s38.trans s39))))))))))))))),(mq.step (s1.trans (s2.trans (s3.trans (s5.trans (s11.trans (s16.trans (s19.trans (s23.trans (s33.trans (s34.trans (s35.trans (s36.trans (s37.trans (s38.trans s39))))))))))))))),((CR.empty:CR (ae .i64) _ _ [] []).step s39),(c23.step (s33.trans (s34.trans (s35.trans (s36.trans (s37.trans (s38.trans s39))))))),(f33_0.step (s34.trans (s35.trans (s36.trans (s37.trans (s38.trans s39))))))⟩ hp
def gV.Q (H0:Hp) (Ri R0:List Rs)  (r:Bool) (v:AV) (H':Hp):Prop:=v=(.bool r)/\Out H0 Ri H' (R0) λR=>True
def gV.p (F:Nat) (aa:Int) (au:Int) (dA:Int):Option (Bool):=(bif (decide (au<=aa)) then (some (decide (aa<=dA))) else (some false))
theorem gV.P {F:Nat} {aa au dA:Int} {H:Hp} {R0:List Rs}  (h0:Inn H R0 λR=>True) {r:Bool} (hp:gV.p F aa au dA=some r):∃ v H',gV.tw F aa au dA H=some (v,H')/\gV.Q H R0 R0  r v H':=by
 obtain ⟨w0,_⟩:=h0
 unfold gV.p at hp
 unfold gV.tw gV.twX
 have s0:=w0.rf
 refine aZ hp (λhp=>?_) λhp=>?_
 ·exact a_ hp ⟨rfl,w0,s0,trivial⟩
 ·exact a_ hp ⟨rfl,w0,s0,trivial⟩
def cF.Q (H0:Hp) (Ri R0:List Rs)  (r:Bool) (v:AV) (H':Hp):Prop:=v=(.bool r)/\Out H0 Ri H' (R0) λR=>True
def cF.S13 (H0:Hp) (Ri R0:List Rs)  (C:Nat->Nat->Sl->Int->Int->Hp->OA) (pC:Int->List Int->Int->Int->Option (Bool)):Prop:=∀ {rx lp ji:Int} {xb:ON} {uW hU:Nat} {xc:Cap} {mL:List Int},∀ {H:Hp},uW=mL.length->(Out H0 Ri H (Rs.blk hU [.i rx,.sl ⟨xb,uW,xc⟩] :: R0) λR=>ROs (ae .i64) H R ⟨xb,uW,xc⟩ mL)->∀ {r:Bool},pC rx mL lp ji=some r->∃ v H',C hU 0 ⟨xb,uW,xc⟩ lp ji H=some (v,H')/\cF.Q H0 Ri R0  r v H'
def cF.pj1 (F:Nat)  (xd:Int) (uX:List Int):Option (Bool):=(gV.p F xd 0 48).bind λr1=>(bif r1 then (some (decide ((uX.length:Int)<=48))) else (some false))
theorem cF.j1_P {F:Nat} {H0:Hp} {Ri R0:List Rs}   {xd:Int} {EU:ON} {AG uB:Nat} {EV:Cap} {uX:List Int} {H:Hp} (KT:AG=uX.length) (h0:Out H0 Ri H (Rs.blk uB [.i xd,.sl ⟨EU,AG,EV⟩] :: R0) λR=>ROs (ae .i64) H R ⟨EU,AG,EV⟩ uX) {r:Bool} (hp:cF.pj1 F  xd uX=some r):∃ v H',cF.j1 F (gV.tw F)  uB 0 H=some (v,H')/\cF.Q H0 Ri R0  r v H':=by
 obtain ⟨w0,s0,NO⟩:=h0
 subst KT
 unfold cF.pj1 at hp
 unfold cF.j1
 refine ac (ah (w0.ld (i:=0) rfl rfl)) ?_
 obtain ⟨r1,e1,hp⟩:=ak hp
 refine aW (gV.P ⟨w0,trivial⟩ e1) ?_
 rintro _ H2 ⟨rfl,w2,s2,_⟩
 refine ac rfl ?_
 refine aZ hp (λhp=>?_) λhp=>?_
 ·refine ac (aH (w2.ld (i:=0) rfl rfl)) ?_
  obtain ⟨w3,s3⟩:=w2.pick' [] 1 rfl rfl rfl
  exact a_ hp ⟨rfl,w3,(s0.trans (s2.trans s3)),trivial⟩
 ·obtain ⟨w4,s4⟩:=w2.pick' [] 1 rfl rfl rfl
  exact a_ hp ⟨rfl,w4,(s0.trans (s2.trans s4)),trivial⟩
def cF.pl13 (F:Nat) :Nat->Int->List Int->Int->Int->Option (Bool)
 | 0,_,_,_,_=>none
 | k+1,rx,mL,lp,ji=>(bif (decide (ji<lp)) then ((ix mL ji).bind λn1=>(gV.p F (gt mL n1) 2 1000000000000).bind λr2=>(bif (!r2) then (some false) else ((bif (decide (ji>0)) then ((ix mL (IntKind.i64.wrap (ji - 1))).bind λn5=>(if (gt mL n5)=0 then none else ((bif ((Int.tmod (gt mL n1) (gt mL n5)) != 0) then (some false) else (cF.pl13 F k rx mL lp (IntKind.i64.wrap (ji+1))))))) else (cF.pl13 F k rx mL lp (IntKind.i64.wrap (ji+1))))))) else (cF.pj1 F rx mL))
termination_by structural n=>n
theorem cF.l13_P {F:Nat} {H0:Hp} {Ri R0:List Rs}  :∀ k,cF.S13 H0 Ri R0  (cF.l13 F (gV.tw F)  k) (cF.pl13 F  k):=by
 intro k
 induction k with
 | zero=>unfold cF.S13;intros;rename_i hp;cases hp
 | succ k ih=>
  intro rx lp ji xb uW hU xc mL H KU h0 r hp
  obtain ⟨w0,s0,uY⟩:=h0
  subst KU
  unfold cF.pl13 at hp
  unfold cF.l13
  refine aZ hp (λhp=>?_) λhp=>?_
  ·obtain ⟨n1,g1,hp⟩:=ak hp
   obtain ⟨p1,q1,i1,h1,j1⟩:=ROs.ixr uY rfl g1
   refine ac i1 ?_
   have h1:_=[_]:=h1
   subst h1
   refine ac (ah (j1 0 _ rfl)) ?_
   obtain ⟨r2,e2,hp⟩:=ak hp
   refine aW (gV.P ⟨w0,trivial⟩ e2) ?_
   rintro _ H3 ⟨rfl,w3,s3,_⟩
   refine ac rfl ?_
   refine aZ hp (λhp=>?_) λhp=>?_
   ·obtain ⟨w4,s4⟩:=w3.pick' [] 1 rfl rfl rfl
    exact a_ hp ⟨rfl,w4,(s0.trans (s3.trans s4)),trivial⟩
   ·refine aZ hp (λhp=>?_) λhp=>?_
    ·refine ac (aH (w3.ld (i:=0) rfl rfl)) ?_
     obtain ⟨n5,g5,hp⟩:=ak hp
     obtain ⟨p5,q5,i5,h5,j5⟩:=ROs.ixr (uY.step s3) rfl g5
     refine ac i5 ?_
     have h5:_=[_]:=h5
     subst h5
     refine ac (ah (j5 0 _ rfl)) ?_
     obtain ⟨g6,hp⟩:=oh hp
     refine ol g6 ?_
     refine aZ hp (λhp=>?_) λhp=>?_
     ·obtain ⟨w7,s7⟩:=w3.pick' [] 1 rfl rfl rfl
      exact a_ hp ⟨rfl,w7,(s0.trans (s3.trans s7)),trivial⟩
     ·exact ih rfl ⟨w3,(s0.trans s3),(uY.step s3)⟩ hp
    ·exact ih rfl ⟨w3,(s0.trans s3),(uY.step s3)⟩ hp
  ·exact cF.j1_P rfl ⟨w0,s0,uY⟩ hp
def cF.p (F:Nat) (aa:Int) (dv:List Int):Option (Bool):=cF.pl13 F F aa dv (dv.length:Int) 0
theorem cF.P {F:Nat} {aa:Int} {gR:ON} {fm:Nat} {gS:Cap} {dv:List Int} {H:Hp} {R0:List Rs} (kU:fm=dv.length) (h0:Inn H R0 λR=>ROs (ae .i64) H R ⟨gR,fm,gS⟩ dv) {r:Bool} (hp:cF.p F aa dv=some r):∃ v H',cF.tw F aa ⟨gR,fm,gS⟩ H=some (v,H')/\cF.Q H R0 R0  r v H':=by
 obtain ⟨w0,iL⟩:=h0
 subst kU
 unfold cF.p at hp
 unfold cF.tw cF.twX
 have s0:=w0.rf
 refine cJ w0 λH1 w1 s1=>?_
 refine ac (aH (w1.ld (i:=0) rfl rfl)) ?_
 exact cF.l13_P F rfl ⟨w1,(s0.trans s1),(iL.step s1)⟩ hp
def cw.Q (H0:Hp) (Ri R0:List Rs)  (r:List Int) (v:AV) (H':Hp):Prop:=∃ o0a:ON,∃ o0n:Nat,∃ o0c:Cap,∃ o0k:List AV,v=(.sl ⟨o0a,o0n,o0c⟩)/\o0n=(r).length/\Out H0 Ri H' (Rs.own ⟨o0a,o0n,o0c⟩ (ae .i64).z o0k :: R0) λR=>CR (ae .i64) H' R o0k (r)
theorem cw.cat1 {F:Nat} {g:Sl->Int->Hp->OA} {H:Hp} {R:List Rs} {w:Sl} {L:List (List Int)} (f:ROs (eSl (ae .i64)) H R w L):∀ (m k i acc:Nat),L.length - i=m->m<k->i<=L.length->L.length<=4294967296->acc+(L.drop i).flatten.length<=4294967296 ->
  cw.l29 F g k w (acc:Int) w (L.length:Int) (i:Int) H=cw.j2 F g w ((acc+(L.drop i).flatten.length:Nat):Int) H:=by
 intro m
 induction m with
 | zero=>
  intro k i acc hm hk hi hL hc
  obtain ⟨k,rfl⟩:∃ k',k=k'+1:=⟨k - 1,by omega⟩
  rw [cw.l29,decide_eq_false (by omega),cond_false,List.drop_eq_nil_of_le (by omega)]
  rfl
 | succ m ih=>
  intro k i acc hm hk hi hL hc
  obtain ⟨k,rfl⟩:∃ k',k=k'+1:=⟨k - 1,by omega⟩
  have hi':i<L.length:=by omega
  obtain ⟨p,cs,e1,e2,e3⟩:=ROs.ixr (z:=1) f rfl (show ix L (i:Int)=some i by unfold ix;rw [if_pos ⟨by omega,by omega⟩];rfl)
  obtain ⟨se,rfl,fe⟩:=e2
  have hx:H.ldSl p.1 p.2=some se:=aH (e3 0 _ rfl)
  have hg:gt L i=L[i]:=by unfold gt;simp [hi']
  have hd:L.drop i=gt L i :: L.drop (i+1):=by rw [hg];exact List.drop_eq_getElem_cons hi'
  have hsn:se.n=(gt L i).length:=fe.n
  rw [hd,List.flatten_cons,List.length_append] at hc ⊢
  rw [cw.l29,decide_eq_true (by omega),cond_true,e1,Option.bind_some,hx,Option.bind_some,hsn,cj (x:=(acc:Int)+((gt L i).length:Int)) (by omega) (by omega),decide_eq_false (by omega),cond_false]
  unfold cw.j3
  rw [cj (x:=(i:Int)+1) (by omega) (by omega)]
  have:=ih k (i+1) (acc+(gt L i).length) (by omega) (by omega) (by omega) hL (by omega)
  rw [show ((acc:Int)+((gt L i).length:Int))=((acc+(gt L i).length:Nat):Int) by omega,show ((i:Int)+1)=((i+1:Nat):Int) by omega,this,Nat.add_assoc]
theorem cw.cat2 {F:Nat} {g:Sl->Int->Hp->OA} {H0:Hp} {R:List Rs} {w:Sl} {L:List (List Int)} (f:ROs (eSl (ae .i64)) H0 R w L):∀ (m k i:Nat) (H:Hp) (s:Sl) (l:List Int) (r:Nat),L.length - i=m->m<k->i<=L.length->L.length<=4294967296->(L.drop i).flatten.length=r->l.length+r<=4294967296->GA H0 R H s l r ->
  ∃ s' H',cw.l125 F g k s w (L.length:Int) (i:Int) H=some (.sl s',H')/\GA H0 R H' s' (l++(L.drop i).flatten) 0:=by
 intro m
 induction m with
 | zero=>
  intro k i H s l r hm hk hi hL hr hl h
  obtain ⟨k,rfl⟩:∃ k',k=k'+1:=⟨k - 1,by omega⟩
  rw [List.drop_eq_nil_of_le (by omega)] at hr ⊢
  obtain rfl:r=0:=by rw [<- hr];rfl
  rw [cw.l125,decide_eq_false (by omega),cond_false]
  exact ⟨s,H,rfl,by simpa using h⟩
 | succ m ih=>
  intro k i H s l r hm hk hi hL hr hl h
  obtain ⟨k,rfl⟩:∃ k',k=k'+1:=⟨k - 1,by omega⟩
  have hi':i<L.length:=by omega
  obtain ⟨R',f'⟩:=h.ro f
  obtain ⟨p,cs,e1,e2,e3⟩:=ROs.ixr (z:=1) f' rfl (show ix L (i:Int)=some i by unfold ix;rw [if_pos ⟨by omega,by omega⟩];rfl)
  obtain ⟨se,rfl,fe⟩:=e2
  have hx:H.ldSl p.1 p.2=some se:=aH (e3 0 _ rfl)
  have hg:gt L i=L[i]:=by unfold gt;simp [hi']
  have hd:L.drop i=gt L i :: L.drop (i+1):=by rw [hg];exact List.drop_eq_getElem_cons hi'
  have hsn:se.n=(gt L i).length:=fe.n
  rw [hd,List.flatten_cons] at hr ⊢
  rw [List.length_append] at hr
  obtain ⟨xs,x1,x2⟩:=fe.row (z:=1) rfl
  obtain rfl:=x2.ints_eq
  obtain ⟨s',H',a1,a2⟩:=h.app (gt L i) (by omega) (by omega)
  obtain ⟨s2,H2,q1,q2⟩:=ih k (i+1) H' s' (l++gt L i) (r - (gt L i).length) (by omega) (by omega) (by omega) hL (by omega) (by rw [List.length_append];omega) a2
  rw [cw.l125,decide_eq_true (by omega),cond_true,e1,Option.bind_some,hx,Option.bind_some,x1,Option.bind_some,hsn,a1,Option.bind_some,cj (x:=(i:Int)+1) (by omega) (by omega),show ((i:Int)+1)=((i+1:Nat):Int) by omega]
  exact ⟨s2,H2,q1,by rw [List.append_assoc] at q2;exact q2⟩
theorem cw.cat {F:Nat} {H:Hp} {R:List Rs} {w:Sl} {L:List (List Int)} (w0:W H R) (f:ROs (eSl (ae .i64)) H R w L) (hF:L.length<F) (hL:L.length<=4294967296) (hc:L.flatten.length<=4294967296):∃ s' H',cw.tw F w H=some (.sl s',H')/\GA H R H' s' L.flatten 0:=by
 have hn:w.n=L.length:=f.n
 have e1:cw.l29 F (hZ.tw F) F w 0 w (L.length:Int) 0 H=cw.j2 F (hZ.tw F) w ((L.flatten.length:Nat):Int) H:=by
  have:=cw.cat1 (F:=F) (g:=hZ.tw F) f L.length F 0 0 (by omega) hF (Nat.zero_le _) hL (by simpa using hc)
  simpa using this
 have e0:∀ n:Nat,n<=4294967296->IntKind.i64.wrap ((n:Int) - IntKind.i64.wrap (((0:Nat):Int) - (((⟨none,0,.ex 0⟩:Sl).n:Nat):Int)))=(n:Int):=λn h=>by
  show IntKind.i64.wrap ((n:Int) - IntKind.i64.wrap (((0:Nat):Int) - ((0:Nat):Int)))=(n:Int)
  rw [cj (x:=((0:Nat):Int) - ((0:Nat):Int)) (by omega) (by omega),cj (by omega) (by omega)];omega
 have gz:∀ n:Nat,n=0->hZ.tw F ⟨none,0,.ex 0⟩ (n:Int) H=some (.sl ⟨none,0,.ex 0⟩,H):=λn h0=>by
  unfold hZ.tw hZ.twX hZ.j1
  rw [decide_eq_false (show ¬ (n:Int)<0 by omega),cond_false]
  dsimp only [Sl.capK]
  rw [e0 _ (by omega),decide_eq_false (show ¬ (n:Int)>0 by omega),cond_false]
 have gp:∀ n:Nat,0<n->n<=4294967296->∃ H1,hZ.tw F ⟨none,0,.ex 0⟩ (n:Int) H=some (.sl ⟨some (H.length,0),0,.full 1⟩,H1)/\GA H R H1 ⟨some (H.length,0),0,.full 1⟩ [] n:=λn h0 hl=>by
  obtain ⟨H1,g1,g2,g3⟩:=GA.grow w0 (n:=n) h0 hl
  refine ⟨H1,?_,g3⟩
  unfold hZ.tw hZ.twX hZ.j1
  rw [decide_eq_false (show ¬ (n:Int)<0 by omega),cond_false]
  dsimp only [Sl.capK]
  have g0:Sl.cut (⟨none,0,.ex 0⟩:Sl) 1 0 ((0:Nat):Int)=some ⟨none,0,.ex 0⟩:=by unfold Sl.cut;simp
  have g2:Sl.cut (⟨some (H.length,0),n,.full 1⟩:Sl) 1 0 (((⟨none,0,.ex 0⟩:Sl).n:Nat):Int)=some ⟨some (H.length,0),0,.full 1⟩:=g2
  rw [e0 _ hl,decide_eq_true (show (n:Int)>0 by omega),cond_true,g0,Option.bind_some,if_pos ⟨by omega,by omega⟩,Int.toNat_natCast,g1,Option.bind_some,g2,Option.bind_some]
 unfold cw.tw cw.twX
 rw [hn,e1]
 unfold cw.j2
 by_cases h0:L.flatten.length=0
 ·rw [gz _ h0,Option.bind_some]
  obtain ⟨s2,H2,q1,q2⟩:=cw.cat2 (F:=F) (g:=hZ.tw F) f L.length F 0 H ⟨none,0,.ex 0⟩ [] 0 (by omega) hF (Nat.zero_le _) hL (by simpa using h0) (by simp) ⟨rfl,.inl ⟨rfl,rfl,rfl,w0,w0.rf⟩⟩
  refine ⟨s2,H2,?_,by simpa using q2⟩
  show (AV.asSl (.sl (⟨none,0,.ex 0⟩:Sl))).bind _=_
  rw [show AV.asSl (.sl (⟨none,0,.ex 0⟩:Sl))=some ⟨none,0,.ex 0⟩ from rfl,Option.bind_some,hn]
  exact q1
 ·obtain ⟨H1,g1,g3⟩:=gp _ (by omega) hc
  rw [g1,Option.bind_some]
  obtain ⟨s2,H2,q1,q2⟩:=cw.cat2 (F:=F) (g:=hZ.tw F) f L.length F 0 H1 _ [] _ (by omega) hF (Nat.zero_le _) hL (by simp) (by simpa using hc) g3
  refine ⟨s2,H2,?_,by simpa using q2⟩
  show (AV.asSl (.sl (⟨some (H.length,0),0,.full 1⟩:Sl))).bind _=_
  rw [show AV.asSl (.sl (⟨some (H.length,0),0,.full 1⟩:Sl))=some ⟨some (H.length,0),0,.full 1⟩ from rfl,Option.bind_some,hn]
  exact q1
def cw.p (F:Nat) (bO:List (List Int)):Option (List Int):=(if bO.length<F/\bO.length<=4294967296/\bO.flatten.length<=4294967296 then some bO.flatten else none)
theorem cw.P {F:Nat} {eo:ON} {dz:Nat} {es:Cap} {bO:List (List Int)} {H:Hp} {R0:List Rs} (hJ:dz=bO.length) (h0:Inn H R0 λR=>ROs (eSl (ae .i64)) H R ⟨eo,dz,es⟩ bO) {r:List Int} (hp:cw.p F bO=some r):∃ v H',cw.tw F ⟨eo,dz,es⟩ H=some (v,H')/\cw.Q H R0 R0  r v H':=by
 obtain ⟨w0,f0⟩:=h0
 subst hJ
 unfold cw.p at hp
 obtain ⟨⟨hF,hL,hc⟩,hp⟩:=nu hp
 obtain rfl:=Option.some.inj hp
 obtain ⟨s',H2,e,h2⟩:=cw.cat (F:=F) w0 f0 hF hL hc
 obtain ⟨a,c,rfl,w3,fr⟩:=h2.out
 exact ⟨_,_,e,a,_,c,_,rfl,rfl,w3,fr,CR.ints _ _ _ _⟩
def im.Q (H0:Hp) (Ri R0:List Rs)  (r:Int) (v:AV) (H':Hp):Prop:=v=(.i r)/\Out H0 Ri H' (R0) λR=>True
def im.p (F:Nat) (bO:List Int):Option (Int):=some (bO.length:Int)
theorem im.P {F:Nat} {eo:ON} {dz:Nat} {es:Cap} {bO:List Int} {H:Hp} {R0:List Rs} (hJ:dz=bO.length) (h0:Inn H R0 λR=>ROs (ae .i64) H R ⟨eo,dz,es⟩ bO) {r:Int} (hp:im.p F bO=some r):∃ v H',im.tw F ⟨eo,dz,es⟩ H=some (v,H')/\im.Q H R0 R0  r v H':=by
 obtain ⟨w0,iK⟩:=h0
 subst hJ
 unfold im.p at hp
 unfold im.tw im.twX
 have s0:=w0.rf
 exact a_ hp ⟨rfl,w0,s0,trivial⟩
def ga.Q (H0:Hp) (Ri R0:List Rs)  (r:Int×Int×List Int) (v:AV) (H':Hp):Prop:=∃ o2a:ON,∃ o2n:Nat,∃ o2k:List AV,v=(.agg [(.i r.1),(.i r.2.1),(.sl ⟨o2a,o2n,.ex o2n⟩)])/\o2n=(r.2.2).length/\Out H0 Ri H' (Rs.own ⟨o2a,o2n,.ex o2n⟩ (ae .i64).z o2k :: R0) λR=>CR (ae .i64) H' R o2k (r.2.2)
def ga.p (F:Nat) (aa:Int) (au:Int):Option (Int×Int×List Int):=(mkn (IntKind.i64.wrap (aa * au)) (0:Int)).bind λl2=>some (aa,au,l2)
theorem ga.P {F:Nat} {aa au:Int} {H:Hp} {R0:List Rs}  (h0:Inn H R0 λR=>True) {r:Int×Int×List Int} (hp:ga.p F aa au=some r):∃ v H',ga.tw F aa au H=some (v,H')/\ga.Q H R0 R0  r v H':=by
 obtain ⟨w0,_⟩:=h0
 unfold ga.p at hp
 unfold ga.tw ga.twX
 have s0:=w0.rf
 refine cJ w0 λH1 w1 s1=>?_
 obtain ⟨l2,e2,hp⟩:=ak hp
 refine BU (ae .i64) (0:Int) w1 rfl rfl rfl e2 λH3 k3 w3 s3 c3=>?_
 refine bt w3 (i:=1) rfl rfl rfl λH4 w4 s4=>?_
 refine bt w4 (i:=1) rfl rfl rfl λH5 w5 s5=>?_
 refine bt w5 (i:=1) rfl rfl rfl λH6 w6 s6=>?_
 dsimp only [pk,pks,nth,List.drop,List.set,List.eraseIdx] at w6 s4 s5 s6
 refine ac (ah (w6.ld (i:=1) rfl rfl)) ?_
 refine ac (ah (w6.ld (i:=1) rfl rfl)) ?_
 refine ac (aH (w6.ld (i:=1) rfl rfl)) ?_
 obtain ⟨w7,s7⟩:=w6.pick' [0] 2 rfl rfl rfl
 exact a_ hp ⟨_,_,_,rfl,rfl,w7,(s0.trans (s1.trans (s3.trans (s4.trans (s5.trans (s6.trans s7)))))),(c3.step (s4.trans (s5.trans (s6.trans s7))))⟩
def dn.Q (H0:Hp) (Ri R0:List Rs)  (r:Int×Int×List Int) (v:AV) (H':Hp):Prop:=∃ o2a:ON,∃ o2n:Nat,∃ o2c:Cap,∃ o2k:List AV,v=(.agg [(.i r.1),(.i r.2.1),(.sl ⟨o2a,o2n,o2c⟩)])/\o2n=(r.2.2).length/\Out H0 Ri H' (Rs.own ⟨o2a,o2n,o2c⟩ (ae .i64).z o2k :: R0) λR=>CR (ae .i64) H' R o2k (r.2.2)
def dn.S29 (H0:Hp) (Ri R0:List Rs)  (C:Nat->Nat->Nat->Nat->Int->Int->Hp->OA) (pC:Int->Int->List Int->Int->Int->Option (Int×Int×List Int)):Prop:=∀ {uE uF mT mI lS kt:Int} {qB qC:ON} {oT dj oU gq:Nat} {qD qE:Cap} {qF lD:List Int} {qG qH:List AV},∀ {H:Hp},oT=qF.length->oU=lD.length->(Out H0 Ri H (Rs.own ⟨qB,oT,qD⟩ (ae .i64).z qG :: Rs.blk dj [.i uE,.i uF,.sl ⟨qB,oT,qD⟩] :: Rs.own ⟨qC,oU,qE⟩ (ae .i64).z qH :: Rs.blk gq [.i mT,.i mI,.sl ⟨qC,oU,qE⟩] :: R0) λR=>CR (ae .i64) H R qG qF/\CR (ae .i64) H R qH lD)->∀ {r:Int×Int×List Int},pC mT mI lD lS kt=some r->∃ v H',C dj 0 gq 0 lS kt H=some (v,H')/\dn.Q H0 Ri R0  r v H'
def dn.pl29 (F:Nat) :Nat->Int->Int->List Int->Int->Int->Option (Int×Int×List Int)
 | 0,_,_,_,_,_=>none
 | k+1,mT,mI,lD,lS,kt=>(bif (decide (kt<lS)) then ((ix lD (IntKind.i64.wrap ((IntKind.i64.wrap (kt * mI))+kt))).bind λn2=>(some (lD.set n2 1)).bind λl3=>dn.pl29 F k mT mI l3 lS (IntKind.i64.wrap (kt+1))) else (some (mT,mI,lD)))
termination_by structural n=>n
theorem dn.l29_P {F:Nat} {H0:Hp} {Ri R0:List Rs}  :∀ k,dn.S29 H0 Ri R0  (dn.l29 F (ga.tw F) (bH.tw F)  k) (dn.pl29 F  k):=by
 intro k
 induction k with
 | zero=>unfold dn.S29;intros;rename_i hp;cases hp
 | succ k ih=>
  intro uE uF mT mI lS kt qB qC oT dj oU gq qD qE qF lD qG qH H ym yn h0 r hp
  obtain ⟨w0,s0,yo,qI⟩:=h0
  subst ym
  subst yn
  unfold dn.pl29 at hp
  unfold dn.l29
  refine aZ hp (λhp=>?_) λhp=>?_
  ·refine ac (ah (w0.ld (i:=3) rfl rfl)) ?_
   refine ac (ah (w0.ld (i:=3) rfl rfl)) ?_
   refine ac (aH (w0.ld (i:=3) rfl rfl)) ?_
   refine bH.inl ?_
   refine cJ w0 λH1 w1 s1=>?_
   refine ac (aH (w1.ld (i:=0) rfl rfl)) ?_
   refine ac (ah (w1.ld (i:=0) rfl rfl)) ?_
   obtain ⟨n2,g2,hp⟩:=ak hp
   obtain ⟨p2,q2,i2,h2,j2⟩:=W.ixo (E:=(ae .i64)) w1 (i:=3) rfl rfl (qI.step s1) g2
   refine ac i2 ?_
   refine ⟨_,_,rfl,?_⟩
   refine ac rfl ?_
   obtain ⟨l3,e3,hp⟩:=ak hp
   refine jb (ae .i64) w1 (i:=3) (j:=0) (p:=p2) rfl rfl (qI.step s1) g2 i2 e3 rfl rfl (λ_ h=>by have h:_=[_]:=h;subst h;exact rfl) λH4 k4 w4 s4 c4=>?_
   obtain ⟨w5,s5⟩:=w4.pick' [1,2,3,4] 5 rfl rfl rfl
   exact ih rfl ((gb e3).symm) ⟨w5,(s0.trans (s1.trans (s4.trans s5))),(yo.step (s1.trans (s4.trans s5))),(c4.step s5)⟩ hp
  ·refine ac (ah (w0.ld (i:=3) rfl rfl)) ?_
   refine ac (ah (w0.ld (i:=3) rfl rfl)) ?_
   refine ac (aH (w0.ld (i:=3) rfl rfl)) ?_
   refine bt w0 (i:=1) rfl rfl rfl λH6 w6 s6=>?_
   refine bt w6 (i:=1) rfl rfl rfl λH7 w7 s7=>?_
   refine bt w7 (i:=1) rfl rfl rfl λH8 w8 s8=>?_
   dsimp only [pk,pks,nth,List.drop,List.set,List.eraseIdx] at w8 s6 s7 s8
   refine ac (ah (w8.ld (i:=1) rfl rfl)) ?_
   refine ac (ah (w8.ld (i:=1) rfl rfl)) ?_
   refine ac (aH (w8.ld (i:=1) rfl rfl)) ?_
   obtain ⟨w9,s9⟩:=w8.pick' [2] 4 rfl rfl rfl
   exact a_ hp ⟨_,_,_,_,rfl,rfl,w9,(s0.trans (s6.trans (s7.trans (s8.trans s9)))),(qI.step (s6.trans (s7.trans (s8.trans s9))))⟩
def dn.p (F:Nat) (aa:Int):Option (Int×Int×List Int):=(ga.p F aa aa).bind λr2=>dn.pl29 F F r2.1 r2.2.1 r2.2.2 aa 0
theorem dn.P {F:Nat} {aa:Int} {H:Hp} {R0:List Rs}  (h0:Inn H R0 λR=>True) {r:Int×Int×List Int} (hp:dn.p F aa=some r):∃ v H',dn.tw F aa H=some (v,H')/\dn.Q H R0 R0  r v H':=by
 obtain ⟨w0,_⟩:=h0
 unfold dn.p at hp
 unfold dn.tw dn.twX
 have s0:=w0.rf
 refine cJ w0 λH1 w1 s1=>?_
 obtain ⟨r2,e2,hp⟩:=ak hp
 refine aW (ga.P ⟨w1,trivial⟩ e2) ?_
 rintro _ H3 ⟨o2a_3,o2n_3,o2k_3,rfl,rfl,w3,s3,f3_0⟩
 refine ac rfl ?_
 refine ac rfl ?_
 refine ac rfl ?_
 refine ac rfl ?_
 refine ac rfl ?_
 refine ac rfl ?_
 refine ac rfl ?_
 refine cJ w3 λH4 w4 s4=>?_
 refine bt w4 (i:=0) rfl rfl rfl λH5 w5 s5=>?_
 refine bt w5 (i:=0) rfl rfl rfl λH6 w6 s6=>?_
 refine bt w6 (i:=0) rfl rfl rfl λH7 w7 s7=>?_
 dsimp only [pk,pks,nth,List.drop,List.set,List.eraseIdx] at w7 s5 s6 s7
 obtain ⟨w8,s8⟩:=w7.nilS (ae .i64).z (by decide)
 obtain ⟨w9,s9⟩:=w8.pick' [0,3,2,1] 4 rfl rfl rfl
 exact dn.l29_P F rfl rfl ⟨w9,(s0.trans (s1.trans (s3.trans (s4.trans (s5.trans (s6.trans (s7.trans (s8.trans s9)))))))),((CR.empty:CR (ae .i64) _ _ [] []).step s9),(f3_0.step (s4.trans (s5.trans (s6.trans (s7.trans (s8.trans s9))))))⟩ hp
def iZ.Q (H0:Hp) (Ri R0:List Rs)  (r:List Int) (v:AV) (H':Hp):Prop:=∃ o0a:ON,∃ o0n:Nat,∃ o0c:Cap,∃ o0k:List AV,v=(.sl ⟨o0a,o0n,o0c⟩)/\o0n=(r).length/\Out H0 Ri H' (Rs.own ⟨o0a,o0n,o0c⟩ (ae .i64).z o0k :: R0) λR=>CR (ae .i64) H' R o0k (r)
def iZ.p (F:Nat) (bO:List Int):Option (List Int):=apn ([]:List Int) bO
theorem iZ.P {F:Nat} {eo:ON} {dz:Nat} {es:Cap} {bO:List Int} {H:Hp} {R0:List Rs} (hJ:dz=bO.length) (h0:Inn H R0 λR=>ROs (ae .i64) H R ⟨eo,dz,es⟩ bO) {r:List Int} (hp:iZ.p F bO=some r):∃ v H',iZ.tw F ⟨eo,dz,es⟩ H=some (v,H')/\iZ.Q H R0 R0  r v H':=by
 obtain ⟨w0,f0⟩:=h0
 subst hJ
 unfold iZ.p at hp
 unfold iZ.tw iZ.twX
 have s0:=w0.rf
 refine xO (λhb=>?_) (λhb=>?_)
 ·obtain ⟨w1,s1⟩:=w0.nilS (ae .i64).z (by decide)
  obtain rfl:=ROs.none_nil f0 (Option.isNone_iff_eq_none.1 hb)
  obtain rfl:r=[]:=(Gw hp).2
  exact ⟨_,_,rfl,none,0,.ex 0,[],rfl,rfl,w1,s0.trans s1,CR.empty⟩
 ·refine pl (ae .i64) w0 (n:=0) (l:=[]) rfl CR.empty rfl λH2 w2 s2 c2=>?_
  obtain ⟨xs,hx,cx⟩:=(f0.step s2).row rfl
  refine ac hx ?_
  refine rH (ae .i64) w2 (i:=0) rfl rfl c2 cx rfl rfl hp λa d H3 w3 s3 c3 _=>?_
  dsimp only [List.set] at w3 s3 c3
  exact ⟨_,_,rfl,_,_,_,_,rfl,rfl,w3,s0.trans (s2.trans s3),c3⟩
def io.Q (H0:Hp) (Ri R0:List Rs)  (r:Int×Int×List Int) (v:AV) (H':Hp):Prop:=∃ o2a:ON,∃ o2n:Nat,∃ o2c:Cap,∃ o2k:List AV,v=(.agg [(.i r.1),(.i r.2.1),(.sl ⟨o2a,o2n,o2c⟩)])/\o2n=(r.2.2).length/\Out H0 Ri H' (Rs.own ⟨o2a,o2n,o2c⟩ (ae .i64).z o2k :: R0) λR=>CR (ae .i64) H' R o2k (r.2.2)
def io.p (F:Nat) (aa:Int) (af:Int) (dG:List Int):Option (Int×Int×List Int):=(iZ.p F dG).bind λr3=>some (aa,af,r3)
theorem io.P {F:Nat} {aa af:Int} {eK:ON} {dM:Nat} {eL:Cap} {dG:List Int} {H:Hp} {R0:List Rs} (kb:dM=dG.length) (h0:Inn H R0 λR=>ROs (ae .i64) H R ⟨eK,dM,eL⟩ dG) {r:Int×Int×List Int} (hp:io.p F aa af dG=some r):∃ v H',io.tw F aa af ⟨eK,dM,eL⟩ H=some (v,H')/\io.Q H R0 R0  r v H':=by
 obtain ⟨w0,jv⟩:=h0
 subst kb
 unfold io.p at hp
 unfold io.tw io.twX
 have s0:=w0.rf
 refine cJ w0 λH1 w1 s1=>?_
 refine cJ w1 λH2 w2 s2=>?_
 refine ac (aH (w2.ld (i:=1) rfl rfl)) ?_
 obtain ⟨r3,e3,hp⟩:=ak hp
 refine aW (iZ.P rfl ⟨w2,(jv.step (s1.trans s2))⟩ e3) ?_
 rintro _ H4 ⟨o0a_4,o0n_4,o0c_4,o0k_4,rfl,rfl,w4,s4,f4_0⟩
 refine ac rfl ?_
 refine bt w4 (i:=2) rfl rfl rfl λH5 w5 s5=>?_
 refine ac (ah (w5.ld (i:=2) rfl rfl)) ?_
 refine ac (ah (w5.ld (i:=2) rfl rfl)) ?_
 refine ac (aH (w5.ld (i:=2) rfl rfl)) ?_
 refine bt w5 (i:=1) rfl rfl rfl λH6 w6 s6=>?_
 refine bt w6 (i:=1) rfl rfl rfl λH7 w7 s7=>?_
 dsimp only [pk,pks,nth,List.drop,List.set,List.eraseIdx] at w7 s5 s6 s7
 refine bt w7 (i:=1) rfl rfl rfl λH8 w8 s8=>?_
 refine ac (ah (w8.ld (i:=1) rfl rfl)) ?_
 refine ac (ah (w8.ld (i:=1) rfl rfl)) ?_
 refine ac (aH (w8.ld (i:=1) rfl rfl)) ?_
 obtain ⟨w9,s9⟩:=w8.pick' [0] 3 rfl rfl rfl
 exact a_ hp ⟨_,_,_,_,rfl,rfl,w9,(s0.trans (s1.trans (s2.trans (s4.trans (s5.trans (s6.trans (s7.trans (s8.trans s9)))))))),(f4_0.step (s5.trans (s6.trans (s7.trans (s8.trans s9)))))⟩
def ee.Q (H0:Hp) (Ri R0:List Rs)  (r:Int) (v:AV) (H':Hp):Prop:=v=(.i r)/\Out H0 Ri H' (R0) λR=>True
def ee.p (F:Nat) (aa:Int):Option (Int):=(bif (decide (aa<0)) then (some (IntKind.i64.wrap (0 - aa))) else (some aa))
theorem ee.P {F:Nat} {aa:Int} {H:Hp} {R0:List Rs}  (h0:Inn H R0 λR=>True) {r:Int} (hp:ee.p F aa=some r):∃ v H',ee.tw F aa H=some (v,H')/\ee.Q H R0 R0  r v H':=by
 obtain ⟨w0,_⟩:=h0
 unfold ee.p at hp
 unfold ee.tw ee.twX
 have s0:=w0.rf
 refine aZ hp (λhp=>?_) λhp=>?_
 ·exact a_ hp ⟨rfl,w0,s0,trivial⟩
 ·exact a_ hp ⟨rfl,w0,s0,trivial⟩
def aS.Q (H0:Hp) (Ri R0:List Rs) (br aX bu bj aY aV bk bl bI bm:Int) (dY c_ da db:Sl) (cn:ON) (bL aa:Nat) (co:Cap) (dh:List Int) (aD:Bool) (r:Int×Int×Bool) (v:AV) (H':Hp):Prop:=v=(.tup [(.i r.1),(.i r.2.1),(.bool r.2.2)])/\Out H0 Ri H' (Rs.blk aa [.i br,.i aX,.sl dY,.i bu,.i bj,.sl c_,.i aY,.i aV,.sl ⟨cn,bL,co⟩,.i bk,.i bl,.sl da,.i bI,.i bm,.sl db,.bool aD] :: R0) λR=>True
def aS.S29 (H0:Hp) (Ri R0:List Rs) (aB aq aF av ax ar ay az aJ aA:Int) (d_ cp cq ct:Sl) (aM:ON) (aG aE:Nat) (aN:Cap) (ci:List Int) (bJ:Bool) (C:Int->Int->Int->Bool->Nat->Nat->Int->Hp->OA) (pC:Int->Int->Int->Bool->Int->Int->List Int->Int->Option (Int×Int×Bool)):Prop:=∀ {dH fX gB uc uZ lU:Int} {lT:Bool} {mR:Nat},∀ {H:Hp},aG=ci.length->(Out H0 Ri H (Rs.blk mR [.i uc,.i uZ,.sl ⟨aM,aG,aN⟩] :: Rs.blk aE [.i aB,.i aq,.sl d_,.i aF,.i av,.sl cp,.i ax,.i ar,.sl ⟨aM,aG,aN⟩,.i ay,.i az,.sl cq,.i aJ,.i aA,.sl ct,.bool bJ] :: R0) λR=>ROs (ae .i64) H R ⟨aM,aG,aN⟩ ci)->∀ {r:Int×Int×Bool},pC dH fX gB lT uc uZ ci lU=some r->∃ v H',C dH fX gB lT mR 0 lU H=some (v,H')/\aS.Q H0 Ri R0 aB aq aF av ax ar ay az aJ aA d_ cp cq ct aM aG aE aN ci bJ r v H'
def aS.S469 (H0:Hp) (Ri R0:List Rs) (aB aq aF av ax ar ay az aJ aA:Int) (d_ cp cq ct:Sl) (aM:ON) (aG aE:Nat) (aN:Cap) (ci:List Int) (bJ:Bool) (C:Int->Int->Int->Bool->Nat->Nat->Int->Int->Hp->OA) (pC:Int->Int->Int->Bool->Int->Int->List Int->Int->Int->Option (Int×Int×Bool)):Prop:=∀ {jQ ku kv pf nq iB iC:Int} {kw:Bool} {ju:Nat},∀ {H:Hp},aG=ci.length->(Out H0 Ri H (Rs.blk ju [.i pf,.i nq,.sl ⟨aM,aG,aN⟩] :: Rs.blk aE [.i aB,.i aq,.sl d_,.i aF,.i av,.sl cp,.i ax,.i ar,.sl ⟨aM,aG,aN⟩,.i ay,.i az,.sl cq,.i aJ,.i aA,.sl ct,.bool bJ] :: R0) λR=>ROs (ae .i64) H R ⟨aM,aG,aN⟩ ci)->∀ {r:Int×Int×Bool},pC jQ ku kv kw pf nq ci iB iC=some r->∃ v H',C jQ ku kv kw ju 0 iB iC H=some (v,H')/\aS.Q H0 Ri R0 aB aq aF av ax ar ay az aJ aA d_ cp cq ct aM aG aE aN ci bJ r v H'
def aS.pj9 (F:Nat) (oW:Int->Int->Int->Bool->Int->Int->List Int->Int->Int->Option (Int×Int×Bool)) (sV:Int) (sW:Int) (sX:Int) (sY:Bool) (xe:Int) (xf:Int) (ci:List Int) (sZ:Int) (s_:Int):Option (Int×Int×Bool):=oW sV sW sX sY xe xf ci sZ (IntKind.i64.wrap (s_+1))
theorem aS.j9_P {F:Nat} {H0:Hp} {Ri R0:List Rs} {aB aq aF av ax ar ay az aJ aA:Int} {d_ cp cq ct:Sl} {aM:ON} {aG aE:Nat} {aN:Cap} {ci:List Int} {bJ:Bool} {C469_:Int->Int->Int->Bool->Nat->Nat->Int->Int->Hp->OA} {oW:Int->Int->Int->Bool->Int->Int->List Int->Int->Int->Option (Int×Int×Bool)} (hC469:aS.S469 H0 Ri R0 aB aq aF av ax ar ay az aJ aA d_ cp cq ct aM aG aE aN ci bJ C469_ oW) {sV sW sX xe xf sZ s_:Int} {sY:Bool} {vQ:Nat} {H:Hp} (lF:aG=ci.length) (h0:Out H0 Ri H (Rs.blk vQ [.i xe,.i xf,.sl ⟨aM,aG,aN⟩] :: Rs.blk aE [.i aB,.i aq,.sl d_,.i aF,.i av,.sl cp,.i ax,.i ar,.sl ⟨aM,aG,aN⟩,.i ay,.i az,.sl cq,.i aJ,.i aA,.sl ct,.bool bJ] :: R0) λR=>ROs (ae .i64) H R ⟨aM,aG,aN⟩ ci) {r:Int×Int×Bool} (hp:aS.pj9 F oW sV sW sX sY xe xf ci sZ s_=some r):∃ v H',aS.j9 F (bH.tw F) (ee.tw F) C469_ sV sW sX sY vQ 0 sZ s_ H=some (v,H')/\aS.Q H0 Ri R0 aB aq aF av ax ar ay az aJ aA d_ cp cq ct aM aG aE aN ci bJ r v H':=by
 obtain ⟨w0,s0,iT⟩:=h0
 subst lF
 unfold aS.pj9 at hp
 unfold aS.j9
 exact hC469 rfl ⟨w0,s0,iT⟩ hp
def aS.pj7 (F:Nat) (dX:Int->Int->Int->Bool->Int->Int->List Int->Int->Option (Int×Int×Bool)) (sI:Int) (sJ:Int) (sK:Int) (sL:Bool) (xh:Int) (xi:Int) (ci:List Int) (sM:Int):Option (Int×Int×Bool):=dX sI sJ sK sL xh xi ci (IntKind.i64.wrap (sM+1))
theorem aS.j7_P {F:Nat} {H0:Hp} {Ri R0:List Rs} {aB aq aF av ax ar ay az aJ aA:Int} {d_ cp cq ct:Sl} {aM:ON} {aG aE:Nat} {aN:Cap} {ci:List Int} {bJ:Bool} {C29_:Int->Int->Int->Bool->Nat->Nat->Int->Hp->OA} {dX:Int->Int->Int->Bool->Int->Int->List Int->Int->Option (Int×Int×Bool)} (hC29:aS.S29 H0 Ri R0 aB aq aF av ax ar ay az aJ aA d_ cp cq ct aM aG aE aN ci bJ C29_ dX) {sI sJ sK xh xi sM:Int} {sL:Bool} {vO:Nat} {H:Hp} (lF:aG=ci.length) (h0:Out H0 Ri H (Rs.blk vO [.i xh,.i xi,.sl ⟨aM,aG,aN⟩] :: Rs.blk aE [.i aB,.i aq,.sl d_,.i aF,.i av,.sl cp,.i ax,.i ar,.sl ⟨aM,aG,aN⟩,.i ay,.i az,.sl cq,.i aJ,.i aA,.sl ct,.bool bJ] :: R0) λR=>ROs (ae .i64) H R ⟨aM,aG,aN⟩ ci) {r:Int×Int×Bool} (hp:aS.pj7 F dX sI sJ sK sL xh xi ci sM=some r):∃ v H',aS.j7 F (bH.tw F) (ee.tw F) C29_ sI sJ sK sL vO 0 sM H=some (v,H')/\aS.Q H0 Ri R0 aB aq aF av ax ar ay az aJ aA d_ cp cq ct aM aG aE aN ci bJ r v H':=by
 obtain ⟨w0,s0,iT⟩:=h0
 subst lF
 unfold aS.pj7 at hp
 unfold aS.j7
 exact hC29 rfl ⟨w0,s0,iT⟩ hp
def aS.pj8 (F:Nat) (dX:Int->Int->Int->Bool->Int->Int->List Int->Int->Option (Int×Int×Bool)) (sN:Int) (sR:Int) (sS:Int) (sT:Bool) (xj:Int) (xk:Int) (ci:List Int) (sU:Int):Option (Int×Int×Bool):=aS.pj7 F dX sN sR sS sT xj xk ci sU
theorem aS.j8_P {F:Nat} {H0:Hp} {Ri R0:List Rs} {aB aq aF av ax ar ay az aJ aA:Int} {d_ cp cq ct:Sl} {aM:ON} {aG aE:Nat} {aN:Cap} {ci:List Int} {bJ:Bool} {C29_:Int->Int->Int->Bool->Nat->Nat->Int->Hp->OA} {dX:Int->Int->Int->Bool->Int->Int->List Int->Int->Option (Int×Int×Bool)} (hC29:aS.S29 H0 Ri R0 aB aq aF av ax ar ay az aJ aA d_ cp cq ct aM aG aE aN ci bJ C29_ dX) {sN sR sS xj xk sU:Int} {sT:Bool} {vP:Nat} {H:Hp} (lF:aG=ci.length) (h0:Out H0 Ri H (Rs.blk vP [.i xj,.i xk,.sl ⟨aM,aG,aN⟩] :: Rs.blk aE [.i aB,.i aq,.sl d_,.i aF,.i av,.sl cp,.i ax,.i ar,.sl ⟨aM,aG,aN⟩,.i ay,.i az,.sl cq,.i aJ,.i aA,.sl ct,.bool bJ] :: R0) λR=>ROs (ae .i64) H R ⟨aM,aG,aN⟩ ci) {r:Int×Int×Bool} (hp:aS.pj8 F dX sN sR sS sT xj xk ci sU=some r):∃ v H',aS.j8 F (bH.tw F) (ee.tw F) C29_ sN sR sS sT vP 0 sU H=some (v,H')/\aS.Q H0 Ri R0 aB aq aF av ax ar ay az aJ aA d_ cp cq ct aM aG aE aN ci bJ r v H':=by
 obtain ⟨w0,s0,iT⟩:=h0
 subst lF
 unfold aS.pj8 at hp
 unfold aS.j8
 exact aS.j7_P (@hC29) rfl ⟨w0,s0,iT⟩ hp
def aS.pl469 (F:Nat) (dX:Int->Int->Int->Bool->Int->Int->List Int->Int->Option (Int×Int×Bool)):Nat->Int->Int->Int->Bool->Int->Int->List Int->Int->Int->Option (Int×Int×Bool)
 | 0,_,_,_,_,_,_,_,_,_=>none
 | k+1,jQ,ku,kv,kw,pf,nq,ci,iB,iC=>(bif (decide (iC<nq)) then ((ix ci (IntKind.i64.wrap ((IntKind.i64.wrap (iB * nq))+iC))).bind λn2=>(ee.p F (gt ci n2)).bind λr3=>(bif (r3 != 0) then ((bif (!kw) then (aS.pl469 F dX k jQ iB iC true pf nq ci iB (IntKind.i64.wrap (iC+1))) else ((ix ci (IntKind.i64.wrap ((IntKind.i64.wrap (ku * nq))+kv))).bind λn7=>(ee.p F (gt ci n7)).bind λr8=>(bif (decide (r3<r8)) then (aS.pj9 F (aS.pl469 F dX k) jQ iB iC true pf nq ci iB iC) else (aS.pj9 F (aS.pl469 F dX k) jQ ku kv kw pf nq ci iB iC))))) else (aS.pl469 F dX k jQ ku kv kw pf nq ci iB (IntKind.i64.wrap (iC+1))))) else (aS.pj8 F dX jQ ku kv kw pf nq ci iB))
termination_by structural n=>n
theorem aS.l469_P {F:Nat} {H0:Hp} {Ri R0:List Rs} {aB aq aF av ax ar ay az aJ aA:Int} {d_ cp cq ct:Sl} {aM:ON} {aG aE:Nat} {aN:Cap} {ci:List Int} {bJ:Bool} {C29_:Int->Int->Int->Bool->Nat->Nat->Int->Hp->OA} {dX:Int->Int->Int->Bool->Int->Int->List Int->Int->Option (Int×Int×Bool)} (hC29:aS.S29 H0 Ri R0 aB aq aF av ax ar ay az aJ aA d_ cp cq ct aM aG aE aN ci bJ C29_ dX):∀ k,aS.S469 H0 Ri R0 aB aq aF av ax ar ay az aJ aA d_ cp cq ct aM aG aE aN ci bJ (aS.l469 F (bH.tw F) (ee.tw F) C29_ k) (aS.pl469 F dX k):=by
 intro k
 induction k with
 | zero=>unfold aS.S469;intros;rename_i hp;cases hp
 | succ k ih=>
  intro jQ ku kv pf nq iB iC kw ju H lF h0 r hp
  obtain ⟨w0,s0,iT⟩:=h0
  subst lF
  unfold aS.pl469 at hp
  unfold aS.l469
  refine ac (ah (w0.ld (i:=0) rfl rfl)) ?_
  refine aZ hp (λhp=>?_) λhp=>?_
  ·refine ac (ah (w0.ld (i:=0) rfl rfl)) ?_
   refine ac (ah (w0.ld (i:=0) rfl rfl)) ?_
   refine ac (aH (w0.ld (i:=0) rfl rfl)) ?_
   refine bH.inl ?_
   refine cJ w0 λH1 w1 s1=>?_
   refine ac (aH (w1.ld (i:=0) rfl rfl)) ?_
   refine ac (ah (w1.ld (i:=0) rfl rfl)) ?_
   obtain ⟨n2,g2,hp⟩:=ak hp
   obtain ⟨p2,q2,i2,h2,j2⟩:=ROs.ixr (iT.step s1) rfl g2
   refine ac i2 ?_
   refine ⟨_,_,rfl,?_⟩
   refine ac rfl ?_
   have h2:_=[_]:=h2
   subst h2
   refine ac (ah (j2 0 _ rfl)) ?_
   obtain ⟨r3,e3,hp⟩:=ak hp
   refine aW (ee.P ⟨w1,trivial⟩ e3) ?_
   rintro _ H4 ⟨rfl,w4,s4,_⟩
   refine ac rfl ?_
   refine aZ hp (λhp=>?_) λhp=>?_
   ·refine aZ hp (λhp=>?_) λhp=>?_
    ·obtain ⟨w5,s5⟩:=w4.pick' [1,2] 3 rfl rfl rfl
     exact ih rfl ⟨w5,(s0.trans (s1.trans (s4.trans s5))),(iT.step (s1.trans (s4.trans s5)))⟩ hp
    ·refine ac (ah (w4.ld (i:=1) rfl rfl)) ?_
     refine ac (ah (w4.ld (i:=1) rfl rfl)) ?_
     refine ac (aH (w4.ld (i:=1) rfl rfl)) ?_
     refine bH.inl ?_
     refine cJ w4 λH6 w6 s6=>?_
     refine ac (aH (w6.ld (i:=0) rfl rfl)) ?_
     refine ac (ah (w6.ld (i:=0) rfl rfl)) ?_
     obtain ⟨n7,g7,hp⟩:=ak hp
     obtain ⟨p7,q7,i7,h7,j7⟩:=ROs.ixr (iT.step (s1.trans (s4.trans s6))) rfl g7
     refine ac i7 ?_
     refine ⟨_,_,rfl,?_⟩
     refine ac rfl ?_
     have h7:_=[_]:=h7
     subst h7
     refine ac (ah (j7 0 _ rfl)) ?_
     obtain ⟨r8,e8,hp⟩:=ak hp
     refine aW (ee.P ⟨w6,trivial⟩ e8) ?_
     rintro _ H9 ⟨rfl,w9,s9,_⟩
     refine ac rfl ?_
     refine aZ hp (λhp=>?_) λhp=>?_
     ·obtain ⟨w10,s10⟩:=w9.pick' [2,3] 4 rfl rfl rfl
      exact aS.j9_P (@ih) rfl ⟨w10,(s0.trans (s1.trans (s4.trans (s6.trans (s9.trans s10))))),(iT.step (s1.trans (s4.trans (s6.trans (s9.trans s10)))))⟩ hp
     ·obtain ⟨w11,s11⟩:=w9.pick' [2,3] 4 rfl rfl rfl
      exact aS.j9_P (@ih) rfl ⟨w11,(s0.trans (s1.trans (s4.trans (s6.trans (s9.trans s11))))),(iT.step (s1.trans (s4.trans (s6.trans (s9.trans s11)))))⟩ hp
   ·obtain ⟨w12,s12⟩:=w4.pick' [1,2] 3 rfl rfl rfl
    exact ih rfl ⟨w12,(s0.trans (s1.trans (s4.trans s12))),(iT.step (s1.trans (s4.trans s12)))⟩ hp
  ·exact aS.j8_P (@hC29) rfl ⟨w0,s0,iT⟩ hp
def aS.pj5 (F:Nat)  (sF:Int) (sG:Int) (sH:Bool):Option (Int×Int×Bool):=some (sF,sG,sH)
theorem aS.j5_P {F:Nat} {H0:Hp} {Ri R0:List Rs} {aB aq aF av ax ar ay az aJ aA:Int} {d_ cp cq ct:Sl} {aM:ON} {aG aE:Nat} {aN:Cap} {ci:List Int} {bJ:Bool}  {sF sG:Int} {sH:Bool} {H:Hp} (lF:aG=ci.length) (h0:Out H0 Ri H (Rs.blk aE [.i aB,.i aq,.sl d_,.i aF,.i av,.sl cp,.i ax,.i ar,.sl ⟨aM,aG,aN⟩,.i ay,.i az,.sl cq,.i aJ,.i aA,.sl ct,.bool bJ] :: R0) λR=>ROs (ae .i64) H R ⟨aM,aG,aN⟩ ci) {r:Int×Int×Bool} (hp:aS.pj5 F  sF sG sH=some r):∃ v H',aS.j5 F (bH.tw F) (ee.tw F)  sF sG sH H=some (v,H')/\aS.Q H0 Ri R0 aB aq aF av ax ar ay az aJ aA d_ cp cq ct aM aG aE aN ci bJ r v H':=by
 obtain ⟨w0,s0,iT⟩:=h0
 subst lF
 unfold aS.pj5 at hp
 unfold aS.j5
 exact a_ hp ⟨rfl,w0,s0,trivial⟩
def aS.pl29 (F:Nat) :Nat->Int->Int->Int->Bool->Int->Int->List Int->Int->Option (Int×Int×Bool)
 | 0,_,_,_,_,_,_,_,_=>none
 | k+1,dH,fX,gB,lT,uc,uZ,ci,lU=>(bif (decide (lU<uc)) then (aS.pl469 F (aS.pl29 F k) F dH fX gB lT uc uZ ci lU dH) else (aS.pj5 F fX gB lT))
termination_by structural n=>n
theorem aS.l29_P {F:Nat} {H0:Hp} {Ri R0:List Rs} {aB aq aF av ax ar ay az aJ aA:Int} {d_ cp cq ct:Sl} {aM:ON} {aG aE:Nat} {aN:Cap} {ci:List Int} {bJ:Bool} :∀ k,aS.S29 H0 Ri R0 aB aq aF av ax ar ay az aJ aA d_ cp cq ct aM aG aE aN ci bJ (aS.l29 F (bH.tw F) (ee.tw F)  k) (aS.pl29 F  k):=by
 intro k
 induction k with
 | zero=>unfold aS.S29;intros;rename_i hp;cases hp
 | succ k ih=>
  intro dH fX gB uc uZ lU lT mR H lF h0 r hp
  obtain ⟨w0,s0,iT⟩:=h0
  subst lF
  unfold aS.pl29 at hp
  unfold aS.l29
  refine ac (ah (w0.ld (i:=0) rfl rfl)) ?_
  refine aZ hp (λhp=>?_) λhp=>?_
  ·exact aS.l469_P (@ih) F rfl ⟨w0,s0,iT⟩ hp
  ·obtain ⟨w1,s1⟩:=w0.pick' [1] 2 rfl rfl rfl
   exact aS.j5_P rfl ⟨w1,(s0.trans s1),(iT.step s1)⟩ hp
def aS.p (F:Nat) (aY:Int) (aV:Int) (dh:List Int) (ag:Int):Option (Int×Int×Bool):=aS.pl29 F F ag 0 0 false aY aV dh ag
theorem aS.P {F:Nat} {br aX bu bj aY aV bk bl bI bm ag:Int} {dY c_ da db:Sl} {cn:ON} {bL aa:Nat} {co:Cap} {dh:List Int} {aD:Bool} {H:Hp} {R0:List Rs} (kd:bL=dh.length) (h0:Inn H (Rs.blk aa [.i br,.i aX,.sl dY,.i bu,.i bj,.sl c_,.i aY,.i aV,.sl ⟨cn,bL,co⟩,.i bk,.i bl,.sl da,.i bI,.i bm,.sl db,.bool aD] :: R0) λR=>ROs (ae .i64) H R ⟨cn,bL,co⟩ dh) {r:Int×Int×Bool} (hp:aS.p F aY aV dh ag=some r):∃ v H',aS.tw F aa 0 ag H=some (v,H')/\aS.Q H (Rs.blk aa [.i br,.i aX,.sl dY,.i bu,.i bj,.sl c_,.i aY,.i aV,.sl ⟨cn,bL,co⟩,.i bk,.i bl,.sl da,.i bI,.i bm,.sl db,.bool aD] :: R0) R0 br aX bu bj aY aV bk bl bI bm dY c_ da db cn bL aa co dh aD r v H':=by
 obtain ⟨w0,jo⟩:=h0
 subst kd
 unfold aS.p at hp
 unfold aS.tw aS.twX
 have s0:=w0.rf
 refine ac (ah (w0.ld (i:=0) rfl rfl)) ?_
 refine ac (ah (w0.ld (i:=0) rfl rfl)) ?_
 refine ac (aH (w0.ld (i:=0) rfl rfl)) ?_
 refine cJ w0 λH1 w1 s1=>?_
 refine bt w1 (i:=0) rfl rfl rfl λH2 w2 s2=>?_
 refine bt w2 (i:=0) rfl rfl rfl λH3 w3 s3=>?_
 refine bt w3 (i:=0) rfl rfl rfl λH4 w4 s4=>?_
 dsimp only [pk,pks,nth,List.drop,List.set,List.eraseIdx] at w4 s2 s3 s4
 exact aS.l29_P F rfl ⟨w4,(s0.trans (s1.trans (s2.trans (s3.trans s4)))),(jo.step (s1.trans (s2.trans (s3.trans s4))))⟩ hp
def cU.Q (H0:Hp) (Ri R0:List Rs) (eK:ON) (dM:Nat) (eL:Cap) (jw:Bool) (jx jy:List AV) (r:List Int) (v:AV) (H':Hp):Prop:=∃ nB:List AV,v=(.tup [])/\dM=(r).length/\Out H0 Ri H' (Rs.ow jw ⟨eK,dM,eL⟩ (ae .i64).z jx nB jy :: R0) λR=>CR (ae .i64) H' R nB (r)
def cU.S7 (H0:Hp) (Ri R0:List Rs) (jz:ON) (iM:Nat) (jA:Cap) (kW:Bool) (kX kY:List AV) (C:Int->Int->Nat->Nat->Int->Int->Hp->OA) (pC:Int->Int->Int->List Int->Int->Int->Option (List Int)):Prop:=∀ {gH gI u_ mr gJ fC:Int} {jF:List Int} {ry:List AV} {cY:Nat},∀ {H:Hp},iM=jF.length->(Out H0 Ri H (Rs.ow kW ⟨jz,iM,jA⟩ (ae .i64).z kX ry kY :: Rs.blk cY [.i u_,.i mr,.sl ⟨jz,iM,jA⟩] :: R0) λR=>CR (ae .i64) H R ry jF)->∀ {r:List Int},pC gH gI mr jF gJ fC=some r->∃ v H',C gH gI cY 0 gJ fC H=some (v,H')/\cU.Q H0 Ri R0 jz iM jA kW kX kY r v H'
def cU.pl7 (F:Nat) :Nat->Int->Int->Int->List Int->Int->Int->Option (List Int)
 | 0,_,_,_,_,_,_=>none
 | k+1,gH,gI,mr,jF,gJ,fC=>(bif (decide (fC<gJ)) then ((ix jF (IntKind.i64.wrap ((IntKind.i64.wrap (gH * mr))+fC))).bind λn2=>(ix jF (IntKind.i64.wrap ((IntKind.i64.wrap (gI * mr))+fC))).bind λn5=>(some (jF.set n2 (gt jF n5))).bind λl7=>(some (l7.set n5 (gt jF n2))).bind λl9=>cU.pl7 F k gH gI mr l9 gJ (IntKind.i64.wrap (fC+1))) else (some jF))
termination_by structural n=>n
theorem cU.l7_P {F:Nat} {H0:Hp} {Ri R0:List Rs} {jz:ON} {iM:Nat} {jA:Cap} {kW:Bool} {kX kY:List AV} :∀ k,cU.S7 H0 Ri R0 jz iM jA kW kX kY (cU.l7 F (bH.tw F)  k) (cU.pl7 F  k):=by
 intro k
 induction k with
 | zero=>unfold cU.S7;intros;rename_i hp;cases hp
 | succ k ih=>
  intro gH gI u_ mr gJ fC jF ry cY H AH h0 r hp
  obtain ⟨w0,s0,nH⟩:=h0
  subst AH
  unfold cU.pl7 at hp
  unfold cU.l7
  refine aZ hp (λhp=>?_) λhp=>?_
  ·refine ac (ah (w0.ld (i:=1) rfl rfl)) ?_
   refine ac (ah (w0.ld (i:=1) rfl rfl)) ?_
   refine ac (aH (w0.ld (i:=1) rfl rfl)) ?_
   refine bH.inl ?_
   refine cJ w0 λH1 w1 s1=>?_
   refine ac (aH (w1.ld (i:=0) rfl rfl)) ?_
   refine ac (ah (w1.ld (i:=0) rfl rfl)) ?_
   obtain ⟨n2,g2,hp⟩:=ak hp
   obtain ⟨p2,q2,i2,h2,j2⟩:=W.ixo (E:=(ae .i64)) w1 (i:=1) rfl rfl (nH.step s1) g2
   refine ac i2 ?_
   refine ⟨_,_,rfl,?_⟩
   refine ac rfl ?_
   refine fq (W.cons_of (Rn:=[_]) w0 w1 s1) ?_
   refine ac (ah (w1.ld (i:=2) rfl rfl)) ?_
   refine ac (ah (w1.ld (i:=2) rfl rfl)) ?_
   refine ac (aH (w1.ld (i:=2) rfl rfl)) ?_
   refine bH.inl ?_
   refine cJ w1 λH4 w4 s4=>?_
   refine ac (aH (w4.ld (i:=0) rfl rfl)) ?_
   refine ac (ah (w4.ld (i:=0) rfl rfl)) ?_
   obtain ⟨n5,g5,hp⟩:=ak hp
   obtain ⟨p5,q5,i5,h5,j5⟩:=W.ixo (E:=(ae .i64)) w4 (i:=2) rfl rfl (nH.step (s1.trans s4)) g5
   refine ac i5 ?_
   refine ⟨_,_,rfl,?_⟩
   refine ac rfl ?_
   have h5:_=[_]:=h5
   subst h5
   refine ac (ah (j5 0 _ rfl)) ?_
   obtain ⟨p6,q6,i6,h6,j6⟩:=W.ixo (E:=(ae .i64)) w4 (i:=2) rfl rfl (nH.step (s1.trans s4)) g2
   obtain rfl:=Option.some.inj (i2.symm.trans i6)
   have h6:_=[_]:=h6
   subst h6
   refine ac (ah (j6 0 _ rfl)) ?_
   obtain ⟨l7,e7,hp⟩:=ak hp
   refine jb (ae .i64) w4 (i:=2) (j:=0) (p:=p2) rfl rfl (nH.step (s1.trans s4)) g2 i2 e7 rfl rfl (λ_ h=>by have h:_=[_]:=h;subst h;exact rfl) λH8 k8 w8 s8 c8=>?_
   obtain ⟨l9,e9,hp⟩:=ak hp
   refine jb (ae .i64) w8 (i:=2) (j:=0) (p:=p5) rfl rfl c8 (qf g5 (gb e7)) i5 e9 rfl rfl (λ_ h=>by have h:_=[_]:=h;subst h;exact rfl) λH10 k10 w10 s10 c10=>?_
   obtain ⟨w11,s11⟩:=w10.pick' [2,3] 4 rfl rfl rfl
   dsimp only [pk,pks,nth,List.drop,List.set,List.eraseIdx] at w11 s8 c8 s10 c10 s11
   exact ih ((gb e7).symm.trans (gb e9).symm) ⟨w11,(s0.trans (s1.trans (s4.trans (s8.trans (s10.trans s11))))),(c10.step s11)⟩ hp
  ·obtain ⟨w12,s12⟩:=w0.pick' [0] 2 rfl rfl rfl
   exact a_ hp ⟨_,rfl,rfl,w12,(s0.trans s12),(nH.step s12)⟩
def cU.p (F:Nat) (af:Int) (dG:List Int) (aw:Int) (bN:Int):Option (List Int):=cU.pl7 F F aw bN af dG af 0
theorem cU.P {F:Nat} {aa af aw bN:Int} {eK:ON} {dM:Nat} {eL:Cap} {dG:List Int} {jw:Bool} {jx jy ml:List AV} {H:Hp} {R0:List Rs} (kb:dM=dG.length) (h0:Inn H (Rs.ow jw ⟨eK,dM,eL⟩ (ae .i64).z jx ml jy :: R0) λR=>CR (ae .i64) H R ml dG) {r:List Int} (hp:cU.p F af dG aw bN=some r):∃ v H',cU.tw F aa af ⟨eK,dM,eL⟩ aw bN H=some (v,H')/\cU.Q H (Rs.ow jw ⟨eK,dM,eL⟩ (ae .i64).z jx ml jy :: R0) R0 eK dM eL jw jx jy r v H':=by
 obtain ⟨w0,jv⟩:=h0
 subst kb
 unfold cU.p at hp
 unfold cU.tw cU.twX
 have s0:=w0.rf
 refine cJ w0 λH1 w1 s1=>?_
 refine ac (ah (w1.ld (i:=0) rfl rfl)) ?_
 obtain ⟨w2,s2⟩:=w1.pick' [1,0] 2 rfl rfl rfl
 exact cU.l7_P F rfl ⟨w2,(s0.trans (s1.trans s2)),(jv.step (s1.trans s2))⟩ hp
def cV.Q (H0:Hp) (Ri R0:List Rs) (eK:ON) (dM:Nat) (eL:Cap) (jw:Bool) (jx jy:List AV) (r:List Int) (v:AV) (H':Hp):Prop:=∃ nB:List AV,v=(.tup [])/\dM=(r).length/\Out H0 Ri H' (Rs.ow jw ⟨eK,dM,eL⟩ (ae .i64).z jx nB jy :: R0) λR=>CR (ae .i64) H' R nB (r)
def cV.S7 (H0:Hp) (Ri R0:List Rs) (jz:ON) (iM:Nat) (jA:Cap) (kW:Bool) (kX kY:List AV) (C:Int->Int->Nat->Nat->Int->Int->Hp->OA) (pC:Int->Int->Int->List Int->Int->Int->Option (List Int)):Prop:=∀ {gH gI u_ mr gJ fC:Int} {jF:List Int} {ry:List AV} {cY:Nat},∀ {H:Hp},iM=jF.length->(Out H0 Ri H (Rs.ow kW ⟨jz,iM,jA⟩ (ae .i64).z kX ry kY :: Rs.blk cY [.i u_,.i mr,.sl ⟨jz,iM,jA⟩] :: R0) λR=>CR (ae .i64) H R ry jF)->∀ {r:List Int},pC gH gI mr jF gJ fC=some r->∃ v H',C gH gI cY 0 gJ fC H=some (v,H')/\cV.Q H0 Ri R0 jz iM jA kW kX kY r v H'
def cV.pl7 (F:Nat) :Nat->Int->Int->Int->List Int->Int->Int->Option (List Int)
 | 0,_,_,_,_,_,_=>none
 | k+1,gH,gI,mr,jF,gJ,fC=>(bif (decide (fC<gJ)) then ((ix jF (IntKind.i64.wrap ((IntKind.i64.wrap (fC * mr))+gH))).bind λn2=>(ix jF (IntKind.i64.wrap ((IntKind.i64.wrap (fC * mr))+gI))).bind λn5=>(some (jF.set n2 (gt jF n5))).bind λl7=>(some (l7.set n5 (gt jF n2))).bind λl9=>cV.pl7 F k gH gI mr l9 gJ (IntKind.i64.wrap (fC+1))) else (some jF))
termination_by structural n=>n
theorem cV.l7_P {F:Nat} {H0:Hp} {Ri R0:List Rs} {jz:ON} {iM:Nat} {jA:Cap} {kW:Bool} {kX kY:List AV} :∀ k,cV.S7 H0 Ri R0 jz iM jA kW kX kY (cV.l7 F (bH.tw F)  k) (cV.pl7 F  k):=by
 intro k
 induction k with
 | zero=>unfold cV.S7;intros;rename_i hp;cases hp
 | succ k ih=>
  intro gH gI u_ mr gJ fC jF ry cY H AH h0 r hp
  obtain ⟨w0,s0,nH⟩:=h0
  subst AH
  unfold cV.pl7 at hp
  unfold cV.l7
  refine aZ hp (λhp=>?_) λhp=>?_
  ·refine ac (ah (w0.ld (i:=1) rfl rfl)) ?_
   refine ac (ah (w0.ld (i:=1) rfl rfl)) ?_
   refine ac (aH (w0.ld (i:=1) rfl rfl)) ?_
   refine bH.inl ?_
   refine cJ w0 λH1 w1 s1=>?_
   refine ac (aH (w1.ld (i:=0) rfl rfl)) ?_
   refine ac (ah (w1.ld (i:=0) rfl rfl)) ?_
   obtain ⟨n2,g2,hp⟩:=ak hp
   obtain ⟨p2,q2,i2,h2,j2⟩:=W.ixo (E:=(ae .i64)) w1 (i:=1) rfl rfl (nH.step s1) g2
   refine ac i2 ?_
   refine ⟨_,_,rfl,?_⟩
   refine ac rfl ?_
   refine fq (W.cons_of (Rn:=[_]) w0 w1 s1) ?_
   refine ac (ah (w1.ld (i:=2) rfl rfl)) ?_
   refine ac (ah (w1.ld (i:=2) rfl rfl)) ?_
   refine ac (aH (w1.ld (i:=2) rfl rfl)) ?_
   refine bH.inl ?_
   refine cJ w1 λH4 w4 s4=>?_
   refine ac (aH (w4.ld (i:=0) rfl rfl)) ?_
   refine ac (ah (w4.ld (i:=0) rfl rfl)) ?_
   obtain ⟨n5,g5,hp⟩:=ak hp
   obtain ⟨p5,q5,i5,h5,j5⟩:=W.ixo (E:=(ae .i64)) w4 (i:=2) rfl rfl (nH.step (s1.trans s4)) g5
   refine ac i5 ?_
   refine ⟨_,_,rfl,?_⟩
   refine ac rfl ?_
   have h5:_=[_]:=h5
   subst h5
   refine ac (ah (j5 0 _ rfl)) ?_
   obtain ⟨p6,q6,i6,h6,j6⟩:=W.ixo (E:=(ae .i64)) w4 (i:=2) rfl rfl (nH.step (s1.trans s4)) g2
   obtain rfl:=Option.some.inj (i2.symm.trans i6)
   have h6:_=[_]:=h6
   subst h6
   refine ac (ah (j6 0 _ rfl)) ?_
   obtain ⟨l7,e7,hp⟩:=ak hp
   refine jb (ae .i64) w4 (i:=2) (j:=0) (p:=p2) rfl rfl (nH.step (s1.trans s4)) g2 i2 e7 rfl rfl (λ_ h=>by have h:_=[_]:=h;subst h;exact rfl) λH8 k8 w8 s8 c8=>?_
   obtain ⟨l9,e9,hp⟩:=ak hp
   refine jb (ae .i64) w8 (i:=2) (j:=0) (p:=p5) rfl rfl c8 (qf g5 (gb e7)) i5 e9 rfl rfl (λ_ h=>by have h:_=[_]:=h;subst h;exact rfl) λH10 k10 w10 s10 c10=>?_
   obtain ⟨w11,s11⟩:=w10.pick' [2,3] 4 rfl rfl rfl
   dsimp only [pk,pks,nth,List.drop,List.set,List.eraseIdx] at w11 s8 c8 s10 c10 s11
   exact ih ((gb e7).symm.trans (gb e9).symm) ⟨w11,(s0.trans (s1.trans (s4.trans (s8.trans (s10.trans s11))))),(c10.step s11)⟩ hp
  ·obtain ⟨w12,s12⟩:=w0.pick' [0] 2 rfl rfl rfl
   exact a_ hp ⟨_,rfl,rfl,w12,(s0.trans s12),(nH.step s12)⟩
def cV.p (F:Nat) (aa:Int) (af:Int) (dG:List Int) (aw:Int) (bN:Int):Option (List Int):=cV.pl7 F F aw bN af dG aa 0
theorem cV.P {F:Nat} {aa af aw bN:Int} {eK:ON} {dM:Nat} {eL:Cap} {dG:List Int} {jw:Bool} {jx jy ml:List AV} {H:Hp} {R0:List Rs} (kb:dM=dG.length) (h0:Inn H (Rs.ow jw ⟨eK,dM,eL⟩ (ae .i64).z jx ml jy :: R0) λR=>CR (ae .i64) H R ml dG) {r:List Int} (hp:cV.p F aa af dG aw bN=some r):∃ v H',cV.tw F aa af ⟨eK,dM,eL⟩ aw bN H=some (v,H')/\cV.Q H (Rs.ow jw ⟨eK,dM,eL⟩ (ae .i64).z jx ml jy :: R0) R0 eK dM eL jw jx jy r v H':=by
 obtain ⟨w0,jv⟩:=h0
 subst kb
 unfold cV.p at hp
 unfold cV.tw cV.twX
 have s0:=w0.rf
 refine cJ w0 λH1 w1 s1=>?_
 refine ac (ah (w1.ld (i:=0) rfl rfl)) ?_
 obtain ⟨w2,s2⟩:=w1.pick' [1,0] 2 rfl rfl rfl
 exact cV.l7_P F rfl ⟨w2,(s0.trans (s1.trans s2)),(jv.step (s1.trans s2))⟩ hp
def eA.Q (H0:Hp) (Ri R0:List Rs)  (r:List Int) (v:AV) (H':Hp):Prop:=∃ o0a:ON,∃ o0n:Nat,∃ o0c:Cap,v=(.sl ⟨o0a,o0n,o0c⟩)/\o0n=(r).length/\Out H0 Ri H' (R0) λR=>ROs (ae .i64) H' R ⟨o0a,o0n,o0c⟩ (r)
def eA.p (F:Nat) (af:Int) (dG:List Int) (aw:Int):Option (List Int):=(cutf dG (IntKind.i64.wrap (aw * af)) (IntKind.i64.wrap ((IntKind.i64.wrap (aw+1)) * af))).bind λl2=>some l2
theorem eA.P {F:Nat} {aa af aw:Int} {eK:ON} {dM:Nat} {eL:Cap} {dG:List Int} {H:Hp} {R0:List Rs} (kb:dM=dG.length) (h0:Inn H R0 λR=>ROs (ae .i64) H R ⟨eK,dM,eL⟩ dG) {r:List Int} (hp:eA.p F af dG aw=some r):∃ v H',eA.tw F aa af ⟨eK,dM,eL⟩ aw H=some (v,H')/\eA.Q H R0 R0  r v H':=by
 obtain ⟨w0,jv⟩:=h0
 subst kb
 unfold eA.p at hp
 unfold eA.tw eA.twX
 have s0:=w0.rf
 refine cJ w0 λH1 w1 s1=>?_
 refine ac (aH (w1.ld (i:=0) rfl rfl)) ?_
 refine ac (ah (w1.ld (i:=0) rfl rfl)) ?_
 refine ac (ah (w1.ld (i:=0) rfl rfl)) ?_
 obtain ⟨l2,e2,hp⟩:=ak hp
 obtain ⟨a2,d2,h2,f2⟩:=ROs.cutf (jv.step s1) rfl e2
 refine ac h2 ?_
 obtain ⟨w3,s3⟩:=w1.pick' [] 1 rfl rfl rfl
 exact a_ hp ⟨_,_,_,rfl,rfl,w3,(s0.trans (s1.trans s3)),(f2.step s3)⟩
def bs.Q (H0:Hp) (Ri R0:List Rs) (br aX bu bj aY aV bk bl bI bm:Int) (cB dQ cn dR dS:ON) (bQ de bL df dg aa:Nat) (cC dT co dU dV:Cap) (eS fE eT fF fG aD:Bool) (eU eV fH fI eW eX fJ fK fL fM:List AV) (r:Bool×List Int×List Int×List Int×List Int×List Int) (v:AV) (H':Hp):Prop:=∃ jB:List AV,∃ kD:List AV,∃ jC:List AV,∃ kE:List AV,∃ kF:List AV,v=(.bool r.1)/\bQ=(r.2.1).length/\de=(r.2.2.1).length/\bL=(r.2.2.2.1).length/\df=(r.2.2.2.2.1).length/\dg=(r.2.2.2.2.2).length/\Out H0 Ri H' (Rs.ow eS ⟨cB,bQ,cC⟩ (ae .i64).z eU jB eV :: Rs.ow fE ⟨dQ,de,dT⟩ (ae .i64).z fH kD fI :: Rs.ow eT ⟨cn,bL,co⟩ (ae .i64).z eW jC eX :: Rs.ow fF ⟨dR,df,dU⟩ (ae .i64).z fJ kE fK :: Rs.ow fG ⟨dS,dg,dV⟩ (ae .i64).z fL kF fM :: Rs.blk aa [.i br,.i aX,.sl ⟨cB,bQ,cC⟩,.i bu,.i bj,.sl ⟨dQ,de,dT⟩,.i aY,.i aV,.sl ⟨cn,bL,co⟩,.i bk,.i bl,.sl ⟨dR,df,dU⟩,.i bI,.i bm,.sl ⟨dS,dg,dV⟩,.bool aD] :: R0) λR=>CR (ae .i64) H' R jB (r.2.1)/\CR (ae .i64) H' R kD (r.2.2.1)/\CR (ae .i64) H' R jC (r.2.2.2.1)/\CR (ae .i64) H' R kE (r.2.2.2.2.1)/\CR (ae .i64) H' R kF (r.2.2.2.2.2)
theorem bs.neg_l {F:Nat} {C:Nat->Nat->Int->Sl->Int->Int->Hp->OA} {y0 o:Nat} {y1:Int} {y94:Sl} {y95 y96:Int} {R:List Rs} {t:Bool} {pre rest:List AV} {s:Sl} {i lo n:Nat} {c:Cap} {H:Hp} {cells:List AV} {l:List Int}
  (ht:∀ z o,c≠.tip z o) (hd:s.ad=s.a) (w:W H R) (hi:R[i]?=some (.ow t s (ae .i64).z pre cells rest)) (cr:CR (ae .i64) H R cells l) (hb:lo+n<=l.length):∀ (k j:Nat),n - j<k->j<=n->l.length<4611686018427387904 ->
  ∃ H' cells',bs.l2095707 F (aS.tw F) (cU.tw F) (cV.tw F) (bH.tw F) (eA.tw F) C k y0 o y1 y94 y95 y96 ⟨s.a.map (λp=>(p.1,p.2+lo * 1)),n,c⟩ (n:Int) (j:Int) H=C y0 o y1 y94 y95 (IntKind.i64.wrap (y96+1)) H' /\
   W H' (R.set i (.ow t s (ae .i64).z pre cells' rest))/\Fr H R H' (R.set i (.ow t s (ae .i64).z pre cells' rest))/\CR (ae .i64) H' (R.set i (.ow t s (ae .i64).z pre cells' rest)) cells' (nN l (lo+j) (n - j)):=by
 intro k
 induction k generalizing H cells l R with
 | zero=>intro j h;exact absurd h (Nat.not_lt_zero _)
 | succ k ih=>
  intro j hk hj hlen
  unfold bs.l2095707
  by_cases c1:j<n
  ·have e1:decide ((j:Int)<(n:Int))=true:=decide_eq_true (by omega)
   have hsn:=w.own_n hi cr
   have hix:ix l ((lo:Int)+j)=some (lo+j):=by unfold ix;rw [if_pos ⟨by omega,by omega⟩];rfl
   obtain ⟨p,cs,g1,g2,g3⟩:=W.ixo (E:=ae .i64) (z:=1) w hi rfl cr hix
   have g2:cs=[_]:=g2
   subst g2
   have hv:Sl.idx ⟨s.a.map (λp=>(p.1,p.2+lo * 1)),n,c⟩ (j:Int) 1=some p:=by rw [Mp ht hd (by omega) (by omega) (by rw [hsn];omega)];exact g1
   have hset:∀ cells',(R.set i (.ow t s (ae .i64).z pre cells' rest))[i]?=some (.ow t s (ae .i64).z pre cells' rest):=λcells'=>List.getElem?_set_self (List.getElem?_eq_some_iff.1 hi).1
   obtain ⟨H',cells',h1,h2,h3,h4⟩:=W.sto (E:=ae .i64) (j:=0) (v:=.i (IntKind.i64.wrap (0 - gt l (lo+j)))) (x':=IntKind.i64.wrap (0 - gt l (lo+j))) w hi rfl cr (n:=lo+j) (k:=(lo:Int)+j) (by omega) (by omega) g1 (by decide) rfl (λ_ h=>by have h:_=[_]:=h;subst h;rfl)
   have hw:IntKind.i64.wrap ((j:Int)+1)=((j+1:Nat):Int):=by rw [cj (by omega) (by omega)];omega
   have hp0:H.ldI .i64 p.1 p.2=some (gt l (lo+j)):=ah (g3 0 _ rfl)
   have hst:H.st p.1 p.2 (.i (IntKind.i64.wrap (0 - gt l (lo+j))))=some H':=h1
   simp only [e1,cond_true,hv,Option.bind_some,hp0,hst,hw]
   obtain ⟨H2,cells2,q1,q2,q3,q4⟩:=ih h2 (hset _) h4 (by rw [List.length_set];exact hb) (j+1) (by omega) (by omega) (by rw [List.length_set];exact hlen)
   refine ⟨H2,cells2,q1,?_,?_,?_⟩
   ·rw [List.set_set] at q2;exact q2
   ·rw [List.set_set] at q3;exact h3.trans q3
   ·rw [List.set_set] at q4
    rw [show n - j=(n - (j+1))+1 by omega]
    exact q4
  ·have e1:decide ((j:Int)<(n:Int))=false:=decide_eq_false (by omega)
   simp only [e1,cond_false]
   have:n - j=0:=by omega
   refine ⟨H,cells,rfl,?_,?_,?_⟩
   all_goals
    have e:R.set i (.ow t s (ae .i64).z pre cells rest)=R:=by
     apply List.ext_getElem?
     intro j
     by_cases ej:i=j
     ·subst ej;rw [List.getElem?_set_self (List.getElem?_eq_some_iff.1 hi).1,hi]
     ·rw [List.getElem?_set_ne ej]
    rw [e]
   ·exact w
   ·exact Fr.refl _ _
   ·rw [this];exact cr
theorem bs.neg_k {F:Nat} {C:Nat->Nat->Int->Sl->Int->Int->Hp->OA} {y0 o:Nat} {y1:Int} {y94:Sl} {y95 y96:Int} {R:List Rs} {t:Bool} {pre rest:List AV} {s:Sl} {i:Nat} {c:Cap} {H:Hp} {cells:List AV} {l x:List Int} {a b:Int} {k:Nat} {Q:AV->Hp->Prop}
  (ht:∀ z o,c≠.tip z o) (hd:s.ad=s.a) (w:W H R) (hi:R[i]?=some (.ow t s (ae .i64).z pre cells rest)) (cr:CR (ae .i64) H R cells l) (hx:ms l a b=some x) (hk:l.length<k) (hl:l.length<=4294967296)
  (g:∀ H' cells',W H' (R.set i (.ow t s (ae .i64).z pre cells' rest))->Fr H R H' (R.set i (.ow t s (ae .i64).z pre cells' rest))->CR (ae .i64) H' (R.set i (.ow t s (ae .i64).z pre cells' rest)) cells' (nN l a.toNat x.length) ->
   ∃ v H'',C y0 o y1 y94 y95 (IntKind.i64.wrap (y96+1)) H'=some (v,H'')/\Q v H'') :
  ∃ v H'',bs.l2095707 F (aS.tw F) (cU.tw F) (cV.tw F) (bH.tw F) (eA.tw F) C k y0 o y1 y94 y95 y96 ⟨s.a.map (λp=>(p.1,p.2+a.toNat * (ae .i64).z)),x.length,c⟩ ((⟨s.a.map (λp=>(p.1,p.2+a.toNat * (ae .i64).z)),x.length,c⟩:Sl).n:Int) 0 H=some (v,H'')/\Q v H'':=by
 obtain ⟨h1,h2,h3⟩:=BV hx
 have hxl:x.length=b.toNat - a.toNat:=by rw [h2,List.length_drop,List.length_take];omega
 obtain ⟨H',cells',e,q1,q2,q3⟩:=bs.neg_l (F:=F) (C:=C) (y0:=y0) (o:=o) (y1:=y1) (y94:=y94) (y95:=y95) (y96:=y96) (c:=c) (lo:=a.toNat) (n:=x.length) ht hd w hi cr (by omega) k 0 (by omega) (Nat.zero_le _) (by omega)
 rw [Nat.add_zero,Nat.sub_zero] at q3
 obtain ⟨v,H'',g1,g2⟩:=g H' cells' q1 q2 q3
 exact ⟨v,H'',Eq.trans e g1,g2⟩
def bs.S32747 (H0:Hp) (Ri R0:List Rs) (aB aq aF av ax ar ay az aJ aA:Int) (aT bA aM bB bC:ON) (aI ba aG bc bf aE:Nat) (aU bD aN bE bF:Cap) (bS bT bU bV bW bJ:Bool) (bX bY bZ b_ ca cb ce cf cg ch:List AV) (C:Nat->Nat->Int->Int->Int->Hp->OA) (pC:List Int->Int->List Int->List Int->List Int->List Int->Int->Int->Int->Option (Bool×List Int×List Int×List Int×List Int×List Int)):Prop:=∀ {aK aO aL aP aQ:List Int} {cO cP cQ cR cS:List AV} {lq lV kx:Int},∀ {H:Hp},aI=aK.length->ba=aO.length->aG=aL.length->bc=aP.length->bf=aQ.length->(Out H0 Ri H (Rs.ow bS ⟨aT,aI,aU⟩ (ae .i64).z bX cO bY :: Rs.ow bT ⟨bA,ba,bD⟩ (ae .i64).z bZ cP b_ :: Rs.ow bU ⟨aM,aG,aN⟩ (ae .i64).z ca cQ cb :: Rs.ow bV ⟨bB,bc,bE⟩ (ae .i64).z ce cR cf :: Rs.ow bW ⟨bC,bf,bF⟩ (ae .i64).z cg cS ch :: Rs.blk aE [.i aB,.i aq,.sl ⟨aT,aI,aU⟩,.i aF,.i av,.sl ⟨bA,ba,bD⟩,.i ax,.i ar,.sl ⟨aM,aG,aN⟩,.i ay,.i az,.sl ⟨bB,bc,bE⟩,.i aJ,.i aA,.sl ⟨bC,bf,bF⟩,.bool bJ] :: R0) λR=>CR (ae .i64) H R cO aK/\CR (ae .i64) H R cP aO/\CR (ae .i64) H R cQ aL/\CR (ae .i64) H R cR aP/\CR (ae .i64) H R cS aQ)->∀ {r:Bool×List Int×List Int×List Int×List Int×List Int},pC aK av aO aL aP aQ lq lV kx=some r->∃ v H',C aE 0 lq lV kx H=some (v,H')/\bs.Q H0 Ri R0 aB aq aF av ax ar ay az aJ aA aT bA aM bB bC aI ba aG bc bf aE aU bD aN bE bF bS bT bU bV bW bJ bX bY bZ b_ ca cb ce cf cg ch r v H'
def bs.pl32747 (F:Nat) :Nat->List Int->Int->List Int->List Int->List Int->List Int->Int->Int->Int->Option (Bool×List Int×List Int×List Int×List Int×List Int)
 | 0,_,_,_,_,_,_,_,_,_=>none
 | k+1,aK,av,aO,aL,aP,aQ,lq,lV,kx=>(bif (decide (kx<lV)) then ((ix aO (IntKind.i64.wrap ((IntKind.i64.wrap (kx * av))+lq))).bind λn2=>(ix aO (IntKind.i64.wrap ((IntKind.i64.wrap (kx * av))+lq))).bind λn5=>(some (aO.set n2 (IntKind.i64.wrap (0 - (gt aO n5))))).bind λl6=>bs.pl32747 F k aK av l6 aL aP aQ lq lV (IntKind.i64.wrap (kx+1))) else (some (true,aK,aO,aL,aP,aQ)))
termination_by structural n=>n
theorem bs.l32747_P {F:Nat} {H0:Hp} {Ri R0:List Rs} {aB aq aF av ax ar ay az aJ aA:Int} {aT bA aM bB bC:ON} {aI ba aG bc bf aE:Nat} {aU bD aN bE bF:Cap} {bS bT bU bV bW bJ:Bool} {bX bY bZ b_ ca cb ce cf cg ch:List AV} :∀ k,bs.S32747 H0 Ri R0 aB aq aF av ax ar ay az aJ aA aT bA aM bB bC aI ba aG bc bf aE aU bD aN bE bF bS bT bU bV bW bJ bX bY bZ b_ ca cb ce cf cg ch (bs.l32747 F (aS.tw F) (cU.tw F) (cV.tw F) (bH.tw F) (eA.tw F)  k) (bs.pl32747 F  k):=by
 intro k
 induction k with
 | zero=>unfold bs.S32747;intros;rename_i hp;cases hp
 | succ k ih=>
  intro aK aO aL aP aQ cO cP cQ cR cS lq lV kx H eY eZ e_ fa fb h0 r hp
  obtain ⟨w0,s0,cT,dp,cZ,dx,dy⟩:=h0
  subst eY
  subst eZ
  subst e_
  subst fa
  subst fb
  unfold bs.pl32747 at hp
  unfold bs.l32747
  refine aZ hp (λhp=>?_) λhp=>?_
  ·refine ac (ah (w0.ld (i:=5) rfl rfl)) ?_
   refine ac (ah (w0.ld (i:=5) rfl rfl)) ?_
   refine ac (aH (w0.ld (i:=5) rfl rfl)) ?_
   refine bH.inl ?_
   refine cJ w0 λH1 w1 s1=>?_
   refine ac (aH (w1.ld (i:=0) rfl rfl)) ?_
   refine ac (ah (w1.ld (i:=0) rfl rfl)) ?_
   obtain ⟨n2,g2,hp⟩:=ak hp
   obtain ⟨p2,q2,i2,h2,j2⟩:=W.ixo (E:=(ae .i64)) w1 (i:=2) rfl rfl (dp.step s1) g2
   refine ac i2 ?_
   refine ⟨_,_,rfl,?_⟩
   refine ac rfl ?_
   refine fq (W.cons_of (Rn:=[_]) w0 w1 s1) ?_
   refine ac (ah (w1.ld (i:=6) rfl rfl)) ?_
   refine ac (ah (w1.ld (i:=6) rfl rfl)) ?_
   refine ac (aH (w1.ld (i:=6) rfl rfl)) ?_
   refine bH.inl ?_
   refine cJ w1 λH4 w4 s4=>?_
   refine ac (aH (w4.ld (i:=0) rfl rfl)) ?_
   refine ac (ah (w4.ld (i:=0) rfl rfl)) ?_
   obtain ⟨n5,g5,hp⟩:=ak hp
   obtain ⟨p5,q5,i5,h5,j5⟩:=W.ixo (E:=(ae .i64)) w4 (i:=3) rfl rfl (dp.step (s1.trans s4)) g5
   refine ac i5 ?_
   refine ⟨_,_,rfl,?_⟩
   refine ac rfl ?_
   have h5:_=[_]:=h5
   subst h5
   refine ac (ah (j5 0 _ rfl)) ?_
   obtain ⟨l6,e6,hp⟩:=ak hp
   refine jb (ae .i64) w4 (i:=3) (j:=0) (p:=p2) rfl rfl (dp.step (s1.trans s4)) g2 i2 e6 rfl rfl (λ_ h=>by have h:_=[_]:=h;subst h;exact rfl) λH7 k7 w7 s7 c7=>?_
   obtain ⟨w8,s8⟩:=w7.pick' [2,3,4,5,6,7] 8 rfl rfl rfl
   exact ih rfl ((gb e6).symm) rfl rfl rfl ⟨w8,(s0.trans (s1.trans (s4.trans (s7.trans s8)))),(cT.step (s1.trans (s4.trans (s7.trans s8)))),(c7.step s8),(cZ.step (s1.trans (s4.trans (s7.trans s8)))),(dx.step (s1.trans (s4.trans (s7.trans s8)))),(dy.step (s1.trans (s4.trans (s7.trans s8))))⟩ hp
  ·exact a_ hp ⟨_,_,_,_,_,rfl,rfl,rfl,rfl,rfl,rfl,w0,s0,cT,dp,cZ,dx,dy⟩
def bs.pj3 (F:Nat)  (aK:List Int) (aF:Int) (av:Int) (aO:List Int) (aL:List Int) (aP:List Int) (aQ:List Int) (ta:Int):Option (Bool×List Int×List Int×List Int×List Int×List Int):=bs.pl32747 F F aK av aO aL aP aQ ta aF 0
theorem bs.j3_P {F:Nat} {H0:Hp} {Ri R0:List Rs} {aB aq aF av ax ar ay az aJ aA:Int} {aT bA aM bB bC:ON} {aI ba aG bc bf aE:Nat} {aU bD aN bE bF:Cap} {bS bT bU bV bW bJ:Bool} {bX bY bZ b_ ca cb ce cf cg ch:List AV}  {aK aO aL aP aQ:List Int} {cO cP cQ cR cS:List AV} {ta:Int} {H:Hp} (eY:aI=aK.length) (eZ:ba=aO.length) (e_:aG=aL.length) (fa:bc=aP.length) (fb:bf=aQ.length) (h0:Out H0 Ri H (Rs.ow bS ⟨aT,aI,aU⟩ (ae .i64).z bX cO bY :: Rs.ow bT ⟨bA,ba,bD⟩ (ae .i64).z bZ cP b_ :: Rs.ow bU ⟨aM,aG,aN⟩ (ae .i64).z ca cQ cb :: Rs.ow bV ⟨bB,bc,bE⟩ (ae .i64).z ce cR cf :: Rs.ow bW ⟨bC,bf,bF⟩ (ae .i64).z cg cS ch :: Rs.blk aE [.i aB,.i aq,.sl ⟨aT,aI,aU⟩,.i aF,.i av,.sl ⟨bA,ba,bD⟩,.i ax,.i ar,.sl ⟨aM,aG,aN⟩,.i ay,.i az,.sl ⟨bB,bc,bE⟩,.i aJ,.i aA,.sl ⟨bC,bf,bF⟩,.bool bJ] :: R0) λR=>CR (ae .i64) H R cO aK/\CR (ae .i64) H R cP aO/\CR (ae .i64) H R cQ aL/\CR (ae .i64) H R cR aP/\CR (ae .i64) H R cS aQ) {r:Bool×List Int×List Int×List Int×List Int×List Int} (hp:bs.pj3 F  aK aF av aO aL aP aQ ta=some r):∃ v H',bs.j3 F (aS.tw F) (cU.tw F) (cV.tw F) (bH.tw F) (eA.tw F)  aE 0 ta H=some (v,H')/\bs.Q H0 Ri R0 aB aq aF av ax ar ay az aJ aA aT bA aM bB bC aI ba aG bc bf aE aU bD aN bE bF bS bT bU bV bW bJ bX bY bZ b_ ca cb ce cf cg ch r v H':=by
 obtain ⟨w0,s0,cT,dp,cZ,dx,dy⟩:=h0
 subst eY
 subst eZ
 subst e_
 subst fa
 subst fb
 unfold bs.pj3 at hp
 unfold bs.j3
 refine ac (ah (w0.ld (i:=5) rfl rfl)) ?_
 exact bs.l32747_P F rfl rfl rfl rfl rfl ⟨w0,s0,cT,dp,cZ,dx,dy⟩ hp
def bs.p (F:Nat) (aX:Int) (dF:List Int) (bu:Int) (bj:Int) (fw:List Int) (aY:Int) (aV:Int) (dh:List Int) (bk:Int) (bl:Int) (fx:List Int) (bm:Int) (fy:List Int) (ag:Int):Option (Bool×List Int×List Int×List Int×List Int×List Int):=(aS.p F aY aV dh ag).bind λr3=>(bif (!r3.2.2) then (some (false,dF,fw,dh,fx,fy)) else ((cU.p F aV dh r3.1 ag).bind λr7=>(cU.p F aX dF r3.1 ag).bind λr10=>(cV.p F bu bj fw r3.1 ag).bind λr13=>(cV.p F aY aV r7 r3.2.1 ag).bind λr16=>(cV.p F bk bl fx r3.2.1 ag).bind λr19=>(cU.p F bm fy r3.2.1 ag).bind λr22=>(ix r16 (IntKind.i64.wrap ((IntKind.i64.wrap (ag * aV))+ag))).bind λn25=>(bif (decide ((gt r16 n25)<0)) then ((ms r16 (IntKind.i64.wrap (ag * aV)) (IntKind.i64.wrap ((IntKind.i64.wrap (ag+1)) * aV))).bind λx27=>(ms r10 (IntKind.i64.wrap (ag * aX)) (IntKind.i64.wrap ((IntKind.i64.wrap (ag+1)) * aX))).bind λx29=>(if r16.length+3<F/\r10.length+3<F/\r16.length+r10.length<=4294967296 then ((some (nN r16 ((IntKind.i64.wrap (ag * aV)):Int).toNat x27.length)).bind λl32=>(some (nN r10 ((IntKind.i64.wrap (ag * aX)):Int).toNat x29.length)).bind λl34=>bs.pj3 F l34 bu bj r13 l32 r19 r22 ag) else none)) else (some (true,r10,r13,r16,r19,r22)))))
theorem bs.P {F:Nat} {br aX bu bj aY aV bk bl bI bm ag:Int} {cB dQ cn dR dS:ON} {bQ de bL df dg aa:Nat} {cC dT co dU dV:Cap} {dF fw dh fx fy:List Int} {eS fE eT fF fG aD:Bool} {eU eV hK fH fI iN eW eX hN fJ fK iO fL fM iR:List AV} {H:Hp} {R0:List Rs} (kZ:bQ=dF.length) (mU:de=fw.length) (kd:bL=dh.length) (mV:df=fx.length) (mW:dg=fy.length) (h0:Inn H (Rs.ow eS ⟨cB,bQ,cC⟩ (ae .i64).z eU hK eV :: Rs.ow fE ⟨dQ,de,dT⟩ (ae .i64).z fH iN fI :: Rs.ow eT ⟨cn,bL,co⟩ (ae .i64).z eW hN eX :: Rs.ow fF ⟨dR,df,dU⟩ (ae .i64).z fJ iO fK :: Rs.ow fG ⟨dS,dg,dV⟩ (ae .i64).z fL iR fM :: Rs.blk aa [.i br,.i aX,.sl ⟨cB,bQ,cC⟩,.i bu,.i bj,.sl ⟨dQ,de,dT⟩,.i aY,.i aV,.sl ⟨cn,bL,co⟩,.i bk,.i bl,.sl ⟨dR,df,dU⟩,.i bI,.i bm,.sl ⟨dS,dg,dV⟩,.bool aD] :: R0) λR=>CR (ae .i64) H R hK dF/\CR (ae .i64) H R iN fw/\CR (ae .i64) H R hN dh/\CR (ae .i64) H R iO fx/\CR (ae .i64) H R iR fy) {r:Bool×List Int×List Int×List Int×List Int×List Int} (hp:bs.p F aX dF bu bj fw aY aV dh bk bl fx bm fy ag=some r):∃ v H',bs.tw F aa 0 ag H=some (v,H')/\bs.Q H (Rs.ow eS ⟨cB,bQ,cC⟩ (ae .i64).z eU hK eV :: Rs.ow fE ⟨dQ,de,dT⟩ (ae .i64).z fH iN fI :: Rs.ow eT ⟨cn,bL,co⟩ (ae .i64).z eW hN eX :: Rs.ow fF ⟨dR,df,dU⟩ (ae .i64).z fJ iO fK :: Rs.ow fG ⟨dS,dg,dV⟩ (ae .i64).z fL iR fM :: Rs.blk aa [.i br,.i aX,.sl ⟨cB,bQ,cC⟩,.i bu,.i bj,.sl ⟨dQ,de,dT⟩,.i aY,.i aV,.sl ⟨cn,bL,co⟩,.i bk,.i bl,.sl ⟨dR,df,dU⟩,.i bI,.i bm,.sl ⟨dS,dg,dV⟩,.bool aD] :: R0) R0 br aX bu bj aY aV bk bl bI bm cB dQ cn dR dS bQ de bL df dg aa cC dT co dU dV eS fE eT fF fG aD eU eV fH fI eW eX fJ fK fL fM r v H':=by
 obtain ⟨w0,jX,mm,jo,mn,mo⟩:=h0
 subst kZ
 subst mU
 subst kd
 subst mV
 subst mW
 unfold bs.p at hp
 unfold bs.tw bs.twX
 have s0:=w0.rf
 obtain ⟨w1,s1⟩:=w0.pick' [2,5,0,1,3,4] 6 rfl rfl rfl
 have f2:=W.borrow1 (ae .i64) w1 (jo.step s1)
 obtain ⟨w2,s2⟩:=w1.right1
 obtain ⟨r3,e3,hp⟩:=ak hp
 refine aW (aS.P rfl ⟨w2,f2⟩ e3) ?_
 rintro _ H4 ⟨rfl,w4,s4,_⟩
 obtain ⟨w5,s5⟩:=W.frame1 w1 w4 s4
 refine ac rfl ?_
 refine ac rfl ?_
 refine ac rfl ?_
 refine ac rfl ?_
 refine ac rfl ?_
 refine ac rfl ?_
 refine ac rfl ?_
 refine aZ hp (λhp=>?_) λhp=>?_
 ·obtain ⟨w6,s6⟩:=w5.pick' [2,3,0,4,5,1] 6 rfl rfl rfl
  exact a_ hp ⟨_,_,_,_,_,rfl,rfl,rfl,rfl,rfl,rfl,w6,(s0.trans (s1.trans (s5.trans s6))),(jX.step (s1.trans (s5.trans s6))),(mm.step (s1.trans (s5.trans s6))),(jo.step (s1.trans (s5.trans s6))),(mn.step (s1.trans (s5.trans s6))),(mo.step (s1.trans (s5.trans s6)))⟩
 ·refine ac (ah (w5.ld (i:=1) rfl rfl)) ?_
  refine ac (ah (w5.ld (i:=1) rfl rfl)) ?_
  refine ac (aH (w5.ld (i:=1) rfl rfl)) ?_
  obtain ⟨r7,e7,hp⟩:=ak hp
  refine aW (cU.P rfl ⟨w5,(jo.step (s1.trans s5))⟩ e7) ?_
  rintro _ H8 ⟨IU,rfl,hl8_0,w8,s8,f8_0⟩
  refine ac (ah (w8.ld (i:=1) rfl rfl)) ?_
  refine ac (ah (w8.ld (i:=1) rfl rfl)) ?_
  refine ac (aH (w8.ld (i:=1) rfl rfl)) ?_
  obtain ⟨w9,s9⟩:=w8.pick' [2,0,1,3,4,5] 6 rfl rfl rfl
  obtain ⟨r10,e10,hp⟩:=ak hp
  refine aW (cU.P rfl ⟨w9,(jX.step (s1.trans (s5.trans (s8.trans s9))))⟩ e10) ?_
  rintro _ H11 ⟨IV,rfl,hl11_0,w11,s11,f11_0⟩
  refine ac (ah (w11.ld (i:=2) rfl rfl)) ?_
  refine ac (ah (w11.ld (i:=2) rfl rfl)) ?_
  refine ac (aH (w11.ld (i:=2) rfl rfl)) ?_
  obtain ⟨w12,s12⟩:=w11.pick' [3,0,1,2,4,5] 6 rfl rfl rfl
  dsimp only [pk,pks,nth,List.drop,List.set,List.eraseIdx] at w12 s1 s9 s12
  obtain ⟨r13,e13,hp⟩:=ak hp
  refine aW (cV.P rfl ⟨w12,(mm.step (s1.trans (s5.trans (s8.trans (s9.trans (s11.trans s12))))))⟩ e13) ?_
  rintro _ H14 ⟨IW,rfl,hl14_0,w14,s14,f14_0⟩
  refine ac (ah (w14.ld (i:=3) rfl rfl)) ?_
  refine ac (ah (w14.ld (i:=3) rfl rfl)) ?_
  refine ac (aH (w14.ld (i:=3) rfl rfl)) ?_
  obtain ⟨w15,s15⟩:=w14.pick' [2,0,1,3,4,5] 6 rfl rfl rfl
  obtain ⟨r16,e16,hp⟩:=ak hp
  refine aW (cV.P hl8_0 ⟨w15,(f8_0.step (s9.trans (s11.trans (s12.trans (s14.trans s15)))))⟩ e16) ?_
  rintro _ H17 ⟨IX,rfl,hl17_0,w17,s17,f17_0⟩
  refine ac (ah (w17.ld (i:=3) rfl rfl)) ?_
  refine ac (ah (w17.ld (i:=3) rfl rfl)) ?_
  refine ac (aH (w17.ld (i:=3) rfl rfl)) ?_
  obtain ⟨w18,s18⟩:=w17.pick' [4,0,1,2,3,5] 6 rfl rfl rfl
  obtain ⟨r19,e19,hp⟩:=ak hp
  refine aW (cV.P rfl ⟨w18,(mn.step (s1.trans (s5.trans (s8.trans (s9.trans (s11.trans (s12.trans (s14.trans (s15.trans (s17.trans s18))))))))))⟩ e19) ?_
  rintro _ H20 ⟨NP,rfl,hl20_0,w20,s20,f20_0⟩
  refine ac (ah (w20.ld (i:=4) rfl rfl)) ?_
  refine ac (ah (w20.ld (i:=4) rfl rfl)) ?_
  refine ac (aH (w20.ld (i:=4) rfl rfl)) ?_
  obtain ⟨w21,s21⟩:=w20.pick' [5,0,1,2,3,4] 6 rfl rfl rfl
  dsimp only [pk,pks,nth,List.drop,List.set,List.eraseIdx] at w21 s15 s18 s21
  obtain ⟨r22,e22,hp⟩:=ak hp
  refine aW (cU.P rfl ⟨w21,(mo.step (s1.trans (s5.trans (s8.trans (s9.trans (s11.trans (s12.trans (s14.trans (s15.trans (s17.trans (s18.trans (s20.trans s21))))))))))))⟩ e22) ?_
  rintro _ H23 ⟨NQ,rfl,hl23_0,w23,s23,f23_0⟩
  refine ac (ah (w23.ld (i:=5) rfl rfl)) ?_
  refine ac (ah (w23.ld (i:=5) rfl rfl)) ?_
  refine ac (aH (w23.ld (i:=5) rfl rfl)) ?_
  refine bH.inl ?_
  refine cJ w23 λH24 w24 s24=>?_
  refine ac (aH (w24.ld (i:=0) rfl rfl)) ?_
  refine ac (ah (w24.ld (i:=0) rfl rfl)) ?_
  obtain ⟨n25,g25,hp⟩:=ak hp
  obtain ⟨p25,q25,i25,h25,j25⟩:=W.ixo (E:=(ae .i64)) w24 (i:=3) rfl rfl (f17_0.step (s18.trans (s20.trans (s21.trans (s23.trans s24))))) g25
  refine ac i25 ?_
  refine ⟨_,_,rfl,?_⟩
  refine ac rfl ?_
  have h25:_=[_]:=h25
  subst h25
  refine ac (ah (j25 0 _ rfl)) ?_
  refine aZ hp (λhp=>?_) λhp=>?_
  ·refine ac (ah (w24.ld (i:=6) rfl rfl)) ?_
   refine ac (ah (w24.ld (i:=6) rfl rfl)) ?_
   refine ac (aH (w24.ld (i:=6) rfl rfl)) ?_
   refine eA.inl ?_
   refine cJ w24 λH26 w26 s26=>?_
   refine ac (aH (w26.ld (i:=0) rfl rfl)) ?_
   refine ac (ah (w26.ld (i:=0) rfl rfl)) ?_
   refine ac (ah (w26.ld (i:=0) rfl rfl)) ?_
   obtain ⟨x27,e27,hp⟩:=ak hp
   obtain ⟨d27,h27,t27,u27⟩:=W.cutv (E:=(ae .i64)) w26 (i:=4) rfl (f17_0.step (s18.trans (s20.trans (s21.trans (s23.trans (s24.trans s26)))))) e27
   refine ac h27 ?_
   refine ⟨_,_,rfl,?_⟩
   refine ac rfl ?_
   refine fq (W.cons_of (Rn:=[_]) w24 w26 s26) ?_
   refine ac (ah (w26.ld (i:=7) rfl rfl)) ?_
   refine ac (ah (w26.ld (i:=7) rfl rfl)) ?_
   refine ac (aH (w26.ld (i:=7) rfl rfl)) ?_
   refine eA.inl ?_
   refine cJ w26 λH28 w28 s28=>?_
   refine ac (aH (w28.ld (i:=0) rfl rfl)) ?_
   refine ac (ah (w28.ld (i:=0) rfl rfl)) ?_
   refine ac (ah (w28.ld (i:=0) rfl rfl)) ?_
   obtain ⟨x29,e29,hp⟩:=ak hp
   obtain ⟨d29,h29,t29,u29⟩:=W.cutv (E:=(ae .i64)) w28 (i:=7) rfl (f11_0.step (s12.trans (s14.trans (s15.trans (s17.trans (s18.trans (s20.trans (s21.trans (s23.trans (s24.trans (s26.trans s28))))))))))) e29
   refine ac h29 ?_
   refine ⟨_,_,rfl,?_⟩
   refine ac rfl ?_
   refine cJ w28 λH30 w30 s30=>?_
   obtain ⟨⟨hF,hl6,hl0⟩,hp⟩:=nu hp
   obtain ⟨k,rfl⟩:∃ k,F=k+3:=⟨F - 3,by omega⟩
   unfold bs.l32745
   refine xO (λ_=>?_) (λhb=>absurd (show decide ((0:Int)<((2:Nat):Int))=false from hb) (by decide))
   refine ac (show _=some (_,_) from rfl) ?_
   refine ac (aH (w30.ld (i:=0) rfl rfl)) ?_
   refine bs.neg_k (i:=6) t27 u27 w30 rfl (f17_0.step (s18.trans (s20.trans (s21.trans (s23.trans (s24.trans (s26.trans (s28.trans s30)))))))) e27 (by omega) (by omega) λH31 k31 w31 s31 c31=>?_
   dsimp only [List.set] at w31 s31 c31
   obtain ⟨l32,e32,hp⟩:=ak hp
   obtain rfl:=Option.some.inj e32
   unfold bs.l32745
   refine xO (λ_=>?_) (λhb=>absurd (show decide ((IntKind.i64.wrap (0+1))<((2:Nat):Int))=false from hb) (by decide))
   refine ac (show _=some (_,_) from rfl) ?_
   refine ac (aH (w31.ld (i:=0) rfl rfl)) ?_
   refine bs.neg_k (i:=8) t29 u29 w31 rfl (f11_0.step (s12.trans (s14.trans (s15.trans (s17.trans (s18.trans (s20.trans (s21.trans (s23.trans (s24.trans (s26.trans (s28.trans (s30.trans s31))))))))))))) e29 (by omega) (by omega) λH33 k33 w33 s33 c33=>?_
   dsimp only [List.set] at w33 s33 c33
   obtain ⟨l34,e34,hp⟩:=ak hp
   obtain rfl:=Option.some.inj e34
   unfold bs.l32745
   refine xO (λhb=>absurd (show decide (IntKind.i64.wrap (IntKind.i64.wrap (0+1)+1)<((2:Nat):Int))=true from hb) (by decide)) (λ_=>?_)
   obtain ⟨w35,s35⟩:=w33.pick' [8,7,6,5,4,9] 10 rfl rfl rfl
   exact bs.j3_P (hl11_0.trans (Gx _ _ _).symm) hl14_0 (hl17_0.trans (Gx _ _ _).symm) hl20_0 hl23_0 ⟨w35,(s0.trans (s1.trans (s5.trans (s8.trans (s9.trans (s11.trans (s12.trans (s14.trans (s15.trans (s17.trans (s18.trans (s20.trans (s21.trans (s23.trans (s24.trans (s26.trans (s28.trans (s30.trans (s31.trans (s33.trans s35)))))))))))))))))))),(c33.step s35),(f14_0.step (s15.trans (s17.trans (s18.trans (s20.trans (s21.trans (s23.trans (s24.trans (s26.trans (s28.trans (s30.trans (s31.trans (s33.trans s35))))))))))))),(c31.step (s33.trans s35)),(f20_0.step (s21.trans (s23.trans (s24.trans (s26.trans (s28.trans (s30.trans (s31.trans (s33.trans s35))))))))),(f23_0.step (s24.trans (s26.trans (s28.trans (s30.trans (s31.trans (s33.trans s35)))))))⟩ hp
  ·obtain ⟨w36,s36⟩:=w24.pick' [5,4,3,2,1,6] 7 rfl rfl rfl
   exact a_ hp ⟨_,_,_,_,_,rfl,hl11_0,hl14_0,hl17_0,hl20_0,hl23_0,w36,(s0.trans (s1.trans (s5.trans (s8.trans (s9.trans (s11.trans (s12.trans (s14.trans (s15.trans (s17.trans (s18.trans (s20.trans (s21.trans (s23.trans (s24.trans s36))))))))))))))),(f11_0.step (s12.trans (s14.trans (s15.trans (s17.trans (s18.trans (s20.trans (s21.trans (s23.trans (s24.trans s36)))))))))),(f14_0.step (s15.trans (s17.trans (s18.trans (s20.trans (s21.trans (s23.trans (s24.trans s36)))))))),(f17_0.step (s18.trans (s20.trans (s21.trans (s23.trans (s24.trans s36)))))),(f20_0.step (s21.trans (s23.trans (s24.trans s36)))),(f23_0.step (s24.trans s36))⟩
def gu.Q (H0:Hp) (Ri R0:List Rs)  (r:Int) (v:AV) (H':Hp):Prop:=v=(.i r)/\Out H0 Ri H' (R0) λR=>True
def gu.p (F:Nat) (aa:Int) (au:Int):Option (Int):=(if au=0 then none else ((if au=0 then none else ((bif (decide ((Int.tmod aa au)<0)) then (some (IntKind.i64.wrap ((IntKind.i64.wrap (Int.tdiv aa au)) - 1))) else (some (IntKind.i64.wrap (Int.tdiv aa au))))))))
theorem gu.P {F:Nat} {aa au:Int} {H:Hp} {R0:List Rs}  (h0:Inn H R0 λR=>True) {r:Int} (hp:gu.p F aa au=some r):∃ v H',gu.tw F aa au H=some (v,H')/\gu.Q H R0 R0  r v H':=by
 obtain ⟨w0,_⟩:=h0
 unfold gu.p at hp
 unfold gu.tw gu.twX
 have s0:=w0.rf
 obtain ⟨g1,hp⟩:=oh hp
 refine ol g1 ?_
 obtain ⟨g2,hp⟩:=oh hp
 refine ol g2 ?_
 refine aZ hp (λhp=>?_) λhp=>?_
 ·exact a_ hp ⟨rfl,w0,s0,trivial⟩
 ·exact a_ hp ⟨rfl,w0,s0,trivial⟩
def gD.Q (H0:Hp) (Ri R0:List Rs)  (r:Int×Bool) (v:AV) (H':Hp):Prop:=v=(.tup [(.i r.1),(.bool r.2)])/\Out H0 Ri H' (R0) λR=>True
def gD.p (F:Nat) (aa:Int) (au:Int) (dA:Int):Option (Int×Bool):=(bif (aa != 0) then ((ee.p F au).bind λr1=>(ee.p F aa).bind λr3=>(if r3=0 then none else ((bif (decide (r1>(IntKind.i64.wrap (Int.tdiv dA r3)))) then (some (0,false)) else (some ((IntKind.i64.wrap (aa * au)),true)))))) else (some ((IntKind.i64.wrap (aa * au)),true)))
theorem gD.P {F:Nat} {aa au dA:Int} {H:Hp} {R0:List Rs}  (h0:Inn H R0 λR=>True) {r:Int×Bool} (hp:gD.p F aa au dA=some r):∃ v H',gD.tw F aa au dA H=some (v,H')/\gD.Q H R0 R0  r v H':=by
 obtain ⟨w0,_⟩:=h0
 unfold gD.p at hp
 unfold gD.tw gD.twX
 have s0:=w0.rf
 refine aZ hp (λhp=>?_) λhp=>?_
 ·obtain ⟨r1,e1,hp⟩:=ak hp
  refine aW (ee.P ⟨w0,trivial⟩ e1) ?_
  rintro _ H2 ⟨rfl,w2,s2,_⟩
  refine ac rfl ?_
  obtain ⟨r3,e3,hp⟩:=ak hp
  refine aW (ee.P ⟨w2,trivial⟩ e3) ?_
  rintro _ H4 ⟨rfl,w4,s4,_⟩
  refine ac rfl ?_
  obtain ⟨g5,hp⟩:=oh hp
  refine ol g5 ?_
  refine aZ hp (λhp=>?_) λhp=>?_
  ·exact a_ hp ⟨rfl,w4,(s0.trans (s2.trans s4)),trivial⟩
  ·exact a_ hp ⟨rfl,w4,(s0.trans (s2.trans s4)),trivial⟩
 ·exact a_ hp ⟨rfl,w0,s0,trivial⟩
def gi.Q (H0:Hp) (Ri R0:List Rs) (br aX bu bj aY aV bk bl bI bm:Int) (dY c_ et da db:Sl) (aa ag:Nat) (r:Bool×Int) (v:AV) (H':Hp):Prop:=v=(.tup [])/\Out H0 Ri H' (Rs.blk aa [.i br,.i aX,.sl dY,.i bu,.i bj,.sl c_,.i aY,.i aV,.sl et,.i bk,.i bl,.sl da,.i bI,.i bm,.sl db,.bool (r.1)] :: Rs.blk ag [.i (r.2)] :: R0) λR=>True
def gi.p (F:Nat) (aD:Bool) (ud:Int) (bN:Int) (lW:Int):Option (Bool×Int):=(gD.p F bN lW 2000000000000).bind λr1=>(bif (!r1.2) then (some (true,0)) else ((ee.p F (IntKind.i64.wrap (ud+r1.1))).bind λr6=>(bif (decide (r6>1000000000000)) then (some (true,0)) else (some (aD,(IntKind.i64.wrap (ud+r1.1)))))))
theorem gi.P {F:Nat} {br aX bu bj aY aV bk bl bI bm ud bN lW:Int} {dY c_ et da db:Sl} {aD:Bool} {aa ag:Nat} {H:Hp} {R0:List Rs}  (h0:Inn H (Rs.blk aa [.i br,.i aX,.sl dY,.i bu,.i bj,.sl c_,.i aY,.i aV,.sl et,.i bk,.i bl,.sl da,.i bI,.i bm,.sl db,.bool aD] :: Rs.blk ag [.i ud] :: R0) λR=>True) {r:Bool×Int} (hp:gi.p F aD ud bN lW=some r):∃ v H',gi.tw F aa 0 ag 0 bN lW H=some (v,H')/\gi.Q H (Rs.blk aa [.i br,.i aX,.sl dY,.i bu,.i bj,.sl c_,.i aY,.i aV,.sl et,.i bk,.i bl,.sl da,.i bI,.i bm,.sl db,.bool aD] :: Rs.blk ag [.i ud] :: R0) R0 br aX bu bj aY aV bk bl bI bm dY c_ et da db aa ag r v H':=by
 obtain ⟨w0,_⟩:=h0
 unfold gi.p at hp
 unfold gi.tw gi.twX
 have s0:=w0.rf
 obtain ⟨r1,e1,hp⟩:=ak hp
 refine aW (gD.P ⟨w0,trivial⟩ e1) ?_
 rintro _ H2 ⟨rfl,w2,s2,_⟩
 refine ac rfl ?_
 refine ac rfl ?_
 refine ac rfl ?_
 refine ac rfl ?_
 refine ac rfl ?_
 refine ac (ah (w2.ld (i:=1) rfl rfl)) ?_
 refine bt w2 (i:=1) rfl rfl rfl λH3 w3 s3=>?_
 refine aZ hp (λhp=>?_) λhp=>?_
 ·refine bt w3 (i:=0) rfl rfl rfl λH4 w4 s4=>?_
  refine bt w4 (i:=1) rfl rfl rfl λH5 w5 s5=>?_
  dsimp only [pk,pks,nth,List.drop,List.set,List.eraseIdx] at w5 s3 s4 s5
  exact a_ hp ⟨rfl,w5,(s0.trans (s2.trans (s3.trans (s4.trans s5)))),trivial⟩
 ·refine ac (ah (w3.ld (i:=1) rfl rfl)) ?_
  obtain ⟨r6,e6,hp⟩:=ak hp
  refine aW (ee.P ⟨w3,trivial⟩ e6) ?_
  rintro _ H7 ⟨rfl,w7,s7,_⟩
  refine ac rfl ?_
  refine aZ hp (λhp=>?_) λhp=>?_
  ·refine bt w7 (i:=0) rfl rfl rfl λH8 w8 s8=>?_
   refine bt w8 (i:=1) rfl rfl rfl λH9 w9 s9=>?_
   dsimp only [pk,pks,nth,List.drop,List.set,List.eraseIdx] at w9 s3 s8 s9
   exact a_ hp ⟨rfl,w9,(s0.trans (s2.trans (s3.trans (s7.trans (s8.trans s9))))),trivial⟩
  ·exact a_ hp ⟨rfl,w7,(s0.trans (s2.trans (s3.trans s7))),trivial⟩
def cM.Q (H0:Hp) (Ri R0:List Rs) (br aX bu bj aY aV bk bl bI bm:Int) (dY c_ et da db:Sl) (aa fo:Nat) (gE:ON) (gF:Cap) (iu:Bool) (iv iw:List AV) (r:Bool×List Int) (v:AV) (H':Hp):Prop:=∃ mJ:List AV,v=(.tup [])/\fo=(r.2).length/\Out H0 Ri H' (Rs.blk aa [.i br,.i aX,.sl dY,.i bu,.i bj,.sl c_,.i aY,.i aV,.sl et,.i bk,.i bl,.sl da,.i bI,.i bm,.sl db,.bool (r.1)] :: Rs.ow iu ⟨gE,fo,gF⟩ (ae .i64).z iv mJ iw :: R0) λR=>CR (ae .i64) H' R mJ (r.2)
def cM.S7 (H0:Hp) (Ri R0:List Rs) (aB aq aF av ax ar ay az aJ aA:Int) (d_ cp eC cq ct:Sl) (aE iS:Nat) (jD:ON) (jE:Cap) (la:Bool) (lb lc:List AV) (C:Nat->Nat->Int->Int->Int->Nat->Nat->Int->Int->Hp->OA) (pC:Bool->Int->Int->Int->Int->List Int->Int->Int->Option (Bool×List Int)):Prop:=∀ {aD:Bool} {dj eJ eb va lg gj fi:Int} {jG:List Int} {rz:List AV} {dk:Nat},∀ {H:Hp},iS=jG.length->(Out H0 Ri H (Rs.blk aE [.i aB,.i aq,.sl d_,.i aF,.i av,.sl cp,.i ax,.i ar,.sl eC,.i ay,.i az,.sl cq,.i aJ,.i aA,.sl ct,.bool aD] :: Rs.ow la ⟨jD,iS,jE⟩ (ae .i64).z lb rz lc :: Rs.blk dk [.i va,.i lg,.sl ⟨jD,iS,jE⟩] :: R0) λR=>CR (ae .i64) H R rz jG)->∀ {r:Bool×List Int},pC aD dj eJ eb lg jG gj fi=some r->∃ v H',C aE 0 dj eJ eb dk 0 gj fi H=some (v,H')/\cM.Q H0 Ri R0 aB aq aF av ax ar ay az aJ aA d_ cp eC cq ct aE iS jD jE la lb lc r v H'
def cM.pl7 (F:Nat) :Nat->Bool->Int->Int->Int->Int->List Int->Int->Int->Option (Bool×List Int)
 | 0,_,_,_,_,_,_,_,_=>none
 | k+1,aD,dj,eJ,eb,lg,jG,gj,fi=>(bif (decide (fi<gj)) then ((ix jG (IntKind.i64.wrap ((IntKind.i64.wrap (dj * lg))+fi))).bind λn2=>(ix jG (IntKind.i64.wrap ((IntKind.i64.wrap (eJ * lg))+fi))).bind λn5=>(gD.p F (gt jG n5) eb 2000000000000).bind λr6=>(some (jG.set n2 (IntKind.i64.wrap ((gt jG n2)+r6.1)))).bind λl9=>(bif (!r6.2) then ((some (l9.set n2 0)).bind λl12=>cM.pl7 F k true dj eJ eb lg l12 gj (IntKind.i64.wrap (fi+1))) else ((ee.p F (gt l9 n2)).bind λr16=>(bif (decide (r16>1000000000000)) then ((some (l9.set n2 0)).bind λl19=>cM.pl7 F k true dj eJ eb lg l19 gj (IntKind.i64.wrap (fi+1))) else (cM.pl7 F k aD dj eJ eb lg l9 gj (IntKind.i64.wrap (fi+1))))))) else (some (aD,jG)))
termination_by structural n=>n
theorem cM.l7_P {F:Nat} {H0:Hp} {Ri R0:List Rs} {aB aq aF av ax ar ay az aJ aA:Int} {d_ cp eC cq ct:Sl} {aE iS:Nat} {jD:ON} {jE:Cap} {la:Bool} {lb lc:List AV} :∀ k,cM.S7 H0 Ri R0 aB aq aF av ax ar ay az aJ aA d_ cp eC cq ct aE iS jD jE la lb lc (cM.l7 F (bH.tw F) (gi.tw F)  k) (cM.pl7 F  k):=by
 intro k
 induction k with
 | zero=>unfold cM.S7;intros;rename_i hp;cases hp
 | succ k ih=>
  intro aD dj eJ eb va lg gj fi jG rz dk H AI h0 r hp
  obtain ⟨w0,s0,nI⟩:=h0
  subst AI
  unfold cM.pl7 at hp
  unfold cM.l7
  refine aZ hp (λhp=>?_) λhp=>?_
  ·refine ac (ah (w0.ld (i:=2) rfl rfl)) ?_
   refine ac (ah (w0.ld (i:=2) rfl rfl)) ?_
   refine ac (aH (w0.ld (i:=2) rfl rfl)) ?_
   refine bH.inl ?_
   refine cJ w0 λH1 w1 s1=>?_
   refine ac (aH (w1.ld (i:=0) rfl rfl)) ?_
   refine ac (ah (w1.ld (i:=0) rfl rfl)) ?_
   obtain ⟨n2,g2,hp⟩:=ak hp
   obtain ⟨p2,q2,i2,h2,j2⟩:=W.ixo (E:=(ae .i64)) w1 (i:=2) rfl rfl (nI.step s1) g2
   refine ac i2 ?_
   refine ⟨_,_,rfl,?_⟩
   refine ac rfl ?_
   refine fq (W.cons_of (Rn:=[_]) w0 w1 s1) ?_
   refine ac (ah (w1.ld (i:=3) rfl rfl)) ?_
   refine ac (ah (w1.ld (i:=3) rfl rfl)) ?_
   refine ac (aH (w1.ld (i:=3) rfl rfl)) ?_
   refine bH.inl ?_
   refine cJ w1 λH4 w4 s4=>?_
   refine ac (aH (w4.ld (i:=0) rfl rfl)) ?_
   refine ac (ah (w4.ld (i:=0) rfl rfl)) ?_
   obtain ⟨n5,g5,hp⟩:=ak hp
   obtain ⟨p5,q5,i5,h5,j5⟩:=W.ixo (E:=(ae .i64)) w4 (i:=3) rfl rfl (nI.step (s1.trans s4)) g5
   refine ac i5 ?_
   refine ⟨_,_,rfl,?_⟩
   refine ac rfl ?_
   have h5:_=[_]:=h5
   subst h5
   refine ac (ah (j5 0 _ rfl)) ?_
   refine gi.inl ?_
   obtain ⟨r6,e6,hp⟩:=ak hp
   refine aW (gD.P ⟨w4,trivial⟩ e6) ?_
   rintro _ H7 ⟨rfl,w7,s7,_⟩
   refine ac rfl ?_
   refine ac rfl ?_
   refine ac rfl ?_
   refine ac rfl ?_
   refine ac rfl ?_
   obtain ⟨p8,q8,i8,h8,j8⟩:=W.ixo (E:=(ae .i64)) w7 (i:=3) rfl rfl (nI.step (s1.trans (s4.trans s7))) g2
   obtain rfl:=Option.some.inj (i2.symm.trans i8)
   have h8:_=[_]:=h8
   subst h8
   refine ac (ah (j8 0 _ rfl)) ?_
   obtain ⟨l9,e9,hp⟩:=ak hp
   refine jb (ae .i64) w7 (i:=3) (j:=0) (p:=p2) rfl rfl (nI.step (s1.trans (s4.trans s7))) g2 i2 e9 rfl rfl (λ_ h=>by have h:_=[_]:=h;subst h;exact rfl) λH10 k10 w10 s10 c10=>?_
   refine aZ hp (λhp=>?_) λhp=>?_
   ·refine bt w10 (i:=2) rfl rfl rfl λH11 w11 s11=>?_
    obtain ⟨l12,e12,hp⟩:=ak hp
    refine jb (ae .i64) w11 (i:=3) (j:=0) (p:=p2) rfl rfl (c10.step s11) (qf g2 (gb e9)) i2 e12 rfl rfl (λ_ h=>by have h:_=[_]:=h;subst h;exact rfl) λH13 k13 w13 s13 c13=>?_
    dsimp only [pk,pks,nth,List.drop,List.set,List.eraseIdx] at w13 s10 c10 s11 s13 c13
    refine ⟨_,_,rfl,?_⟩
    obtain ⟨w14,s14⟩:=w13.pick' [2,3,4] 5 rfl rfl rfl
    exact ih ((gb e9).symm.trans (gb e12).symm) ⟨w14,(s0.trans (s1.trans (s4.trans (s7.trans (s10.trans (s11.trans (s13.trans s14))))))),(c13.step s14)⟩ hp
   ·obtain ⟨p15,q15,i15,h15,j15⟩:=W.ixo (E:=(ae .i64)) w10 (i:=3) rfl rfl c10 (qf g2 (gb e9))
    obtain rfl:=Option.some.inj (i2.symm.trans i15)
    have h15:_=[_]:=h15
    subst h15
    refine ac (ah (j15 0 _ rfl)) ?_
    obtain ⟨r16,e16,hp⟩:=ak hp
    refine aW (ee.P ⟨w10,trivial⟩ e16) ?_
    rintro _ H17 ⟨rfl,w17,s17,_⟩
    refine ac rfl ?_
    refine aZ hp (λhp=>?_) λhp=>?_
    ·refine bt w17 (i:=2) rfl rfl rfl λH18 w18 s18=>?_
     obtain ⟨l19,e19,hp⟩:=ak hp
     refine jb (ae .i64) w18 (i:=3) (j:=0) (p:=p2) rfl rfl (c10.step (s17.trans s18)) (qf g2 (gb e9)) i2 e19 rfl rfl (λ_ h=>by have h:_=[_]:=h;subst h;exact rfl) λH20 k20 w20 s20 c20=>?_
     dsimp only [pk,pks,nth,List.drop,List.set,List.eraseIdx] at w20 s10 c10 s18 s20 c20
     refine ⟨_,_,rfl,?_⟩
     obtain ⟨w21,s21⟩:=w20.pick' [2,3,4] 5 rfl rfl rfl
     exact ih ((gb e9).symm.trans (gb e19).symm) ⟨w21,(s0.trans (s1.trans (s4.trans (s7.trans (s10.trans (s17.trans (s18.trans (s20.trans s21)))))))),(c20.step s21)⟩ hp
    ·refine ⟨_,_,rfl,?_⟩
     obtain ⟨w22,s22⟩:=w17.pick' [2,3,4] 5 rfl rfl rfl
     exact ih ((gb e9).symm) ⟨w22,(s0.trans (s1.trans (s4.trans (s7.trans (s10.trans (s17.trans s22)))))),(c10.step (s17.trans s22))⟩ hp
  ·obtain ⟨w23,s23⟩:=w0.pick' [0,1] 3 rfl rfl rfl
   exact a_ hp ⟨_,rfl,rfl,w23,(s0.trans s23),(nI.step s23)⟩
def cM.p (F:Nat) (aD:Bool) (aw:Int) (hO:List Int) (dC:Int) (dD:Int) (dw:Int):Option (Bool×List Int):=cM.pl7 F F aD dC dD dw aw hO aw 0
theorem cM.P {F:Nat} {br aX bu bj aY aV bk bl bI bm ag aw dC dD dw:Int} {dY c_ et da db:Sl} {aD iu:Bool} {aa fo:Nat} {gE:ON} {gF:Cap} {hO:List Int} {iv iw k_:List AV} {H:Hp} {R0:List Rs} (oX:fo=hO.length) (h0:Inn H (Rs.blk aa [.i br,.i aX,.sl dY,.i bu,.i bj,.sl c_,.i aY,.i aV,.sl et,.i bk,.i bl,.sl da,.i bI,.i bm,.sl db,.bool aD] :: Rs.ow iu ⟨gE,fo,gF⟩ (ae .i64).z iv k_ iw :: R0) λR=>CR (ae .i64) H R k_ hO) {r:Bool×List Int} (hp:cM.p F aD aw hO dC dD dw=some r):∃ v H',cM.tw F aa 0 ag aw ⟨gE,fo,gF⟩ dC dD dw H=some (v,H')/\cM.Q H (Rs.blk aa [.i br,.i aX,.sl dY,.i bu,.i bj,.sl c_,.i aY,.i aV,.sl et,.i bk,.i bl,.sl da,.i bI,.i bm,.sl db,.bool aD] :: Rs.ow iu ⟨gE,fo,gF⟩ (ae .i64).z iv k_ iw :: R0) R0 br aX bu bj aY aV bk bl bI bm dY c_ et da db aa fo gE gF iu iv iw r v H':=by
 obtain ⟨w0,nD⟩:=h0
 subst oX
 unfold cM.p at hp
 unfold cM.tw cM.twX
 have s0:=w0.rf
 refine cJ w0 λH1 w1 s1=>?_
 refine ac (ah (w1.ld (i:=0) rfl rfl)) ?_
 obtain ⟨w2,s2⟩:=w1.pick' [1,2,0] 3 rfl rfl rfl
 exact cM.l7_P F rfl ⟨w2,(s0.trans (s1.trans s2)),(nD.step (s1.trans s2))⟩ hp
def cN.Q (H0:Hp) (Ri R0:List Rs) (br aX bu bj aY aV bk bl bI bm:Int) (dY c_ et da db:Sl) (aa fo:Nat) (gE:ON) (gF:Cap) (iu:Bool) (iv iw:List AV) (r:Bool×List Int) (v:AV) (H':Hp):Prop:=∃ mJ:List AV,v=(.tup [])/\fo=(r.2).length/\Out H0 Ri H' (Rs.blk aa [.i br,.i aX,.sl dY,.i bu,.i bj,.sl c_,.i aY,.i aV,.sl et,.i bk,.i bl,.sl da,.i bI,.i bm,.sl db,.bool (r.1)] :: Rs.ow iu ⟨gE,fo,gF⟩ (ae .i64).z iv mJ iw :: R0) λR=>CR (ae .i64) H' R mJ (r.2)
def cN.S7 (H0:Hp) (Ri R0:List Rs) (aB aq aF av ax ar ay az aJ aA:Int) (d_ cp eC cq ct:Sl) (aE iS:Nat) (jD:ON) (jE:Cap) (la:Bool) (lb lc:List AV) (C:Nat->Nat->Int->Int->Int->Nat->Nat->Int->Int->Hp->OA) (pC:Bool->Int->Int->Int->Int->List Int->Int->Int->Option (Bool×List Int)):Prop:=∀ {aD:Bool} {dj eJ eb va lg gj fi:Int} {jG:List Int} {rz:List AV} {dk:Nat},∀ {H:Hp},iS=jG.length->(Out H0 Ri H (Rs.blk aE [.i aB,.i aq,.sl d_,.i aF,.i av,.sl cp,.i ax,.i ar,.sl eC,.i ay,.i az,.sl cq,.i aJ,.i aA,.sl ct,.bool aD] :: Rs.ow la ⟨jD,iS,jE⟩ (ae .i64).z lb rz lc :: Rs.blk dk [.i va,.i lg,.sl ⟨jD,iS,jE⟩] :: R0) λR=>CR (ae .i64) H R rz jG)->∀ {r:Bool×List Int},pC aD dj eJ eb lg jG gj fi=some r->∃ v H',C aE 0 dj eJ eb dk 0 gj fi H=some (v,H')/\cN.Q H0 Ri R0 aB aq aF av ax ar ay az aJ aA d_ cp eC cq ct aE iS jD jE la lb lc r v H'
def cN.pl7 (F:Nat) :Nat->Bool->Int->Int->Int->Int->List Int->Int->Int->Option (Bool×List Int)
 | 0,_,_,_,_,_,_,_,_=>none
 | k+1,aD,dj,eJ,eb,lg,jG,gj,fi=>(bif (decide (fi<gj)) then ((ix jG (IntKind.i64.wrap ((IntKind.i64.wrap (fi * lg))+dj))).bind λn2=>(ix jG (IntKind.i64.wrap ((IntKind.i64.wrap (fi * lg))+eJ))).bind λn5=>(gD.p F (gt jG n5) eb 2000000000000).bind λr6=>(some (jG.set n2 (IntKind.i64.wrap ((gt jG n2)+r6.1)))).bind λl9=>(bif (!r6.2) then ((some (l9.set n2 0)).bind λl12=>cN.pl7 F k true dj eJ eb lg l12 gj (IntKind.i64.wrap (fi+1))) else ((ee.p F (gt l9 n2)).bind λr16=>(bif (decide (r16>1000000000000)) then ((some (l9.set n2 0)).bind λl19=>cN.pl7 F k true dj eJ eb lg l19 gj (IntKind.i64.wrap (fi+1))) else (cN.pl7 F k aD dj eJ eb lg l9 gj (IntKind.i64.wrap (fi+1))))))) else (some (aD,jG)))
termination_by structural n=>n
theorem cN.l7_P {F:Nat} {H0:Hp} {Ri R0:List Rs} {aB aq aF av ax ar ay az aJ aA:Int} {d_ cp eC cq ct:Sl} {aE iS:Nat} {jD:ON} {jE:Cap} {la:Bool} {lb lc:List AV} :∀ k,cN.S7 H0 Ri R0 aB aq aF av ax ar ay az aJ aA d_ cp eC cq ct aE iS jD jE la lb lc (cN.l7 F (bH.tw F) (gi.tw F)  k) (cN.pl7 F  k):=by
 intro k
 induction k with
 | zero=>unfold cN.S7;intros;rename_i hp;cases hp
 | succ k ih=>
  intro aD dj eJ eb va lg gj fi jG rz dk H AI h0 r hp
  obtain ⟨w0,s0,nI⟩:=h0
  subst AI
  unfold cN.pl7 at hp
  unfold cN.l7
  refine aZ hp (λhp=>?_) λhp=>?_
  ·refine ac (ah (w0.ld (i:=2) rfl rfl)) ?_
   refine ac (ah (w0.ld (i:=2) rfl rfl)) ?_
   refine ac (aH (w0.ld (i:=2) rfl rfl)) ?_
   refine bH.inl ?_
   refine cJ w0 λH1 w1 s1=>?_
   refine ac (aH (w1.ld (i:=0) rfl rfl)) ?_
   refine ac (ah (w1.ld (i:=0) rfl rfl)) ?_
   obtain ⟨n2,g2,hp⟩:=ak hp
   obtain ⟨p2,q2,i2,h2,j2⟩:=W.ixo (E:=(ae .i64)) w1 (i:=2) rfl rfl (nI.step s1) g2
   refine ac i2 ?_
   refine ⟨_,_,rfl,?_⟩
   refine ac rfl ?_
   refine fq (W.cons_of (Rn:=[_]) w0 w1 s1) ?_
   refine ac (ah (w1.ld (i:=3) rfl rfl)) ?_
   refine ac (ah (w1.ld (i:=3) rfl rfl)) ?_
   refine ac (aH (w1.ld (i:=3) rfl rfl)) ?_
   refine bH.inl ?_
   refine cJ w1 λH4 w4 s4=>?_
   refine ac (aH (w4.ld (i:=0) rfl rfl)) ?_
   refine ac (ah (w4.ld (i:=0) rfl rfl)) ?_
   obtain ⟨n5,g5,hp⟩:=ak hp
   obtain ⟨p5,q5,i5,h5,j5⟩:=W.ixo (E:=(ae .i64)) w4 (i:=3) rfl rfl (nI.step (s1.trans s4)) g5
   refine ac i5 ?_
   refine ⟨_,_,rfl,?_⟩
   refine ac rfl ?_
   have h5:_=[_]:=h5
   subst h5
   refine ac (ah (j5 0 _ rfl)) ?_
   refine gi.inl ?_
   obtain ⟨r6,e6,hp⟩:=ak hp
   refine aW (gD.P ⟨w4,trivial⟩ e6) ?_
   rintro _ H7 ⟨rfl,w7,s7,_⟩
   refine ac rfl ?_
   refine ac rfl ?_
   refine ac rfl ?_
   refine ac rfl ?_
   refine ac rfl ?_
   obtain ⟨p8,q8,i8,h8,j8⟩:=W.ixo (E:=(ae .i64)) w7 (i:=3) rfl rfl (nI.step (s1.trans (s4.trans s7))) g2
   obtain rfl:=Option.some.inj (i2.symm.trans i8)
   have h8:_=[_]:=h8
   subst h8
   refine ac (ah (j8 0 _ rfl)) ?_
   obtain ⟨l9,e9,hp⟩:=ak hp
   refine jb (ae .i64) w7 (i:=3) (j:=0) (p:=p2) rfl rfl (nI.step (s1.trans (s4.trans s7))) g2 i2 e9 rfl rfl (λ_ h=>by have h:_=[_]:=h;subst h;exact rfl) λH10 k10 w10 s10 c10=>?_
   refine aZ hp (λhp=>?_) λhp=>?_
   ·refine bt w10 (i:=2) rfl rfl rfl λH11 w11 s11=>?_
    obtain ⟨l12,e12,hp⟩:=ak hp
    refine jb (ae .i64) w11 (i:=3) (j:=0) (p:=p2) rfl rfl (c10.step s11) (qf g2 (gb e9)) i2 e12 rfl rfl (λ_ h=>by have h:_=[_]:=h;subst h;exact rfl) λH13 k13 w13 s13 c13=>?_
    dsimp only [pk,pks,nth,List.drop,List.set,List.eraseIdx] at w13 s10 c10 s11 s13 c13
    refine ⟨_,_,rfl,?_⟩
    obtain ⟨w14,s14⟩:=w13.pick' [2,3,4] 5 rfl rfl rfl
    exact ih ((gb e9).symm.trans (gb e12).symm) ⟨w14,(s0.trans (s1.trans (s4.trans (s7.trans (s10.trans (s11.trans (s13.trans s14))))))),(c13.step s14)⟩ hp
   ·obtain ⟨p15,q15,i15,h15,j15⟩:=W.ixo (E:=(ae .i64)) w10 (i:=3) rfl rfl c10 (qf g2 (gb e9))
    obtain rfl:=Option.some.inj (i2.symm.trans i15)
    have h15:_=[_]:=h15
    subst h15
    refine ac (ah (j15 0 _ rfl)) ?_
    obtain ⟨r16,e16,hp⟩:=ak hp
    refine aW (ee.P ⟨w10,trivial⟩ e16) ?_
    rintro _ H17 ⟨rfl,w17,s17,_⟩
    refine ac rfl ?_
    refine aZ hp (λhp=>?_) λhp=>?_
    ·refine bt w17 (i:=2) rfl rfl rfl λH18 w18 s18=>?_
     obtain ⟨l19,e19,hp⟩:=ak hp
     refine jb (ae .i64) w18 (i:=3) (j:=0) (p:=p2) rfl rfl (c10.step (s17.trans s18)) (qf g2 (gb e9)) i2 e19 rfl rfl (λ_ h=>by have h:_=[_]:=h;subst h;exact rfl) λH20 k20 w20 s20 c20=>?_
     dsimp only [pk,pks,nth,List.drop,List.set,List.eraseIdx] at w20 s10 c10 s18 s20 c20
     refine ⟨_,_,rfl,?_⟩
     obtain ⟨w21,s21⟩:=w20.pick' [2,3,4] 5 rfl rfl rfl
     exact ih ((gb e9).symm.trans (gb e19).symm) ⟨w21,(s0.trans (s1.trans (s4.trans (s7.trans (s10.trans (s17.trans (s18.trans (s20.trans s21)))))))),(c20.step s21)⟩ hp
    ·refine ⟨_,_,rfl,?_⟩
     obtain ⟨w22,s22⟩:=w17.pick' [2,3,4] 5 rfl rfl rfl
     exact ih ((gb e9).symm) ⟨w22,(s0.trans (s1.trans (s4.trans (s7.trans (s10.trans (s17.trans s22)))))),(c10.step (s17.trans s22))⟩ hp
  ·obtain ⟨w23,s23⟩:=w0.pick' [0,1] 3 rfl rfl rfl
   exact a_ hp ⟨_,rfl,rfl,w23,(s0.trans s23),(nI.step s23)⟩
def cN.p (F:Nat) (aD:Bool) (ag:Int) (aw:Int) (hO:List Int) (dC:Int) (dD:Int) (dw:Int):Option (Bool×List Int):=cN.pl7 F F aD dC dD dw aw hO ag 0
theorem cN.P {F:Nat} {br aX bu bj aY aV bk bl bI bm ag aw dC dD dw:Int} {dY c_ et da db:Sl} {aD iu:Bool} {aa fo:Nat} {gE:ON} {gF:Cap} {hO:List Int} {iv iw k_:List AV} {H:Hp} {R0:List Rs} (oX:fo=hO.length) (h0:Inn H (Rs.blk aa [.i br,.i aX,.sl dY,.i bu,.i bj,.sl c_,.i aY,.i aV,.sl et,.i bk,.i bl,.sl da,.i bI,.i bm,.sl db,.bool aD] :: Rs.ow iu ⟨gE,fo,gF⟩ (ae .i64).z iv k_ iw :: R0) λR=>CR (ae .i64) H R k_ hO) {r:Bool×List Int} (hp:cN.p F aD ag aw hO dC dD dw=some r):∃ v H',cN.tw F aa 0 ag aw ⟨gE,fo,gF⟩ dC dD dw H=some (v,H')/\cN.Q H (Rs.blk aa [.i br,.i aX,.sl dY,.i bu,.i bj,.sl c_,.i aY,.i aV,.sl et,.i bk,.i bl,.sl da,.i bI,.i bm,.sl db,.bool aD] :: Rs.ow iu ⟨gE,fo,gF⟩ (ae .i64).z iv k_ iw :: R0) R0 br aX bu bj aY aV bk bl bI bm dY c_ et da db aa fo gE gF iu iv iw r v H':=by
 obtain ⟨w0,nD⟩:=h0
 subst oX
 unfold cN.p at hp
 unfold cN.tw cN.twX
 have s0:=w0.rf
 refine cJ w0 λH1 w1 s1=>?_
 refine ac (ah (w1.ld (i:=0) rfl rfl)) ?_
 obtain ⟨w2,s2⟩:=w1.pick' [1,2,0] 3 rfl rfl rfl
 exact cN.l7_P F rfl ⟨w2,(s0.trans (s1.trans s2)),(nD.step (s1.trans s2))⟩ hp
def eQ.Q (H0:Hp) (Ri R0:List Rs) (br aX bu bj aY aV bk bl bI bm:Int) (cB dQ cn:ON) (bQ de bL aa:Nat) (cC dT co:Cap) (eS fE eT:Bool) (eU eV fH fI eW eX:List AV) (da db:Sl) (r:List Int×List Int×List Int×Bool) (v:AV) (H':Hp):Prop:=∃ jB:List AV,∃ kD:List AV,∃ jC:List AV,v=(.tup [])/\bQ=(r.1).length/\de=(r.2.1).length/\bL=(r.2.2.1).length/\Out H0 Ri H' (Rs.ow eS ⟨cB,bQ,cC⟩ (ae .i64).z eU jB eV :: Rs.ow fE ⟨dQ,de,dT⟩ (ae .i64).z fH kD fI :: Rs.ow eT ⟨cn,bL,co⟩ (ae .i64).z eW jC eX :: Rs.blk aa [.i br,.i aX,.sl ⟨cB,bQ,cC⟩,.i bu,.i bj,.sl ⟨dQ,de,dT⟩,.i aY,.i aV,.sl ⟨cn,bL,co⟩,.i bk,.i bl,.sl da,.i bI,.i bm,.sl db,.bool (r.2.2.2)] :: R0) λR=>CR (ae .i64) H' R jB (r.1)/\CR (ae .i64) H' R kD (r.2.1)/\CR (ae .i64) H' R jC (r.2.2.1)
def eQ.p (F:Nat) (aX:Int) (dF:List Int) (bu:Int) (bj:Int) (fw:List Int) (aV:Int) (dh:List Int) (aD:Bool) (ag:Int) (cv:Int) (dl:Int):Option (List Int×List Int×List Int×Bool):=(cM.p F aD aV dh ag cv dl).bind λr2=>(cM.p F r2.1 aX dF ag cv dl).bind λr5=>(cN.p F r5.1 bu bj fw cv ag (IntKind.i64.wrap (0 - dl))).bind λr8=>some (r5.2,r8.2,r2.2,r8.1)
theorem eQ.P {F:Nat} {br aX bu bj aY aV bk bl bI bm ag cv dl:Int} {cB dQ cn:ON} {bQ de bL aa:Nat} {cC dT co:Cap} {dF fw dh:List Int} {eS fE eT aD:Bool} {eU eV hK fH fI iN eW eX hN:List AV} {da db:Sl} {H:Hp} {R0:List Rs} (kZ:bQ=dF.length) (mU:de=fw.length) (kd:bL=dh.length) (h0:Inn H (Rs.ow eS ⟨cB,bQ,cC⟩ (ae .i64).z eU hK eV :: Rs.ow fE ⟨dQ,de,dT⟩ (ae .i64).z fH iN fI :: Rs.ow eT ⟨cn,bL,co⟩ (ae .i64).z eW hN eX :: Rs.blk aa [.i br,.i aX,.sl ⟨cB,bQ,cC⟩,.i bu,.i bj,.sl ⟨dQ,de,dT⟩,.i aY,.i aV,.sl ⟨cn,bL,co⟩,.i bk,.i bl,.sl da,.i bI,.i bm,.sl db,.bool aD] :: R0) λR=>CR (ae .i64) H R hK dF/\CR (ae .i64) H R iN fw/\CR (ae .i64) H R hN dh) {r:List Int×List Int×List Int×Bool} (hp:eQ.p F aX dF bu bj fw aV dh aD ag cv dl=some r):∃ v H',eQ.tw F aa 0 ag cv dl H=some (v,H')/\eQ.Q H (Rs.ow eS ⟨cB,bQ,cC⟩ (ae .i64).z eU hK eV :: Rs.ow fE ⟨dQ,de,dT⟩ (ae .i64).z fH iN fI :: Rs.ow eT ⟨cn,bL,co⟩ (ae .i64).z eW hN eX :: Rs.blk aa [.i br,.i aX,.sl ⟨cB,bQ,cC⟩,.i bu,.i bj,.sl ⟨dQ,de,dT⟩,.i aY,.i aV,.sl ⟨cn,bL,co⟩,.i bk,.i bl,.sl da,.i bI,.i bm,.sl db,.bool aD] :: R0) R0 br aX bu bj aY aV bk bl bI bm cB dQ cn bQ de bL aa cC dT co eS fE eT eU eV fH fI eW eX da db r v H':=by
 obtain ⟨w0,jX,mm,jo⟩:=h0
 subst kZ
 subst mU
 subst kd
 unfold eQ.p at hp
 unfold eQ.tw eQ.twX
 have s0:=w0.rf
 refine ac (ah (w0.ld (i:=3) rfl rfl)) ?_
 refine ac (ah (w0.ld (i:=3) rfl rfl)) ?_
 refine ac (aH (w0.ld (i:=3) rfl rfl)) ?_
 obtain ⟨w1,s1⟩:=w0.pick' [3,2,0,1] 4 rfl rfl rfl
 obtain ⟨r2,e2,hp⟩:=ak hp
 refine aW (cM.P rfl ⟨w1,(jo.step s1)⟩ e2) ?_
 rintro _ H3 ⟨yr,rfl,hl3_0,w3,s3,f3_0⟩
 refine ac (ah (w3.ld (i:=0) rfl rfl)) ?_
 refine ac (ah (w3.ld (i:=0) rfl rfl)) ?_
 refine ac (aH (w3.ld (i:=0) rfl rfl)) ?_
 obtain ⟨w4,s4⟩:=w3.pick' [0,2,1,3] 4 rfl rfl rfl
 obtain ⟨r5,e5,hp⟩:=ak hp
 refine aW (cM.P rfl ⟨w4,(jX.step (s1.trans (s3.trans s4)))⟩ e5) ?_
 rintro _ H6 ⟨ys,rfl,hl6_0,w6,s6,f6_0⟩
 refine ac (ah (w6.ld (i:=0) rfl rfl)) ?_
 refine ac (ah (w6.ld (i:=0) rfl rfl)) ?_
 refine ac (aH (w6.ld (i:=0) rfl rfl)) ?_
 obtain ⟨w7,s7⟩:=w6.pick' [0,3,1,2] 4 rfl rfl rfl
 dsimp only [pk,pks,nth,List.drop,List.set,List.eraseIdx] at w7 s1 s4 s7
 obtain ⟨r8,e8,hp⟩:=ak hp
 refine aW (cN.P rfl ⟨w7,(mm.step (s1.trans (s3.trans (s4.trans (s6.trans s7)))))⟩ e8) ?_
 rintro _ H9 ⟨yt,rfl,hl9_0,w9,s9,f9_0⟩
 obtain ⟨w10,s10⟩:=w9.pick' [2,1,3,0] 4 rfl rfl rfl
 exact a_ hp ⟨_,_,_,rfl,hl6_0,hl9_0,hl3_0,w10,(s0.trans (s1.trans (s3.trans (s4.trans (s6.trans (s7.trans (s9.trans s10))))))),(f6_0.step (s7.trans (s9.trans s10))),(f9_0.step s10),(f3_0.step (s4.trans (s6.trans (s7.trans (s9.trans s10)))))⟩
def gv.Q (H0:Hp) (Ri R0:List Rs) (br aX bu bj aY aV bk bl bI bm:Int) (dY c_:Sl) (cn dR dS:ON) (bL df dg aa:Nat) (co dU dV:Cap) (eT fF fG:Bool) (eW eX fJ fK fL fM:List AV) (r:List Int×List Int×List Int×Bool) (v:AV) (H':Hp):Prop:=∃ jC:List AV,∃ kE:List AV,∃ kF:List AV,v=(.tup [])/\bL=(r.1).length/\df=(r.2.1).length/\dg=(r.2.2.1).length/\Out H0 Ri H' (Rs.ow eT ⟨cn,bL,co⟩ (ae .i64).z eW jC eX :: Rs.ow fF ⟨dR,df,dU⟩ (ae .i64).z fJ kE fK :: Rs.ow fG ⟨dS,dg,dV⟩ (ae .i64).z fL kF fM :: Rs.blk aa [.i br,.i aX,.sl dY,.i bu,.i bj,.sl c_,.i aY,.i aV,.sl ⟨cn,bL,co⟩,.i bk,.i bl,.sl ⟨dR,df,dU⟩,.i bI,.i bm,.sl ⟨dS,dg,dV⟩,.bool (r.2.2.2)] :: R0) λR=>CR (ae .i64) H' R jC (r.1)/\CR (ae .i64) H' R kE (r.2.1)/\CR (ae .i64) H' R kF (r.2.2.1)
def gv.p (F:Nat) (aY:Int) (aV:Int) (dh:List Int) (bk:Int) (bl:Int) (fx:List Int) (bm:Int) (fy:List Int) (aD:Bool) (ag:Int) (cv:Int) (dl:Int):Option (List Int×List Int×List Int×Bool):=(cN.p F aD aY aV dh ag cv dl).bind λr2=>(cN.p F r2.1 bk bl fx ag cv dl).bind λr5=>(cM.p F r5.1 bm fy cv ag (IntKind.i64.wrap (0 - dl))).bind λr8=>some (r2.2,r5.2,r8.2,r8.1)
theorem gv.P {F:Nat} {br aX bu bj aY aV bk bl bI bm ag cv dl:Int} {dY c_:Sl} {cn dR dS:ON} {bL df dg aa:Nat} {co dU dV:Cap} {dh fx fy:List Int} {eT fF fG aD:Bool} {eW eX hN fJ fK iO fL fM iR:List AV} {H:Hp} {R0:List Rs} (kd:bL=dh.length) (mV:df=fx.length) (mW:dg=fy.length) (h0:Inn H (Rs.ow eT ⟨cn,bL,co⟩ (ae .i64).z eW hN eX :: Rs.ow fF ⟨dR,df,dU⟩ (ae .i64).z fJ iO fK :: Rs.ow fG ⟨dS,dg,dV⟩ (ae .i64).z fL iR fM :: Rs.blk aa [.i br,.i aX,.sl dY,.i bu,.i bj,.sl c_,.i aY,.i aV,.sl ⟨cn,bL,co⟩,.i bk,.i bl,.sl ⟨dR,df,dU⟩,.i bI,.i bm,.sl ⟨dS,dg,dV⟩,.bool aD] :: R0) λR=>CR (ae .i64) H R hN dh/\CR (ae .i64) H R iO fx/\CR (ae .i64) H R iR fy) {r:List Int×List Int×List Int×Bool} (hp:gv.p F aY aV dh bk bl fx bm fy aD ag cv dl=some r):∃ v H',gv.tw F aa 0 ag cv dl H=some (v,H')/\gv.Q H (Rs.ow eT ⟨cn,bL,co⟩ (ae .i64).z eW hN eX :: Rs.ow fF ⟨dR,df,dU⟩ (ae .i64).z fJ iO fK :: Rs.ow fG ⟨dS,dg,dV⟩ (ae .i64).z fL iR fM :: Rs.blk aa [.i br,.i aX,.sl dY,.i bu,.i bj,.sl c_,.i aY,.i aV,.sl ⟨cn,bL,co⟩,.i bk,.i bl,.sl ⟨dR,df,dU⟩,.i bI,.i bm,.sl ⟨dS,dg,dV⟩,.bool aD] :: R0) R0 br aX bu bj aY aV bk bl bI bm dY c_ cn dR dS bL df dg aa co dU dV eT fF fG eW eX fJ fK fL fM r v H':=by
 obtain ⟨w0,jo,mn,mo⟩:=h0
 subst kd
 subst mV
 subst mW
 unfold gv.p at hp
 unfold gv.tw gv.twX
 have s0:=w0.rf
 refine ac (ah (w0.ld (i:=3) rfl rfl)) ?_
 refine ac (ah (w0.ld (i:=3) rfl rfl)) ?_
 refine ac (aH (w0.ld (i:=3) rfl rfl)) ?_
 obtain ⟨w1,s1⟩:=w0.pick' [3,0,1,2] 4 rfl rfl rfl
 obtain ⟨r2,e2,hp⟩:=ak hp
 refine aW (cN.P rfl ⟨w1,(jo.step s1)⟩ e2) ?_
 rintro _ H3 ⟨yr,rfl,hl3_0,w3,s3,f3_0⟩
 refine ac (ah (w3.ld (i:=0) rfl rfl)) ?_
 refine ac (ah (w3.ld (i:=0) rfl rfl)) ?_
 refine ac (aH (w3.ld (i:=0) rfl rfl)) ?_
 obtain ⟨w4,s4⟩:=w3.pick' [0,2,1,3] 4 rfl rfl rfl
 obtain ⟨r5,e5,hp⟩:=ak hp
 refine aW (cN.P rfl ⟨w4,(mn.step (s1.trans (s3.trans s4)))⟩ e5) ?_
 rintro _ H6 ⟨ys,rfl,hl6_0,w6,s6,f6_0⟩
 refine ac (ah (w6.ld (i:=0) rfl rfl)) ?_
 refine ac (ah (w6.ld (i:=0) rfl rfl)) ?_
 refine ac (aH (w6.ld (i:=0) rfl rfl)) ?_
 obtain ⟨w7,s7⟩:=w6.pick' [0,3,1,2] 4 rfl rfl rfl
 dsimp only [pk,pks,nth,List.drop,List.set,List.eraseIdx] at w7 s1 s4 s7
 obtain ⟨r8,e8,hp⟩:=ak hp
 refine aW (cM.P rfl ⟨w7,(mo.step (s1.trans (s3.trans (s4.trans (s6.trans s7)))))⟩ e8) ?_
 rintro _ H9 ⟨yt,rfl,hl9_0,w9,s9,f9_0⟩
 obtain ⟨w10,s10⟩:=w9.pick' [3,2,1,0] 4 rfl rfl rfl
 exact a_ hp ⟨_,_,_,rfl,hl3_0,hl6_0,hl9_0,w10,(s0.trans (s1.trans (s3.trans (s4.trans (s6.trans (s7.trans (s9.trans s10))))))),(f3_0.step (s4.trans (s6.trans (s7.trans (s9.trans s10))))),(f6_0.step (s7.trans (s9.trans s10))),(f9_0.step s10)⟩
def aR.Q (H0:Hp) (Ri R0:List Rs) (br aX bu bj aY aV bk bl bI bm:Int) (cB dQ cn dR dS:ON) (bQ de bL df dg aa:Nat) (cC dT co dU dV:Cap) (eS fE eT fF fG:Bool) (eU eV fH fI eW eX fJ fK fL fM:List AV) (dh:List Int) (r:Bool×List Int×List Int×List Int×List Int×List Int) (v:AV) (H':Hp):Prop:=∃ jB:List AV,∃ kD:List AV,∃ jC:List AV,∃ kE:List AV,∃ kF:List AV,v=(.tup [])/\bQ=(r.2.1).length/\de=(r.2.2.1).length/\bL=(r.2.2.2.1).length/\df=(r.2.2.2.2.1).length/\dg=(r.2.2.2.2.2).length/\Out H0 Ri H' (Rs.ow eS ⟨cB,bQ,cC⟩ (ae .i64).z eU jB eV :: Rs.ow fE ⟨dQ,de,dT⟩ (ae .i64).z fH kD fI :: Rs.ow eT ⟨cn,bL,co⟩ (ae .i64).z eW jC eX :: Rs.ow fF ⟨dR,df,dU⟩ (ae .i64).z fJ kE fK :: Rs.ow fG ⟨dS,dg,dV⟩ (ae .i64).z fL kF fM :: Rs.blk aa [.i br,.i aX,.sl ⟨cB,bQ,cC⟩,.i bu,.i bj,.sl ⟨dQ,de,dT⟩,.i aY,.i aV,.sl ⟨cn,bL,co⟩,.i bk,.i bl,.sl ⟨dR,df,dU⟩,.i bI,.i bm,.sl ⟨dS,dg,dV⟩,.bool (r.1)] :: R0) λR=>CR (ae .i64) H' R jB (r.2.1)/\CR (ae .i64) H' R kD (r.2.2.1)/\CR (ae .i64) H' R jC (r.2.2.2.1)/\CR (ae .i64) H' R kE (r.2.2.2.2.1)/\CR (ae .i64) H' R kF (r.2.2.2.2.2)
def aR.S13 (H0:Hp) (Ri R0:List Rs) (aB aq aF av ax ar ay az aJ aA:Int) (aT bA aM bB bC:ON) (aI ba aG bc bf aE:Nat) (aU bD aN bE bF:Cap) (bS bT bU bV bW:Bool) (bX bY bZ b_ ca cb ce cf cg ch:List AV) (ci:List Int) (C:Nat->Nat->Int->Nat->Nat->Int->Hp->OA) (pC:Int->List Int->Int->Int->List Int->Int->Int->List Int->Int->Int->List Int->Int->List Int->Bool->Int->Int->Int->Int->Option (Bool×List Int×List Int×List Int×List Int×List Int)):Prop:=∀ {aK aO aL aP aQ:List Int} {cO cP cQ cR cS:List AV} {aD:Bool} {dH rA oe gl:Int} {fX:Nat},∀ {H:Hp},aI=aK.length->ba=aO.length->aG=aL.length->bc=aP.length->bf=aQ.length->(Out H0 Ri H (Rs.ow bS ⟨aT,aI,aU⟩ (ae .i64).z bX cO bY :: Rs.ow bT ⟨bA,ba,bD⟩ (ae .i64).z bZ cP b_ :: Rs.ow bU ⟨aM,aG,aN⟩ (ae .i64).z ca cQ cb :: Rs.ow bV ⟨bB,bc,bE⟩ (ae .i64).z ce cR cf :: Rs.ow bW ⟨bC,bf,bF⟩ (ae .i64).z cg cS ch :: Rs.blk aE [.i aB,.i aq,.sl ⟨aT,aI,aU⟩,.i aF,.i av,.sl ⟨bA,ba,bD⟩,.i ax,.i ar,.sl ⟨aM,aG,aN⟩,.i ay,.i az,.sl ⟨bB,bc,bE⟩,.i aJ,.i aA,.sl ⟨bC,bf,bF⟩,.bool aD] :: Rs.blk fX [.i rA,.i oe,.sl ⟨aM,aG,aN⟩] :: R0) λR=>CR (ae .i64) H R cO aK/\CR (ae .i64) H R cP aO/\CR (ae .i64) H R cQ aL/\CR (ae .i64) H R cR aP/\CR (ae .i64) H R cS aQ)->∀ {r:Bool×List Int×List Int×List Int×List Int×List Int},pC aq aK aF av aO ax ar aL ay az aP aA aQ aD dH rA oe gl=some r->∃ v H',C aE 0 dH fX 0 gl H=some (v,H')/\aR.Q H0 Ri R0 aB aq aF av ax ar ay az aJ aA aT bA aM bB bC aI ba aG bc bf aE aU bD aN bE bF bS bT bU bV bW bX bY bZ b_ ca cb ce cf cg ch ci r v H'
def aR.pj5 (F:Nat) (kG:Int->List Int->Int->Int->List Int->Int->Int->List Int->Int->Int->List Int->Int->List Int->Bool->Int->Int->Int->Int->Option (Bool×List Int×List Int×List Int×List Int×List Int)) (aq:Int) (aK:List Int) (aF:Int) (av:Int) (aO:List Int) (ax:Int) (ar:Int) (aL:List Int) (ay:Int) (az:Int) (aP:List Int) (aA:Int) (aQ:List Int) (aD:Bool) (tf:Int) (xm:Int) (xn:Int) (tg:Int):Option (Bool×List Int×List Int×List Int×List Int×List Int):=kG aq aK aF av aO ax ar aL ay az aP aA aQ aD tf xm xn (IntKind.i64.wrap (tg+1))
theorem aR.j5_P {F:Nat} {H0:Hp} {Ri R0:List Rs} {aB aq aF av ax ar ay az aJ aA:Int} {aT bA aM bB bC:ON} {aI ba aG bc bf aE:Nat} {aU bD aN bE bF:Cap} {bS bT bU bV bW:Bool} {bX bY bZ b_ ca cb ce cf cg ch:List AV} {ci:List Int} {C13_:Nat->Nat->Int->Nat->Nat->Int->Hp->OA} {kG:Int->List Int->Int->Int->List Int->Int->Int->List Int->Int->Int->List Int->Int->List Int->Bool->Int->Int->Int->Int->Option (Bool×List Int×List Int×List Int×List Int×List Int)} (hC13:aR.S13 H0 Ri R0 aB aq aF av ax ar ay az aJ aA aT bA aM bB bC aI ba aG bc bf aE aU bD aN bE bF bS bT bU bV bW bX bY bZ b_ ca cb ce cf cg ch ci C13_ kG) {aK aO aL aP aQ:List Int} {cO cP cQ cR cS:List AV} {aD:Bool} {tf xm xn tg:Int} {vT:Nat} {H:Hp} (eY:aI=aK.length) (eZ:ba=aO.length) (e_:aG=aL.length) (fa:bc=aP.length) (fb:bf=aQ.length) (h0:Out H0 Ri H (Rs.ow bS ⟨aT,aI,aU⟩ (ae .i64).z bX cO bY :: Rs.ow bT ⟨bA,ba,bD⟩ (ae .i64).z bZ cP b_ :: Rs.ow bU ⟨aM,aG,aN⟩ (ae .i64).z ca cQ cb :: Rs.ow bV ⟨bB,bc,bE⟩ (ae .i64).z ce cR cf :: Rs.ow bW ⟨bC,bf,bF⟩ (ae .i64).z cg cS ch :: Rs.blk aE [.i aB,.i aq,.sl ⟨aT,aI,aU⟩,.i aF,.i av,.sl ⟨bA,ba,bD⟩,.i ax,.i ar,.sl ⟨aM,aG,aN⟩,.i ay,.i az,.sl ⟨bB,bc,bE⟩,.i aJ,.i aA,.sl ⟨bC,bf,bF⟩,.bool aD] :: Rs.blk vT [.i xm,.i xn,.sl ⟨aM,aG,aN⟩] :: R0) λR=>CR (ae .i64) H R cO aK/\CR (ae .i64) H R cP aO/\CR (ae .i64) H R cQ aL/\CR (ae .i64) H R cR aP/\CR (ae .i64) H R cS aQ) {r:Bool×List Int×List Int×List Int×List Int×List Int} (hp:aR.pj5 F kG aq aK aF av aO ax ar aL ay az aP aA aQ aD tf xm xn tg=some r):∃ v H',aR.j5 F (bH.tw F) (gu.tw F) (eQ.tw F) (gv.tw F) C13_ aE 0 tf vT 0 tg H=some (v,H')/\aR.Q H0 Ri R0 aB aq aF av ax ar ay az aJ aA aT bA aM bB bC aI ba aG bc bf aE aU bD aN bE bF bS bT bU bV bW bX bY bZ b_ ca cb ce cf cg ch ci r v H':=by
 obtain ⟨w0,s0,cT,dp,cZ,dx,dy⟩:=h0
 subst eY
 subst eZ
 subst e_
 subst fa
 subst fb
 unfold aR.pj5 at hp
 unfold aR.j5
 exact hC13 rfl rfl rfl rfl rfl ⟨w0,s0,cT,dp,cZ,dx,dy⟩ hp
def aR.S15 (H0:Hp) (Ri R0:List Rs) (aB aq aF av ax ar ay az aJ aA:Int) (aT bA aM bB bC:ON) (aI ba aG bc bf aE:Nat) (aU bD aN bE bF:Cap) (bS bT bU bV bW:Bool) (bX bY bZ b_ ca cb ce cf cg ch:List AV) (ci:List Int) (C:Nat->Nat->Int->Nat->Nat->Int->Hp->OA) (pC:List Int->List Int->Int->Int->List Int->Int->Int->List Int->Int->List Int->Bool->Int->Int->Int->Option (Bool×List Int×List Int×List Int×List Int×List Int)):Prop:=∀ {aK aO aL aP aQ:List Int} {cO cP cQ cR cS:List AV} {aD:Bool} {gC EW pg jR:Int} {ky:Nat},∀ {H:Hp},aI=aK.length->ba=aO.length->aG=aL.length->bc=aP.length->bf=aQ.length->(Out H0 Ri H (Rs.ow bS ⟨aT,aI,aU⟩ (ae .i64).z bX cO bY :: Rs.ow bT ⟨bA,ba,bD⟩ (ae .i64).z bZ cP b_ :: Rs.ow bU ⟨aM,aG,aN⟩ (ae .i64).z ca cQ cb :: Rs.ow bV ⟨bB,bc,bE⟩ (ae .i64).z ce cR cf :: Rs.ow bW ⟨bC,bf,bF⟩ (ae .i64).z cg cS ch :: Rs.blk aE [.i aB,.i aq,.sl ⟨aT,aI,aU⟩,.i aF,.i av,.sl ⟨bA,ba,bD⟩,.i ax,.i ar,.sl ⟨aM,aG,aN⟩,.i ay,.i az,.sl ⟨bB,bc,bE⟩,.i aJ,.i aA,.sl ⟨bC,bf,bF⟩,.bool aD] :: Rs.blk ky [.i EW,.i pg,.sl ⟨aM,aG,aN⟩] :: R0) λR=>CR (ae .i64) H R cO aK/\CR (ae .i64) H R cP aO/\CR (ae .i64) H R cQ aL/\CR (ae .i64) H R cR aP/\CR (ae .i64) H R cS aQ)->∀ {r:Bool×List Int×List Int×List Int×List Int×List Int},pC aK aO ax ar aL ay az aP aA aQ aD gC pg jR=some r->∃ v H',C aE 0 gC ky 0 jR H=some (v,H')/\aR.Q H0 Ri R0 aB aq aF av ax ar ay az aJ aA aT bA aM bB bC aI ba aG bc bf aE aU bD aN bE bF bS bT bU bV bW bX bY bZ b_ ca cb ce cf cg ch ci r v H'
def aR.pj3 (F:Nat) (xo:List Int->List Int->Int->Int->List Int->Int->Int->List Int->Int->List Int->Bool->Int->Int->Int->Option (Bool×List Int×List Int×List Int×List Int×List Int)) (aK:List Int) (aO:List Int) (ax:Int) (ar:Int) (aL:List Int) (ay:Int) (az:Int) (aP:List Int) (aA:Int) (aQ:List Int) (aD:Bool) (td:Int) (xp:Int) (te:Int):Option (Bool×List Int×List Int×List Int×List Int×List Int):=xo aK aO ax ar aL ay az aP aA aQ aD td xp (IntKind.i64.wrap (te+1))
theorem aR.j3_P {F:Nat} {H0:Hp} {Ri R0:List Rs} {aB aq aF av ax ar ay az aJ aA:Int} {aT bA aM bB bC:ON} {aI ba aG bc bf aE:Nat} {aU bD aN bE bF:Cap} {bS bT bU bV bW:Bool} {bX bY bZ b_ ca cb ce cf cg ch:List AV} {ci:List Int} {C15_:Nat->Nat->Int->Nat->Nat->Int->Hp->OA} {xo:List Int->List Int->Int->Int->List Int->Int->Int->List Int->Int->List Int->Bool->Int->Int->Int->Option (Bool×List Int×List Int×List Int×List Int×List Int)} (hC15:aR.S15 H0 Ri R0 aB aq aF av ax ar ay az aJ aA aT bA aM bB bC aI ba aG bc bf aE aU bD aN bE bF bS bT bU bV bW bX bY bZ b_ ca cb ce cf cg ch ci C15_ xo) {aK aO aL aP aQ:List Int} {cO cP cQ cR cS:List AV} {aD:Bool} {td KV xp te:Int} {vR:Nat} {H:Hp} (eY:aI=aK.length) (eZ:ba=aO.length) (e_:aG=aL.length) (fa:bc=aP.length) (fb:bf=aQ.length) (h0:Out H0 Ri H (Rs.ow bS ⟨aT,aI,aU⟩ (ae .i64).z bX cO bY :: Rs.ow bT ⟨bA,ba,bD⟩ (ae .i64).z bZ cP b_ :: Rs.ow bU ⟨aM,aG,aN⟩ (ae .i64).z ca cQ cb :: Rs.ow bV ⟨bB,bc,bE⟩ (ae .i64).z ce cR cf :: Rs.ow bW ⟨bC,bf,bF⟩ (ae .i64).z cg cS ch :: Rs.blk aE [.i aB,.i aq,.sl ⟨aT,aI,aU⟩,.i aF,.i av,.sl ⟨bA,ba,bD⟩,.i ax,.i ar,.sl ⟨aM,aG,aN⟩,.i ay,.i az,.sl ⟨bB,bc,bE⟩,.i aJ,.i aA,.sl ⟨bC,bf,bF⟩,.bool aD] :: Rs.blk vR [.i KV,.i xp,.sl ⟨aM,aG,aN⟩] :: R0) λR=>CR (ae .i64) H R cO aK/\CR (ae .i64) H R cP aO/\CR (ae .i64) H R cQ aL/\CR (ae .i64) H R cR aP/\CR (ae .i64) H R cS aQ) {r:Bool×List Int×List Int×List Int×List Int×List Int} (hp:aR.pj3 F xo aK aO ax ar aL ay az aP aA aQ aD td xp te=some r):∃ v H',aR.j3 F (bH.tw F) (gu.tw F) (eQ.tw F) (gv.tw F) C15_ aE 0 td vR 0 te H=some (v,H')/\aR.Q H0 Ri R0 aB aq aF av ax ar ay az aJ aA aT bA aM bB bC aI ba aG bc bf aE aU bD aN bE bF bS bT bU bV bW bX bY bZ b_ ca cb ce cf cg ch ci r v H':=by
 obtain ⟨w0,s0,cT,dp,cZ,dx,dy⟩:=h0
 subst eY
 subst eZ
 subst e_
 subst fa
 subst fb
 unfold aR.pj3 at hp
 unfold aR.j3
 exact hC15 rfl rfl rfl rfl rfl ⟨w0,s0,cT,dp,cZ,dx,dy⟩ hp
def aR.pl15 (F:Nat) :Nat->List Int->List Int->Int->Int->List Int->Int->Int->List Int->Int->List Int->Bool->Int->Int->Int->Option (Bool×List Int×List Int×List Int×List Int×List Int)
 | 0,_,_,_,_,_,_,_,_,_,_,_,_,_,_=>none
 | k+1,aK,aO,ax,ar,aL,ay,az,aP,aA,aQ,aD,gC,pg,jR=>(bif (decide (jR<pg)) then ((bif (!aD) then ((ix aL (IntKind.i64.wrap ((IntKind.i64.wrap (gC * pg))+jR))).bind λn2=>(ix aL (IntKind.i64.wrap ((IntKind.i64.wrap (gC * pg))+gC))).bind λn5=>(gu.p F (gt aL n2) (gt aL n5)).bind λr7=>(bif (r7 != 0) then ((gv.p F ax ar aL ay az aP aA aQ aD jR gC (IntKind.i64.wrap (0 - r7))).bind λr10=>aR.pj3 F (aR.pl15 F k) aK aO ax ar r10.1 ay az r10.2.1 aA r10.2.2.1 r10.2.2.2 gC pg jR) else (aR.pj3 F (aR.pl15 F k) aK aO ax ar aL ay az aP aA aQ aD gC pg jR))) else (some (aD,aK,aO,aL,aP,aQ)))) else (some (aD,aK,aO,aL,aP,aQ)))
termination_by structural n=>n
theorem aR.l15_P {F:Nat} {H0:Hp} {Ri R0:List Rs} {aB aq aF av ax ar ay az aJ aA:Int} {aT bA aM bB bC:ON} {aI ba aG bc bf aE:Nat} {aU bD aN bE bF:Cap} {bS bT bU bV bW:Bool} {bX bY bZ b_ ca cb ce cf cg ch:List AV} {ci:List Int} :∀ k,aR.S15 H0 Ri R0 aB aq aF av ax ar ay az aJ aA aT bA aM bB bC aI ba aG bc bf aE aU bD aN bE bF bS bT bU bV bW bX bY bZ b_ ca cb ce cf cg ch ci (aR.l15 F (bH.tw F) (gu.tw F) (eQ.tw F) (gv.tw F)  k) (aR.pl15 F  k):=by
 intro k
 induction k with
 | zero=>unfold aR.S15;intros;rename_i hp;cases hp
 | succ k ih=>
  intro aK aO aL aP aQ cO cP cQ cR cS aD gC EW pg jR ky H eY eZ e_ fa fb h0 r hp
  obtain ⟨w0,s0,cT,dp,cZ,dx,dy⟩:=h0
  subst eY
  subst eZ
  subst e_
  subst fa
  subst fb
  unfold aR.pl15 at hp
  unfold aR.l15
  refine ac (ah (w0.ld (i:=6) rfl rfl)) ?_
  refine aZ hp (λhp=>?_) λhp=>?_
  ·refine ac (mN (w0.ld (i:=5) rfl rfl)) ?_
   refine aZ hp (λhp=>?_) λhp=>?_
   ·refine ac (ah (w0.ld (i:=6) rfl rfl)) ?_
    refine ac (ah (w0.ld (i:=6) rfl rfl)) ?_
    refine ac (aH (w0.ld (i:=6) rfl rfl)) ?_
    refine bH.inl ?_
    refine cJ w0 λH1 w1 s1=>?_
    refine ac (aH (w1.ld (i:=0) rfl rfl)) ?_
    refine ac (ah (w1.ld (i:=0) rfl rfl)) ?_
    obtain ⟨n2,g2,hp⟩:=ak hp
    obtain ⟨p2,q2,i2,h2,j2⟩:=W.ixo (E:=(ae .i64)) w1 (i:=3) rfl rfl (cZ.step s1) g2
    refine ac i2 ?_
    refine ⟨_,_,rfl,?_⟩
    refine ac rfl ?_
    refine fq (W.cons_of (Rn:=[_]) w0 w1 s1) ?_
    have h2:_=[_]:=h2
    subst h2
    refine ac (ah (j2 0 _ rfl)) ?_
    refine ac (ah (w1.ld (i:=7) rfl rfl)) ?_
    refine ac (ah (w1.ld (i:=7) rfl rfl)) ?_
    refine ac (aH (w1.ld (i:=7) rfl rfl)) ?_
    refine bH.inl ?_
    refine cJ w1 λH4 w4 s4=>?_
    refine ac (aH (w4.ld (i:=0) rfl rfl)) ?_
    refine ac (ah (w4.ld (i:=0) rfl rfl)) ?_
    obtain ⟨n5,g5,hp⟩:=ak hp
    obtain ⟨p5,q5,i5,h5,j5⟩:=W.ixo (E:=(ae .i64)) w4 (i:=4) rfl rfl (cZ.step (s1.trans s4)) g5
    refine ac i5 ?_
    refine ⟨_,_,rfl,?_⟩
    refine ac rfl ?_
    refine fq (W.cons_of (Rn:=[_]) w1 w4 s4) ?_
    have h5:_=[_]:=h5
    subst h5
    refine ac (ah (j5 0 _ rfl)) ?_
    obtain ⟨r7,e7,hp⟩:=ak hp
    refine aW (gu.P ⟨w4,trivial⟩ e7) ?_
    rintro _ H8 ⟨rfl,w8,s8,_⟩
    refine ac rfl ?_
    refine aZ hp (λhp=>?_) λhp=>?_
    ·obtain ⟨w9,s9⟩:=w8.pick' [4,5,6,7,0,1,2,3,8] 9 rfl rfl rfl
     obtain ⟨r10,e10,hp⟩:=ak hp
     refine aW (gv.P rfl rfl rfl ⟨w9,(cZ.step (s1.trans (s4.trans (s8.trans s9)))),(dx.step (s1.trans (s4.trans (s8.trans s9)))),(dy.step (s1.trans (s4.trans (s8.trans s9))))⟩ e10) ?_
     rintro _ H11 ⟨KW,NR,NS,rfl,hl11_0,hl11_1,hl11_2,w11,s11,f11_0,f11_1,f11_2⟩
     obtain ⟨w12,s12⟩:=w11.pick' [6,7,0,1,2,3,8] 9 rfl rfl rfl
     exact aR.j3_P (@ih) rfl rfl hl11_0 hl11_1 hl11_2 ⟨w12,(s0.trans (s1.trans (s4.trans (s8.trans (s9.trans (s11.trans s12)))))),(cT.step (s1.trans (s4.trans (s8.trans (s9.trans (s11.trans s12)))))),(dp.step (s1.trans (s4.trans (s8.trans (s9.trans (s11.trans s12)))))),(f11_0.step s12),(f11_1.step s12),(f11_2.step s12)⟩ hp
    ·obtain ⟨w13,s13⟩:=w8.pick' [2,3,4,5,6,7,8] 9 rfl rfl rfl
     exact aR.j3_P (@ih) rfl rfl rfl rfl rfl ⟨w13,(s0.trans (s1.trans (s4.trans (s8.trans s13)))),(cT.step (s1.trans (s4.trans (s8.trans s13)))),(dp.step (s1.trans (s4.trans (s8.trans s13)))),(cZ.step (s1.trans (s4.trans (s8.trans s13)))),(dx.step (s1.trans (s4.trans (s8.trans s13)))),(dy.step (s1.trans (s4.trans (s8.trans s13))))⟩ hp
   ·obtain ⟨w14,s14⟩:=w0.pick' [0,1,2,3,4,5] 7 rfl rfl rfl
    exact a_ hp ⟨_,_,_,_,_,rfl,rfl,rfl,rfl,rfl,rfl,w14,(s0.trans s14),(cT.step s14),(dp.step s14),(cZ.step s14),(dx.step s14),(dy.step s14)⟩
  ·obtain ⟨w15,s15⟩:=w0.pick' [0,1,2,3,4,5] 7 rfl rfl rfl
   exact a_ hp ⟨_,_,_,_,_,rfl,rfl,rfl,rfl,rfl,rfl,w15,(s0.trans s15),(cT.step s15),(dp.step s15),(cZ.step s15),(dx.step s15),(dy.step s15)⟩
def aR.pj4 (F:Nat)  (aK:List Int) (aO:List Int) (ax:Int) (ar:Int) (aL:List Int) (ay:Int) (az:Int) (aP:List Int) (aA:Int) (aQ:List Int) (aD:Bool) (pE:Int) (xq:Int):Option (Bool×List Int×List Int×List Int×List Int×List Int):=aR.pl15 F F aK aO ax ar aL ay az aP aA aQ aD pE xq (IntKind.i64.wrap (pE+1))
theorem aR.j4_P {F:Nat} {H0:Hp} {Ri R0:List Rs} {aB aq aF av ax ar ay az aJ aA:Int} {aT bA aM bB bC:ON} {aI ba aG bc bf aE:Nat} {aU bD aN bE bF:Cap} {bS bT bU bV bW:Bool} {bX bY bZ b_ ca cb ce cf cg ch:List AV} {ci:List Int}  {aK aO aL aP aQ:List Int} {cO cP cQ cR cS:List AV} {aD:Bool} {pE KX xq:Int} {vS:Nat} {H:Hp} (eY:aI=aK.length) (eZ:ba=aO.length) (e_:aG=aL.length) (fa:bc=aP.length) (fb:bf=aQ.length) (h0:Out H0 Ri H (Rs.ow bS ⟨aT,aI,aU⟩ (ae .i64).z bX cO bY :: Rs.ow bT ⟨bA,ba,bD⟩ (ae .i64).z bZ cP b_ :: Rs.ow bU ⟨aM,aG,aN⟩ (ae .i64).z ca cQ cb :: Rs.ow bV ⟨bB,bc,bE⟩ (ae .i64).z ce cR cf :: Rs.ow bW ⟨bC,bf,bF⟩ (ae .i64).z cg cS ch :: Rs.blk aE [.i aB,.i aq,.sl ⟨aT,aI,aU⟩,.i aF,.i av,.sl ⟨bA,ba,bD⟩,.i ax,.i ar,.sl ⟨aM,aG,aN⟩,.i ay,.i az,.sl ⟨bB,bc,bE⟩,.i aJ,.i aA,.sl ⟨bC,bf,bF⟩,.bool aD] :: Rs.blk vS [.i KX,.i xq,.sl ⟨aM,aG,aN⟩] :: R0) λR=>CR (ae .i64) H R cO aK/\CR (ae .i64) H R cP aO/\CR (ae .i64) H R cQ aL/\CR (ae .i64) H R cR aP/\CR (ae .i64) H R cS aQ) {r:Bool×List Int×List Int×List Int×List Int×List Int} (hp:aR.pj4 F  aK aO ax ar aL ay az aP aA aQ aD pE xq=some r):∃ v H',aR.j4 F (bH.tw F) (gu.tw F) (eQ.tw F) (gv.tw F)  aE 0 pE vS 0 H=some (v,H')/\aR.Q H0 Ri R0 aB aq aF av ax ar ay az aJ aA aT bA aM bB bC aI ba aG bc bf aE aU bD aN bE bF bS bT bU bV bW bX bY bZ b_ ca cb ce cf cg ch ci r v H':=by
 obtain ⟨w0,s0,cT,dp,cZ,dx,dy⟩:=h0
 subst eY
 subst eZ
 subst e_
 subst fa
 subst fb
 unfold aR.pj4 at hp
 unfold aR.j4
 exact aR.l15_P F rfl rfl rfl rfl rfl ⟨w0,s0,cT,dp,cZ,dx,dy⟩ hp
def aR.pl13 (F:Nat) :Nat->Int->List Int->Int->Int->List Int->Int->Int->List Int->Int->Int->List Int->Int->List Int->Bool->Int->Int->Int->Int->Option (Bool×List Int×List Int×List Int×List Int×List Int)
 | 0,_,_,_,_,_,_,_,_,_,_,_,_,_,_,_,_,_,_=>none
 | k+1,aq,aK,aF,av,aO,ax,ar,aL,ay,az,aP,aA,aQ,aD,dH,rA,oe,gl=>(bif (decide (gl<rA)) then ((bif (!aD) then ((ix aL (IntKind.i64.wrap ((IntKind.i64.wrap (gl * oe))+dH))).bind λn2=>(ix aL (IntKind.i64.wrap ((IntKind.i64.wrap (dH * oe))+dH))).bind λn5=>(gu.p F (gt aL n2) (gt aL n5)).bind λr7=>(bif (r7 != 0) then ((eQ.p F aq aK aF av aO ar aL aD gl dH (IntKind.i64.wrap (0 - r7))).bind λr10=>aR.pj5 F (aR.pl13 F k) aq r10.1 aF av r10.2.1 ax ar r10.2.2.1 ay az aP aA aQ r10.2.2.2 dH rA oe gl) else (aR.pj5 F (aR.pl13 F k) aq aK aF av aO ax ar aL ay az aP aA aQ aD dH rA oe gl))) else (aR.pj4 F aK aO ax ar aL ay az aP aA aQ aD dH oe))) else (aR.pj4 F aK aO ax ar aL ay az aP aA aQ aD dH oe))
termination_by structural n=>n
end
end Go.Proofs.Ytnkgeongfneafaa.AE
