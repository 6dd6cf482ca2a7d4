import Derived.Test.YtokekkacliomkaaT1
import Derived.Test.YtokekkacliomkaaE2
set_option linter.unusedVariables false
set_option linter.unusedSimpArgs false
namespace Go.Proofs.Ytokekkacliomkaa.AE
open Go Go.AE Go.Proofs IntKind
set_option linter.unusedVariables false
variable {F:Nat} {H H0:Hp} {Ri R0:asy}
set_option maxHeartbeats 4000000
set_option maxRecDepth 100000
noncomputable section
theorem bf.inl {aa:Int} {ac:Int} {aM:Sl} {au:Int} {ci:Int} {K:atB} {Q:atA} (h:∃ u H1,((Hp.new H [(.i aa),(.i ac),(.sl aM)]).bind λH6=>(Hp.ldSl H6 H.length 2).bind λs7=>(Hp.ldI H6 .i64 H.length 1).bind λn8=>(Sl.idx s7 (wrap .i64 ((wrap .i64 (au * n8))+ci)) 1).bind λp9=>some ((.ptr p9.1 p9.2),H6))=some (u,H1)/\∃ v H',K (u,H1)=some (v,H')/\Q v H'):∃ v H',(bf.tw F aa ac aM au ci H).bind K=some (v,H')/\Q v H':=Lp h
theorem dx.inl {aa:Int} {ac:Int} {aM:Sl} {au:Int} {K:atB} {Q:atA} (h:∃ u H1,((Hp.new H [(.i aa),(.i ac),(.sl aM)]).bind λH5=>(Hp.ldSl H5 H.length 2).bind λs6=>(Hp.ldI H5 .i64 H.length 1).bind λn7=>(Hp.ldI H5 .i64 H.length 1).bind λn8=>(Sl.cut s6 1 (wrap .i64 (au * n7)) (wrap .i64 ((wrap .i64 (au+1)) * n8))).bind λs9=>some ((.sl s9),H5))=some (u,H1)/\∃ v H',K (u,H1)=some (v,H')/\Q v H'):∃ v H',(dx.tw F aa ac aM au H).bind K=some (v,H')/\Q v H':=Lp h
theorem gd.inl {aa:Nat} {ac:Nat} {ai:Nat} {au:Nat} {ci:Int} {kE:Int} {K:atB} {Q:atA} (h:∃ u H1,((fX.tw F ci kE 2000000000000 H).bind λr7=>((r7.1).asTup 2).bind λl8=>(l8[0]?).bind λv9=>((v9).asI .i64).bind λn10=>(l8[1]?).bind λv11=>((v11).asB).bind λb12=>(Hp.ldI r7.2 .i64 ai au).bind λn13=>(Hp.st r7.2 ai au (.i (wrap .i64 (n13+n10)))).bind λH14=>(bif (!b12) then ((Hp.st H14 aa (ac+15) (.bool true)).bind λH15=>(Hp.st H15 ai au (.i 0)).bind λH16=>some ((.tup []),H16)) else ((Hp.ldI H14 .i64 ai au).bind λn17=>(cW.tw F n17 H14).bind λr18=>((r18.1).asI .i64).bind λn19=>(bif (decide (n19>1000000000000)) then ((Hp.st r18.2 aa (ac+15) (.bool true)).bind λH20=>(Hp.st H20 ai au (.i 0)).bind λH21=>some ((.tup []),H21)) else (some ((.tup []),r18.2))))))=some (u,H1)/\∃ v H',K (u,H1)=some (v,H')/\Q v H'):∃ v H',(gd.tw F aa ac ai au ci kE H).bind K=some (v,H')/\Q v H':=Lp h
theorem jU.inl {aa:Int} {ac:Int} {aM:Sl} {K:atB} {Q:atA} (h:∃ u H1,((Hp.new H [(.i aa),(.i ac),(.sl aM)]).bind λH4=>(Hp.ldI H4 .i64 H.length 0).bind λn5=>(cK.tw F n5 H4).bind λr6=>((r6.1).asAgg 3).bind λl7=>(l7[0]?).bind λv8=>((v8).asI .i64).bind λn9=>(l7[1]?).bind λv10=>((v10).asI .i64).bind λn11=>(l7[2]?).bind λv12=>((v12).asSl).bind λs13=>(if aX H4 r6.2 then ((Hp.ldI r6.2 .i64 H.length 0).bind λn14=>(cK.tw F n14 r6.2).bind λr15=>((r15.1).asAgg 3).bind λl16=>(l16[0]?).bind λv17=>((v17).asI .i64).bind λn18=>(l16[1]?).bind λv19=>((v19).asI .i64).bind λn20=>(l16[2]?).bind λv21=>((v21).asSl).bind λs22=>(if aX r6.2 r15.2 then ((Hp.ldI r15.2 .i64 H.length 0).bind λn23=>(Hp.ldI r15.2 .i64 H.length (0+1)).bind λn24=>(Hp.ldSl r15.2 H.length (0+2)).bind λs25=>(ib.tw F n23 n24 s25 r15.2).bind λr26=>((r26.1).asAgg 3).bind λl27=>(l27[0]?).bind λv28=>((v28).asI .i64).bind λn29=>(l27[1]?).bind λv30=>((v30).asI .i64).bind λn31=>(l27[2]?).bind λv32=>((v32).asSl).bind λs33=>(if aX r15.2 r26.2 then ((Hp.ldI r26.2 .i64 H.length 1).bind λn34=>(cK.tw F n34 r26.2).bind λr35=>((r35.1).asAgg 3).bind λl36=>(l36[0]?).bind λv37=>((v37).asI .i64).bind λn38=>(l36[1]?).bind λv39=>((v39).asI .i64).bind λn40=>(l36[2]?).bind λv41=>((v41).asSl).bind λs42=>(if aX r26.2 r35.2 then ((Hp.ldI r35.2 .i64 H.length 1).bind λn43=>(cK.tw F n43 r35.2).bind λr44=>((r44.1).asAgg 3).bind λl45=>(l45[0]?).bind λv46=>((v46).asI .i64).bind λn47=>(l45[1]?).bind λv48=>((v48).asI .i64).bind λn49=>(l45[2]?).bind λv50=>((v50).asSl).bind λs51=>(Hp.new r44.2 [(.i n9),(.i n11),(.sl s13),(.i n18),(.i n20),(.sl s22),(.i n29),(.i n31),(.sl s33),(.i n38),(.i n40),(.sl s42),(.i n47),(.i n49),(.sl s51),(.bool false)]).bind λH52=>some ((.ptr r44.2.length 0),H52)) else none)) else none)) else none)) else none))=some (u,H1)/\∃ v H',K (u,H1)=some (v,H')/\Q v H'):∃ v H',(jU.tw F aa ac aM H).bind K=some (v,H')/\Q v H':=Lp h
def iH.Q (H0:Hp) (Ri R0:asy)  (r:Bool) (v:AV) (H':Hp):Prop:=v=(.bool r)/\Out H0 Ri H' (R0) λR=>True
def iH.p (F:Nat) (aY:asw):Option (Bool):=some (decide ((aY.length:Int)>4096))
theorem iH.P {dN cQ dO aY} (gz:cQ=aY.length) (h0:Inn H R0 λR=>ROs (fz .u8) H R ⟨dN,cQ,dO⟩ aY) {r:Bool} (hp:iH.p F aY=some r):Rt (iH.tw F ⟨dN,cQ,dO⟩ H) (iH.Q H R0 R0  r):=by
 obtain ⟨w0,gZ⟩:=h0
 subst gz
 unfold iH.p at hp
 unfold iH.tw iH.twX
 have s0:=w0.rf
 exact aP hp ⟨rfl,w0,s0,trivial⟩
def cV.Q (H0:Hp) (Ri R0:asy)  (r:asZ) (v:AV) (H':Hp):Prop:=∃ o0a:ON,∃ o0n:Nat,∃ o0c:Cap,∃ ob0:Nat,v=(.ptr ob0 0)/\o0n=(r.1).length/\Out H0 Ri H' (Rs.blk ob0 [.sl ⟨o0a,o0n,o0c⟩,.i r.2.1,.int .u64 r.2.2]::R0) λR=>ROs (fz .u8) H' R ⟨o0a,o0n,o0c⟩ (r.1)
def cV.S29 (H0:Hp) (Ri R0:asy)  (C:atM) (pC:atN):Prop:=∀ {GJ BP dS GK jX zU zV kc},∀ {H:Hp},BP=jX.length->(Out H0 Ri H (Rs.blk dS [.sl ⟨GJ,BP,GK⟩,.i zU,.int .u64 zV]::R0) λR=>ROs (fz .u8) H R ⟨GJ,BP,GK⟩ jX)->∀ {r:asZ},pC jX zU zV kc=some r->Rt (C ⟨GJ,BP,GK⟩ dS 0 kc H) (cV.Q H0 Ri R0  r)
def cV.pl29 (F:Nat) :Nat->List Int->Int->Int->Int->Option (List Int×Int×Int)
 | 0,_,_,_,_=>none
 | k+1,jX,zU,zV,kc=>(bif (decide (kc<(jX.length:Int))) then ((ix jX kc).bind λn1=>cV.pl29 F k jX zU (IntKind.u64.wrap ((IntKind.u64.wrap ((IntKind.u64.wrap (zV * 1099511628211))+(IntKind.u64.wrap (gt jX n1))))+3)) (wrap .i64 (kc+1))) else (some (jX,zU,zV)))
theorem cV.l29_P  :∀ k,cV.S29 H0 Ri R0  (cV.l29 F   k) (cV.pl29 F  k):=by
 intro k
 induction k with
 | zero=>unfold cV.S29;intros;rename_i hp;cases hp
 | succ k ih=>
  intro GJ BP dS GK jX zU zV kc H ahK h0 r hp
  obtain ⟨w0,s0,Ma⟩:=h0
  subst ahK
  unfold cV.pl29 at hp
  unfold cV.l29
  refine aH hp (λhp=>?_) λhp=>?_
  ·refine lI w0 0 ?_
   obtain ⟨n1,g1,hp⟩:=ah hp
   obtain ⟨p1,q1,i1,h1,j1⟩:=ROs.ixr Ma rfl g1
   refine aA i1 ?_
   have h1:_=[_]:=h1
   subst h1
   refine aA (cy (j1 0 _ rfl)) ?_
   refine aw w0 0 λH2 w2 s2=>?_
   exact ih rfl ⟨w2,(s0.trans s2),(Ma.step s2)⟩ hp
  ·exact aP hp ⟨_,_,_,_,rfl,rfl,w0,s0,Ma⟩
def cV.p (F:Nat) (aY:asw) (aG:Int):Option (List Int×Int×Int):=cV.pl29 F F aY 0 (IntKind.u64.wrap ((IntKind.u64.wrap (aG * 7919))+(IntKind.u64.wrap (aY.length:Int)))) 0
theorem cV.P {dN cQ dO aY aG} (gz:cQ=aY.length) (h0:Inn H R0 λR=>ROs (fz .u8) H R ⟨dN,cQ,dO⟩ aY) {r:asZ} (hp:cV.p F aY aG=some r):Rt (cV.tw F ⟨dN,cQ,dO⟩ aG H) (cV.Q H R0 R0  r):=by
 obtain ⟨w0,gZ⟩:=h0
 subst gz
 unfold cV.p at hp
 unfold cV.tw cV.twX
 have s0:=w0.rf
 refine bQ w0 λH1 w1 s1=>?_
 exact cV.l29_P F rfl ⟨w1,(s0.trans s1),(gZ.step s1)⟩ hp
def cT.Q (H0:Hp) (Ri R0:asy)  (r:asZ) (v:AV) (H':Hp):Prop:=∃ o0a:ON,∃ o0n:Nat,∃ o0c:Cap,∃ ob0:Nat,v=(.ptr ob0 0)/\o0n=(r.1).length/\Out H0 Ri H' (Rs.blk ob0 [.sl ⟨o0a,o0n,o0c⟩,.i r.2.1,.i r.2.2]::R0) λR=>ROs (fz .u8) H' R ⟨o0a,o0n,o0c⟩ (r.1)
def cT.S29 (H0:Hp) (Ri R0:asy)  (C:atM) (pC:atN):Prop:=∀ {th qD dr tn gL uC uD jG},∀ {H:Hp},qD=gL.length->(Out H0 Ri H (Rs.blk dr [.sl ⟨th,qD,tn⟩,.i uC,.i uD]::R0) λR=>ROs (fz .u8) H R ⟨th,qD,tn⟩ gL)->∀ {r:asZ},pC gL uC uD jG=some r->Rt (C ⟨th,qD,tn⟩ dr 0 jG H) (cT.Q H0 Ri R0  r)
def cT.pl29 (F:Nat) :Nat->List Int->Int->Int->Int->Option (List Int×Int×Int)
 | 0,_,_,_,_=>none
 | k+1,gL,uC,uD,jG=>(bif (decide (jG<(gL.length:Int))) then ((bif (decide (jG<64)) then ((ix gL jG).bind λn1=>cT.pl29 F k gL uC (Int.tmod (wrap .i64 ((wrap .i64 (uD * 37))+(wrap .i64 (gt gL n1)))) 2147483647) (wrap .i64 (jG+1))) else (some (gL,uC,uD)))) else (some (gL,uC,uD)))
theorem cT.l29_P  :∀ k,cT.S29 H0 Ri R0  (cT.l29 F   k) (cT.pl29 F  k):=by
 intro k
 induction k with
 | zero=>unfold cT.S29;intros;rename_i hp;cases hp
 | succ k ih=>
  intro th qD dr tn gL uC uD jG H Mb h0 r hp
  obtain ⟨w0,s0,uE⟩:=h0
  subst Mb
  unfold cT.pl29 at hp
  unfold cT.l29
  refine aH hp (λhp=>?_) λhp=>?_
  ·refine aH hp (λhp=>?_) λhp=>?_
   ·refine lI w0 0 ?_
    obtain ⟨n1,g1,hp⟩:=ah hp
    obtain ⟨p1,q1,i1,h1,j1⟩:=ROs.ixr uE rfl g1
    refine aA i1 ?_
    have h1:_=[_]:=h1
    subst h1
    refine aA (cy (j1 0 _ rfl)) ?_
    refine aw w0 0 λH2 w2 s2=>?_
    exact ih rfl ⟨w2,(s0.trans s2),(uE.step s2)⟩ hp
   ·exact aP hp ⟨_,_,_,_,rfl,rfl,w0,s0,uE⟩
  ·exact aP hp ⟨_,_,_,_,rfl,rfl,w0,s0,uE⟩
def cT.p (F:Nat) (aY:asw):Option (List Int×Int×Int):=cT.pl29 F F aY 0 97531 0
theorem cT.P {dN cQ dO aY} (gz:cQ=aY.length) (h0:Inn H R0 λR=>ROs (fz .u8) H R ⟨dN,cQ,dO⟩ aY) {r:asZ} (hp:cT.p F aY=some r):Rt (cT.tw F ⟨dN,cQ,dO⟩ H) (cT.Q H R0 R0  r):=by
 obtain ⟨w0,gZ⟩:=h0
 subst gz
 unfold cT.p at hp
 unfold cT.tw cT.twX
 have s0:=w0.rf
 refine bQ w0 λH1 w1 s1=>?_
 exact cT.l29_P F rfl ⟨w1,(s0.trans s1),(gZ.step s1)⟩ hp
def bI.Q (H0:Hp) (Ri R0:asy) (fP:ON) (fg aa:Nat) (fQ:Cap) (dy:asw) (r:as7) (v:AV) (H':Hp):Prop:=v=(.i r.1)/\Out H0 Ri H' (Rs.blk aa [.sl ⟨fP,fg,fQ⟩,.i (r.2.1),.i (r.2.2)]::R0) λR=>True
def bI.pj1 (F:Nat)  (nZ:Int) (wh:Int) (az:Int) (aW:Int):Option (Int×Int×Int):=(if nZ=0 then none else (some ((Int.tmod wh nZ),az,aW)))
theorem bI.j1_P {eU dz aO eV cR}  {nZ wh az aW} (kI:dz=cR.length) (h0:Out H0 Ri H (Rs.blk aO [.sl ⟨eU,dz,eV⟩,.i az,.i aW]::R0) λR=>ROs (fz .u8) H R ⟨eU,dz,eV⟩ cR) {r:as7} (hp:bI.pj1 F  nZ wh az aW=some r):Rt (bI.j1 F   nZ wh H) (bI.Q H0 Ri R0 eU dz aO eV cR r):=by
 obtain ⟨w0,s0,jY⟩:=h0
 subst kI
 unfold bI.pj1 at hp
 unfold bI.j1
 obtain ⟨g1,hp⟩:=nV hp
 refine nW g1 ?_
 exact aP hp ⟨rfl,w0,s0,trivial⟩
def bI.pj2 (F:Nat)  (wi:Int) (wj:Int) (az:Int) (aW:Int):Option (Int×Int×Int):=bI.pj1 F wi wj az aW
theorem bI.j2_P {eU dz aO eV cR}  {wi wj az aW} (kI:dz=cR.length) (h0:Out H0 Ri H (Rs.blk aO [.sl ⟨eU,dz,eV⟩,.i az,.i aW]::R0) λR=>ROs (fz .u8) H R ⟨eU,dz,eV⟩ cR) {r:as7} (hp:bI.pj2 F  wi wj az aW=some r):Rt (bI.j2 F   wi wj H) (bI.Q H0 Ri R0 eU dz aO eV cR r):=by
 obtain ⟨w0,s0,jY⟩:=h0
 subst kI
 unfold bI.pj2 at hp
 unfold bI.j2
 exact bI.j1_P rfl ⟨w0,s0,jY⟩ hp
def bI.pj3 (F:Nat)  (r_:Int) (sb:Int) (az:Int) (aW:Int):Option (Int×Int×Int):=(if r_=0 then none else (some ((Int.tmod sb r_),az,aW)))
theorem bI.j3_P {eU dz aO eV cR}  {r_ sb az aW} (kI:dz=cR.length) (h0:Out H0 Ri H (Rs.blk aO [.sl ⟨eU,dz,eV⟩,.i az,.i aW]::R0) λR=>ROs (fz .u8) H R ⟨eU,dz,eV⟩ cR) {r:as7} (hp:bI.pj3 F  r_ sb az aW=some r):Rt (bI.j3 F   r_ sb H) (bI.Q H0 Ri R0 eU dz aO eV cR r):=by
 obtain ⟨w0,s0,jY⟩:=h0
 subst kI
 unfold bI.pj3 at hp
 unfold bI.j3
 obtain ⟨g1,hp⟩:=nV hp
 refine nW g1 ?_
 exact aP hp ⟨rfl,w0,s0,trivial⟩
def bI.p (F:Nat) (dy:asw) (az:Int) (aW:Int) (ai:Int):Option (Int×Int×Int):=(bif (decide (ai<=1)) then (some (0,az,aW)) else ((bif (decide (az<(dy.length:Int))) then ((ix dy az).bind λn2=>(bif (decide (ai<=256)) then ((bif ((Int.tmod (wrap .i64 (az+1)) 2)==0) then ((ix dy (wrap .i64 ((wrap .i64 (az+1)) - 1))).bind λn4=>bI.pj2 F ai (wrap .i64 (gt dy n4)) (wrap .i64 (az+1)) (Int.tmod (wrap .i64 ((wrap .i64 (aW * 48271))+11)) 2147483647)) else (bI.pj2 F ai (wrap .i64 ((wrap .i64 (Int.tdiv (Int.tmod (wrap .i64 ((wrap .i64 (aW * 48271))+11)) 2147483647) 11))+(wrap .i64 (gt dy n2)))) (wrap .i64 (az+1)) (Int.tmod (wrap .i64 ((wrap .i64 (aW * 48271))+11)) 2147483647)))) else (bI.pj1 F ai (wrap .i64 ((wrap .i64 (Int.tdiv (Int.tmod (wrap .i64 ((wrap .i64 (aW * 48271))+11)) 2147483647) 11))+(wrap .i64 (gt dy n2)))) (wrap .i64 (az+1)) (Int.tmod (wrap .i64 ((wrap .i64 (aW * 48271))+11)) 2147483647)))) else (bI.pj3 F ai (wrap .i64 (Int.tdiv (Int.tmod (wrap .i64 ((wrap .i64 (aW * 48271))+11)) 2147483647) 11)) az (Int.tmod (wrap .i64 ((wrap .i64 (aW * 48271))+11)) 2147483647)))))
theorem bI.P {fP fg aa fQ dy az aW ai} (rn:fg=dy.length) (h0:Inn H (Rs.blk aa [.sl ⟨fP,fg,fQ⟩,.i az,.i aW]::R0) λR=>ROs (fz .u8) H R ⟨fP,fg,fQ⟩ dy) {r:as7} (hp:bI.p F dy az aW ai=some r):Rt (bI.tw F aa 0 ai H) (bI.Q H (Rs.blk aa [.sl ⟨fP,fg,fQ⟩,.i az,.i aW]::R0) R0 fP fg aa fQ dy r):=by
 obtain ⟨w0,iY⟩:=h0
 subst rn
 unfold bI.p at hp
 unfold bI.tw bI.twX
 have s0:=w0.rf
 refine aH hp (λhp=>?_) λhp=>?_
 ·exact aP hp ⟨rfl,w0,s0,trivial⟩
 ·refine lI w0 0 ?_
  refine aw w0 0 λH1 w1 s1=>?_
  refine lI w1 0 ?_
  refine lI w1 0 ?_
  refine lSl w1 0 ?_
  refine aH hp (λhp=>?_) λhp=>?_
  ·refine lSl w1 0 ?_
   refine lI w1 0 ?_
   obtain ⟨n2,g2,hp⟩:=ah hp
   obtain ⟨p2,q2,i2,h2,j2⟩:=ROs.ixr (iY.step s1) rfl g2
   refine aA i2 ?_
   have h2:_=[_]:=h2
   subst h2
   refine aA (cy (j2 0 _ rfl)) ?_
   refine lI w1 0 ?_
   refine aw w1 0 λH3 w3 s3=>?_
   refine aH hp (λhp=>?_) λhp=>?_
   ·refine lI w3 0 ?_
    refine aH hp (λhp=>?_) λhp=>?_
    ·refine lSl w3 0 ?_
     refine lI w3 0 ?_
     obtain ⟨n4,g4,hp⟩:=ah hp
     obtain ⟨p4,q4,i4,h4,j4⟩:=ROs.ixr (iY.step (s1.trans s3)) rfl g4
     refine aA i4 ?_
     have h4:_=[_]:=h4
     subst h4
     refine aA (cy (j4 0 _ rfl)) ?_
     exact bI.j2_P rfl ⟨w3,(s0.trans (s1.trans s3)),(iY.step (s1.trans s3))⟩ hp
    ·exact bI.j2_P rfl ⟨w3,(s0.trans (s1.trans s3)),(iY.step (s1.trans s3))⟩ hp
   ·exact bI.j1_P rfl ⟨w3,(s0.trans (s1.trans s3)),(iY.step (s1.trans s3))⟩ hp
  ·exact bI.j3_P rfl ⟨w1,(s0.trans s1),(iY.step s1)⟩ hp
def cD.Q (H0:Hp) (Ri R0:asy)  (r:asK) (v:AV) (H':Hp):Prop:=∃ o2a:ON,∃ o2n:Nat,∃ o2k:List AV,v=(.agg [(.i r.1),(.i r.2.1),(.sl ⟨o2a,o2n,.ex o2n⟩)])/\o2n=(r.2.2).length/\Out H0 Ri H' (Rs.own ⟨o2a,o2n,.ex o2n⟩ eI.z o2k::R0) λR=>CR eI H' R o2k (r.2.2)
def cD.p (F:Nat) (aa:Int) (aG:Int):Option (Int×Int×List Int):=(mkn (wrap .i64 (aa * aG)) (0:Int)).bind λl2=>some (aa,aG,l2)
theorem cD.P {aa aG}  (h0:Inn H R0 λR=>True) {r:asK} (hp:cD.p F aa aG=some r):Rt (cD.tw F aa aG H) (cD.Q H R0 R0  r):=by
 obtain ⟨w0,_⟩:=h0
 unfold cD.p at hp
 unfold cD.tw cD.twX
 have s0:=w0.rf
 refine bQ w0 λH1 w1 s1=>?_
 obtain ⟨l2,e2,hp⟩:=ah hp
 refine Lq eI (0:Int) w1 rfl rfl rfl e2 λH3 k3 w3 s3 c3=>?_
 refine aw w3 1 λH4 w4 s4=>?_
 refine aw w4 1 λH5 w5 s5=>?_
 refine aw w5 1 λH6 w6 s6=>?_
 refine lI w6 1 ?_
 refine lI w6 1 ?_
 refine lSl w6 1 ?_
 obtain ⟨w7,s7⟩:=w6.pp [0] 2
 exact aP hp ⟨_,_,_,rfl,rfl,w7,(s0.trans (s1.trans (s3.trans (s4.trans (s5.trans (s6.trans s7)))))),(c3.step (s4.trans (s5.trans (s6.trans s7))))⟩
def ca.Q (H0:Hp) (Ri R0:asy) (fP:ON) (fg aa:Nat) (fQ:Cap) (dy:asw) (r:ats) (v:AV) (H':Hp):Prop:=∃ o2a:ON,∃ o2n:Nat,∃ o2c:Cap,∃ o2k:List AV,v=(.agg [(.i r.1),(.i r.2.1),(.sl ⟨o2a,o2n,o2c⟩)])/\o2n=(r.2.2.1).length/\Out H0 Ri H' (Rs.own ⟨o2a,o2n,o2c⟩ eI.z o2k::Rs.blk aa [.sl ⟨fP,fg,fQ⟩,.i (r.2.2.2.1),.i (r.2.2.2.2)]::R0) λR=>CR eI H' R o2k (r.2.2.1)
def ca.S61 (H0:Hp) (Ri R0:asy) (eU:ON) (dz aO:Nat) (eV:Cap) (cR:asw) (C:asY) (pC:atG):Prop:=∀ {az aW VW VX uF uG lg li Mc Md GL iu GM lf Me Mf Mg qE Mh Mi},∀ {H:Hp},dz=cR.length->GL=Mg.length->GM=qE.length->(Out H0 Ri H (Rs.blk aO [.sl ⟨eU,dz,eV⟩,.i az,.i aW]::Rs.own ⟨Mc,GL,Me⟩ eI.z Mh::Rs.blk iu [.i VW,.i VX,.sl ⟨Mc,GL,Me⟩]::Rs.own ⟨Md,GM,Mf⟩ eI.z Mi::Rs.blk lf [.i uF,.i uG,.sl ⟨Md,GM,Mf⟩]::R0) λR=>ROs (fz .u8) H R ⟨eU,dz,eV⟩ cR/\CR eI H R Mh Mg/\CR eI H R Mi qE)->∀ {r:ats},pC cR az aW uF uG qE lg li=some r->Rt (C aO 0 iu 0 lf 0 lg li H) (ca.Q H0 Ri R0 eU dz aO eV cR r)
def ca.pj2 (F:Nat) (dV:atG) (cR:asw) (az:Int) (aW:Int) (GN:Int) (GO:Int) (BQ:asw) (wk:Int) (wl:Int):Option (Int×Int×List Int×Int×Int):=dV cR az aW GN GO BQ wk (wrap .i64 (wl+1))
theorem ca.j2_P {eU dz aO eV cR} {C61_:asY} {dV:atG} (hC61:ca.S61 H0 Ri R0 eU dz aO eV cR C61_ dV) {az aW ahL ahM GN GO wk wl VY VZ Mj Ev Ml Ew V_ Wa Wb BQ Wc Wd} (kI:dz=cR.length) (ahN:Mj=Wb.length) (ahO:Ml=BQ.length) (h0:Out H0 Ri H (Rs.blk aO [.sl ⟨eU,dz,eV⟩,.i az,.i aW]::Rs.own ⟨VY,Mj,V_⟩ eI.z Wc::Rs.blk Ev [.i ahL,.i ahM,.sl ⟨VY,Mj,V_⟩]::Rs.own ⟨VZ,Ml,Wa⟩ eI.z Wd::Rs.blk Ew [.i GN,.i GO,.sl ⟨VZ,Ml,Wa⟩]::R0) λR=>ROs (fz .u8) H R ⟨eU,dz,eV⟩ cR/\CR eI H R Wc Wb/\CR eI H R Wd BQ) {r:ats} (hp:ca.pj2 F dV cR az aW GN GO BQ wk wl=some r):Rt (ca.j2 F (cD.tw F) (bI.tw F) C61_ aO 0 Ev 0 Ew 0 wk wl H) (ca.Q H0 Ri R0 eU dz aO eV cR r):=by
 obtain ⟨w0,s0,jY,ahP,ahQ⟩:=h0
 subst kI
 subst ahN
 subst ahO
 unfold ca.pj2 at hp
 unfold ca.j2
 exact hC61 rfl rfl rfl ⟨w0,s0,jY,ahP,ahQ⟩ hp
def ca.pl61 (F:Nat) :Nat->List Int->Int->Int->Int->Int->List Int->Int->Int->Option (Int×Int×List Int×Int×Int)
 | 0,_,_,_,_,_,_,_,_=>none
 | k+1,cR,az,aW,uF,uG,qE,lg,li=>(bif (decide (li<(qE.length:Int))) then ((bI.p F cR az aW 3).bind λr1=>(bif (decide (r1.1>0)) then ((bI.p F cR r1.2.1 r1.2.2 (wrap .i64 ((wrap .i64 (2 * lg))+1))).bind λr3=>(ix qE li).bind λn5=>(some (qE.set n5 (wrap .i64 (r3.1 - lg)))).bind λl6=>ca.pj2 F (ca.pl61 F k) cR r3.2.1 r3.2.2 uF uG l6 lg li) else (ca.pj2 F (ca.pl61 F k) cR r1.2.1 r1.2.2 uF uG qE lg li))) else (some (uF,uG,qE,az,aW)))
theorem ca.l61_P {eU dz aO eV cR} :∀ k,ca.S61 H0 Ri R0 eU dz aO eV cR (ca.l61 F (cD.tw F) (bI.tw F)  k) (ca.pl61 F  k):=by
 intro k
 induction k with
 | zero=>unfold ca.S61;intros;rename_i hp;cases hp
 | succ k ih=>
  intro az aW VW VX uF uG lg li Mc Md GL iu GM lf Me Mf Mg qE Mh Mi H kI ahR ahS h0 r hp
  obtain ⟨w0,s0,jY,We,GP⟩:=h0
  subst kI
  subst ahR
  subst ahS
  unfold ca.pl61 at hp
  unfold ca.l61
  refine lSl w0 4 ?_
  refine aH hp (λhp=>?_) λhp=>?_
  ·obtain ⟨r1,e1,hp⟩:=ah hp
   refine aR (bI.P rfl ⟨w0,jY⟩ e1) ?_
   rintro _ H2 ⟨rfl,w2,s2,_⟩
   refine br ?_
   refine aH hp (λhp=>?_) λhp=>?_
   ·refine lSl w2 4 ?_
    obtain ⟨r3,e3,hp⟩:=ah hp
    refine aR (bI.P rfl ⟨w2,(jY.step s2)⟩ e3) ?_
    rintro _ H4 ⟨rfl,w4,s4,_⟩
    refine br ?_
    obtain ⟨n5,g5,hp⟩:=ah hp
    obtain ⟨p5,q5,i5,h5,j5⟩:=W.ixo (E:=eI) w4 (i:=3) rfl rfl (GP.step (s2.trans s4)) g5
    refine aA i5 ?_
    obtain ⟨l6,e6,hp⟩:=ah hp
    refine gD eI w4 (i:=3) (j:=0) (p:=p5) rfl rfl (GP.step (s2.trans s4)) g5 i5 e6 rfl rfl (λ_ h=>by have h:_=[_]:=h;subst h;exact rfl) λH7 k7 w7 s7 c7=>?_
    refine Vu ⟨⟨(vT (mK (w4.ld (i:=4) rfl rfl)) (vU _ _)),(vT (mK (w2.ld (i:=4) rfl rfl)) (vU _ _)),trivial⟩,trivial⟩ ?_
    exact ca.j2_P (@ih) rfl rfl ((eQ e6).symm) ⟨w7,(s0.trans (s2.trans (s4.trans s7))),(jY.step (s2.trans (s4.trans s7))),(We.step (s2.trans (s4.trans s7))),c7⟩ hp
   ·exact ca.j2_P (@ih) rfl rfl rfl ⟨w2,(s0.trans s2),(jY.step s2),(We.step s2),(GP.step s2)⟩ hp
  ·refine lI w0 4 ?_
   refine lI w0 4 ?_
   refine lSl w0 4 ?_
   refine aw w0 2 λH8 w8 s8=>?_
   refine aw w8 2 λH9 w9 s9=>?_
   refine aw w9 2 λH10 w10 s10=>?_
   refine lI w10 2 ?_
   refine lI w10 2 ?_
   refine lSl w10 2 ?_
   obtain ⟨w11,s11⟩:=w10.pp [3,0] 5
   exact aP hp ⟨_,_,_,_,rfl,rfl,w11,(s0.trans (s8.trans (s9.trans (s10.trans s11)))),(GP.step (s8.trans (s9.trans (s10.trans s11))))⟩
def ca.p (F:Nat) (dy:asw) (az:Int) (aW:Int) (ai:Int) (cp:Int):Option (Int×Int×List Int×Int×Int):=(cD.p F ai cp).bind λr2=>(bI.p F dy az aW 6).bind λr9=>ca.pl61 F F dy r9.2.1 r9.2.2 r2.1 r2.2.1 r2.2.2 (wrap .i64 (1+r9.1)) 0
theorem ca.P {fP fg aa fQ dy az aW ai cp} (rn:fg=dy.length) (h0:Inn H (Rs.blk aa [.sl ⟨fP,fg,fQ⟩,.i az,.i aW]::R0) λR=>ROs (fz .u8) H R ⟨fP,fg,fQ⟩ dy) {r:ats} (hp:ca.p F dy az aW ai cp=some r):Rt (ca.tw F aa 0 ai cp H) (ca.Q H (Rs.blk aa [.sl ⟨fP,fg,fQ⟩,.i az,.i aW]::R0) R0 fP fg aa fQ dy r):=by
 obtain ⟨w0,iY⟩:=h0
 subst rn
 unfold ca.p at hp
 unfold ca.tw ca.twX
 have s0:=w0.rf
 refine bQ w0 λH1 w1 s1=>?_
 obtain ⟨r2,e2,hp⟩:=ah hp
 refine aR (cD.P ⟨w1,trivial⟩ e2) ?_
 rintro _ H3 ⟨o2a_3,o2n_3,o2k_3,rfl,rfl,w3,s3,f3_0⟩
 refine br (br (br (br (br (br (br ?_))))))
 refine bQ w3 λH4 w4 s4=>?_
 refine aw w4 0 λH5 w5 s5=>?_
 refine aw w5 0 λH6 w6 s6=>?_
 refine aw w6 0 λH7 w7 s7=>?_
 obtain ⟨w8,s8⟩:=w7.pp [3,0,1,2] 4
 obtain ⟨r9,e9,hp⟩:=ah hp
 refine aR (bI.P rfl ⟨w8,(iY.step (s1.trans (s3.trans (s4.trans (s5.trans (s6.trans (s7.trans s8)))))))⟩ e9) ?_
 rintro _ H10 ⟨rfl,w10,s10,_⟩
 refine br ?_
 obtain ⟨w11,s11⟩:=w10.nilS eI.z (by decide)
 obtain ⟨w12,s12⟩:=w11.pp [1,0,4,3,2] 5
 exact ca.l61_P F rfl rfl rfl ⟨w12,(s0.trans (s1.trans (s3.trans (s4.trans (s5.trans (s6.trans (s7.trans (s8.trans (s10.trans (s11.trans s12)))))))))),(iY.step (s1.trans (s3.trans (s4.trans (s5.trans (s6.trans (s7.trans (s8.trans (s10.trans (s11.trans s12)))))))))),((CR.empty:CR eI _ _ [] []).step s12),(f3_0.step (s4.trans (s5.trans (s6.trans (s7.trans (s8.trans (s10.trans (s11.trans s12))))))))⟩ hp
def fC.Q (H0:Hp) (Ri R0:asy) (fP:ON) (fg aa:Nat) (fQ:Cap) (r:ats) (v:AV) (H':Hp):Prop:=∃ o2a:ON,∃ o2n:Nat,∃ o2c:Cap,∃ o2k:List AV,v=(.agg [(.i r.1),(.i r.2.1),(.sl ⟨o2a,o2n,o2c⟩)])/\o2n=(r.2.2.1).length/\Out H0 Ri H' (Rs.own ⟨o2a,o2n,o2c⟩ eI.z o2k::Rs.blk aa [.sl ⟨fP,fg,fQ⟩,.i (r.2.2.2.1),.i (r.2.2.2.2)]::R0) λR=>CR eI H' R o2k (r.2.2.1)
def fC.p (F:Nat) (dy:asw) (az:Int) (aW:Int):Option (Int×Int×List Int×Int×Int):=(bI.p F dy az aW 5).bind λr3=>(bI.p F dy r3.2.1 r3.2.2 5).bind λr5=>(ca.p F dy r5.2.1 r5.2.2 r3.1 r5.1).bind λr7=>(bI.p F dy r7.2.2.2.1 r7.2.2.2.2 24).bind λr14=>(bif (r14.1==0) then (some ((wrap .i64 (r7.1+1)),r7.2.1,r7.2.2.1,r14.2.1,r14.2.2)) else ((bif (r14.1==1) then ((apn r7.2.2.1 ([0]:List Int)).bind λl22=>some (r7.1,r7.2.1,l22,r14.2.1,r14.2.2)) else ((bif (r14.1==2) then ((bif (decide ((r7.2.2.1.length:Int)>0)) then ((bI.p F dy r14.2.1 r14.2.2 (r7.2.2.1.length:Int)).bind λr29=>(bI.p F dy r29.2.1 r29.2.2 5).bind λr33=>(ix ([1000000000000,1000000000001,(-1000000000000),(-1000000000001),(-9223372036854775808)]:List Int) r33.1).bind λn35=>(ix r7.2.2.1 r29.1).bind λn36=>(some (r7.2.2.1.set n36 (gt ([1000000000000,1000000000001,(-1000000000000),(-1000000000001),(-9223372036854775808)]:List Int) n35))).bind λl37=>some (r7.1,r7.2.1,l37,r33.2.1,r33.2.2)) else (some (r7.1,r7.2.1,r7.2.2.1,r14.2.1,r14.2.2)))) else ((bif (r14.1==3) then ((bI.p F dy r14.2.1 r14.2.2 3).bind λr49=>(ix ([48,49,(-1)]:List Int) r49.1).bind λn51=>some (0,(gt ([48,49,(-1)]:List Int) n51),([]:List Int),r49.2.1,r49.2.2)) else (some (r7.1,r7.2.1,r7.2.2.1,r14.2.1,r14.2.2)))))))))
theorem fC.P {fP fg aa fQ dy az aW} (rn:fg=dy.length) (h0:Inn H (Rs.blk aa [.sl ⟨fP,fg,fQ⟩,.i az,.i aW]::R0) λR=>ROs (fz .u8) H R ⟨fP,fg,fQ⟩ dy) {r:ats} (hp:fC.p F dy az aW=some r):Rt (fC.tw F aa 0 H) (fC.Q H (Rs.blk aa [.sl ⟨fP,fg,fQ⟩,.i az,.i aW]::R0) R0 fP fg aa fQ r):=by
 obtain ⟨w0,iY⟩:=h0
 subst rn
 unfold fC.p at hp
 unfold fC.tw fC.twX
 have s0:=w0.rf
 refine bQ w0 λH1 w1 s1=>?_
 obtain ⟨w2,s2⟩:=w1.pp [1,0] 2
 obtain ⟨r3,e3,hp⟩:=ah hp
 refine aR (bI.P rfl ⟨w2,(iY.step (s1.trans s2))⟩ e3) ?_
 rintro _ H4 ⟨rfl,w4,s4,_⟩
 refine br ?_
 obtain ⟨r5,e5,hp⟩:=ah hp
 refine aR (bI.P rfl ⟨w4,(iY.step (s1.trans (s2.trans s4)))⟩ e5) ?_
 rintro _ H6 ⟨rfl,w6,s6,_⟩
 refine br ?_
 obtain ⟨r7,e7,hp⟩:=ah hp
 refine aR (ca.P rfl ⟨w6,(iY.step (s1.trans (s2.trans (s4.trans s6))))⟩ e7) ?_
 rintro _ H8 ⟨o2a_8,o2n_8,o2c_8,o2k_8,rfl,rfl,w8,s8,f8_0⟩
 refine br (br (br (br (br (br (br ?_))))))
 refine bQ w8 λH9 w9 s9=>?_
 refine aw w9 0 λH10 w10 s10=>?_
 refine aw w10 0 λH11 w11 s11=>?_
 refine aw w11 0 λH12 w12 s12=>?_
 obtain ⟨w13,s13⟩:=w12.pp [2,0,1,3] 4
 obtain ⟨r14,e14,hp⟩:=ah hp
 refine aR (bI.P rfl ⟨w13,(iY.step (s1.trans (s2.trans (s4.trans (s6.trans (s8.trans (s9.trans (s10.trans (s11.trans (s12.trans s13))))))))))⟩ e14) ?_
 rintro _ H15 ⟨rfl,w15,s15,_⟩
 refine br ?_
 refine aH hp (λhp=>?_) λhp=>?_
 ·refine lI w15 1 ?_
  refine aw w15 1 λH16 w16 s16=>?_
  refine lI w16 1 ?_
  refine lI w16 1 ?_
  refine lSl w16 1 ?_
  refine aw w16 3 λH17 w17 s17=>?_
  refine aw w17 3 λH18 w18 s18=>?_
  refine aw w18 3 λH19 w19 s19=>?_
  dsimp only [pk,pks,nth,List.drop,List.set,List.eraseIdx] at w19 s2 s9 s10 s11 s12 s13 s16 s17 s18 s19
  refine lI w19 3 ?_
  refine lI w19 3 ?_
  refine lSl w19 3 ?_
  obtain ⟨w20,s20⟩:=w19.pp [2,0] 4
  exact aP hp ⟨_,_,_,_,rfl,rfl,w20,(s0.trans (s1.trans (s2.trans (s4.trans (s6.trans (s8.trans (s9.trans (s10.trans (s11.trans (s12.trans (s13.trans (s15.trans (s16.trans (s17.trans (s18.trans (s19.trans s20)))))))))))))))),(f8_0.step (s9.trans (s10.trans (s11.trans (s12.trans (s13.trans (s15.trans (s16.trans (s17.trans (s18.trans (s19.trans s20)))))))))))⟩
 ·refine aH hp (λhp=>?_) λhp=>?_
  ·refine lSl w15 1 ?_
   refine k_ eI w15 (n:=1) (l:=([0]:List Int)) rfl (CR.cons1 rfl CR.empty) rfl λH21 w21 s21 c21=>?_
   refine aA (w21.rowo (i:=0) rfl) ?_
   obtain ⟨l22,e22,hp⟩:=ah hp
   refine qk eI w21 (i:=3) rfl rfl (f8_0.step (s9.trans (s10.trans (s11.trans (s12.trans (s13.trans (s15.trans s21))))))) c21 (show 1=List.length ([0]:List Int) from rfl) rfl e22 λa23 d23 H23 w23 s23 c23 x23=>?_
   refine aw w23 2 λH24 w24 s24=>?_
   refine lI w24 2 ?_
   refine lI w24 2 ?_
   refine lSl w24 2 ?_
   refine aw w24 4 λH25 w25 s25=>?_
   refine aw w25 4 λH26 w26 s26=>?_
   dsimp only [pk,pks,nth,List.drop,List.set,List.eraseIdx] at w26 s2 s9 s10 s11 s12 s13 s21 s23 c23 s24 s25 s26
   refine aw w26 4 λH27 w27 s27=>?_
   refine lI w27 4 ?_
   refine lI w27 4 ?_
   refine lSl w27 4 ?_
   obtain ⟨w28,s28⟩:=w27.pp [3,1] 5
   exact aP hp ⟨_,_,_,_,rfl,rfl,w28,(s0.trans (s1.trans (s2.trans (s4.trans (s6.trans (s8.trans (s9.trans (s10.trans (s11.trans (s12.trans (s13.trans (s15.trans (s21.trans (s23.trans (s24.trans (s25.trans (s26.trans (s27.trans s28)))))))))))))))))),(c23.step (s24.trans (s25.trans (s26.trans (s27.trans s28)))))⟩
  ·refine aH hp (λhp=>?_) λhp=>?_
   ·refine lSl w15 1 ?_
    refine aH hp (λhp=>?_) λhp=>?_
    ·refine lSl w15 1 ?_
     obtain ⟨r29,e29,hp⟩:=ah hp
     refine aR (bI.P rfl ⟨w15,(iY.step (s1.trans (s2.trans (s4.trans (s6.trans (s8.trans (s9.trans (s10.trans (s11.trans (s12.trans (s13.trans s15)))))))))))⟩ e29) ?_
     rintro _ H30 ⟨rfl,w30,s30,_⟩
     refine br ?_
     refine lSl w30 1 ?_
     refine k_ eI w30 (n:=5) (l:=([1000000000000,1000000000001,(-1000000000000),(-1000000000001),(-9223372036854775808)]:List Int)) rfl (CR.cons1 rfl (CR.cons1 rfl (CR.cons1 rfl (CR.cons1 rfl (CR.cons1 rfl CR.empty))))) rfl λH31 w31 s31 c31=>?_
     obtain ⟨w32,s32⟩:=w31.pp [1,0,2,3,4] 5
     obtain ⟨r33,e33,hp⟩:=ah hp
     refine aR (bI.P rfl ⟨w32,(iY.step (s1.trans (s2.trans (s4.trans (s6.trans (s8.trans (s9.trans (s10.trans (s11.trans (s12.trans (s13.trans (s15.trans (s30.trans (s31.trans s32))))))))))))))⟩ e33) ?_
     rintro _ H34 ⟨rfl,w34,s34,_⟩
     refine br ?_
     obtain ⟨n35,g35,hp⟩:=ah hp
     obtain ⟨p35,q35,i35,h35,j35⟩:=W.ixo (E:=eI) w34 (i:=1) rfl rfl (c31.step (s32.trans s34)) g35
     refine aA i35 ?_
     have h35:_=[_]:=h35
     subst h35
     refine aA (cy (j35 0 _ rfl)) ?_
     obtain ⟨n36,g36,hp⟩:=ah hp
     obtain ⟨p36,q36,i36,h36,j36⟩:=W.ixo (E:=eI) w34 (i:=3) rfl rfl (f8_0.step (s9.trans (s10.trans (s11.trans (s12.trans (s13.trans (s15.trans (s30.trans (s31.trans (s32.trans s34)))))))))) g36
     refine aA i36 ?_
     obtain ⟨l37,e37,hp⟩:=ah hp
     refine gD eI w34 (i:=3) (j:=0) (p:=p36) rfl rfl (f8_0.step (s9.trans (s10.trans (s11.trans (s12.trans (s13.trans (s15.trans (s30.trans (s31.trans (s32.trans s34)))))))))) g36 i36 e37 rfl rfl (λ_ h=>by have h:_=[_]:=h;subst h;exact rfl) λH38 k38 w38 s38 c38=>?_
     refine Vu ⟨⟨(w34.mk_ (i:=1) rfl rfl (by simp)),(w31.mk_ (i:=0) rfl rfl (by simp)),(aqA (by simp)),trivial⟩,⟨(vT (mK (w34.ld (i:=2) rfl rfl)) (vU _ _)),(vT (mK (w31.ld (i:=2) rfl rfl)) (vU _ _)),(vT (mK (w30.ld (i:=1) rfl rfl)) (vU _ _)),trivial⟩,trivial⟩ ?_
     refine lI w38 2 ?_
     refine lI w38 2 ?_
     refine lSl w38 2 ?_
     refine aw w38 4 λH39 w39 s39=>?_
     refine aw w39 4 λH40 w40 s40=>?_
     dsimp only [pk,pks,nth,List.drop,List.set,List.eraseIdx] at w40 s2 s9 s10 s11 s12 s13 s31 s32 s38 c38 s39 s40
     refine aw w40 4 λH41 w41 s41=>?_
     refine lI w41 4 ?_
     refine lI w41 4 ?_
     refine lSl w41 4 ?_
     obtain ⟨w42,s42⟩:=w41.pp [3,0] 5
     exact aP hp ⟨_,_,_,_,rfl,(eQ e37).symm,w42,(s0.trans (s1.trans (s2.trans (s4.trans (s6.trans (s8.trans (s9.trans (s10.trans (s11.trans (s12.trans (s13.trans (s15.trans (s30.trans (s31.trans (s32.trans (s34.trans (s38.trans (s39.trans (s40.trans (s41.trans s42)))))))))))))))))))),(c38.step (s39.trans (s40.trans (s41.trans s42))))⟩
    ·refine lI w15 1 ?_
     refine lI w15 1 ?_
     refine lSl w15 1 ?_
     refine aw w15 3 λH43 w43 s43=>?_
     refine aw w43 3 λH44 w44 s44=>?_
     refine aw w44 3 λH45 w45 s45=>?_
     refine lI w45 3 ?_
     refine lI w45 3 ?_
     refine lSl w45 3 ?_
     obtain ⟨w46,s46⟩:=w45.pp [2,0] 4
     dsimp only [pk,pks,nth,List.drop,List.set,List.eraseIdx] at w46 s2 s9 s10 s11 s12 s13 s43 s44 s45 s46
     exact aP hp ⟨_,_,_,_,rfl,rfl,w46,(s0.trans (s1.trans (s2.trans (s4.trans (s6.trans (s8.trans (s9.trans (s10.trans (s11.trans (s12.trans (s13.trans (s15.trans (s43.trans (s44.trans (s45.trans s46))))))))))))))),(f8_0.step (s9.trans (s10.trans (s11.trans (s12.trans (s13.trans (s15.trans (s43.trans (s44.trans (s45.trans s46))))))))))⟩
   ·refine aH hp (λhp=>?_) λhp=>?_
    ·refine k_ eI w15 (n:=3) (l:=([48,49,(-1)]:List Int)) rfl (CR.cons1 rfl (CR.cons1 rfl (CR.cons1 rfl CR.empty))) rfl λH47 w47 s47 c47=>?_
     obtain ⟨w48,s48⟩:=w47.pp [1,0,2,3,4] 5
     obtain ⟨r49,e49,hp⟩:=ah hp
     refine aR (bI.P rfl ⟨w48,(iY.step (s1.trans (s2.trans (s4.trans (s6.trans (s8.trans (s9.trans (s10.trans (s11.trans (s12.trans (s13.trans (s15.trans (s47.trans s48)))))))))))))⟩ e49) ?_
     rintro _ H50 ⟨rfl,w50,s50,_⟩
     refine br ?_
     obtain ⟨n51,g51,hp⟩:=ah hp
     obtain ⟨p51,q51,i51,h51,j51⟩:=W.ixo (E:=eI) w50 (i:=1) rfl rfl (c47.step (s48.trans s50)) g51
     refine aA i51 ?_
     have h51:_=[_]:=h51
     subst h51
     refine aA (cy (j51 0 _ rfl)) ?_
     refine aw w50 2 λH52 w52 s52=>?_
     refine aw w52 2 λH53 w53 s53=>?_
     refine aw w53 2 λH54 w54 s54=>?_
     dsimp only [pk,pks,nth,List.drop,List.set,List.eraseIdx] at w54 s2 s9 s10 s11 s12 s13 s47 s48 s52 s53 s54
     refine lI w54 2 ?_
     refine lI w54 2 ?_
     refine lSl w54 2 ?_
     refine aw w54 4 λH55 w55 s55=>?_
     refine aw w55 4 λH56 w56 s56=>?_
     refine aw w56 4 λH57 w57 s57=>?_
     refine lI w57 4 ?_
     refine lI w57 4 ?_
     refine lSl w57 4 ?_
     obtain ⟨w58,s58⟩:=w57.nilS eI.z (by decide)
     obtain ⟨w59,s59⟩:=w58.pp [0,1] 6
     exact aP hp ⟨_,_,_,_,rfl,rfl,w59,(s0.trans (s1.trans (s2.trans (s4.trans (s6.trans (s8.trans (s9.trans (s10.trans (s11.trans (s12.trans (s13.trans (s15.trans (s47.trans (s48.trans (s50.trans (s52.trans (s53.trans (s54.trans (s55.trans (s56.trans (s57.trans (s58.trans s59)))))))))))))))))))))),((CR.empty:CR eI _ _ [] []).step s59)⟩
    ·refine lI w15 1 ?_
     refine lI w15 1 ?_
     refine lSl w15 1 ?_
     refine aw w15 3 λH60 w60 s60=>?_
     refine aw w60 3 λH61 w61 s61=>?_
     refine aw w61 3 λH62 w62 s62=>?_
     refine lI w62 3 ?_
     refine lI w62 3 ?_
     refine lSl w62 3 ?_
     obtain ⟨w63,s63⟩:=w62.pp [2,0] 4
     dsimp only [pk,pks,nth,List.drop,List.set,List.eraseIdx] at w63 s2 s9 s10 s11 s12 s13 s60 s61 s62 s63
     exact aP hp ⟨_,_,_,_,rfl,rfl,w63,(s0.trans (s1.trans (s2.trans (s4.trans (s6.trans (s8.trans (s9.trans (s10.trans (s11.trans (s12.trans (s13.trans (s15.trans (s60.trans (s61.trans (s62.trans s63))))))))))))))),(f8_0.step (s9.trans (s10.trans (s11.trans (s12.trans (s13.trans (s15.trans (s60.trans (s61.trans (s62.trans s63))))))))))⟩
def aV.Q (H0:Hp) (Ri R0:asy)  (r:asK) (v:AV) (H':Hp):Prop:=∃ o2a:ON,∃ o2n:Nat,∃ o2c:Cap,∃ o2k:List AV,v=(.agg [(.i r.1),(.i r.2.1),(.sl ⟨o2a,o2n,o2c⟩)])/\o2n=(r.2.2).length/\Out H0 Ri H' (Rs.own ⟨o2a,o2n,o2c⟩ eI.z o2k::R0) λR=>CR eI H' R o2k (r.2.2)
def aV.S253 (H0:Hp) (Ri R0:asy)  (C:as_) (pC:atf):Prop:=∀ {BR BS zW zX iI zY zZ ob uH Mm Mn rp jp GQ si GR sj uI Mo Mp uJ uK uL uM Mq},∀ {H:Hp},rp=uJ.length->GQ=uK.length->GR=uL.length->(Out H0 Ri H (Rs.own ⟨uH,rp,uI⟩ eI.z uM::Rs.blk jp [.i BR,.i BS,.sl ⟨uH,rp,uI⟩]::Rs.blk si [.sl ⟨Mm,GQ,Mo⟩,.i zW,.i zX]::Rs.own ⟨Mn,GR,Mp⟩ eI.z Mq::Rs.blk sj [.i zY,.i zZ,.sl ⟨Mn,GR,Mp⟩]::R0) λR=>CR eI H R uM uJ/\ROs (fz .u8) H R ⟨Mm,GQ,Mo⟩ uK/\CR eI H R Mq uL)->∀ {r:asK},pC uK zW zX iI zY zZ uL ob=some r->Rt (C jp 0 si 0 iI sj 0 ob H) (aV.Q H0 Ri R0  r)
def aV.S4053 (H0:Hp) (Ri R0:asy)  (C:Nat->Nat->Nat->Nat->Int->Nat->Nat->Int->Int->Hp->OA) (pC:List Int->Int->Int->Int->Int->Int->List Int->Int->Int->Option (Int×Int×List Int)):Prop:=∀ {Wf Wg z_ Aa lj Ab Ac kq ll Mr Ms Mt GS sf GT qS GU qv Mu Mv Mw Mx tp tq My Mz},∀ {H:Hp},GS=Mx.length->GT=tp.length->GU=tq.length->(Out H0 Ri H (Rs.own ⟨Mr,GS,Mu⟩ eI.z My::Rs.blk sf [.i Wf,.i Wg,.sl ⟨Mr,GS,Mu⟩]::Rs.blk qS [.sl ⟨Ms,GT,Mv⟩,.i z_,.i Aa]::Rs.own ⟨Mt,GU,Mw⟩ eI.z Mz::Rs.blk qv [.i Ab,.i Ac,.sl ⟨Mt,GU,Mw⟩]::R0) λR=>CR eI H R My Mx/\ROs (fz .u8) H R ⟨Ms,GT,Mv⟩ tp/\CR eI H R Mz tq)->∀ {r:asK},pC tp z_ Aa lj Ab Ac tq kq ll=some r->Rt (C sf 0 qS 0 lj qv 0 kq ll H) (aV.Q H0 Ri R0  r)
def aV.pj4 (F:Nat) (cw:atf) (BT:asw) (GV:Int) (GW:Int) (oa:Int) (GX:Int) (GY:Int) (BU:asw) (se:Int):Option (Int×Int×List Int):=cw BT GV GW oa GX GY BU (wrap .i64 (se+1))
theorem aV.j4_P  {C253_:as_} {cw:atf} (hC253:aV.S253 H0 Ri R0  C253_ cw) {ahT ahU GV GW oa GX GY se Wh Wj Wk MA Ex MB Ey MC Ez Wl Wm Wn Wo BT BU Wp Wq} (ahV:MA=Wo.length) (ahW:MB=BT.length) (ahX:MC=BU.length) (h0:Out H0 Ri H (Rs.own ⟨Wh,MA,Wl⟩ eI.z Wp::Rs.blk Ex [.i ahT,.i ahU,.sl ⟨Wh,MA,Wl⟩]::Rs.blk Ey [.sl ⟨Wj,MB,Wm⟩,.i GV,.i GW]::Rs.own ⟨Wk,MC,Wn⟩ eI.z Wq::Rs.blk Ez [.i GX,.i GY,.sl ⟨Wk,MC,Wn⟩]::R0) λR=>CR eI H R Wp Wo/\ROs (fz .u8) H R ⟨Wj,MB,Wm⟩ BT/\CR eI H R Wq BU) {r:asK} (hp:aV.pj4 F cw BT GV GW oa GX GY BU se=some r):Rt (aV.j4 F (cT.tw F) (bI.tw F) (fC.tw F) (cD.tw F) C253_ Ex 0 Ey 0 oa Ez 0 se H) (aV.Q H0 Ri R0  r):=by
 obtain ⟨w0,s0,ahY,ahZ,ah0⟩:=h0
 subst ahV
 subst ahW
 subst ahX
 unfold aV.pj4 at hp
 unfold aV.j4
 exact hC253 rfl rfl rfl ⟨w0,s0,ahY,ahZ,ah0⟩ hp
def aV.pj5 (F:Nat) (cw:atf) (BV:asw) (GZ:Int) (G_:Int) (wv:Int) (Ha:Int) (Hb:Int) (BW:asw) (ww:Int):Option (Int×Int×List Int):=aV.pj4 F cw BV GZ G_ wv Ha Hb BW ww
theorem aV.j5_P  {C253_:as_} {cw:atf} (hC253:aV.S253 H0 Ri R0  C253_ cw) {ah1 ah2 GZ G_ wv Ha Hb ww Wr Ws Wt MD EA ME EB MF EC Wu Wv Ww Wx BV BW Wy Wz} (ah3:MD=Wx.length) (ah4:ME=BV.length) (ah5:MF=BW.length) (h0:Out H0 Ri H (Rs.own ⟨Wr,MD,Wu⟩ eI.z Wy::Rs.blk EA [.i ah1,.i ah2,.sl ⟨Wr,MD,Wu⟩]::Rs.blk EB [.sl ⟨Ws,ME,Wv⟩,.i GZ,.i G_]::Rs.own ⟨Wt,MF,Ww⟩ eI.z Wz::Rs.blk EC [.i Ha,.i Hb,.sl ⟨Wt,MF,Ww⟩]::R0) λR=>CR eI H R Wy Wx/\ROs (fz .u8) H R ⟨Ws,ME,Wv⟩ BV/\CR eI H R Wz BW) {r:asK} (hp:aV.pj5 F cw BV GZ G_ wv Ha Hb BW ww=some r):Rt (aV.j5 F (cT.tw F) (bI.tw F) (fC.tw F) (cD.tw F) C253_ EA 0 EB 0 wv EC 0 ww H) (aV.Q H0 Ri R0  r):=by
 obtain ⟨w0,s0,ah6,ah7,ah8⟩:=h0
 subst ah3
 subst ah4
 subst ah5
 unfold aV.pj5 at hp
 unfold aV.j5
 exact aV.j4_P (@hC253) rfl rfl rfl ⟨w0,s0,ah6,ah7,ah8⟩ hp
def aV.pl4053 (F:Nat) (cw:atf):Nat->List Int->Int->Int->Int->Int->Int->List Int->Int->Int->Option (Int×Int×List Int)
 | 0,_,_,_,_,_,_,_,_,_=>none
 | k+1,tp,z_,Aa,lj,Ab,Ac,tq,kq,ll=>(bif (decide (ll<=kq)) then ((bI.p F tp z_ Aa 7).bind λr2=>(ix tq (wrap .i64 ((wrap .i64 (kq * lj))+ll))).bind λn4=>(some (tq.set n4 (wrap .i64 (r2.1 - 3)))).bind λl5=>(ix l5 (wrap .i64 ((wrap .i64 (ll * lj))+kq))).bind λn7=>(some (l5.set n7 (wrap .i64 (r2.1 - 3)))).bind λl8=>aV.pl4053 F cw k tp r2.2.1 r2.2.2 lj Ab Ac l8 kq (wrap .i64 (ll+1))) else (aV.pj5 F cw tp z_ Aa lj Ab Ac tq kq))
theorem aV.l4053_P  {C253_:as_} {cw:atf} (hC253:aV.S253 H0 Ri R0  C253_ cw):∀ k,aV.S4053 H0 Ri R0  (aV.l4053 F (cT.tw F) (bI.tw F) (fC.tw F) (cD.tw F) C253_ k) (aV.pl4053 F cw k):=by
 intro k
 induction k with
 | zero=>unfold aV.S4053;intros;rename_i hp;cases hp
 | succ k ih=>
  intro Wf Wg z_ Aa lj Ab Ac kq ll Mr Ms Mt GS sf GT qS GU qv Mu Mv Mw Mx tp tq My Mz H ah9 ah_ aia h0 r hp
  obtain ⟨w0,s0,WA,MG,MH⟩:=h0
  subst ah9
  subst ah_
  subst aia
  unfold aV.pl4053 at hp
  unfold aV.l4053
  refine aH hp (λhp=>?_) λhp=>?_
  ·obtain ⟨w1,s1⟩:=w0.pp [2,0,1,3,4] 5
   obtain ⟨r2,e2,hp⟩:=ah hp
   refine aR (bI.P rfl ⟨w1,(MG.step s1)⟩ e2) ?_
   rintro _ H3 ⟨rfl,w3,s3,_⟩
   refine br ?_
   refine lSl w3 4 ?_
   obtain ⟨n4,g4,hp⟩:=ah hp
   obtain ⟨p4,q4,i4,h4,j4⟩:=W.ixo (E:=eI) w3 (i:=3) rfl rfl (MH.step (s1.trans s3)) g4
   refine aA i4 ?_
   obtain ⟨l5,e5,hp⟩:=ah hp
   refine gD eI w3 (i:=3) (j:=0) (p:=p4) rfl rfl (MH.step (s1.trans s3)) g4 i4 e5 rfl rfl (λ_ h=>by have h:_=[_]:=h;subst h;exact rfl) λH6 k6 w6 s6 c6=>?_
   refine lSl w6 4 ?_
   obtain ⟨n7,g7,hp⟩:=ah hp
   obtain ⟨p7,q7,i7,h7,j7⟩:=W.ixo (E:=eI) w6 (i:=3) rfl rfl c6 g7
   refine aA i7 ?_
   obtain ⟨l8,e8,hp⟩:=ah hp
   refine gD eI w6 (i:=3) (j:=0) (p:=p7) rfl rfl c6 g7 i7 e8 rfl rfl (λ_ h=>by have h:_=[_]:=h;subst h;exact rfl) λH9 k9 w9 s9 c9=>?_
   obtain ⟨w10,s10⟩:=w9.pp [1,2,0,3,4] 5
   exact ih rfl rfl ((eQ e5).symm.trans (eQ e8).symm) ⟨w10,(s0.trans (s1.trans (s3.trans (s6.trans (s9.trans s10))))),(WA.step (s1.trans (s3.trans (s6.trans (s9.trans s10))))),(MG.step (s1.trans (s3.trans (s6.trans (s9.trans s10))))),(c9.step s10)⟩ hp
  ·exact aV.j5_P (@hC253) rfl rfl rfl ⟨w0,s0,WA,MG,MH⟩ hp
def aV.pj3 (F:Nat)  (uN:asw) (Hc:Int) (Hd:Int) (qu:Int) (Ad:Int) (Ae:Int) (tt:asw):Option (Int×Int×List Int):=(bI.p F uN Hc Hd 12).bind λr2=>(bif (r2.1==0) then ((bif (decide (qu>0)) then ((bI.p F uN r2.2.1 r2.2.2 12).bind λr4=>(ix tt (wrap .i64 ((wrap .i64 (qu * qu)) - 1))).bind λn6=>(some (tt.set n6 (wrap .i64 (100000000 * r4.1)))).bind λl7=>some (Ad,Ae,l7)) else (some (Ad,Ae,tt)))) else ((bif (r2.1==1) then ((bI.p F uN r2.2.1 r2.2.2 2).bind λr17=>(cD.p F (wrap .i64 (12+r17.1)) 12).bind λr19=>(cD.p F r19.1 r19.1).bind λr24=>some (r24.1,r24.2.1,r24.2.2)) else (some (Ad,Ae,tt)))))
theorem aV.j3_P   {aib aic Hc Hd qu Ad Ae WB WC WD MI ig MJ wu MK iv WE WG WH WI uN tt WJ WK} (aid:MI=WI.length) (aie:MJ=uN.length) (aif:MK=tt.length) (h0:Out H0 Ri H (Rs.own ⟨WB,MI,WE⟩ eI.z WJ::Rs.blk ig [.i aib,.i aic,.sl ⟨WB,MI,WE⟩]::Rs.blk wu [.sl ⟨WC,MJ,WG⟩,.i Hc,.i Hd]::Rs.own ⟨WD,MK,WH⟩ eI.z WK::Rs.blk iv [.i Ad,.i Ae,.sl ⟨WD,MK,WH⟩]::R0) λR=>CR eI H R WJ WI/\ROs (fz .u8) H R ⟨WC,MJ,WG⟩ uN/\CR eI H R WK tt) {r:asK} (hp:aV.pj3 F  uN Hc Hd qu Ad Ae tt=some r):Rt (aV.j3 F (cT.tw F) (bI.tw F) (fC.tw F) (cD.tw F)  ig 0 wu 0 qu iv 0 H) (aV.Q H0 Ri R0  r):=by
 obtain ⟨w0,s0,arG,MM,He⟩:=h0
 subst aid
 subst aie
 subst aif
 unfold aV.pj3 at hp
 unfold aV.j3
 obtain ⟨w1,s1⟩:=w0.pp [2,0,1,3,4] 5
 obtain ⟨r2,e2,hp⟩:=ah hp
 refine aR (bI.P rfl ⟨w1,(MM.step s1)⟩ e2) ?_
 rintro _ H3 ⟨rfl,w3,s3,_⟩
 refine br ?_
 refine aH hp (λhp=>?_) λhp=>?_
 ·refine aH hp (λhp=>?_) λhp=>?_
  ·refine lSl w3 4 ?_
   obtain ⟨r4,e4,hp⟩:=ah hp
   refine aR (bI.P rfl ⟨w3,(MM.step (s1.trans s3))⟩ e4) ?_
   rintro _ H5 ⟨rfl,w5,s5,_⟩
   refine br ?_
   obtain ⟨n6,g6,hp⟩:=ah hp
   obtain ⟨p6,q6,i6,h6,j6⟩:=W.ixo (E:=eI) w5 (i:=3) rfl rfl (He.step (s1.trans (s3.trans s5))) g6
   refine aA i6 ?_
   obtain ⟨l7,e7,hp⟩:=ah hp
   refine gD eI w5 (i:=3) (j:=0) (p:=p6) rfl rfl (He.step (s1.trans (s3.trans s5))) g6 i6 e7 rfl rfl (λ_ h=>by have h:_=[_]:=h;subst h;exact rfl) λH8 k8 w8 s8 c8=>?_
   refine Vu ⟨⟨(vT (mK (w5.ld (i:=4) rfl rfl)) (vU _ _)),(vT (mK (w3.ld (i:=4) rfl rfl)) (vU _ _)),trivial⟩,trivial⟩ ?_
   refine lI w8 4 ?_
   refine lI w8 4 ?_
   refine lSl w8 4 ?_
   refine aw w8 2 λH9 w9 s9=>?_
   refine aw w9 2 λH10 w10 s10=>?_
   refine aw w10 2 λH11 w11 s11=>?_
   refine lI w11 2 ?_
   refine lI w11 2 ?_
   refine lSl w11 2 ?_
   obtain ⟨w12,s12⟩:=w11.pp [3] 5
   exact aP hp ⟨_,_,_,_,rfl,(eQ e7).symm,w12,(s0.trans (s1.trans (s3.trans (s5.trans (s8.trans (s9.trans (s10.trans (s11.trans s12)))))))),(c8.step (s9.trans (s10.trans (s11.trans s12))))⟩
  ·refine lI w3 4 ?_
   refine lI w3 4 ?_
   refine lSl w3 4 ?_
   refine aw w3 2 λH13 w13 s13=>?_
   refine aw w13 2 λH14 w14 s14=>?_
   refine aw w14 2 λH15 w15 s15=>?_
   refine lI w15 2 ?_
   refine lI w15 2 ?_
   refine lSl w15 2 ?_
   obtain ⟨w16,s16⟩:=w15.pp [3] 5
   exact aP hp ⟨_,_,_,_,rfl,rfl,w16,(s0.trans (s1.trans (s3.trans (s13.trans (s14.trans (s15.trans s16)))))),(He.step (s1.trans (s3.trans (s13.trans (s14.trans (s15.trans s16))))))⟩
 ·refine aH hp (λhp=>?_) λhp=>?_
  ·obtain ⟨r17,e17,hp⟩:=ah hp
   refine aR (bI.P rfl ⟨w3,(MM.step (s1.trans s3))⟩ e17) ?_
   rintro _ H18 ⟨rfl,w18,s18,_⟩
   refine br ?_
   obtain ⟨r19,e19,hp⟩:=ah hp
   refine aR (cD.P ⟨w18,trivial⟩ e19) ?_
   rintro _ H20 ⟨o2a_20,o2n_20,o2k_20,rfl,rfl,w20,s20,f20_0⟩
   refine br (br (br (br (br (br (br ?_))))))
   refine aw w20 5 λH21 w21 s21=>?_
   refine aw w21 5 λH22 w22 s22=>?_
   refine aw w22 5 λH23 w23 s23=>?_
   refine lI w23 5 ?_
   refine lI w23 5 ?_
   obtain ⟨r24,e24,hp⟩:=ah hp
   refine aR (cD.P ⟨w23,trivial⟩ e24) ?_
   rintro _ H25 ⟨o2a_25,o2n_25,o2k_25,rfl,rfl,w25,s25,f25_0⟩
   refine br (br (br (br (br (br (br ?_))))))
   refine aw w25 6 λH26 w26 s26=>?_
   refine aw w26 6 λH27 w27 s27=>?_
   refine aw w27 6 λH28 w28 s28=>?_
   refine lI w28 6 ?_
   refine lI w28 6 ?_
   refine lSl w28 6 ?_
   refine aw w28 4 λH29 w29 s29=>?_
   refine aw w29 4 λH30 w30 s30=>?_
   dsimp only [pk,pks,nth,List.drop,List.set,List.eraseIdx] at w30 s1 s21 s22 s23 s26 s27 s28 s29 s30
   refine aw w30 4 λH31 w31 s31=>?_
   refine lI w31 4 ?_
   refine lI w31 4 ?_
   refine lSl w31 4 ?_
   obtain ⟨w32,s32⟩:=w31.pp [0] 7
   exact aP hp ⟨_,_,_,_,rfl,rfl,w32,(s0.trans (s1.trans (s3.trans (s18.trans (s20.trans (s21.trans (s22.trans (s23.trans (s25.trans (s26.trans (s27.trans (s28.trans (s29.trans (s30.trans (s31.trans s32))))))))))))))),(f25_0.step (s26.trans (s27.trans (s28.trans (s29.trans (s30.trans (s31.trans s32)))))))⟩
  ·refine lI w3 4 ?_
   refine lI w3 4 ?_
   refine lSl w3 4 ?_
   refine aw w3 2 λH33 w33 s33=>?_
   refine aw w33 2 λH34 w34 s34=>?_
   refine aw w34 2 λH35 w35 s35=>?_
   refine lI w35 2 ?_
   refine lI w35 2 ?_
   refine lSl w35 2 ?_
   obtain ⟨w36,s36⟩:=w35.pp [3] 5
   exact aP hp ⟨_,_,_,_,rfl,rfl,w36,(s0.trans (s1.trans (s3.trans (s33.trans (s34.trans (s35.trans s36)))))),(He.step (s1.trans (s3.trans (s33.trans (s34.trans (s35.trans s36))))))⟩
def aV.pl253 (F:Nat) :Nat->List Int->Int->Int->Int->Int->Int->List Int->Int->Option (Int×Int×List Int)
 | 0,_,_,_,_,_,_,_,_=>none
 | k+1,uK,zW,zX,iI,zY,zZ,uL,ob=>(bif (decide (ob<iI)) then (aV.pl4053 F (aV.pl253 F k) F uK zW zX iI zY zZ uL ob 0) else (aV.pj3 F uK zW zX iI zY zZ uL))
theorem aV.l253_P  :∀ k,aV.S253 H0 Ri R0  (aV.l253 F (cT.tw F) (bI.tw F) (fC.tw F) (cD.tw F)  k) (aV.pl253 F  k):=by
 intro k
 induction k with
 | zero=>unfold aV.S253;intros;rename_i hp;cases hp
 | succ k ih=>
  intro BR BS zW zX iI zY zZ ob uH Mm Mn rp jp GQ si GR sj uI Mo Mp uJ uK uL uM Mq H MN aig aih h0 r hp
  obtain ⟨w0,s0,Hf,WL,WM⟩:=h0
  subst MN
  subst aig
  subst aih
  unfold aV.pl253 at hp
  unfold aV.l253
  refine aH hp (λhp=>?_) λhp=>?_
  ·exact aV.l4053_P (@ih) F rfl rfl rfl ⟨w0,s0,Hf,WL,WM⟩ hp
  ·exact aV.j3_P rfl rfl rfl ⟨w0,s0,Hf,WL,WM⟩ hp
def aV.p (F:Nat) (aY:asw):Option (Int×Int×List Int):=(cT.p F aY).bind λr2=>(bI.p F r2.1 r2.2.1 r2.2.2 8).bind λr4=>(bif (r4.1==0) then ((fC.p F r2.1 r4.2.1 r4.2.2).bind λr6=>some (r6.1,r6.2.1,r6.2.2.1)) else ((bI.p F r2.1 r4.2.1 r4.2.2 5).bind λr12=>(cD.p F r12.1 r12.1).bind λr14=>aV.pl253 F F r2.1 r12.2.1 r12.2.2 r12.1 r14.1 r14.2.1 r14.2.2 0))
theorem aV.P {dN cQ dO aY} (gz:cQ=aY.length) (h0:Inn H R0 λR=>ROs (fz .u8) H R ⟨dN,cQ,dO⟩ aY) {r:asK} (hp:aV.p F aY=some r):Rt (aV.tw F ⟨dN,cQ,dO⟩ H) (aV.Q H R0 R0  r):=by
 obtain ⟨w0,gZ⟩:=h0
 subst gz
 unfold aV.p at hp
 unfold aV.tw aV.twX
 have s0:=w0.rf
 refine bQ w0 λH1 w1 s1=>?_
 obtain ⟨r2,e2,hp⟩:=ah hp
 refine aR (cT.P rfl ⟨w1,(gZ.step s1)⟩ e2) ?_
 rintro _ H3 ⟨o0a_3,o0n_3,o0c_3,ob0_3,rfl,rfl,w3,s3,f3_0⟩
 refine br ?_
 obtain ⟨r4,e4,hp⟩:=ah hp
 refine aR (bI.P rfl ⟨w3,f3_0⟩ e4) ?_
 rintro _ H5 ⟨rfl,w5,s5,_⟩
 refine br ?_
 refine aH hp (λhp=>?_) λhp=>?_
 ·obtain ⟨r6,e6,hp⟩:=ah hp
  refine aR (fC.P rfl ⟨w5,(f3_0.step s5)⟩ e6) ?_
  rintro _ H7 ⟨o2a_7,o2n_7,o2c_7,o2k_7,rfl,rfl,w7,s7,f7_0⟩
  refine br (br (br (br (br (br (br ?_))))))
  refine aw w7 2 λH8 w8 s8=>?_
  refine aw w8 2 λH9 w9 s9=>?_
  refine aw w9 2 λH10 w10 s10=>?_
  refine lI w10 2 ?_
  refine lI w10 2 ?_
  refine lSl w10 2 ?_
  obtain ⟨w11,s11⟩:=w10.pp [0] 3
  exact aP hp ⟨_,_,_,_,rfl,rfl,w11,(s0.trans (s1.trans (s3.trans (s5.trans (s7.trans (s8.trans (s9.trans (s10.trans s11)))))))),(f7_0.step (s8.trans (s9.trans (s10.trans s11))))⟩
 ·obtain ⟨r12,e12,hp⟩:=ah hp
  refine aR (bI.P rfl ⟨w5,(f3_0.step s5)⟩ e12) ?_
  rintro _ H13 ⟨rfl,w13,s13,_⟩
  refine br ?_
  obtain ⟨r14,e14,hp⟩:=ah hp
  refine aR (cD.P ⟨w13,trivial⟩ e14) ?_
  rintro _ H15 ⟨o2a_15,o2n_15,o2k_15,rfl,rfl,w15,s15,f15_0⟩
  refine br (br (br (br (br (br (br ?_))))))
  refine bQ w15 λH16 w16 s16=>?_
  refine aw w16 0 λH17 w17 s17=>?_
  refine aw w17 0 λH18 w18 s18=>?_
  refine aw w18 0 λH19 w19 s19=>?_
  obtain ⟨w20,s20⟩:=w19.nilS eI.z (by decide)
  obtain ⟨w21,s21⟩:=w20.pp [0,4,3,2,1] 5
  exact aV.l253_P F rfl rfl rfl ⟨w21,(s0.trans (s1.trans (s3.trans (s5.trans (s13.trans (s15.trans (s16.trans (s17.trans (s18.trans (s19.trans (s20.trans s21))))))))))),((CR.empty:CR eI _ _ [] []).step s21),(f3_0.step (s5.trans (s13.trans (s15.trans (s16.trans (s17.trans (s18.trans (s19.trans (s20.trans s21))))))))),(f15_0.step (s16.trans (s17.trans (s18.trans (s19.trans (s20.trans s21))))))⟩ hp
def gQ.Q (H0:Hp) (Ri R0:asy)  (r:Bool) (v:AV) (H':Hp):Prop:=v=(.bool r)/\Out H0 Ri H' (R0) λR=>True
def gQ.p (F:Nat) (aa:Int) (aG:Int) (ga:Int):Option (Bool):=(bif (decide (aG<=aa)) then (some (decide (aa<=ga))) else (some false))
theorem gQ.P {aa aG ga}  (h0:Inn H R0 λR=>True) {r:Bool} (hp:gQ.p F aa aG ga=some r):Rt (gQ.tw F aa aG ga H) (gQ.Q H R0 R0  r):=by
 obtain ⟨w0,_⟩:=h0
 unfold gQ.p at hp
 unfold gQ.tw gQ.twX
 have s0:=w0.rf
 refine aH hp (λhp=>?_) λhp=>?_
 ·exact aP hp ⟨rfl,w0,s0,trivial⟩
 ·exact aP hp ⟨rfl,w0,s0,trivial⟩
def gr.Q (H0:Hp) (Ri R0:asy)  (r:Int) (v:AV) (H':Hp):Prop:=v=(.i r)/\Out H0 Ri H' (R0) λR=>True
def gr.p (F:Nat) (aY:asw):Option (Int):=some (aY.length:Int)
theorem gr.P {dN cQ dO aY} (gz:cQ=aY.length) (h0:Inn H R0 λR=>ROs eI H R ⟨dN,cQ,dO⟩ aY) {r:Int} (hp:gr.p F aY=some r):Rt (gr.tw F ⟨dN,cQ,dO⟩ H) (gr.Q H R0 R0  r):=by
 obtain ⟨w0,gZ⟩:=h0
 subst gz
 unfold gr.p at hp
 unfold gr.tw gr.twX
 have s0:=w0.rf
 exact aP hp ⟨rfl,w0,s0,trivial⟩
def iw.Q (H0:Hp) (Ri R0:asy)  (r:Bool) (v:AV) (H':Hp):Prop:=v=(.bool r)/\Out H0 Ri H' (R0) λR=>True
def iw.p (F:Nat) (aa:Int):Option (Bool):=(gQ.p F aa (-1000000000000) 1000000000000).bind λr1=>some (!r1)
theorem iw.P {aa}  (h0:Inn H R0 λR=>True) {r:Bool} (hp:iw.p F aa=some r):Rt (iw.tw F aa H) (iw.Q H R0 R0  r):=by
 obtain ⟨w0,_⟩:=h0
 unfold iw.p at hp
 unfold iw.tw iw.twX
 have s0:=w0.rf
 obtain ⟨r1,e1,hp⟩:=ah hp
 refine aR (gQ.P ⟨w0,trivial⟩ e1) ?_
 rintro _ H2 ⟨rfl,w2,s2,_⟩
 refine br ?_
 exact aP hp ⟨rfl,w2,(s0.trans s2),trivial⟩
def cZ.Q (H0:Hp) (Ri R0:asy)  (r:Int) (v:AV) (H':Hp):Prop:=v=(.i r)/\Out H0 Ri H' (R0) λR=>True
def cZ.S13 (H0:Hp) (Ri R0:asy)  (C:Sl->Int->Int->Hp->OA) (pC:atO):Prop:=∀ {pO mC pP dW gR eW},∀ {H:Hp},mC=dW.length->(Out H0 Ri H R0 λR=>ROs eI H R ⟨pO,mC,pP⟩ dW)->∀ {r:Int},pC dW gR eW=some r->Rt (C ⟨pO,mC,pP⟩ gR eW H) (cZ.Q H0 Ri R0  r)
def cZ.pl13 (F:Nat) :Nat->List Int->Int->Int->Option (Int)
 | 0,_,_,_=>none
 | k+1,dW,gR,eW=>(bif (decide (eW<gR)) then ((ix dW eW).bind λn1=>(iw.p F (gt dW n1)).bind λr2=>(bif r2 then (some eW) else (cZ.pl13 F k dW gR (wrap .i64 (eW+1))))) else (some (-1)))
theorem cZ.l13_P  :∀ k,cZ.S13 H0 Ri R0  (cZ.l13 F (iw.tw F)  k) (cZ.pl13 F  k):=by
 intro k
 induction k with
 | zero=>unfold cZ.S13;intros;rename_i hp;cases hp
 | succ k ih=>
  intro pO mC pP dW gR eW H BX h0 r hp
  obtain ⟨w0,s0,kW⟩:=h0
  subst BX
  unfold cZ.pl13 at hp
  unfold cZ.l13
  refine aH hp (λhp=>?_) λhp=>?_
  ·obtain ⟨n1,g1,hp⟩:=ah hp
   obtain ⟨p1,q1,i1,h1,j1⟩:=ROs.ixr kW rfl g1
   refine aA i1 ?_
   have h1:_=[_]:=h1
   subst h1
   refine aA (cy (j1 0 _ rfl)) ?_
   obtain ⟨r2,e2,hp⟩:=ah hp
   refine aR (iw.P ⟨w0,trivial⟩ e2) ?_
   rintro _ H3 ⟨rfl,w3,s3,_⟩
   refine br ?_
   refine aH hp (λhp=>?_) λhp=>?_
   ·exact aP hp ⟨rfl,w3,(s0.trans s3),trivial⟩
   ·exact ih rfl ⟨w3,(s0.trans s3),(kW.step s3)⟩ hp
  ·exact aP hp ⟨rfl,w0,s0,trivial⟩
def cZ.p (F:Nat) (aY:asw):Option (Int):=cZ.pl13 F F aY (aY.length:Int) 0
theorem cZ.P {dN cQ dO aY} (gz:cQ=aY.length) (h0:Inn H R0 λR=>ROs eI H R ⟨dN,cQ,dO⟩ aY) {r:Int} (hp:cZ.p F aY=some r):Rt (cZ.tw F ⟨dN,cQ,dO⟩ H) (cZ.Q H R0 R0  r):=by
 obtain ⟨w0,gZ⟩:=h0
 subst gz
 unfold cZ.p at hp
 unfold cZ.tw cZ.twX
 have s0:=w0.rf
 exact cZ.l13_P F rfl ⟨w0,s0,gZ⟩ hp
def iy.Q (H0:Hp) (Ri R0:asy)  (r:Bool) (v:AV) (H':Hp):Prop:=v=(.bool r)/\Out H0 Ri H' (R0) λR=>True
def iy.p (F:Nat) (aY:asw):Option (Bool):=(cZ.p F aY).bind λr1=>some (decide (r1>=0))
theorem iy.P {dN cQ dO aY} (gz:cQ=aY.length) (h0:Inn H R0 λR=>ROs eI H R ⟨dN,cQ,dO⟩ aY) {r:Bool} (hp:iy.p F aY=some r):Rt (iy.tw F ⟨dN,cQ,dO⟩ H) (iy.Q H R0 R0  r):=by
 obtain ⟨w0,gZ⟩:=h0
 subst gz
 unfold iy.p at hp
 unfold iy.tw iy.twX
 have s0:=w0.rf
 obtain ⟨r1,e1,hp⟩:=ah hp
 refine aR (cZ.P rfl ⟨w0,gZ⟩ e1) ?_
 rintro _ H2 ⟨rfl,w2,s2,_⟩
 refine br ?_
 exact aP hp ⟨rfl,w2,(s0.trans s2),trivial⟩
def c_.Q (H0:Hp) (Ri R0:asy)  (r:Bool) (v:AV) (H':Hp):Prop:=v=(.bool r)/\Out H0 Ri H' (R0) λR=>True
def c_.p (F:Nat) (aa:Int) (ac:Int) (ar:asw):Option (Bool):=(gQ.p F aa 0 48).bind λr2=>(bif r2 then ((gQ.p F ac 0 48).bind λr4=>(bif r4 then ((gr.p F ar).bind λr6=>(bif (r6==(wrap .i64 (aa * ac))) then ((iy.p F ar).bind λr9=>some (!r9)) else (some false))) else (some false))) else (some false))
theorem c_.P {aa ac bU bu bV ar} (dF:bu=ar.length) (h0:Inn H R0 λR=>ROs eI H R ⟨bU,bu,bV⟩ ar) {r:Bool} (hp:c_.p F aa ac ar=some r):Rt (c_.tw F aa ac ⟨bU,bu,bV⟩ H) (c_.Q H R0 R0  r):=by
 obtain ⟨w0,cS⟩:=h0
 subst dF
 unfold c_.p at hp
 unfold c_.tw c_.twX
 have s0:=w0.rf
 refine bQ w0 λH1 w1 s1=>?_
 refine lI w1 0 ?_
 obtain ⟨r2,e2,hp⟩:=ah hp
 refine aR (gQ.P ⟨w1,trivial⟩ e2) ?_
 rintro _ H3 ⟨rfl,w3,s3,_⟩
 refine br ?_
 refine aH hp (λhp=>?_) λhp=>?_
 ·refine lI w3 0 ?_
  obtain ⟨r4,e4,hp⟩:=ah hp
  refine aR (gQ.P ⟨w3,trivial⟩ e4) ?_
  rintro _ H5 ⟨rfl,w5,s5,_⟩
  refine br ?_
  refine aH hp (λhp=>?_) λhp=>?_
  ·refine lSl w5 0 ?_
   obtain ⟨r6,e6,hp⟩:=ah hp
   refine aR (gr.P rfl ⟨w5,(cS.step (s1.trans (s3.trans s5)))⟩ e6) ?_
   rintro _ H7 ⟨rfl,w7,s7,_⟩
   refine br ?_
   refine fU (W.cons_of (Rn:=[]) w5 w7 s7) ?_
   refine lI w7 0 ?_
   refine lI w7 0 ?_
   refine aH hp (λhp=>?_) λhp=>?_
   ·refine lSl w7 0 ?_
    obtain ⟨r9,e9,hp⟩:=ah hp
    refine aR (iy.P rfl ⟨w7,(cS.step (s1.trans (s3.trans (s5.trans s7))))⟩ e9) ?_
    rintro _ H10 ⟨rfl,w10,s10,_⟩
    refine br ?_
    obtain ⟨w11,s11⟩:=w10.pp [] 1
    exact aP hp ⟨rfl,w11,(s0.trans (s1.trans (s3.trans (s5.trans (s7.trans (s10.trans s11)))))),trivial⟩
   ·obtain ⟨w12,s12⟩:=w7.pp [] 1
    exact aP hp ⟨rfl,w12,(s0.trans (s1.trans (s3.trans (s5.trans (s7.trans s12))))),trivial⟩
  ·obtain ⟨w13,s13⟩:=w5.pp [] 1
   exact aP hp ⟨rfl,w13,(s0.trans (s1.trans (s3.trans (s5.trans s13)))),trivial⟩
 ·obtain ⟨w14,s14⟩:=w3.pp [] 1
  exact aP hp ⟨rfl,w14,(s0.trans (s1.trans (s3.trans s14))),trivial⟩
def cO.Q (H0:Hp) (Ri R0:asy)  (r:asK) (v:AV) (H':Hp):Prop:=∃ o2a:ON,∃ o2n:Nat,∃ o2k:List AV,v=(.agg [(.i r.1),(.i r.2.1),(.sl ⟨o2a,o2n,.ex o2n⟩)])/\o2n=(r.2.2).length/\Out H0 Ri H' (Rs.own ⟨o2a,o2n,.ex o2n⟩ eI.z o2k::R0) λR=>CR eI H' R o2k (r.2.2)
def cO.p (F:Nat) (aa:Int) (aG:Int):Option (Int×Int×List Int):=(mkn (wrap .i64 (aa * aG)) (0:Int)).bind λl2=>some (aa,aG,l2)
theorem cO.P {aa aG}  (h0:Inn H R0 λR=>True) {r:asK} (hp:cO.p F aa aG=some r):Rt (cO.tw F aa aG H) (cO.Q H R0 R0  r):=by
 obtain ⟨w0,_⟩:=h0
 unfold cO.p at hp
 unfold cO.tw cO.twX
 have s0:=w0.rf
 refine bQ w0 λH1 w1 s1=>?_
 obtain ⟨l2,e2,hp⟩:=ah hp
 refine Lq eI (0:Int) w1 rfl rfl rfl e2 λH3 k3 w3 s3 c3=>?_
 refine aw w3 1 λH4 w4 s4=>?_
 refine aw w4 1 λH5 w5 s5=>?_
 refine aw w5 1 λH6 w6 s6=>?_
 refine lI w6 1 ?_
 refine lI w6 1 ?_
 refine lSl w6 1 ?_
 obtain ⟨w7,s7⟩:=w6.pp [0] 2
 exact aP hp ⟨_,_,_,rfl,rfl,w7,(s0.trans (s1.trans (s3.trans (s4.trans (s5.trans (s6.trans s7)))))),(c3.step (s4.trans (s5.trans (s6.trans s7))))⟩
def bv.Q (H0:Hp) (Ri R0:asy)  (r:asK) (v:AV) (H':Hp):Prop:=∃ o2a:ON,∃ o2n:Nat,∃ o2c:Cap,∃ o2k:List AV,v=(.agg [(.i r.1),(.i r.2.1),(.sl ⟨o2a,o2n,o2c⟩)])/\o2n=(r.2.2).length/\Out H0 Ri H' (Rs.own ⟨o2a,o2n,o2c⟩ eI.z o2k::R0) λR=>CR eI H' R o2k (r.2.2)
def bv.S61 (H0:Hp) (Ri R0:asy)  (C:asY) (pC:atg):Prop:=∀ {WN Af WO WP Ag Ah om mP MO MP MQ Hg mO Hh h_ Hj kr MR MS MT Ai MU uO MV MW},∀ {H:Hp},Hg=Ai.length->Hh=MU.length->Hj=uO.length->(Out H0 Ri H (Rs.blk mO [.i WN,.i Af,.sl ⟨MO,Hg,MR⟩]::Rs.own ⟨MP,Hh,MS⟩ eI.z MV::Rs.blk h_ [.i WO,.i WP,.sl ⟨MP,Hh,MS⟩]::Rs.own ⟨MQ,Hj,MT⟩ eI.z MW::Rs.blk kr [.i Ag,.i Ah,.sl ⟨MQ,Hj,MT⟩]::R0) λR=>ROs eI H R ⟨MO,Hg,MR⟩ Ai/\CR eI H R MV MU/\CR eI H R MW uO)->∀ {r:asK},pC Af Ai Ag Ah uO om mP=some r->Rt (C mO 0 h_ 0 kr 0 om mP H) (bv.Q H0 Ri R0  r)
def bv.S3931 (H0:Hp) (Ri R0:asy)  (C:Nat->Nat->Nat->Nat->Nat->Nat->Int->Int->Int->Int->Int->Hp->OA) (pC:Int->List Int->Int->Int->List Int->Int->Int->Int->Int->Int->Option (Int×Int×List Int)):Prop:=∀ {WQ uP WR WS Aj uQ oe og mN oh lq MX MY MZ Hk oc Hl sm Hm od M_ Na Nb rq Nc tu Nd Nf},∀ {H:Hp},Hk=rq.length->Hl=Nc.length->Hm=tu.length->(Out H0 Ri H (Rs.blk oc [.i WQ,.i uP,.sl ⟨MX,Hk,M_⟩]::Rs.own ⟨MY,Hl,Na⟩ eI.z Nd::Rs.blk sm [.i WR,.i WS,.sl ⟨MY,Hl,Na⟩]::Rs.own ⟨MZ,Hm,Nb⟩ eI.z Nf::Rs.blk od [.i Aj,.i uQ,.sl ⟨MZ,Hm,Nb⟩]::R0) λR=>ROs eI H R ⟨MX,Hk,M_⟩ rq/\CR eI H R Nd Nc/\CR eI H R Nf tu)->∀ {r:asK},pC uP rq Aj uQ tu oe og mN oh lq=some r->Rt (C oc 0 sm 0 od 0 oe og mN oh lq H) (bv.Q H0 Ri R0  r)
def bv.pj3 (F:Nat) (dV:atg) (Hn:Int) (BY:asw) (Ho:Int) (Hq:Int) (BZ:asw) (wA:Int) (wB:Int):Option (Int×Int×List Int):=dV Hn BY Ho Hq BZ wA (wrap .i64 (wB+1))
theorem bv.j3_P  {C61_:asY} {dV:atg} (hC61:bv.S61 H0 Ri R0  C61_ dV) {aii Hn aij aik Ho Hq wA wB WT WU WV Ng EF Nh EG Ni EH WW WX WY BY WZ BZ W_ Xa} (ail:Ng=BY.length) (aim:Nh=WZ.length) (ain:Ni=BZ.length) (h0:Out H0 Ri H (Rs.blk EF [.i aii,.i Hn,.sl ⟨WT,Ng,WW⟩]::Rs.own ⟨WU,Nh,WX⟩ eI.z W_::Rs.blk EG [.i aij,.i aik,.sl ⟨WU,Nh,WX⟩]::Rs.own ⟨WV,Ni,WY⟩ eI.z Xa::Rs.blk EH [.i Ho,.i Hq,.sl ⟨WV,Ni,WY⟩]::R0) λR=>ROs eI H R ⟨WT,Ng,WW⟩ BY/\CR eI H R W_ WZ/\CR eI H R Xa BZ) {r:asK} (hp:bv.pj3 F dV Hn BY Ho Hq BZ wA wB=some r):Rt (bv.j3 F (c_.tw F) (cO.tw F) (bf.tw F) C61_ EF 0 EG 0 EH 0 wA wB H) (bv.Q H0 Ri R0  r):=by
 obtain ⟨w0,s0,aio,aip,aiq⟩:=h0
 subst ail
 subst aim
 subst ain
 unfold bv.pj3 at hp
 unfold bv.j3
 exact hC61 rfl rfl rfl ⟨w0,s0,aio,aip,aiq⟩ hp
def bv.pj4 (F:Nat) (dV:atg) (Hr:Int) (B_:asw) (Hs:Int) (Ht:Int) (Ca:asw) (wC:Int) (wD:Int):Option (Int×Int×List Int):=bv.pj3 F dV Hr B_ Hs Ht Ca wC wD
theorem bv.j4_P  {C61_:asY} {dV:atg} (hC61:bv.S61 H0 Ri R0  C61_ dV) {air Hr ais ait Hs Ht wC wD Xb Xc Xd Nj EI Nk EJ Nl EK Xe Xf Xg B_ Xh Ca Xi Xj} (aiu:Nj=B_.length) (aiv:Nk=Xh.length) (aiw:Nl=Ca.length) (h0:Out H0 Ri H (Rs.blk EI [.i air,.i Hr,.sl ⟨Xb,Nj,Xe⟩]::Rs.own ⟨Xc,Nk,Xf⟩ eI.z Xi::Rs.blk EJ [.i ais,.i ait,.sl ⟨Xc,Nk,Xf⟩]::Rs.own ⟨Xd,Nl,Xg⟩ eI.z Xj::Rs.blk EK [.i Hs,.i Ht,.sl ⟨Xd,Nl,Xg⟩]::R0) λR=>ROs eI H R ⟨Xb,Nj,Xe⟩ B_/\CR eI H R Xi Xh/\CR eI H R Xj Ca) {r:asK} (hp:bv.pj4 F dV Hr B_ Hs Ht Ca wC wD=some r):Rt (bv.j4 F (c_.tw F) (cO.tw F) (bf.tw F) C61_ EI 0 EJ 0 EK 0 wC wD H) (bv.Q H0 Ri R0  r):=by
 obtain ⟨w0,s0,aix,aiy,aiz⟩:=h0
 subst aiu
 subst aiv
 subst aiw
 unfold bv.pj4 at hp
 unfold bv.j4
 exact bv.j3_P (@hC61) rfl rfl rfl ⟨w0,s0,aix,aiy,aiz⟩ hp
def bv.pl3931 (F:Nat) (dV:atg):Nat->Int->List Int->Int->Int->List Int->Int->Int->Int->Int->Int->Option (Int×Int×List Int)
 | 0,_,_,_,_,_,_,_,_,_,_=>none
 | k+1,uP,rq,Aj,uQ,tu,oe,og,mN,oh,lq=>(bif (decide (lq<oh)) then ((ix tu (wrap .i64 ((wrap .i64 (lq * uQ))+mN))).bind λn2=>(ix rq (wrap .i64 ((wrap .i64 (mN * uP))+lq))).bind λn5=>(some (tu.set n2 (gt rq n5))).bind λl6=>bv.pl3931 F dV k uP rq Aj uQ l6 oe og mN oh (wrap .i64 (lq+1))) else (bv.pj4 F dV uP rq Aj uQ tu oe og))
theorem bv.l3931_P  {C61_:asY} {dV:atg} (hC61:bv.S61 H0 Ri R0  C61_ dV):∀ k,bv.S3931 H0 Ri R0  (bv.l3931 F (c_.tw F) (cO.tw F) (bf.tw F) C61_ k) (bv.pl3931 F dV k):=by
 intro k
 induction k with
 | zero=>unfold bv.S3931;intros;rename_i hp;cases hp
 | succ k ih=>
  intro WQ uP WR WS Aj uQ oe og mN oh lq MX MY MZ Hk oc Hl sm Hm od M_ Na Nb rq Nc tu Nd Nf H aiA aiB aiC h0 r hp
  obtain ⟨w0,s0,Nm,Xk,Nn⟩:=h0
  subst aiA
  subst aiB
  subst aiC
  unfold bv.pl3931 at hp
  unfold bv.l3931
  refine aH hp (λhp=>?_) λhp=>?_
  ·refine lI w0 4 ?_
   refine lI w0 4 ?_
   refine lSl w0 4 ?_
   refine bf.inl ?_
   refine bQ w0 λH1 w1 s1=>?_
   refine lSl w1 0 ?_
   refine lI w1 0 ?_
   obtain ⟨n2,g2,hp⟩:=ah hp
   obtain ⟨p2,q2,i2,h2,j2⟩:=W.ixo (E:=eI) w1 (i:=4) rfl rfl (Nn.step s1) g2
   refine aA i2 ?_
   refine ⟨_,_,rfl,?_⟩
   refine br ?_
   refine fU (W.cons_of (Rn:=[_]) w0 w1 s1) ?_
   refine lI w1 1 ?_
   refine lI w1 1 ?_
   refine lSl w1 1 ?_
   refine bf.inl ?_
   refine bQ w1 λH4 w4 s4=>?_
   refine lSl w4 0 ?_
   refine lI w4 0 ?_
   obtain ⟨n5,g5,hp⟩:=ah hp
   obtain ⟨p5,q5,i5,h5,j5⟩:=ROs.ixr (Nm.step (s1.trans s4)) rfl g5
   refine aA i5 ?_
   refine ⟨_,_,rfl,?_⟩
   refine br ?_
   have h5:_=[_]:=h5
   subst h5
   refine aA (cy (j5 0 _ rfl)) ?_
   obtain ⟨l6,e6,hp⟩:=ah hp
   refine gD eI w4 (i:=5) (j:=0) (p:=p2) rfl rfl (Nn.step (s1.trans s4)) g2 i2 e6 rfl rfl (λ_ h=>by have h:_=[_]:=h;subst h;exact rfl) λH7 k7 w7 s7 c7=>?_
   obtain ⟨w8,s8⟩:=w7.pp [2,3,4,5,6] 7
   exact ih rfl rfl ((eQ e6).symm) ⟨w8,(s0.trans (s1.trans (s4.trans (s7.trans s8)))),(Nm.step (s1.trans (s4.trans (s7.trans s8)))),(Xk.step (s1.trans (s4.trans (s7.trans s8)))),(c7.step s8)⟩ hp
  ·exact bv.j4_P (@hC61) rfl rfl rfl ⟨w0,s0,Nm,Xk,Nn⟩ hp
def bv.pl61 (F:Nat) :Nat->Int->List Int->Int->Int->List Int->Int->Int->Option (Int×Int×List Int)
 | 0,_,_,_,_,_,_,_=>none
 | k+1,Af,Ai,Ag,Ah,uO,om,mP=>(bif (decide (mP<om)) then (bv.pl3931 F (bv.pl61 F k) F Af Ai Ag Ah uO om mP mP Af 0) else (some (Ag,Ah,uO)))
theorem bv.l61_P  :∀ k,bv.S61 H0 Ri R0  (bv.l61 F (c_.tw F) (cO.tw F) (bf.tw F)  k) (bv.pl61 F  k):=by
 intro k
 induction k with
 | zero=>unfold bv.S61;intros;rename_i hp;cases hp
 | succ k ih=>
  intro WN Af WO WP Ag Ah om mP MO MP MQ Hg mO Hh h_ Hj kr MR MS MT Ai MU uO MV MW H aiD aiE aiF h0 r hp
  obtain ⟨w0,s0,aiG,aiH,Xl⟩:=h0
  subst aiD
  subst aiE
  subst aiF
  unfold bv.pl61 at hp
  unfold bv.l61
  refine aH hp (λhp=>?_) λhp=>?_
  ·refine lI w0 0 ?_
   exact bv.l3931_P (@ih) F rfl rfl rfl ⟨w0,s0,aiG,aiH,Xl⟩ hp
  ·refine lI w0 4 ?_
   refine lI w0 4 ?_
   refine lSl w0 4 ?_
   refine aw w0 2 λH1 w1 s1=>?_
   refine aw w1 2 λH2 w2 s2=>?_
   refine aw w2 2 λH3 w3 s3=>?_
   refine lI w3 2 ?_
   refine lI w3 2 ?_
   refine lSl w3 2 ?_
   obtain ⟨w4,s4⟩:=w3.pp [3] 5
   exact aP hp ⟨_,_,_,_,rfl,rfl,w4,(s0.trans (s1.trans (s2.trans (s3.trans s4)))),(Xl.step (s1.trans (s2.trans (s3.trans s4))))⟩
def bv.p (F:Nat) (aa:Int) (ac:Int) (ar:asw):Option (Int×Int×List Int):=(c_.p F aa ac ar).bind λr3=>(bif (!r3) then (some (0,0,([]:List Int))) else ((cO.p F ac aa).bind λr10=>bv.pl61 F F ac ar r10.1 r10.2.1 r10.2.2 aa 0))
theorem bv.P {aa ac bU bu bV ar} (dF:bu=ar.length) (h0:Inn H R0 λR=>ROs eI H R ⟨bU,bu,bV⟩ ar) {r:asK} (hp:bv.p F aa ac ar=some r):Rt (bv.tw F aa ac ⟨bU,bu,bV⟩ H) (bv.Q H R0 R0  r):=by
 obtain ⟨w0,cS⟩:=h0
 subst dF
 unfold bv.p at hp
 unfold bv.tw bv.twX
 have s0:=w0.rf
 refine bQ w0 λH1 w1 s1=>?_
 refine bQ w1 λH2 w2 s2=>?_
 refine lI w2 1 ?_
 refine lI w2 1 ?_
 refine lSl w2 1 ?_
 obtain ⟨r3,e3,hp⟩:=ah hp
 refine aR (c_.P rfl ⟨w2,(cS.step (s1.trans s2))⟩ e3) ?_
 rintro _ H4 ⟨rfl,w4,s4,_⟩
 refine br ?_
 refine aH hp (λhp=>?_) λhp=>?_
 ·refine aw w4 0 λH5 w5 s5=>?_
  refine aw w5 0 λH6 w6 s6=>?_
  refine aw w6 0 λH7 w7 s7=>?_
  refine lI w7 0 ?_
  refine lI w7 0 ?_
  refine lSl w7 0 ?_
  obtain ⟨w8,s8⟩:=w7.nilS eI.z (by decide)
  obtain ⟨w9,s9⟩:=w8.pp [0] 3
  exact aP hp ⟨_,_,_,_,rfl,rfl,w9,(s0.trans (s1.trans (s2.trans (s4.trans (s5.trans (s6.trans (s7.trans (s8.trans s9)))))))),((CR.empty:CR eI _ _ [] []).step s9)⟩
 ·refine lI w4 1 ?_
  refine lI w4 1 ?_
  obtain ⟨r10,e10,hp⟩:=ah hp
  refine aR (cO.P ⟨w4,trivial⟩ e10) ?_
  rintro _ H11 ⟨o2a_11,o2n_11,o2k_11,rfl,rfl,w11,s11,f11_0⟩
  refine br (br (br (br (br (br (br ?_))))))
  refine bQ w11 λH12 w12 s12=>?_
  refine aw w12 0 λH13 w13 s13=>?_
  refine aw w13 0 λH14 w14 s14=>?_
  refine aw w14 0 λH15 w15 s15=>?_
  refine lI w15 3 ?_
  obtain ⟨w16,s16⟩:=w15.nilS eI.z (by decide)
  obtain ⟨w17,s17⟩:=w16.pp [4,0,3,2,1] 5
  exact bv.l61_P F rfl rfl rfl ⟨w17,(s0.trans (s1.trans (s2.trans (s4.trans (s11.trans (s12.trans (s13.trans (s14.trans (s15.trans (s16.trans s17)))))))))),(cS.step (s1.trans (s2.trans (s4.trans (s11.trans (s12.trans (s13.trans (s14.trans (s15.trans (s16.trans s17)))))))))),((CR.empty:CR eI _ _ [] []).step s17),(f11_0.step (s12.trans (s13.trans (s14.trans (s15.trans (s16.trans s17))))))⟩ hp
def dc.Q (H0:Hp) (Ri R0:asy)  (r:Bool) (v:AV) (H':Hp):Prop:=v=(.bool r)/\Out H0 Ri H' (R0) λR=>True
def dc.S29 (H0:Hp) (Ri R0:asy)  (C:Sl->Sl->Int->Int->Hp->OA) (pC:List Int->List Int->Int->Int->Option (Bool)):Prop:=∀ {th No qD Hu tn Np gL nM oq lr},∀ {H:Hp},qD=gL.length->Hu=nM.length->(Out H0 Ri H R0 λR=>ROs eI H R ⟨th,qD,tn⟩ gL/\ROs eI H R ⟨No,Hu,Np⟩ nM)->∀ {r:Bool},pC gL nM oq lr=some r->Rt (C ⟨th,qD,tn⟩ ⟨No,Hu,Np⟩ oq lr H) (dc.Q H0 Ri R0  r)
def dc.pl29 (F:Nat) :Nat->List Int->List Int->Int->Int->Option (Bool)
 | 0,_,_,_,_=>none
 | k+1,gL,nM,oq,lr=>(bif (decide (lr<oq)) then ((ix gL lr).bind λn1=>(ix nM lr).bind λn2=>(bif ((gt gL n1) != (gt nM n2)) then (some false) else (dc.pl29 F k gL nM oq (wrap .i64 (lr+1))))) else (some true))
theorem dc.l29_P  :∀ k,dc.S29 H0 Ri R0  (dc.l29 F   k) (dc.pl29 F  k):=by
 intro k
 induction k with
 | zero=>unfold dc.S29;intros;rename_i hp;cases hp
 | succ k ih=>
  intro th No qD Hu tn Np gL nM oq lr H Mb aiI h0 r hp
  obtain ⟨w0,s0,uE,Xm⟩:=h0
  subst Mb
  subst aiI
  unfold dc.pl29 at hp
  unfold dc.l29
  refine aH hp (λhp=>?_) λhp=>?_
  ·obtain ⟨n1,g1,hp⟩:=ah hp
   obtain ⟨p1,q1,i1,h1,j1⟩:=ROs.ixr uE rfl g1
   refine aA i1 ?_
   have h1:_=[_]:=h1
   subst h1
   refine aA (cy (j1 0 _ rfl)) ?_
   obtain ⟨n2,g2,hp⟩:=ah hp
   obtain ⟨p2,q2,i2,h2,j2⟩:=ROs.ixr Xm rfl g2
   refine aA i2 ?_
   have h2:_=[_]:=h2
   subst h2
   refine aA (cy (j2 0 _ rfl)) ?_
   refine aH hp (λhp=>?_) λhp=>?_
   ·exact aP hp ⟨rfl,w0,s0,trivial⟩
   ·exact ih rfl rfl ⟨w0,s0,uE,Xm⟩ hp
  ·exact aP hp ⟨rfl,w0,s0,trivial⟩
def dc.p (F:Nat) (aY:asw) (rr:asw):Option (Bool):=(bif ((aY.length:Int) != (rr.length:Int)) then (some false) else (dc.pl29 F F aY rr (aY.length:Int) 0))
theorem dc.P {dN Xn cQ Nq dO Xo aY rr} (gz:cQ=aY.length) (aiJ:Nq=rr.length) (h0:Inn H R0 λR=>ROs eI H R ⟨dN,cQ,dO⟩ aY/\ROs eI H R ⟨Xn,Nq,Xo⟩ rr) {r:Bool} (hp:dc.p F aY rr=some r):Rt (dc.tw F ⟨dN,cQ,dO⟩ ⟨Xn,Nq,Xo⟩ H) (dc.Q H R0 R0  r):=by
 obtain ⟨w0,gZ,aiK⟩:=h0
 subst gz
 subst aiJ
 unfold dc.p at hp
 unfold dc.tw dc.twX
 have s0:=w0.rf
 refine aH hp (λhp=>?_) λhp=>?_
 ·exact aP hp ⟨rfl,w0,s0,trivial⟩
 ·exact dc.l29_P F rfl rfl ⟨w0,s0,gZ,aiK⟩ hp
def iz.Q (H0:Hp) (Ri R0:asy)  (r:Bool) (v:AV) (H':Hp):Prop:=v=(.bool r)/\Out H0 Ri H' (R0) λR=>True
def iz.p (F:Nat) (aa:Int) (ac:Int) (ar:asw) (au:Int) (ct:Int) (iN:asw):Option (Bool):=(bif (aa==au) then ((bif (ac==ct) then ((dc.p F ar iN).bind λr3=>some r3) else (some false))) else (some false))
theorem iz.P {aa ac au ct bU Cb bu uR bV Cc ar iN} (dF:bu=ar.length) (Nr:uR=iN.length) (h0:Inn H R0 λR=>ROs eI H R ⟨bU,bu,bV⟩ ar/\ROs eI H R ⟨Cb,uR,Cc⟩ iN) {r:Bool} (hp:iz.p F aa ac ar au ct iN=some r):Rt (iz.tw F aa ac ⟨bU,bu,bV⟩ au ct ⟨Cb,uR,Cc⟩ H) (iz.Q H R0 R0  r):=by
 obtain ⟨w0,cS,Ns⟩:=h0
 subst dF
 subst Nr
 unfold iz.p at hp
 unfold iz.tw iz.twX
 have s0:=w0.rf
 refine bQ w0 λH1 w1 s1=>?_
 refine bQ w1 λH2 w2 s2=>?_
 refine lI w2 1 ?_
 refine lI w2 0 ?_
 refine aH hp (λhp=>?_) λhp=>?_
 ·refine lI w2 1 ?_
  refine lI w2 0 ?_
  refine aH hp (λhp=>?_) λhp=>?_
  ·refine lSl w2 1 ?_
   refine lSl w2 0 ?_
   obtain ⟨r3,e3,hp⟩:=ah hp
   refine aR (dc.P rfl rfl ⟨w2,(cS.step (s1.trans s2)),(Ns.step (s1.trans s2))⟩ e3) ?_
   rintro _ H4 ⟨rfl,w4,s4,_⟩
   refine br ?_
   obtain ⟨w5,s5⟩:=w4.pp [] 2
   exact aP hp ⟨rfl,w5,(s0.trans (s1.trans (s2.trans (s4.trans s5)))),trivial⟩
  ·obtain ⟨w6,s6⟩:=w2.pp [] 2
   exact aP hp ⟨rfl,w6,(s0.trans (s1.trans (s2.trans s6))),trivial⟩
 ·obtain ⟨w7,s7⟩:=w2.pp [] 2
  exact aP hp ⟨rfl,w7,(s0.trans (s1.trans (s2.trans s7))),trivial⟩
def dx.Q (H0:Hp) (Ri R0:asy)  (r:asw) (v:AV) (H':Hp):Prop:=∃ o0a:ON,∃ o0n:Nat,∃ o0c:Cap,v=(.sl ⟨o0a,o0n,o0c⟩)/\o0n=(r).length/\Out H0 Ri H' (R0) λR=>ROs eI H' R ⟨o0a,o0n,o0c⟩ (r)
def dx.p (F:Nat) (ac:Int) (ar:asw) (au:Int):Option (List Int):=(cutf ar (wrap .i64 (au * ac)) (wrap .i64 ((wrap .i64 (au+1)) * ac))).bind λl2=>some l2
theorem dx.P {aa ac au bU bu bV ar} (dF:bu=ar.length) (h0:Inn H R0 λR=>ROs eI H R ⟨bU,bu,bV⟩ ar) {r:asw} (hp:dx.p F ac ar au=some r):Rt (dx.tw F aa ac ⟨bU,bu,bV⟩ au H) (dx.Q H R0 R0  r):=by
 obtain ⟨w0,cS⟩:=h0
 subst dF
 unfold dx.p at hp
 unfold dx.tw dx.twX
 have s0:=w0.rf
 refine bQ w0 λH1 w1 s1=>?_
 refine lSl w1 0 ?_
 refine lI w1 0 ?_
 refine lI w1 0 ?_
 obtain ⟨l2,e2,hp⟩:=ah hp
 obtain ⟨a2,d2,h2,f2⟩:=ROs.cutf (cS.step s1) rfl e2
 refine aA h2 ?_
 obtain ⟨w3,s3⟩:=w1.pp [] 1
 exact aP hp ⟨_,_,_,rfl,rfl,w3,(s0.trans (s1.trans s3)),(f2.step s3)⟩
def cW.Q (H0:Hp) (Ri R0:asy)  (r:Int) (v:AV) (H':Hp):Prop:=v=(.i r)/\Out H0 Ri H' (R0) λR=>True
def cW.p (F:Nat) (aa:Int):Option (Int):=(bif (decide (aa<0)) then (some (wrap .i64 (0 - aa))) else (some aa))
theorem cW.P {aa}  (h0:Inn H R0 λR=>True) {r:Int} (hp:cW.p F aa=some r):Rt (cW.tw F aa H) (cW.Q H R0 R0  r):=by
 obtain ⟨w0,_⟩:=h0
 unfold cW.p at hp
 unfold cW.tw cW.twX
 have s0:=w0.rf
 refine aH hp (λhp=>?_) λhp=>?_
 ·exact aP hp ⟨rfl,w0,s0,trivial⟩
 ·exact aP hp ⟨rfl,w0,s0,trivial⟩
def bw.Q (H0:Hp) (Ri R0:asy)  (r:Int) (v:AV) (H':Hp):Prop:=v=(.i r)/\Out H0 Ri H' (R0) λR=>True
def bw.S29 (H0:Hp) (Ri R0:asy)  (C:asH) (pC:ath):Prop:=∀ {Hv tv fV oB mR Nt Hw lu Nu qF},∀ {H:Hp},Hw=qF.length->(Out H0 Ri H (Rs.blk lu [.i Hv,.i tv,.sl ⟨Nt,Hw,Nu⟩]::R0) λR=>ROs eI H R ⟨Nt,Hw,Nu⟩ qF)->∀ {r:Int},pC tv qF fV oB mR=some r->Rt (C lu 0 fV oB mR H) (bw.Q H0 Ri R0  r)
def bw.S7533 (H0:Hp) (Ri R0:asy)  (C:Nat->Nat->Int->Int->Int->Int->Sl->Int->Int->Hp->OA) (pC:Int->List Int->Int->Int->Int->Int->List Int->Int->Int->Option (Int)):Prop:=∀ {Xp Ak ov ox oy oz oA mQ Nv Nw Hy sp Hz Nx Ny uS tz},∀ {H:Hp},Hy=uS.length->Hz=tz.length->(Out H0 Ri H (Rs.blk sp [.i Xp,.i Ak,.sl ⟨Nv,Hy,Nx⟩]::R0) λR=>ROs eI H R ⟨Nv,Hy,Nx⟩ uS/\ROs eI H R ⟨Nw,Hz,Ny⟩ tz)->∀ {r:Int},pC Ak uS ov ox oy oz tz oA mQ=some r->Rt (C sp 0 ov ox oy oz ⟨Nw,Hz,Ny⟩ oA mQ H) (bw.Q H0 Ri R0  r)
def bw.pj3 (F:Nat) (aU:ath) (HA:Int) (Cd:asw) (wG:Int) (wH:Int) (wI:Int):Option (Int):=aU HA Cd wG wH (wrap .i64 (wI+1))
theorem bw.j3_P  {C29_:asH} {aU:ath} (hC29:bw.S29 H0 Ri R0  C29_ aU) {aiL HA wG wH wI Xq Nz EO Xr Cd} (aiM:Nz=Cd.length) (h0:Out H0 Ri H (Rs.blk EO [.i aiL,.i HA,.sl ⟨Xq,Nz,Xr⟩]::R0) λR=>ROs eI H R ⟨Xq,Nz,Xr⟩ Cd) {r:Int} (hp:bw.pj3 F aU HA Cd wG wH wI=some r):Rt (bw.j3 F (dx.tw F) (cW.tw F) C29_ EO 0 wG wH wI H) (bw.Q H0 Ri R0  r):=by
 obtain ⟨w0,s0,aiN⟩:=h0
 subst aiM
 unfold bw.pj3 at hp
 unfold bw.j3
 exact hC29 rfl ⟨w0,s0,aiN⟩ hp
def bw.pj4 (F:Nat) (aU:ath) (HB:Int) (Ce:asw) (qw:Int) (ia:Int) (wJ:Int) (wK:Int):Option (Int):=(bif (decide ((wrap .i64 (qw * (if 1>(if 1000000001<ia then 1000000001 else ia) then 1 else (if 1000000001<ia then 1000000001 else ia))))>1000000000)) then (some (wrap .i64 (qw * (if 1>(if 1000000001<ia then 1000000001 else ia) then 1 else (if 1000000001<ia then 1000000001 else ia))))) else (bw.pj3 F aU HB Ce (wrap .i64 (qw * (if 1>(if 1000000001<ia then 1000000001 else ia) then 1 else (if 1000000001<ia then 1000000001 else ia)))) wJ wK))
theorem bw.j4_P  {C29_:asH} {aU:ath} (hC29:bw.S29 H0 Ri R0  C29_ aU) {aiO HB qw ia wJ wK Xs NA EP Xt Ce} (aiP:NA=Ce.length) (h0:Out H0 Ri H (Rs.blk EP [.i aiO,.i HB,.sl ⟨Xs,NA,Xt⟩]::R0) λR=>ROs eI H R ⟨Xs,NA,Xt⟩ Ce) {r:Int} (hp:bw.pj4 F aU HB Ce qw ia wJ wK=some r):Rt (bw.j4 F (dx.tw F) (cW.tw F) C29_ EP 0 qw ia wJ wK H) (bw.Q H0 Ri R0  r):=by
 obtain ⟨w0,s0,aiQ⟩:=h0
 subst aiP
 unfold bw.pj4 at hp
 unfold bw.j4
 refine aH hp (λhp=>?_) λhp=>?_
 ·obtain ⟨w1,s1⟩:=w0.pp [] 1
  exact aP hp ⟨rfl,w1,(s0.trans s1),trivial⟩
 ·exact bw.j3_P (@hC29) rfl ⟨w0,s0,aiQ⟩ hp
def bw.pl7533 (F:Nat) (aU:ath):Nat->Int->List Int->Int->Int->Int->Int->List Int->Int->Int->Option (Int)
 | 0,_,_,_,_,_,_,_,_,_=>none
 | k+1,Ak,uS,ov,ox,oy,oz,tz,oA,mQ=>(bif (decide (mQ<oA)) then ((ix tz mQ).bind λn1=>(cW.p F (gt tz n1)).bind λr2=>bw.pl7533 F aU k Ak uS ov ox oy (wrap .i64 (oz+r2)) tz oA (wrap .i64 (mQ+1))) else (bw.pj4 F aU Ak uS ov oz ox oy))
theorem bw.l7533_P  {C29_:asH} {aU:ath} (hC29:bw.S29 H0 Ri R0  C29_ aU):∀ k,bw.S7533 H0 Ri R0  (bw.l7533 F (dx.tw F) (cW.tw F) C29_ k) (bw.pl7533 F aU k):=by
 intro k
 induction k with
 | zero=>unfold bw.S7533;intros;rename_i hp;cases hp
 | succ k ih=>
  intro Xp Ak ov ox oy oz oA mQ Nv Nw Hy sp Hz Nx Ny uS tz H aiR aiS h0 r hp
  obtain ⟨w0,s0,Xu,Xv⟩:=h0
  subst aiR
  subst aiS
  unfold bw.pl7533 at hp
  unfold bw.l7533
  refine aH hp (λhp=>?_) λhp=>?_
  ·obtain ⟨n1,g1,hp⟩:=ah hp
   obtain ⟨p1,q1,i1,h1,j1⟩:=ROs.ixr Xv rfl g1
   refine aA i1 ?_
   have h1:_=[_]:=h1
   subst h1
   refine aA (cy (j1 0 _ rfl)) ?_
   obtain ⟨r2,e2,hp⟩:=ah hp
   refine aR (cW.P ⟨w0,trivial⟩ e2) ?_
   rintro _ H3 ⟨rfl,w3,s3,_⟩
   refine br ?_
   exact ih rfl rfl ⟨w3,(s0.trans s3),(Xu.step s3),(Xv.step s3)⟩ hp
  ·exact bw.j4_P (@hC29) rfl ⟨w0,s0,Xu⟩ hp
def bw.pl29 (F:Nat) :Nat->Int->List Int->Int->Int->Int->Option (Int)
 | 0,_,_,_,_,_=>none
 | k+1,tv,qF,fV,oB,mR=>(bif (decide (mR<oB)) then ((dx.p F tv qF mR).bind λr1=>bw.pl7533 F (bw.pl29 F k) F tv qF fV oB mR 0 r1 (r1.length:Int) 0) else (some fV))
theorem bw.l29_P  :∀ k,bw.S29 H0 Ri R0  (bw.l29 F (dx.tw F) (cW.tw F)  k) (bw.pl29 F  k):=by
 intro k
 induction k with
 | zero=>unfold bw.S29;intros;rename_i hp;cases hp
 | succ k ih=>
  intro Hv tv fV oB mR Nt Hw lu Nu qF H aiT h0 r hp
  obtain ⟨w0,s0,Xw⟩:=h0
  subst aiT
  unfold bw.pl29 at hp
  unfold bw.l29
  refine aH hp (λhp=>?_) λhp=>?_
  ·refine lI w0 0 ?_
   refine lI w0 0 ?_
   refine lSl w0 0 ?_
   obtain ⟨r1,e1,hp⟩:=ah hp
   refine aR (dx.P rfl ⟨w0,Xw⟩ e1) ?_
   rintro _ H2 ⟨o0a_2,o0n_2,o0c_2,rfl,rfl,w2,s2,f2_0⟩
   refine br ?_
   exact bw.l7533_P (@ih) F rfl rfl ⟨w2,(s0.trans s2),(Xw.step s2),f2_0⟩ hp
  ·obtain ⟨w3,s3⟩:=w0.pp [] 1
   exact aP hp ⟨rfl,w3,(s0.trans s3),trivial⟩
def bw.p (F:Nat) (aa:Int) (ac:Int) (ar:asw):Option (Int):=bw.pl29 F F ac ar 1 aa 0
theorem bw.P {aa ac bU bu bV ar} (dF:bu=ar.length) (h0:Inn H R0 λR=>ROs eI H R ⟨bU,bu,bV⟩ ar) {r:Int} (hp:bw.p F aa ac ar=some r):Rt (bw.tw F aa ac ⟨bU,bu,bV⟩ H) (bw.Q H R0 R0  r):=by
 obtain ⟨w0,cS⟩:=h0
 subst dF
 unfold bw.p at hp
 unfold bw.tw bw.twX
 have s0:=w0.rf
 refine bQ w0 λH1 w1 s1=>?_
 refine lI w1 0 ?_
 exact bw.l29_P F rfl ⟨w1,(s0.trans s1),(cS.step s1)⟩ hp
def aj.Q (H0:Hp) (Ri R0:asy)  (r:asw) (v:AV) (H':Hp):Prop:=∃ o0a:ON,∃ o0n:Nat,∃ o0c:Cap,∃ o0k:List AV,v=(.sl ⟨o0a,o0n,o0c⟩)/\o0n=(r).length/\Out H0 Ri H' (Rs.own ⟨o0a,o0n,o0c⟩ eI.z o0k::R0) λR=>CR eI H' R o0k (r)
def aj.S253 (H0:Hp) (Ri R0:asy)  (C:asO) (pC:asR):Prop:=∀ {Xx Cg kt Xy Ch o_ NB NC ND HC uv HD HE uw NE NF NG Al uT Am NH NI},∀ {H:Hp},HC=Al.length->HD=uT.length->HE=Am.length->(Out H0 Ri H (Rs.blk uv [.i Xx,.i Cg,.sl ⟨NB,HC,NE⟩]::Rs.own ⟨NC,HD,NF⟩ eI.z NH::Rs.own ⟨ND,HE,NG⟩ eI.z NI::Rs.blk uw [.i Xy,.i Ch,.sl ⟨ND,HE,NG⟩]::R0) λR=>ROs eI H R ⟨NB,HC,NE⟩ Al/\CR eI H R NH uT/\CR eI H R NI Am)->∀ {r:asw},pC Cg Al kt uT Ch Am o_=some r->Rt (C uv 0 kt ⟨NC,HD,NF⟩ uw 0 o_ H) (aj.Q H0 Ri R0  r)
def aj.S32429 (H0:Hp) (Ri R0:asy)  (C:as1) (pC:as2):Prop:=∀ {Xz An mX XA uU mY XB Ao oY oZ ly NJ NK NL NM HF sG HG HI oX HJ sH NN NO NP NQ uV ru rv uW NR NS NT},∀ {H:Hp},HF=uV.length->HG=ru.length->HI=rv.length->HJ=uW.length->(Out H0 Ri H (Rs.blk sG [.i Xz,.i An,.sl ⟨NJ,HF,NN⟩]::Rs.own ⟨NK,HG,NO⟩ eI.z NR::Rs.own ⟨NL,HI,NP⟩ eI.z NS::Rs.blk oX [.i XA,.i uU,.sl ⟨NL,HI,NP⟩]::Rs.own ⟨NM,HJ,NQ⟩ eI.z NT::Rs.blk sH [.i XB,.i Ao,.sl ⟨NM,HJ,NQ⟩]::R0) λR=>ROs eI H R ⟨NJ,HF,NN⟩ uV/\CR eI H R NR ru/\CR eI H R NS rv/\CR eI H R NT uW)->∀ {r:asw},pC An uV mX ru uU rv mY Ao uW oY oZ ly=some r->Rt (C sG 0 mX ⟨NK,HG,NO⟩ oX 0 mY sH 0 oY oZ ly H) (aj.Q H0 Ri R0  r)
def aj.S64861 (H0:Hp) (Ri R0:asy)  (C:as1) (pC:as2):Prop:=∀ {XC Ap mV XD Ci oU XE Aq oV oW mW NU NV NW NX HK sC HL HM sD HN sE NY NZ N_ Oa uX uY Ar uZ Ob Oc Od},∀ {H:Hp},HK=uX.length->HL=uY.length->HM=Ar.length->HN=uZ.length->(Out H0 Ri H (Rs.blk sC [.i XC,.i Ap,.sl ⟨NU,HK,NY⟩]::Rs.own ⟨NV,HL,NZ⟩ eI.z Ob::Rs.own ⟨NW,HM,N_⟩ eI.z Oc::Rs.blk sD [.i XD,.i Ci,.sl ⟨NW,HM,N_⟩]::Rs.own ⟨NX,HN,Oa⟩ eI.z Od::Rs.blk sE [.i XE,.i Aq,.sl ⟨NX,HN,Oa⟩]::R0) λR=>ROs eI H R ⟨NU,HK,NY⟩ uX/\CR eI H R Ob uY/\CR eI H R Oc Ar/\CR eI H R Od uZ)->∀ {r:asw},pC Ap uX mV uY Ci Ar oU Aq uZ oV oW mW=some r->Rt (C sC 0 mV ⟨NV,HL,NZ⟩ sD 0 oU sE 0 oV oW mW H) (aj.Q H0 Ri R0  r)
def aj.S8302261 (H0:Hp) (Ri R0:asy)  (C:ata) (pC:ati):Prop:=∀ {XF As mT XG Au oO XH Av oP oQ oR oS oT mU Oe Of Og Oh HO sy HP HQ sA HR sB Oi Oj Ol Om u_ va vb vc Oo Oq Ot},∀ {H:Hp},HO=u_.length->HP=va.length->HQ=vb.length->HR=vc.length->(Out H0 Ri H (Rs.blk sy [.i XF,.i As,.sl ⟨Oe,HO,Oi⟩]::Rs.own ⟨Of,HP,Oj⟩ eI.z Oo::Rs.own ⟨Og,HQ,Ol⟩ eI.z Oq::Rs.blk sA [.i XG,.i Au,.sl ⟨Og,HQ,Ol⟩]::Rs.own ⟨Oh,HR,Om⟩ eI.z Ot::Rs.blk sB [.i XH,.i Av,.sl ⟨Oh,HR,Om⟩]::R0) λR=>ROs eI H R ⟨Oe,HO,Oi⟩ u_/\CR eI H R Oo va/\CR eI H R Oq vb/\CR eI H R Ot vc)->∀ {r:asw},pC As u_ mT va Au vb oO Av vc oP oQ oR oS oT mU=some r->Rt (C sy 0 mT ⟨Of,HP,Oj⟩ sA 0 oO sB 0 oP oQ oR oS oT mU H) (aj.Q H0 Ri R0  r)
def aj.S531344731 (H0:Hp) (Ri R0:asy)  (C:Nat->Nat->Int->Sl->Nat->Nat->Int->Nat->Nat->Int->Int->Int->Int->Int->Int->Int->Int->Int->Hp->OA) (pC:Int->List Int->Int->List Int->Int->List Int->Int->Int->List Int->Int->Int->Int->Int->Int->Int->Int->Int->Int->Option (List Int)):Prop:=∀ {XI ve oD XJ vg oF XK vh oH oI oJ lw oK oM mS oN lx Ou Ov Ox Oy HS oC HT HU oE HW oG Oz OB OC OD rx vi ry rz OE OF OG},∀ {H:Hp},HS=rx.length->HT=vi.length->HU=ry.length->HW=rz.length->(Out H0 Ri H (Rs.blk oC [.i XI,.i ve,.sl ⟨Ou,HS,Oz⟩]::Rs.own ⟨Ov,HT,OB⟩ eI.z OE::Rs.own ⟨Ox,HU,OC⟩ eI.z OF::Rs.blk oE [.i XJ,.i vg,.sl ⟨Ox,HU,OC⟩]::Rs.own ⟨Oy,HW,OD⟩ eI.z OG::Rs.blk oG [.i XK,.i vh,.sl ⟨Oy,HW,OD⟩]::R0) λR=>ROs eI H R ⟨Ou,HS,Oz⟩ rx/\CR eI H R OE vi/\CR eI H R OF ry/\CR eI H R OG rz)->∀ {r:asw},pC ve rx oD vi vg ry oF vh rz oH oI oJ lw oK oM mS oN lx=some r->Rt (C oC 0 oD ⟨Ov,HT,OB⟩ oE 0 oF oG 0 oH oI oJ lw oK oM mS oN lx H) (aj.Q H0 Ri R0  r)
def aj.pj28 (F:Nat) (lY:ati) (HX:Int) (Cj:asw) (w_:Int) (Ck:asw) (HY:Int) (Cl:asw) (xa:Int) (HZ:Int) (Cm:asw) (xb:Int) (xc:Int) (xd:Int) (xe:Int) (xf:Int) (xh:Int):Option (List Int):=lY HX Cj w_ Ck HY Cl xa HZ Cm xb xd xe xc xf (wrap .i64 (xh+1))
theorem aj.j28_P  {C8302261_:ata} {lY:ati} (hC8302261:aj.S8302261 H0 Ri R0  C8302261_ lY) {aiU HX w_ aiV HY xa aiW HZ xb xc xd xe xf xh XL XM XN XO OH Fc OI OJ Fe OK Ff XP XQ XR XS Cj Ck Cl Cm XT XU XV} (aiX:OH=Cj.length) (aiY:OI=Ck.length) (aiZ:OJ=Cl.length) (ai0:OK=Cm.length) (h0:Out H0 Ri H (Rs.blk Fc [.i aiU,.i HX,.sl ⟨XL,OH,XP⟩]::Rs.own ⟨XM,OI,XQ⟩ eI.z XT::Rs.own ⟨XN,OJ,XR⟩ eI.z XU::Rs.blk Fe [.i aiV,.i HY,.sl ⟨XN,OJ,XR⟩]::Rs.own ⟨XO,OK,XS⟩ eI.z XV::Rs.blk Ff [.i aiW,.i HZ,.sl ⟨XO,OK,XS⟩]::R0) λR=>ROs eI H R ⟨XL,OH,XP⟩ Cj/\CR eI H R XT Ck/\CR eI H R XU Cl/\CR eI H R XV Cm) {r:asw} (hp:aj.pj28 F lY HX Cj w_ Ck HY Cl xa HZ Cm xb xc xd xe xf xh=some r):Rt (aj.j28 F (cO.tw F) (bf.tw F) C8302261_ Fc 0 w_ ⟨XM,OI,XQ⟩ Fe 0 xa Ff 0 xb xc xd xe xf xh H) (aj.Q H0 Ri R0  r):=by
 obtain ⟨w0,s0,ai1,ai2,ai3,ai4⟩:=h0
 subst aiX
 subst aiY
 subst aiZ
 subst ai0
 unfold aj.pj28 at hp
 unfold aj.j28
 exact hC8302261 rfl rfl rfl rfl ⟨w0,s0,ai1,ai2,ai3,ai4⟩ hp
def aj.pj29 (F:Nat) (lY:ati) (H_:Int) (Cn:asw) (xi:Int) (Co:asw) (Ia:Int) (Cp:asw) (xj:Int) (Ib:Int) (Cq:asw) (xm:Int) (xn:Int) (xo:Int) (xp:Int) (xq:Int) (xr:Int):Option (List Int):=aj.pj28 F lY H_ Cn xi Co Ia Cp xj Ib Cq xm xn xo xp xq xr
theorem aj.j29_P  {C8302261_:ata} {lY:ati} (hC8302261:aj.S8302261 H0 Ri R0  C8302261_ lY) {ai5 H_ xi ai6 Ia xj ai7 Ib xm xn xo xp xq xr XW XX XY XZ OL Fg OM OO Fh OP Fi X_ Ya Yb Yc Cn Co Cp Cq Yd Ye Yf} (ai8:OL=Cn.length) (ai9:OM=Co.length) (ai_:OO=Cp.length) (aja:OP=Cq.length) (h0:Out H0 Ri H (Rs.blk Fg [.i ai5,.i H_,.sl ⟨XW,OL,X_⟩]::Rs.own ⟨XX,OM,Ya⟩ eI.z Yd::Rs.own ⟨XY,OO,Yb⟩ eI.z Ye::Rs.blk Fh [.i ai6,.i Ia,.sl ⟨XY,OO,Yb⟩]::Rs.own ⟨XZ,OP,Yc⟩ eI.z Yf::Rs.blk Fi [.i ai7,.i Ib,.sl ⟨XZ,OP,Yc⟩]::R0) λR=>ROs eI H R ⟨XW,OL,X_⟩ Cn/\CR eI H R Yd Co/\CR eI H R Ye Cp/\CR eI H R Yf Cq) {r:asw} (hp:aj.pj29 F lY H_ Cn xi Co Ia Cp xj Ib Cq xm xn xo xp xq xr=some r):Rt (aj.j29 F (cO.tw F) (bf.tw F) C8302261_ Fg 0 xi ⟨XX,OM,Ya⟩ Fh 0 xj Fi 0 xm xn xo xp xq xr H) (aj.Q H0 Ri R0  r):=by
 obtain ⟨w0,s0,ajb,ajc,ajd,aje⟩:=h0
 subst ai8
 subst ai9
 subst ai_
 subst aja
 unfold aj.pj29 at hp
 unfold aj.j29
 exact aj.j28_P (@hC8302261) rfl rfl rfl rfl ⟨w0,s0,ajb,ajc,ajd,aje⟩ hp
def aj.pl531344731 (F:Nat) (cw:asR) (jy:as2) (lY:ati):Nat->Int->List Int->Int->List Int->Int->List Int->Int->Int->List Int->Int->Int->Int->Int->Int->Int->Int->Int->Int->Option (List Int)
 | 0,_,_,_,_,_,_,_,_,_,_,_,_,_,_,_,_,_,_=>none
 | k+1,ve,rx,oD,vi,vg,ry,oF,vh,rz,oH,oI,oJ,lw,oK,oM,mS,oN,lx=>(bif (decide (lx<oN)) then ((ix rz (wrap .i64 ((wrap .i64 (lw * vh))+mS))).bind λn2=>(ix rx (wrap .i64 ((wrap .i64 (lw * ve))+lx))).bind λn5=>(ix ry (wrap .i64 ((wrap .i64 (lx * vg))+mS))).bind λn8=>(some (rz.set n2 (wrap .i64 ((gt rz n2)+(wrap .i64 ((gt rx n5) * (gt ry n8))))))).bind λl10=>aj.pl531344731 F cw jy lY k ve rx oD vi vg ry oF vh l10 oH oI oJ lw oK oM mS oN (wrap .i64 (lx+1))) else (aj.pj29 F lY ve rx oD vi vg ry oF vh rz oH lw oI oJ oK oM))
theorem aj.l531344731_P  {C253_:asO} {cw:asR} (hC253:aj.S253 H0 Ri R0  C253_ cw) {C64861_:as1} {jy:as2} (hC64861:aj.S64861 H0 Ri R0  C64861_ jy) {C8302261_:ata} {lY:ati} (hC8302261:aj.S8302261 H0 Ri R0  C8302261_ lY):∀ k,aj.S531344731 H0 Ri R0  (aj.l531344731 F (cO.tw F) (bf.tw F) C253_ C64861_ C8302261_ k) (aj.pl531344731 F cw jy lY k):=by
 intro k
 induction k with
 | zero=>unfold aj.S531344731;intros;rename_i hp;cases hp
 | succ k ih=>
  intro XI ve oD XJ vg oF XK vh oH oI oJ lw oK oM mS oN lx Ou Ov Ox Oy HS oC HT HU oE HW oG Oz OB OC OD rx vi ry rz OE OF OG H ajf ajg ajh aji h0 r hp
  obtain ⟨w0,s0,OQ,Yg,OR,OS⟩:=h0
  subst ajf
  subst ajg
  subst ajh
  subst aji
  unfold aj.pl531344731 at hp
  unfold aj.l531344731
  refine aH hp (λhp=>?_) λhp=>?_
  ·refine lI w0 5 ?_
   refine lI w0 5 ?_
   refine lSl w0 5 ?_
   refine bf.inl ?_
   refine bQ w0 λH1 w1 s1=>?_
   refine lSl w1 0 ?_
   refine lI w1 0 ?_
   obtain ⟨n2,g2,hp⟩:=ah hp
   obtain ⟨p2,q2,i2,h2,j2⟩:=W.ixo (E:=eI) w1 (i:=5) rfl rfl (OS.step s1) g2
   refine aA i2 ?_
   refine ⟨_,_,rfl,?_⟩
   refine br ?_
   refine fU (W.cons_of (Rn:=[_]) w0 w1 s1) ?_
   have h2:_=[_]:=h2
   subst h2
   refine aA (cy (j2 0 _ rfl)) ?_
   refine lI w1 1 ?_
   refine lI w1 1 ?_
   refine lSl w1 1 ?_
   refine bf.inl ?_
   refine bQ w1 λH4 w4 s4=>?_
   refine lSl w4 0 ?_
   refine lI w4 0 ?_
   obtain ⟨n5,g5,hp⟩:=ah hp
   obtain ⟨p5,q5,i5,h5,j5⟩:=ROs.ixr (OQ.step (s1.trans s4)) rfl g5
   refine aA i5 ?_
   refine ⟨_,_,rfl,?_⟩
   refine br ?_
   refine fU (W.cons_of (Rn:=[_]) w1 w4 s4) ?_
   have h5:_=[_]:=h5
   subst h5
   refine aA (cy (j5 0 _ rfl)) ?_
   refine lI w4 5 ?_
   refine lI w4 5 ?_
   refine lSl w4 5 ?_
   refine bf.inl ?_
   refine bQ w4 λH7 w7 s7=>?_
   refine lSl w7 0 ?_
   refine lI w7 0 ?_
   obtain ⟨n8,g8,hp⟩:=ah hp
   obtain ⟨p8,q8,i8,h8,j8⟩:=W.ixo (E:=eI) w7 (i:=5) rfl rfl (OR.step (s1.trans (s4.trans s7))) g8
   refine aA i8 ?_
   refine ⟨_,_,rfl,?_⟩
   refine br ?_
   refine fU (W.cons_of (Rn:=[_]) w4 w7 s7) ?_
   have h8:_=[_]:=h8
   subst h8
   refine aA (cy (j8 0 _ rfl)) ?_
   obtain ⟨l10,e10,hp⟩:=ah hp
   refine gD eI w7 (i:=7) (j:=0) (p:=p2) rfl rfl (OS.step (s1.trans (s4.trans s7))) g2 i2 e10 rfl rfl (λ_ h=>by have h:_=[_]:=h;subst h;exact rfl) λH11 k11 w11 s11 c11=>?_
   obtain ⟨w12,s12⟩:=w11.pp [3,4,5,6,7,8] 9
   exact ih rfl rfl rfl ((eQ e10).symm) ⟨w12,(s0.trans (s1.trans (s4.trans (s7.trans (s11.trans s12))))),(OQ.step (s1.trans (s4.trans (s7.trans (s11.trans s12))))),(Yg.step (s1.trans (s4.trans (s7.trans (s11.trans s12))))),(OR.step (s1.trans (s4.trans (s7.trans (s11.trans s12))))),(c11.step s12)⟩ hp
  ·exact aj.j29_P (@hC8302261) rfl rfl rfl rfl ⟨w0,s0,OQ,Yg,OR,OS⟩ hp
def aj.pj26 (F:Nat) (jy:as2) (Ic:Int) (Cr:asw) (wQ:Int) (Ct:asw) (Ie:Int) (Cu:asw) (wR:Int) (If:Int) (Cv:asw) (wS:Int) (wT:Int) (wU:Int):Option (List Int):=jy Ic Cr wQ Ct Ie Cu wR If Cv wS wT (wrap .i64 (wU+1))
theorem aj.j26_P  {C64861_:as1} {jy:as2} (hC64861:aj.S64861 H0 Ri R0  C64861_ jy) {ajj Ic wQ ajk Ie wR ajl If wS wT wU Yh Yi Yj Yk OU EW OV OW EY OX EZ Yl Ym Yn Yo Cr Ct Cu Cv Yp Yq Yr} (ajm:OU=Cr.length) (ajn:OV=Ct.length) (ajo:OW=Cu.length) (ajp:OX=Cv.length) (h0:Out H0 Ri H (Rs.blk EW [.i ajj,.i Ic,.sl ⟨Yh,OU,Yl⟩]::Rs.own ⟨Yi,OV,Ym⟩ eI.z Yp::Rs.own ⟨Yj,OW,Yn⟩ eI.z Yq::Rs.blk EY [.i ajk,.i Ie,.sl ⟨Yj,OW,Yn⟩]::Rs.own ⟨Yk,OX,Yo⟩ eI.z Yr::Rs.blk EZ [.i ajl,.i If,.sl ⟨Yk,OX,Yo⟩]::R0) λR=>ROs eI H R ⟨Yh,OU,Yl⟩ Cr/\CR eI H R Yp Ct/\CR eI H R Yq Cu/\CR eI H R Yr Cv) {r:asw} (hp:aj.pj26 F jy Ic Cr wQ Ct Ie Cu wR If Cv wS wT wU=some r):Rt (aj.j26 F (cO.tw F) (bf.tw F) C64861_ EW 0 wQ ⟨Yi,OV,Ym⟩ EY 0 wR EZ 0 wS wT wU H) (aj.Q H0 Ri R0  r):=by
 obtain ⟨w0,s0,ajq,ajr,ajs,ajt⟩:=h0
 subst ajm
 subst ajn
 subst ajo
 subst ajp
 unfold aj.pj26 at hp
 unfold aj.j26
 exact hC64861 rfl rfl rfl rfl ⟨w0,s0,ajq,ajr,ajs,ajt⟩ hp
def aj.pj27 (F:Nat) (jy:as2) (Ig:Int) (Cw:asw) (wV:Int) (Cx:asw) (Ih:Int) (Cy:asw) (wW:Int) (Cz:Int) (vj:asw) (wX:Int) (sx:Int) (wY:Int) (wZ:Int):Option (List Int):=(ix vj (wrap .i64 ((wrap .i64 (sx * Cz))+sx))).bind λn2=>aj.pj26 F jy Ig Cw wV Cx Ih Cy wW Cz vj (wrap .i64 (wX+(gt vj n2))) wY wZ
theorem aj.j27_P  {C64861_:as1} {jy:as2} (hC64861:aj.S64861 H0 Ri R0  C64861_ jy) {aju Ig wV ajv Ih wW ajw Cz wX sx wY wZ Ys Yt Yu Yv OY E_ OZ O_ Fa Pa uo Yw Yx Yy Yz Cw Cx Cy vj YA YB YC} (ajx:OY=Cw.length) (ajy:OZ=Cx.length) (ajz:O_=Cy.length) (ajA:Pa=vj.length) (h0:Out H0 Ri H (Rs.blk E_ [.i aju,.i Ig,.sl ⟨Ys,OY,Yw⟩]::Rs.own ⟨Yt,OZ,Yx⟩ eI.z YA::Rs.own ⟨Yu,O_,Yy⟩ eI.z YB::Rs.blk Fa [.i ajv,.i Ih,.sl ⟨Yu,O_,Yy⟩]::Rs.own ⟨Yv,Pa,Yz⟩ eI.z YC::Rs.blk uo [.i ajw,.i Cz,.sl ⟨Yv,Pa,Yz⟩]::R0) λR=>ROs eI H R ⟨Ys,OY,Yw⟩ Cw/\CR eI H R YA Cx/\CR eI H R YB Cy/\CR eI H R YC vj) {r:asw} (hp:aj.pj27 F jy Ig Cw wV Cx Ih Cy wW Cz vj wX sx wY wZ=some r):Rt (aj.j27 F (cO.tw F) (bf.tw F) C64861_ E_ 0 wV ⟨Yt,OZ,Yx⟩ Fa 0 wW uo 0 wX sx wY wZ H) (aj.Q H0 Ri R0  r):=by
 obtain ⟨w0,s0,ajB,ajC,ajD,YD⟩:=h0
 subst ajx
 subst ajy
 subst ajz
 subst ajA
 unfold aj.pj27 at hp
 unfold aj.j27
 refine lI w0 5 ?_
 refine lI w0 5 ?_
 refine lSl w0 5 ?_
 refine bf.inl ?_
 refine bQ w0 λH1 w1 s1=>?_
 refine lSl w1 0 ?_
 refine lI w1 0 ?_
 obtain ⟨n2,g2,hp⟩:=ah hp
 obtain ⟨p2,q2,i2,h2,j2⟩:=W.ixo (E:=eI) w1 (i:=5) rfl rfl (YD.step s1) g2
 refine aA i2 ?_
 refine ⟨_,_,rfl,?_⟩
 refine br ?_
 have h2:_=[_]:=h2
 subst h2
 refine aA (cy (j2 0 _ rfl)) ?_
 obtain ⟨w3,s3⟩:=w1.pp [1,2,3,4,5,6] 7
 exact aj.j26_P (@hC64861) rfl rfl rfl rfl ⟨w3,(s0.trans (s1.trans s3)),(ajB.step (s1.trans s3)),(ajC.step (s1.trans s3)),(ajD.step (s1.trans s3)),(YD.step (s1.trans s3))⟩ hp
def aj.pl8302261 (F:Nat) (cw:asR) (jy:as2):Nat->Int->List Int->Int->List Int->Int->List Int->Int->Int->List Int->Int->Int->Int->Int->Int->Int->Option (List Int)
 | 0,_,_,_,_,_,_,_,_,_,_,_,_,_,_,_=>none
 | k+1,As,u_,mT,va,Au,vb,oO,Av,vc,oP,oQ,oR,oS,oT,mU=>(bif (decide (mU<oT)) then (aj.pl531344731 F cw jy (aj.pl8302261 F cw jy k) F As u_ mT va Au vb oO Av vc oP oQ oR oS oT mU mU mT 0) else (aj.pj27 F jy As u_ mT va Au vb oO Av vc oP oS oQ oR))
theorem aj.l8302261_P  {C253_:asO} {cw:asR} (hC253:aj.S253 H0 Ri R0  C253_ cw) {C64861_:as1} {jy:as2} (hC64861:aj.S64861 H0 Ri R0  C64861_ jy):∀ k,aj.S8302261 H0 Ri R0  (aj.l8302261 F (cO.tw F) (bf.tw F) C253_ C64861_ k) (aj.pl8302261 F cw jy k):=by
 intro k
 induction k with
 | zero=>unfold aj.S8302261;intros;rename_i hp;cases hp
 | succ k ih=>
  intro XF As mT XG Au oO XH Av oP oQ oR oS oT mU Oe Of Og Oh HO sy HP HQ sA HR sB Oi Oj Ol Om u_ va vb vc Oo Oq Ot H ajE ajF ajG ajH h0 r hp
  obtain ⟨w0,s0,YE,YF,YG,YH⟩:=h0
  subst ajE
  subst ajF
  subst ajG
  subst ajH
  unfold aj.pl8302261 at hp
  unfold aj.l8302261
  refine aH hp (λhp=>?_) λhp=>?_
  ·exact aj.l531344731_P (@hC253) (@hC64861) (@ih) F rfl rfl rfl rfl ⟨w0,s0,YE,YF,YG,YH⟩ hp
  ·exact aj.j27_P (@hC64861) rfl rfl rfl rfl ⟨w0,s0,YE,YF,YG,YH⟩ hp
def aj.pj22 (F:Nat) (cw:asR) (Ii:Int) (CA:asw) (wL:Int) (CB:asw) (Ij:Int) (CC:asw) (wM:Int):Option (List Int):=cw Ii CA wL CB Ij CC (wrap .i64 (wM+1))
theorem aj.j22_P  {C253_:asO} {cw:asR} (hC253:aj.S253 H0 Ri R0  C253_ cw) {ajI Ii wL ajJ Ij wM YI YJ YK Pb ES Pc Pd ET YL YM YN CA CB CC YO YP} (ajK:Pb=CA.length) (ajL:Pc=CB.length) (ajM:Pd=CC.length) (h0:Out H0 Ri H (Rs.blk ES [.i ajI,.i Ii,.sl ⟨YI,Pb,YL⟩]::Rs.own ⟨YJ,Pc,YM⟩ eI.z YO::Rs.own ⟨YK,Pd,YN⟩ eI.z YP::Rs.blk ET [.i ajJ,.i Ij,.sl ⟨YK,Pd,YN⟩]::R0) λR=>ROs eI H R ⟨YI,Pb,YL⟩ CA/\CR eI H R YO CB/\CR eI H R YP CC) {r:asw} (hp:aj.pj22 F cw Ii CA wL CB Ij CC wM=some r):Rt (aj.j22 F (cO.tw F) (bf.tw F) C253_ ES 0 wL ⟨YJ,Pc,YM⟩ ET 0 wM H) (aj.Q H0 Ri R0  r):=by
 obtain ⟨w0,s0,ajN,ajO,ajP⟩:=h0
 subst ajK
 subst ajL
 subst ajM
 unfold aj.pj22 at hp
 unfold aj.j22
 exact hC253 rfl rfl rfl ⟨w0,s0,ajN,ajO,ajP⟩ hp
def aj.pj23 (F:Nat) (cw:asR) (Ik:Int) (CD:asw) (su:Int) (Aw:asw) (nE:Int) (Il:Int) (CE:asw) (wP:Int):Option (List Int):=(if nE=0 then none else ((ix Aw (wrap .i64 (su - nE))).bind λn2=>(some (Aw.set n2 (wrap .i64 (Int.tdiv (wrap .i64 (0 - wP)) nE)))).bind λl3=>aj.pj22 F cw Ik CD su l3 Il CE nE))
theorem aj.j23_P  {C253_:asO} {cw:asR} (hC253:aj.S253 H0 Ri R0  C253_ cw) {ajQ Ik su ajR ajS nE ajT Il wP YQ YR YS YT Pe EU Pf Pg um Ph wO YU YV YW YX CD Aw YY CE YZ Y_ Za} (ajU:Pe=CD.length) (ajV:Pf=Aw.length) (ajW:Pg=YY.length) (ajX:Ph=CE.length) (h0:Out H0 Ri H (Rs.blk EU [.i ajQ,.i Ik,.sl ⟨YQ,Pe,YU⟩]::Rs.own ⟨YR,Pf,YV⟩ eI.z YZ::Rs.own ⟨YS,Pg,YW⟩ eI.z Y_::Rs.blk um [.i ajR,.i ajS,.sl ⟨YS,Pg,YW⟩]::Rs.own ⟨YT,Ph,YX⟩ eI.z Za::Rs.blk wO [.i ajT,.i Il,.sl ⟨YT,Ph,YX⟩]::R0) λR=>ROs eI H R ⟨YQ,Pe,YU⟩ CD/\CR eI H R YZ Aw/\CR eI H R Y_ YY/\CR eI H R Za CE) {r:asw} (hp:aj.pj23 F cw Ik CD su Aw nE Il CE wP=some r):Rt (aj.j23 F (cO.tw F) (bf.tw F) C253_ EU 0 su ⟨YR,Pf,YV⟩ um 0 nE wO 0 wP H) (aj.Q H0 Ri R0  r):=by
 obtain ⟨w0,s0,ajY,Zb,arH,ajZ⟩:=h0
 subst ajU
 subst ajV
 subst ajW
 subst ajX
 unfold aj.pj23 at hp
 unfold aj.j23
 obtain ⟨g1,hp⟩:=nV hp
 refine nW g1 ?_
 obtain ⟨n2,g2,hp⟩:=ah hp
 obtain ⟨p2,q2,i2,h2,j2⟩:=W.ixo (E:=eI) w0 (i:=1) rfl rfl Zb g2
 refine aA i2 ?_
 obtain ⟨l3,e3,hp⟩:=ah hp
 refine gD eI w0 (i:=1) (j:=0) (p:=p2) rfl rfl Zb g2 i2 e3 rfl rfl (λ_ h=>by have h:_=[_]:=h;subst h;exact rfl) λH4 k4 w4 s4 c4=>?_
 refine lI w4 5 ?_
 refine lI w4 5 ?_
 refine lSl w4 5 ?_
 refine aw w4 3 λH5 w5 s5=>?_
 refine aw w5 3 λH6 w6 s6=>?_
 refine aw w6 3 λH7 w7 s7=>?_
 obtain ⟨w8,s8⟩:=w7.pp [0,1,4,3] 6
 exact aj.j22_P (@hC253) rfl ((eQ e3).symm) rfl ⟨w8,(s0.trans (s4.trans (s5.trans (s6.trans (s7.trans s8))))),(ajY.step (s4.trans (s5.trans (s6.trans (s7.trans s8))))),(c4.step (s5.trans (s6.trans (s7.trans s8)))),(ajZ.step (s4.trans (s5.trans (s6.trans (s7.trans s8)))))⟩ hp
def aj.pl64861 (F:Nat) (cw:asR):Nat->Int->List Int->Int->List Int->Int->List Int->Int->Int->List Int->Int->Int->Int->Option (List Int)
 | 0,_,_,_,_,_,_,_,_,_,_,_,_=>none
 | k+1,Ap,uX,mV,uY,Ci,Ar,oU,Aq,uZ,oV,oW,mW=>(bif (decide (mW<oW)) then (aj.pl8302261 F cw (aj.pl64861 F cw k) F Ap uX mV uY Ci Ar oU Aq uZ oV oW mW mW mV 0) else (aj.pj23 F cw Ap uX mV uY oU Aq uZ oV))
theorem aj.l64861_P  {C253_:asO} {cw:asR} (hC253:aj.S253 H0 Ri R0  C253_ cw):∀ k,aj.S64861 H0 Ri R0  (aj.l64861 F (cO.tw F) (bf.tw F) C253_ k) (aj.pl64861 F cw k):=by
 intro k
 induction k with
 | zero=>unfold aj.S64861;intros;rename_i hp;cases hp
 | succ k ih=>
  intro XC Ap mV XD Ci oU XE Aq oV oW mW NU NV NW NX HK sC HL HM sD HN sE NY NZ N_ Oa uX uY Ar uZ Ob Oc Od H aj0 aj1 aj2 aj3 h0 r hp
  obtain ⟨w0,s0,Zc,Zd,Ze,Zf⟩:=h0
  subst aj0
  subst aj1
  subst aj2
  subst aj3
  unfold aj.pl64861 at hp
  unfold aj.l64861
  refine aH hp (λhp=>?_) λhp=>?_
  ·exact aj.l8302261_P (@hC253) (@ih) F rfl rfl rfl rfl ⟨w0,s0,Zc,Zd,Ze,Zf⟩ hp
  ·exact aj.j23_P (@hC253) rfl rfl rfl rfl ⟨w0,s0,Zc,Zd,Ze,Zf⟩ hp
def aj.pj30 (F:Nat) (cw:asR) (Im:Int) (CF:asw) (sF:Int) (CG:asw) (Io:Int) (CH:asw) (xu:Int) (Ip:Int) (CI:asw) (xv:Int):Option (List Int):=aj.pl64861 F cw F Im CF sF CG Io CH xu Ip CI xv sF 0
theorem aj.j30_P  {C253_:asO} {cw:asR} (hC253:aj.S253 H0 Ri R0  C253_ cw) {aj4 Im sF aj5 Io xu aj6 Ip xv Zg Zh Zi Zj Pj Fu Pm Pn Fv Po Fw Zk Zl Zm Zn CF CG CH CI Zo Zp Zq} (aj7:Pj=CF.length) (aj8:Pm=CG.length) (aj9:Pn=CH.length) (aj_:Po=CI.length) (h0:Out H0 Ri H (Rs.blk Fu [.i aj4,.i Im,.sl ⟨Zg,Pj,Zk⟩]::Rs.own ⟨Zh,Pm,Zl⟩ eI.z Zo::Rs.own ⟨Zi,Pn,Zm⟩ eI.z Zp::Rs.blk Fv [.i aj5,.i Io,.sl ⟨Zi,Pn,Zm⟩]::Rs.own ⟨Zj,Po,Zn⟩ eI.z Zq::Rs.blk Fw [.i aj6,.i Ip,.sl ⟨Zj,Po,Zn⟩]::R0) λR=>ROs eI H R ⟨Zg,Pj,Zk⟩ CF/\CR eI H R Zo CG/\CR eI H R Zp CH/\CR eI H R Zq CI) {r:asw} (hp:aj.pj30 F cw Im CF sF CG Io CH xu Ip CI xv=some r):Rt (aj.j30 F (cO.tw F) (bf.tw F) C253_ Fu 0 sF ⟨Zh,Pm,Zl⟩ Fv 0 xu Fw 0 xv H) (aj.Q H0 Ri R0  r):=by
 obtain ⟨w0,s0,aka,akb,akc,akd⟩:=h0
 subst aj7
 subst aj8
 subst aj9
 subst aj_
 unfold aj.pj30 at hp
 unfold aj.j30
 exact aj.l64861_P (@hC253) F rfl rfl rfl rfl ⟨w0,s0,aka,akb,akc,akd⟩ hp
def aj.pl32429 (F:Nat) (cw:asR):Nat->Int->List Int->Int->List Int->Int->List Int->Int->Int->List Int->Int->Int->Int->Option (List Int)
 | 0,_,_,_,_,_,_,_,_,_,_,_,_=>none
 | k+1,An,uV,mX,ru,uU,rv,mY,Ao,uW,oY,oZ,ly=>(bif (decide (ly<oZ)) then ((ix rv (wrap .i64 ((wrap .i64 (ly * uU))+ly))).bind λn2=>(ix ru (wrap .i64 ((wrap .i64 (mX - mY))+1))).bind λn4=>(some (rv.set n2 (wrap .i64 ((gt rv n2)+(gt ru n4))))).bind λl5=>aj.pl32429 F cw k An uV mX ru uU l5 mY Ao uW oY oZ (wrap .i64 (ly+1))) else (aj.pj30 F cw An uV mX ru uU rv mY Ao uW oY))
theorem aj.l32429_P  {C253_:asO} {cw:asR} (hC253:aj.S253 H0 Ri R0  C253_ cw):∀ k,aj.S32429 H0 Ri R0  (aj.l32429 F (cO.tw F) (bf.tw F) C253_ k) (aj.pl32429 F cw k):=by
 intro k
 induction k with
 | zero=>unfold aj.S32429;intros;rename_i hp;cases hp
 | succ k ih=>
  intro Xz An mX XA uU mY XB Ao oY oZ ly NJ NK NL NM HF sG HG HI oX HJ sH NN NO NP NQ uV ru rv uW NR NS NT H ake akf akg akh h0 r hp
  obtain ⟨w0,s0,Zs,Pp,Pq,Zt⟩:=h0
  subst ake
  subst akf
  subst akg
  subst akh
  unfold aj.pl32429 at hp
  unfold aj.l32429
  refine aH hp (λhp=>?_) λhp=>?_
  ·refine lI w0 3 ?_
   refine lI w0 3 ?_
   refine lSl w0 3 ?_
   refine bf.inl ?_
   refine bQ w0 λH1 w1 s1=>?_
   refine lSl w1 0 ?_
   refine lI w1 0 ?_
   obtain ⟨n2,g2,hp⟩:=ah hp
   obtain ⟨p2,q2,i2,h2,j2⟩:=W.ixo (E:=eI) w1 (i:=3) rfl rfl (Pq.step s1) g2
   refine aA i2 ?_
   refine ⟨_,_,rfl,?_⟩
   refine br ?_
   refine fU (W.cons_of (Rn:=[_]) w0 w1 s1) ?_
   have h2:_=[_]:=h2
   subst h2
   refine aA (cy (j2 0 _ rfl)) ?_
   obtain ⟨n4,g4,hp⟩:=ah hp
   obtain ⟨p4,q4,i4,h4,j4⟩:=W.ixo (E:=eI) w1 (i:=2) rfl rfl (Pp.step s1) g4
   refine aA i4 ?_
   have h4:_=[_]:=h4
   subst h4
   refine aA (cy (j4 0 _ rfl)) ?_
   obtain ⟨l5,e5,hp⟩:=ah hp
   refine gD eI w1 (i:=3) (j:=0) (p:=p2) rfl rfl (Pq.step s1) g2 i2 e5 rfl rfl (λ_ h=>by have h:_=[_]:=h;subst h;exact rfl) λH6 k6 w6 s6 c6=>?_
   obtain ⟨w7,s7⟩:=w6.pp [1,2,3,4,5,6] 7
   exact ih rfl rfl ((eQ e5).symm) rfl ⟨w7,(s0.trans (s1.trans (s6.trans s7))),(Zs.step (s1.trans (s6.trans s7))),(Pp.step (s1.trans (s6.trans s7))),(c6.step s7),(Zt.step (s1.trans (s6.trans s7)))⟩ hp
  ·exact aj.j30_P (@hC253) rfl rfl rfl rfl ⟨w0,s0,Zs,Pp,Pq,Zt⟩ hp
def aj.pl253 (F:Nat) :Nat->Int->List Int->Int->List Int->Int->List Int->Int->Option (List Int)
 | 0,_,_,_,_,_,_,_=>none
 | k+1,Cg,Al,kt,uT,Ch,Am,o_=>(bif (decide (o_<=kt)) then ((cO.p F kt kt).bind λr1=>aj.pl32429 F (aj.pl253 F k) F Cg Al kt uT Ch Am o_ r1.2.1 r1.2.2 0 kt 0) else (some uT))
theorem aj.l253_P  :∀ k,aj.S253 H0 Ri R0  (aj.l253 F (cO.tw F) (bf.tw F)  k) (aj.pl253 F  k):=by
 intro k
 induction k with
 | zero=>unfold aj.S253;intros;rename_i hp;cases hp
 | succ k ih=>
  intro Xx Cg kt Xy Ch o_ NB NC ND HC uv HD HE uw NE NF NG Al uT Am NH NI H aki akj akk h0 r hp
  obtain ⟨w0,s0,akl,Zu,akm⟩:=h0
  subst aki
  subst akj
  subst akk
  unfold aj.pl253 at hp
  unfold aj.l253
  refine aH hp (λhp=>?_) λhp=>?_
  ·obtain ⟨r1,e1,hp⟩:=ah hp
   refine aR (cO.P ⟨w0,trivial⟩ e1) ?_
   rintro _ H2 ⟨o2a_2,o2n_2,o2k_2,rfl,rfl,w2,s2,f2_0⟩
   refine br (br (br (br (br (br (br ?_))))))
   refine bQ w2 λH3 w3 s3=>?_
   refine aw w3 0 λH4 w4 s4=>?_
   refine aw w4 0 λH5 w5 s5=>?_
   refine aw w5 0 λH6 w6 s6=>?_
   obtain ⟨w7,s7⟩:=w6.pp [2,3,4,5,1,0] 6
   exact aj.l32429_P (@ih) F rfl rfl rfl rfl ⟨w7,(s0.trans (s2.trans (s3.trans (s4.trans (s5.trans (s6.trans s7)))))),(akl.step (s2.trans (s3.trans (s4.trans (s5.trans (s6.trans s7)))))),(Zu.step (s2.trans (s3.trans (s4.trans (s5.trans (s6.trans s7)))))),(akm.step (s2.trans (s3.trans (s4.trans (s5.trans (s6.trans s7)))))),(f2_0.step (s3.trans (s4.trans (s5.trans (s6.trans s7)))))⟩ hp
  ·obtain ⟨w8,s8⟩:=w0.pp [1] 4
   exact aP hp ⟨_,_,_,_,rfl,rfl,w8,(s0.trans s8),(Zu.step s8)⟩
def aj.p (F:Nat) (aa:Int) (ac:Int) (ar:asw):Option (List Int):=(mkn (wrap .i64 (aa+1)) (0:Int)).bind λl2=>(ix l2 aa).bind λn4=>(some (l2.set n4 1)).bind λl5=>(cO.p F aa aa).bind λr7=>aj.pl253 F F ac ar aa l5 r7.2.1 r7.2.2 1
theorem aj.P {aa ac bU bu bV ar} (dF:bu=ar.length) (h0:Inn H R0 λR=>ROs eI H R ⟨bU,bu,bV⟩ ar) {r:asw} (hp:aj.p F aa ac ar=some r):Rt (aj.tw F aa ac ⟨bU,bu,bV⟩ H) (aj.Q H R0 R0  r):=by
 obtain ⟨w0,cS⟩:=h0
 subst dF
 unfold aj.p at hp
 unfold aj.tw aj.twX
 have s0:=w0.rf
 refine bQ w0 λH1 w1 s1=>?_
 refine lI w1 0 ?_
 obtain ⟨l2,e2,hp⟩:=ah hp
 refine Lq eI (0:Int) w1 rfl rfl rfl e2 λH3 k3 w3 s3 c3=>?_
 obtain ⟨n4,g4,hp⟩:=ah hp
 obtain ⟨p4,q4,i4,h4,j4⟩:=W.ixo (E:=eI) w3 (i:=0) rfl rfl c3 g4
 refine aA i4 ?_
 obtain ⟨l5,e5,hp⟩:=ah hp
 refine gD eI w3 (i:=0) (j:=0) (p:=p4) rfl rfl c3 g4 i4 e5 rfl rfl (λ_ h=>by have h:_=[_]:=h;subst h;exact rfl) λH6 k6 w6 s6 c6=>?_
 obtain ⟨r7,e7,hp⟩:=ah hp
 refine aR (cO.P ⟨w6,trivial⟩ e7) ?_
 rintro _ H8 ⟨o2a_8,o2n_8,o2k_8,rfl,rfl,w8,s8,f8_0⟩
 refine br (br (br (br (br (br (br ?_))))))
 refine bQ w8 λH9 w9 s9=>?_
 refine aw w9 0 λH10 w10 s10=>?_
 refine aw w10 0 λH11 w11 s11=>?_
 refine aw w11 0 λH12 w12 s12=>?_
 obtain ⟨w13,s13⟩:=w12.pp [3,2,1,0] 4
 exact aj.l253_P F rfl ((eQ e5).symm) rfl ⟨w13,(s0.trans (s1.trans (s3.trans (s6.trans (s8.trans (s9.trans (s10.trans (s11.trans (s12.trans s13))))))))),(cS.step (s1.trans (s3.trans (s6.trans (s8.trans (s9.trans (s10.trans (s11.trans (s12.trans s13))))))))),(c6.step (s8.trans (s9.trans (s10.trans (s11.trans (s12.trans s13)))))),(f8_0.step (s9.trans (s10.trans (s11.trans (s12.trans s13)))))⟩ hp
def gS.Q (H0:Hp) (Ri R0:asy)  (r:Int) (v:AV) (H':Hp):Prop:=v=(.i r)/\Out H0 Ri H' (R0) λR=>True
def gS.p (F:Nat) (aa:Int):Option (Int):=(bif (decide (aa<0)) then (some (-1)) else (some 1))
theorem gS.P {aa}  (h0:Inn H R0 λR=>True) {r:Int} (hp:gS.p F aa=some r):Rt (gS.tw F aa H) (gS.Q H R0 R0  r):=by
 obtain ⟨w0,_⟩:=h0
 unfold gS.p at hp
 unfold gS.tw gS.twX
 have s0:=w0.rf
 refine aH hp (λhp=>?_) λhp=>?_
 ·exact aP hp ⟨rfl,w0,s0,trivial⟩
 ·exact aP hp ⟨rfl,w0,s0,trivial⟩
def bD.Q (H0:Hp) (Ri R0:asy)  (r:Int) (v:AV) (H':Hp):Prop:=v=(.i r)/\Out H0 Ri H' (R0) λR=>True
def bD.S29 (H0:Hp) (Ri R0:asy)  (C:asx) (pC:atj):Prop:=∀ {dr eX ku jQ Pr Iq Ps lZ},∀ {H:Hp},Iq=lZ.length->(Out H0 Ri H R0 λR=>ROs eI H R ⟨Pr,Iq,Ps⟩ lZ)->∀ {r:Int},pC dr eX lZ ku jQ=some r->Rt (C dr eX ⟨Pr,Iq,Ps⟩ ku jQ H) (bD.Q H0 Ri R0  r)
def bD.pj4 (F:Nat) (aU:atj) (xx:Int) (xy:Int) (CJ:asw) (xz:Int) (xA:Int):Option (Int):=aU xx xy CJ xz (wrap .i64 (xA+1))
theorem bD.j4_P  {C29_:asx} {aU:atj} (hC29:bD.S29 H0 Ri R0  C29_ aU) {xx xy xz xA Zv Pt Zw CJ} (akn:Pt=CJ.length) (h0:Out H0 Ri H R0 λR=>ROs eI H R ⟨Zv,Pt,Zw⟩ CJ) {r:Int} (hp:bD.pj4 F aU xx xy CJ xz xA=some r):Rt (bD.j4 F (gS.tw F) C29_ xx xy ⟨Zv,Pt,Zw⟩ xz xA H) (bD.Q H0 Ri R0  r):=by
 obtain ⟨w0,s0,ako⟩:=h0
 subst akn
 unfold bD.pj4 at hp
 unfold bD.j4
 exact hC29 rfl ⟨w0,s0,ako⟩ hp
def bD.pj5 (F:Nat) (aU:atj) (xB:Int) (xC:Int) (CK:asw) (xD:Int) (xE:Int):Option (Int):=aU xB xC CK xD (wrap .i64 (xE+1))
theorem bD.j5_P  {C29_:asx} {aU:atj} (hC29:bD.S29 H0 Ri R0  C29_ aU) {xB xC xD xE Zx Pu Zy CK} (akp:Pu=CK.length) (h0:Out H0 Ri H R0 λR=>ROs eI H R ⟨Zx,Pu,Zy⟩ CK) {r:Int} (hp:bD.pj5 F aU xB xC CK xD xE=some r):Rt (bD.j5 F (gS.tw F) C29_ xB xC ⟨Zx,Pu,Zy⟩ xD xE H) (bD.Q H0 Ri R0  r):=by
 obtain ⟨w0,s0,akq⟩:=h0
 subst akp
 unfold bD.pj5 at hp
 unfold bD.j5
 exact hC29 rfl ⟨w0,s0,akq⟩ hp
def bD.pj6 (F:Nat) (aU:atj) (xF:Int) (xG:Int) (CL:asw) (xH:Int) (xI:Int):Option (Int):=(gS.p F xG).bind λr1=>bD.pj5 F aU xF r1 CL xH xI
theorem bD.j6_P  {C29_:asx} {aU:atj} (hC29:bD.S29 H0 Ri R0  C29_ aU) {xF xG xH xI Zz Pv ZA CL} (akr:Pv=CL.length) (h0:Out H0 Ri H R0 λR=>ROs eI H R ⟨Zz,Pv,ZA⟩ CL) {r:Int} (hp:bD.pj6 F aU xF xG CL xH xI=some r):Rt (bD.j6 F (gS.tw F) C29_ xF xG ⟨Zz,Pv,ZA⟩ xH xI H) (bD.Q H0 Ri R0  r):=by
 obtain ⟨w0,s0,aks⟩:=h0
 subst akr
 unfold bD.pj6 at hp
 unfold bD.j6
 obtain ⟨r1,e1,hp⟩:=ah hp
 refine aR (gS.P ⟨w0,trivial⟩ e1) ?_
 rintro _ H2 ⟨rfl,w2,s2,_⟩
 refine br ?_
 exact bD.j5_P (@hC29) rfl ⟨w2,(s0.trans s2),(aks.step s2)⟩ hp
def bD.pl29 (F:Nat) :Nat->Int->Int->List Int->Int->Int->Option (Int)
 | 0,_,_,_,_,_=>none
 | k+1,dr,eX,lZ,ku,jQ=>(bif (decide (jQ<ku)) then ((ix lZ jQ).bind λn1=>(bif ((gt lZ n1)==0) then (bD.pj4 F (bD.pl29 F k) dr eX lZ ku jQ) else ((bif (eX != 0) then ((gS.p F (gt lZ n1)).bind λr2=>(bif (r2 != eX) then (bD.pj6 F (bD.pl29 F k) (wrap .i64 (dr+1)) (gt lZ n1) lZ ku jQ) else (bD.pj6 F (bD.pl29 F k) dr (gt lZ n1) lZ ku jQ))) else ((gS.p F (gt lZ n1)).bind λr4=>bD.pj5 F (bD.pl29 F k) dr r4 lZ ku jQ))))) else (some dr))
theorem bD.l29_P  :∀ k,bD.S29 H0 Ri R0  (bD.l29 F (gS.tw F)  k) (bD.pl29 F  k):=by
 intro k
 induction k with
 | zero=>unfold bD.S29;intros;rename_i hp;cases hp
 | succ k ih=>
  intro dr eX ku jQ Pr Iq Ps lZ H akt h0 r hp
  obtain ⟨w0,s0,CM⟩:=h0
  subst akt
  unfold bD.pl29 at hp
  unfold bD.l29
  refine aH hp (λhp=>?_) λhp=>?_
  ·obtain ⟨n1,g1,hp⟩:=ah hp
   obtain ⟨p1,q1,i1,h1,j1⟩:=ROs.ixr CM rfl g1
   refine aA i1 ?_
   have h1:_=[_]:=h1
   subst h1
   refine aA (cy (j1 0 _ rfl)) ?_
   refine aH hp (λhp=>?_) λhp=>?_
   ·exact bD.j4_P (@ih) rfl ⟨w0,s0,CM⟩ hp
   ·refine aH hp (λhp=>?_) λhp=>?_
    ·obtain ⟨r2,e2,hp⟩:=ah hp
     refine aR (gS.P ⟨w0,trivial⟩ e2) ?_
     rintro _ H3 ⟨rfl,w3,s3,_⟩
     refine br ?_
     refine aH hp (λhp=>?_) λhp=>?_
     ·exact bD.j6_P (@ih) rfl ⟨w3,(s0.trans s3),(CM.step s3)⟩ hp
     ·exact bD.j6_P (@ih) rfl ⟨w3,(s0.trans s3),(CM.step s3)⟩ hp
    ·obtain ⟨r4,e4,hp⟩:=ah hp
     refine aR (gS.P ⟨w0,trivial⟩ e4) ?_
     rintro _ H5 ⟨rfl,w5,s5,_⟩
     refine br ?_
     exact bD.j5_P (@ih) rfl ⟨w5,(s0.trans s5),(CM.step s5)⟩ hp
  ·exact aP hp ⟨rfl,w0,s0,trivial⟩
def bD.p (F:Nat) (aY:asw):Option (Int):=bD.pl29 F F 0 0 aY (aY.length:Int) 0
theorem bD.P {dN cQ dO aY} (gz:cQ=aY.length) (h0:Inn H R0 λR=>ROs eI H R ⟨dN,cQ,dO⟩ aY) {r:Int} (hp:bD.p F aY=some r):Rt (bD.tw F ⟨dN,cQ,dO⟩ H) (bD.Q H R0 R0  r):=by
 obtain ⟨w0,gZ⟩:=h0
 subst gz
 unfold bD.p at hp
 unfold bD.tw bD.twX
 have s0:=w0.rf
 exact bD.l29_P F rfl ⟨w0,s0,gZ⟩ hp
def iU.Q (H0:Hp) (Ri R0:asy)  (r:Int) (v:AV) (H':Hp):Prop:=v=(.i r)/\Out H0 Ri H' (R0) λR=>True
def iU.p (F:Nat) (aa:Int):Option (Int):=some (wrap .i64 (1 - (wrap .i64 (2 * (Int.tmod aa 2)))))
theorem iU.P {aa}  (h0:Inn H R0 λR=>True) {r:Int} (hp:iU.p F aa=some r):Rt (iU.tw F aa H) (iU.Q H R0 R0  r):=by
 obtain ⟨w0,_⟩:=h0
 unfold iU.p at hp
 unfold iU.tw iU.twX
 have s0:=w0.rf
 exact aP hp ⟨rfl,w0,s0,trivial⟩
def co.Q (H0:Hp) (Ri R0:asy)  (r:Int) (v:AV) (H':Hp):Prop:=v=(.i r)/\Out H0 Ri H' (R0) λR=>True
def co.S61 (H0:Hp) (Ri R0:asy)  (C:atq) (pC:att):Prop:=∀ {Pw Ir Px qG Py pc pd dT},∀ {H:Hp},Ir=qG.length->(Out H0 Ri H (Rs.own ⟨Pw,Ir,Px⟩ eI.z Py::R0) λR=>CR eI H R Py qG)->∀ {r:Int},pC qG pc pd dT=some r->Rt (C ⟨Pw,Ir,Px⟩ pc pd dT H) (co.Q H0 Ri R0  r)
def co.pj1 (F:Nat)  (CN:asw) (xJ:Int):Option (Int):=(bD.p F CN).bind λr2=>some (wrap .i64 (xJ - r2))
theorem co.j1_P   {ZB Pz ZC CN ZD xJ} (aku:Pz=CN.length) (h0:Out H0 Ri H (Rs.own ⟨ZB,Pz,ZC⟩ eI.z ZD::R0) λR=>CR eI H R ZD CN) {r:Int} (hp:co.pj1 F  CN xJ=some r):Rt (co.j1 F (aj.tw F) (bD.tw F) (iU.tw F)  ⟨ZB,Pz,ZC⟩ xJ H) (co.Q H0 Ri R0  r):=by
 obtain ⟨w0,s0,akv⟩:=h0
 subst aku
 unfold co.pj1 at hp
 unfold co.j1
 have f1:=W.borrow1 eI w0 akv
 obtain ⟨w1,s1⟩:=w0.right1
 obtain ⟨r2,e2,hp⟩:=ah hp
 refine aR (bD.P rfl ⟨w1,f1⟩ e2) ?_
 rintro _ H3 ⟨rfl,w3,s3,_⟩
 obtain ⟨w4,s4⟩:=W.frame1 w0 w3 s3
 refine br ?_
 obtain ⟨w5,s5⟩:=w4.pp [] 1
 exact aP hp ⟨rfl,w5,(s0.trans (s4.trans s5)),trivial⟩
def co.pl61 (F:Nat) :Nat->List Int->Int->Int->Int->Option (Int)
 | 0,_,_,_,_=>none
 | k+1,qG,pc,pd,dT=>(bif (decide (dT<pd)) then ((ix qG dT).bind λn1=>(iU.p F dT).bind λr2=>(ix qG dT).bind λn5=>(some (qG.set n5 (wrap .i64 ((gt qG n1) * r2)))).bind λl6=>co.pl61 F k l6 pc pd (wrap .i64 (dT+1))) else (co.pj1 F qG pc))
theorem co.l61_P  :∀ k,co.S61 H0 Ri R0  (co.l61 F (aj.tw F) (bD.tw F) (iU.tw F)  k) (co.pl61 F  k):=by
 intro k
 induction k with
 | zero=>unfold co.S61;intros;rename_i hp;cases hp
 | succ k ih=>
  intro Pw Ir Px qG Py pc pd dT H akw h0 r hp
  obtain ⟨w0,s0,Is⟩:=h0
  subst akw
  unfold co.pl61 at hp
  unfold co.l61
  refine aH hp (λhp=>?_) λhp=>?_
  ·obtain ⟨n1,g1,hp⟩:=ah hp
   obtain ⟨p1,q1,i1,h1,j1⟩:=W.ixo (E:=eI) w0 (i:=0) rfl rfl Is g1
   refine aA i1 ?_
   have h1:_=[_]:=h1
   subst h1
   refine aA (cy (j1 0 _ rfl)) ?_
   obtain ⟨r2,e2,hp⟩:=ah hp
   refine aR (iU.P ⟨w0,trivial⟩ e2) ?_
   rintro _ H3 ⟨rfl,w3,s3,_⟩
   refine br ?_
   refine fU (W.cons_of (Rn:=[]) w0 w3 s3) ?_
   obtain ⟨n5,g5,hp⟩:=ah hp
   obtain ⟨p5,q5,i5,h5,j5⟩:=W.ixo (E:=eI) w3 (i:=0) rfl rfl (Is.step s3) g5
   refine aA i5 ?_
   obtain ⟨l6,e6,hp⟩:=ah hp
   refine gD eI w3 (i:=0) (j:=0) (p:=p5) rfl rfl (Is.step s3) g5 i5 e6 rfl rfl (λ_ h=>by have h:_=[_]:=h;subst h;exact rfl) λH7 k7 w7 s7 c7=>?_
   exact ih ((eQ e6).symm) ⟨w7,(s0.trans (s3.trans s7)),c7⟩ hp
  ·exact co.j1_P rfl ⟨w0,s0,Is⟩ hp
def co.p (F:Nat) (aa:Int) (ac:Int) (ar:asw):Option (Int):=(aj.p F aa ac ar).bind λr2=>(bD.p F r2).bind λr5=>co.pl61 F F r2 r5 (r2.length:Int) 0
theorem co.P {aa ac bU bu bV ar} (dF:bu=ar.length) (h0:Inn H R0 λR=>ROs eI H R ⟨bU,bu,bV⟩ ar) {r:Int} (hp:co.p F aa ac ar=some r):Rt (co.tw F aa ac ⟨bU,bu,bV⟩ H) (co.Q H R0 R0  r):=by
 obtain ⟨w0,cS⟩:=h0
 subst dF
 unfold co.p at hp
 unfold co.tw co.twX
 have s0:=w0.rf
 refine bQ w0 λH1 w1 s1=>?_
 refine lI w1 0 ?_
 refine lI w1 0 ?_
 refine lSl w1 0 ?_
 obtain ⟨r2,e2,hp⟩:=ah hp
 refine aR (aj.P rfl ⟨w1,(cS.step s1)⟩ e2) ?_
 rintro _ H3 ⟨o0a_3,o0n_3,o0c_3,o0k_3,rfl,rfl,w3,s3,f3_0⟩
 refine br ?_
 have f4:=W.borrow1 eI w3 f3_0
 obtain ⟨w4,s4⟩:=w3.right1
 obtain ⟨r5,e5,hp⟩:=ah hp
 refine aR (bD.P rfl ⟨w4,f4⟩ e5) ?_
 rintro _ H6 ⟨rfl,w6,s6,_⟩
 obtain ⟨w7,s7⟩:=W.frame1 w3 w6 s6
 refine br ?_
 obtain ⟨w8,s8⟩:=w7.pp [0] 2
 exact co.l61_P F rfl ⟨w8,(s0.trans (s1.trans (s3.trans (s7.trans s8)))),(f3_0.step (s7.trans s8))⟩ hp
def eJ.Q (H0:Hp) (Ri R0:asy)  (r:atu) (v:AV) (H':Hp):Prop:=v=(.tup [(.i r.1),(.i r.2)])/\Out H0 Ri H' (R0) λR=>True
def eJ.p (F:Nat) (aa:Int) (ac:Int) (ar:asw):Option (Int×Int):=(c_.p F aa ac ar).bind λr2=>(bif (!r2) then (some (0,1)) else ((bif (aa != ac) then (some (0,2)) else ((bv.p F aa ac ar).bind λr6=>(iz.p F aa ac ar r6.1 r6.2.1 r6.2.2).bind λr10=>(bif (!r10) then (some (0,2)) else ((bif (decide (aa>12)) then (some (0,3)) else ((bw.p F aa ac ar).bind λr15=>(bif (decide (r15>1000000000)) then (some (0,3)) else ((co.p F aa ac ar).bind λr18=>some (r18,0)))))))))))
theorem eJ.P {aa ac bU bu bV ar} (dF:bu=ar.length) (h0:Inn H R0 λR=>ROs eI H R ⟨bU,bu,bV⟩ ar) {r:atu} (hp:eJ.p F aa ac ar=some r):Rt (eJ.tw F aa ac ⟨bU,bu,bV⟩ H) (eJ.Q H R0 R0  r):=by
 obtain ⟨w0,cS⟩:=h0
 subst dF
 unfold eJ.p at hp
 unfold eJ.tw eJ.twX
 have s0:=w0.rf
 refine bQ w0 λH1 w1 s1=>?_
 refine lI w1 0 ?_
 refine lI w1 0 ?_
 refine lSl w1 0 ?_
 obtain ⟨r2,e2,hp⟩:=ah hp
 refine aR (c_.P rfl ⟨w1,(cS.step s1)⟩ e2) ?_
 rintro _ H3 ⟨rfl,w3,s3,_⟩
 refine br ?_
 refine aH hp (λhp=>?_) λhp=>?_
 ·obtain ⟨w4,s4⟩:=w3.pp [] 1
  exact aP hp ⟨rfl,w4,(s0.trans (s1.trans (s3.trans s4))),trivial⟩
 ·refine lI w3 0 ?_
  refine lI w3 0 ?_
  refine aH hp (λhp=>?_) λhp=>?_
  ·obtain ⟨w5,s5⟩:=w3.pp [] 1
   exact aP hp ⟨rfl,w5,(s0.trans (s1.trans (s3.trans s5))),trivial⟩
  ·refine lI w3 0 ?_
   refine lI w3 0 ?_
   refine lSl w3 0 ?_
   refine lI w3 0 ?_
   refine lI w3 0 ?_
   refine lSl w3 0 ?_
   obtain ⟨r6,e6,hp⟩:=ah hp
   refine aR (bv.P rfl ⟨w3,(cS.step (s1.trans s3))⟩ e6) ?_
   rintro _ H7 ⟨o2a_7,o2n_7,o2c_7,o2k_7,rfl,rfl,w7,s7,f7_0⟩
   refine br (br (br (br (br (br (br ?_))))))
   refine fU (W.cons_of (Rn:=[_]) w3 w7 s7) ?_
   have f9:=W.borrow1 eI w7 f7_0
   obtain ⟨w9,s9⟩:=w7.right1
   obtain ⟨r10,e10,hp⟩:=ah hp
   refine aR (iz.P rfl rfl ⟨w9,((cS.step (s1.trans (s3.trans s7))).step s9),f9⟩ e10) ?_
   rintro _ H11 ⟨rfl,w11,s11,_⟩
   obtain ⟨w12,s12⟩:=W.frame1 w7 w11 s11
   refine br ?_
   refine aH hp (λhp=>?_) λhp=>?_
   ·obtain ⟨w13,s13⟩:=w12.pp [] 2
    exact aP hp ⟨rfl,w13,(s0.trans (s1.trans (s3.trans (s7.trans (s12.trans s13))))),trivial⟩
   ·refine lI w12 1 ?_
    refine aH hp (λhp=>?_) λhp=>?_
    ·obtain ⟨w14,s14⟩:=w12.pp [] 2
     exact aP hp ⟨rfl,w14,(s0.trans (s1.trans (s3.trans (s7.trans (s12.trans s14))))),trivial⟩
    ·refine lI w12 1 ?_
     refine lI w12 1 ?_
     refine lSl w12 1 ?_
     obtain ⟨r15,e15,hp⟩:=ah hp
     refine aR (bw.P rfl ⟨w12,(cS.step (s1.trans (s3.trans (s7.trans s12))))⟩ e15) ?_
     rintro _ H16 ⟨rfl,w16,s16,_⟩
     refine br ?_
     refine aH hp (λhp=>?_) λhp=>?_
     ·obtain ⟨w17,s17⟩:=w16.pp [] 2
      exact aP hp ⟨rfl,w17,(s0.trans (s1.trans (s3.trans (s7.trans (s12.trans (s16.trans s17)))))),trivial⟩
     ·refine lI w16 1 ?_
      refine lI w16 1 ?_
      refine lSl w16 1 ?_
      obtain ⟨r18,e18,hp⟩:=ah hp
      refine aR (co.P rfl ⟨w16,(cS.step (s1.trans (s3.trans (s7.trans (s12.trans s16)))))⟩ e18) ?_
      rintro _ H19 ⟨rfl,w19,s19,_⟩
      refine br ?_
      obtain ⟨w20,s20⟩:=w19.pp [] 2
      exact aP hp ⟨rfl,w20,(s0.trans (s1.trans (s3.trans (s7.trans (s12.trans (s16.trans (s19.trans s20))))))),trivial⟩
def iA.Q (H0:Hp) (Ri R0:asy)  (r:Bool) (v:AV) (H':Hp):Prop:=v=(.bool r)/\Out H0 Ri H' (R0) λR=>True
def iA.p (F:Nat) (aa:Int) (aG:Int) (ga:Int):Option (Bool):=(bif (decide (aa>=aG)) then (some (decide (aa<=ga))) else (some false))
theorem iA.P {aa aG ga}  (h0:Inn H R0 λR=>True) {r:Bool} (hp:iA.p F aa aG ga=some r):Rt (iA.tw F aa aG ga H) (iA.Q H R0 R0  r):=by
 obtain ⟨w0,_⟩:=h0
 unfold iA.p at hp
 unfold iA.tw iA.twX
 have s0:=w0.rf
 refine aH hp (λhp=>?_) λhp=>?_
 ·exact aP hp ⟨rfl,w0,s0,trivial⟩
 ·exact aP hp ⟨rfl,w0,s0,trivial⟩
def cz.Q (H0:Hp) (Ri R0:asy)  (r:Bool) (v:AV) (H':Hp):Prop:=v=(.bool r)/\Out H0 Ri H' (R0) λR=>True
def cz.S29 (H0:Hp) (Ri R0:asy)  (C:asA) (pC:List Int->Int->Option (Bool)):Prop:=∀ {ZE ZF mZ PA It qU PB rC},∀ {H:Hp},It=rC.length->(Out H0 Ri H (Rs.blk qU [.i ZE,.i ZF,.sl ⟨PA,It,PB⟩]::R0) λR=>ROs eI H R ⟨PA,It,PB⟩ rC)->∀ {r:Bool},pC rC mZ=some r->Rt (C qU 0 mZ H) (cz.Q H0 Ri R0  r)
def cz.pl29 (F:Nat) :Nat->List Int->Int->Option (Bool)
 | 0,_,_=>none
 | k+1,rC,mZ=>(bif (decide (mZ<(rC.length:Int))) then ((ix rC mZ).bind λn1=>(iA.p F (gt rC n1) (-1000000000000) 1000000000000).bind λr2=>(bif (!r2) then (some false) else (cz.pl29 F k rC (wrap .i64 (mZ+1))))) else (some true))
theorem cz.l29_P  :∀ k,cz.S29 H0 Ri R0  (cz.l29 F (iA.tw F)  k) (cz.pl29 F  k):=by
 intro k
 induction k with
 | zero=>unfold cz.S29;intros;rename_i hp;cases hp
 | succ k ih=>
  intro ZE ZF mZ PA It qU PB rC H akx h0 r hp
  obtain ⟨w0,s0,ZG⟩:=h0
  subst akx
  unfold cz.pl29 at hp
  unfold cz.l29
  refine lSl w0 0 ?_
  refine aH hp (λhp=>?_) λhp=>?_
  ·refine lSl w0 0 ?_
   obtain ⟨n1,g1,hp⟩:=ah hp
   obtain ⟨p1,q1,i1,h1,j1⟩:=ROs.ixr ZG rfl g1
   refine aA i1 ?_
   have h1:_=[_]:=h1
   subst h1
   refine aA (cy (j1 0 _ rfl)) ?_
   obtain ⟨r2,e2,hp⟩:=ah hp
   refine aR (iA.P ⟨w0,trivial⟩ e2) ?_
   rintro _ H3 ⟨rfl,w3,s3,_⟩
   refine br ?_
   refine aH hp (λhp=>?_) λhp=>?_
   ·obtain ⟨w4,s4⟩:=w3.pp [] 1
    exact aP hp ⟨rfl,w4,(s0.trans (s3.trans s4)),trivial⟩
   ·exact ih rfl ⟨w3,(s0.trans s3),(ZG.step s3)⟩ hp
  ·obtain ⟨w5,s5⟩:=w0.pp [] 1
   exact aP hp ⟨rfl,w5,(s0.trans s5),trivial⟩
def cz.p (F:Nat) (aa:Int) (ac:Int) (ar:asw):Option (Bool):=(iA.p F aa 0 48).bind λr2=>(bif (!r2) then (some false) else ((iA.p F ac 0 48).bind λr5=>(bif (!r5) then (some false) else ((bif ((ar.length:Int) != (wrap .i64 (aa * ac))) then (some false) else (cz.pl29 F F ar 0))))))
theorem cz.P {aa ac bU bu bV ar} (dF:bu=ar.length) (h0:Inn H R0 λR=>ROs eI H R ⟨bU,bu,bV⟩ ar) {r:Bool} (hp:cz.p F aa ac ar=some r):Rt (cz.tw F aa ac ⟨bU,bu,bV⟩ H) (cz.Q H R0 R0  r):=by
 obtain ⟨w0,cS⟩:=h0
 subst dF
 unfold cz.p at hp
 unfold cz.tw cz.twX
 have s0:=w0.rf
 refine bQ w0 λH1 w1 s1=>?_
 refine lI w1 0 ?_
 obtain ⟨r2,e2,hp⟩:=ah hp
 refine aR (iA.P ⟨w1,trivial⟩ e2) ?_
 rintro _ H3 ⟨rfl,w3,s3,_⟩
 refine br ?_
 refine aH hp (λhp=>?_) λhp=>?_
 ·obtain ⟨w4,s4⟩:=w3.pp [] 1
  exact aP hp ⟨rfl,w4,(s0.trans (s1.trans (s3.trans s4))),trivial⟩
 ·refine lI w3 0 ?_
  obtain ⟨r5,e5,hp⟩:=ah hp
  refine aR (iA.P ⟨w3,trivial⟩ e5) ?_
  rintro _ H6 ⟨rfl,w6,s6,_⟩
  refine br ?_
  refine aH hp (λhp=>?_) λhp=>?_
  ·obtain ⟨w7,s7⟩:=w6.pp [] 1
   exact aP hp ⟨rfl,w7,(s0.trans (s1.trans (s3.trans (s6.trans s7)))),trivial⟩
  ·refine lSl w6 0 ?_
   refine lI w6 0 ?_
   refine lI w6 0 ?_
   refine aH hp (λhp=>?_) λhp=>?_
   ·obtain ⟨w8,s8⟩:=w6.pp [] 1
    exact aP hp ⟨rfl,w8,(s0.trans (s1.trans (s3.trans (s6.trans s8)))),trivial⟩
   ·exact cz.l29_P F rfl ⟨w6,(s0.trans (s1.trans (s3.trans s6))),(cS.step (s1.trans (s3.trans s6)))⟩ hp
def bJ.Q (H0:Hp) (Ri R0:asy)  (r:Int) (v:AV) (H':Hp):Prop:=v=(.i r)/\Out H0 Ri H' (R0) λR=>True
def bJ.p (F:Nat) (ac:Int) (ar:asw) (au:Int) (ci:Int):Option (Int):=(ix ar (wrap .i64 ((wrap .i64 (au * ac))+ci))).bind λn2=>some (gt ar n2)
theorem bJ.P {aa ac au ci bU bu bV ar} (dF:bu=ar.length) (h0:Inn H R0 λR=>ROs eI H R ⟨bU,bu,bV⟩ ar) {r:Int} (hp:bJ.p F ac ar au ci=some r):Rt (bJ.tw F aa ac ⟨bU,bu,bV⟩ au ci H) (bJ.Q H R0 R0  r):=by
 obtain ⟨w0,cS⟩:=h0
 subst dF
 unfold bJ.p at hp
 unfold bJ.tw bJ.twX
 have s0:=w0.rf
 refine bQ w0 λH1 w1 s1=>?_
 refine lSl w1 0 ?_
 refine lI w1 0 ?_
 obtain ⟨n2,g2,hp⟩:=ah hp
 obtain ⟨p2,q2,i2,h2,j2⟩:=ROs.ixr (cS.step s1) rfl g2
 refine aA i2 ?_
 have h2:_=[_]:=h2
 subst h2
 refine aA (cy (j2 0 _ rfl)) ?_
 obtain ⟨w3,s3⟩:=w1.pp [] 1
 exact aP hp ⟨rfl,w3,(s0.trans (s1.trans s3)),trivial⟩
def bz.Q (H0:Hp) (Ri R0:asy)  (r:asK) (v:AV) (H':Hp):Prop:=∃ o2a:ON,∃ o2n:Nat,∃ o2c:Cap,∃ o2k:List AV,v=(.agg [(.i r.1),(.i r.2.1),(.sl ⟨o2a,o2n,o2c⟩)])/\o2n=(r.2.2).length/\Out H0 Ri H' (Rs.own ⟨o2a,o2n,o2c⟩ eI.z o2k::R0) λR=>CR eI H' R o2k (r.2.2)
def bz.S61 (H0:Hp) (Ri R0:asy)  (C:atb) (pC:atk):Prop:=∀ {Ax CO BR BS Ay Az iI PC uH PD Iu sJ rp jp Iv lp PE uI PF AA uJ vk uM PG},∀ {H:Hp},Iu=AA.length->rp=uJ.length->Iv=vk.length->(Out H0 Ri H (Rs.blk sJ [.i Ax,.i CO,.sl ⟨PC,Iu,PE⟩]::Rs.own ⟨uH,rp,uI⟩ eI.z uM::Rs.blk jp [.i BR,.i BS,.sl ⟨uH,rp,uI⟩]::Rs.own ⟨PD,Iv,PF⟩ eI.z PG::Rs.blk lp [.i Ay,.i Az,.sl ⟨PD,Iv,PF⟩]::R0) λR=>ROs eI H R ⟨PC,Iu,PE⟩ AA/\CR eI H R uM uJ/\CR eI H R PG vk)->∀ {r:asK},pC Ax CO AA Ay Az vk iI=some r->Rt (C sJ 0 jp 0 lp 0 iI H) (bz.Q H0 Ri R0  r)
def bz.S981 (H0:Hp) (Ri R0:asy)  (C:asY) (pC:Int->Int->List Int->Int->Int->List Int->Int->Int->Option (Int×Int×List Int)):Prop:=∀ {vl tA ZH ZI AB AC lz lA PH PI PJ Iw m_ Ix sI Iy qW PK PL PM tB PO tC PP PQ},∀ {H:Hp},Iw=tB.length->Ix=PO.length->Iy=tC.length->(Out H0 Ri H (Rs.blk m_ [.i vl,.i tA,.sl ⟨PH,Iw,PK⟩]::Rs.own ⟨PI,Ix,PL⟩ eI.z PP::Rs.blk sI [.i ZH,.i ZI,.sl ⟨PI,Ix,PL⟩]::Rs.own ⟨PJ,Iy,PM⟩ eI.z PQ::Rs.blk qW [.i AB,.i AC,.sl ⟨PJ,Iy,PM⟩]::R0) λR=>ROs eI H R ⟨PH,Iw,PK⟩ tB/\CR eI H R PP PO/\CR eI H R PQ tC)->∀ {r:asK},pC vl tA tB AB AC tC lz lA=some r->Rt (C m_ 0 sI 0 qW 0 lz lA H) (bz.Q H0 Ri R0  r)
def bz.pj3 (F:Nat) (dV:atk) (Iz:Int) (IA:Int) (CP:asw) (IB:Int) (IC:Int) (CQ:asw) (xO:Int):Option (Int×Int×List Int):=dV Iz IA CP IB IC CQ (wrap .i64 (xO+1))
theorem bz.j3_P  {C61_:atb} {dV:atk} (hC61:bz.S61 H0 Ri R0  C61_ dV) {Iz IA aky akz IB IC xO ZJ ZK ZL PR FA PS FB PT FC ZM ZN ZO CP ZP CQ ZQ ZR} (akA:PR=CP.length) (akB:PS=ZP.length) (akC:PT=CQ.length) (h0:Out H0 Ri H (Rs.blk FA [.i Iz,.i IA,.sl ⟨ZJ,PR,ZM⟩]::Rs.own ⟨ZK,PS,ZN⟩ eI.z ZQ::Rs.blk FB [.i aky,.i akz,.sl ⟨ZK,PS,ZN⟩]::Rs.own ⟨ZL,PT,ZO⟩ eI.z ZR::Rs.blk FC [.i IB,.i IC,.sl ⟨ZL,PT,ZO⟩]::R0) λR=>ROs eI H R ⟨ZJ,PR,ZM⟩ CP/\CR eI H R ZQ ZP/\CR eI H R ZR CQ) {r:asK} (hp:bz.pj3 F dV Iz IA CP IB IC CQ xO=some r):Rt (bz.j3 F (cz.tw F) (cD.tw F) (bJ.tw F) C61_ FA 0 FB 0 FC 0 xO H) (bz.Q H0 Ri R0  r):=by
 obtain ⟨w0,s0,akD,akE,akF⟩:=h0
 subst akA
 subst akB
 subst akC
 unfold bz.pj3 at hp
 unfold bz.j3
 exact hC61 rfl rfl rfl ⟨w0,s0,akD,akE,akF⟩ hp
def bz.pj4 (F:Nat) (dV:atk) (ID:Int) (IE:Int) (CS:asw) (IF:Int) (IG:Int) (CT:asw) (xP:Int):Option (Int×Int×List Int):=bz.pj3 F dV ID IE CS IF IG CT xP
theorem bz.j4_P  {C61_:atb} {dV:atk} (hC61:bz.S61 H0 Ri R0  C61_ dV) {ID IE akG akH IF IG xP ZS ZT ZU PU FD PW FE PX FF ZV ZW ZX CS ZY CT ZZ Z_} (akI:PU=CS.length) (akJ:PW=ZY.length) (akK:PX=CT.length) (h0:Out H0 Ri H (Rs.blk FD [.i ID,.i IE,.sl ⟨ZS,PU,ZV⟩]::Rs.own ⟨ZT,PW,ZW⟩ eI.z ZZ::Rs.blk FE [.i akG,.i akH,.sl ⟨ZT,PW,ZW⟩]::Rs.own ⟨ZU,PX,ZX⟩ eI.z Z_::Rs.blk FF [.i IF,.i IG,.sl ⟨ZU,PX,ZX⟩]::R0) λR=>ROs eI H R ⟨ZS,PU,ZV⟩ CS/\CR eI H R ZZ ZY/\CR eI H R Z_ CT) {r:asK} (hp:bz.pj4 F dV ID IE CS IF IG CT xP=some r):Rt (bz.j4 F (cz.tw F) (cD.tw F) (bJ.tw F) C61_ FD 0 FE 0 FF 0 xP H) (bz.Q H0 Ri R0  r):=by
 obtain ⟨w0,s0,akL,akM,akN⟩:=h0
 subst akI
 subst akJ
 subst akK
 unfold bz.pj4 at hp
 unfold bz.j4
 exact bz.j3_P (@hC61) rfl rfl rfl ⟨w0,s0,akL,akM,akN⟩ hp
def bz.pl981 (F:Nat) (dV:atk):Nat->Int->Int->List Int->Int->Int->List Int->Int->Int->Option (Int×Int×List Int)
 | 0,_,_,_,_,_,_,_,_=>none
 | k+1,vl,tA,tB,AB,AC,tC,lz,lA=>(bif (decide (lA<tA)) then ((bJ.p F tA tB lz lA).bind λr1=>(ix tC (wrap .i64 ((wrap .i64 (lA * vl))+lz))).bind λn4=>(some (tC.set n4 r1)).bind λl5=>bz.pl981 F dV k vl tA tB AB AC l5 lz (wrap .i64 (lA+1))) else (bz.pj4 F dV vl tA tB AB AC tC lz))
theorem bz.l981_P  {C61_:atb} {dV:atk} (hC61:bz.S61 H0 Ri R0  C61_ dV):∀ k,bz.S981 H0 Ri R0  (bz.l981 F (cz.tw F) (cD.tw F) (bJ.tw F) C61_ k) (bz.pl981 F dV k):=by
 intro k
 induction k with
 | zero=>unfold bz.S981;intros;rename_i hp;cases hp
 | succ k ih=>
  intro vl tA ZH ZI AB AC lz lA PH PI PJ Iw m_ Ix sI Iy qW PK PL PM tB PO tC PP PQ H akO akP akQ h0 r hp
  obtain ⟨w0,s0,PY,aaa,PZ⟩:=h0
  subst akO
  subst akP
  subst akQ
  unfold bz.pl981 at hp
  unfold bz.l981
  refine lI w0 0 ?_
  refine aH hp (λhp=>?_) λhp=>?_
  ·refine lSl w0 4 ?_
   refine lI w0 0 ?_
   refine lI w0 0 ?_
   refine lI w0 0 ?_
   refine lSl w0 0 ?_
   obtain ⟨r1,e1,hp⟩:=ah hp
   refine aR (bJ.P rfl ⟨w0,PY⟩ e1) ?_
   rintro _ H2 ⟨rfl,w2,s2,_⟩
   refine br ?_
   refine fU (W.cons_of (Rn:=[]) w0 w2 s2) ?_
   obtain ⟨n4,g4,hp⟩:=ah hp
   obtain ⟨p4,q4,i4,h4,j4⟩:=W.ixo (E:=eI) w2 (i:=3) rfl rfl (PZ.step s2) g4
   refine aA i4 ?_
   obtain ⟨l5,e5,hp⟩:=ah hp
   refine gD eI w2 (i:=3) (j:=0) (p:=p4) rfl rfl (PZ.step s2) g4 i4 e5 rfl rfl (λ_ h=>by have h:_=[_]:=h;subst h;exact rfl) λH6 k6 w6 s6 c6=>?_
   exact ih rfl rfl ((eQ e5).symm) ⟨w6,(s0.trans (s2.trans s6)),(PY.step (s2.trans s6)),(aaa.step (s2.trans s6)),c6⟩ hp
  ·exact bz.j4_P (@hC61) rfl rfl rfl ⟨w0,s0,PY,aaa,PZ⟩ hp
def bz.pl61 (F:Nat) :Nat->Int->Int->List Int->Int->Int->List Int->Int->Option (Int×Int×List Int)
 | 0,_,_,_,_,_,_,_=>none
 | k+1,Ax,CO,AA,Ay,Az,vk,iI=>(bif (decide (iI<Ax)) then (bz.pl981 F (bz.pl61 F k) F Ax CO AA Ay Az vk iI 0) else (some (Ay,Az,vk)))
theorem bz.l61_P  :∀ k,bz.S61 H0 Ri R0  (bz.l61 F (cz.tw F) (cD.tw F) (bJ.tw F)  k) (bz.pl61 F  k):=by
 intro k
 induction k with
 | zero=>unfold bz.S61;intros;rename_i hp;cases hp
 | succ k ih=>
  intro Ax CO BR BS Ay Az iI PC uH PD Iu sJ rp jp Iv lp PE uI PF AA uJ vk uM PG H akR MN akS h0 r hp
  obtain ⟨w0,s0,akT,Hf,aab⟩:=h0
  subst akR
  subst MN
  subst akS
  unfold bz.pl61 at hp
  unfold bz.l61
  refine lI w0 0 ?_
  refine aH hp (λhp=>?_) λhp=>?_
  ·exact bz.l981_P (@ih) F rfl rfl rfl ⟨w0,s0,akT,Hf,aab⟩ hp
  ·refine lI w0 4 ?_
   refine lI w0 4 ?_
   refine lSl w0 4 ?_
   refine aw w0 2 λH1 w1 s1=>?_
   refine aw w1 2 λH2 w2 s2=>?_
   refine aw w2 2 λH3 w3 s3=>?_
   refine lI w3 2 ?_
   refine lI w3 2 ?_
   refine lSl w3 2 ?_
   obtain ⟨w4,s4⟩:=w3.pp [3] 5
   exact aP hp ⟨_,_,_,_,rfl,rfl,w4,(s0.trans (s1.trans (s2.trans (s3.trans s4)))),(aab.step (s1.trans (s2.trans (s3.trans s4))))⟩
def bz.p (F:Nat) (aa:Int) (ac:Int) (ar:asw):Option (Int×Int×List Int):=(cz.p F aa ac ar).bind λr3=>(bif (!r3) then (some (0,0,([]:List Int))) else ((cD.p F ac aa).bind λr10=>bz.pl61 F F aa ac ar r10.1 r10.2.1 r10.2.2 0))
theorem bz.P {aa ac bU bu bV ar} (dF:bu=ar.length) (h0:Inn H R0 λR=>ROs eI H R ⟨bU,bu,bV⟩ ar) {r:asK} (hp:bz.p F aa ac ar=some r):Rt (bz.tw F aa ac ⟨bU,bu,bV⟩ H) (bz.Q H R0 R0  r):=by
 obtain ⟨w0,cS⟩:=h0
 subst dF
 unfold bz.p at hp
 unfold bz.tw bz.twX
 have s0:=w0.rf
 refine bQ w0 λH1 w1 s1=>?_
 refine bQ w1 λH2 w2 s2=>?_
 refine lI w2 1 ?_
 refine lI w2 1 ?_
 refine lSl w2 1 ?_
 obtain ⟨r3,e3,hp⟩:=ah hp
 refine aR (cz.P rfl ⟨w2,(cS.step (s1.trans s2))⟩ e3) ?_
 rintro _ H4 ⟨rfl,w4,s4,_⟩
 refine br ?_
 refine aH hp (λhp=>?_) λhp=>?_
 ·refine aw w4 0 λH5 w5 s5=>?_
  refine aw w5 0 λH6 w6 s6=>?_
  refine aw w6 0 λH7 w7 s7=>?_
  refine lI w7 0 ?_
  refine lI w7 0 ?_
  refine lSl w7 0 ?_
  obtain ⟨w8,s8⟩:=w7.nilS eI.z (by decide)
  obtain ⟨w9,s9⟩:=w8.pp [0] 3
  exact aP hp ⟨_,_,_,_,rfl,rfl,w9,(s0.trans (s1.trans (s2.trans (s4.trans (s5.trans (s6.trans (s7.trans (s8.trans s9)))))))),((CR.empty:CR eI _ _ [] []).step s9)⟩
 ·refine lI w4 1 ?_
  refine lI w4 1 ?_
  obtain ⟨r10,e10,hp⟩:=ah hp
  refine aR (cD.P ⟨w4,trivial⟩ e10) ?_
  rintro _ H11 ⟨o2a_11,o2n_11,o2k_11,rfl,rfl,w11,s11,f11_0⟩
  refine br (br (br (br (br (br (br ?_))))))
  refine bQ w11 λH12 w12 s12=>?_
  refine aw w12 0 λH13 w13 s13=>?_
  refine aw w13 0 λH14 w14 s14=>?_
  refine aw w14 0 λH15 w15 s15=>?_
  obtain ⟨w16,s16⟩:=w15.nilS eI.z (by decide)
  obtain ⟨w17,s17⟩:=w16.pp [4,0,3,2,1] 5
  exact bz.l61_P F rfl rfl rfl ⟨w17,(s0.trans (s1.trans (s2.trans (s4.trans (s11.trans (s12.trans (s13.trans (s14.trans (s15.trans (s16.trans s17)))))))))),(cS.step (s1.trans (s2.trans (s4.trans (s11.trans (s12.trans (s13.trans (s14.trans (s15.trans (s16.trans s17)))))))))),((CR.empty:CR eI _ _ [] []).step s17),(f11_0.step (s12.trans (s13.trans (s14.trans (s15.trans (s16.trans s17))))))⟩ hp
def dC.Q (H0:Hp) (Ri R0:asy)  (r:Bool) (v:AV) (H':Hp):Prop:=v=(.bool r)/\Out H0 Ri H' (R0) λR=>True
def dC.S29 (H0:Hp) (Ri R0:asy)  (C:atP) (pC:List Int->List Int->Int->Option (Bool)):Prop:=∀ {aac aad aae aaf iK P_ Qa IH qX II sK Qb Qc rD tD},∀ {H:Hp},IH=rD.length->II=tD.length->(Out H0 Ri H (Rs.blk qX [.i aac,.i aad,.sl ⟨P_,IH,Qb⟩]::Rs.blk sK [.i aae,.i aaf,.sl ⟨Qa,II,Qc⟩]::R0) λR=>ROs eI H R ⟨P_,IH,Qb⟩ rD/\ROs eI H R ⟨Qa,II,Qc⟩ tD)->∀ {r:Bool},pC rD tD iK=some r->Rt (C qX 0 sK 0 iK H) (dC.Q H0 Ri R0  r)
def dC.pl29 (F:Nat) :Nat->List Int->List Int->Int->Option (Bool)
 | 0,_,_,_=>none
 | k+1,rD,tD,iK=>(bif (decide (iK<(rD.length:Int))) then ((ix rD iK).bind λn1=>(ix tD iK).bind λn2=>(bif ((gt rD n1) != (gt tD n2)) then (some false) else (dC.pl29 F k rD tD (wrap .i64 (iK+1))))) else (some true))
theorem dC.l29_P  :∀ k,dC.S29 H0 Ri R0  (dC.l29 F   k) (dC.pl29 F  k):=by
 intro k
 induction k with
 | zero=>unfold dC.S29;intros;rename_i hp;cases hp
 | succ k ih=>
  intro aac aad aae aaf iK P_ Qa IH qX II sK Qb Qc rD tD H akU akV h0 r hp
  obtain ⟨w0,s0,aag,aah⟩:=h0
  subst akU
  subst akV
  unfold dC.pl29 at hp
  unfold dC.l29
  refine lSl w0 0 ?_
  refine aH hp (λhp=>?_) λhp=>?_
  ·refine lSl w0 0 ?_
   obtain ⟨n1,g1,hp⟩:=ah hp
   obtain ⟨p1,q1,i1,h1,j1⟩:=ROs.ixr aag rfl g1
   refine aA i1 ?_
   have h1:_=[_]:=h1
   subst h1
   refine aA (cy (j1 0 _ rfl)) ?_
   refine lSl w0 1 ?_
   obtain ⟨n2,g2,hp⟩:=ah hp
   obtain ⟨p2,q2,i2,h2,j2⟩:=ROs.ixr aah rfl g2
   refine aA i2 ?_
   have h2:_=[_]:=h2
   subst h2
   refine aA (cy (j2 0 _ rfl)) ?_
   refine aH hp (λhp=>?_) λhp=>?_
   ·obtain ⟨w3,s3⟩:=w0.pp [] 2
    exact aP hp ⟨rfl,w3,(s0.trans s3),trivial⟩
   ·exact ih rfl rfl ⟨w0,s0,aag,aah⟩ hp
  ·obtain ⟨w4,s4⟩:=w0.pp [] 2
   exact aP hp ⟨rfl,w4,(s0.trans s4),trivial⟩
def dC.p (F:Nat) (aa:Int) (ac:Int) (ar:asw) (au:Int) (ct:Int) (iN:asw):Option (Bool):=(bif (aa != au) then (some false) else ((bif (ac != ct) then (some false) else ((bif ((ar.length:Int) != (iN.length:Int)) then (some false) else (dC.pl29 F F ar iN 0))))))
theorem dC.P {aa ac au ct bU Cb bu uR bV Cc ar iN} (dF:bu=ar.length) (Nr:uR=iN.length) (h0:Inn H R0 λR=>ROs eI H R ⟨bU,bu,bV⟩ ar/\ROs eI H R ⟨Cb,uR,Cc⟩ iN) {r:Bool} (hp:dC.p F aa ac ar au ct iN=some r):Rt (dC.tw F aa ac ⟨bU,bu,bV⟩ au ct ⟨Cb,uR,Cc⟩ H) (dC.Q H R0 R0  r):=by
 obtain ⟨w0,cS,Ns⟩:=h0
 subst dF
 subst Nr
 unfold dC.p at hp
 unfold dC.tw dC.twX
 have s0:=w0.rf
 refine bQ w0 λH1 w1 s1=>?_
 refine bQ w1 λH2 w2 s2=>?_
 refine lI w2 1 ?_
 refine lI w2 0 ?_
 refine aH hp (λhp=>?_) λhp=>?_
 ·obtain ⟨w3,s3⟩:=w2.pp [] 2
  exact aP hp ⟨rfl,w3,(s0.trans (s1.trans (s2.trans s3))),trivial⟩
 ·refine lI w2 1 ?_
  refine lI w2 0 ?_
  refine aH hp (λhp=>?_) λhp=>?_
  ·obtain ⟨w4,s4⟩:=w2.pp [] 2
   exact aP hp ⟨rfl,w4,(s0.trans (s1.trans (s2.trans s4))),trivial⟩
  ·refine lSl w2 1 ?_
   refine lSl w2 0 ?_
   refine aH hp (λhp=>?_) λhp=>?_
   ·obtain ⟨w5,s5⟩:=w2.pp [] 2
    exact aP hp ⟨rfl,w5,(s0.trans (s1.trans (s2.trans s5))),trivial⟩
   ·obtain ⟨w6,s6⟩:=w2.pp [1,0] 2
    exact dC.l29_P F rfl rfl ⟨w6,(s0.trans (s1.trans (s2.trans s6))),(cS.step (s1.trans (s2.trans s6))),(Ns.step (s1.trans (s2.trans s6)))⟩ hp
def fW.Q (H0:Hp) (Ri R0:asy)  (r:Int) (v:AV) (H':Hp):Prop:=v=(.i r)/\Out H0 Ri H' (R0) λR=>True
def fW.p (F:Nat) (aa:Int):Option (Int):=some (if (wrap .i64 (0 - aa))>aa then (wrap .i64 (0 - aa)) else aa)
theorem fW.P {aa}  (h0:Inn H R0 λR=>True) {r:Int} (hp:fW.p F aa=some r):Rt (fW.tw F aa H) (fW.Q H R0 R0  r):=by
 obtain ⟨w0,_⟩:=h0
 unfold fW.p at hp
 unfold fW.tw fW.twX
 have s0:=w0.rf
 exact aP hp ⟨rfl,w0,s0,trivial⟩
def bF.Q (H0:Hp) (Ri R0:asy)  (r:Bool) (v:AV) (H':Hp):Prop:=v=(.bool r)/\Out H0 Ri H' (R0) λR=>True
def bF.S29 (H0:Hp) (Ri R0:asy)  (C:asW) (pC:atl):Prop:=∀ {AD CU pg ph Qd IJ kV Qe AF},∀ {H:Hp},IJ=AF.length->(Out H0 Ri H (Rs.blk kV [.i AD,.i CU,.sl ⟨Qd,IJ,Qe⟩]::R0) λR=>ROs eI H R ⟨Qd,IJ,Qe⟩ AF)->∀ {r:Bool},pC AD CU AF pg ph=some r->Rt (C kV 0 pg ph H) (bF.Q H0 Ri R0  r)
def bF.S1877 (H0:Hp) (Ri R0:asy)  (C:Nat->Nat->Int->Int->Int->Int->Hp->OA) (pC:Int->Int->List Int->Int->Int->Int->Int->Option (Bool)):Prop:=∀ {AG tE pe na pf nb Qf IK nG Qg tF},∀ {H:Hp},IK=tF.length->(Out H0 Ri H (Rs.blk nG [.i AG,.i tE,.sl ⟨Qf,IK,Qg⟩]::R0) λR=>ROs eI H R ⟨Qf,IK,Qg⟩ tF)->∀ {r:Bool},pC AG tE tF pe na pf nb=some r->Rt (C nG 0 pe na pf nb H) (bF.Q H0 Ri R0  r)
def bF.pj3 (F:Nat) (aU:atl) (IL:Int) (IM:Int) (CV:asw) (xQ:Int) (xR:Int):Option (Bool):=aU IL IM CV xQ (wrap .i64 (xR+1))
theorem bF.j3_P  {C29_:asW} {aU:atl} (hC29:bF.S29 H0 Ri R0  C29_ aU) {IL IM xQ xR aai Qh FI aaj CV} (akW:Qh=CV.length) (h0:Out H0 Ri H (Rs.blk FI [.i IL,.i IM,.sl ⟨aai,Qh,aaj⟩]::R0) λR=>ROs eI H R ⟨aai,Qh,aaj⟩ CV) {r:Bool} (hp:bF.pj3 F aU IL IM CV xQ xR=some r):Rt (bF.j3 F (bJ.tw F) (fW.tw F) C29_ FI 0 xQ xR H) (bF.Q H0 Ri R0  r):=by
 obtain ⟨w0,s0,akX⟩:=h0
 subst akW
 unfold bF.pj3 at hp
 unfold bF.j3
 exact hC29 rfl ⟨w0,s0,akX⟩ hp
def bF.pj4 (F:Nat) (aU:atl) (IN:Int) (IP:Int) (CW:asw) (xS:Int) (xT:Int) (nF:Int):Option (Bool):=(if (if nF>1 then nF else 1)=0 then none else (bF.pj3 F aU IN IP CW (wrap .i64 (Int.tdiv xS (if nF>1 then nF else 1))) xT))
theorem bF.j4_P  {C29_:asW} {aU:atl} (hC29:bF.S29 H0 Ri R0  C29_ aU) {IN IP xS xT nF aak Qi FJ aal CW} (akY:Qi=CW.length) (h0:Out H0 Ri H (Rs.blk FJ [.i IN,.i IP,.sl ⟨aak,Qi,aal⟩]::R0) λR=>ROs eI H R ⟨aak,Qi,aal⟩ CW) {r:Bool} (hp:bF.pj4 F aU IN IP CW xS xT nF=some r):Rt (bF.j4 F (bJ.tw F) (fW.tw F) C29_ FJ 0 xS xT nF H) (bF.Q H0 Ri R0  r):=by
 obtain ⟨w0,s0,akZ⟩:=h0
 subst akY
 unfold bF.pj4 at hp
 unfold bF.j4
 obtain ⟨g1,hp⟩:=nV hp
 refine nW g1 ?_
 exact bF.j3_P (@hC29) rfl ⟨w0,s0,akZ⟩ hp
def bF.pl1877 (F:Nat) (aU:atl):Nat->Int->Int->List Int->Int->Int->Int->Int->Option (Bool)
 | 0,_,_,_,_,_,_,_=>none
 | k+1,AG,tE,tF,pe,na,pf,nb=>(bif (decide (nb<tE)) then ((bJ.p F tE tF na nb).bind λr1=>(fW.p F r1).bind λr3=>bF.pl1877 F aU k AG tE tF pe na (wrap .i64 (pf+r3)) (wrap .i64 (nb+1))) else (bF.pj4 F aU AG tE tF pe na pf))
theorem bF.l1877_P  {C29_:asW} {aU:atl} (hC29:bF.S29 H0 Ri R0  C29_ aU):∀ k,bF.S1877 H0 Ri R0  (bF.l1877 F (bJ.tw F) (fW.tw F) C29_ k) (bF.pl1877 F aU k):=by
 intro k
 induction k with
 | zero=>unfold bF.S1877;intros;rename_i hp;cases hp
 | succ k ih=>
  intro AG tE pe na pf nb Qf IK nG Qg tF H ak0 h0 r hp
  obtain ⟨w0,s0,Qj⟩:=h0
  subst ak0
  unfold bF.pl1877 at hp
  unfold bF.l1877
  refine lI w0 0 ?_
  refine aH hp (λhp=>?_) λhp=>?_
  ·refine lI w0 0 ?_
   refine lI w0 0 ?_
   refine lSl w0 0 ?_
   obtain ⟨r1,e1,hp⟩:=ah hp
   refine aR (bJ.P rfl ⟨w0,Qj⟩ e1) ?_
   rintro _ H2 ⟨rfl,w2,s2,_⟩
   refine br ?_
   obtain ⟨r3,e3,hp⟩:=ah hp
   refine aR (fW.P ⟨w2,trivial⟩ e3) ?_
   rintro _ H4 ⟨rfl,w4,s4,_⟩
   refine br ?_
   exact ih rfl ⟨w4,(s0.trans (s2.trans s4)),(Qj.step (s2.trans s4))⟩ hp
  ·exact bF.j4_P (@hC29) rfl ⟨w0,s0,Qj⟩ hp
def bF.pl29 (F:Nat) :Nat->Int->Int->List Int->Int->Int->Option (Bool)
 | 0,_,_,_,_,_=>none
 | k+1,AD,CU,AF,pg,ph=>(bif (decide (ph<AD)) then (bF.pl1877 F (bF.pl29 F k) F AD CU AF pg ph 0 0) else (some (decide (pg>0))))
theorem bF.l29_P  :∀ k,bF.S29 H0 Ri R0  (bF.l29 F (bJ.tw F) (fW.tw F)  k) (bF.pl29 F  k):=by
 intro k
 induction k with
 | zero=>unfold bF.S29;intros;rename_i hp;cases hp
 | succ k ih=>
  intro AD CU pg ph Qd IJ kV Qe AF H ak1 h0 r hp
  obtain ⟨w0,s0,ak2⟩:=h0
  subst ak1
  unfold bF.pl29 at hp
  unfold bF.l29
  refine lI w0 0 ?_
  refine aH hp (λhp=>?_) λhp=>?_
  ·exact bF.l1877_P (@ih) F rfl ⟨w0,s0,ak2⟩ hp
  ·obtain ⟨w1,s1⟩:=w0.pp [] 1
   exact aP hp ⟨rfl,w1,(s0.trans s1),trivial⟩
def bF.p (F:Nat) (aa:Int) (ac:Int) (ar:asw):Option (Bool):=bF.pl29 F F aa ac ar 1000000000 0
theorem bF.P {aa ac bU bu bV ar} (dF:bu=ar.length) (h0:Inn H R0 λR=>ROs eI H R ⟨bU,bu,bV⟩ ar) {r:Bool} (hp:bF.p F aa ac ar=some r):Rt (bF.tw F aa ac ⟨bU,bu,bV⟩ H) (bF.Q H R0 R0  r):=by
 obtain ⟨w0,cS⟩:=h0
 subst dF
 unfold bF.p at hp
 unfold bF.tw bF.twX
 have s0:=w0.rf
 refine bQ w0 λH1 w1 s1=>?_
 exact bF.l29_P F rfl ⟨w1,(s0.trans s1),(cS.step s1)⟩ hp
def aC.Q (H0:Hp) (Ri R0:asy)  (r:as3) (v:AV) (H':Hp):Prop:=∃ o2a:ON,∃ o2n:Nat,∃ o2c:Cap,∃ o2k:List AV,v=(.tup [(.agg [(.i r.1),(.i r.2.1),(.sl ⟨o2a,o2n,o2c⟩)]),(.i r.2.2.2)])/\o2n=(r.2.2.1).length/\Out H0 Ri H' (Rs.own ⟨o2a,o2n,o2c⟩ eI.z o2k::R0) λR=>CR eI H' R o2k (r.2.2.1)
def aC.S29 (H0:Hp) (Ri R0:asy)  (C:atD) (pC:atH):Prop:=∀ {dU vm vn qH nu iB Qk Ql Qm IQ fN IR du IS Qn Qo Qp tG Qq tH Qr Qs},∀ {H:Hp},IQ=tG.length->IR=Qq.length->IS=tH.length->(Out H0 Ri H (Rs.blk fN [.i vm,.i vn,.sl ⟨Qk,IQ,Qn⟩]::Rs.own ⟨Ql,IR,Qo⟩ eI.z Qr::Rs.blk du [.i qH,.i nu,.sl ⟨Ql,IR,Qo⟩]::Rs.own ⟨Qm,IS,Qp⟩ eI.z Qs::R0) λR=>ROs eI H R ⟨Qk,IQ,Qn⟩ tG/\CR eI H R Qr Qq/\CR eI H R Qs tH)->∀ {r:as3},pC dU vm vn tG tH iB=some r->Rt (C dU fN 0 du 0 ⟨Qm,IS,Qp⟩ iB H) (aC.Q H0 Ri R0  r)
def aC.pj8 (F:Nat) (aU:atH) (yb:Int) (IT:Int) (IU:Int) (CX:asw) (CY:asw) (yc:Int):Option (Int×Int×List Int×Int):=aU yb IT IU CX CY (wrap .i64 (yc+1))
theorem aC.j8_P  {C29_:atD} {aU:atH} (hC29:aC.S29 H0 Ri R0  C29_ aU) {yb IT IU ak3 ak4 yc aam aan aao Qt FU Qu FW Qv aap aaq aar CX aas CY aat aau} (ak5:Qt=CX.length) (ak6:Qu=aas.length) (ak7:Qv=CY.length) (h0:Out H0 Ri H (Rs.blk FU [.i IT,.i IU,.sl ⟨aam,Qt,aap⟩]::Rs.own ⟨aan,Qu,aaq⟩ eI.z aat::Rs.blk FW [.i ak3,.i ak4,.sl ⟨aan,Qu,aaq⟩]::Rs.own ⟨aao,Qv,aar⟩ eI.z aau::R0) λR=>ROs eI H R ⟨aam,Qt,aap⟩ CX/\CR eI H R aat aas/\CR eI H R aau CY) {r:as3} (hp:aC.pj8 F aU yb IT IU CX CY yc=some r):Rt (aC.j8 F (cD.tw F) (bJ.tw F) C29_ yb FU 0 FW 0 ⟨aao,Qv,aar⟩ yc H) (aC.Q H0 Ri R0  r):=by
 obtain ⟨w0,s0,ak8,ak9,ak_⟩:=h0
 subst ak5
 subst ak6
 subst ak7
 unfold aC.pj8 at hp
 unfold aC.j8
 exact hC29 rfl rfl rfl ⟨w0,s0,ak8,ak9,ak_⟩ hp
def aC.S253 (H0:Hp) (Ri R0:asy)  (C:atc) (pC:atm):Prop:=∀ {aav CZ C_ Da ne AH AI pj Qw vo Qx Qy IV uz rE jL IW IX sN Qz vp QA QB AJ vq AK vt vu QC QD},∀ {H:Hp},IV=AJ.length->rE=vq.length->IW=AK.length->IX=vt.length->(Out H0 Ri H (Rs.blk uz [.i aav,.i CZ,.sl ⟨Qw,IV,Qz⟩]::Rs.own ⟨vo,rE,vp⟩ eI.z vu::Rs.blk jL [.i C_,.i Da,.sl ⟨vo,rE,vp⟩]::Rs.own ⟨Qx,IW,QA⟩ eI.z QC::Rs.own ⟨Qy,IX,QB⟩ eI.z QD::Rs.blk sN [.i AH,.i AI,.sl ⟨Qy,IX,QB⟩]::R0) λR=>ROs eI H R ⟨Qw,IV,Qz⟩ AJ/\CR eI H R vu vq/\CR eI H R QC AK/\CR eI H R QD vt)->∀ {r:as3},pC CZ AJ AK ne AH AI vt pj=some r->Rt (C uz 0 jL 0 ⟨Qx,IW,QA⟩ ne sN 0 pj H) (aC.Q H0 Ri R0  r)
def aC.S4053 (H0:Hp) (Ri R0:asy)  (C:Nat->Nat->Nat->Nat->Sl->Int->Nat->Nat->Int->Int->Hp->OA) (pC:Int->List Int->List Int->Int->Int->Int->List Int->Int->Int->Option (Int×Int×List Int×Int)):Prop:=∀ {aaw vv aax aay lC AL AM lD lE QE QF QG QH IY pi IZ sM I_ Ja qZ QI QJ QK QL tI QM pQ tJ QN QO QP},∀ {H:Hp},IY=tI.length->IZ=QM.length->I_=pQ.length->Ja=tJ.length->(Out H0 Ri H (Rs.blk pi [.i aaw,.i vv,.sl ⟨QE,IY,QI⟩]::Rs.own ⟨QF,IZ,QJ⟩ eI.z QN::Rs.blk sM [.i aax,.i aay,.sl ⟨QF,IZ,QJ⟩]::Rs.own ⟨QG,I_,QK⟩ eI.z QO::Rs.own ⟨QH,Ja,QL⟩ eI.z QP::Rs.blk qZ [.i AL,.i AM,.sl ⟨QH,Ja,QL⟩]::R0) λR=>ROs eI H R ⟨QE,IY,QI⟩ tI/\CR eI H R QN QM/\CR eI H R QO pQ/\CR eI H R QP tJ)->∀ {r:as3},pC vv tI pQ lC AL AM tJ lD lE=some r->Rt (C pi 0 sM 0 ⟨QG,I_,QK⟩ lC qZ 0 lD lE H) (aC.Q H0 Ri R0  r)
def aC.pj5 (F:Nat) (cw:atm) (Jb:Int) (Db:asw) (Dc:asw) (xX:Int) (Jc:Int) (Jd:Int) (Dd:asw) (xY:Int):Option (Int×Int×List Int×Int):=cw Jb Db Dc xX Jc Jd Dd (wrap .i64 (xY+1))
theorem aC.j5_P  {C253_:atc} {cw:atm} (hC253:aC.S253 H0 Ri R0  C253_ cw) {ala Jb alb alc xX Jc Jd xY aaz aaA aaB aaC QQ FK QR FL QT QU FM aaD aaE aaF aaG Db aaH Dc Dd aaI aaJ aaK} (ald:QQ=Db.length) (ale:QR=aaH.length) (alf:QT=Dc.length) (alg:QU=Dd.length) (h0:Out H0 Ri H (Rs.blk FK [.i ala,.i Jb,.sl ⟨aaz,QQ,aaD⟩]::Rs.own ⟨aaA,QR,aaE⟩ eI.z aaI::Rs.blk FL [.i alb,.i alc,.sl ⟨aaA,QR,aaE⟩]::Rs.own ⟨aaB,QT,aaF⟩ eI.z aaJ::Rs.own ⟨aaC,QU,aaG⟩ eI.z aaK::Rs.blk FM [.i Jc,.i Jd,.sl ⟨aaC,QU,aaG⟩]::R0) λR=>ROs eI H R ⟨aaz,QQ,aaD⟩ Db/\CR eI H R aaI aaH/\CR eI H R aaJ Dc/\CR eI H R aaK Dd) {r:as3} (hp:aC.pj5 F cw Jb Db Dc xX Jc Jd Dd xY=some r):Rt (aC.j5 F (cD.tw F) (bJ.tw F) C253_ FK 0 FL 0 ⟨aaB,QT,aaF⟩ xX FM 0 xY H) (aC.Q H0 Ri R0  r):=by
 obtain ⟨w0,s0,alh,ali,alj,alk⟩:=h0
 subst ald
 subst ale
 subst alf
 subst alg
 unfold aC.pj5 at hp
 unfold aC.j5
 exact hC253 rfl rfl rfl rfl ⟨w0,s0,alh,ali,alj,alk⟩ hp
def aC.pj6 (F:Nat) (cw:atm) (Je:Int) (De:asw) (Df:asw) (xZ:Int) (Jf:Int) (Jg:Int) (Dg:asw) (x_:Int):Option (Int×Int×List Int×Int):=aC.pj5 F cw Je De Df xZ Jf Jg Dg x_
theorem aC.j6_P  {C253_:atc} {cw:atm} (hC253:aC.S253 H0 Ri R0  C253_ cw) {alm Je aln alo xZ Jf Jg x_ aaL aaM aaN aaO QV FN QW oa QX QY FO aaP aaQ aaR aaS De aaT Df Dg aaU aaV aaW} (alp:QV=De.length) (alq:QW=aaT.length) (alr:QX=Df.length) (als:QY=Dg.length) (h0:Out H0 Ri H (Rs.blk FN [.i alm,.i Je,.sl ⟨aaL,QV,aaP⟩]::Rs.own ⟨aaM,QW,aaQ⟩ eI.z aaU::Rs.blk oa [.i aln,.i alo,.sl ⟨aaM,QW,aaQ⟩]::Rs.own ⟨aaN,QX,aaR⟩ eI.z aaV::Rs.own ⟨aaO,QY,aaS⟩ eI.z aaW::Rs.blk FO [.i Jf,.i Jg,.sl ⟨aaO,QY,aaS⟩]::R0) λR=>ROs eI H R ⟨aaL,QV,aaP⟩ De/\CR eI H R aaU aaT/\CR eI H R aaV Df/\CR eI H R aaW Dg) {r:as3} (hp:aC.pj6 F cw Je De Df xZ Jf Jg Dg x_=some r):Rt (aC.j6 F (cD.tw F) (bJ.tw F) C253_ FN 0 oa 0 ⟨aaN,QX,aaR⟩ xZ FO 0 x_ H) (aC.Q H0 Ri R0  r):=by
 obtain ⟨w0,s0,alu,alv,alw,alx⟩:=h0
 subst alp
 subst alq
 subst alr
 subst als
 unfold aC.pj6 at hp
 unfold aC.j6
 exact aC.j5_P (@hC253) rfl rfl rfl rfl ⟨w0,s0,alu,alv,alw,alx⟩ hp
def aC.pl4053 (F:Nat) (cw:atm):Nat->Int->List Int->List Int->Int->Int->Int->List Int->Int->Int->Option (Int×Int×List Int×Int)
 | 0,_,_,_,_,_,_,_,_,_=>none
 | k+1,vv,tI,pQ,lC,AL,AM,tJ,lD,lE=>(bif (decide (lE<lC)) then ((ix pQ lD).bind λn1=>(ix pQ lE).bind λn2=>(bJ.p F vv tI (gt pQ n1) (gt pQ n2)).bind λr3=>(ix tJ (wrap .i64 ((wrap .i64 (lD * lC))+lE))).bind λn6=>(some (tJ.set n6 r3)).bind λl7=>aC.pl4053 F cw k vv tI pQ lC AL AM l7 lD (wrap .i64 (lE+1))) else (aC.pj6 F cw vv tI pQ lC AL AM tJ lD))
theorem aC.l4053_P  {C253_:atc} {cw:atm} (hC253:aC.S253 H0 Ri R0  C253_ cw):∀ k,aC.S4053 H0 Ri R0  (aC.l4053 F (cD.tw F) (bJ.tw F) C253_ k) (aC.pl4053 F cw k):=by
 intro k
 induction k with
 | zero=>unfold aC.S4053;intros;rename_i hp;cases hp
 | succ k ih=>
  intro aaw vv aax aay lC AL AM lD lE QE QF QG QH IY pi IZ sM I_ Ja qZ QI QJ QK QL tI QM pQ tJ QN QO QP H aly alz alA alB h0 r hp
  obtain ⟨w0,s0,QZ,aaX,Jh,Q_⟩:=h0
  subst aly
  subst alz
  subst alA
  subst alB
  unfold aC.pl4053 at hp
  unfold aC.l4053
  refine aH hp (λhp=>?_) λhp=>?_
  ·refine lSl w0 5 ?_
   refine lI w0 0 ?_
   refine lI w0 0 ?_
   refine lSl w0 0 ?_
   obtain ⟨n1,g1,hp⟩:=ah hp
   obtain ⟨p1,q1,i1,h1,j1⟩:=W.ixo (E:=eI) w0 (i:=3) rfl rfl Jh g1
   refine aA i1 ?_
   have h1:_=[_]:=h1
   subst h1
   refine aA (cy (j1 0 _ rfl)) ?_
   obtain ⟨n2,g2,hp⟩:=ah hp
   obtain ⟨p2,q2,i2,h2,j2⟩:=W.ixo (E:=eI) w0 (i:=3) rfl rfl Jh g2
   refine aA i2 ?_
   have h2:_=[_]:=h2
   subst h2
   refine aA (cy (j2 0 _ rfl)) ?_
   obtain ⟨r3,e3,hp⟩:=ah hp
   refine aR (bJ.P rfl ⟨w0,QZ⟩ e3) ?_
   rintro _ H4 ⟨rfl,w4,s4,_⟩
   refine br ?_
   refine fU (W.cons_of (Rn:=[]) w0 w4 s4) ?_
   obtain ⟨n6,g6,hp⟩:=ah hp
   obtain ⟨p6,q6,i6,h6,j6⟩:=W.ixo (E:=eI) w4 (i:=4) rfl rfl (Q_.step s4) g6
   refine aA i6 ?_
   obtain ⟨l7,e7,hp⟩:=ah hp
   refine gD eI w4 (i:=4) (j:=0) (p:=p6) rfl rfl (Q_.step s4) g6 i6 e7 rfl rfl (λ_ h=>by have h:_=[_]:=h;subst h;exact rfl) λH8 k8 w8 s8 c8=>?_
   exact ih rfl rfl rfl ((eQ e7).symm) ⟨w8,(s0.trans (s4.trans s8)),(QZ.step (s4.trans s8)),(aaX.step (s4.trans s8)),(Jh.step (s4.trans s8)),c8⟩ hp
  ·exact aC.j6_P (@hC253) rfl rfl rfl rfl ⟨w0,s0,QZ,aaX,Jh,Q_⟩ hp
def aC.pj4 (F:Nat)  (xV:Int) (Ji:Int) (Jj:Int) (Dh:asw):Option (Int×Int×List Int×Int):=some (Ji,Jj,Dh,xV)
theorem aC.j4_P   {alC alD xV Ji Jj aaY aaZ Ra qY Rc xW aa0 aa1 aa2 Dh aa3 aa4} (alE:Ra=aa2.length) (alF:Rc=Dh.length) (h0:Out H0 Ri H (Rs.own ⟨aaY,Ra,aa0⟩ eI.z aa3::Rs.blk qY [.i alC,.i alD,.sl ⟨aaY,Ra,aa0⟩]::Rs.own ⟨aaZ,Rc,aa1⟩ eI.z aa4::Rs.blk xW [.i Ji,.i Jj,.sl ⟨aaZ,Rc,aa1⟩]::R0) λR=>CR eI H R aa3 aa2/\CR eI H R aa4 Dh) {r:as3} (hp:aC.pj4 F  xV Ji Jj Dh=some r):Rt (aC.j4 F (cD.tw F) (bJ.tw F)  qY 0 xV xW 0 H) (aC.Q H0 Ri R0  r):=by
 obtain ⟨w0,s0,arI,alG⟩:=h0
 subst alE
 subst alF
 unfold aC.pj4 at hp
 unfold aC.j4
 refine lI w0 3 ?_
 refine lI w0 3 ?_
 refine lSl w0 3 ?_
 refine aw w0 1 λH1 w1 s1=>?_
 refine aw w1 1 λH2 w2 s2=>?_
 refine aw w2 1 λH3 w3 s3=>?_
 refine lI w3 1 ?_
 refine lI w3 1 ?_
 refine lSl w3 1 ?_
 obtain ⟨w4,s4⟩:=w3.pp [2] 4
 exact aP hp ⟨_,_,_,_,rfl,rfl,w4,(s0.trans (s1.trans (s2.trans (s3.trans s4)))),(alG.step (s1.trans (s2.trans (s3.trans s4))))⟩
def aC.pl253 (F:Nat) :Nat->Int->List Int->List Int->Int->Int->Int->List Int->Int->Option (Int×Int×List Int×Int)
 | 0,_,_,_,_,_,_,_,_=>none
 | k+1,CZ,AJ,AK,ne,AH,AI,vt,pj=>(bif (decide (pj<ne)) then (aC.pl4053 F (aC.pl253 F k) F CZ AJ AK ne AH AI vt pj 0) else (aC.pj4 F ne AH AI vt))
theorem aC.l253_P  :∀ k,aC.S253 H0 Ri R0  (aC.l253 F (cD.tw F) (bJ.tw F)  k) (aC.pl253 F  k):=by
 intro k
 induction k with
 | zero=>unfold aC.S253;intros;rename_i hp;cases hp
 | succ k ih=>
  intro aav CZ C_ Da ne AH AI pj Qw vo Qx Qy IV uz rE jL IW IX sN Qz vp QA QB AJ vq AK vt vu QC QD H alH Rd alI alJ h0 r hp
  obtain ⟨w0,s0,alK,Di,alL,aa5⟩:=h0
  subst alH
  subst Rd
  subst alI
  subst alJ
  unfold aC.pl253 at hp
  unfold aC.l253
  refine aH hp (λhp=>?_) λhp=>?_
  ·exact aC.l4053_P (@ih) F rfl rfl rfl rfl ⟨w0,s0,alK,Di,alL,aa5⟩ hp
  ·obtain ⟨w1,s1⟩:=w0.pp [1,2,4,5] 6
   exact aC.j4_P rfl rfl ⟨w1,(s0.trans s1),(Di.step s1),(aa5.step s1)⟩ hp
def aC.pj7 (F:Nat)  (Jk:Int) (Dj:asw) (tK:asw):Option (Int×Int×List Int×Int):=(cD.p F (tK.length:Int) (tK.length:Int)).bind λr1=>aC.pl253 F F Jk Dj tK (tK.length:Int) r1.1 r1.2.1 r1.2.2 0
theorem aC.j7_P   {alM Jk alN alO aa6 aa7 aa8 Re FR Rf FS Rg aa9 aa_ aba Dj abb tK abc abd} (alP:Re=Dj.length) (alQ:Rf=abb.length) (alR:Rg=tK.length) (h0:Out H0 Ri H (Rs.blk FR [.i alM,.i Jk,.sl ⟨aa6,Re,aa9⟩]::Rs.own ⟨aa7,Rf,aa_⟩ eI.z abc::Rs.blk FS [.i alN,.i alO,.sl ⟨aa7,Rf,aa_⟩]::Rs.own ⟨aa8,Rg,aba⟩ eI.z abd::R0) λR=>ROs eI H R ⟨aa6,Re,aa9⟩ Dj/\CR eI H R abc abb/\CR eI H R abd tK) {r:as3} (hp:aC.pj7 F  Jk Dj tK=some r):Rt (aC.j7 F (cD.tw F) (bJ.tw F)  FR 0 FS 0 ⟨aa8,Rg,aba⟩ H) (aC.Q H0 Ri R0  r):=by
 obtain ⟨w0,s0,alS,alT,alU⟩:=h0
 subst alP
 subst alQ
 subst alR
 unfold aC.pj7 at hp
 unfold aC.j7
 obtain ⟨r1,e1,hp⟩:=ah hp
 refine aR (cD.P ⟨w0,trivial⟩ e1) ?_
 rintro _ H2 ⟨o2a_2,o2n_2,o2k_2,rfl,rfl,w2,s2,f2_0⟩
 refine br (br (br (br (br (br (br ?_))))))
 refine bQ w2 λH3 w3 s3=>?_
 refine aw w3 0 λH4 w4 s4=>?_
 refine aw w4 0 λH5 w5 s5=>?_
 refine aw w5 0 λH6 w6 s6=>?_
 obtain ⟨w7,s7⟩:=w6.pp [2,3,4,5,1,0] 6
 exact aC.l253_P F rfl rfl rfl rfl ⟨w7,(s0.trans (s2.trans (s3.trans (s4.trans (s5.trans (s6.trans s7)))))),(alS.step (s2.trans (s3.trans (s4.trans (s5.trans (s6.trans s7)))))),(alT.step (s2.trans (s3.trans (s4.trans (s5.trans (s6.trans s7)))))),(alU.step (s2.trans (s3.trans (s4.trans (s5.trans (s6.trans s7)))))),(f2_0.step (s3.trans (s4.trans (s5.trans (s6.trans s7)))))⟩ hp
def aC.pl29 (F:Nat) :Nat->Int->Int->Int->List Int->List Int->Int->Option (Int×Int×List Int×Int)
 | 0,_,_,_,_,_,_=>none
 | k+1,dU,vm,vn,tG,tH,iB=>(bif (decide (iB<vm)) then ((if (IntKind.u64.wrap iB)<0 then none else ((bif ((Go.bits .and .i64 (Int.fdiv dU (2 ^ (min ((IntKind.u64.wrap iB):Int).toNat (IntKind.i64).bits))) 1)==1) then ((apn tH ([iB]:List Int)).bind λl3=>aC.pj8 F (aC.pl29 F k) dU vm vn tG l3 iB) else (aC.pj8 F (aC.pl29 F k) dU vm vn tG tH iB))))) else (aC.pj7 F vn tG tH))
theorem aC.l29_P  :∀ k,aC.S29 H0 Ri R0  (aC.l29 F (cD.tw F) (bJ.tw F)  k) (aC.pl29 F  k):=by
 intro k
 induction k with
 | zero=>unfold aC.S29;intros;rename_i hp;cases hp
 | succ k ih=>
  intro dU vm vn qH nu iB Qk Ql Qm IQ fN IR du IS Qn Qo Qp tG Qq tH Qr Qs H alV alW alX h0 r hp
  obtain ⟨w0,s0,Rh,Rj,Rk⟩:=h0
  subst alV
  subst alW
  subst alX
  unfold aC.pl29 at hp
  unfold aC.l29
  refine lI w0 0 ?_
  refine aH hp (λhp=>?_) λhp=>?_
  ·obtain ⟨g1,hp⟩:=nV hp
   refine nW g1 ?_
   refine aH hp (λhp=>?_) λhp=>?_
   ·refine k_ eI w0 (n:=1) (l:=([iB]:List Int)) rfl (CR.cons1 rfl CR.empty) rfl λH2 w2 s2 c2=>?_
    refine aA (w2.rowo (i:=0) rfl) ?_
    obtain ⟨l3,e3,hp⟩:=ah hp
    refine qk eI w2 (i:=4) rfl rfl (Rk.step s2) c2 (show 1=List.length ([iB]:List Int) from rfl) rfl e3 λa4 d4 H4 w4 s4 c4 x4=>?_
    obtain ⟨w5,s5⟩:=w4.pp [1,2,3,4] 5
    exact aC.j8_P (@ih) rfl rfl rfl ⟨w5,(s0.trans (s2.trans (s4.trans s5))),(Rh.step (s2.trans (s4.trans s5))),(Rj.step (s2.trans (s4.trans s5))),(c4.step s5)⟩ hp
   ·exact aC.j8_P (@ih) rfl rfl rfl ⟨w0,s0,Rh,Rj,Rk⟩ hp
  ·exact aC.j7_P rfl rfl rfl ⟨w0,s0,Rh,Rj,Rk⟩ hp
def aC.p (F:Nat) (aa:Int) (ac:Int) (ar:asw) (au:Int):Option (Int×Int×List Int×Int):=aC.pl29 F F au aa ac ar ([]:List Int) 0
theorem aC.P {aa ac au bU bu bV ar} (dF:bu=ar.length) (h0:Inn H R0 λR=>ROs eI H R ⟨bU,bu,bV⟩ ar) {r:as3} (hp:aC.p F aa ac ar au=some r):Rt (aC.tw F aa ac ⟨bU,bu,bV⟩ au H) (aC.Q H R0 R0  r):=by
 obtain ⟨w0,cS⟩:=h0
 subst dF
 unfold aC.p at hp
 unfold aC.tw aC.twX
 have s0:=w0.rf
 refine bQ w0 λH1 w1 s1=>?_
 refine bQ w1 λH2 w2 s2=>?_
 refine k_ eI w2 (n:=0) (l:=([]:List Int)) rfl CR.empty rfl λH3 w3 s3 c3=>?_
 obtain ⟨w4,s4⟩:=w3.nilS eI.z (by decide)
 obtain ⟨w5,s5⟩:=w4.pp [3,0,2,1] 4
 exact aC.l29_P F rfl rfl (show 0=List.length ([]:List Int) from rfl) ⟨w5,(s0.trans (s1.trans (s2.trans (s3.trans (s4.trans s5))))),(cS.step (s1.trans (s2.trans (s3.trans (s4.trans s5))))),((CR.empty:CR eI _ _ [] []).step s5),(c3.step (s4.trans s5))⟩ hp
def cl.Q (H0:Hp) (Ri R0:asy) (bU:ON) (bu:Nat) (bV:Cap) (kJ:Bool) (kK kL:asJ) (r:asw) (v:AV) (H':Hp):Prop:=∃ tL:List AV,v=(.tup [])/\bu=(r).length/\Out H0 Ri H' (Rs.ow kJ ⟨bU,bu,bV⟩ eI.z kK tL kL::R0) λR=>CR eI H' R tL (r)
def cl.S7 (H0:Hp) (Ri R0:asy) (kM:ON) (jN:Nat) (kN:Cap) (mD:Bool) (mE mF:asJ) (C:Int->Int->Nat->Nat->Int->Hp->OA) (pC:Int->Int->Int->List Int->Int->Option (List Int)):Prop:=∀ {fp kw Dk kX iC kY Rl fV},∀ {H:Hp},jN=kY.length->(Out H0 Ri H (Rs.ow mD ⟨kM,jN,kN⟩ eI.z mE Rl mF::Rs.blk fV [.i Dk,.i kX,.sl ⟨kM,jN,kN⟩]::R0) λR=>CR eI H R Rl kY)->∀ {r:asw},pC fp kw kX kY iC=some r->Rt (C fp kw fV 0 iC H) (cl.Q H0 Ri R0 kM jN kN mD mE mF r)
def cl.pl7 (F:Nat) :Nat->Int->Int->Int->List Int->Int->Option (List Int)
 | 0,_,_,_,_,_=>none
 | k+1,fp,kw,kX,kY,iC=>(bif (decide (iC<kX)) then ((bJ.p F kX kY fp iC).bind λr2=>(bJ.p F kX kY kw iC).bind λr6=>(ix kY (wrap .i64 ((wrap .i64 (fp * kX))+iC))).bind λn10=>(some (kY.set n10 r6)).bind λl11=>(ix l11 (wrap .i64 ((wrap .i64 (kw * kX))+iC))).bind λn13=>(some (l11.set n13 r2)).bind λl14=>cl.pl7 F k fp kw kX l14 (wrap .i64 (iC+1))) else (some kY))
theorem cl.l7_P {kM jN kN mD mE mF} :∀ k,cl.S7 H0 Ri R0 kM jN kN mD mE mF (cl.l7 F (bJ.tw F)  k) (cl.pl7 F  k):=by
 intro k
 induction k with
 | zero=>unfold cl.S7;intros;rename_i hp;cases hp
 | succ k ih=>
  intro fp kw Dk kX iC kY Rl fV H alY h0 r hp
  obtain ⟨w0,s0,Dl⟩:=h0
  subst alY
  unfold cl.pl7 at hp
  unfold cl.l7
  refine lI w0 1 ?_
  refine aH hp (λhp=>?_) λhp=>?_
  ·refine lI w0 1 ?_
   refine lI w0 1 ?_
   refine lSl w0 1 ?_
   have f1:=W.borrow1 eI w0 Dl
   obtain ⟨w1,s1⟩:=w0.right1
   obtain ⟨r2,e2,hp⟩:=ah hp
   refine aR (bJ.P rfl ⟨w1,f1⟩ e2) ?_
   rintro _ H3 ⟨rfl,w3,s3,_⟩
   obtain ⟨w4,s4⟩:=W.frame1 w0 w3 s3
   refine br ?_
   refine lSl w4 1 ?_
   refine lI w4 1 ?_
   refine lI w4 1 ?_
   refine lI w4 1 ?_
   refine lSl w4 1 ?_
   have f5:=W.borrow1 eI w4 (Dl.step s4)
   obtain ⟨w5,s5⟩:=w4.right1
   obtain ⟨r6,e6,hp⟩:=ah hp
   refine aR (bJ.P rfl ⟨w5,f5⟩ e6) ?_
   rintro _ H7 ⟨rfl,w7,s7,_⟩
   obtain ⟨w8,s8⟩:=W.frame1 w4 w7 s7
   refine br ?_
   refine fU (W.cons_of (Rn:=[]) w5 w7 s7) ?_
   obtain ⟨n10,g10,hp⟩:=ah hp
   obtain ⟨p10,q10,i10,h10,j10⟩:=W.ixo (E:=eI) w8 (i:=0) rfl rfl (Dl.step (s4.trans s8)) g10
   refine aA i10 ?_
   obtain ⟨l11,e11,hp⟩:=ah hp
   refine gD eI w8 (i:=0) (j:=0) (p:=p10) rfl rfl (Dl.step (s4.trans s8)) g10 i10 e11 rfl rfl (λ_ h=>by have h:_=[_]:=h;subst h;exact rfl) λH12 k12 w12 s12 c12=>?_
   refine lSl w12 1 ?_
   refine lI w12 1 ?_
   obtain ⟨n13,g13,hp⟩:=ah hp
   obtain ⟨p13,q13,i13,h13,j13⟩:=W.ixo (E:=eI) w12 (i:=0) rfl rfl c12 g13
   refine aA i13 ?_
   obtain ⟨l14,e14,hp⟩:=ah hp
   refine gD eI w12 (i:=0) (j:=0) (p:=p13) rfl rfl c12 g13 i13 e14 rfl rfl (λ_ h=>by have h:_=[_]:=h;subst h;exact rfl) λH15 k15 w15 s15 c15=>?_
   exact ih ((eQ e11).symm.trans (eQ e14).symm) ⟨w15,(s0.trans (s4.trans (s8.trans (s12.trans s15)))),c15⟩ hp
  ·obtain ⟨w16,s16⟩:=w0.pp [0] 2
   exact aP hp ⟨_,rfl,rfl,w16,(s0.trans s16),(Dl.step s16)⟩
def cl.p (F:Nat) (ac:Int) (ar:asw) (au:Int) (ci:Int):Option (List Int):=cl.pl7 F F au ci ac ar 0
theorem cl.P {aa ac au ci bU bu bV ar kJ kK kL pR} (dF:bu=ar.length) (h0:Inn H (Rs.ow kJ ⟨bU,bu,bV⟩ eI.z kK pR kL::R0) λR=>CR eI H R pR ar) {r:asw} (hp:cl.p F ac ar au ci=some r):Rt (cl.tw F aa ac ⟨bU,bu,bV⟩ au ci H) (cl.Q H (Rs.ow kJ ⟨bU,bu,bV⟩ eI.z kK pR kL::R0) R0 bU bu bV kJ kK kL r):=by
 obtain ⟨w0,cS⟩:=h0
 subst dF
 unfold cl.p at hp
 unfold cl.tw cl.twX
 have s0:=w0.rf
 refine bQ w0 λH1 w1 s1=>?_
 obtain ⟨w2,s2⟩:=w1.pp [1,0] 2
 exact cl.l7_P F rfl ⟨w2,(s0.trans (s1.trans s2)),(cS.step (s1.trans s2))⟩ hp
def ak.Q (H0:Hp) (Ri R0:asy)  (r:Int) (v:AV) (H':Hp):Prop:=v=(.i r)/\Out H0 Ri H' (R0) λR=>True
def ak.S125 (H0:Hp) (Ri R0:asy)  (C:asQ) (pC:asT):Prop:=∀ {pv abe Dm pw iu nm Rm Jl uB Rp AN Rq},∀ {H:Hp},Jl=AN.length->(Out H0 Ri H (Rs.own ⟨Rm,Jl,Rp⟩ eI.z Rq::Rs.blk uB [.i abe,.i Dm,.sl ⟨Rm,Jl,Rp⟩]::R0) λR=>CR eI H R Rq AN)->∀ {r:Int},pC pv Dm AN pw iu nm=some r->Rt (C pv uB 0 pw iu nm H) (ak.Q H0 Ri R0  r)
def ak.S4010 (H0:Hp) (Ri R0:asy)  (C:as6) (pC:as8):Prop:=∀ {lH abf tM nj nk lJ kA Rr Jm nJ Ru rF Rv},∀ {H:Hp},Jm=rF.length->(Out H0 Ri H (Rs.own ⟨Rr,Jm,Ru⟩ eI.z Rv::Rs.blk nJ [.i abf,.i tM,.sl ⟨Rr,Jm,Ru⟩]::R0) λR=>CR eI H R Rv rF)->∀ {r:Int},pC lH tM rF nj nk lJ kA=some r->Rt (C lH nJ 0 nj nk lJ kA H) (ak.Q H0 Ri R0  r)
def ak.S64189 (H0:Hp) (Ri R0:asy)  (C:as6) (pC:as8):Prop:=∀ {nh abg AO po rc ni pu Rw Jn sR Rx vw Ry},∀ {H:Hp},Jn=vw.length->(Out H0 Ri H (Rs.own ⟨Rw,Jn,Rx⟩ eI.z Ry::Rs.blk sR [.i abg,.i AO,.sl ⟨Rw,Jn,Rx⟩]::R0) λR=>CR eI H R Ry vw)->∀ {r:Int},pC nh AO vw po rc ni pu=some r->Rt (C nh sR 0 po rc ni pu H) (ak.Q H0 Ri R0  r)
def ak.S1027029 (H0:Hp) (Ri R0:asy)  (C:Int->Nat->Nat->Int->Int->Int->Int->Int->Hp->OA) (pC:Int->Int->List Int->Int->Int->Int->Int->Int->Option (Int)):Prop:=∀ {lF abh qI pm lG jT ky kz Rz Jo jv RA nN RB},∀ {H:Hp},Jo=nN.length->(Out H0 Ri H (Rs.own ⟨Rz,Jo,RA⟩ eI.z RB::Rs.blk jv [.i abh,.i qI,.sl ⟨Rz,Jo,RA⟩]::R0) λR=>CR eI H R RB nN)->∀ {r:Int},pC lF qI nN pm lG jT ky kz=some r->Rt (C lF jv 0 pm lG jT ky kz H) (ak.Q H0 Ri R0  r)
def ak.pj14 (F:Nat) (l_:as8) (yo:Int) (Jp:Int) (Dn:asw) (yp:Int) (yq:Int) (yr:Int) (ys:Int):Option (Int):=l_ yo Jp Dn yp yq yr (wrap .i64 (ys+1))
theorem ak.j14_P  {C64189_:as6} {l_:as8} (hC64189:ak.S64189 H0 Ri R0  C64189_ l_) {yo alZ Jp yp yq yr ys abi RC FZ abj Dn abk} (al0:RC=Dn.length) (h0:Out H0 Ri H (Rs.own ⟨abi,RC,abj⟩ eI.z abk::Rs.blk FZ [.i alZ,.i Jp,.sl ⟨abi,RC,abj⟩]::R0) λR=>CR eI H R abk Dn) {r:Int} (hp:ak.pj14 F l_ yo Jp Dn yp yq yr ys=some r):Rt (ak.j14 F (bJ.tw F) (cl.tw F) C64189_ yo FZ 0 yp yq yr ys H) (ak.Q H0 Ri R0  r):=by
 obtain ⟨w0,s0,al1⟩:=h0
 subst al0
 unfold ak.pj14 at hp
 unfold ak.j14
 exact hC64189 rfl ⟨w0,s0,al1⟩ hp
def ak.pj15 (F:Nat) (l_:as8) (yt:Int) (Jq:Int) (Do:asw) (yu:Int) (yw:Int) (yx:Int) (yy:Int):Option (Int):=ak.pj14 F l_ yt Jq Do yu yw yx yy
theorem ak.j15_P  {C64189_:as6} {l_:as8} (hC64189:ak.S64189 H0 Ri R0  C64189_ l_) {yt al2 Jq yu yw yx yy abl RD F_ abm Do abn} (al3:RD=Do.length) (h0:Out H0 Ri H (Rs.own ⟨abl,RD,abm⟩ eI.z abn::Rs.blk F_ [.i al2,.i Jq,.sl ⟨abl,RD,abm⟩]::R0) λR=>CR eI H R abn Do) {r:Int} (hp:ak.pj15 F l_ yt Jq Do yu yw yx yy=some r):Rt (ak.j15 F (bJ.tw F) (cl.tw F) C64189_ yt F_ 0 yu yw yx yy H) (ak.Q H0 Ri R0  r):=by
 obtain ⟨w0,s0,al4⟩:=h0
 subst al3
 unfold ak.pj15 at hp
 unfold ak.j15
 exact ak.j14_P (@hC64189) rfl ⟨w0,s0,al4⟩ hp
def ak.pl1027029 (F:Nat) (eK:asT) (l_:as8):Nat->Int->Int->List Int->Int->Int->Int->Int->Int->Option (Int)
 | 0,_,_,_,_,_,_,_,_=>none
 | k+1,lF,qI,nN,pm,lG,jT,ky,kz=>(bif (decide (kz<lF)) then ((bJ.p F qI nN ky kz).bind λr2=>(bJ.p F qI nN jT jT).bind λr7=>(bJ.p F qI nN ky jT).bind λr12=>(bJ.p F qI nN jT kz).bind λr17=>(if lG=0 then none else ((ix nN (wrap .i64 ((wrap .i64 (ky * lF))+kz))).bind λn22=>(some (nN.set n22 (wrap .i64 (Int.tdiv (wrap .i64 ((wrap .i64 (r2 * r7)) - (wrap .i64 (r12 * r17)))) lG)))).bind λl23=>ak.pl1027029 F eK l_ k lF qI l23 pm lG jT ky (wrap .i64 (kz+1))))) else (ak.pj15 F l_ lF qI nN pm lG jT ky))
theorem ak.l1027029_P  {C125_:asQ} {eK:asT} (hC125:ak.S125 H0 Ri R0  C125_ eK) {C64189_:as6} {l_:as8} (hC64189:ak.S64189 H0 Ri R0  C64189_ l_):∀ k,ak.S1027029 H0 Ri R0  (ak.l1027029 F (bJ.tw F) (cl.tw F) C125_ C64189_ k) (ak.pl1027029 F eK l_ k):=by
 intro k
 induction k with
 | zero=>unfold ak.S1027029;intros;rename_i hp;cases hp
 | succ k ih=>
  intro lF abh qI pm lG jT ky kz Rz Jo jv RA nN RB H al5 h0 r hp
  obtain ⟨w0,s0,vx⟩:=h0
  subst al5
  unfold ak.pl1027029 at hp
  unfold ak.l1027029
  refine aH hp (λhp=>?_) λhp=>?_
  ·refine lSl w0 1 ?_
   refine lI w0 1 ?_
   refine lI w0 1 ?_
   refine lSl w0 1 ?_
   have f1:=W.borrow1 eI w0 vx
   obtain ⟨w1,s1⟩:=w0.right1
   obtain ⟨r2,e2,hp⟩:=ah hp
   refine aR (bJ.P rfl ⟨w1,f1⟩ e2) ?_
   rintro _ H3 ⟨rfl,w3,s3,_⟩
   obtain ⟨w4,s4⟩:=W.frame1 w0 w3 s3
   refine br ?_
   refine fU (W.cons_of (Rn:=[]) w1 w3 s3) ?_
   refine lI w4 1 ?_
   refine lI w4 1 ?_
   refine lSl w4 1 ?_
   have f6:=W.borrow1 eI w4 (vx.step s4)
   obtain ⟨w6,s6⟩:=w4.right1
   obtain ⟨r7,e7,hp⟩:=ah hp
   refine aR (bJ.P rfl ⟨w6,f6⟩ e7) ?_
   rintro _ H8 ⟨rfl,w8,s8,_⟩
   obtain ⟨w9,s9⟩:=W.frame1 w4 w8 s8
   refine br ?_
   refine fU (W.cons_of (Rn:=[]) w6 w8 s8) ?_
   refine lI w9 1 ?_
   refine lI w9 1 ?_
   refine lSl w9 1 ?_
   have f11:=W.borrow1 eI w9 (vx.step (s4.trans s9))
   obtain ⟨w11,s11⟩:=w9.right1
   obtain ⟨r12,e12,hp⟩:=ah hp
   refine aR (bJ.P rfl ⟨w11,f11⟩ e12) ?_
   rintro _ H13 ⟨rfl,w13,s13,_⟩
   obtain ⟨w14,s14⟩:=W.frame1 w9 w13 s13
   refine br ?_
   refine fU (W.cons_of (Rn:=[]) w11 w13 s13) ?_
   refine lI w14 1 ?_
   refine lI w14 1 ?_
   refine lSl w14 1 ?_
   have f16:=W.borrow1 eI w14 (vx.step (s4.trans (s9.trans s14)))
   obtain ⟨w16,s16⟩:=w14.right1
   obtain ⟨r17,e17,hp⟩:=ah hp
   refine aR (bJ.P rfl ⟨w16,f16⟩ e17) ?_
   rintro _ H18 ⟨rfl,w18,s18,_⟩
   obtain ⟨w19,s19⟩:=W.frame1 w14 w18 s18
   refine br ?_
   refine fU (W.cons_of (Rn:=[]) w16 w18 s18) ?_
   obtain ⟨g21,hp⟩:=nV hp
   refine nW g21 ?_
   obtain ⟨n22,g22,hp⟩:=ah hp
   obtain ⟨p22,q22,i22,h22,j22⟩:=W.ixo (E:=eI) w19 (i:=0) rfl rfl (vx.step (s4.trans (s9.trans (s14.trans s19)))) g22
   refine aA i22 ?_
   obtain ⟨l23,e23,hp⟩:=ah hp
   refine gD eI w19 (i:=0) (j:=0) (p:=p22) rfl rfl (vx.step (s4.trans (s9.trans (s14.trans s19)))) g22 i22 e23 rfl rfl (λ_ h=>by have h:_=[_]:=h;subst h;exact rfl) λH24 k24 w24 s24 c24=>?_
   exact ih ((eQ e23).symm) ⟨w24,(s0.trans (s4.trans (s9.trans (s14.trans (s19.trans s24))))),c24⟩ hp
  ·exact ak.j15_P (@hC64189) rfl ⟨w0,s0,vx⟩ hp
def ak.pj12 (F:Nat) (eK:asT) (yh:Int) (Jr:Int) (Dp:asw) (yi:Int) (yj:Int) (yk:Int):Option (Int):=eK yh Jr Dp yi yj (wrap .i64 (yk+1))
theorem ak.j12_P  {C125_:asQ} {eK:asT} (hC125:ak.S125 H0 Ri R0  C125_ eK) {yh al6 Jr yi yj yk abo RE FX abp Dp abq} (al7:RE=Dp.length) (h0:Out H0 Ri H (Rs.own ⟨abo,RE,abp⟩ eI.z abq::Rs.blk FX [.i al6,.i Jr,.sl ⟨abo,RE,abp⟩]::R0) λR=>CR eI H R abq Dp) {r:Int} (hp:ak.pj12 F eK yh Jr Dp yi yj yk=some r):Rt (ak.j12 F (bJ.tw F) (cl.tw F) C125_ yh FX 0 yi yj yk H) (ak.Q H0 Ri R0  r):=by
 obtain ⟨w0,s0,al8⟩:=h0
 subst al7
 unfold ak.pj12 at hp
 unfold ak.j12
 exact hC125 rfl ⟨w0,s0,al8⟩ hp
def ak.pj13 (F:Nat) (eK:asT) (ym:Int) (Dq:Int) (AP:asw) (yn:Int) (qx:Int):Option (Int):=(bJ.p F Dq AP qx qx).bind λr2=>ak.pj12 F eK ym Dq AP yn r2 qx
theorem ak.j13_P  {C125_:asQ} {eK:asT} (hC125:ak.S125 H0 Ri R0  C125_ eK) {ym al9 Dq yn qx abr RF uA abt AP abu} (al_:RF=AP.length) (h0:Out H0 Ri H (Rs.own ⟨abr,RF,abt⟩ eI.z abu::Rs.blk uA [.i al9,.i Dq,.sl ⟨abr,RF,abt⟩]::R0) λR=>CR eI H R abu AP) {r:Int} (hp:ak.pj13 F eK ym Dq AP yn qx=some r):Rt (ak.j13 F (bJ.tw F) (cl.tw F) C125_ ym uA 0 yn qx H) (ak.Q H0 Ri R0  r):=by
 obtain ⟨w0,s0,abv⟩:=h0
 subst al_
 unfold ak.pj13 at hp
 unfold ak.j13
 refine lI w0 1 ?_
 refine lI w0 1 ?_
 refine lSl w0 1 ?_
 have f1:=W.borrow1 eI w0 abv
 obtain ⟨w1,s1⟩:=w0.right1
 obtain ⟨r2,e2,hp⟩:=ah hp
 refine aR (bJ.P rfl ⟨w1,f1⟩ e2) ?_
 rintro _ H3 ⟨rfl,w3,s3,_⟩
 obtain ⟨w4,s4⟩:=W.frame1 w0 w3 s3
 refine br ?_
 exact ak.j12_P (@hC125) rfl ⟨w4,(s0.trans s4),(abv.step s4)⟩ hp
def ak.pl64189 (F:Nat) (eK:asT):Nat->Int->Int->List Int->Int->Int->Int->Int->Option (Int)
 | 0,_,_,_,_,_,_,_=>none
 | k+1,nh,AO,vw,po,rc,ni,pu=>(bif (decide (pu<nh)) then (ak.pl1027029 F eK (ak.pl64189 F eK k) F nh AO vw po rc ni pu (wrap .i64 (ni+1))) else (ak.pj13 F eK nh AO vw po ni))
theorem ak.l64189_P  {C125_:asQ} {eK:asT} (hC125:ak.S125 H0 Ri R0  C125_ eK):∀ k,ak.S64189 H0 Ri R0  (ak.l64189 F (bJ.tw F) (cl.tw F) C125_ k) (ak.pl64189 F eK k):=by
 intro k
 induction k with
 | zero=>unfold ak.S64189;intros;rename_i hp;cases hp
 | succ k ih=>
  intro nh abg AO po rc ni pu Rw Jn sR Rx vw Ry H ama h0 r hp
  obtain ⟨w0,s0,abw⟩:=h0
  subst ama
  unfold ak.pl64189 at hp
  unfold ak.l64189
  refine aH hp (λhp=>?_) λhp=>?_
  ·exact ak.l1027029_P (@hC125) (@ih) F rfl ⟨w0,s0,abw⟩ hp
  ·exact ak.j13_P (@hC125) rfl ⟨w0,s0,abw⟩ hp
def ak.pj16 (F:Nat) (eK:asT) (yz:Int) (Js:Int) (Dr:asw) (yA:Int) (yB:Int) (sS:Int):Option (Int):=ak.pl64189 F eK F yz Js Dr yA yB sS (wrap .i64 (sS+1))
theorem ak.j16_P  {C125_:asQ} {eK:asT} (hC125:ak.S125 H0 Ri R0  C125_ eK) {yz amb Js yA yB sS abx RG Gb aby Dr abz} (amc:RG=Dr.length) (h0:Out H0 Ri H (Rs.own ⟨abx,RG,aby⟩ eI.z abz::Rs.blk Gb [.i amb,.i Js,.sl ⟨abx,RG,aby⟩]::R0) λR=>CR eI H R abz Dr) {r:Int} (hp:ak.pj16 F eK yz Js Dr yA yB sS=some r):Rt (ak.j16 F (bJ.tw F) (cl.tw F) C125_ yz Gb 0 yA yB sS H) (ak.Q H0 Ri R0  r):=by
 obtain ⟨w0,s0,amd⟩:=h0
 subst amc
 unfold ak.pj16 at hp
 unfold ak.j16
 exact ak.l64189_P (@hC125) F rfl ⟨w0,s0,amd⟩ hp
def ak.pj17 (F:Nat) (eK:asT) (qy:Int) (AQ:Int) (AR:asw) (sU:Int) (sV:Int) (nI:Int) (qz:Int):Option (Int):=(bif (qz==qy) then (some 0) else ((bif (qz != nI) then ((cl.p F AQ AR qz nI).bind λr2=>ak.pj16 F eK qy AQ r2 (wrap .i64 (0 - sU)) sV nI) else (ak.pj16 F eK qy AQ AR sU sV nI))))
theorem ak.j17_P  {C125_:asQ} {eK:asT} (hC125:ak.S125 H0 Ri R0  C125_ eK) {qy ame AQ sU sV nI qz abA RH sT abB AR abC} (amf:RH=AR.length) (h0:Out H0 Ri H (Rs.own ⟨abA,RH,abB⟩ eI.z abC::Rs.blk sT [.i ame,.i AQ,.sl ⟨abA,RH,abB⟩]::R0) λR=>CR eI H R abC AR) {r:Int} (hp:ak.pj17 F eK qy AQ AR sU sV nI qz=some r):Rt (ak.j17 F (bJ.tw F) (cl.tw F) C125_ qy sT 0 sU sV nI qz H) (ak.Q H0 Ri R0  r):=by
 obtain ⟨w0,s0,abD⟩:=h0
 subst amf
 unfold ak.pj17 at hp
 unfold ak.j17
 refine aH hp (λhp=>?_) λhp=>?_
 ·obtain ⟨w1,s1⟩:=w0.pp [] 2
  exact aP hp ⟨rfl,w1,(s0.trans s1),trivial⟩
 ·refine aH hp (λhp=>?_) λhp=>?_
  ·refine lI w0 1 ?_
   refine lI w0 1 ?_
   refine lSl w0 1 ?_
   obtain ⟨r2,e2,hp⟩:=ah hp
   refine aR (cl.P rfl ⟨w0,abD⟩ e2) ?_
   rintro _ H3 ⟨arJ,rfl,hl3_0,w3,s3,f3_0⟩
   exact ak.j16_P (@hC125) hl3_0 ⟨w3,(s0.trans s3),f3_0⟩ hp
  ·exact ak.j16_P (@hC125) rfl ⟨w0,s0,abD⟩ hp
def ak.pl4010 (F:Nat) (eK:asT):Nat->Int->Int->List Int->Int->Int->Int->Int->Option (Int)
 | 0,_,_,_,_,_,_,_=>none
 | k+1,lH,tM,rF,nj,nk,lJ,kA=>(bif (decide (kA<lH)) then ((bJ.p F tM rF kA lJ).bind λr2=>(bif (r2==0) then (ak.pl4010 F eK k lH tM rF nj nk lJ (wrap .i64 (kA+1))) else (ak.pj17 F eK lH tM rF nj nk lJ kA))) else (ak.pj17 F eK lH tM rF nj nk lJ kA))
theorem ak.l4010_P  {C125_:asQ} {eK:asT} (hC125:ak.S125 H0 Ri R0  C125_ eK):∀ k,ak.S4010 H0 Ri R0  (ak.l4010 F (bJ.tw F) (cl.tw F) C125_ k) (ak.pl4010 F eK k):=by
 intro k
 induction k with
 | zero=>unfold ak.S4010;intros;rename_i hp;cases hp
 | succ k ih=>
  intro lH abf tM nj nk lJ kA Rr Jm nJ Ru rF Rv H amg h0 r hp
  obtain ⟨w0,s0,Jt⟩:=h0
  subst amg
  unfold ak.pl4010 at hp
  unfold ak.l4010
  refine aH hp (λhp=>?_) λhp=>?_
  ·refine lI w0 1 ?_
   refine lI w0 1 ?_
   refine lSl w0 1 ?_
   have f1:=W.borrow1 eI w0 Jt
   obtain ⟨w1,s1⟩:=w0.right1
   obtain ⟨r2,e2,hp⟩:=ah hp
   refine aR (bJ.P rfl ⟨w1,f1⟩ e2) ?_
   rintro _ H3 ⟨rfl,w3,s3,_⟩
   obtain ⟨w4,s4⟩:=W.frame1 w0 w3 s3
   refine br ?_
   refine aH hp (λhp=>?_) λhp=>?_
   ·exact ih rfl ⟨w4,(s0.trans s4),(Jt.step s4)⟩ hp
   ·exact ak.j17_P (@hC125) rfl ⟨w4,(s0.trans s4),(Jt.step s4)⟩ hp
  ·exact ak.j17_P (@hC125) rfl ⟨w0,s0,Jt⟩ hp
def ak.pj9 (F:Nat)  (ye:Int) (yf:Int):Option (Int):=some (wrap .i64 (ye * yf))
theorem ak.j9_P   {ye yf}  (h0:Out H0 Ri H R0 λR=>True) {r:Int} (hp:ak.pj9 F  ye yf=some r):Rt (ak.j9 F (bJ.tw F) (cl.tw F)  ye yf H) (ak.Q H0 Ri R0  r):=by
 obtain ⟨w0,s0,_⟩:=h0
 unfold ak.pj9 at hp
 unfold ak.j9
 exact aP hp ⟨rfl,w0,s0,trivial⟩
def ak.pl125 (F:Nat) :Nat->Int->Int->List Int->Int->Int->Int->Option (Int)
 | 0,_,_,_,_,_,_=>none
 | k+1,pv,Dm,AN,pw,iu,nm=>(bif (decide (nm<pv)) then (ak.pl4010 F (ak.pl125 F k) F pv Dm AN pw iu nm nm) else (ak.pj9 F pw iu))
theorem ak.l125_P  :∀ k,ak.S125 H0 Ri R0  (ak.l125 F (bJ.tw F) (cl.tw F)  k) (ak.pl125 F  k):=by
 intro k
 induction k with
 | zero=>unfold ak.S125;intros;rename_i hp;cases hp
 | succ k ih=>
  intro pv abe Dm pw iu nm Rm Jl uB Rp AN Rq H amh h0 r hp
  obtain ⟨w0,s0,ami⟩:=h0
  subst amh
  unfold ak.pl125 at hp
  unfold ak.l125
  refine aH hp (λhp=>?_) λhp=>?_
  ·exact ak.l4010_P (@ih) F rfl ⟨w0,s0,ami⟩ hp
  ·obtain ⟨w1,s1⟩:=w0.pp [] 2
   exact ak.j9_P ⟨w1,(s0.trans s1),trivial⟩ hp
def ak.p (F:Nat) (aa:Int) (ar:asw):Option (Int):=(apn ([]:List Int) ar).bind λl4=>ak.pl125 F F aa aa l4 1 1 0
theorem ak.P {aa ac bU bu bV ar} (dF:bu=ar.length) (h0:Inn H R0 λR=>ROs eI H R ⟨bU,bu,bV⟩ ar) {r:Int} (hp:ak.p F aa ar=some r):Rt (ak.tw F aa ac ⟨bU,bu,bV⟩ H) (ak.Q H R0 R0  r):=by
 obtain ⟨w0,cS⟩:=h0
 subst dF
 unfold ak.p at hp
 unfold ak.tw ak.twX
 have s0:=w0.rf
 refine bQ w0 λH1 w1 s1=>?_
 refine lI w1 0 ?_
 refine k_ eI w1 (n:=0) (l:=([]:List Int)) rfl CR.empty rfl λH2 w2 s2 c2=>?_
 refine lSl w2 1 ?_
 obtain ⟨x3,h3,c3⟩:=(cS.step (s1.trans s2)).row rfl
 refine aA h3 ?_
 obtain ⟨l4,e4,hp⟩:=ah hp
 refine qk eI w2 (i:=0) rfl rfl c2 c3 rfl rfl e4 λa5 d5 H5 w5 s5 c5 x5=>?_
 refine bQ w5 λH6 w6 s6=>?_
 refine aw w6 0 λH7 w7 s7=>?_
 refine aw w7 0 λH8 w8 s8=>?_
 refine aw w8 0 λH9 w9 s9=>?_
 obtain ⟨w10,s10⟩:=w9.pp [1,0] 3
 exact ak.l125_P F rfl ⟨w10,(s0.trans (s1.trans (s2.trans (s5.trans (s6.trans (s7.trans (s8.trans (s9.trans s10)))))))),(c5.step (s6.trans (s7.trans (s8.trans (s9.trans s10)))))⟩ hp
def bK.Q (H0:Hp) (Ri R0:asy)  (r:Int) (v:AV) (H':Hp):Prop:=v=(.i r)/\Out H0 Ri H' (R0) λR=>True
def bK.S29 (H0:Hp) (Ri R0:asy)  (C:atq) (pC:att):Prop:=∀ {pO mC pP dW dr eX dS},∀ {H:Hp},mC=dW.length->(Out H0 Ri H R0 λR=>ROs eI H R ⟨pO,mC,pP⟩ dW)->∀ {r:Int},pC dW dr eX dS=some r->Rt (C ⟨pO,mC,pP⟩ dr eX dS H) (bK.Q H0 Ri R0  r)
def bK.pj3 (F:Nat) (aU:att) (Ds:asw) (yC:Int) (yD:Int) (yE:Int):Option (Int):=aU Ds yC yD (wrap .i64 (yE+1))
theorem bK.j3_P  {C29_:atq} {aU:att} (hC29:bK.S29 H0 Ri R0  C29_ aU) {abE RI abF Ds yC yD yE} (amj:RI=Ds.length) (h0:Out H0 Ri H R0 λR=>ROs eI H R ⟨abE,RI,abF⟩ Ds) {r:Int} (hp:bK.pj3 F aU Ds yC yD yE=some r):Rt (bK.j3 F  C29_ ⟨abE,RI,abF⟩ yC yD yE H) (bK.Q H0 Ri R0  r):=by
 obtain ⟨w0,s0,amk⟩:=h0
 subst amj
 unfold bK.pj3 at hp
 unfold bK.j3
 exact hC29 rfl ⟨w0,s0,amk⟩ hp
def bK.pj4 (F:Nat) (aU:att) (Dt:asw) (yF:Int) (yG:Int) (yH:Int):Option (Int):=aU Dt yF yG (wrap .i64 (yH+1))
theorem bK.j4_P  {C29_:atq} {aU:att} (hC29:bK.S29 H0 Ri R0  C29_ aU) {abG RJ abH Dt yF yG yH} (aml:RJ=Dt.length) (h0:Out H0 Ri H R0 λR=>ROs eI H R ⟨abG,RJ,abH⟩ Dt) {r:Int} (hp:bK.pj4 F aU Dt yF yG yH=some r):Rt (bK.j4 F  C29_ ⟨abG,RJ,abH⟩ yF yG yH H) (bK.Q H0 Ri R0  r):=by
 obtain ⟨w0,s0,amm⟩:=h0
 subst aml
 unfold bK.pj4 at hp
 unfold bK.j4
 exact hC29 rfl ⟨w0,s0,amm⟩ hp
def bK.pl29 (F:Nat) :Nat->List Int->Int->Int->Int->Option (Int)
 | 0,_,_,_,_=>none
 | k+1,dW,dr,eX,dS=>(bif (decide (dS<(dW.length:Int))) then ((ix dW dS).bind λn1=>(bif (decide ((gt dW n1)>0)) then ((bif (decide (eX<0)) then (bK.pl29 F k dW (wrap .i64 (dr+1)) (wrap .i64 (0 - eX)) (wrap .i64 (dS+1))) else ((ix dW dS).bind λn2=>(bif (decide ((gt dW n2)<0)) then ((bif (decide (eX>0)) then (bK.pj3 F (bK.pl29 F k) dW (wrap .i64 (dr+1)) (wrap .i64 (0 - eX)) dS) else (bK.pj3 F (bK.pl29 F k) dW dr eX dS))) else (bK.pl29 F k dW dr eX (wrap .i64 (dS+1))))))) else ((ix dW dS).bind λn3=>(bif (decide ((gt dW n3)<0)) then ((bif (decide (eX>0)) then (bK.pj4 F (bK.pl29 F k) dW (wrap .i64 (dr+1)) (wrap .i64 (0 - eX)) dS) else (bK.pj4 F (bK.pl29 F k) dW dr eX dS))) else (bK.pl29 F k dW dr eX (wrap .i64 (dS+1))))))) else (some dr))
theorem bK.l29_P  :∀ k,bK.S29 H0 Ri R0  (bK.l29 F   k) (bK.pl29 F  k):=by
 intro k
 induction k with
 | zero=>unfold bK.S29;intros;rename_i hp;cases hp
 | succ k ih=>
  intro pO mC pP dW dr eX dS H BX h0 r hp
  obtain ⟨w0,s0,kW⟩:=h0
  subst BX
  unfold bK.pl29 at hp
  unfold bK.l29
  refine aH hp (λhp=>?_) λhp=>?_
  ·obtain ⟨n1,g1,hp⟩:=ah hp
   obtain ⟨p1,q1,i1,h1,j1⟩:=ROs.ixr kW rfl g1
   refine aA i1 ?_
   have h1:_=[_]:=h1
   subst h1
   refine aA (cy (j1 0 _ rfl)) ?_
   refine aH hp (λhp=>?_) λhp=>?_
   ·refine aH hp (λhp=>?_) λhp=>?_
    ·exact ih rfl ⟨w0,s0,kW⟩ hp
    ·obtain ⟨n2,g2,hp⟩:=ah hp
     obtain ⟨p2,q2,i2,h2,j2⟩:=ROs.ixr kW rfl g2
     refine aA i2 ?_
     have h2:_=[_]:=h2
     subst h2
     refine aA (cy (j2 0 _ rfl)) ?_
     refine aH hp (λhp=>?_) λhp=>?_
     ·refine aH hp (λhp=>?_) λhp=>?_
      ·exact bK.j3_P (@ih) rfl ⟨w0,s0,kW⟩ hp
      ·exact bK.j3_P (@ih) rfl ⟨w0,s0,kW⟩ hp
     ·exact ih rfl ⟨w0,s0,kW⟩ hp
   ·obtain ⟨n3,g3,hp⟩:=ah hp
    obtain ⟨p3,q3,i3,h3,j3⟩:=ROs.ixr kW rfl g3
    refine aA i3 ?_
    have h3:_=[_]:=h3
    subst h3
    refine aA (cy (j3 0 _ rfl)) ?_
    refine aH hp (λhp=>?_) λhp=>?_
    ·refine aH hp (λhp=>?_) λhp=>?_
     ·exact bK.j4_P (@ih) rfl ⟨w0,s0,kW⟩ hp
     ·exact bK.j4_P (@ih) rfl ⟨w0,s0,kW⟩ hp
    ·exact ih rfl ⟨w0,s0,kW⟩ hp
  ·exact aP hp ⟨rfl,w0,s0,trivial⟩
def bK.p (F:Nat) (aY:asw):Option (Int):=bK.pl29 F F aY 0 1 0
theorem bK.P {dN cQ dO aY} (gz:cQ=aY.length) (h0:Inn H R0 λR=>ROs eI H R ⟨dN,cQ,dO⟩ aY) {r:Int} (hp:bK.p F aY=some r):Rt (bK.tw F ⟨dN,cQ,dO⟩ H) (bK.Q H R0 R0  r):=by
 obtain ⟨w0,gZ⟩:=h0
 subst gz
 unfold bK.p at hp
 unfold bK.tw bK.twX
 have s0:=w0.rf
 exact bK.l29_P F rfl ⟨w0,s0,gZ⟩ hp
def bE.Q (H0:Hp) (Ri R0:asy)  (r:Int) (v:AV) (H':Hp):Prop:=v=(.i r)/\Out H0 Ri H' (R0) λR=>True
def bE.S29 (H0:Hp) (Ri R0:asy)  (C:atQ) (pC:Int->Int->List Int->List Int->Int->Option (Int)):Prop:=∀ {tN AS du RK RL Ju fp Jv RM RN vy qJ RO},∀ {H:Hp},Ju=vy.length->Jv=qJ.length->(Out H0 Ri H (Rs.blk fp [.i tN,.i AS,.sl ⟨RK,Ju,RM⟩]::Rs.own ⟨RL,Jv,RN⟩ eI.z RO::R0) λR=>ROs eI H R ⟨RK,Ju,RM⟩ vy/\CR eI H R RO qJ)->∀ {r:Int},pC tN AS vy qJ du=some r->Rt (C fp 0 ⟨RL,Jv,RN⟩ du H) (bE.Q H0 Ri R0  r)
def bE.S125 (H0:Hp) (Ri R0:asy)  (C:Sl->Sl->Int->Hp->OA) (pC:List Int->List Int->Int->Option (Int)):Prop:=∀ {RP RQ Jw Jx RR RT nO vz RU RV kB},∀ {H:Hp},Jw=nO.length->Jx=vz.length->(Out H0 Ri H (Rs.own ⟨RP,Jw,RR⟩ eI.z RU::Rs.own ⟨RQ,Jx,RT⟩ eI.z RV::R0) λR=>CR eI H R RU nO/\CR eI H R RV vz)->∀ {r:Int},pC nO vz kB=some r->Rt (C ⟨RP,Jw,RR⟩ ⟨RQ,Jx,RT⟩ kB H) (bE.Q H0 Ri R0  r)
def bE.pj1 (F:Nat)  (Du:asw) (Dw:asw):Option (Int):=(bK.p F Dw).bind λr3=>(bK.p F Du).bind λr8=>some (wrap .i64 (r3 - r8))
theorem bE.j1_P   {abI abJ RW RX abK abL Du Dw abM abN} (amn:RW=Du.length) (amo:RX=Dw.length) (h0:Out H0 Ri H (Rs.own ⟨abI,RW,abK⟩ eI.z abM::Rs.own ⟨abJ,RX,abL⟩ eI.z abN::R0) λR=>CR eI H R abM Du/\CR eI H R abN Dw) {r:Int} (hp:bE.pj1 F  Du Dw=some r):Rt (bE.j1 F (aC.tw F) (ak.tw F) (bK.tw F)  ⟨abI,RW,abK⟩ ⟨abJ,RX,abL⟩ H) (bE.Q H0 Ri R0  r):=by
 obtain ⟨w0,s0,amp,amq⟩:=h0
 subst amn
 subst amo
 unfold bE.pj1 at hp
 unfold bE.j1
 obtain ⟨w1,s1⟩:=w0.pp [1,0] 2
 have f2:=W.borrow1 eI w1 (amq.step s1)
 obtain ⟨w2,s2⟩:=w1.right1
 obtain ⟨r3,e3,hp⟩:=ah hp
 refine aR (bK.P rfl ⟨w2,f2⟩ e3) ?_
 rintro _ H4 ⟨rfl,w4,s4,_⟩
 obtain ⟨w5,s5⟩:=W.frame1 w1 w4 s4
 refine br ?_
 obtain ⟨w6,s6⟩:=w5.pp [1,0] 2
 have f7:=W.borrow1 eI w6 (amp.step (s1.trans (s5.trans s6)))
 obtain ⟨w7,s7⟩:=w6.right1
 obtain ⟨r8,e8,hp⟩:=ah hp
 refine aR (bK.P rfl ⟨w7,f7⟩ e8) ?_
 rintro _ H9 ⟨rfl,w9,s9,_⟩
 obtain ⟨w10,s10⟩:=W.frame1 w6 w9 s9
 refine br ?_
 obtain ⟨w11,s11⟩:=w10.pp [] 2
 exact aP hp ⟨rfl,w11,(s0.trans (s1.trans (s5.trans (s6.trans (s10.trans s11))))),trivial⟩
def bE.pl125 (F:Nat) :Nat->List Int->List Int->Int->Option (Int)
 | 0,_,_,_=>none
 | k+1,nO,vz,kB=>(bif (decide (kB<(nO.length:Int))) then ((ix nO kB).bind λn1=>(apn vz ([(wrap .i64 ((gt nO n1) * (wrap .i64 (1 - (wrap .i64 (2 * (Int.tmod kB 2)))))))]:List Int)).bind λl3=>bE.pl125 F k nO l3 (wrap .i64 (kB+1))) else (bE.pj1 F nO vz))
theorem bE.l125_P  :∀ k,bE.S125 H0 Ri R0  (bE.l125 F (aC.tw F) (ak.tw F) (bK.tw F)  k) (bE.pl125 F  k):=by
 intro k
 induction k with
 | zero=>unfold bE.S125;intros;rename_i hp;cases hp
 | succ k ih=>
  intro RP RQ Jw Jx RR RT nO vz RU RV kB H amr ams h0 r hp
  obtain ⟨w0,s0,RY,abO⟩:=h0
  subst amr
  subst ams
  unfold bE.pl125 at hp
  unfold bE.l125
  refine aH hp (λhp=>?_) λhp=>?_
  ·obtain ⟨n1,g1,hp⟩:=ah hp
   obtain ⟨p1,q1,i1,h1,j1⟩:=W.ixo (E:=eI) w0 (i:=0) rfl rfl RY g1
   refine aA i1 ?_
   have h1:_=[_]:=h1
   subst h1
   refine aA (cy (j1 0 _ rfl)) ?_
   refine k_ eI w0 (n:=1) (l:=([(wrap .i64 ((gt nO n1) * (wrap .i64 (1 - (wrap .i64 (2 * (Int.tmod kB 2)))))))]:List Int)) rfl (CR.cons1 rfl CR.empty) rfl λH2 w2 s2 c2=>?_
   refine aA (w2.rowo (i:=0) rfl) ?_
   obtain ⟨l3,e3,hp⟩:=ah hp
   refine qk eI w2 (i:=2) rfl rfl (abO.step s2) c2 (show 1=List.length ([(wrap .i64 ((gt nO n1) * (wrap .i64 (1 - (wrap .i64 (2 * (Int.tmod kB 2)))))))]:List Int) from rfl) rfl e3 λa4 d4 H4 w4 s4 c4 x4=>?_
   obtain ⟨w5,s5⟩:=w4.pp [1,2] 3
   exact ih rfl rfl ⟨w5,(s0.trans (s2.trans (s4.trans s5))),(RY.step (s2.trans (s4.trans s5))),(c4.step s5)⟩ hp
  ·exact bE.j1_P rfl rfl ⟨w0,s0,RY,abO⟩ hp
def bE.pj2 (F:Nat)  (Dx:asw):Option (Int):=bE.pl125 F F Dx ([]:List Int) 0
theorem bE.j2_P   {abQ RZ abR Dx abS} (amt:RZ=Dx.length) (h0:Out H0 Ri H (Rs.own ⟨abQ,RZ,abR⟩ eI.z abS::R0) λR=>CR eI H R abS Dx) {r:Int} (hp:bE.pj2 F  Dx=some r):Rt (bE.j2 F (aC.tw F) (ak.tw F) (bK.tw F)  ⟨abQ,RZ,abR⟩ H) (bE.Q H0 Ri R0  r):=by
 obtain ⟨w0,s0,amu⟩:=h0
 subst amt
 unfold bE.pj2 at hp
 unfold bE.j2
 refine k_ eI w0 (n:=0) (l:=([]:List Int)) rfl CR.empty rfl λH1 w1 s1 c1=>?_
 obtain ⟨w2,s2⟩:=w1.pp [1,0] 2
 exact bE.l125_P F rfl (show 0=List.length ([]:List Int) from rfl) ⟨w2,(s0.trans (s1.trans s2)),(amu.step (s1.trans s2)),(c1.step s2)⟩ hp
def bE.pl29 (F:Nat) :Nat->Int->Int->List Int->List Int->Int->Option (Int)
 | 0,_,_,_,_,_=>none
 | k+1,tN,AS,vy,qJ,du=>(if (IntKind.u64.wrap tN)<0 then none else ((bif (decide (du<(wrap .i64 (1 * 2 ^ (min ((IntKind.u64.wrap tN):Int).toNat (IntKind.i64).bits))))) then ((aC.p F tN AS vy du).bind λr2=>(ix qJ r2.2.2.2).bind λn8=>(ak.p F r2.1 r2.2.2.1).bind λr11=>(ix qJ r2.2.2.2).bind λn15=>(some (qJ.set n15 (wrap .i64 ((gt qJ n8)+r11)))).bind λl16=>bE.pl29 F k tN AS vy l16 (wrap .i64 (du+1))) else (bE.pj2 F qJ))))
theorem bE.l29_P  :∀ k,bE.S29 H0 Ri R0  (bE.l29 F (aC.tw F) (ak.tw F) (bK.tw F)  k) (bE.pl29 F  k):=by
 intro k
 induction k with
 | zero=>unfold bE.S29;intros;rename_i hp;cases hp
 | succ k ih=>
  intro tN AS du RK RL Ju fp Jv RM RN vy qJ RO H amv amw h0 r hp
  obtain ⟨w0,s0,abT,Jy⟩:=h0
  subst amv
  subst amw
  unfold bE.pl29 at hp
  unfold bE.l29
  refine lI w0 0 ?_
  obtain ⟨g1,hp⟩:=nV hp
  refine nW g1 ?_
  refine aH hp (λhp=>?_) λhp=>?_
  ·refine lI w0 0 ?_
   refine lI w0 0 ?_
   refine lSl w0 0 ?_
   obtain ⟨r2,e2,hp⟩:=ah hp
   refine aR (aC.P rfl ⟨w0,abT⟩ e2) ?_
   rintro _ H3 ⟨o2a_3,o2n_3,o2c_3,o2k_3,rfl,rfl,w3,s3,f3_0⟩
   refine br (br (br (br (br (br (br (br (br (br (br ?_))))))))))
   refine bQ w3 λH4 w4 s4=>?_
   refine aw w4 0 λH5 w5 s5=>?_
   refine aw w5 0 λH6 w6 s6=>?_
   refine aw w6 0 λH7 w7 s7=>?_
   obtain ⟨n8,g8,hp⟩:=ah hp
   obtain ⟨p8,q8,i8,h8,j8⟩:=W.ixo (E:=eI) w7 (i:=3) rfl rfl (Jy.step (s3.trans (s4.trans (s5.trans (s6.trans s7))))) g8
   refine aA i8 ?_
   have h8:_=[_]:=h8
   subst h8
   refine aA (cy (j8 0 _ rfl)) ?_
   refine lI w7 0 ?_
   refine lI w7 0 ?_
   refine lSl w7 0 ?_
   obtain ⟨w9,s9⟩:=w7.pp [1,0,2,3] 4
   have f10:=W.borrow1 eI w9 (f3_0.step (s4.trans (s5.trans (s6.trans (s7.trans s9)))))
   obtain ⟨w10,s10⟩:=w9.right1
   obtain ⟨r11,e11,hp⟩:=ah hp
   refine aR (ak.P rfl ⟨w10,f10⟩ e11) ?_
   rintro _ H12 ⟨rfl,w12,s12,_⟩
   obtain ⟨w13,s13⟩:=W.frame1 w9 w12 s12
   refine br ?_
   refine fU (aX.tr (aX.refl _) s9 (W.cons_of (Rn:=[]) w10 w12 s12)) ?_
   obtain ⟨n15,g15,hp⟩:=ah hp
   obtain ⟨p15,q15,i15,h15,j15⟩:=W.ixo (E:=eI) w13 (i:=3) rfl rfl (Jy.step (s3.trans (s4.trans (s5.trans (s6.trans (s7.trans (s9.trans s13))))))) g15
   refine aA i15 ?_
   obtain ⟨l16,e16,hp⟩:=ah hp
   refine gD eI w13 (i:=3) (j:=0) (p:=p15) rfl rfl (Jy.step (s3.trans (s4.trans (s5.trans (s6.trans (s7.trans (s9.trans s13))))))) g15 i15 e16 rfl rfl (λ_ h=>by have h:_=[_]:=h;subst h;exact rfl) λH17 k17 w17 s17 c17=>?_
   obtain ⟨w18,s18⟩:=w17.pp [2,3] 4
   exact ih rfl ((eQ e16).symm) ⟨w18,(s0.trans (s3.trans (s4.trans (s5.trans (s6.trans (s7.trans (s9.trans (s13.trans (s17.trans s18))))))))),(abT.step (s3.trans (s4.trans (s5.trans (s6.trans (s7.trans (s9.trans (s13.trans (s17.trans s18))))))))),(c17.step s18)⟩ hp
  ·obtain ⟨w19,s19⟩:=w0.pp [1] 2
   exact bE.j2_P rfl ⟨w19,(s0.trans s19),(Jy.step s19)⟩ hp
def bE.p (F:Nat) (aa:Int) (ac:Int) (ar:asw):Option (Int):=(mkn (wrap .i64 (aa+1)) (0:Int)).bind λl2=>bE.pl29 F F aa ac ar l2 0
theorem bE.P {aa ac bU bu bV ar} (dF:bu=ar.length) (h0:Inn H R0 λR=>ROs eI H R ⟨bU,bu,bV⟩ ar) {r:Int} (hp:bE.p F aa ac ar=some r):Rt (bE.tw F aa ac ⟨bU,bu,bV⟩ H) (bE.Q H R0 R0  r):=by
 obtain ⟨w0,cS⟩:=h0
 subst dF
 unfold bE.p at hp
 unfold bE.tw bE.twX
 have s0:=w0.rf
 refine bQ w0 λH1 w1 s1=>?_
 refine lI w1 0 ?_
 obtain ⟨l2,e2,hp⟩:=ah hp
 refine Lq eI (0:Int) w1 rfl rfl rfl e2 λH3 k3 w3 s3 c3=>?_
 obtain ⟨w4,s4⟩:=w3.pp [1,0] 2
 exact bE.l29_P F rfl rfl ⟨w4,(s0.trans (s1.trans (s3.trans s4))),(cS.step (s1.trans (s3.trans s4))),(c3.step s4)⟩ hp
def fq.Q (H0:Hp) (Ri R0:asy)  (r:atu) (v:AV) (H':Hp):Prop:=v=(.tup [(.i r.1),(.i r.2)])/\Out H0 Ri H' (R0) λR=>True
def fq.p (F:Nat) (aa:Int) (ac:Int) (ar:asw):Option (Int×Int):=(cz.p F aa ac ar).bind λr2=>(bif (!r2) then (some (0,1)) else ((bz.p F aa ac ar).bind λr5=>(dC.p F aa ac ar r5.1 r5.2.1 r5.2.2).bind λr9=>(bif (!r9) then (some (0,2)) else ((bif (decide (aa>12)) then (some (0,3)) else ((bF.p F aa ac ar).bind λr14=>(bif (!r14) then (some (0,3)) else ((bE.p F aa ac ar).bind λr17=>some (r17,0)))))))))
theorem fq.P {aa ac bU bu bV ar} (dF:bu=ar.length) (h0:Inn H R0 λR=>ROs eI H R ⟨bU,bu,bV⟩ ar) {r:atu} (hp:fq.p F aa ac ar=some r):Rt (fq.tw F aa ac ⟨bU,bu,bV⟩ H) (fq.Q H R0 R0  r):=by
 obtain ⟨w0,cS⟩:=h0
 subst dF
 unfold fq.p at hp
 unfold fq.tw fq.twX
 have s0:=w0.rf
 refine bQ w0 λH1 w1 s1=>?_
 refine lI w1 0 ?_
 refine lI w1 0 ?_
 refine lSl w1 0 ?_
 obtain ⟨r2,e2,hp⟩:=ah hp
 refine aR (cz.P rfl ⟨w1,(cS.step s1)⟩ e2) ?_
 rintro _ H3 ⟨rfl,w3,s3,_⟩
 refine br ?_
 refine aH hp (λhp=>?_) λhp=>?_
 ·obtain ⟨w4,s4⟩:=w3.pp [] 1
  exact aP hp ⟨rfl,w4,(s0.trans (s1.trans (s3.trans s4))),trivial⟩
 ·refine lI w3 0 ?_
  refine lI w3 0 ?_
  refine lSl w3 0 ?_
  refine lI w3 0 ?_
  refine lI w3 0 ?_
  refine lSl w3 0 ?_
  obtain ⟨r5,e5,hp⟩:=ah hp
  refine aR (bz.P rfl ⟨w3,(cS.step (s1.trans s3))⟩ e5) ?_
  rintro _ H6 ⟨o2a_6,o2n_6,o2c_6,o2k_6,rfl,rfl,w6,s6,f6_0⟩
  refine br (br (br (br (br (br (br ?_))))))
  refine fU (W.cons_of (Rn:=[_]) w3 w6 s6) ?_
  have f8:=W.borrow1 eI w6 f6_0
  obtain ⟨w8,s8⟩:=w6.right1
  obtain ⟨r9,e9,hp⟩:=ah hp
  refine aR (dC.P rfl rfl ⟨w8,((cS.step (s1.trans (s3.trans s6))).step s8),f8⟩ e9) ?_
  rintro _ H10 ⟨rfl,w10,s10,_⟩
  obtain ⟨w11,s11⟩:=W.frame1 w6 w10 s10
  refine br ?_
  refine aH hp (λhp=>?_) λhp=>?_
  ·obtain ⟨w12,s12⟩:=w11.pp [] 2
   exact aP hp ⟨rfl,w12,(s0.trans (s1.trans (s3.trans (s6.trans (s11.trans s12))))),trivial⟩
  ·refine lI w11 1 ?_
   refine aH hp (λhp=>?_) λhp=>?_
   ·obtain ⟨w13,s13⟩:=w11.pp [] 2
    exact aP hp ⟨rfl,w13,(s0.trans (s1.trans (s3.trans (s6.trans (s11.trans s13))))),trivial⟩
   ·refine lI w11 1 ?_
    refine lI w11 1 ?_
    refine lSl w11 1 ?_
    obtain ⟨r14,e14,hp⟩:=ah hp
    refine aR (bF.P rfl ⟨w11,(cS.step (s1.trans (s3.trans (s6.trans s11))))⟩ e14) ?_
    rintro _ H15 ⟨rfl,w15,s15,_⟩
    refine br ?_
    refine aH hp (λhp=>?_) λhp=>?_
    ·obtain ⟨w16,s16⟩:=w15.pp [] 2
     exact aP hp ⟨rfl,w16,(s0.trans (s1.trans (s3.trans (s6.trans (s11.trans (s15.trans s16)))))),trivial⟩
    ·refine lI w15 1 ?_
     refine lI w15 1 ?_
     refine lSl w15 1 ?_
     obtain ⟨r17,e17,hp⟩:=ah hp
     refine aR (bE.P rfl ⟨w15,(cS.step (s1.trans (s3.trans (s6.trans (s11.trans s15)))))⟩ e17) ?_
     rintro _ H18 ⟨rfl,w18,s18,_⟩
     refine br ?_
     obtain ⟨w19,s19⟩:=w18.pp [] 2
     exact aP hp ⟨rfl,w19,(s0.trans (s1.trans (s3.trans (s6.trans (s11.trans (s15.trans (s18.trans s19))))))),trivial⟩
def eY.Q (H0:Hp) (Ri R0:asy) (fP:ON) (fg aa:Nat) (fQ:Cap) (dy:asw) (r:as7) (v:AV) (H':Hp):Prop:=v=(.i r.1)/\Out H0 Ri H' (Rs.blk aa [.sl ⟨fP,fg,fQ⟩,.i (r.2.1),.int .u64 (r.2.2)]::R0) λR=>True
def eY.pj1 (F:Nat)  (lK:Int) (sX:Int) (az:Int) (aW:Int):Option (Int×Int×Int):=(if lK=0 then none else (some ((Int.tmod sX lK),az,aW)))
theorem eY.j1_P {eU dz aO eV cR}  {lK sX az aW} (kI:dz=cR.length) (h0:Out H0 Ri H (Rs.blk aO [.sl ⟨eU,dz,eV⟩,.i az,.int .u64 aW]::R0) λR=>ROs (fz .u8) H R ⟨eU,dz,eV⟩ cR) {r:as7} (hp:eY.pj1 F  lK sX az aW=some r):Rt (eY.j1 F   lK sX H) (eY.Q H0 Ri R0 eU dz aO eV cR r):=by
 obtain ⟨w0,s0,jY⟩:=h0
 subst kI
 unfold eY.pj1 at hp
 unfold eY.j1
 obtain ⟨g1,hp⟩:=nV hp
 refine nW g1 ?_
 exact aP hp ⟨rfl,w0,s0,trivial⟩
def eY.p (F:Nat) (dy:asw) (az:Int) (aW:Int) (ai:Int):Option (Int×Int×Int):=(bif (decide (az<(dy.length:Int))) then ((ix dy az).bind λn2=>eY.pj1 F ai (wrap .i64 ((wrap .i64 (Go.bits .and .u64 (Int.fdiv (IntKind.u64.wrap ((IntKind.u64.wrap (aW * 6364136223846793005))+1442695040888963407)) (2 ^ (min (33:Int).toNat (IntKind.u64).bits))) 16777215))+(wrap .i64 (gt dy n2)))) (wrap .i64 (az+1)) (IntKind.u64.wrap ((IntKind.u64.wrap (aW * 6364136223846793005))+1442695040888963407))) else (eY.pj1 F ai (wrap .i64 (Go.bits .and .u64 (Int.fdiv (IntKind.u64.wrap ((IntKind.u64.wrap (aW * 6364136223846793005))+1442695040888963407)) (2 ^ (min (33:Int).toNat (IntKind.u64).bits))) 16777215)) az (IntKind.u64.wrap ((IntKind.u64.wrap (aW * 6364136223846793005))+1442695040888963407))))
theorem eY.P {fP fg aa fQ dy az aW ai} (rn:fg=dy.length) (h0:Inn H (Rs.blk aa [.sl ⟨fP,fg,fQ⟩,.i az,.int .u64 aW]::R0) λR=>ROs (fz .u8) H R ⟨fP,fg,fQ⟩ dy) {r:as7} (hp:eY.p F dy az aW ai=some r):Rt (eY.tw F aa 0 ai H) (eY.Q H (Rs.blk aa [.sl ⟨fP,fg,fQ⟩,.i az,.int .u64 aW]::R0) R0 fP fg aa fQ dy r):=by
 obtain ⟨w0,iY⟩:=h0
 subst rn
 unfold eY.p at hp
 unfold eY.tw eY.twX
 have s0:=w0.rf
 refine lI w0 0 ?_
 refine aw w0 0 λH1 w1 s1=>?_
 refine lI w1 0 ?_
 refine lI w1 0 ?_
 refine lSl w1 0 ?_
 refine aH hp (λhp=>?_) λhp=>?_
 ·refine lSl w1 0 ?_
  refine lI w1 0 ?_
  obtain ⟨n2,g2,hp⟩:=ah hp
  obtain ⟨p2,q2,i2,h2,j2⟩:=ROs.ixr (iY.step s1) rfl g2
  refine aA i2 ?_
  have h2:_=[_]:=h2
  subst h2
  refine aA (cy (j2 0 _ rfl)) ?_
  refine lI w1 0 ?_
  refine aw w1 0 λH3 w3 s3=>?_
  exact eY.j1_P rfl ⟨w3,(s0.trans (s1.trans s3)),(iY.step (s1.trans s3))⟩ hp
 ·exact eY.j1_P rfl ⟨w1,(s0.trans s1),(iY.step s1)⟩ hp
def bO.Q (H0:Hp) (Ri R0:asy) (fP:ON) (fg aa:Nat) (fQ:Cap) (dy:asw) (r:asZ) (v:AV) (H':Hp):Prop:=∃ o0a:ON,∃ o0n:Nat,∃ o0c:Cap,∃ o0k:List AV,v=(.sl ⟨o0a,o0n,o0c⟩)/\o0n=(r.1).length/\Out H0 Ri H' (Rs.own ⟨o0a,o0n,o0c⟩ eI.z o0k::Rs.blk aa [.sl ⟨fP,fg,fQ⟩,.i (r.2.1),.int .u64 (r.2.2)]::R0) λR=>CR eI H' R o0k (r.1)
def bO.S29 (H0:Hp) (Ri R0:asy) (eU:ON) (dz aO:Nat) (eV:Cap) (cR:asw) (C:Nat->Nat->Int->Sl->Int->Hp->OA) (pC:List Int->Int->Int->Int->List Int->Int->Option (List Int×Int×Int)):Prop:=∀ {az aW np lL R_ Jz Sa vA Sb},∀ {H:Hp},dz=cR.length->Jz=vA.length->(Out H0 Ri H (Rs.blk aO [.sl ⟨eU,dz,eV⟩,.i az,.int .u64 aW]::Rs.own ⟨R_,Jz,Sa⟩ eI.z Sb::R0) λR=>ROs (fz .u8) H R ⟨eU,dz,eV⟩ cR/\CR eI H R Sb vA)->∀ {r:asZ},pC cR az aW np vA lL=some r->Rt (C aO 0 np ⟨R_,Jz,Sa⟩ lL H) (bO.Q H0 Ri R0 eU dz aO eV cR r)
def bO.S61 (H0:Hp) (Ri R0:asy) (eU:ON) (dz aO:Nat) (eV:Cap) (cR:asw) (C:atQ) (pC:List Int->Int->Int->List Int->Int->Option (List Int×Int×Int)):Prop:=∀ {az aW kC Sd JA Se nP Sf},∀ {H:Hp},dz=cR.length->JA=nP.length->(Out H0 Ri H (Rs.blk aO [.sl ⟨eU,dz,eV⟩,.i az,.int .u64 aW]::Rs.own ⟨Sd,JA,Se⟩ eI.z Sf::R0) λR=>ROs (fz .u8) H R ⟨eU,dz,eV⟩ cR/\CR eI H R Sf nP)->∀ {r:asZ},pC cR az aW nP kC=some r->Rt (C aO 0 ⟨Sd,JA,Se⟩ kC H) (bO.Q H0 Ri R0 eU dz aO eV cR r)
def bO.pl61 (F:Nat) :Nat->List Int->Int->Int->List Int->Int->Option (List Int×Int×Int)
 | 0,_,_,_,_,_=>none
 | k+1,cR,az,aW,nP,kC=>(bif (decide (kC>0)) then ((eY.p F cR az aW (wrap .i64 (kC+1))).bind λr1=>(ix nP kC).bind λn3=>(ix nP r1.1).bind λn4=>(ix nP kC).bind λn5=>(some (nP.set n5 (gt nP n4))).bind λl6=>(ix l6 r1.1).bind λn8=>(some (l6.set n8 (gt nP n3))).bind λl9=>bO.pl61 F k cR r1.2.1 r1.2.2 l9 (wrap .i64 (kC - 1))) else (some (nP,az,aW)))
theorem bO.l61_P {eU dz aO eV cR} :∀ k,bO.S61 H0 Ri R0 eU dz aO eV cR (bO.l61 F (eY.tw F)  k) (bO.pl61 F  k):=by
 intro k
 induction k with
 | zero=>unfold bO.S61;intros;rename_i hp;cases hp
 | succ k ih=>
  intro az aW kC Sd JA Se nP Sf H kI amx h0 r hp
  obtain ⟨w0,s0,jY,Dy⟩:=h0
  subst kI
  subst amx
  unfold bO.pl61 at hp
  unfold bO.l61
  refine aH hp (λhp=>?_) λhp=>?_
  ·obtain ⟨r1,e1,hp⟩:=ah hp
   refine aR (eY.P rfl ⟨w0,jY⟩ e1) ?_
   rintro _ H2 ⟨rfl,w2,s2,_⟩
   refine br ?_
   obtain ⟨n3,g3,hp⟩:=ah hp
   obtain ⟨p3,q3,i3,h3,j3⟩:=W.ixo (E:=eI) w2 (i:=1) rfl rfl (Dy.step s2) g3
   refine aA i3 ?_
   have h3:_=[_]:=h3
   subst h3
   refine aA (cy (j3 0 _ rfl)) ?_
   obtain ⟨n4,g4,hp⟩:=ah hp
   obtain ⟨p4,q4,i4,h4,j4⟩:=W.ixo (E:=eI) w2 (i:=1) rfl rfl (Dy.step s2) g4
   refine aA i4 ?_
   have h4:_=[_]:=h4
   subst h4
   refine aA (cy (j4 0 _ rfl)) ?_
   obtain ⟨n5,g5,hp⟩:=ah hp
   obtain ⟨p5,q5,i5,h5,j5⟩:=W.ixo (E:=eI) w2 (i:=1) rfl rfl (Dy.step s2) g5
   refine aA i5 ?_
   obtain ⟨l6,e6,hp⟩:=ah hp
   refine gD eI w2 (i:=1) (j:=0) (p:=p5) rfl rfl (Dy.step s2) g5 i5 e6 rfl rfl (λ_ h=>by have h:_=[_]:=h;subst h;exact rfl) λH7 k7 w7 s7 c7=>?_
   obtain ⟨n8,g8,hp⟩:=ah hp
   obtain ⟨p8,q8,i8,h8,j8⟩:=W.ixo (E:=eI) w7 (i:=1) rfl rfl c7 g8
   refine aA i8 ?_
   obtain ⟨l9,e9,hp⟩:=ah hp
   refine gD eI w7 (i:=1) (j:=0) (p:=p8) rfl rfl c7 g8 i8 e9 rfl rfl (λ_ h=>by have h:_=[_]:=h;subst h;exact rfl) λH10 k10 w10 s10 c10=>?_
   exact ih rfl ((eQ e6).symm.trans (eQ e9).symm) ⟨w10,(s0.trans (s2.trans (s7.trans s10))),(jY.step (s2.trans (s7.trans s10))),c10⟩ hp
  ·obtain ⟨w11,s11⟩:=w0.pp [1,0] 2
   exact aP hp ⟨_,_,_,_,rfl,rfl,w11,(s0.trans s11),(Dy.step s11)⟩
def bO.pj1 (F:Nat)  (cR:asw) (az:Int) (aW:Int) (lK:Int) (Dz:asw):Option (List Int×Int×Int):=bO.pl61 F F cR az aW Dz (wrap .i64 (lK - 1))
theorem bO.j1_P {eU dz aO eV cR}  {az aW lK abU Sh abV Dz abW} (kI:dz=cR.length) (amy:Sh=Dz.length) (h0:Out H0 Ri H (Rs.blk aO [.sl ⟨eU,dz,eV⟩,.i az,.int .u64 aW]::Rs.own ⟨abU,Sh,abV⟩ eI.z abW::R0) λR=>ROs (fz .u8) H R ⟨eU,dz,eV⟩ cR/\CR eI H R abW Dz) {r:asZ} (hp:bO.pj1 F  cR az aW lK Dz=some r):Rt (bO.j1 F (eY.tw F)  aO 0 lK ⟨abU,Sh,abV⟩ H) (bO.Q H0 Ri R0 eU dz aO eV cR r):=by
 obtain ⟨w0,s0,jY,amz⟩:=h0
 subst kI
 subst amy
 unfold bO.pj1 at hp
 unfold bO.j1
 exact bO.l61_P F rfl rfl ⟨w0,s0,jY,amz⟩ hp
def bO.pl29 (F:Nat) :Nat->List Int->Int->Int->Int->List Int->Int->Option (List Int×Int×Int)
 | 0,_,_,_,_,_,_=>none
 | k+1,cR,az,aW,np,vA,lL=>(bif (decide (lL<np)) then ((apn vA ([lL]:List Int)).bind λl2=>bO.pl29 F k cR az aW np l2 (wrap .i64 (lL+1))) else (bO.pj1 F cR az aW np vA))
theorem bO.l29_P {eU dz aO eV cR} :∀ k,bO.S29 H0 Ri R0 eU dz aO eV cR (bO.l29 F (eY.tw F)  k) (bO.pl29 F  k):=by
 intro k
 induction k with
 | zero=>unfold bO.S29;intros;rename_i hp;cases hp
 | succ k ih=>
  intro az aW np lL R_ Jz Sa vA Sb H kI amA h0 r hp
  obtain ⟨w0,s0,jY,abX⟩:=h0
  subst kI
  subst amA
  unfold bO.pl29 at hp
  unfold bO.l29
  refine aH hp (λhp=>?_) λhp=>?_
  ·refine k_ eI w0 (n:=1) (l:=([lL]:List Int)) rfl (CR.cons1 rfl CR.empty) rfl λH1 w1 s1 c1=>?_
   refine aA (w1.rowo (i:=0) rfl) ?_
   obtain ⟨l2,e2,hp⟩:=ah hp
   refine qk eI w1 (i:=2) rfl rfl (abX.step s1) c1 (show 1=List.length ([lL]:List Int) from rfl) rfl e2 λa3 d3 H3 w3 s3 c3 x3=>?_
   obtain ⟨w4,s4⟩:=w3.pp [1,2] 3
   exact ih rfl rfl ⟨w4,(s0.trans (s1.trans (s3.trans s4))),(jY.step (s1.trans (s3.trans s4))),(c3.step s4)⟩ hp
  ·exact bO.j1_P rfl rfl ⟨w0,s0,jY,abX⟩ hp
def bO.p (F:Nat) (dy:asw) (az:Int) (aW:Int) (ai:Int):Option (List Int×Int×Int):=bO.pl29 F F dy az aW ai ([]:List Int) 0
theorem bO.P {fP fg aa fQ dy az aW ai} (rn:fg=dy.length) (h0:Inn H (Rs.blk aa [.sl ⟨fP,fg,fQ⟩,.i az,.int .u64 aW]::R0) λR=>ROs (fz .u8) H R ⟨fP,fg,fQ⟩ dy) {r:asZ} (hp:bO.p F dy az aW ai=some r):Rt (bO.tw F aa 0 ai H) (bO.Q H (Rs.blk aa [.sl ⟨fP,fg,fQ⟩,.i az,.int .u64 aW]::R0) R0 fP fg aa fQ dy r):=by
 obtain ⟨w0,iY⟩:=h0
 subst rn
 unfold bO.p at hp
 unfold bO.tw bO.twX
 have s0:=w0.rf
 refine k_ eI w0 (n:=0) (l:=([]:List Int)) rfl CR.empty rfl λH1 w1 s1 c1=>?_
 obtain ⟨w2,s2⟩:=w1.pp [1,0] 2
 exact bO.l29_P F rfl (show 0=List.length ([]:List Int) from rfl) ⟨w2,(s0.trans (s1.trans s2)),(iY.step (s1.trans s2)),(c1.step s2)⟩ hp
def cK.Q (H0:Hp) (Ri R0:asy)  (r:asK) (v:AV) (H':Hp):Prop:=∃ o2a:ON,∃ o2n:Nat,∃ o2c:Cap,∃ o2k:List AV,v=(.agg [(.i r.1),(.i r.2.1),(.sl ⟨o2a,o2n,o2c⟩)])/\o2n=(r.2.2).length/\Out H0 Ri H' (Rs.own ⟨o2a,o2n,o2c⟩ eI.z o2k::R0) λR=>CR eI H' R o2k (r.2.2)
def cK.S29 (H0:Hp) (Ri R0:asy)  (C:asN) (pC:Int->Int->List Int->Int->Int->Option (Int×Int×List Int)):Prop:=∀ {abY abZ rG qK pz lM Si Sj JB eZ JC jJ Sk Sm So nQ Sp Sq},∀ {H:Hp},JB=So.length->JC=nQ.length->(Out H0 Ri H (Rs.own ⟨Si,JB,Sk⟩ eI.z Sp::Rs.blk eZ [.i abY,.i abZ,.sl ⟨Si,JB,Sk⟩]::Rs.own ⟨Sj,JC,Sm⟩ eI.z Sq::Rs.blk jJ [.i rG,.i qK,.sl ⟨Sj,JC,Sm⟩]::R0) λR=>CR eI H R Sp So/\CR eI H R Sq nQ)->∀ {r:asK},pC rG qK nQ pz lM=some r->Rt (C eZ 0 jJ 0 pz lM H) (cK.Q H0 Ri R0  r)
def cK.pl29 (F:Nat) :Nat->Int->Int->List Int->Int->Int->Option (Int×Int×List Int)
 | 0,_,_,_,_,_=>none
 | k+1,rG,qK,nQ,pz,lM=>(bif (decide (lM<pz)) then ((ix nQ (wrap .i64 ((wrap .i64 (lM * qK))+lM))).bind λn2=>(some (nQ.set n2 1)).bind λl3=>cK.pl29 F k rG qK l3 pz (wrap .i64 (lM+1))) else (some (rG,qK,nQ)))
theorem cK.l29_P  :∀ k,cK.S29 H0 Ri R0  (cK.l29 F (cO.tw F) (bf.tw F)  k) (cK.pl29 F  k):=by
 intro k
 induction k with
 | zero=>unfold cK.S29;intros;rename_i hp;cases hp
 | succ k ih=>
  intro abY abZ rG qK pz lM Si Sj JB eZ JC jJ Sk Sm So nQ Sp Sq H amB amC h0 r hp
  obtain ⟨w0,s0,amD,Sr⟩:=h0
  subst amB
  subst amC
  unfold cK.pl29 at hp
  unfold cK.l29
  refine aH hp (λhp=>?_) λhp=>?_
  ·refine lI w0 3 ?_
   refine lI w0 3 ?_
   refine lSl w0 3 ?_
   refine bf.inl ?_
   refine bQ w0 λH1 w1 s1=>?_
   refine lSl w1 0 ?_
   refine lI w1 0 ?_
   obtain ⟨n2,g2,hp⟩:=ah hp
   obtain ⟨p2,q2,i2,h2,j2⟩:=W.ixo (E:=eI) w1 (i:=3) rfl rfl (Sr.step s1) g2
   refine aA i2 ?_
   refine ⟨_,_,rfl,?_⟩
   refine br ?_
   obtain ⟨l3,e3,hp⟩:=ah hp
   refine gD eI w1 (i:=3) (j:=0) (p:=p2) rfl rfl (Sr.step s1) g2 i2 e3 rfl rfl (λ_ h=>by have h:_=[_]:=h;subst h;exact rfl) λH4 k4 w4 s4 c4=>?_
   obtain ⟨w5,s5⟩:=w4.pp [1,2,3,4] 5
   exact ih rfl ((eQ e3).symm) ⟨w5,(s0.trans (s1.trans (s4.trans s5))),(amD.step (s1.trans (s4.trans s5))),(c4.step s5)⟩ hp
  ·refine lI w0 3 ?_
   refine lI w0 3 ?_
   refine lSl w0 3 ?_
   refine aw w0 1 λH6 w6 s6=>?_
   refine aw w6 1 λH7 w7 s7=>?_
   refine aw w7 1 λH8 w8 s8=>?_
   refine lI w8 1 ?_
   refine lI w8 1 ?_
   refine lSl w8 1 ?_
   obtain ⟨w9,s9⟩:=w8.pp [2] 4
   exact aP hp ⟨_,_,_,_,rfl,rfl,w9,(s0.trans (s6.trans (s7.trans (s8.trans s9)))),(Sr.step (s6.trans (s7.trans (s8.trans s9))))⟩
def cK.p (F:Nat) (aa:Int):Option (Int×Int×List Int):=(cO.p F aa aa).bind λr2=>cK.pl29 F F r2.1 r2.2.1 r2.2.2 aa 0
theorem cK.P {aa}  (h0:Inn H R0 λR=>True) {r:asK} (hp:cK.p F aa=some r):Rt (cK.tw F aa H) (cK.Q H R0 R0  r):=by
 obtain ⟨w0,_⟩:=h0
 unfold cK.p at hp
 unfold cK.tw cK.twX
 have s0:=w0.rf
 refine bQ w0 λH1 w1 s1=>?_
 obtain ⟨r2,e2,hp⟩:=ah hp
 refine aR (cO.P ⟨w1,trivial⟩ e2) ?_
 rintro _ H3 ⟨o2a_3,o2n_3,o2k_3,rfl,rfl,w3,s3,f3_0⟩
 refine br (br (br (br (br (br (br ?_))))))
 refine bQ w3 λH4 w4 s4=>?_
 refine aw w4 0 λH5 w5 s5=>?_
 refine aw w5 0 λH6 w6 s6=>?_
 refine aw w6 0 λH7 w7 s7=>?_
 obtain ⟨w8,s8⟩:=w7.nilS eI.z (by decide)
 obtain ⟨w9,s9⟩:=w8.pp [0,3,2,1] 4
 exact cK.l29_P F rfl rfl ⟨w9,(s0.trans (s1.trans (s3.trans (s4.trans (s5.trans (s6.trans (s7.trans (s8.trans s9)))))))),((CR.empty:CR eI _ _ [] []).step s9),(f3_0.step (s4.trans (s5.trans (s6.trans (s7.trans (s8.trans s9))))))⟩ hp
def jw.Q (H0:Hp) (Ri R0:asy)  (r:asw) (v:AV) (H':Hp):Prop:=∃ o0a:ON,∃ o0n:Nat,∃ o0c:Cap,∃ o0k:List AV,v=(.sl ⟨o0a,o0n,o0c⟩)/\o0n=(r).length/\Out H0 Ri H' (Rs.own ⟨o0a,o0n,o0c⟩ eI.z o0k::R0) λR=>CR eI H' R o0k (r)
def jw.p (F:Nat) (aY:asw):Option (List Int):=apn ([]:List Int) aY
theorem jw.P {dN cQ dO aY} (gz:cQ=aY.length) (h0:Inn H R0 λR=>ROs eI H R ⟨dN,cQ,dO⟩ aY) {r:asw} (hp:jw.p F aY=some r):Rt (jw.tw F ⟨dN,cQ,dO⟩ H) (jw.Q H R0 R0  r):=by
 obtain ⟨w0,f0⟩:=h0
 subst gz
 unfold jw.p at hp
 unfold jw.tw jw.twX
 have s0:=w0.rf
 refine Lr (λhb=>?_) (λhb=>?_)
 ·obtain ⟨w1,s1⟩:=w0.nilS eI.z (by decide)
  obtain rfl:=ROs.none_nil f0 (Option.isNone_iff_eq_none.1 hb)
  obtain rfl:r=[]:=(aeQ hp).2
  exact ⟨_,_,rfl,none,0,.ex 0,[],rfl,rfl,w1,s0.trans s1,CR.empty⟩
 ·refine k_ eI w0 (n:=0) (l:=[]) rfl CR.empty rfl λH2 w2 s2 c2=>?_
  obtain ⟨xs,hx,cx⟩:=(f0.step s2).row rfl
  refine aA hx ?_
  refine qk eI w2 (i:=0) rfl rfl c2 cx rfl rfl hp λa d H3 w3 s3 c3 _=>?_
  dsimp only [List.set] at w3 s3 c3
  exact ⟨_,_,rfl,_,_,_,_,rfl,rfl,w3,s0.trans (s2.trans s3),c3⟩
def ib.Q (H0:Hp) (Ri R0:asy)  (r:asK) (v:AV) (H':Hp):Prop:=∃ o2a:ON,∃ o2n:Nat,∃ o2c:Cap,∃ o2k:List AV,v=(.agg [(.i r.1),(.i r.2.1),(.sl ⟨o2a,o2n,o2c⟩)])/\o2n=(r.2.2).length/\Out H0 Ri H' (Rs.own ⟨o2a,o2n,o2c⟩ eI.z o2k::R0) λR=>CR eI H' R o2k (r.2.2)
def ib.p (F:Nat) (aa:Int) (ac:Int) (ar:asw):Option (Int×Int×List Int):=(jw.p F ar).bind λr3=>some (aa,ac,r3)
theorem ib.P {aa ac bU bu bV ar} (dF:bu=ar.length) (h0:Inn H R0 λR=>ROs eI H R ⟨bU,bu,bV⟩ ar) {r:asK} (hp:ib.p F aa ac ar=some r):Rt (ib.tw F aa ac ⟨bU,bu,bV⟩ H) (ib.Q H R0 R0  r):=by
 obtain ⟨w0,cS⟩:=h0
 subst dF
 unfold ib.p at hp
 unfold ib.tw ib.twX
 have s0:=w0.rf
 refine bQ w0 λH1 w1 s1=>?_
 refine bQ w1 λH2 w2 s2=>?_
 refine lSl w2 1 ?_
 obtain ⟨r3,e3,hp⟩:=ah hp
 refine aR (jw.P rfl ⟨w2,(cS.step (s1.trans s2))⟩ e3) ?_
 rintro _ H4 ⟨o0a_4,o0n_4,o0c_4,o0k_4,rfl,rfl,w4,s4,f4_0⟩
 refine br ?_
 refine aw w4 2 λH5 w5 s5=>?_
 refine lI w5 2 ?_
 refine lI w5 2 ?_
 refine lSl w5 2 ?_
 refine aw w5 1 λH6 w6 s6=>?_
 refine aw w6 1 λH7 w7 s7=>?_
 refine aw w7 1 λH8 w8 s8=>?_
 refine lI w8 1 ?_
 refine lI w8 1 ?_
 refine lSl w8 1 ?_
 obtain ⟨w9,s9⟩:=w8.pp [0] 3
 exact aP hp ⟨_,_,_,_,rfl,rfl,w9,(s0.trans (s1.trans (s2.trans (s4.trans (s5.trans (s6.trans (s7.trans (s8.trans s9)))))))),(f4_0.step (s5.trans (s6.trans (s7.trans (s8.trans s9)))))⟩
def aN.Q (H0:Hp) (Ri R0:asy) (ck az cb bX bP bL bY bZ cL b_:Int) (aW fb fc fd:Sl) (cM:ON) (ce aa:Nat) (cN:Cap) (cP:asw) (aB:Bool) (r:as9) (v:AV) (H':Hp):Prop:=v=(.tup [(.i r.1),(.i r.2.1),(.bool r.2.2)])/\Out H0 Ri H' (Rs.blk aa [.i ck,.i az,.sl aW,.i cb,.i bX,.sl fb,.i bP,.i bL,.sl ⟨cM,ce,cN⟩,.i bY,.i bZ,.sl fc,.i cL,.i b_,.sl fd,.bool aB]::R0) λR=>True
def aN.S29 (H0:Hp) (Ri R0:asy) (aQ ay bj aE aF aD aI aJ bR aK:Int) (dH dI dJ dK:Sl) (bo:ON) (aS aO:Nat) (bp:Cap) (bN:asw) (dQ:Bool) (C:atd) (pC:atn):Prop:=∀ {dE du iL AT DA pB pA sY},∀ {H:Hp},aS=bN.length->(Out H0 Ri H (Rs.blk sY [.i AT,.i DA,.sl ⟨bo,aS,bp⟩]::Rs.blk aO [.i aQ,.i ay,.sl dH,.i bj,.i aE,.sl dI,.i aF,.i aD,.sl ⟨bo,aS,bp⟩,.i aI,.i aJ,.sl dJ,.i bR,.i aK,.sl dK,.bool dQ]::R0) λR=>ROs eI H R ⟨bo,aS,bp⟩ bN)->∀ {r:as9},pC dE du iL pA AT DA bN pB=some r->Rt (C dE du iL pA sY 0 pB H) (aN.Q H0 Ri R0 aQ ay bj aE aF aD aI aJ bR aK dH dI dJ dK bo aS aO bp bN dQ r)
def aN.S469 (H0:Hp) (Ri R0:asy) (aQ ay bj aE aF aD aI aJ bR aK:Int) (dH dI dJ dK:Sl) (bo:ON) (aS aO:Nat) (bp:Cap) (bN:asw) (dQ:Bool) (C:atE) (pC:atI):Prop:=∀ {kD lN lO rH nR iV iW lP ke},∀ {H:Hp},aS=bN.length->(Out H0 Ri H (Rs.blk ke [.i rH,.i nR,.sl ⟨bo,aS,bp⟩]::Rs.blk aO [.i aQ,.i ay,.sl dH,.i bj,.i aE,.sl dI,.i aF,.i aD,.sl ⟨bo,aS,bp⟩,.i aI,.i aJ,.sl dJ,.i bR,.i aK,.sl dK,.bool dQ]::R0) λR=>ROs eI H R ⟨bo,aS,bp⟩ bN)->∀ {r:as9},pC kD lN lO lP rH nR bN iV iW=some r->Rt (C kD lN lO lP ke 0 iV iW H) (aN.Q H0 Ri R0 aQ ay bj aE aF aD aI aJ bR aK dH dI dJ dK bo aS aO bp bN dQ r)
def aN.pj9 (F:Nat) (nv:atI) (zb:Int) (zd:Int) (zf:Int) (zg:Bool) (JD:Int) (JE:Int) (bN:asw) (zh:Int) (zi:Int):Option (Int×Int×Bool):=nv zb zd zf zg JD JE bN zh (wrap .i64 (zi+1))
theorem aN.j9_P {aQ ay bj aE aF aD aI aJ bR aK dH dI dJ dK bo aS aO bp bN dQ} {C469_:atE} {nv:atI} (hC469:aN.S469 H0 Ri R0 aQ ay bj aE aF aD aI aJ bR aK dH dI dJ dK bo aS aO bp bN dQ C469_ nv) {zb zd zf JD JE zh zi zg Gj} (kO:aS=bN.length) (h0:Out H0 Ri H (Rs.blk Gj [.i JD,.i JE,.sl ⟨bo,aS,bp⟩]::Rs.blk aO [.i aQ,.i ay,.sl dH,.i bj,.i aE,.sl dI,.i aF,.i aD,.sl ⟨bo,aS,bp⟩,.i aI,.i aJ,.sl dJ,.i bR,.i aK,.sl dK,.bool dQ]::R0) λR=>ROs eI H R ⟨bo,aS,bp⟩ bN) {r:as9} (hp:aN.pj9 F nv zb zd zf zg JD JE bN zh zi=some r):Rt (aN.j9 F (bf.tw F) (cW.tw F) C469_ zb zd zf zg Gj 0 zh zi H) (aN.Q H0 Ri R0 aQ ay bj aE aF aD aI aJ bR aK dH dI dJ dK bo aS aO bp bN dQ r):=by
 obtain ⟨w0,s0,ip⟩:=h0
 subst kO
 unfold aN.pj9 at hp
 unfold aN.j9
 exact hC469 rfl ⟨w0,s0,ip⟩ hp
def aN.pj7 (F:Nat) (aU:atn) (yS:Int) (nq:Int) (yT:Int) (yU:Bool) (JF:Int) (JG:Int) (bN:asw) (yV:Int):Option (Int×Int×Bool):=aU yS nq yT yU JF JG bN (wrap .i64 (yV+1))
theorem aN.j7_P {aQ ay bj aE aF aD aI aJ bR aK dH dI dJ dK bo aS aO bp bN dQ} {C29_:atd} {aU:atn} (hC29:aN.S29 H0 Ri R0 aQ ay bj aE aF aD aI aJ bR aK dH dI dJ dK bo aS aO bp bN dQ C29_ aU) {yS nq yT JF JG yV yU Gh} (kO:aS=bN.length) (h0:Out H0 Ri H (Rs.blk Gh [.i JF,.i JG,.sl ⟨bo,aS,bp⟩]::Rs.blk aO [.i aQ,.i ay,.sl dH,.i bj,.i aE,.sl dI,.i aF,.i aD,.sl ⟨bo,aS,bp⟩,.i aI,.i aJ,.sl dJ,.i bR,.i aK,.sl dK,.bool dQ]::R0) λR=>ROs eI H R ⟨bo,aS,bp⟩ bN) {r:as9} (hp:aN.pj7 F aU yS nq yT yU JF JG bN yV=some r):Rt (aN.j7 F (bf.tw F) (cW.tw F) C29_ yS nq yT yU Gh 0 yV H) (aN.Q H0 Ri R0 aQ ay bj aE aF aD aI aJ bR aK dH dI dJ dK bo aS aO bp bN dQ r):=by
 obtain ⟨w0,s0,ip⟩:=h0
 subst kO
 unfold aN.pj7 at hp
 unfold aN.j7
 exact hC29 rfl ⟨w0,s0,ip⟩ hp
def aN.pj8 (F:Nat) (aU:atn) (yW:Int) (yX:Int) (yY:Int) (yZ:Bool) (JH:Int) (JI:Int) (bN:asw) (y_:Int):Option (Int×Int×Bool):=aN.pj7 F aU yW yX yY yZ JH JI bN y_
theorem aN.j8_P {aQ ay bj aE aF aD aI aJ bR aK dH dI dJ dK bo aS aO bp bN dQ} {C29_:atd} {aU:atn} (hC29:aN.S29 H0 Ri R0 aQ ay bj aE aF aD aI aJ bR aK dH dI dJ dK bo aS aO bp bN dQ C29_ aU) {yW yX yY JH JI y_ yZ Gi} (kO:aS=bN.length) (h0:Out H0 Ri H (Rs.blk Gi [.i JH,.i JI,.sl ⟨bo,aS,bp⟩]::Rs.blk aO [.i aQ,.i ay,.sl dH,.i bj,.i aE,.sl dI,.i aF,.i aD,.sl ⟨bo,aS,bp⟩,.i aI,.i aJ,.sl dJ,.i bR,.i aK,.sl dK,.bool dQ]::R0) λR=>ROs eI H R ⟨bo,aS,bp⟩ bN) {r:as9} (hp:aN.pj8 F aU yW yX yY yZ JH JI bN y_=some r):Rt (aN.j8 F (bf.tw F) (cW.tw F) C29_ yW yX yY yZ Gi 0 y_ H) (aN.Q H0 Ri R0 aQ ay bj aE aF aD aI aJ bR aK dH dI dJ dK bo aS aO bp bN dQ r):=by
 obtain ⟨w0,s0,ip⟩:=h0
 subst kO
 unfold aN.pj8 at hp
 unfold aN.j8
 exact aN.j7_P (@hC29) rfl ⟨w0,s0,ip⟩ hp
def aN.pl469 (F:Nat) (aU:atn):Nat->Int->Int->Int->Bool->Int->Int->List Int->Int->Int->Option (Int×Int×Bool)
 | 0,_,_,_,_,_,_,_,_,_=>none
 | k+1,kD,lN,lO,lP,rH,nR,bN,iV,iW=>(bif (decide (iW<nR)) then ((ix bN (wrap .i64 ((wrap .i64 (iV * nR))+iW))).bind λn2=>(cW.p F (gt bN n2)).bind λr3=>(bif (r3 != 0) then ((bif (!lP) then (aN.pl469 F aU k kD iV iW true rH nR bN iV (wrap .i64 (iW+1))) else ((ix bN (wrap .i64 ((wrap .i64 (lN * nR))+lO))).bind λn7=>(cW.p F (gt bN n7)).bind λr8=>(bif (decide (r3<r8)) then (aN.pj9 F (aN.pl469 F aU k) kD iV iW true rH nR bN iV iW) else (aN.pj9 F (aN.pl469 F aU k) kD lN lO lP rH nR bN iV iW))))) else (aN.pl469 F aU k kD lN lO lP rH nR bN iV (wrap .i64 (iW+1))))) else (aN.pj8 F aU kD lN lO lP rH nR bN iV))
theorem aN.l469_P {aQ ay bj aE aF aD aI aJ bR aK dH dI dJ dK bo aS aO bp bN dQ} {C29_:atd} {aU:atn} (hC29:aN.S29 H0 Ri R0 aQ ay bj aE aF aD aI aJ bR aK dH dI dJ dK bo aS aO bp bN dQ C29_ aU):∀ k,aN.S469 H0 Ri R0 aQ ay bj aE aF aD aI aJ bR aK dH dI dJ dK bo aS aO bp bN dQ (aN.l469 F (bf.tw F) (cW.tw F) C29_ k) (aN.pl469 F aU k):=by
 intro k
 induction k with
 | zero=>unfold aN.S469;intros;rename_i hp;cases hp
 | succ k ih=>
  intro kD lN lO rH nR iV iW lP ke H kO h0 r hp
  obtain ⟨w0,s0,ip⟩:=h0
  subst kO
  unfold aN.pl469 at hp
  unfold aN.l469
  refine lI w0 0 ?_
  refine aH hp (λhp=>?_) λhp=>?_
  ·refine lI w0 0 ?_
   refine lI w0 0 ?_
   refine lSl w0 0 ?_
   refine bf.inl ?_
   refine bQ w0 λH1 w1 s1=>?_
   refine lSl w1 0 ?_
   refine lI w1 0 ?_
   obtain ⟨n2,g2,hp⟩:=ah hp
   obtain ⟨p2,q2,i2,h2,j2⟩:=ROs.ixr (ip.step s1) rfl g2
   refine aA i2 ?_
   refine ⟨_,_,rfl,?_⟩
   refine br ?_
   have h2:_=[_]:=h2
   subst h2
   refine aA (cy (j2 0 _ rfl)) ?_
   obtain ⟨r3,e3,hp⟩:=ah hp
   refine aR (cW.P ⟨w1,trivial⟩ e3) ?_
   rintro _ H4 ⟨rfl,w4,s4,_⟩
   refine br ?_
   refine aH hp (λhp=>?_) λhp=>?_
   ·refine aH hp (λhp=>?_) λhp=>?_
    ·obtain ⟨w5,s5⟩:=w4.pp [1,2] 3
     exact ih rfl ⟨w5,(s0.trans (s1.trans (s4.trans s5))),(ip.step (s1.trans (s4.trans s5)))⟩ hp
    ·refine lI w4 1 ?_
     refine lI w4 1 ?_
     refine lSl w4 1 ?_
     refine bf.inl ?_
     refine bQ w4 λH6 w6 s6=>?_
     refine lSl w6 0 ?_
     refine lI w6 0 ?_
     obtain ⟨n7,g7,hp⟩:=ah hp
     obtain ⟨p7,q7,i7,h7,j7⟩:=ROs.ixr (ip.step (s1.trans (s4.trans s6))) rfl g7
     refine aA i7 ?_
     refine ⟨_,_,rfl,?_⟩
     refine br ?_
     have h7:_=[_]:=h7
     subst h7
     refine aA (cy (j7 0 _ rfl)) ?_
     obtain ⟨r8,e8,hp⟩:=ah hp
     refine aR (cW.P ⟨w6,trivial⟩ e8) ?_
     rintro _ H9 ⟨rfl,w9,s9,_⟩
     refine br ?_
     refine aH hp (λhp=>?_) λhp=>?_
     ·obtain ⟨w10,s10⟩:=w9.pp [2,3] 4
      exact aN.j9_P (@ih) rfl ⟨w10,(s0.trans (s1.trans (s4.trans (s6.trans (s9.trans s10))))),(ip.step (s1.trans (s4.trans (s6.trans (s9.trans s10)))))⟩ hp
     ·obtain ⟨w11,s11⟩:=w9.pp [2,3] 4
      exact aN.j9_P (@ih) rfl ⟨w11,(s0.trans (s1.trans (s4.trans (s6.trans (s9.trans s11))))),(ip.step (s1.trans (s4.trans (s6.trans (s9.trans s11)))))⟩ hp
   ·obtain ⟨w12,s12⟩:=w4.pp [1,2] 3
    exact ih rfl ⟨w12,(s0.trans (s1.trans (s4.trans s12))),(ip.step (s1.trans (s4.trans s12)))⟩ hp
  ·exact aN.j8_P (@hC29) rfl ⟨w0,s0,ip⟩ hp
def aN.pj5 (F:Nat)  (yP:Int) (yQ:Int) (yR:Bool):Option (Int×Int×Bool):=some (yP,yQ,yR)
theorem aN.j5_P {aQ ay bj aE aF aD aI aJ bR aK dH dI dJ dK bo aS aO bp bN dQ}  {yP yQ yR} (kO:aS=bN.length) (h0:Out H0 Ri H (Rs.blk aO [.i aQ,.i ay,.sl dH,.i bj,.i aE,.sl dI,.i aF,.i aD,.sl ⟨bo,aS,bp⟩,.i aI,.i aJ,.sl dJ,.i bR,.i aK,.sl dK,.bool dQ]::R0) λR=>ROs eI H R ⟨bo,aS,bp⟩ bN) {r:as9} (hp:aN.pj5 F  yP yQ yR=some r):Rt (aN.j5 F (bf.tw F) (cW.tw F)  yP yQ yR H) (aN.Q H0 Ri R0 aQ ay bj aE aF aD aI aJ bR aK dH dI dJ dK bo aS aO bp bN dQ r):=by
 obtain ⟨w0,s0,ip⟩:=h0
 subst kO
 unfold aN.pj5 at hp
 unfold aN.j5
 exact aP hp ⟨rfl,w0,s0,trivial⟩
def aN.pl29 (F:Nat) :Nat->Int->Int->Int->Bool->Int->Int->List Int->Int->Option (Int×Int×Bool)
 | 0,_,_,_,_,_,_,_,_=>none
 | k+1,dE,du,iL,pA,AT,DA,bN,pB=>(bif (decide (pB<AT)) then (aN.pl469 F (aN.pl29 F k) F dE du iL pA AT DA bN pB dE) else (aN.pj5 F du iL pA))
theorem aN.l29_P {aQ ay bj aE aF aD aI aJ bR aK dH dI dJ dK bo aS aO bp bN dQ} :∀ k,aN.S29 H0 Ri R0 aQ ay bj aE aF aD aI aJ bR aK dH dI dJ dK bo aS aO bp bN dQ (aN.l29 F (bf.tw F) (cW.tw F)  k) (aN.pl29 F  k):=by
 intro k
 induction k with
 | zero=>unfold aN.S29;intros;rename_i hp;cases hp
 | succ k ih=>
  intro dE du iL AT DA pB pA sY H kO h0 r hp
  obtain ⟨w0,s0,ip⟩:=h0
  subst kO
  unfold aN.pl29 at hp
  unfold aN.l29
  refine lI w0 0 ?_
  refine aH hp (λhp=>?_) λhp=>?_
  ·exact aN.l469_P (@ih) F rfl ⟨w0,s0,ip⟩ hp
  ·obtain ⟨w1,s1⟩:=w0.pp [1] 2
   exact aN.j5_P rfl ⟨w1,(s0.trans s1),(ip.step s1)⟩ hp
def aN.p (F:Nat) (bP:Int) (bL:Int) (cP:asw) (ai:Int):Option (Int×Int×Bool):=aN.pl29 F F ai 0 0 false bP bL cP ai
theorem aN.P {ck az cb bX bP bL bY bZ cL b_ ai aW fb fc fd cM ce aa cN cP aB} (ma:ce=cP.length) (h0:Inn H (Rs.blk aa [.i ck,.i az,.sl aW,.i cb,.i bX,.sl fb,.i bP,.i bL,.sl ⟨cM,ce,cN⟩,.i bY,.i bZ,.sl fc,.i cL,.i b_,.sl fd,.bool aB]::R0) λR=>ROs eI H R ⟨cM,ce,cN⟩ cP) {r:as9} (hp:aN.p F bP bL cP ai=some r):Rt (aN.tw F aa 0 ai H) (aN.Q H (Rs.blk aa [.i ck,.i az,.sl aW,.i cb,.i bX,.sl fb,.i bP,.i bL,.sl ⟨cM,ce,cN⟩,.i bY,.i bZ,.sl fc,.i cL,.i b_,.sl fd,.bool aB]::R0) R0 ck az cb bX bP bL bY bZ cL b_ aW fb fc fd cM ce aa cN cP aB r):=by
 obtain ⟨w0,kP⟩:=h0
 subst ma
 unfold aN.p at hp
 unfold aN.tw aN.twX
 have s0:=w0.rf
 refine lI w0 0 ?_
 refine lI w0 0 ?_
 refine lSl w0 0 ?_
 refine bQ w0 λH1 w1 s1=>?_
 refine aw w1 0 λH2 w2 s2=>?_
 refine aw w2 0 λH3 w3 s3=>?_
 refine aw w3 0 λH4 w4 s4=>?_
 exact aN.l29_P F rfl ⟨w4,(s0.trans (s1.trans (s2.trans (s3.trans s4)))),(kP.step (s1.trans (s2.trans (s3.trans s4))))⟩ hp
def cA.Q (H0:Hp) (Ri R0:asy) (bU:ON) (bu:Nat) (bV:Cap) (kJ:Bool) (kK kL:asJ) (r:asw) (v:AV) (H':Hp):Prop:=∃ tL:List AV,v=(.tup [])/\bu=(r).length/\Out H0 Ri H' (Rs.ow kJ ⟨bU,bu,bV⟩ eI.z kK tL kL::R0) λR=>CR eI H' R tL (r)
def cA.S7 (H0:Hp) (Ri R0:asy) (kM:ON) (jN:Nat) (kN:Cap) (mD:Bool) (mE mF:asJ) (C:atR) (pC:atS):Prop:=∀ {dU fN DB mb iX gv iZ vB dD},∀ {H:Hp},jN=iZ.length->(Out H0 Ri H (Rs.ow mD ⟨kM,jN,kN⟩ eI.z mE vB mF::Rs.blk dD [.i DB,.i mb,.sl ⟨kM,jN,kN⟩]::R0) λR=>CR eI H R vB iZ)->∀ {r:asw},pC dU fN mb iZ iX gv=some r->Rt (C dU fN dD 0 iX gv H) (cA.Q H0 Ri R0 kM jN kN mD mE mF r)
def cA.pl7 (F:Nat) :Nat->Int->Int->Int->List Int->Int->Int->Option (List Int)
 | 0,_,_,_,_,_,_=>none
 | k+1,dU,fN,mb,iZ,iX,gv=>(bif (decide (gv<iX)) then ((ix iZ (wrap .i64 ((wrap .i64 (dU * mb))+gv))).bind λn2=>(ix iZ (wrap .i64 ((wrap .i64 (fN * mb))+gv))).bind λn5=>(some (iZ.set n2 (gt iZ n5))).bind λl7=>(some (l7.set n5 (gt iZ n2))).bind λl9=>cA.pl7 F k dU fN mb l9 iX (wrap .i64 (gv+1))) else (some iZ))
theorem cA.l7_P {kM jN kN mD mE mF} :∀ k,cA.S7 H0 Ri R0 kM jN kN mD mE mF (cA.l7 F (bf.tw F)  k) (cA.pl7 F  k):=by
 intro k
 induction k with
 | zero=>unfold cA.S7;intros;rename_i hp;cases hp
 | succ k ih=>
  intro dU fN DB mb iX gv iZ vB dD H Su h0 r hp
  obtain ⟨w0,s0,pS⟩:=h0
  subst Su
  unfold cA.pl7 at hp
  unfold cA.l7
  refine aH hp (λhp=>?_) λhp=>?_
  ·refine lI w0 1 ?_
   refine lI w0 1 ?_
   refine lSl w0 1 ?_
   refine bf.inl ?_
   refine bQ w0 λH1 w1 s1=>?_
   refine lSl w1 0 ?_
   refine lI w1 0 ?_
   obtain ⟨n2,g2,hp⟩:=ah hp
   obtain ⟨p2,q2,i2,h2,j2⟩:=W.ixo (E:=eI) w1 (i:=1) rfl rfl (pS.step s1) g2
   refine aA i2 ?_
   refine ⟨_,_,rfl,?_⟩
   refine br ?_
   refine fU (W.cons_of (Rn:=[_]) w0 w1 s1) ?_
   refine lI w1 2 ?_
   refine lI w1 2 ?_
   refine lSl w1 2 ?_
   refine bf.inl ?_
   refine bQ w1 λH4 w4 s4=>?_
   refine lSl w4 0 ?_
   refine lI w4 0 ?_
   obtain ⟨n5,g5,hp⟩:=ah hp
   obtain ⟨p5,q5,i5,h5,j5⟩:=W.ixo (E:=eI) w4 (i:=2) rfl rfl (pS.step (s1.trans s4)) g5
   refine aA i5 ?_
   refine ⟨_,_,rfl,?_⟩
   refine br ?_
   have h5:_=[_]:=h5
   subst h5
   refine aA (cy (j5 0 _ rfl)) ?_
   obtain ⟨p6,q6,i6,h6,j6⟩:=W.ixo (E:=eI) w4 (i:=2) rfl rfl (pS.step (s1.trans s4)) g2
   obtain rfl:=Option.some.inj (i2.symm.trans i6)
   have h6:_=[_]:=h6
   subst h6
   refine aA (cy (j6 0 _ rfl)) ?_
   obtain ⟨l7,e7,hp⟩:=ah hp
   refine gD eI w4 (i:=2) (j:=0) (p:=p2) rfl rfl (pS.step (s1.trans s4)) g2 i2 e7 rfl rfl (λ_ h=>by have h:_=[_]:=h;subst h;exact rfl) λH8 k8 w8 s8 c8=>?_
   obtain ⟨l9,e9,hp⟩:=ah hp
   refine gD eI w8 (i:=2) (j:=0) (p:=p5) rfl rfl c8 (tZ g5 (eQ e7)) i5 e9 rfl rfl (λ_ h=>by have h:_=[_]:=h;subst h;exact rfl) λH10 k10 w10 s10 c10=>?_
   obtain ⟨w11,s11⟩:=w10.pp [2,3] 4
   exact ih ((eQ e7).symm.trans (eQ e9).symm) ⟨w11,(s0.trans (s1.trans (s4.trans (s8.trans (s10.trans s11))))),(c10.step s11)⟩ hp
  ·obtain ⟨w12,s12⟩:=w0.pp [0] 2
   exact aP hp ⟨_,rfl,rfl,w12,(s0.trans s12),(pS.step s12)⟩
def cA.p (F:Nat) (ac:Int) (ar:asw) (au:Int) (ci:Int):Option (List Int):=cA.pl7 F F au ci ac ar ac 0
theorem cA.P {aa ac au ci bU bu bV ar kJ kK kL pR} (dF:bu=ar.length) (h0:Inn H (Rs.ow kJ ⟨bU,bu,bV⟩ eI.z kK pR kL::R0) λR=>CR eI H R pR ar) {r:asw} (hp:cA.p F ac ar au ci=some r):Rt (cA.tw F aa ac ⟨bU,bu,bV⟩ au ci H) (cA.Q H (Rs.ow kJ ⟨bU,bu,bV⟩ eI.z kK pR kL::R0) R0 bU bu bV kJ kK kL r):=by
 obtain ⟨w0,cS⟩:=h0
 subst dF
 unfold cA.p at hp
 unfold cA.tw cA.twX
 have s0:=w0.rf
 refine bQ w0 λH1 w1 s1=>?_
 refine lI w1 0 ?_
 obtain ⟨w2,s2⟩:=w1.pp [1,0] 2
 exact cA.l7_P F rfl ⟨w2,(s0.trans (s1.trans s2)),(cS.step (s1.trans s2))⟩ hp
def cB.Q (H0:Hp) (Ri R0:asy) (bU:ON) (bu:Nat) (bV:Cap) (kJ:Bool) (kK kL:asJ) (r:asw) (v:AV) (H':Hp):Prop:=∃ tL:List AV,v=(.tup [])/\bu=(r).length/\Out H0 Ri H' (Rs.ow kJ ⟨bU,bu,bV⟩ eI.z kK tL kL::R0) λR=>CR eI H' R tL (r)
def cB.S7 (H0:Hp) (Ri R0:asy) (kM:ON) (jN:Nat) (kN:Cap) (mD:Bool) (mE mF:asJ) (C:atR) (pC:atS):Prop:=∀ {dU fN DB mb iX gv iZ vB dD},∀ {H:Hp},jN=iZ.length->(Out H0 Ri H (Rs.ow mD ⟨kM,jN,kN⟩ eI.z mE vB mF::Rs.blk dD [.i DB,.i mb,.sl ⟨kM,jN,kN⟩]::R0) λR=>CR eI H R vB iZ)->∀ {r:asw},pC dU fN mb iZ iX gv=some r->Rt (C dU fN dD 0 iX gv H) (cB.Q H0 Ri R0 kM jN kN mD mE mF r)
def cB.pl7 (F:Nat) :Nat->Int->Int->Int->List Int->Int->Int->Option (List Int)
 | 0,_,_,_,_,_,_=>none
 | k+1,dU,fN,mb,iZ,iX,gv=>(bif (decide (gv<iX)) then ((ix iZ (wrap .i64 ((wrap .i64 (gv * mb))+dU))).bind λn2=>(ix iZ (wrap .i64 ((wrap .i64 (gv * mb))+fN))).bind λn5=>(some (iZ.set n2 (gt iZ n5))).bind λl7=>(some (l7.set n5 (gt iZ n2))).bind λl9=>cB.pl7 F k dU fN mb l9 iX (wrap .i64 (gv+1))) else (some iZ))
theorem cB.l7_P {kM jN kN mD mE mF} :∀ k,cB.S7 H0 Ri R0 kM jN kN mD mE mF (cB.l7 F (bf.tw F)  k) (cB.pl7 F  k):=by
 intro k
 induction k with
 | zero=>unfold cB.S7;intros;rename_i hp;cases hp
 | succ k ih=>
  intro dU fN DB mb iX gv iZ vB dD H Su h0 r hp
  obtain ⟨w0,s0,pS⟩:=h0
  subst Su
  unfold cB.pl7 at hp
  unfold cB.l7
  refine aH hp (λhp=>?_) λhp=>?_
  ·refine lI w0 1 ?_
   refine lI w0 1 ?_
   refine lSl w0 1 ?_
   refine bf.inl ?_
   refine bQ w0 λH1 w1 s1=>?_
   refine lSl w1 0 ?_
   refine lI w1 0 ?_
   obtain ⟨n2,g2,hp⟩:=ah hp
   obtain ⟨p2,q2,i2,h2,j2⟩:=W.ixo (E:=eI) w1 (i:=1) rfl rfl (pS.step s1) g2
   refine aA i2 ?_
   refine ⟨_,_,rfl,?_⟩
   refine br ?_
   refine fU (W.cons_of (Rn:=[_]) w0 w1 s1) ?_
   refine lI w1 2 ?_
   refine lI w1 2 ?_
   refine lSl w1 2 ?_
   refine bf.inl ?_
   refine bQ w1 λH4 w4 s4=>?_
   refine lSl w4 0 ?_
   refine lI w4 0 ?_
   obtain ⟨n5,g5,hp⟩:=ah hp
   obtain ⟨p5,q5,i5,h5,j5⟩:=W.ixo (E:=eI) w4 (i:=2) rfl rfl (pS.step (s1.trans s4)) g5
   refine aA i5 ?_
   refine ⟨_,_,rfl,?_⟩
   refine br ?_
   have h5:_=[_]:=h5
   subst h5
   refine aA (cy (j5 0 _ rfl)) ?_
   obtain ⟨p6,q6,i6,h6,j6⟩:=W.ixo (E:=eI) w4 (i:=2) rfl rfl (pS.step (s1.trans s4)) g2
   obtain rfl:=Option.some.inj (i2.symm.trans i6)
   have h6:_=[_]:=h6
   subst h6
   refine aA (cy (j6 0 _ rfl)) ?_
   obtain ⟨l7,e7,hp⟩:=ah hp
   refine gD eI w4 (i:=2) (j:=0) (p:=p2) rfl rfl (pS.step (s1.trans s4)) g2 i2 e7 rfl rfl (λ_ h=>by have h:_=[_]:=h;subst h;exact rfl) λH8 k8 w8 s8 c8=>?_
   obtain ⟨l9,e9,hp⟩:=ah hp
   refine gD eI w8 (i:=2) (j:=0) (p:=p5) rfl rfl c8 (tZ g5 (eQ e7)) i5 e9 rfl rfl (λ_ h=>by have h:_=[_]:=h;subst h;exact rfl) λH10 k10 w10 s10 c10=>?_
   obtain ⟨w11,s11⟩:=w10.pp [2,3] 4
   exact ih ((eQ e7).symm.trans (eQ e9).symm) ⟨w11,(s0.trans (s1.trans (s4.trans (s8.trans (s10.trans s11))))),(c10.step s11)⟩ hp
  ·obtain ⟨w12,s12⟩:=w0.pp [0] 2
   exact aP hp ⟨_,rfl,rfl,w12,(s0.trans s12),(pS.step s12)⟩
def cB.p (F:Nat) (aa:Int) (ac:Int) (ar:asw) (au:Int) (ci:Int):Option (List Int):=cB.pl7 F F au ci ac ar aa 0
theorem cB.P {aa ac au ci bU bu bV ar kJ kK kL pR} (dF:bu=ar.length) (h0:Inn H (Rs.ow kJ ⟨bU,bu,bV⟩ eI.z kK pR kL::R0) λR=>CR eI H R pR ar) {r:asw} (hp:cB.p F aa ac ar au ci=some r):Rt (cB.tw F aa ac ⟨bU,bu,bV⟩ au ci H) (cB.Q H (Rs.ow kJ ⟨bU,bu,bV⟩ eI.z kK pR kL::R0) R0 bU bu bV kJ kK kL r):=by
 obtain ⟨w0,cS⟩:=h0
 subst dF
 unfold cB.p at hp
 unfold cB.tw cB.twX
 have s0:=w0.rf
 refine bQ w0 λH1 w1 s1=>?_
 refine lI w1 0 ?_
 obtain ⟨w2,s2⟩:=w1.pp [1,0] 2
 exact cB.l7_P F rfl ⟨w2,(s0.trans (s1.trans s2)),(cS.step (s1.trans s2))⟩ hp
def bG.Q (H0:Hp) (Ri R0:asy) (ck az cb bX bP bL bY bZ cL b_:Int) (fE fF cM fG fH:ON) (eM eN ce eO eP aa:Nat) (fI fJ cN fK fL:Cap) (i_ ja g_ jb jc aB:Bool) (jd je jf jg hJ hO jh ji jj jk:asJ) (r:as0) (v:AV) (H':Hp):Prop:=∃ pT:List AV,∃ pU:List AV,∃ mG:List AV,∃ pV:List AV,∃ pW:List AV,v=(.bool r.1)/\eM=(r.2.1).length/\eN=(r.2.2.1).length/\ce=(r.2.2.2.1).length/\eO=(r.2.2.2.2.1).length/\eP=(r.2.2.2.2.2).length/\Out H0 Ri H' (Rs.ow i_ ⟨fE,eM,fI⟩ eI.z jd pT je::Rs.ow ja ⟨fF,eN,fJ⟩ eI.z jf pU jg::Rs.ow g_ ⟨cM,ce,cN⟩ eI.z hJ mG hO::Rs.ow jb ⟨fG,eO,fK⟩ eI.z jh pV ji::Rs.ow jc ⟨fH,eP,fL⟩ eI.z jj pW jk::Rs.blk aa [.i ck,.i az,.sl ⟨fE,eM,fI⟩,.i cb,.i bX,.sl ⟨fF,eN,fJ⟩,.i bP,.i bL,.sl ⟨cM,ce,cN⟩,.i bY,.i bZ,.sl ⟨fG,eO,fK⟩,.i cL,.i b_,.sl ⟨fH,eP,fL⟩,.bool aB]::R0) λR=>CR eI H' R pT (r.2.1)/\CR eI H' R pU (r.2.2.1)/\CR eI H' R mG (r.2.2.2.1)/\CR eI H' R pV (r.2.2.2.2.1)/\CR eI H' R pW (r.2.2.2.2.2)
theorem bG.neg_l {F:Nat} {C:atz} {y0 o:Nat} {y1:Int} {y94:Sl} {y95 y96:Int} {R:asy} {t:Bool} {pre rest:asJ} {s:Sl} {i lo n:Nat} {c:Cap} {H:Hp} {cells:asJ} {l:asw}
  (ht:∀ z o,c≠.tip z o) (hd:s.ad=s.a) (w:W H R) (hi:R[i]?=some (.ow t s eI.z pre cells rest)) (cr:CR eI H R cells l) (hb:lo+n<=l.length):∀ (k j:Nat),n - j<k->j<=n->l.length<4611686018427387904 ->
  ∃ H' cells',bG.l2095707 F (aN.tw F) (cA.tw F) (cB.tw F) (bf.tw F) (dx.tw F) C k y0 o y1 y94 y95 y96 ⟨s.a.map (λp=>(p.1,p.2+lo * 1)),n,c⟩ (n:Int) (j:Int) H=C y0 o y1 y94 y95 (wrap .i64 (y96+1)) H' /\
   W H' (R.set i (.ow t s eI.z pre cells' rest))/\Fr H R H' (R.set i (.ow t s eI.z pre cells' rest))/\CR eI H' (R.set i (.ow t s eI.z pre cells' rest)) cells' (ql l (lo+j) (n - j)):=by
 intro k
 induction k generalizing H cells l R with
 | zero=>intro j h;exact absurd h (Nat.not_lt_zero _)
 | succ k ih=>
  intro j hk hj hlen
  unfold bG.l2095707
  by_cases c1:j<n
  ·have e1:decide ((j:Int)<(n:Int))=true:=decide_eq_true (by omega)
   have hsn:=w.own_n hi cr
   have hix:ix l ((lo:Int)+j)=some (lo+j):=by unfold ix;rw [if_pos ⟨by omega,by omega⟩];rfl
   obtain ⟨p,cs,g1,g2,g3⟩:=W.ixo (E:=fz .i64) (z:=1) w hi rfl cr hix
   have g2:cs=[_]:=g2
   subst g2
   have hv:Sl.idx ⟨s.a.map (λp=>(p.1,p.2+lo * 1)),n,c⟩ (j:Int) 1=some p:=by rw [aqB ht hd (by omega) (by omega) (by rw [hsn];omega)];exact g1
   have hset:∀ cells',(R.set i (.ow t s eI.z pre cells' rest))[i]?=some (.ow t s eI.z pre cells' rest):=λcells'=>List.getElem?_set_self (List.getElem?_eq_some_iff.1 hi).1
   obtain ⟨H',cells',h1,h2,h3,h4⟩:=W.sto (E:=fz .i64) (j:=0) (v:=.i (wrap .i64 (0 - gt l (lo+j)))) (x':=wrap .i64 (0 - gt l (lo+j))) w hi rfl cr (n:=lo+j) (k:=(lo:Int)+j) (by omega) (by omega) g1 (by decide) rfl (λ_ h=>by have h:_=[_]:=h;subst h;rfl)
   have hw:wrap .i64 ((j:Int)+1)=((j+1:Nat):Int):=by rw [ap (by omega) (by omega)];omega
   have hp0:H.ldI .i64 p.1 p.2=some (gt l (lo+j)):=cy (g3 0 _ rfl)
   have hst:H.st p.1 p.2 (.i (wrap .i64 (0 - gt l (lo+j))))=some H':=h1
   simp only [e1,cond_true,hv,Option.bind_some,hp0,hst,hw]
   obtain ⟨H2,cells2,q1,q2,q3,q4⟩:=ih h2 (hset _) h4 (by rw [List.length_set];exact hb) (j+1) (by omega) (by omega) (by rw [List.length_set];exact hlen)
   refine ⟨H2,cells2,q1,?_,?_,?_⟩
   ·rw [List.set_set] at q2;exact q2
   ·rw [List.set_set] at q3;exact h3.trans q3
   ·rw [List.set_set] at q4
    rw [show n - j=(n - (j+1))+1 by omega]
    exact q4
  ·have e1:decide ((j:Int)<(n:Int))=false:=decide_eq_false (by omega)
   simp only [e1,cond_false]
   have:n - j=0:=by omega
   refine ⟨H,cells,rfl,?_,?_,?_⟩
   all_goals
    have e:R.set i (.ow t s eI.z pre cells rest)=R:=by
     apply List.ext_getElem?
     intro j
     by_cases ej:i=j
     ·subst ej;rw [List.getElem?_set_self (List.getElem?_eq_some_iff.1 hi).1,hi]
     ·rw [List.getElem?_set_ne ej]
    rw [e]
   ·exact w
   ·exact Fr.refl _ _
   ·rw [this];exact cr
theorem bG.neg_k {F:Nat} {C:atz} {y0 o:Nat} {y1:Int} {y94:Sl} {y95 y96:Int} {R:asy} {t:Bool} {pre rest:asJ} {s:Sl} {i:Nat} {c:Cap} {H:Hp} {cells:asJ} {l x:asw} {a b:Int} {k:Nat} {Q:atA}
  (ht:∀ z o,c≠.tip z o) (hd:s.ad=s.a) (w:W H R) (hi:R[i]?=some (.ow t s eI.z pre cells rest)) (cr:CR eI H R cells l) (hx:mL l a b=some x) (hk:l.length<k) (hl:l.length<=4294967296)
  (g:∀ H' cells',W H' (R.set i (.ow t s eI.z pre cells' rest))->Fr H R H' (R.set i (.ow t s eI.z pre cells' rest))->CR eI H' (R.set i (.ow t s eI.z pre cells' rest)) cells' (ql l a.toNat x.length) ->
   ∃ v H'',C y0 o y1 y94 y95 (wrap .i64 (y96+1)) H'=some (v,H'')/\Q v H'') :
  ∃ v H'',bG.l2095707 F (aN.tw F) (cA.tw F) (cB.tw F) (bf.tw F) (dx.tw F) C k y0 o y1 y94 y95 y96 ⟨s.a.map (λp=>(p.1,p.2+a.toNat * eI.z)),x.length,c⟩ ((⟨s.a.map (λp=>(p.1,p.2+a.toNat * eI.z)),x.length,c⟩:Sl).n:Int) 0 H=some (v,H'')/\Q v H'':=by
 obtain ⟨h1,h2,h3⟩:=Vv hx
 have hxl:x.length=b.toNat - a.toNat:=by rw [h2,List.length_drop,List.length_take];omega
 obtain ⟨H',cells',e,q1,q2,q3⟩:=bG.neg_l (F:=F) (C:=C) (y0:=y0) (o:=o) (y1:=y1) (y94:=y94) (y95:=y95) (y96:=y96) (c:=c) (lo:=a.toNat) (n:=x.length) ht hd w hi cr (by omega) k 0 (by omega) (Nat.zero_le _) (by omega)
 rw [Nat.add_zero,Nat.sub_zero] at q3
 obtain ⟨v,H'',g1,g2⟩:=g H' cells' q1 q2 q3
 exact ⟨v,H'',Eq.trans e g1,g2⟩
def bG.S32747 (H0:Hp) (Ri R0:asy) (aQ ay bj aE aF aD aI aJ bR aK:Int) (de df bo dg dh:ON) (cE cF aS cG cH aO:Nat) (di dj bp dk dl:Cap) (dX dY dZ d_ ed dQ:Bool) (ee eg en eo eu eC eD eE eF eG:asJ) (C:asH) (pC:List Int->Int->List Int->List Int->List Int->List Int->Int->Int->Int->Option (Bool×List Int×List Int×List Int×List Int×List Int)):Prop:=∀ {aZ bh a_ bk bl fu fv fw fx fy nr pE lQ},∀ {H:Hp},cE=aZ.length->cF=bh.length->aS=a_.length->cG=bk.length->cH=bl.length->(Out H0 Ri H (Rs.ow dX ⟨de,cE,di⟩ eI.z ee fu eg::Rs.ow dY ⟨df,cF,dj⟩ eI.z en fv eo::Rs.ow dZ ⟨bo,aS,bp⟩ eI.z eu fw eC::Rs.ow d_ ⟨dg,cG,dk⟩ eI.z eD fx eE::Rs.ow ed ⟨dh,cH,dl⟩ eI.z eF fy eG::Rs.blk aO [.i aQ,.i ay,.sl ⟨de,cE,di⟩,.i bj,.i aE,.sl ⟨df,cF,dj⟩,.i aF,.i aD,.sl ⟨bo,aS,bp⟩,.i aI,.i aJ,.sl ⟨dg,cG,dk⟩,.i bR,.i aK,.sl ⟨dh,cH,dl⟩,.bool dQ]::R0) λR=>CR eI H R fu aZ/\CR eI H R fv bh/\CR eI H R fw a_/\CR eI H R fx bk/\CR eI H R fy bl)->∀ {r:as0},pC aZ aE bh a_ bk bl nr pE lQ=some r->Rt (C aO 0 nr pE lQ H) (bG.Q H0 Ri R0 aQ ay bj aE aF aD aI aJ bR aK de df bo dg dh cE cF aS cG cH aO di dj bp dk dl dX dY dZ d_ ed dQ ee eg en eo eu eC eD eE eF eG r)
def bG.pl32747 (F:Nat) :Nat->List Int->Int->List Int->List Int->List Int->List Int->Int->Int->Int->Option (Bool×List Int×List Int×List Int×List Int×List Int)
 | 0,_,_,_,_,_,_,_,_,_=>none
 | k+1,aZ,aE,bh,a_,bk,bl,nr,pE,lQ=>(bif (decide (lQ<pE)) then ((ix bh (wrap .i64 ((wrap .i64 (lQ * aE))+nr))).bind λn2=>(ix bh (wrap .i64 ((wrap .i64 (lQ * aE))+nr))).bind λn5=>(some (bh.set n2 (wrap .i64 (0 - (gt bh n5))))).bind λl6=>bG.pl32747 F k aZ aE l6 a_ bk bl nr pE (wrap .i64 (lQ+1))) else (some (true,aZ,bh,a_,bk,bl)))
theorem bG.l32747_P {aQ ay bj aE aF aD aI aJ bR aK de df bo dg dh cE cF aS cG cH aO di dj bp dk dl dX dY dZ d_ ed dQ ee eg en eo eu eC eD eE eF eG} :∀ k,bG.S32747 H0 Ri R0 aQ ay bj aE aF aD aI aJ bR aK de df bo dg dh cE cF aS cG cH aO di dj bp dk dl dX dY dZ d_ ed dQ ee eg en eo eu eC eD eE eF eG (bG.l32747 F (aN.tw F) (cA.tw F) (cB.tw F) (bf.tw F) (dx.tw F)  k) (bG.pl32747 F  k):=by
 intro k
 induction k with
 | zero=>unfold bG.S32747;intros;rename_i hp;cases hp
 | succ k ih=>
  intro aZ bh a_ bk bl fu fv fw fx fy nr pE lQ H jz jA jB jC jD h0 r hp
  obtain ⟨w0,s0,gM,gn,fR,gN,gO⟩:=h0
  subst jz
  subst jA
  subst jB
  subst jC
  subst jD
  unfold bG.pl32747 at hp
  unfold bG.l32747
  refine aH hp (λhp=>?_) λhp=>?_
  ·refine lI w0 5 ?_
   refine lI w0 5 ?_
   refine lSl w0 5 ?_
   refine bf.inl ?_
   refine bQ w0 λH1 w1 s1=>?_
   refine lSl w1 0 ?_
   refine lI w1 0 ?_
   obtain ⟨n2,g2,hp⟩:=ah hp
   obtain ⟨p2,q2,i2,h2,j2⟩:=W.ixo (E:=eI) w1 (i:=2) rfl rfl (gn.step s1) g2
   refine aA i2 ?_
   refine ⟨_,_,rfl,?_⟩
   refine br ?_
   refine fU (W.cons_of (Rn:=[_]) w0 w1 s1) ?_
   refine lI w1 6 ?_
   refine lI w1 6 ?_
   refine lSl w1 6 ?_
   refine bf.inl ?_
   refine bQ w1 λH4 w4 s4=>?_
   refine lSl w4 0 ?_
   refine lI w4 0 ?_
   obtain ⟨n5,g5,hp⟩:=ah hp
   obtain ⟨p5,q5,i5,h5,j5⟩:=W.ixo (E:=eI) w4 (i:=3) rfl rfl (gn.step (s1.trans s4)) g5
   refine aA i5 ?_
   refine ⟨_,_,rfl,?_⟩
   refine br ?_
   have h5:_=[_]:=h5
   subst h5
   refine aA (cy (j5 0 _ rfl)) ?_
   obtain ⟨l6,e6,hp⟩:=ah hp
   refine gD eI w4 (i:=3) (j:=0) (p:=p2) rfl rfl (gn.step (s1.trans s4)) g2 i2 e6 rfl rfl (λ_ h=>by have h:_=[_]:=h;subst h;exact rfl) λH7 k7 w7 s7 c7=>?_
   obtain ⟨w8,s8⟩:=w7.pp [2,3,4,5,6,7] 8
   exact ih rfl ((eQ e6).symm) rfl rfl rfl ⟨w8,(s0.trans (s1.trans (s4.trans (s7.trans s8)))),(gM.step (s1.trans (s4.trans (s7.trans s8)))),(c7.step s8),(fR.step (s1.trans (s4.trans (s7.trans s8)))),(gN.step (s1.trans (s4.trans (s7.trans s8)))),(gO.step (s1.trans (s4.trans (s7.trans s8))))⟩ hp
  ·exact aP hp ⟨_,_,_,_,_,rfl,rfl,rfl,rfl,rfl,rfl,w0,s0,gM,gn,fR,gN,gO⟩
def bG.pj3 (F:Nat)  (aZ:asw) (bj:Int) (aE:Int) (bh:asw) (a_:asw) (bk:asw) (bl:asw) (zj:Int):Option (Bool×List Int×List Int×List Int×List Int×List Int):=bG.pl32747 F F aZ aE bh a_ bk bl zj bj 0
theorem bG.j3_P {aQ ay bj aE aF aD aI aJ bR aK de df bo dg dh cE cF aS cG cH aO di dj bp dk dl dX dY dZ d_ ed dQ ee eg en eo eu eC eD eE eF eG}  {aZ bh a_ bk bl fu fv fw fx fy zj} (jz:cE=aZ.length) (jA:cF=bh.length) (jB:aS=a_.length) (jC:cG=bk.length) (jD:cH=bl.length) (h0:Out H0 Ri H (Rs.ow dX ⟨de,cE,di⟩ eI.z ee fu eg::Rs.ow dY ⟨df,cF,dj⟩ eI.z en fv eo::Rs.ow dZ ⟨bo,aS,bp⟩ eI.z eu fw eC::Rs.ow d_ ⟨dg,cG,dk⟩ eI.z eD fx eE::Rs.ow ed ⟨dh,cH,dl⟩ eI.z eF fy eG::Rs.blk aO [.i aQ,.i ay,.sl ⟨de,cE,di⟩,.i bj,.i aE,.sl ⟨df,cF,dj⟩,.i aF,.i aD,.sl ⟨bo,aS,bp⟩,.i aI,.i aJ,.sl ⟨dg,cG,dk⟩,.i bR,.i aK,.sl ⟨dh,cH,dl⟩,.bool dQ]::R0) λR=>CR eI H R fu aZ/\CR eI H R fv bh/\CR eI H R fw a_/\CR eI H R fx bk/\CR eI H R fy bl) {r:as0} (hp:bG.pj3 F  aZ bj aE bh a_ bk bl zj=some r):Rt (bG.j3 F (aN.tw F) (cA.tw F) (cB.tw F) (bf.tw F) (dx.tw F)  aO 0 zj H) (bG.Q H0 Ri R0 aQ ay bj aE aF aD aI aJ bR aK de df bo dg dh cE cF aS cG cH aO di dj bp dk dl dX dY dZ d_ ed dQ ee eg en eo eu eC eD eE eF eG r):=by
 obtain ⟨w0,s0,gM,gn,fR,gN,gO⟩:=h0
 subst jz
 subst jA
 subst jB
 subst jC
 subst jD
 unfold bG.pj3 at hp
 unfold bG.j3
 refine lI w0 5 ?_
 exact bG.l32747_P F rfl rfl rfl rfl rfl ⟨w0,s0,gM,gn,fR,gN,gO⟩ hp
def bG.p (F:Nat) (az:Int) (fk:asw) (cb:Int) (bX:Int) (gA:asw) (bP:Int) (bL:Int) (cP:asw) (bY:Int) (bZ:Int) (gB:asw) (b_:Int) (gC:asw) (ai:Int):Option (Bool×List Int×List Int×List Int×List Int×List Int):=(aN.p F bP bL cP ai).bind λr3=>(bif (!r3.2.2) then (some (false,fk,gA,cP,gB,gC)) else ((cA.p F bL cP r3.1 ai).bind λr7=>(cA.p F az fk r3.1 ai).bind λr10=>(cB.p F cb bX gA r3.1 ai).bind λr13=>(cB.p F bP bL r7 r3.2.1 ai).bind λr16=>(cB.p F bY bZ gB r3.2.1 ai).bind λr19=>(cA.p F b_ gC r3.2.1 ai).bind λr22=>(ix r16 (wrap .i64 ((wrap .i64 (ai * bL))+ai))).bind λn25=>(bif (decide ((gt r16 n25)<0)) then ((mL r16 (wrap .i64 (ai * bL)) (wrap .i64 ((wrap .i64 (ai+1)) * bL))).bind λx27=>(mL r10 (wrap .i64 (ai * az)) (wrap .i64 ((wrap .i64 (ai+1)) * az))).bind λx29=>(if r16.length+3<F/\r10.length+3<F/\r16.length+r10.length<=4294967296 then ((some (ql r16 ((wrap .i64 (ai * bL)):Int).toNat x27.length)).bind λl32=>(some (ql r10 ((wrap .i64 (ai * az)):Int).toNat x29.length)).bind λl34=>bG.pj3 F l34 cb bX r13 l32 r19 r22 ai) else none)) else (some (true,r10,r13,r16,r19,r22)))))
theorem bG.P {ck az cb bX bP bL bY bZ cL b_ ai fE fF cM fG fH eM eN ce eO eP aa fI fJ cN fK fL fk gA cP gB gC i_ ja g_ jb jc aB jd je mc jf jg mf hJ hO jZ jh ji mg jj jk mh} (vC:eM=fk.length) (vD:eN=gA.length) (ma:ce=cP.length) (vE:eO=gB.length) (vF:eP=gC.length) (h0:Inn H (Rs.ow i_ ⟨fE,eM,fI⟩ eI.z jd mc je::Rs.ow ja ⟨fF,eN,fJ⟩ eI.z jf mf jg::Rs.ow g_ ⟨cM,ce,cN⟩ eI.z hJ jZ hO::Rs.ow jb ⟨fG,eO,fK⟩ eI.z jh mg ji::Rs.ow jc ⟨fH,eP,fL⟩ eI.z jj mh jk::Rs.blk aa [.i ck,.i az,.sl ⟨fE,eM,fI⟩,.i cb,.i bX,.sl ⟨fF,eN,fJ⟩,.i bP,.i bL,.sl ⟨cM,ce,cN⟩,.i bY,.i bZ,.sl ⟨fG,eO,fK⟩,.i cL,.i b_,.sl ⟨fH,eP,fL⟩,.bool aB]::R0) λR=>CR eI H R mc fk/\CR eI H R mf gA/\CR eI H R jZ cP/\CR eI H R mg gB/\CR eI H R mh gC) {r:as0} (hp:bG.p F az fk cb bX gA bP bL cP bY bZ gB b_ gC ai=some r):Rt (bG.tw F aa 0 ai H) (bG.Q H (Rs.ow i_ ⟨fE,eM,fI⟩ eI.z jd mc je::Rs.ow ja ⟨fF,eN,fJ⟩ eI.z jf mf jg::Rs.ow g_ ⟨cM,ce,cN⟩ eI.z hJ jZ hO::Rs.ow jb ⟨fG,eO,fK⟩ eI.z jh mg ji::Rs.ow jc ⟨fH,eP,fL⟩ eI.z jj mh jk::Rs.blk aa [.i ck,.i az,.sl ⟨fE,eM,fI⟩,.i cb,.i bX,.sl ⟨fF,eN,fJ⟩,.i bP,.i bL,.sl ⟨cM,ce,cN⟩,.i bY,.i bZ,.sl ⟨fG,eO,fK⟩,.i cL,.i b_,.sl ⟨fH,eP,fL⟩,.bool aB]::R0) R0 ck az cb bX bP bL bY bZ cL b_ fE fF cM fG fH eM eN ce eO eP aa fI fJ cN fK fL i_ ja g_ jb jc aB jd je jf jg hJ hO jh ji jj jk r):=by
 obtain ⟨w0,tO,tP,kP,tQ,tR⟩:=h0
 subst vC
 subst vD
 subst ma
 subst vE
 subst vF
 unfold bG.p at hp
 unfold bG.tw bG.twX
 have s0:=w0.rf
 obtain ⟨w1,s1⟩:=w0.pp [2,5,0,1,3,4] 6
 have f2:=W.borrow1 eI w1 (kP.step s1)
 obtain ⟨w2,s2⟩:=w1.right1
 obtain ⟨r3,e3,hp⟩:=ah hp
 refine aR (aN.P rfl ⟨w2,f2⟩ e3) ?_
 rintro _ H4 ⟨rfl,w4,s4,_⟩
 obtain ⟨w5,s5⟩:=W.frame1 w1 w4 s4
 refine br (br (br (br (br (br (br ?_))))))
 refine aH hp (λhp=>?_) λhp=>?_
 ·obtain ⟨w6,s6⟩:=w5.pp [2,3,0,4,5,1] 6
  exact aP hp ⟨_,_,_,_,_,rfl,rfl,rfl,rfl,rfl,rfl,w6,(s0.trans (s1.trans (s5.trans s6))),(tO.step (s1.trans (s5.trans s6))),(tP.step (s1.trans (s5.trans s6))),(kP.step (s1.trans (s5.trans s6))),(tQ.step (s1.trans (s5.trans s6))),(tR.step (s1.trans (s5.trans s6)))⟩
 ·refine lI w5 1 ?_
  refine lI w5 1 ?_
  refine lSl w5 1 ?_
  obtain ⟨r7,e7,hp⟩:=ah hp
  refine aR (cA.P rfl ⟨w5,(kP.step (s1.trans s5))⟩ e7) ?_
  rintro _ H8 ⟨arK,rfl,hl8_0,w8,s8,f8_0⟩
  refine lI w8 1 ?_
  refine lI w8 1 ?_
  refine lSl w8 1 ?_
  obtain ⟨w9,s9⟩:=w8.pp [2,0,1,3,4,5] 6
  obtain ⟨r10,e10,hp⟩:=ah hp
  refine aR (cA.P rfl ⟨w9,(tO.step (s1.trans (s5.trans (s8.trans s9))))⟩ e10) ?_
  rintro _ H11 ⟨arL,rfl,hl11_0,w11,s11,f11_0⟩
  refine lI w11 2 ?_
  refine lI w11 2 ?_
  refine lSl w11 2 ?_
  obtain ⟨w12,s12⟩:=w11.pp [3,0,1,2,4,5] 6
  obtain ⟨r13,e13,hp⟩:=ah hp
  refine aR (cB.P rfl ⟨w12,(tP.step (s1.trans (s5.trans (s8.trans (s9.trans (s11.trans s12))))))⟩ e13) ?_
  rintro _ H14 ⟨arM,rfl,hl14_0,w14,s14,f14_0⟩
  refine lI w14 3 ?_
  refine lI w14 3 ?_
  refine lSl w14 3 ?_
  obtain ⟨w15,s15⟩:=w14.pp [2,0,1,3,4,5] 6
  obtain ⟨r16,e16,hp⟩:=ah hp
  refine aR (cB.P hl8_0 ⟨w15,(f8_0.step (s9.trans (s11.trans (s12.trans (s14.trans s15)))))⟩ e16) ?_
  rintro _ H17 ⟨arN,rfl,hl17_0,w17,s17,f17_0⟩
  refine lI w17 3 ?_
  refine lI w17 3 ?_
  refine lSl w17 3 ?_
  obtain ⟨w18,s18⟩:=w17.pp [4,0,1,2,3,5] 6
  obtain ⟨r19,e19,hp⟩:=ah hp
  refine aR (cB.P rfl ⟨w18,(tQ.step (s1.trans (s5.trans (s8.trans (s9.trans (s11.trans (s12.trans (s14.trans (s15.trans (s17.trans s18))))))))))⟩ e19) ?_
  rintro _ H20 ⟨arO,rfl,hl20_0,w20,s20,f20_0⟩
  refine lI w20 4 ?_
  refine lI w20 4 ?_
  refine lSl w20 4 ?_
  obtain ⟨w21,s21⟩:=w20.pp [5,0,1,2,3,4] 6
  obtain ⟨r22,e22,hp⟩:=ah hp
  refine aR (cA.P rfl ⟨w21,(tR.step (s1.trans (s5.trans (s8.trans (s9.trans (s11.trans (s12.trans (s14.trans (s15.trans (s17.trans (s18.trans (s20.trans s21))))))))))))⟩ e22) ?_
  rintro _ H23 ⟨arP,rfl,hl23_0,w23,s23,f23_0⟩
  refine lI w23 5 ?_
  refine lI w23 5 ?_
  refine lSl w23 5 ?_
  refine bf.inl ?_
  refine bQ w23 λH24 w24 s24=>?_
  refine lSl w24 0 ?_
  refine lI w24 0 ?_
  obtain ⟨n25,g25,hp⟩:=ah hp
  obtain ⟨p25,q25,i25,h25,j25⟩:=W.ixo (E:=eI) w24 (i:=3) rfl rfl (f17_0.step (s18.trans (s20.trans (s21.trans (s23.trans s24))))) g25
  refine aA i25 ?_
  refine ⟨_,_,rfl,?_⟩
  refine br ?_
  have h25:_=[_]:=h25
  subst h25
  refine aA (cy (j25 0 _ rfl)) ?_
  refine aH hp (λhp=>?_) λhp=>?_
  ·refine aA (cy (w24.ld (i:=6) rfl rfl)) ?_
   refine aA (cy (w24.ld (i:=6) rfl rfl)) ?_
   refine aA (mK (w24.ld (i:=6) rfl rfl)) ?_
   refine dx.inl ?_
   refine bQ w24 λH26 w26 s26=>?_
   refine aA (mK (w26.ld (i:=0) rfl rfl)) ?_
   refine aA (cy (w26.ld (i:=0) rfl rfl)) ?_
   refine aA (cy (w26.ld (i:=0) rfl rfl)) ?_
   obtain ⟨x27,e27,hp⟩:=ah hp
   obtain ⟨d27,h27,t27,u27⟩:=W.cutv (E:=eI) w26 (i:=4) rfl (f17_0.step (s18.trans (s20.trans (s21.trans (s23.trans (s24.trans s26)))))) e27
   refine aA h27 ?_
   refine ⟨_,_,rfl,?_⟩
   refine aA rfl ?_
   refine fU (W.cons_of (Rn:=[_]) w24 w26 s26) ?_
   refine aA (cy (w26.ld (i:=7) rfl rfl)) ?_
   refine aA (cy (w26.ld (i:=7) rfl rfl)) ?_
   refine aA (mK (w26.ld (i:=7) rfl rfl)) ?_
   refine dx.inl ?_
   refine bQ w26 λH28 w28 s28=>?_
   refine aA (mK (w28.ld (i:=0) rfl rfl)) ?_
   refine aA (cy (w28.ld (i:=0) rfl rfl)) ?_
   refine aA (cy (w28.ld (i:=0) rfl rfl)) ?_
   obtain ⟨x29,e29,hp⟩:=ah hp
   obtain ⟨d29,h29,t29,u29⟩:=W.cutv (E:=eI) w28 (i:=7) rfl (f11_0.step (s12.trans (s14.trans (s15.trans (s17.trans (s18.trans (s20.trans (s21.trans (s23.trans (s24.trans (s26.trans s28))))))))))) e29
   refine aA h29 ?_
   refine ⟨_,_,rfl,?_⟩
   refine aA rfl ?_
   refine bQ w28 λH30 w30 s30=>?_
   obtain ⟨⟨hF,hl6,hl0⟩,hp⟩:=qm hp
   obtain ⟨k,rfl⟩:∃ k,F=k+3:=⟨F - 3,by omega⟩
   unfold bG.l32745
   refine Lr (λ_=>?_) (λhb=>absurd (show decide ((0:Int)<((2:Nat):Int))=false from hb) (by decide))
   refine aA (show _=some (_,_) from rfl) ?_
   refine aA (mK (w30.ld (i:=0) rfl rfl)) ?_
   refine bG.neg_k (i:=6) t27 u27 w30 rfl (f17_0.step (s18.trans (s20.trans (s21.trans (s23.trans (s24.trans (s26.trans (s28.trans s30)))))))) e27 (by omega) (by omega) λH31 k31 w31 s31 c31=>?_
   dsimp only [List.set] at w31 s31 c31
   obtain ⟨l32,e32,hp⟩:=ah hp
   obtain rfl:=Option.some.inj e32
   unfold bG.l32745
   refine Lr (λ_=>?_) (λhb=>absurd (show decide ((wrap .i64 (0+1))<((2:Nat):Int))=false from hb) (by decide))
   refine aA (show _=some (_,_) from rfl) ?_
   refine aA (mK (w31.ld (i:=0) rfl rfl)) ?_
   refine bG.neg_k (i:=8) t29 u29 w31 rfl (f11_0.step (s12.trans (s14.trans (s15.trans (s17.trans (s18.trans (s20.trans (s21.trans (s23.trans (s24.trans (s26.trans (s28.trans (s30.trans s31))))))))))))) e29 (by omega) (by omega) λH33 k33 w33 s33 c33=>?_
   dsimp only [List.set] at w33 s33 c33
   obtain ⟨l34,e34,hp⟩:=ah hp
   obtain rfl:=Option.some.inj e34
   unfold bG.l32745
   refine Lr (λhb=>absurd (show decide (wrap .i64 (wrap .i64 (0+1)+1)<((2:Nat):Int))=true from hb) (by decide)) (λ_=>?_)
   obtain ⟨w35,s35⟩:=w33.pp [8,7,6,5,4,9] 10
   exact bG.j3_P (hl11_0.trans (aeR _ _ _).symm) hl14_0 (hl17_0.trans (aeR _ _ _).symm) hl20_0 hl23_0 ⟨w35,(s0.trans (s1.trans (s5.trans (s8.trans (s9.trans (s11.trans (s12.trans (s14.trans (s15.trans (s17.trans (s18.trans (s20.trans (s21.trans (s23.trans (s24.trans (s26.trans (s28.trans (s30.trans (s31.trans (s33.trans s35)))))))))))))))))))),(c33.step s35),(f14_0.step (s15.trans (s17.trans (s18.trans (s20.trans (s21.trans (s23.trans (s24.trans (s26.trans (s28.trans (s30.trans (s31.trans (s33.trans s35))))))))))))),(c31.step (s33.trans s35)),(f20_0.step (s21.trans (s23.trans (s24.trans (s26.trans (s28.trans (s30.trans (s31.trans (s33.trans s35))))))))),(f23_0.step (s24.trans (s26.trans (s28.trans (s30.trans (s31.trans (s33.trans s35)))))))⟩ hp
  ·obtain ⟨w36,s36⟩:=w24.pp [5,4,3,2,1,6] 7
   exact aP hp ⟨_,_,_,_,_,rfl,hl11_0,hl14_0,hl17_0,hl20_0,hl23_0,w36,(s0.trans (s1.trans (s5.trans (s8.trans (s9.trans (s11.trans (s12.trans (s14.trans (s15.trans (s17.trans (s18.trans (s20.trans (s21.trans (s23.trans (s24.trans s36))))))))))))))),(f11_0.step (s12.trans (s14.trans (s15.trans (s17.trans (s18.trans (s20.trans (s21.trans (s23.trans (s24.trans s36)))))))))),(f14_0.step (s15.trans (s17.trans (s18.trans (s20.trans (s21.trans (s23.trans (s24.trans s36)))))))),(f17_0.step (s18.trans (s20.trans (s21.trans (s23.trans (s24.trans s36)))))),(f20_0.step (s21.trans (s23.trans (s24.trans s36)))),(f23_0.step (s24.trans s36))⟩
def ic.Q (H0:Hp) (Ri R0:asy)  (r:Int) (v:AV) (H':Hp):Prop:=v=(.i r)/\Out H0 Ri H' (R0) λR=>True
def ic.p (F:Nat) (aa:Int) (aG:Int):Option (Int):=(if aG=0 then none else ((if aG=0 then none else ((bif (decide ((Int.tmod aa aG)<0)) then (some (wrap .i64 ((wrap .i64 (Int.tdiv aa aG)) - 1))) else (some (wrap .i64 (Int.tdiv aa aG))))))))
theorem ic.P {aa aG}  (h0:Inn H R0 λR=>True) {r:Int} (hp:ic.p F aa aG=some r):Rt (ic.tw F aa aG H) (ic.Q H R0 R0  r):=by
 obtain ⟨w0,_⟩:=h0
 unfold ic.p at hp
 unfold ic.tw ic.twX
 have s0:=w0.rf
 obtain ⟨g1,hp⟩:=nV hp
 refine nW g1 ?_
 obtain ⟨g2,hp⟩:=nV hp
 refine nW g2 ?_
 refine aH hp (λhp=>?_) λhp=>?_
 ·exact aP hp ⟨rfl,w0,s0,trivial⟩
 ·exact aP hp ⟨rfl,w0,s0,trivial⟩
def fX.Q (H0:Hp) (Ri R0:asy)  (r:Int×Bool) (v:AV) (H':Hp):Prop:=v=(.tup [(.i r.1),(.bool r.2)])/\Out H0 Ri H' (R0) λR=>True
def fX.p (F:Nat) (aa:Int) (aG:Int) (ga:Int):Option (Int×Bool):=(bif (aa != 0) then ((cW.p F aG).bind λr1=>(cW.p F aa).bind λr3=>(if r3=0 then none else ((bif (decide (r1>(wrap .i64 (Int.tdiv ga r3)))) then (some (0,false)) else (some ((wrap .i64 (aa * aG)),true)))))) else (some ((wrap .i64 (aa * aG)),true)))
theorem fX.P {aa aG ga}  (h0:Inn H R0 λR=>True) {r:Int×Bool} (hp:fX.p F aa aG ga=some r):Rt (fX.tw F aa aG ga H) (fX.Q H R0 R0  r):=by
 obtain ⟨w0,_⟩:=h0
 unfold fX.p at hp
 unfold fX.tw fX.twX
 have s0:=w0.rf
 refine aH hp (λhp=>?_) λhp=>?_
 ·obtain ⟨r1,e1,hp⟩:=ah hp
  refine aR (cW.P ⟨w0,trivial⟩ e1) ?_
  rintro _ H2 ⟨rfl,w2,s2,_⟩
  refine br ?_
  obtain ⟨r3,e3,hp⟩:=ah hp
  refine aR (cW.P ⟨w2,trivial⟩ e3) ?_
  rintro _ H4 ⟨rfl,w4,s4,_⟩
  refine br ?_
  obtain ⟨g5,hp⟩:=nV hp
  refine nW g5 ?_
  refine aH hp (λhp=>?_) λhp=>?_
  ·exact aP hp ⟨rfl,w4,(s0.trans (s2.trans s4)),trivial⟩
  ·exact aP hp ⟨rfl,w4,(s0.trans (s2.trans s4)),trivial⟩
 ·exact aP hp ⟨rfl,w0,s0,trivial⟩
def gd.Q (H0:Hp) (Ri R0:asy) (ck az cb bX bP bL bY bZ cL b_:Int) (aW fb kQ fc fd:Sl) (aa ai:Nat) (r:Bool×Int) (v:AV) (H':Hp):Prop:=v=(.tup [])/\Out H0 Ri H' (Rs.blk aa [.i ck,.i az,.sl aW,.i cb,.i bX,.sl fb,.i bP,.i bL,.sl kQ,.i bY,.i bZ,.sl fc,.i cL,.i b_,.sl fd,.bool (r.1)]::Rs.blk ai [.i (r.2)]::R0) λR=>True
def gd.p (F:Nat) (aB:Bool) (AU:Int) (ci:Int) (kE:Int):Option (Bool×Int):=(fX.p F ci kE 2000000000000).bind λr1=>(bif (!r1.2) then (some (true,0)) else ((cW.p F (wrap .i64 (AU+r1.1))).bind λr6=>(bif (decide (r6>1000000000000)) then (some (true,0)) else (some (aB,(wrap .i64 (AU+r1.1)))))))
theorem gd.P {ck az cb bX bP bL bY bZ cL b_ AU ci kE aW fb kQ fc fd aB aa ai}  (h0:Inn H (Rs.blk aa [.i ck,.i az,.sl aW,.i cb,.i bX,.sl fb,.i bP,.i bL,.sl kQ,.i bY,.i bZ,.sl fc,.i cL,.i b_,.sl fd,.bool aB]::Rs.blk ai [.i AU]::R0) λR=>True) {r:Bool×Int} (hp:gd.p F aB AU ci kE=some r):Rt (gd.tw F aa 0 ai 0 ci kE H) (gd.Q H (Rs.blk aa [.i ck,.i az,.sl aW,.i cb,.i bX,.sl fb,.i bP,.i bL,.sl kQ,.i bY,.i bZ,.sl fc,.i cL,.i b_,.sl fd,.bool aB]::Rs.blk ai [.i AU]::R0) R0 ck az cb bX bP bL bY bZ cL b_ aW fb kQ fc fd aa ai r):=by
 obtain ⟨w0,_⟩:=h0
 unfold gd.p at hp
 unfold gd.tw gd.twX
 have s0:=w0.rf
 obtain ⟨r1,e1,hp⟩:=ah hp
 refine aR (fX.P ⟨w0,trivial⟩ e1) ?_
 rintro _ H2 ⟨rfl,w2,s2,_⟩
 refine br (br (br (br (br ?_))))
 refine lI w2 1 ?_
 refine aw w2 1 λH3 w3 s3=>?_
 refine aH hp (λhp=>?_) λhp=>?_
 ·refine aw w3 0 λH4 w4 s4=>?_
  refine aw w4 1 λH5 w5 s5=>?_
  exact aP hp ⟨rfl,w5,(s0.trans (s2.trans (s3.trans (s4.trans s5)))),trivial⟩
 ·refine lI w3 1 ?_
  obtain ⟨r6,e6,hp⟩:=ah hp
  refine aR (cW.P ⟨w3,trivial⟩ e6) ?_
  rintro _ H7 ⟨rfl,w7,s7,_⟩
  refine br ?_
  refine aH hp (λhp=>?_) λhp=>?_
  ·refine aw w7 0 λH8 w8 s8=>?_
   refine aw w8 1 λH9 w9 s9=>?_
   exact aP hp ⟨rfl,w9,(s0.trans (s2.trans (s3.trans (s7.trans (s8.trans s9))))),trivial⟩
  ·exact aP hp ⟨rfl,w7,(s0.trans (s2.trans (s3.trans s7))),trivial⟩
def cu.Q (H0:Hp) (Ri R0:asy) (ck az cb bX bP bL bY bZ cL b_:Int) (aW fb kQ fc fd:Sl) (aa kR:Nat) (nw:ON) (ny:Cap) (pX:Bool) (pY pZ:asJ) (r:atv) (v:AV) (H':Hp):Prop:=∃ DC:List AV,v=(.tup [])/\kR=(r.2).length/\Out H0 Ri H' (Rs.blk aa [.i ck,.i az,.sl aW,.i cb,.i bX,.sl fb,.i bP,.i bL,.sl kQ,.i bY,.i bZ,.sl fc,.i cL,.i b_,.sl fd,.bool (r.1)]::Rs.ow pX ⟨nw,kR,ny⟩ eI.z pY DC pZ::R0) λR=>CR eI H' R DC (r.2)
def cu.S7 (H0:Hp) (Ri R0:asy) (aQ ay bj aE aF aD aI aJ bR aK:Int) (dH dI rI dJ dK:Sl) (aO nA:Nat) (p_:ON) (qa:Cap) (rJ:Bool) (rK rL:asJ) (C:atT) (pC:atU):Prop:=∀ {aB eZ fY ij DD j_ dT fD jl vG ik},∀ {H:Hp},nA=jl.length->(Out H0 Ri H (Rs.blk aO [.i aQ,.i ay,.sl dH,.i bj,.i aE,.sl dI,.i aF,.i aD,.sl rI,.i aI,.i aJ,.sl dJ,.i bR,.i aK,.sl dK,.bool aB]::Rs.ow rJ ⟨p_,nA,qa⟩ eI.z rK vG rL::Rs.blk ik [.i DD,.i j_,.sl ⟨p_,nA,qa⟩]::R0) λR=>CR eI H R vG jl)->∀ {r:atv},pC aB eZ fY ij j_ jl dT fD=some r->Rt (C aO 0 eZ fY ij ik 0 dT fD H) (cu.Q H0 Ri R0 aQ ay bj aE aF aD aI aJ bR aK dH dI rI dJ dK aO nA p_ qa rJ rK rL r)
def cu.pl7 (F:Nat) :Nat->Bool->Int->Int->Int->Int->List Int->Int->Int->Option (Bool×List Int)
 | 0,_,_,_,_,_,_,_,_=>none
 | k+1,aB,eZ,fY,ij,j_,jl,dT,fD=>(bif (decide (fD<dT)) then ((ix jl (wrap .i64 ((wrap .i64 (eZ * j_))+fD))).bind λn2=>(ix jl (wrap .i64 ((wrap .i64 (fY * j_))+fD))).bind λn5=>(fX.p F (gt jl n5) ij 2000000000000).bind λr6=>(some (jl.set n2 (wrap .i64 ((gt jl n2)+r6.1)))).bind λl9=>(bif (!r6.2) then ((some (l9.set n2 0)).bind λl12=>cu.pl7 F k true eZ fY ij j_ l12 dT (wrap .i64 (fD+1))) else ((cW.p F (gt l9 n2)).bind λr16=>(bif (decide (r16>1000000000000)) then ((some (l9.set n2 0)).bind λl19=>cu.pl7 F k true eZ fY ij j_ l19 dT (wrap .i64 (fD+1))) else (cu.pl7 F k aB eZ fY ij j_ l9 dT (wrap .i64 (fD+1))))))) else (some (aB,jl)))
theorem cu.l7_P {aQ ay bj aE aF aD aI aJ bR aK dH dI rI dJ dK aO nA p_ qa rJ rK rL} :∀ k,cu.S7 H0 Ri R0 aQ ay bj aE aF aD aI aJ bR aK dH dI rI dJ dK aO nA p_ qa rJ rK rL (cu.l7 F (bf.tw F) (gd.tw F)  k) (cu.pl7 F  k):=by
 intro k
 induction k with
 | zero=>unfold cu.S7;intros;rename_i hp;cases hp
 | succ k ih=>
  intro aB eZ fY ij DD j_ dT fD jl vG ik H Sv h0 r hp
  obtain ⟨w0,s0,qb⟩:=h0
  subst Sv
  unfold cu.pl7 at hp
  unfold cu.l7
  refine aH hp (λhp=>?_) λhp=>?_
  ·refine lI w0 2 ?_
   refine lI w0 2 ?_
   refine lSl w0 2 ?_
   refine bf.inl ?_
   refine bQ w0 λH1 w1 s1=>?_
   refine lSl w1 0 ?_
   refine lI w1 0 ?_
   obtain ⟨n2,g2,hp⟩:=ah hp
   obtain ⟨p2,q2,i2,h2,j2⟩:=W.ixo (E:=eI) w1 (i:=2) rfl rfl (qb.step s1) g2
   refine aA i2 ?_
   refine ⟨_,_,rfl,?_⟩
   refine br ?_
   refine fU (W.cons_of (Rn:=[_]) w0 w1 s1) ?_
   refine lI w1 3 ?_
   refine lI w1 3 ?_
   refine lSl w1 3 ?_
   refine bf.inl ?_
   refine bQ w1 λH4 w4 s4=>?_
   refine lSl w4 0 ?_
   refine lI w4 0 ?_
   obtain ⟨n5,g5,hp⟩:=ah hp
   obtain ⟨p5,q5,i5,h5,j5⟩:=W.ixo (E:=eI) w4 (i:=3) rfl rfl (qb.step (s1.trans s4)) g5
   refine aA i5 ?_
   refine ⟨_,_,rfl,?_⟩
   refine br ?_
   have h5:_=[_]:=h5
   subst h5
   refine aA (cy (j5 0 _ rfl)) ?_
   refine gd.inl ?_
   obtain ⟨r6,e6,hp⟩:=ah hp
   refine aR (fX.P ⟨w4,trivial⟩ e6) ?_
   rintro _ H7 ⟨rfl,w7,s7,_⟩
   refine br (br (br (br (br ?_))))
   obtain ⟨p8,q8,i8,h8,j8⟩:=W.ixo (E:=eI) w7 (i:=3) rfl rfl (qb.step (s1.trans (s4.trans s7))) g2
   obtain rfl:=Option.some.inj (i2.symm.trans i8)
   have h8:_=[_]:=h8
   subst h8
   refine aA (cy (j8 0 _ rfl)) ?_
   obtain ⟨l9,e9,hp⟩:=ah hp
   refine gD eI w7 (i:=3) (j:=0) (p:=p2) rfl rfl (qb.step (s1.trans (s4.trans s7))) g2 i2 e9 rfl rfl (λ_ h=>by have h:_=[_]:=h;subst h;exact rfl) λH10 k10 w10 s10 c10=>?_
   refine aH hp (λhp=>?_) λhp=>?_
   ·refine aw w10 2 λH11 w11 s11=>?_
    obtain ⟨l12,e12,hp⟩:=ah hp
    refine gD eI w11 (i:=3) (j:=0) (p:=p2) rfl rfl (c10.step s11) (tZ g2 (eQ e9)) i2 e12 rfl rfl (λ_ h=>by have h:_=[_]:=h;subst h;exact rfl) λH13 k13 w13 s13 c13=>?_
    refine ⟨_,_,rfl,?_⟩
    obtain ⟨w14,s14⟩:=w13.pp [2,3,4] 5
    exact ih ((eQ e9).symm.trans (eQ e12).symm) ⟨w14,(s0.trans (s1.trans (s4.trans (s7.trans (s10.trans (s11.trans (s13.trans s14))))))),(c13.step s14)⟩ hp
   ·obtain ⟨p15,q15,i15,h15,j15⟩:=W.ixo (E:=eI) w10 (i:=3) rfl rfl c10 (tZ g2 (eQ e9))
    obtain rfl:=Option.some.inj (i2.symm.trans i15)
    have h15:_=[_]:=h15
    subst h15
    refine aA (cy (j15 0 _ rfl)) ?_
    obtain ⟨r16,e16,hp⟩:=ah hp
    refine aR (cW.P ⟨w10,trivial⟩ e16) ?_
    rintro _ H17 ⟨rfl,w17,s17,_⟩
    refine br ?_
    refine aH hp (λhp=>?_) λhp=>?_
    ·refine aw w17 2 λH18 w18 s18=>?_
     obtain ⟨l19,e19,hp⟩:=ah hp
     refine gD eI w18 (i:=3) (j:=0) (p:=p2) rfl rfl (c10.step (s17.trans s18)) (tZ g2 (eQ e9)) i2 e19 rfl rfl (λ_ h=>by have h:_=[_]:=h;subst h;exact rfl) λH20 k20 w20 s20 c20=>?_
     refine ⟨_,_,rfl,?_⟩
     obtain ⟨w21,s21⟩:=w20.pp [2,3,4] 5
     exact ih ((eQ e9).symm.trans (eQ e19).symm) ⟨w21,(s0.trans (s1.trans (s4.trans (s7.trans (s10.trans (s17.trans (s18.trans (s20.trans s21)))))))),(c20.step s21)⟩ hp
    ·refine ⟨_,_,rfl,?_⟩
     obtain ⟨w22,s22⟩:=w17.pp [2,3,4] 5
     exact ih ((eQ e9).symm) ⟨w22,(s0.trans (s1.trans (s4.trans (s7.trans (s10.trans (s17.trans s22)))))),(c10.step (s17.trans s22))⟩ hp
  ·obtain ⟨w23,s23⟩:=w0.pp [0,1] 3
   exact aP hp ⟨_,rfl,rfl,w23,(s0.trans s23),(qb.step s23)⟩
def cu.p (F:Nat) (aB:Bool) (au:Int) (ka:asw) (gH:Int) (gI:Int) (gw:Int):Option (Bool×List Int):=cu.pl7 F F aB gH gI gw au ka au 0
theorem cu.P {ck az cb bX bP bL bY bZ cL b_ ai au gH gI gw aW fb kQ fc fd aB pX aa kR nw ny ka pY pZ vH} (Sw:kR=ka.length) (h0:Inn H (Rs.blk aa [.i ck,.i az,.sl aW,.i cb,.i bX,.sl fb,.i bP,.i bL,.sl kQ,.i bY,.i bZ,.sl fc,.i cL,.i b_,.sl fd,.bool aB]::Rs.ow pX ⟨nw,kR,ny⟩ eI.z pY vH pZ::R0) λR=>CR eI H R vH ka) {r:atv} (hp:cu.p F aB au ka gH gI gw=some r):Rt (cu.tw F aa 0 ai au ⟨nw,kR,ny⟩ gH gI gw H) (cu.Q H (Rs.blk aa [.i ck,.i az,.sl aW,.i cb,.i bX,.sl fb,.i bP,.i bL,.sl kQ,.i bY,.i bZ,.sl fc,.i cL,.i b_,.sl fd,.bool aB]::Rs.ow pX ⟨nw,kR,ny⟩ eI.z pY vH pZ::R0) R0 ck az cb bX bP bL bY bZ cL b_ aW fb kQ fc fd aa kR nw ny pX pY pZ r):=by
 obtain ⟨w0,Sx⟩:=h0
 subst Sw
 unfold cu.p at hp
 unfold cu.tw cu.twX
 have s0:=w0.rf
 refine bQ w0 λH1 w1 s1=>?_
 refine lI w1 0 ?_
 obtain ⟨w2,s2⟩:=w1.pp [1,2,0] 3
 exact cu.l7_P F rfl ⟨w2,(s0.trans (s1.trans s2)),(Sx.step (s1.trans s2))⟩ hp
def cv.Q (H0:Hp) (Ri R0:asy) (ck az cb bX bP bL bY bZ cL b_:Int) (aW fb kQ fc fd:Sl) (aa kR:Nat) (nw:ON) (ny:Cap) (pX:Bool) (pY pZ:asJ) (r:atv) (v:AV) (H':Hp):Prop:=∃ DC:List AV,v=(.tup [])/\kR=(r.2).length/\Out H0 Ri H' (Rs.blk aa [.i ck,.i az,.sl aW,.i cb,.i bX,.sl fb,.i bP,.i bL,.sl kQ,.i bY,.i bZ,.sl fc,.i cL,.i b_,.sl fd,.bool (r.1)]::Rs.ow pX ⟨nw,kR,ny⟩ eI.z pY DC pZ::R0) λR=>CR eI H' R DC (r.2)
def cv.S7 (H0:Hp) (Ri R0:asy) (aQ ay bj aE aF aD aI aJ bR aK:Int) (dH dI rI dJ dK:Sl) (aO nA:Nat) (p_:ON) (qa:Cap) (rJ:Bool) (rK rL:asJ) (C:atT) (pC:atU):Prop:=∀ {aB eZ fY ij DD j_ dT fD jl vG ik},∀ {H:Hp},nA=jl.length->(Out H0 Ri H (Rs.blk aO [.i aQ,.i ay,.sl dH,.i bj,.i aE,.sl dI,.i aF,.i aD,.sl rI,.i aI,.i aJ,.sl dJ,.i bR,.i aK,.sl dK,.bool aB]::Rs.ow rJ ⟨p_,nA,qa⟩ eI.z rK vG rL::Rs.blk ik [.i DD,.i j_,.sl ⟨p_,nA,qa⟩]::R0) λR=>CR eI H R vG jl)->∀ {r:atv},pC aB eZ fY ij j_ jl dT fD=some r->Rt (C aO 0 eZ fY ij ik 0 dT fD H) (cv.Q H0 Ri R0 aQ ay bj aE aF aD aI aJ bR aK dH dI rI dJ dK aO nA p_ qa rJ rK rL r)
def cv.pl7 (F:Nat) :Nat->Bool->Int->Int->Int->Int->List Int->Int->Int->Option (Bool×List Int)
 | 0,_,_,_,_,_,_,_,_=>none
 | k+1,aB,eZ,fY,ij,j_,jl,dT,fD=>(bif (decide (fD<dT)) then ((ix jl (wrap .i64 ((wrap .i64 (fD * j_))+eZ))).bind λn2=>(ix jl (wrap .i64 ((wrap .i64 (fD * j_))+fY))).bind λn5=>(fX.p F (gt jl n5) ij 2000000000000).bind λr6=>(some (jl.set n2 (wrap .i64 ((gt jl n2)+r6.1)))).bind λl9=>(bif (!r6.2) then ((some (l9.set n2 0)).bind λl12=>cv.pl7 F k true eZ fY ij j_ l12 dT (wrap .i64 (fD+1))) else ((cW.p F (gt l9 n2)).bind λr16=>(bif (decide (r16>1000000000000)) then ((some (l9.set n2 0)).bind λl19=>cv.pl7 F k true eZ fY ij j_ l19 dT (wrap .i64 (fD+1))) else (cv.pl7 F k aB eZ fY ij j_ l9 dT (wrap .i64 (fD+1))))))) else (some (aB,jl)))
theorem cv.l7_P {aQ ay bj aE aF aD aI aJ bR aK dH dI rI dJ dK aO nA p_ qa rJ rK rL} :∀ k,cv.S7 H0 Ri R0 aQ ay bj aE aF aD aI aJ bR aK dH dI rI dJ dK aO nA p_ qa rJ rK rL (cv.l7 F (bf.tw F) (gd.tw F)  k) (cv.pl7 F  k):=by
 intro k
 induction k with
 | zero=>unfold cv.S7;intros;rename_i hp;cases hp
 | succ k ih=>
  intro aB eZ fY ij DD j_ dT fD jl vG ik H Sv h0 r hp
  obtain ⟨w0,s0,qb⟩:=h0
  subst Sv
  unfold cv.pl7 at hp
  unfold cv.l7
  refine aH hp (λhp=>?_) λhp=>?_
  ·refine lI w0 2 ?_
   refine lI w0 2 ?_
   refine lSl w0 2 ?_
   refine bf.inl ?_
   refine bQ w0 λH1 w1 s1=>?_
   refine lSl w1 0 ?_
   refine lI w1 0 ?_
   obtain ⟨n2,g2,hp⟩:=ah hp
   obtain ⟨p2,q2,i2,h2,j2⟩:=W.ixo (E:=eI) w1 (i:=2) rfl rfl (qb.step s1) g2
   refine aA i2 ?_
   refine ⟨_,_,rfl,?_⟩
   refine br ?_
   refine fU (W.cons_of (Rn:=[_]) w0 w1 s1) ?_
   refine lI w1 3 ?_
   refine lI w1 3 ?_
   refine lSl w1 3 ?_
   refine bf.inl ?_
   refine bQ w1 λH4 w4 s4=>?_
   refine lSl w4 0 ?_
   refine lI w4 0 ?_
   obtain ⟨n5,g5,hp⟩:=ah hp
   obtain ⟨p5,q5,i5,h5,j5⟩:=W.ixo (E:=eI) w4 (i:=3) rfl rfl (qb.step (s1.trans s4)) g5
   refine aA i5 ?_
   refine ⟨_,_,rfl,?_⟩
   refine br ?_
   have h5:_=[_]:=h5
   subst h5
   refine aA (cy (j5 0 _ rfl)) ?_
   refine gd.inl ?_
   obtain ⟨r6,e6,hp⟩:=ah hp
   refine aR (fX.P ⟨w4,trivial⟩ e6) ?_
   rintro _ H7 ⟨rfl,w7,s7,_⟩
   refine br (br (br (br (br ?_))))
   obtain ⟨p8,q8,i8,h8,j8⟩:=W.ixo (E:=eI) w7 (i:=3) rfl rfl (qb.step (s1.trans (s4.trans s7))) g2
   obtain rfl:=Option.some.inj (i2.symm.trans i8)
   have h8:_=[_]:=h8
   subst h8
   refine aA (cy (j8 0 _ rfl)) ?_
   obtain ⟨l9,e9,hp⟩:=ah hp
   refine gD eI w7 (i:=3) (j:=0) (p:=p2) rfl rfl (qb.step (s1.trans (s4.trans s7))) g2 i2 e9 rfl rfl (λ_ h=>by have h:_=[_]:=h;subst h;exact rfl) λH10 k10 w10 s10 c10=>?_
   refine aH hp (λhp=>?_) λhp=>?_
   ·refine aw w10 2 λH11 w11 s11=>?_
    obtain ⟨l12,e12,hp⟩:=ah hp
    refine gD eI w11 (i:=3) (j:=0) (p:=p2) rfl rfl (c10.step s11) (tZ g2 (eQ e9)) i2 e12 rfl rfl (λ_ h=>by have h:_=[_]:=h;subst h;exact rfl) λH13 k13 w13 s13 c13=>?_
    refine ⟨_,_,rfl,?_⟩
    obtain ⟨w14,s14⟩:=w13.pp [2,3,4] 5
    exact ih ((eQ e9).symm.trans (eQ e12).symm) ⟨w14,(s0.trans (s1.trans (s4.trans (s7.trans (s10.trans (s11.trans (s13.trans s14))))))),(c13.step s14)⟩ hp
   ·obtain ⟨p15,q15,i15,h15,j15⟩:=W.ixo (E:=eI) w10 (i:=3) rfl rfl c10 (tZ g2 (eQ e9))
    obtain rfl:=Option.some.inj (i2.symm.trans i15)
    have h15:_=[_]:=h15
    subst h15
    refine aA (cy (j15 0 _ rfl)) ?_
    obtain ⟨r16,e16,hp⟩:=ah hp
    refine aR (cW.P ⟨w10,trivial⟩ e16) ?_
    rintro _ H17 ⟨rfl,w17,s17,_⟩
    refine br ?_
    refine aH hp (λhp=>?_) λhp=>?_
    ·refine aw w17 2 λH18 w18 s18=>?_
     obtain ⟨l19,e19,hp⟩:=ah hp
     refine gD eI w18 (i:=3) (j:=0) (p:=p2) rfl rfl (c10.step (s17.trans s18)) (tZ g2 (eQ e9)) i2 e19 rfl rfl (λ_ h=>by have h:_=[_]:=h;subst h;exact rfl) λH20 k20 w20 s20 c20=>?_
     refine ⟨_,_,rfl,?_⟩
     obtain ⟨w21,s21⟩:=w20.pp [2,3,4] 5
     exact ih ((eQ e9).symm.trans (eQ e19).symm) ⟨w21,(s0.trans (s1.trans (s4.trans (s7.trans (s10.trans (s17.trans (s18.trans (s20.trans s21)))))))),(c20.step s21)⟩ hp
    ·refine ⟨_,_,rfl,?_⟩
     obtain ⟨w22,s22⟩:=w17.pp [2,3,4] 5
     exact ih ((eQ e9).symm) ⟨w22,(s0.trans (s1.trans (s4.trans (s7.trans (s10.trans (s17.trans s22)))))),(c10.step (s17.trans s22))⟩ hp
  ·obtain ⟨w23,s23⟩:=w0.pp [0,1] 3
   exact aP hp ⟨_,rfl,rfl,w23,(s0.trans s23),(qb.step s23)⟩
def cv.p (F:Nat) (aB:Bool) (ai:Int) (au:Int) (ka:asw) (gH:Int) (gI:Int) (gw:Int):Option (Bool×List Int):=cv.pl7 F F aB gH gI gw au ka ai 0
theorem cv.P {ck az cb bX bP bL bY bZ cL b_ ai au gH gI gw aW fb kQ fc fd aB pX aa kR nw ny ka pY pZ vH} (Sw:kR=ka.length) (h0:Inn H (Rs.blk aa [.i ck,.i az,.sl aW,.i cb,.i bX,.sl fb,.i bP,.i bL,.sl kQ,.i bY,.i bZ,.sl fc,.i cL,.i b_,.sl fd,.bool aB]::Rs.ow pX ⟨nw,kR,ny⟩ eI.z pY vH pZ::R0) λR=>CR eI H R vH ka) {r:atv} (hp:cv.p F aB ai au ka gH gI gw=some r):Rt (cv.tw F aa 0 ai au ⟨nw,kR,ny⟩ gH gI gw H) (cv.Q H (Rs.blk aa [.i ck,.i az,.sl aW,.i cb,.i bX,.sl fb,.i bP,.i bL,.sl kQ,.i bY,.i bZ,.sl fc,.i cL,.i b_,.sl fd,.bool aB]::Rs.ow pX ⟨nw,kR,ny⟩ eI.z pY vH pZ::R0) R0 ck az cb bX bP bL bY bZ cL b_ aW fb kQ fc fd aa kR nw ny pX pY pZ r):=by
 obtain ⟨w0,Sx⟩:=h0
 subst Sw
 unfold cv.p at hp
 unfold cv.tw cv.twX
 have s0:=w0.rf
 refine bQ w0 λH1 w1 s1=>?_
 refine lI w1 0 ?_
 obtain ⟨w2,s2⟩:=w1.pp [1,2,0] 3
 exact cv.l7_P F rfl ⟨w2,(s0.trans (s1.trans s2)),(Sx.step (s1.trans s2))⟩ hp
def eS.Q (H0:Hp) (Ri R0:asy) (ck az cb bX bP bL bY bZ cL b_:Int) (fE fF cM:ON) (eM eN ce aa:Nat) (fI fJ cN:Cap) (i_ ja g_:Bool) (jd je jf jg hJ hO:asJ) (fc fd:Sl) (r:atC) (v:AV) (H':Hp):Prop:=∃ pT:List AV,∃ pU:List AV,∃ mG:List AV,v=(.tup [])/\eM=(r.1).length/\eN=(r.2.1).length/\ce=(r.2.2.1).length/\Out H0 Ri H' (Rs.ow i_ ⟨fE,eM,fI⟩ eI.z jd pT je::Rs.ow ja ⟨fF,eN,fJ⟩ eI.z jf pU jg::Rs.ow g_ ⟨cM,ce,cN⟩ eI.z hJ mG hO::Rs.blk aa [.i ck,.i az,.sl ⟨fE,eM,fI⟩,.i cb,.i bX,.sl ⟨fF,eN,fJ⟩,.i bP,.i bL,.sl ⟨cM,ce,cN⟩,.i bY,.i bZ,.sl fc,.i cL,.i b_,.sl fd,.bool (r.2.2.2)]::R0) λR=>CR eI H' R pT (r.1)/\CR eI H' R pU (r.2.1)/\CR eI H' R mG (r.2.2.1)
def eS.p (F:Nat) (az:Int) (fk:asw) (cb:Int) (bX:Int) (gA:asw) (bL:Int) (cP:asw) (aB:Bool) (ai:Int) (cp:Int) (eT:Int):Option (List Int×List Int×List Int×Bool):=(cu.p F aB bL cP ai cp eT).bind λr2=>(cu.p F r2.1 az fk ai cp eT).bind λr5=>(cv.p F r5.1 cb bX gA cp ai (wrap .i64 (0 - eT))).bind λr8=>some (r5.2,r8.2,r2.2,r8.1)
theorem eS.P {ck az cb bX bP bL bY bZ cL b_ ai cp eT fE fF cM eM eN ce aa fI fJ cN fk gA cP i_ ja g_ aB jd je mc jf jg mf hJ hO jZ fc fd} (vC:eM=fk.length) (vD:eN=gA.length) (ma:ce=cP.length) (h0:Inn H (Rs.ow i_ ⟨fE,eM,fI⟩ eI.z jd mc je::Rs.ow ja ⟨fF,eN,fJ⟩ eI.z jf mf jg::Rs.ow g_ ⟨cM,ce,cN⟩ eI.z hJ jZ hO::Rs.blk aa [.i ck,.i az,.sl ⟨fE,eM,fI⟩,.i cb,.i bX,.sl ⟨fF,eN,fJ⟩,.i bP,.i bL,.sl ⟨cM,ce,cN⟩,.i bY,.i bZ,.sl fc,.i cL,.i b_,.sl fd,.bool aB]::R0) λR=>CR eI H R mc fk/\CR eI H R mf gA/\CR eI H R jZ cP) {r:atC} (hp:eS.p F az fk cb bX gA bL cP aB ai cp eT=some r):Rt (eS.tw F aa 0 ai cp eT H) (eS.Q H (Rs.ow i_ ⟨fE,eM,fI⟩ eI.z jd mc je::Rs.ow ja ⟨fF,eN,fJ⟩ eI.z jf mf jg::Rs.ow g_ ⟨cM,ce,cN⟩ eI.z hJ jZ hO::Rs.blk aa [.i ck,.i az,.sl ⟨fE,eM,fI⟩,.i cb,.i bX,.sl ⟨fF,eN,fJ⟩,.i bP,.i bL,.sl ⟨cM,ce,cN⟩,.i bY,.i bZ,.sl fc,.i cL,.i b_,.sl fd,.bool aB]::R0) R0 ck az cb bX bP bL bY bZ cL b_ fE fF cM eM eN ce aa fI fJ cN i_ ja g_ jd je jf jg hJ hO fc fd r):=by
 obtain ⟨w0,tO,tP,kP⟩:=h0
 subst vC
 subst vD
 subst ma
 unfold eS.p at hp
 unfold eS.tw eS.twX
 have s0:=w0.rf
 refine lI w0 3 ?_
 refine lI w0 3 ?_
 refine lSl w0 3 ?_
 obtain ⟨w1,s1⟩:=w0.pp [3,2,0,1] 4
 obtain ⟨r2,e2,hp⟩:=ah hp
 refine aR (cu.P rfl ⟨w1,(kP.step s1)⟩ e2) ?_
 rintro _ H3 ⟨amE,rfl,hl3_0,w3,s3,f3_0⟩
 refine lI w3 0 ?_
 refine lI w3 0 ?_
 refine lSl w3 0 ?_
 obtain ⟨w4,s4⟩:=w3.pp [0,2,1,3] 4
 obtain ⟨r5,e5,hp⟩:=ah hp
 refine aR (cu.P rfl ⟨w4,(tO.step (s1.trans (s3.trans s4)))⟩ e5) ?_
 rintro _ H6 ⟨amF,rfl,hl6_0,w6,s6,f6_0⟩
 refine lI w6 0 ?_
 refine lI w6 0 ?_
 refine lSl w6 0 ?_
 obtain ⟨w7,s7⟩:=w6.pp [0,3,1,2] 4
 obtain ⟨r8,e8,hp⟩:=ah hp
 refine aR (cv.P rfl ⟨w7,(tP.step (s1.trans (s3.trans (s4.trans (s6.trans s7)))))⟩ e8) ?_
 rintro _ H9 ⟨amG,rfl,hl9_0,w9,s9,f9_0⟩
 obtain ⟨w10,s10⟩:=w9.pp [2,1,3,0] 4
 exact aP hp ⟨_,_,_,rfl,hl6_0,hl9_0,hl3_0,w10,(s0.trans (s1.trans (s3.trans (s4.trans (s6.trans (s7.trans (s9.trans s10))))))),(f6_0.step (s7.trans (s9.trans s10))),(f9_0.step s10),(f3_0.step (s4.trans (s6.trans (s7.trans (s9.trans s10)))))⟩
def gy.Q (H0:Hp) (Ri R0:asy) (ck az cb bX bP bL bY bZ cL b_:Int) (aW fb:Sl) (cM fG fH:ON) (ce eO eP aa:Nat) (cN fK fL:Cap) (g_ jb jc:Bool) (hJ hO jh ji jj jk:asJ) (r:atC) (v:AV) (H':Hp):Prop:=∃ mG:List AV,∃ pV:List AV,∃ pW:List AV,v=(.tup [])/\ce=(r.1).length/\eO=(r.2.1).length/\eP=(r.2.2.1).length/\Out H0 Ri H' (Rs.ow g_ ⟨cM,ce,cN⟩ eI.z hJ mG hO::Rs.ow jb ⟨fG,eO,fK⟩ eI.z jh pV ji::Rs.ow jc ⟨fH,eP,fL⟩ eI.z jj pW jk::Rs.blk aa [.i ck,.i az,.sl aW,.i cb,.i bX,.sl fb,.i bP,.i bL,.sl ⟨cM,ce,cN⟩,.i bY,.i bZ,.sl ⟨fG,eO,fK⟩,.i cL,.i b_,.sl ⟨fH,eP,fL⟩,.bool (r.2.2.2)]::R0) λR=>CR eI H' R mG (r.1)/\CR eI H' R pV (r.2.1)/\CR eI H' R pW (r.2.2.1)
def gy.p (F:Nat) (bP:Int) (bL:Int) (cP:asw) (bY:Int) (bZ:Int) (gB:asw) (b_:Int) (gC:asw) (aB:Bool) (ai:Int) (cp:Int) (eT:Int):Option (List Int×List Int×List Int×Bool):=(cv.p F aB bP bL cP ai cp eT).bind λr2=>(cv.p F r2.1 bY bZ gB ai cp eT).bind λr5=>(cu.p F r5.1 b_ gC cp ai (wrap .i64 (0 - eT))).bind λr8=>some (r2.2,r5.2,r8.2,r8.1)
theorem gy.P {ck az cb bX bP bL bY bZ cL b_ ai cp eT aW fb cM fG fH ce eO eP aa cN fK fL cP gB gC g_ jb jc aB hJ hO jZ jh ji mg jj jk mh} (ma:ce=cP.length) (vE:eO=gB.length) (vF:eP=gC.length) (h0:Inn H (Rs.ow g_ ⟨cM,ce,cN⟩ eI.z hJ jZ hO::Rs.ow jb ⟨fG,eO,fK⟩ eI.z jh mg ji::Rs.ow jc ⟨fH,eP,fL⟩ eI.z jj mh jk::Rs.blk aa [.i ck,.i az,.sl aW,.i cb,.i bX,.sl fb,.i bP,.i bL,.sl ⟨cM,ce,cN⟩,.i bY,.i bZ,.sl ⟨fG,eO,fK⟩,.i cL,.i b_,.sl ⟨fH,eP,fL⟩,.bool aB]::R0) λR=>CR eI H R jZ cP/\CR eI H R mg gB/\CR eI H R mh gC) {r:atC} (hp:gy.p F bP bL cP bY bZ gB b_ gC aB ai cp eT=some r):Rt (gy.tw F aa 0 ai cp eT H) (gy.Q H (Rs.ow g_ ⟨cM,ce,cN⟩ eI.z hJ jZ hO::Rs.ow jb ⟨fG,eO,fK⟩ eI.z jh mg ji::Rs.ow jc ⟨fH,eP,fL⟩ eI.z jj mh jk::Rs.blk aa [.i ck,.i az,.sl aW,.i cb,.i bX,.sl fb,.i bP,.i bL,.sl ⟨cM,ce,cN⟩,.i bY,.i bZ,.sl ⟨fG,eO,fK⟩,.i cL,.i b_,.sl ⟨fH,eP,fL⟩,.bool aB]::R0) R0 ck az cb bX bP bL bY bZ cL b_ aW fb cM fG fH ce eO eP aa cN fK fL g_ jb jc hJ hO jh ji jj jk r):=by
 obtain ⟨w0,kP,tQ,tR⟩:=h0
 subst ma
 subst vE
 subst vF
 unfold gy.p at hp
 unfold gy.tw gy.twX
 have s0:=w0.rf
 refine lI w0 3 ?_
 refine lI w0 3 ?_
 refine lSl w0 3 ?_
 obtain ⟨w1,s1⟩:=w0.pp [3,0,1,2] 4
 obtain ⟨r2,e2,hp⟩:=ah hp
 refine aR (cv.P rfl ⟨w1,(kP.step s1)⟩ e2) ?_
 rintro _ H3 ⟨amE,rfl,hl3_0,w3,s3,f3_0⟩
 refine lI w3 0 ?_
 refine lI w3 0 ?_
 refine lSl w3 0 ?_
 obtain ⟨w4,s4⟩:=w3.pp [0,2,1,3] 4
 obtain ⟨r5,e5,hp⟩:=ah hp
 refine aR (cv.P rfl ⟨w4,(tQ.step (s1.trans (s3.trans s4)))⟩ e5) ?_
 rintro _ H6 ⟨amF,rfl,hl6_0,w6,s6,f6_0⟩
 refine lI w6 0 ?_
 refine lI w6 0 ?_
 refine lSl w6 0 ?_
 obtain ⟨w7,s7⟩:=w6.pp [0,3,1,2] 4
 obtain ⟨r8,e8,hp⟩:=ah hp
 refine aR (cu.P rfl ⟨w7,(tR.step (s1.trans (s3.trans (s4.trans (s6.trans s7)))))⟩ e8) ?_
 rintro _ H9 ⟨amG,rfl,hl9_0,w9,s9,f9_0⟩
 obtain ⟨w10,s10⟩:=w9.pp [3,2,1,0] 4
 exact aP hp ⟨_,_,_,rfl,hl3_0,hl6_0,hl9_0,w10,(s0.trans (s1.trans (s3.trans (s4.trans (s6.trans (s7.trans (s9.trans s10))))))),(f3_0.step (s4.trans (s6.trans (s7.trans (s9.trans s10))))),(f6_0.step (s7.trans (s9.trans s10))),(f9_0.step s10)⟩
def aL.Q (H0:Hp) (Ri R0:asy) (ck az cb bX bP bL bY bZ cL b_:Int) (fE fF cM fG fH:ON) (eM eN ce eO eP aa:Nat) (fI fJ cN fK fL:Cap) (i_ ja g_ jb jc:Bool) (jd je jf jg hJ hO jh ji jj jk:asJ) (cP:asw) (r:as0) (v:AV) (H':Hp):Prop:=∃ pT:List AV,∃ pU:List AV,∃ mG:List AV,∃ pV:List AV,∃ pW:List AV,v=(.tup [])/\eM=(r.2.1).length/\eN=(r.2.2.1).length/\ce=(r.2.2.2.1).length/\eO=(r.2.2.2.2.1).length/\eP=(r.2.2.2.2.2).length/\Out H0 Ri H' (Rs.ow i_ ⟨fE,eM,fI⟩ eI.z jd pT je::Rs.ow ja ⟨fF,eN,fJ⟩ eI.z jf pU jg::Rs.ow g_ ⟨cM,ce,cN⟩ eI.z hJ mG hO::Rs.ow jb ⟨fG,eO,fK⟩ eI.z jh pV ji::Rs.ow jc ⟨fH,eP,fL⟩ eI.z jj pW jk::Rs.blk aa [.i ck,.i az,.sl ⟨fE,eM,fI⟩,.i cb,.i bX,.sl ⟨fF,eN,fJ⟩,.i bP,.i bL,.sl ⟨cM,ce,cN⟩,.i bY,.i bZ,.sl ⟨fG,eO,fK⟩,.i cL,.i b_,.sl ⟨fH,eP,fL⟩,.bool (r.1)]::R0) λR=>CR eI H' R pT (r.2.1)/\CR eI H' R pU (r.2.2.1)/\CR eI H' R mG (r.2.2.2.1)/\CR eI H' R pV (r.2.2.2.2.1)/\CR eI H' R pW (r.2.2.2.2.2)
def aL.S13 (H0:Hp) (Ri R0:asy) (aQ ay bj aE aF aD aI aJ bR aK:Int) (de df bo dg dh:ON) (cE cF aS cG cH aO:Nat) (di dj bp dk dl:Cap) (dX dY dZ d_ ed:Bool) (ee eg en eo eu eC eD eE eF eG:asJ) (bN:asw) (C:atr) (pC:atJ):Prop:=∀ {aZ bh a_ bk bl fu fv fw fx fy aB dE qH nu iD du},∀ {H:Hp},cE=aZ.length->cF=bh.length->aS=a_.length->cG=bk.length->cH=bl.length->(Out H0 Ri H (Rs.ow dX ⟨de,cE,di⟩ eI.z ee fu eg::Rs.ow dY ⟨df,cF,dj⟩ eI.z en fv eo::Rs.ow dZ ⟨bo,aS,bp⟩ eI.z eu fw eC::Rs.ow d_ ⟨dg,cG,dk⟩ eI.z eD fx eE::Rs.ow ed ⟨dh,cH,dl⟩ eI.z eF fy eG::Rs.blk aO [.i aQ,.i ay,.sl ⟨de,cE,di⟩,.i bj,.i aE,.sl ⟨df,cF,dj⟩,.i aF,.i aD,.sl ⟨bo,aS,bp⟩,.i aI,.i aJ,.sl ⟨dg,cG,dk⟩,.i bR,.i aK,.sl ⟨dh,cH,dl⟩,.bool aB]::Rs.blk du [.i qH,.i nu,.sl ⟨bo,aS,bp⟩]::R0) λR=>CR eI H R fu aZ/\CR eI H R fv bh/\CR eI H R fw a_/\CR eI H R fx bk/\CR eI H R fy bl)->∀ {r:as0},pC ay aZ bj aE bh aF aD a_ aI aJ bk aK bl aB dE qH nu iD=some r->Rt (C aO 0 dE du 0 iD H) (aL.Q H0 Ri R0 aQ ay bj aE aF aD aI aJ bR aK de df bo dg dh cE cF aS cG cH aO di dj bp dk dl dX dY dZ d_ ed ee eg en eo eu eC eD eE eF eG bN r)
def aL.pj5 (F:Nat) (qc:atJ) (ay:Int) (aZ:asw) (bj:Int) (aE:Int) (bh:asw) (aF:Int) (aD:Int) (a_:asw) (aI:Int) (aJ:Int) (bk:asw) (aK:Int) (bl:asw) (aB:Bool) (zq:Int) (JJ:Int) (JK:Int) (zt:Int):Option (Bool×List Int×List Int×List Int×List Int×List Int):=qc ay aZ bj aE bh aF aD a_ aI aJ bk aK bl aB zq JJ JK (wrap .i64 (zt+1))
theorem aL.j5_P {aQ ay bj aE aF aD aI aJ bR aK de df bo dg dh cE cF aS cG cH aO di dj bp dk dl dX dY dZ d_ ed ee eg en eo eu eC eD eE eF eG bN} {C13_:atr} {qc:atJ} (hC13:aL.S13 H0 Ri R0 aQ ay bj aE aF aD aI aJ bR aK de df bo dg dh cE cF aS cG cH aO di dj bp dk dl dX dY dZ d_ ed ee eg en eo eu eC eD eE eF eG bN C13_ qc) {aZ bh a_ bk bl fu fv fw fx fy aB zq JJ JK zt Gx} (jz:cE=aZ.length) (jA:cF=bh.length) (jB:aS=a_.length) (jC:cG=bk.length) (jD:cH=bl.length) (h0:Out H0 Ri H (Rs.ow dX ⟨de,cE,di⟩ eI.z ee fu eg::Rs.ow dY ⟨df,cF,dj⟩ eI.z en fv eo::Rs.ow dZ ⟨bo,aS,bp⟩ eI.z eu fw eC::Rs.ow d_ ⟨dg,cG,dk⟩ eI.z eD fx eE::Rs.ow ed ⟨dh,cH,dl⟩ eI.z eF fy eG::Rs.blk aO [.i aQ,.i ay,.sl ⟨de,cE,di⟩,.i bj,.i aE,.sl ⟨df,cF,dj⟩,.i aF,.i aD,.sl ⟨bo,aS,bp⟩,.i aI,.i aJ,.sl ⟨dg,cG,dk⟩,.i bR,.i aK,.sl ⟨dh,cH,dl⟩,.bool aB]::Rs.blk Gx [.i JJ,.i JK,.sl ⟨bo,aS,bp⟩]::R0) λR=>CR eI H R fu aZ/\CR eI H R fv bh/\CR eI H R fw a_/\CR eI H R fx bk/\CR eI H R fy bl) {r:as0} (hp:aL.pj5 F qc ay aZ bj aE bh aF aD a_ aI aJ bk aK bl aB zq JJ JK zt=some r):Rt (aL.j5 F (bf.tw F) (ic.tw F) (eS.tw F) (gy.tw F) C13_ aO 0 zq Gx 0 zt H) (aL.Q H0 Ri R0 aQ ay bj aE aF aD aI aJ bR aK de df bo dg dh cE cF aS cG cH aO di dj bp dk dl dX dY dZ d_ ed ee eg en eo eu eC eD eE eF eG bN r):=by
 obtain ⟨w0,s0,gM,gn,fR,gN,gO⟩:=h0
 subst jz
 subst jA
 subst jB
 subst jC
 subst jD
 unfold aL.pj5 at hp
 unfold aL.j5
 exact hC13 rfl rfl rfl rfl rfl ⟨w0,s0,gM,gn,fR,gN,gO⟩ hp
def aL.S15 (H0:Hp) (Ri R0:asy) (aQ ay bj aE aF aD aI aJ bR aK:Int) (de df bo dg dh:ON) (cE cF aS cG cH aO:Nat) (di dj bp dk dl:Cap) (dX dY dZ d_ ed:Bool) (ee eg en eo eu eC eD eE eF eG:asJ) (bN:asw) (C:atr) (pC:atK):Prop:=∀ {aZ bh a_ bk bl fu fv fw fx fy aB iM ab1 rM kF lR},∀ {H:Hp},cE=aZ.length->cF=bh.length->aS=a_.length->cG=bk.length->cH=bl.length->(Out H0 Ri H (Rs.ow dX ⟨de,cE,di⟩ eI.z ee fu eg::Rs.ow dY ⟨df,cF,dj⟩ eI.z en fv eo::Rs.ow dZ ⟨bo,aS,bp⟩ eI.z eu fw eC::Rs.ow d_ ⟨dg,cG,dk⟩ eI.z eD fx eE::Rs.ow ed ⟨dh,cH,dl⟩ eI.z eF fy eG::Rs.blk aO [.i aQ,.i ay,.sl ⟨de,cE,di⟩,.i bj,.i aE,.sl ⟨df,cF,dj⟩,.i aF,.i aD,.sl ⟨bo,aS,bp⟩,.i aI,.i aJ,.sl ⟨dg,cG,dk⟩,.i bR,.i aK,.sl ⟨dh,cH,dl⟩,.bool aB]::Rs.blk lR [.i ab1,.i rM,.sl ⟨bo,aS,bp⟩]::R0) λR=>CR eI H R fu aZ/\CR eI H R fv bh/\CR eI H R fw a_/\CR eI H R fx bk/\CR eI H R fy bl)->∀ {r:as0},pC aZ bh aF aD a_ aI aJ bk aK bl aB iM rM kF=some r->Rt (C aO 0 iM lR 0 kF H) (aL.Q H0 Ri R0 aQ ay bj aE aF aD aI aJ bR aK de df bo dg dh cE cF aS cG cH aO di dj bp dk dl dX dY dZ d_ ed ee eg en eo eu eC eD eE eF eG bN r)
def aL.pj3 (F:Nat) (JL:atK) (aZ:asw) (bh:asw) (aF:Int) (aD:Int) (a_:asw) (aI:Int) (aJ:Int) (bk:asw) (aK:Int) (bl:asw) (aB:Bool) (zo:Int) (JM:Int) (zp:Int):Option (Bool×List Int×List Int×List Int×List Int×List Int):=JL aZ bh aF aD a_ aI aJ bk aK bl aB zo JM (wrap .i64 (zp+1))
theorem aL.j3_P {aQ ay bj aE aF aD aI aJ bR aK de df bo dg dh cE cF aS cG cH aO di dj bp dk dl dX dY dZ d_ ed ee eg en eo eu eC eD eE eF eG bN} {C15_:atr} {JL:atK} (hC15:aL.S15 H0 Ri R0 aQ ay bj aE aF aD aI aJ bR aK de df bo dg dh cE cF aS cG cH aO di dj bp dk dl dX dY dZ d_ ed ee eg en eo eu eC eD eE eF eG bN C15_ JL) {aZ bh a_ bk bl fu fv fw fx fy aB zo amH JM zp Gv} (jz:cE=aZ.length) (jA:cF=bh.length) (jB:aS=a_.length) (jC:cG=bk.length) (jD:cH=bl.length) (h0:Out H0 Ri H (Rs.ow dX ⟨de,cE,di⟩ eI.z ee fu eg::Rs.ow dY ⟨df,cF,dj⟩ eI.z en fv eo::Rs.ow dZ ⟨bo,aS,bp⟩ eI.z eu fw eC::Rs.ow d_ ⟨dg,cG,dk⟩ eI.z eD fx eE::Rs.ow ed ⟨dh,cH,dl⟩ eI.z eF fy eG::Rs.blk aO [.i aQ,.i ay,.sl ⟨de,cE,di⟩,.i bj,.i aE,.sl ⟨df,cF,dj⟩,.i aF,.i aD,.sl ⟨bo,aS,bp⟩,.i aI,.i aJ,.sl ⟨dg,cG,dk⟩,.i bR,.i aK,.sl ⟨dh,cH,dl⟩,.bool aB]::Rs.blk Gv [.i amH,.i JM,.sl ⟨bo,aS,bp⟩]::R0) λR=>CR eI H R fu aZ/\CR eI H R fv bh/\CR eI H R fw a_/\CR eI H R fx bk/\CR eI H R fy bl) {r:as0} (hp:aL.pj3 F JL aZ bh aF aD a_ aI aJ bk aK bl aB zo JM zp=some r):Rt (aL.j3 F (bf.tw F) (ic.tw F) (eS.tw F) (gy.tw F) C15_ aO 0 zo Gv 0 zp H) (aL.Q H0 Ri R0 aQ ay bj aE aF aD aI aJ bR aK de df bo dg dh cE cF aS cG cH aO di dj bp dk dl dX dY dZ d_ ed ee eg en eo eu eC eD eE eF eG bN r):=by
 obtain ⟨w0,s0,gM,gn,fR,gN,gO⟩:=h0
 subst jz
 subst jA
 subst jB
 subst jC
 subst jD
 unfold aL.pj3 at hp
 unfold aL.j3
 exact hC15 rfl rfl rfl rfl rfl ⟨w0,s0,gM,gn,fR,gN,gO⟩ hp
def aL.pl15 (F:Nat) :Nat->List Int->List Int->Int->Int->List Int->Int->Int->List Int->Int->List Int->Bool->Int->Int->Int->Option (Bool×List Int×List Int×List Int×List Int×List Int)
 | 0,_,_,_,_,_,_,_,_,_,_,_,_,_,_=>none
 | k+1,aZ,bh,aF,aD,a_,aI,aJ,bk,aK,bl,aB,iM,rM,kF=>(bif (decide (kF<rM)) then ((bif (!aB) then ((ix a_ (wrap .i64 ((wrap .i64 (iM * rM))+kF))).bind λn2=>(ix a_ (wrap .i64 ((wrap .i64 (iM * rM))+iM))).bind λn5=>(ic.p F (gt a_ n2) (gt a_ n5)).bind λr7=>(bif (r7 != 0) then ((gy.p F aF aD a_ aI aJ bk aK bl aB kF iM (wrap .i64 (0 - r7))).bind λr10=>aL.pj3 F (aL.pl15 F k) aZ bh aF aD r10.1 aI aJ r10.2.1 aK r10.2.2.1 r10.2.2.2 iM rM kF) else (aL.pj3 F (aL.pl15 F k) aZ bh aF aD a_ aI aJ bk aK bl aB iM rM kF))) else (some (aB,aZ,bh,a_,bk,bl)))) else (some (aB,aZ,bh,a_,bk,bl)))
theorem aL.l15_P {aQ ay bj aE aF aD aI aJ bR aK de df bo dg dh cE cF aS cG cH aO di dj bp dk dl dX dY dZ d_ ed ee eg en eo eu eC eD eE eF eG bN} :∀ k,aL.S15 H0 Ri R0 aQ ay bj aE aF aD aI aJ bR aK de df bo dg dh cE cF aS cG cH aO di dj bp dk dl dX dY dZ d_ ed ee eg en eo eu eC eD eE eF eG bN (aL.l15 F (bf.tw F) (ic.tw F) (eS.tw F) (gy.tw F)  k) (aL.pl15 F  k):=by
 intro k
 induction k with
 | zero=>unfold aL.S15;intros;rename_i hp;cases hp
 | succ k ih=>
  intro aZ bh a_ bk bl fu fv fw fx fy aB iM ab1 rM kF lR H jz jA jB jC jD h0 r hp
  obtain ⟨w0,s0,gM,gn,fR,gN,gO⟩:=h0
  subst jz
  subst jA
  subst jB
  subst jC
  subst jD
  unfold aL.pl15 at hp
  unfold aL.l15
  refine lI w0 6 ?_
  refine aH hp (λhp=>?_) λhp=>?_
  ·refine lB w0 5 ?_
   refine aH hp (λhp=>?_) λhp=>?_
   ·refine lI w0 6 ?_
    refine lI w0 6 ?_
    refine lSl w0 6 ?_
    refine bf.inl ?_
    refine bQ w0 λH1 w1 s1=>?_
    refine lSl w1 0 ?_
    refine lI w1 0 ?_
    obtain ⟨n2,g2,hp⟩:=ah hp
    obtain ⟨p2,q2,i2,h2,j2⟩:=W.ixo (E:=eI) w1 (i:=3) rfl rfl (fR.step s1) g2
    refine aA i2 ?_
    refine ⟨_,_,rfl,?_⟩
    refine br ?_
    refine fU (W.cons_of (Rn:=[_]) w0 w1 s1) ?_
    have h2:_=[_]:=h2
    subst h2
    refine aA (cy (j2 0 _ rfl)) ?_
    refine lI w1 7 ?_
    refine lI w1 7 ?_
    refine lSl w1 7 ?_
    refine bf.inl ?_
    refine bQ w1 λH4 w4 s4=>?_
    refine lSl w4 0 ?_
    refine lI w4 0 ?_
    obtain ⟨n5,g5,hp⟩:=ah hp
    obtain ⟨p5,q5,i5,h5,j5⟩:=W.ixo (E:=eI) w4 (i:=4) rfl rfl (fR.step (s1.trans s4)) g5
    refine aA i5 ?_
    refine ⟨_,_,rfl,?_⟩
    refine br ?_
    refine fU (W.cons_of (Rn:=[_]) w1 w4 s4) ?_
    have h5:_=[_]:=h5
    subst h5
    refine aA (cy (j5 0 _ rfl)) ?_
    obtain ⟨r7,e7,hp⟩:=ah hp
    refine aR (ic.P ⟨w4,trivial⟩ e7) ?_
    rintro _ H8 ⟨rfl,w8,s8,_⟩
    refine br ?_
    refine aH hp (λhp=>?_) λhp=>?_
    ·obtain ⟨w9,s9⟩:=w8.pp [4,5,6,7,0,1,2,3,8] 9
     obtain ⟨r10,e10,hp⟩:=ah hp
     refine aR (gy.P rfl rfl rfl ⟨w9,(fR.step (s1.trans (s4.trans (s8.trans s9)))),(gN.step (s1.trans (s4.trans (s8.trans s9)))),(gO.step (s1.trans (s4.trans (s8.trans s9))))⟩ e10) ?_
     rintro _ H11 ⟨amI,arQ,arR,rfl,hl11_0,hl11_1,hl11_2,w11,s11,f11_0,f11_1,f11_2⟩
     obtain ⟨w12,s12⟩:=w11.pp [6,7,0,1,2,3,8] 9
     exact aL.j3_P (@ih) rfl rfl hl11_0 hl11_1 hl11_2 ⟨w12,(s0.trans (s1.trans (s4.trans (s8.trans (s9.trans (s11.trans s12)))))),(gM.step (s1.trans (s4.trans (s8.trans (s9.trans (s11.trans s12)))))),(gn.step (s1.trans (s4.trans (s8.trans (s9.trans (s11.trans s12)))))),(f11_0.step s12),(f11_1.step s12),(f11_2.step s12)⟩ hp
    ·obtain ⟨w13,s13⟩:=w8.pp [2,3,4,5,6,7,8] 9
     exact aL.j3_P (@ih) rfl rfl rfl rfl rfl ⟨w13,(s0.trans (s1.trans (s4.trans (s8.trans s13)))),(gM.step (s1.trans (s4.trans (s8.trans s13)))),(gn.step (s1.trans (s4.trans (s8.trans s13)))),(fR.step (s1.trans (s4.trans (s8.trans s13)))),(gN.step (s1.trans (s4.trans (s8.trans s13)))),(gO.step (s1.trans (s4.trans (s8.trans s13))))⟩ hp
   ·obtain ⟨w14,s14⟩:=w0.pp [0,1,2,3,4,5] 7
    exact aP hp ⟨_,_,_,_,_,rfl,rfl,rfl,rfl,rfl,rfl,w14,(s0.trans s14),(gM.step s14),(gn.step s14),(fR.step s14),(gN.step s14),(gO.step s14)⟩
  ·obtain ⟨w15,s15⟩:=w0.pp [0,1,2,3,4,5] 7
   exact aP hp ⟨_,_,_,_,_,rfl,rfl,rfl,rfl,rfl,rfl,w15,(s0.trans s15),(gM.step s15),(gn.step s15),(fR.step s15),(gN.step s15),(gO.step s15)⟩
def aL.pj4 (F:Nat)  (aZ:asw) (bh:asw) (aF:Int) (aD:Int) (a_:asw) (aI:Int) (aJ:Int) (bk:asw) (aK:Int) (bl:asw) (aB:Bool) (sZ:Int) (JN:Int):Option (Bool×List Int×List Int×List Int×List Int×List Int):=aL.pl15 F F aZ bh aF aD a_ aI aJ bk aK bl aB sZ JN (wrap .i64 (sZ+1))
theorem aL.j4_P {aQ ay bj aE aF aD aI aJ bR aK de df bo dg dh cE cF aS cG cH aO di dj bp dk dl dX dY dZ d_ ed ee eg en eo eu eC eD eE eF eG bN}  {aZ bh a_ bk bl fu fv fw fx fy aB sZ amJ JN Gw} (jz:cE=aZ.length) (jA:cF=bh.length) (jB:aS=a_.length) (jC:cG=bk.length) (jD:cH=bl.length) (h0:Out H0 Ri H (Rs.ow dX ⟨de,cE,di⟩ eI.z ee fu eg::Rs.ow dY ⟨df,cF,dj⟩ eI.z en fv eo::Rs.ow dZ ⟨bo,aS,bp⟩ eI.z eu fw eC::Rs.ow d_ ⟨dg,cG,dk⟩ eI.z eD fx eE::Rs.ow ed ⟨dh,cH,dl⟩ eI.z eF fy eG::Rs.blk aO [.i aQ,.i ay,.sl ⟨de,cE,di⟩,.i bj,.i aE,.sl ⟨df,cF,dj⟩,.i aF,.i aD,.sl ⟨bo,aS,bp⟩,.i aI,.i aJ,.sl ⟨dg,cG,dk⟩,.i bR,.i aK,.sl ⟨dh,cH,dl⟩,.bool aB]::Rs.blk Gw [.i amJ,.i JN,.sl ⟨bo,aS,bp⟩]::R0) λR=>CR eI H R fu aZ/\CR eI H R fv bh/\CR eI H R fw a_/\CR eI H R fx bk/\CR eI H R fy bl) {r:as0} (hp:aL.pj4 F  aZ bh aF aD a_ aI aJ bk aK bl aB sZ JN=some r):Rt (aL.j4 F (bf.tw F) (ic.tw F) (eS.tw F) (gy.tw F)  aO 0 sZ Gw 0 H) (aL.Q H0 Ri R0 aQ ay bj aE aF aD aI aJ bR aK de df bo dg dh cE cF aS cG cH aO di dj bp dk dl dX dY dZ d_ ed ee eg en eo eu eC eD eE eF eG bN r):=by
 obtain ⟨w0,s0,gM,gn,fR,gN,gO⟩:=h0
 subst jz
 subst jA
 subst jB
 subst jC
 subst jD
 unfold aL.pj4 at hp
 unfold aL.j4
 exact aL.l15_P F rfl rfl rfl rfl rfl ⟨w0,s0,gM,gn,fR,gN,gO⟩ hp
def aL.pl13 (F:Nat) :Nat->Int->List Int->Int->Int->List Int->Int->Int->List Int->Int->Int->List Int->Int->List Int->Bool->Int->Int->Int->Int->Option (Bool×List Int×List Int×List Int×List Int×List Int)
 | 0,_,_,_,_,_,_,_,_,_,_,_,_,_,_,_,_,_,_=>none
 | k+1,ay,aZ,bj,aE,bh,aF,aD,a_,aI,aJ,bk,aK,bl,aB,dE,qH,nu,iD=>(bif (decide (iD<qH)) then ((bif (!aB) then ((ix a_ (wrap .i64 ((wrap .i64 (iD * nu))+dE))).bind λn2=>(ix a_ (wrap .i64 ((wrap .i64 (dE * nu))+dE))).bind λn5=>(ic.p F (gt a_ n2) (gt a_ n5)).bind λr7=>(bif (r7 != 0) then ((eS.p F ay aZ bj aE bh aD a_ aB iD dE (wrap .i64 (0 - r7))).bind λr10=>aL.pj5 F (aL.pl13 F k) ay r10.1 bj aE r10.2.1 aF aD r10.2.2.1 aI aJ bk aK bl r10.2.2.2 dE qH nu iD) else (aL.pj5 F (aL.pl13 F k) ay aZ bj aE bh aF aD a_ aI aJ bk aK bl aB dE qH nu iD))) else (aL.pj4 F aZ bh aF aD a_ aI aJ bk aK bl aB dE nu))) else (aL.pj4 F aZ bh aF aD a_ aI aJ bk aK bl aB dE nu))
theorem aL.l13_P {aQ ay bj aE aF aD aI aJ bR aK de df bo dg dh cE cF aS cG cH aO di dj bp dk dl dX dY dZ d_ ed ee eg en eo eu eC eD eE eF eG bN} :∀ k,aL.S13 H0 Ri R0 aQ ay bj aE aF aD aI aJ bR aK de df bo dg dh cE cF aS cG cH aO di dj bp dk dl dX dY dZ d_ ed ee eg en eo eu eC eD eE eF eG bN (aL.l13 F (bf.tw F) (ic.tw F) (eS.tw F) (gy.tw F)  k) (aL.pl13 F  k):=by
 intro k
 induction k with
 | zero=>unfold aL.S13;intros;rename_i hp;cases hp
 | succ k ih=>
  intro aZ bh a_ bk bl fu fv fw fx fy aB dE qH nu iD du H jz jA jB jC jD h0 r hp
  obtain ⟨w0,s0,gM,gn,fR,gN,gO⟩:=h0
  subst jz
  subst jA
  subst jB
  subst jC
  subst jD
  unfold aL.pl13 at hp
  unfold aL.l13
  refine lI w0 6 ?_
  refine aH hp (λhp=>?_) λhp=>?_
  ·refine lB w0 5 ?_
   refine aH hp (λhp=>?_) λhp=>?_
   ·refine lI w0 6 ?_
    refine lI w0 6 ?_
    refine lSl w0 6 ?_
    refine bf.inl ?_
    refine bQ w0 λH1 w1 s1=>?_
    refine lSl w1 0 ?_
    refine lI w1 0 ?_
    obtain ⟨n2,g2,hp⟩:=ah hp
    obtain ⟨p2,q2,i2,h2,j2⟩:=W.ixo (E:=eI) w1 (i:=3) rfl rfl (fR.step s1) g2
    refine aA i2 ?_
    refine ⟨_,_,rfl,?_⟩
    refine br ?_
    refine fU (W.cons_of (Rn:=[_]) w0 w1 s1) ?_
    have h2:_=[_]:=h2
    subst h2
    refine aA (cy (j2 0 _ rfl)) ?_
    refine lI w1 7 ?_
    refine lI w1 7 ?_
    refine lSl w1 7 ?_
    refine bf.inl ?_
    refine bQ w1 λH4 w4 s4=>?_
    refine lSl w4 0 ?_
    refine lI w4 0 ?_
    obtain ⟨n5,g5,hp⟩:=ah hp
    obtain ⟨p5,q5,i5,h5,j5⟩:=W.ixo (E:=eI) w4 (i:=4) rfl rfl (fR.step (s1.trans s4)) g5
    refine aA i5 ?_
    refine ⟨_,_,rfl,?_⟩
    refine br ?_
    refine fU (W.cons_of (Rn:=[_]) w1 w4 s4) ?_
    have h5:_=[_]:=h5
    subst h5
    refine aA (cy (j5 0 _ rfl)) ?_
    obtain ⟨r7,e7,hp⟩:=ah hp
    refine aR (ic.P ⟨w4,trivial⟩ e7) ?_
    rintro _ H8 ⟨rfl,w8,s8,_⟩
    refine br ?_
    refine aH hp (λhp=>?_) λhp=>?_
    ·obtain ⟨w9,s9⟩:=w8.pp [2,3,4,7,0,1,5,6,8] 9
     obtain ⟨r10,e10,hp⟩:=ah hp
     refine aR (eS.P rfl rfl rfl ⟨w9,(gM.step (s1.trans (s4.trans (s8.trans s9)))),(gn.step (s1.trans (s4.trans (s8.trans s9)))),(fR.step (s1.trans (s4.trans (s8.trans s9))))⟩ e10) ?_
     rintro _ H11 ⟨arS,arT,amI,rfl,hl11_0,hl11_1,hl11_2,w11,s11,f11_0,f11_1,f11_2⟩
     obtain ⟨w12,s12⟩:=w11.pp [0,1,2,6,7,3,8] 9
     exact aL.j5_P (@ih) hl11_0 hl11_1 hl11_2 rfl rfl ⟨w12,(s0.trans (s1.trans (s4.trans (s8.trans (s9.trans (s11.trans s12)))))),(f11_0.step s12),(f11_1.step s12),(f11_2.step s12),(gN.step (s1.trans (s4.trans (s8.trans (s9.trans (s11.trans s12)))))),(gO.step (s1.trans (s4.trans (s8.trans (s9.trans (s11.trans s12))))))⟩ hp
    ·obtain ⟨w13,s13⟩:=w8.pp [2,3,4,5,6,7,8] 9
     exact aL.j5_P (@ih) rfl rfl rfl rfl rfl ⟨w13,(s0.trans (s1.trans (s4.trans (s8.trans s13)))),(gM.step (s1.trans (s4.trans (s8.trans s13)))),(gn.step (s1.trans (s4.trans (s8.trans s13)))),(fR.step (s1.trans (s4.trans (s8.trans s13)))),(gN.step (s1.trans (s4.trans (s8.trans s13)))),(gO.step (s1.trans (s4.trans (s8.trans s13))))⟩ hp
   ·exact aL.j4_P rfl rfl rfl rfl rfl ⟨w0,s0,gM,gn,fR,gN,gO⟩ hp
  ·exact aL.j4_P rfl rfl rfl rfl rfl ⟨w0,s0,gM,gn,fR,gN,gO⟩ hp
def aL.p (F:Nat) (az:Int) (fk:asw) (cb:Int) (bX:Int) (gA:asw) (bP:Int) (bL:Int) (cP:asw) (bY:Int) (bZ:Int) (gB:asw) (b_:Int) (gC:asw) (aB:Bool) (ai:Int):Option (Bool×List Int×List Int×List Int×List Int×List Int):=aL.pl13 F F az fk cb bX gA bP bL cP bY bZ gB b_ gC aB ai bP bL (wrap .i64 (ai+1))
theorem aL.P {ck az cb bX bP bL bY bZ cL b_ ai fE fF cM fG fH eM eN ce eO eP aa fI fJ cN fK fL fk gA cP gB gC i_ ja g_ jb jc aB jd je mc jf jg mf hJ hO jZ jh ji mg jj jk mh} (vC:eM=fk.length) (vD:eN=gA.length) (ma:ce=cP.length) (vE:eO=gB.length) (vF:eP=gC.length) (h0:Inn H (Rs.ow i_ ⟨fE,eM,fI⟩ eI.z jd mc je::Rs.ow ja ⟨fF,eN,fJ⟩ eI.z jf mf jg::Rs.ow g_ ⟨cM,ce,cN⟩ eI.z hJ jZ hO::Rs.ow jb ⟨fG,eO,fK⟩ eI.z jh mg ji::Rs.ow jc ⟨fH,eP,fL⟩ eI.z jj mh jk::Rs.blk aa [.i ck,.i az,.sl ⟨fE,eM,fI⟩,.i cb,.i bX,.sl ⟨fF,eN,fJ⟩,.i bP,.i bL,.sl ⟨cM,ce,cN⟩,.i bY,.i bZ,.sl ⟨fG,eO,fK⟩,.i cL,.i b_,.sl ⟨fH,eP,fL⟩,.bool aB]::R0) λR=>CR eI H R mc fk/\CR eI H R mf gA/\CR eI H R jZ cP/\CR eI H R mg gB/\CR eI H R mh gC) {r:as0} (hp:aL.p F az fk cb bX gA bP bL cP bY bZ gB b_ gC aB ai=some r):Rt (aL.tw F aa 0 ai H) (aL.Q H (Rs.ow i_ ⟨fE,eM,fI⟩ eI.z jd mc je::Rs.ow ja ⟨fF,eN,fJ⟩ eI.z jf mf jg::Rs.ow g_ ⟨cM,ce,cN⟩ eI.z hJ jZ hO::Rs.ow jb ⟨fG,eO,fK⟩ eI.z jh mg ji::Rs.ow jc ⟨fH,eP,fL⟩ eI.z jj mh jk::Rs.blk aa [.i ck,.i az,.sl ⟨fE,eM,fI⟩,.i cb,.i bX,.sl ⟨fF,eN,fJ⟩,.i bP,.i bL,.sl ⟨cM,ce,cN⟩,.i bY,.i bZ,.sl ⟨fG,eO,fK⟩,.i cL,.i b_,.sl ⟨fH,eP,fL⟩,.bool aB]::R0) R0 ck az cb bX bP bL bY bZ cL b_ fE fF cM fG fH eM eN ce eO eP aa fI fJ cN fK fL i_ ja g_ jb jc jd je jf jg hJ hO jh ji jj jk cP r):=by
 obtain ⟨w0,tO,tP,kP,tQ,tR⟩:=h0
 subst vC
 subst vD
 subst ma
 subst vE
 subst vF
 unfold aL.p at hp
 unfold aL.tw aL.twX
 have s0:=w0.rf
 refine lI w0 5 ?_
 refine lI w0 5 ?_
 refine lSl w0 5 ?_
 refine bQ w0 λH1 w1 s1=>?_
 refine aw w1 0 λH2 w2 s2=>?_
 refine aw w2 0 λH3 w3 s3=>?_
 refine aw w3 0 λH4 w4 s4=>?_
 obtain ⟨w5,s5⟩:=w4.pp [1,2,3,4,5,6,0] 7
 exact aL.l13_P F rfl rfl rfl rfl rfl ⟨w5,(s0.trans (s1.trans (s2.trans (s3.trans (s4.trans s5))))),(tO.step (s1.trans (s2.trans (s3.trans (s4.trans s5))))),(tP.step (s1.trans (s2.trans (s3.trans (s4.trans s5))))),(kP.step (s1.trans (s2.trans (s3.trans (s4.trans s5))))),(tQ.step (s1.trans (s2.trans (s3.trans (s4.trans s5))))),(tR.step (s1.trans (s2.trans (s3.trans (s4.trans s5)))))⟩ hp
def jx.Q (H0:Hp) (Ri R0:asy)  (r:Bool) (v:AV) (H':Hp):Prop:=v=(.bool r)/\Out H0 Ri H' (R0) λR=>True
def jx.p (F:Nat) (aa:Int):Option (Bool):=some (aa != 0)
theorem jx.P {aa}  (h0:Inn H R0 λR=>True) {r:Bool} (hp:jx.p F aa=some r):Rt (jx.tw F aa H) (jx.Q H R0 R0  r):=by
 obtain ⟨w0,_⟩:=h0
 unfold jx.p at hp
 unfold jx.tw jx.twX
 have s0:=w0.rf
 exact aP hp ⟨rfl,w0,s0,trivial⟩
def dp.Q (H0:Hp) (Ri R0:asy)  (r:Int) (v:AV) (H':Hp):Prop:=v=(.i r)/\Out H0 Ri H' (R0) λR=>True
def dp.S13 (H0:Hp) (Ri R0:asy)  (C:Sl->Int->Int->Hp->OA) (pC:atO):Prop:=∀ {pO mC pP dW gR eW},∀ {H:Hp},mC=dW.length->(Out H0 Ri H R0 λR=>ROs eI H R ⟨pO,mC,pP⟩ dW)->∀ {r:Int},pC dW gR eW=some r->Rt (C ⟨pO,mC,pP⟩ gR eW H) (dp.Q H0 Ri R0  r)
def dp.pl13 (F:Nat) :Nat->List Int->Int->Int->Option (Int)
 | 0,_,_,_=>none
 | k+1,dW,gR,eW=>(bif (decide (eW<gR)) then ((ix dW eW).bind λn1=>(jx.p F (gt dW n1)).bind λr2=>(bif r2 then (some eW) else (dp.pl13 F k dW gR (wrap .i64 (eW+1))))) else (some (-1)))
theorem dp.l13_P  :∀ k,dp.S13 H0 Ri R0  (dp.l13 F (jx.tw F)  k) (dp.pl13 F  k):=by
 intro k
 induction k with
 | zero=>unfold dp.S13;intros;rename_i hp;cases hp
 | succ k ih=>
  intro pO mC pP dW gR eW H BX h0 r hp
  obtain ⟨w0,s0,kW⟩:=h0
  subst BX
  unfold dp.pl13 at hp
  unfold dp.l13
  refine aH hp (λhp=>?_) λhp=>?_
  ·obtain ⟨n1,g1,hp⟩:=ah hp
   obtain ⟨p1,q1,i1,h1,j1⟩:=ROs.ixr kW rfl g1
   refine aA i1 ?_
   have h1:_=[_]:=h1
   subst h1
   refine aA (cy (j1 0 _ rfl)) ?_
   obtain ⟨r2,e2,hp⟩:=ah hp
   refine aR (jx.P ⟨w0,trivial⟩ e2) ?_
   rintro _ H3 ⟨rfl,w3,s3,_⟩
   refine br ?_
   refine aH hp (λhp=>?_) λhp=>?_
   ·exact aP hp ⟨rfl,w3,(s0.trans s3),trivial⟩
   ·exact ih rfl ⟨w3,(s0.trans s3),(kW.step s3)⟩ hp
  ·exact aP hp ⟨rfl,w0,s0,trivial⟩
def dp.p (F:Nat) (aY:asw):Option (Int):=dp.pl13 F F aY (aY.length:Int) 0
theorem dp.P {dN cQ dO aY} (gz:cQ=aY.length) (h0:Inn H R0 λR=>ROs eI H R ⟨dN,cQ,dO⟩ aY) {r:Int} (hp:dp.p F aY=some r):Rt (dp.tw F ⟨dN,cQ,dO⟩ H) (dp.Q H R0 R0  r):=by
 obtain ⟨w0,gZ⟩:=h0
 subst gz
 unfold dp.p at hp
 unfold dp.tw dp.twX
 have s0:=w0.rf
 exact dp.l13_P F rfl ⟨w0,s0,gZ⟩ hp
def il.Q (H0:Hp) (Ri R0:asy)  (r:Bool) (v:AV) (H':Hp):Prop:=v=(.bool r)/\Out H0 Ri H' (R0) λR=>True
def il.p (F:Nat) (aY:asw):Option (Bool):=(dp.p F aY).bind λr1=>some (decide (r1>=0))
theorem il.P {dN cQ dO aY} (gz:cQ=aY.length) (h0:Inn H R0 λR=>ROs eI H R ⟨dN,cQ,dO⟩ aY) {r:Bool} (hp:il.p F aY=some r):Rt (il.tw F ⟨dN,cQ,dO⟩ H) (il.Q H R0 R0  r):=by
 obtain ⟨w0,gZ⟩:=h0
 subst gz
 unfold il.p at hp
 unfold il.tw il.twX
 have s0:=w0.rf
 obtain ⟨r1,e1,hp⟩:=ah hp
 refine aR (dp.P rfl ⟨w0,gZ⟩ e1) ?_
 rintro _ H2 ⟨rfl,w2,s2,_⟩
 refine br ?_
 exact aP hp ⟨rfl,w2,(s0.trans s2),trivial⟩
def cq.Q (H0:Hp) (Ri R0:asy) (ck az cb bX bP bL bY bZ cL b_:Int) (aW fb fc fd:Sl) (cM:ON) (ce aa:Nat) (cN:Cap) (cP:asw) (aB:Bool) (r:Bool) (v:AV) (H':Hp):Prop:=v=(.bool r)/\Out H0 Ri H' (Rs.blk aa [.i ck,.i az,.sl aW,.i cb,.i bX,.sl fb,.i bP,.i bL,.sl ⟨cM,ce,cN⟩,.i bY,.i bZ,.sl fc,.i cL,.i b_,.sl fd,.bool aB]::R0) λR=>True
def cq.S29 (H0:Hp) (Ri R0:asy) (aQ ay bj aE aF aD aI aJ bR aK:Int) (dH dI dJ dK:Sl) (bo:ON) (aS aO:Nat) (bp:Cap) (bN:asw) (dQ:Bool) (C:Int->Nat->Nat->Int->Hp->OA) (pC:Int->Int->Int->List Int->Int->Option (Bool)):Prop:=∀ {dE AW vI jS iL},∀ {H:Hp},aS=bN.length->(Out H0 Ri H (Rs.blk iL [.i AW,.i vI,.sl ⟨bo,aS,bp⟩]::Rs.blk aO [.i aQ,.i ay,.sl dH,.i bj,.i aE,.sl dI,.i aF,.i aD,.sl ⟨bo,aS,bp⟩,.i aI,.i aJ,.sl dJ,.i bR,.i aK,.sl dK,.bool dQ]::R0) λR=>ROs eI H R ⟨bo,aS,bp⟩ bN)->∀ {r:Bool},pC dE AW vI bN jS=some r->Rt (C dE iL 0 jS H) (cq.Q H0 Ri R0 aQ ay bj aE aF aD aI aJ bR aK dH dI dJ dK bo aS aO bp bN dQ r)
def cq.pj1 (F:Nat)  (s_:Int) (JO:Int) (bN:asw):Option (Bool):=(dx.p F JO bN s_).bind λr1=>(cutf r1 (wrap .i64 (s_+1)) (r1.length:Int)).bind λl3=>(il.p F l3).bind λr4=>some (!r4)
theorem cq.j1_P {aQ ay bj aE aF aD aI aJ bR aK dH dI dJ dK bo aS aO bp bN dQ}  {s_ amK JO zw} (kO:aS=bN.length) (h0:Out H0 Ri H (Rs.blk zw [.i amK,.i JO,.sl ⟨bo,aS,bp⟩]::Rs.blk aO [.i aQ,.i ay,.sl dH,.i bj,.i aE,.sl dI,.i aF,.i aD,.sl ⟨bo,aS,bp⟩,.i aI,.i aJ,.sl dJ,.i bR,.i aK,.sl dK,.bool dQ]::R0) λR=>ROs eI H R ⟨bo,aS,bp⟩ bN) {r:Bool} (hp:cq.pj1 F  s_ JO bN=some r):Rt (cq.j1 F (bf.tw F) (dx.tw F) (il.tw F)  s_ zw 0 H) (cq.Q H0 Ri R0 aQ ay bj aE aF aD aI aJ bR aK dH dI dJ dK bo aS aO bp bN dQ r):=by
 obtain ⟨w0,s0,ip⟩:=h0
 subst kO
 unfold cq.pj1 at hp
 unfold cq.j1
 refine lI w0 0 ?_
 refine lI w0 0 ?_
 refine lSl w0 0 ?_
 obtain ⟨r1,e1,hp⟩:=ah hp
 refine aR (dx.P rfl ⟨w0,ip⟩ e1) ?_
 rintro _ H2 ⟨o0a_2,o0n_2,o0c_2,rfl,rfl,w2,s2,f2_0⟩
 refine br ?_
 obtain ⟨l3,e3,hp⟩:=ah hp
 obtain ⟨a3,d3,h3,f3⟩:=ROs.cutf f2_0 rfl e3
 refine aA h3 ?_
 obtain ⟨r4,e4,hp⟩:=ah hp
 refine aR (il.P rfl ⟨w2,f3⟩ e4) ?_
 rintro _ H5 ⟨rfl,w5,s5,_⟩
 refine br ?_
 obtain ⟨w6,s6⟩:=w5.pp [1] 2
 exact aP hp ⟨rfl,w6,(s0.trans (s2.trans (s5.trans s6))),trivial⟩
def cq.pl29 (F:Nat) :Nat->Int->Int->Int->List Int->Int->Option (Bool)
 | 0,_,_,_,_,_=>none
 | k+1,dE,AW,vI,bN,jS=>(bif (decide (jS<AW)) then ((ix bN (wrap .i64 ((wrap .i64 (jS * vI))+dE))).bind λn2=>(bif ((gt bN n2) != 0) then (some false) else (cq.pl29 F k dE AW vI bN (wrap .i64 (jS+1))))) else (cq.pj1 F dE vI bN))
theorem cq.l29_P {aQ ay bj aE aF aD aI aJ bR aK dH dI dJ dK bo aS aO bp bN dQ} :∀ k,cq.S29 H0 Ri R0 aQ ay bj aE aF aD aI aJ bR aK dH dI dJ dK bo aS aO bp bN dQ (cq.l29 F (bf.tw F) (dx.tw F) (il.tw F)  k) (cq.pl29 F  k):=by
 intro k
 induction k with
 | zero=>unfold cq.S29;intros;rename_i hp;cases hp
 | succ k ih=>
  intro dE AW vI jS iL H kO h0 r hp
  obtain ⟨w0,s0,ip⟩:=h0
  subst kO
  unfold cq.pl29 at hp
  unfold cq.l29
  refine lI w0 0 ?_
  refine aH hp (λhp=>?_) λhp=>?_
  ·refine lI w0 0 ?_
   refine lI w0 0 ?_
   refine lSl w0 0 ?_
   refine bf.inl ?_
   refine bQ w0 λH1 w1 s1=>?_
   refine lSl w1 0 ?_
   refine lI w1 0 ?_
   obtain ⟨n2,g2,hp⟩:=ah hp
   obtain ⟨p2,q2,i2,h2,j2⟩:=ROs.ixr (ip.step s1) rfl g2
   refine aA i2 ?_
   refine ⟨_,_,rfl,?_⟩
   refine br ?_
   have h2:_=[_]:=h2
   subst h2
   refine aA (cy (j2 0 _ rfl)) ?_
   refine aH hp (λhp=>?_) λhp=>?_
   ·obtain ⟨w3,s3⟩:=w1.pp [2] 3
    exact aP hp ⟨rfl,w3,(s0.trans (s1.trans s3)),trivial⟩
   ·obtain ⟨w4,s4⟩:=w1.pp [1,2] 3
    exact ih rfl ⟨w4,(s0.trans (s1.trans s4)),(ip.step (s1.trans s4))⟩ hp
  ·exact cq.j1_P rfl ⟨w0,s0,ip⟩ hp
def cq.p (F:Nat) (bP:Int) (bL:Int) (cP:asw) (ai:Int):Option (Bool):=cq.pl29 F F ai bP bL cP (wrap .i64 (ai+1))
theorem cq.P {ck az cb bX bP bL bY bZ cL b_ ai aW fb fc fd cM ce aa cN cP aB} (ma:ce=cP.length) (h0:Inn H (Rs.blk aa [.i ck,.i az,.sl aW,.i cb,.i bX,.sl fb,.i bP,.i bL,.sl ⟨cM,ce,cN⟩,.i bY,.i bZ,.sl fc,.i cL,.i b_,.sl fd,.bool aB]::R0) λR=>ROs eI H R ⟨cM,ce,cN⟩ cP) {r:Bool} (hp:cq.p F bP bL cP ai=some r):Rt (cq.tw F aa 0 ai H) (cq.Q H (Rs.blk aa [.i ck,.i az,.sl aW,.i cb,.i bX,.sl fb,.i bP,.i bL,.sl ⟨cM,ce,cN⟩,.i bY,.i bZ,.sl fc,.i cL,.i b_,.sl fd,.bool aB]::R0) R0 ck az cb bX bP bL bY bZ cL b_ aW fb fc fd cM ce aa cN cP aB r):=by
 obtain ⟨w0,kP⟩:=h0
 subst ma
 unfold cq.p at hp
 unfold cq.tw cq.twX
 have s0:=w0.rf
 refine lI w0 0 ?_
 refine lI w0 0 ?_
 refine lSl w0 0 ?_
 refine bQ w0 λH1 w1 s1=>?_
 refine aw w1 0 λH2 w2 s2=>?_
 refine aw w2 0 λH3 w3 s3=>?_
 refine aw w3 0 λH4 w4 s4=>?_
 exact cq.l29_P F rfl ⟨w4,(s0.trans (s1.trans (s2.trans (s3.trans s4)))),(kP.step (s1.trans (s2.trans (s3.trans s4))))⟩ hp
def iE.Q (H0:Hp) (Ri R0:asy) (kS iG rN:Int) (jO:ON) (jm aG cp:Nat) (jP:Cap) (r:Bool) (v:AV) (H':Hp):Prop:=v=(.bool r)/\Out H0 Ri H' (Rs.blk aG [.i kS,.i iG,.sl ⟨jO,jm,jP⟩]::Rs.blk cp [.i rN]::R0) λR=>True
def iE.p (F:Nat) (aa:Int) (iG:Int) (jE:asw) (rN:Int):Option (Bool):=(ix jE (wrap .i64 ((wrap .i64 (rN * iG))+rN))).bind λn2=>(if (gt jE n2)=0 then none else (some ((Int.tmod aa (gt jE n2)) != 0)))
theorem iE.P {aa kS iG rN jO jm aG cp jP jE} (DE:jm=jE.length) (h0:Inn H (Rs.blk aG [.i kS,.i iG,.sl ⟨jO,jm,jP⟩]::Rs.blk cp [.i rN]::R0) λR=>ROs eI H R ⟨jO,jm,jP⟩ jE) {r:Bool} (hp:iE.p F aa iG jE rN=some r):Rt (iE.tw F aa aG 0 cp 0 H) (iE.Q H (Rs.blk aG [.i kS,.i iG,.sl ⟨jO,jm,jP⟩]::Rs.blk cp [.i rN]::R0) R0 kS iG rN jO jm aG cp jP r):=by
 obtain ⟨w0,DF⟩:=h0
 subst DE
 unfold iE.p at hp
 unfold iE.tw iE.twX
 have s0:=w0.rf
 refine lI w0 0 ?_
 refine lI w0 0 ?_
 refine lSl w0 0 ?_
 refine lI w0 1 ?_
 refine lI w0 1 ?_
 refine bf.inl ?_
 refine bQ w0 λH1 w1 s1=>?_
 refine lSl w1 0 ?_
 refine lI w1 0 ?_
 obtain ⟨n2,g2,hp⟩:=ah hp
 obtain ⟨p2,q2,i2,h2,j2⟩:=ROs.ixr (DF.step s1) rfl g2
 refine aA i2 ?_
 refine ⟨_,_,rfl,?_⟩
 refine br ?_
 have h2:_=[_]:=h2
 subst h2
 refine aA (cy (j2 0 _ rfl)) ?_
 obtain ⟨g3,hp⟩:=nV hp
 refine nW g3 ?_
 obtain ⟨w4,s4⟩:=w1.pp [1,2] 3
 exact aP hp ⟨rfl,w4,(s0.trans (s1.trans s4)),trivial⟩
def dq.Q (H0:Hp) (Ri R0:asy) (kS iG kT:Int) (jO:ON) (jm aG au:Nat) (jP:Cap) (jE:asw) (r:Int) (v:AV) (H':Hp):Prop:=v=(.i r)/\Out H0 Ri H' (Rs.blk aG [.i kS,.i iG,.sl ⟨jO,jm,jP⟩]::Rs.blk au [.i kT]::R0) λR=>True
def dq.S13 (H0:Hp) (Ri R0:asy) (JP tS tT:Int) (DG:ON) (AX DH DJ:Nat) (DK:Cap) (rO:asw) (C:Sl->Nat->Nat->Nat->Nat->Int->Int->Hp->OA) (pC:List Int->Int->List Int->Int->Int->Int->Option (Int)):Prop:=∀ {Sz JQ SA tU pI lT},∀ {H:Hp},JQ=tU.length->AX=rO.length->(Out H0 Ri H (Rs.blk DH [.i JP,.i tS,.sl ⟨DG,AX,DK⟩]::Rs.blk DJ [.i tT]::R0) λR=>ROs eI H R ⟨Sz,JQ,SA⟩ tU/\ROs eI H R ⟨DG,AX,DK⟩ rO)->∀ {r:Int},pC tU tS rO tT pI lT=some r->Rt (C ⟨Sz,JQ,SA⟩ DH 0 DJ 0 pI lT H) (dq.Q H0 Ri R0 JP tS tT DG AX DH DJ DK rO r)
def dq.pl13 (F:Nat) :Nat->List Int->Int->List Int->Int->Int->Int->Option (Int)
 | 0,_,_,_,_,_,_=>none
 | k+1,tU,tS,rO,tT,pI,lT=>(bif (decide (lT<pI)) then ((ix tU lT).bind λn1=>(iE.p F (gt tU n1) tS rO tT).bind λr2=>(bif r2 then (some lT) else (dq.pl13 F k tU tS rO tT pI (wrap .i64 (lT+1))))) else (some (-1)))
theorem dq.l13_P {JP tS tT DG AX DH DJ DK rO} :∀ k,dq.S13 H0 Ri R0 JP tS tT DG AX DH DJ DK rO (dq.l13 F (iE.tw F)  k) (dq.pl13 F  k):=by
 intro k
 induction k with
 | zero=>unfold dq.S13;intros;rename_i hp;cases hp
 | succ k ih=>
  intro Sz JQ SA tU pI lT H amL amM h0 r hp
  obtain ⟨w0,s0,ab2,ab3⟩:=h0
  subst amL
  subst amM
  unfold dq.pl13 at hp
  unfold dq.l13
  refine aH hp (λhp=>?_) λhp=>?_
  ·obtain ⟨n1,g1,hp⟩:=ah hp
   obtain ⟨p1,q1,i1,h1,j1⟩:=ROs.ixr ab2 rfl g1
   refine aA i1 ?_
   have h1:_=[_]:=h1
   subst h1
   refine aA (cy (j1 0 _ rfl)) ?_
   obtain ⟨r2,e2,hp⟩:=ah hp
   refine aR (iE.P rfl ⟨w0,ab3⟩ e2) ?_
   rintro _ H3 ⟨rfl,w3,s3,_⟩
   refine br ?_
   refine aH hp (λhp=>?_) λhp=>?_
   ·exact aP hp ⟨rfl,w3,(s0.trans s3),trivial⟩
   ·exact ih rfl rfl ⟨w3,(s0.trans s3),(ab2.step s3),(ab3.step s3)⟩ hp
  ·exact aP hp ⟨rfl,w0,s0,trivial⟩
def dq.p (F:Nat) (aY:asw) (iG:Int) (jE:asw) (kT:Int):Option (Int):=dq.pl13 F F aY iG jE kT (aY.length:Int) 0
theorem dq.P {dN jO cQ jm aG au dO jP aY jE kS iG kT} (gz:cQ=aY.length) (DE:jm=jE.length) (h0:Inn H (Rs.blk aG [.i kS,.i iG,.sl ⟨jO,jm,jP⟩]::Rs.blk au [.i kT]::R0) λR=>ROs eI H R ⟨dN,cQ,dO⟩ aY/\ROs eI H R ⟨jO,jm,jP⟩ jE) {r:Int} (hp:dq.p F aY iG jE kT=some r):Rt (dq.tw F ⟨dN,cQ,dO⟩ aG 0 au 0 H) (dq.Q H (Rs.blk aG [.i kS,.i iG,.sl ⟨jO,jm,jP⟩]::Rs.blk au [.i kT]::R0) R0 kS iG kT jO jm aG au jP jE r):=by
 obtain ⟨w0,gZ,DF⟩:=h0
 subst gz
 subst DE
 unfold dq.p at hp
 unfold dq.tw dq.twX
 have s0:=w0.rf
 exact dq.l13_P F rfl rfl ⟨w0,s0,gZ,DF⟩ hp
def iF.Q (H0:Hp) (Ri R0:asy) (kS iG kT:Int) (jO:ON) (jm aG au:Nat) (jP:Cap) (r:Bool) (v:AV) (H':Hp):Prop:=v=(.bool r)/\Out H0 Ri H' (Rs.blk aG [.i kS,.i iG,.sl ⟨jO,jm,jP⟩]::Rs.blk au [.i kT]::R0) λR=>True
def iF.p (F:Nat) (aY:asw) (iG:Int) (jE:asw) (kT:Int):Option (Bool):=(dq.p F aY iG jE kT).bind λr1=>some (decide (r1>=0))
theorem iF.P {dN jO cQ jm aG au dO jP aY jE kS iG kT} (gz:cQ=aY.length) (DE:jm=jE.length) (h0:Inn H (Rs.blk aG [.i kS,.i iG,.sl ⟨jO,jm,jP⟩]::Rs.blk au [.i kT]::R0) λR=>ROs eI H R ⟨dN,cQ,dO⟩ aY/\ROs eI H R ⟨jO,jm,jP⟩ jE) {r:Bool} (hp:iF.p F aY iG jE kT=some r):Rt (iF.tw F ⟨dN,cQ,dO⟩ aG 0 au 0 H) (iF.Q H (Rs.blk aG [.i kS,.i iG,.sl ⟨jO,jm,jP⟩]::Rs.blk au [.i kT]::R0) R0 kS iG kT jO jm aG au jP r):=by
 obtain ⟨w0,gZ,DF⟩:=h0
 subst gz
 subst DE
 unfold iF.p at hp
 unfold iF.tw iF.twX
 have s0:=w0.rf
 obtain ⟨r1,e1,hp⟩:=ah hp
 refine aR (dq.P rfl rfl ⟨w0,gZ,DF⟩ e1) ?_
 rintro _ H2 ⟨rfl,w2,s2,_⟩
 refine br ?_
 exact aP hp ⟨rfl,w2,(s0.trans s2),trivial⟩
def cJ.Q (H0:Hp) (Ri R0:asy) (ck az cb bX bP bL bY bZ cL b_:Int) (aW fb fc fd:Sl) (cM:ON) (ce aa:Nat) (cN:Cap) (cP:asw) (aB:Bool) (r:Int) (v:AV) (H':Hp):Prop:=v=(.i r)/\Out H0 Ri H' (Rs.blk aa [.i ck,.i az,.sl aW,.i cb,.i bX,.sl fb,.i bP,.i bL,.sl ⟨cM,ce,cN⟩,.i bY,.i bZ,.sl fc,.i cL,.i b_,.sl fd,.bool aB]::R0) λR=>True
def cJ.S29 (H0:Hp) (Ri R0:asy) (aQ ay bj aE aF aD aI aJ bR aK:Int) (dH dI dJ dK:Sl) (bo:ON) (aS aO:Nat) (bp:Cap) (bN:asw) (dQ:Bool) (C:atP) (pC:Int->Int->Int->List Int->Int->Option (Int)):Prop:=∀ {vJ AY vK lV lU nL},∀ {H:Hp},aS=bN.length->(Out H0 Ri H (Rs.blk lU [.i vJ]::Rs.blk nL [.i AY,.i vK,.sl ⟨bo,aS,bp⟩]::Rs.blk aO [.i aQ,.i ay,.sl dH,.i bj,.i aE,.sl dI,.i aF,.i aD,.sl ⟨bo,aS,bp⟩,.i aI,.i aJ,.sl dJ,.i bR,.i aK,.sl dK,.bool dQ]::R0) λR=>ROs eI H R ⟨bo,aS,bp⟩ bN)->∀ {r:Int},pC vJ AY vK bN lV=some r->Rt (C lU 0 nL 0 lV H) (cJ.Q H0 Ri R0 aQ ay bj aE aF aD aI aJ bR aK dH dI dJ dK bo aS aO bp bN dQ r)
end
end Go.Proofs.Ytokekkacliomkaa.AE
