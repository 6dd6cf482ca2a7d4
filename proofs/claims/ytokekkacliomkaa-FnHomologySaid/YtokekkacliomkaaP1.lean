import Derived.Test.YtokekkacliomkaaT1
import Derived.Test.YtokekkacliomkaaE2
set_option linter.unusedVariables false
set_option linter.unusedSimpArgs false
namespace Go.Proofs.Ytokekkacliomkaa.AE
open Go Go.AE Go.Proofs IntKind
set_option linter.unusedVariables false
variable {F:Nat} {H H0:Hp} {Ri R0:agX}
set_option maxHeartbeats 4000000
set_option maxRecDepth 100000
noncomputable section
theorem bR.inl {aa:Int} {ac:Int} {bM:Sl} {aA:Int} {cG:Int} {K:ahM} {Q:ahK} (h:∃ u H1,((Hp.new H [(.i aa),(.i ac),(.sl bM)]).bind λH6=>(Hp.ldSl H6 H.length 2).bind λs7=>(Hp.ldI H6 .i64 H.length 1).bind λn8=>(Sl.idx s7 (wrap .i64 ((wrap .i64 (aA * n8))+cG)) 1).bind λp9=>some ((.ptr p9.1 p9.2),H6))=some (u,H1)/\∃ v H',K (u,H1)=some (v,H')/\Q v H'):∃ v H',(bR.tw F aa ac bM aA cG H).bind K=some (v,H')/\Q v H':=DC h
theorem fi.inl {aa:Int} {ac:Int} {bM:Sl} {aA:Int} {K:ahM} {Q:ahK} (h:∃ u H1,((Hp.new H [(.i aa),(.i ac),(.sl bM)]).bind λH5=>(Hp.ldSl H5 H.length 2).bind λs6=>(Hp.ldI H5 .i64 H.length 1).bind λn7=>(Hp.ldI H5 .i64 H.length 1).bind λn8=>(Sl.cut s6 1 (wrap .i64 (aA * n7)) (wrap .i64 ((wrap .i64 (aA+1)) * n8))).bind λs9=>some ((.sl s9),H5))=some (u,H1)/\∃ v H',K (u,H1)=some (v,H')/\Q v H'):∃ v H',(fi.tw F aa ac bM aA H).bind K=some (v,H')/\Q v H':=DC h
theorem gq.inl {aa:Nat} {ac:Nat} {af:Nat} {aA:Nat} {cG:Int} {kU:Int} {K:ahM} {Q:ahK} (h:∃ u H1,((fE.tw F cG kU 2000000000000 H).bind λr7=>((r7.1).asTup 2).bind λl8=>(l8[0]?).bind λv9=>((v9).asI .i64).bind λn10=>(l8[1]?).bind λv11=>((v11).asB).bind λb12=>(Hp.ldI r7.2 .i64 af aA).bind λn13=>(Hp.st r7.2 af aA (.i (wrap .i64 (n13+n10)))).bind λH14=>(bif (!b12) then ((Hp.st H14 aa (ac+15) (.bool true)).bind λH15=>(Hp.st H15 af aA (.i 0)).bind λH16=>some ((.tup []),H16)) else ((Hp.ldI H14 .i64 af aA).bind λn17=>(es.tw F n17 H14).bind λr18=>((r18.1).asI .i64).bind λn19=>(bif (decide (n19>1000000000000)) then ((Hp.st r18.2 aa (ac+15) (.bool true)).bind λH20=>(Hp.st H20 af aA (.i 0)).bind λH21=>some ((.tup []),H21)) else (some ((.tup []),r18.2))))))=some (u,H1)/\∃ v H',K (u,H1)=some (v,H')/\Q v H'):∃ v H',(gq.tw F aa ac af aA cG kU H).bind K=some (v,H')/\Q v H':=DC h
theorem kj.inl {aa:Int} {ac:Int} {bM:Sl} {K:ahM} {Q:ahK} (h:∃ u H1,((Hp.new H [(.i aa),(.i ac),(.sl bM)]).bind λH4=>(Hp.ldI H4 .i64 H.length 0).bind λn5=>(dC.tw F n5 H4).bind λr6=>((r6.1).asAgg 3).bind λl7=>(l7[0]?).bind λv8=>((v8).asI .i64).bind λn9=>(l7[1]?).bind λv10=>((v10).asI .i64).bind λn11=>(l7[2]?).bind λv12=>((v12).asSl).bind λs13=>(if bk H4 r6.2 then ((Hp.ldI r6.2 .i64 H.length 0).bind λn14=>(dC.tw F n14 r6.2).bind λr15=>((r15.1).asAgg 3).bind λl16=>(l16[0]?).bind λv17=>((v17).asI .i64).bind λn18=>(l16[1]?).bind λv19=>((v19).asI .i64).bind λn20=>(l16[2]?).bind λv21=>((v21).asSl).bind λs22=>(if bk r6.2 r15.2 then ((Hp.ldI r15.2 .i64 H.length 0).bind λn23=>(Hp.ldI r15.2 .i64 H.length (0+1)).bind λn24=>(Hp.ldSl r15.2 H.length (0+2)).bind λs25=>(iy.tw F n23 n24 s25 r15.2).bind λr26=>((r26.1).asAgg 3).bind λl27=>(l27[0]?).bind λv28=>((v28).asI .i64).bind λn29=>(l27[1]?).bind λv30=>((v30).asI .i64).bind λn31=>(l27[2]?).bind λv32=>((v32).asSl).bind λs33=>(if bk r15.2 r26.2 then ((Hp.ldI r26.2 .i64 H.length 1).bind λn34=>(dC.tw F n34 r26.2).bind λr35=>((r35.1).asAgg 3).bind λl36=>(l36[0]?).bind λv37=>((v37).asI .i64).bind λn38=>(l36[1]?).bind λv39=>((v39).asI .i64).bind λn40=>(l36[2]?).bind λv41=>((v41).asSl).bind λs42=>(if bk r26.2 r35.2 then ((Hp.ldI r35.2 .i64 H.length 1).bind λn43=>(dC.tw F n43 r35.2).bind λr44=>((r44.1).asAgg 3).bind λl45=>(l45[0]?).bind λv46=>((v46).asI .i64).bind λn47=>(l45[1]?).bind λv48=>((v48).asI .i64).bind λn49=>(l45[2]?).bind λv50=>((v50).asSl).bind λs51=>(Hp.new r44.2 [(.i n9),(.i n11),(.sl s13),(.i n18),(.i n20),(.sl s22),(.i n29),(.i n31),(.sl s33),(.i n38),(.i n40),(.sl s42),(.i n47),(.i n49),(.sl s51),(.bool false)]).bind λH52=>some ((.ptr r44.2.length 0),H52)) else none)) else none)) else none)) else none))=some (u,H1)/\∃ v H',K (u,H1)=some (v,H')/\Q v H'):∃ v H',(kj.tw F aa ac bM H).bind K=some (v,H')/\Q v H':=DC h
def ka.Q (H0:Hp) (Ri R0:agX)  (r:Bool) (v:AV) (H':Hp):Prop:=v=(.bool r)/\Out H0 Ri H' (R0) λR=>True
def ka.p (F:Nat) (bN:agV):Option (Bool):=some (decide ((bN.length:Int)>4096))
theorem ka.P {ev dq eC bN} (gl:dq=bN.length) (h0:Inn H R0 λR=>ROs (gI .u8) H R ⟨ev,dq,eC⟩ bN) {r:Bool} (hp:ka.p F bN=some r):Rt (ka.tw F ⟨ev,dq,eC⟩ H) (ka.Q H R0 R0  r):=by
 obtain ⟨w0,gr⟩:=h0
 subst gl
 unfold ka.p at hp
 unfold ka.tw ka.twX
 have s0:=w0.rf
 exact aW hp ⟨rfl,w0,s0,trivial⟩
def dy.Q (H0:Hp) (Ri R0:agX)  (r:ahS) (v:AV) (H':Hp):Prop:=∃ o0a:ON,∃ o0n:Nat,∃ o0c:Cap,∃ ob0:Nat,v=(.ptr ob0 0)/\o0n=(r.1).length/\Out H0 Ri H' (Rs.blk ob0 [.sl ⟨o0a,o0n,o0c⟩,.i r.2.1,.i r.2.2]::R0) λR=>ROs (gI .u8) H' R ⟨o0a,o0n,o0c⟩ (r.1)
def dy.S29 (H0:Hp) (Ri R0:agX)  (C:Sl->Nat->Nat->Int->Hp->OA) (pC:List Int->Int->Int->Int->Option (List Int×Int×Int)):Prop:=∀ {As xy ny Au oz rO rP ll},∀ {H:Hp},xy=oz.length->(Out H0 Ri H (Rs.blk ny [.sl ⟨As,xy,Au⟩,.i rO,.i rP]::R0) λR=>ROs (gI .u8) H R ⟨As,xy,Au⟩ oz)->∀ {r:ahS},pC oz rO rP ll=some r->Rt (C ⟨As,xy,Au⟩ ny 0 ll H) (dy.Q H0 Ri R0  r)
def dy.pl29 (F:Nat) :Nat->List Int->Int->Int->Int->Option (List Int×Int×Int)
 | 0,_,_,_,_=>none
 | k+1,oz,rO,rP,ll=>(bif (decide (ll<(oz.length:Int))) then ((bif (decide (ll<64)) then ((ix oz ll).bind λn1=>dy.pl29 F k oz rO (Int.tmod (wrap .i64 ((wrap .i64 (rP * 37))+(wrap .i64 (gt oz n1)))) 2147483647) (wrap .i64 (ll+1))) else (some (oz,rO,rP)))) else (some (oz,rO,rP)))
theorem dy.l29_P  :∀ k,dy.S29 H0 Ri R0  (dy.l29 F   k) (dy.pl29 F  k):=by
 intro k
 induction k with
 | zero=>unfold dy.S29;intros;rename_i hp;cases hp
 | succ k ih=>
  intro As xy ny Au oz rO rP ll H XR h0 r hp
  obtain ⟨w0,s0,Av⟩:=h0
  subst XR
  unfold dy.pl29 at hp
  unfold dy.l29
  refine aX hp (λhp=>?_) λhp=>?_
  ·refine aX hp (λhp=>?_) λhp=>?_
   ·refine lI w0 0 ?_
    obtain ⟨n1,g1,hp⟩:=ag hp
    obtain ⟨p1,q1,i1,h1,j1⟩:=ROs.ixr Av rfl g1
    refine bu i1 ?_
    have h1:_=[_]:=h1
    subst h1
    refine bu (dx (j1 0 _ rfl)) ?_
    refine aL w0 0 λH2 w2 s2=>?_
    exact ih rfl ⟨w2,(s0.trans s2),(Av.step s2)⟩ hp
   ·exact aW hp ⟨_,_,_,_,rfl,rfl,w0,s0,Av⟩
  ·exact aW hp ⟨_,_,_,_,rfl,rfl,w0,s0,Av⟩
def dy.p (F:Nat) (bN:agV):Option (List Int×Int×Int):=dy.pl29 F F bN 0 97531 0
theorem dy.P {ev dq eC bN} (gl:dq=bN.length) (h0:Inn H R0 λR=>ROs (gI .u8) H R ⟨ev,dq,eC⟩ bN) {r:ahS} (hp:dy.p F bN=some r):Rt (dy.tw F ⟨ev,dq,eC⟩ H) (dy.Q H R0 R0  r):=by
 obtain ⟨w0,gr⟩:=h0
 subst gl
 unfold dy.p at hp
 unfold dy.tw dy.twX
 have s0:=w0.rf
 refine cF w0 λH1 w1 s1=>?_
 exact dy.l29_P F rfl ⟨w1,(s0.trans s1),(gr.step s1)⟩ hp
def bO.Q (H0:Hp) (Ri R0:agX) (jS:ON) (je aa:Nat) (jT:Cap) (gm:agV) (r:ahL) (v:AV) (H':Hp):Prop:=v=(.i r.1)/\Out H0 Ri H' (Rs.blk aa [.sl ⟨jS,je,jT⟩,.i (r.2.1),.i (r.2.2)]::R0) λR=>True
def bO.pj1 (F:Nat)  (kM:Int) (tB:Int) (aE:Int) (bP:Int):Option (Int×Int×Int):=(if kM=0 then none else (some ((Int.tmod tB kM),aE,bP)))
theorem bO.j1_P {jw ij ax jx gD}  {kM tB aE bP} (pK:ij=gD.length) (h0:Out H0 Ri H (Rs.blk ax [.sl ⟨jw,ij,jx⟩,.i aE,.i bP]::R0) λR=>ROs (gI .u8) H R ⟨jw,ij,jx⟩ gD) {r:ahL} (hp:bO.pj1 F  kM tB aE bP=some r):Rt (bO.j1 F   kM tB H) (bO.Q H0 Ri R0 jw ij ax jx gD r):=by
 obtain ⟨w0,s0,pd⟩:=h0
 subst pK
 unfold bO.pj1 at hp
 unfold bO.j1
 obtain ⟨g1,hp⟩:=oI hp
 refine oJ g1 ?_
 exact aW hp ⟨rfl,w0,s0,trivial⟩
def bO.pj2 (F:Nat)  (tC:Int) (tD:Int) (aE:Int) (bP:Int):Option (Int×Int×Int):=bO.pj1 F tC tD aE bP
theorem bO.j2_P {jw ij ax jx gD}  {tC tD aE bP} (pK:ij=gD.length) (h0:Out H0 Ri H (Rs.blk ax [.sl ⟨jw,ij,jx⟩,.i aE,.i bP]::R0) λR=>ROs (gI .u8) H R ⟨jw,ij,jx⟩ gD) {r:ahL} (hp:bO.pj2 F  tC tD aE bP=some r):Rt (bO.j2 F   tC tD H) (bO.Q H0 Ri R0 jw ij ax jx gD r):=by
 obtain ⟨w0,s0,pd⟩:=h0
 subst pK
 unfold bO.pj2 at hp
 unfold bO.j2
 exact bO.j1_P rfl ⟨w0,s0,pd⟩ hp
def bO.pj3 (F:Nat)  (p_:Int) (mN:Int) (aE:Int) (bP:Int):Option (Int×Int×Int):=(if p_=0 then none else (some ((Int.tmod mN p_),aE,bP)))
theorem bO.j3_P {jw ij ax jx gD}  {p_ mN aE bP} (pK:ij=gD.length) (h0:Out H0 Ri H (Rs.blk ax [.sl ⟨jw,ij,jx⟩,.i aE,.i bP]::R0) λR=>ROs (gI .u8) H R ⟨jw,ij,jx⟩ gD) {r:ahL} (hp:bO.pj3 F  p_ mN aE bP=some r):Rt (bO.j3 F   p_ mN H) (bO.Q H0 Ri R0 jw ij ax jx gD r):=by
 obtain ⟨w0,s0,pd⟩:=h0
 subst pK
 unfold bO.pj3 at hp
 unfold bO.j3
 obtain ⟨g1,hp⟩:=oI hp
 refine oJ g1 ?_
 exact aW hp ⟨rfl,w0,s0,trivial⟩
def bO.p (F:Nat) (gm:agV) (aE:Int) (bP:Int) (af:Int):Option (Int×Int×Int):=(bif (decide (af<=1)) then (some (0,aE,bP)) else ((bif (decide (aE<(gm.length:Int))) then ((ix gm aE).bind λn2=>(bif (decide (af<=256)) then ((bif ((Int.tmod (wrap .i64 (aE+1)) 2)==0) then ((ix gm (wrap .i64 ((wrap .i64 (aE+1)) - 1))).bind λn4=>bO.pj2 F af (wrap .i64 (gt gm n4)) (wrap .i64 (aE+1)) (Int.tmod (wrap .i64 ((wrap .i64 (bP * 48271))+11)) 2147483647)) else (bO.pj2 F af (wrap .i64 ((wrap .i64 (Int.tdiv (Int.tmod (wrap .i64 ((wrap .i64 (bP * 48271))+11)) 2147483647) 11))+(wrap .i64 (gt gm n2)))) (wrap .i64 (aE+1)) (Int.tmod (wrap .i64 ((wrap .i64 (bP * 48271))+11)) 2147483647)))) else (bO.pj1 F af (wrap .i64 ((wrap .i64 (Int.tdiv (Int.tmod (wrap .i64 ((wrap .i64 (bP * 48271))+11)) 2147483647) 11))+(wrap .i64 (gt gm n2)))) (wrap .i64 (aE+1)) (Int.tmod (wrap .i64 ((wrap .i64 (bP * 48271))+11)) 2147483647)))) else (bO.pj3 F af (wrap .i64 (Int.tdiv (Int.tmod (wrap .i64 ((wrap .i64 (bP * 48271))+11)) 2147483647) 11)) aE (Int.tmod (wrap .i64 ((wrap .i64 (bP * 48271))+11)) 2147483647)))))
theorem bO.P {jS je aa jT gm aE bP af} (xz:je=gm.length) (h0:Inn H (Rs.blk aa [.sl ⟨jS,je,jT⟩,.i aE,.i bP]::R0) λR=>ROs (gI .u8) H R ⟨jS,je,jT⟩ gm) {r:ahL} (hp:bO.p F gm aE bP af=some r):Rt (bO.tw F aa 0 af H) (bO.Q H (Rs.blk aa [.sl ⟨jS,je,jT⟩,.i aE,.i bP]::R0) R0 jS je aa jT gm r):=by
 obtain ⟨w0,kX⟩:=h0
 subst xz
 unfold bO.p at hp
 unfold bO.tw bO.twX
 have s0:=w0.rf
 refine aX hp (λhp=>?_) λhp=>?_
 ·exact aW hp ⟨rfl,w0,s0,trivial⟩
 ·refine lI w0 0 ?_
  refine aL w0 0 λH1 w1 s1=>?_
  refine lI w1 0 ?_
  refine lI w1 0 ?_
  refine lSl w1 0 ?_
  refine aX hp (λhp=>?_) λhp=>?_
  ·refine lSl w1 0 ?_
   refine lI w1 0 ?_
   obtain ⟨n2,g2,hp⟩:=ag hp
   obtain ⟨p2,q2,i2,h2,j2⟩:=ROs.ixr (kX.step s1) rfl g2
   refine bu i2 ?_
   have h2:_=[_]:=h2
   subst h2
   refine bu (dx (j2 0 _ rfl)) ?_
   refine lI w1 0 ?_
   refine aL w1 0 λH3 w3 s3=>?_
   refine aX hp (λhp=>?_) λhp=>?_
   ·refine lI w3 0 ?_
    refine aX hp (λhp=>?_) λhp=>?_
    ·refine lSl w3 0 ?_
     refine lI w3 0 ?_
     obtain ⟨n4,g4,hp⟩:=ag hp
     obtain ⟨p4,q4,i4,h4,j4⟩:=ROs.ixr (kX.step (s1.trans s3)) rfl g4
     refine bu i4 ?_
     have h4:_=[_]:=h4
     subst h4
     refine bu (dx (j4 0 _ rfl)) ?_
     exact bO.j2_P rfl ⟨w3,(s0.trans (s1.trans s3)),(kX.step (s1.trans s3))⟩ hp
    ·exact bO.j2_P rfl ⟨w3,(s0.trans (s1.trans s3)),(kX.step (s1.trans s3))⟩ hp
   ·exact bO.j1_P rfl ⟨w3,(s0.trans (s1.trans s3)),(kX.step (s1.trans s3))⟩ hp
  ·exact bO.j3_P rfl ⟨w1,(s0.trans s1),(kX.step s1)⟩ hp
def eH.Q (H0:Hp) (Ri R0:agX)  (r:ahf) (v:AV) (H':Hp):Prop:=∃ o2a:ON,∃ o2n:Nat,∃ o2k:List AV,v=(.agg [(.i r.1),(.i r.2.1),(.sl ⟨o2a,o2n,.ex o2n⟩)])/\o2n=(r.2.2).length/\Out H0 Ri H' (Rs.own ⟨o2a,o2n,.ex o2n⟩ eI.z o2k::R0) λR=>CR eI H' R o2k (r.2.2)
def eH.p (F:Nat) (aa:Int) (aQ:Int):Option (Int×Int×List Int):=(mkn (wrap .i64 (aa * aQ)) (0:Int)).bind λl2=>some (aa,aQ,l2)
theorem eH.P {aa aQ}  (h0:Inn H R0 λR=>True) {r:ahf} (hp:eH.p F aa aQ=some r):Rt (eH.tw F aa aQ H) (eH.Q H R0 R0  r):=by
 obtain ⟨w0,_⟩:=h0
 unfold eH.p at hp
 unfold eH.tw eH.twX
 have s0:=w0.rf
 refine cF w0 λH1 w1 s1=>?_
 obtain ⟨l2,e2,hp⟩:=ag hp
 refine UX eI (0:Int) w1 rfl rfl rfl e2 λH3 k3 w3 s3 c3=>?_
 refine aL w3 1 λH4 w4 s4=>?_
 refine aL w4 1 λH5 w5 s5=>?_
 refine aL w5 1 λH6 w6 s6=>?_
 refine lI w6 1 ?_
 refine lI w6 1 ?_
 refine lSl w6 1 ?_
 obtain ⟨w7,s7⟩:=w6.pp [0] 2
 exact aW hp ⟨_,_,_,rfl,rfl,w7,(s0.trans (s1.trans (s3.trans (s4.trans (s5.trans (s6.trans s7)))))),(c3.step (s4.trans (s5.trans (s6.trans s7))))⟩
def cw.Q (H0:Hp) (Ri R0:agX) (jS:ON) (je aa:Nat) (jT:Cap) (gm:agV) (r:ahC) (v:AV) (H':Hp):Prop:=∃ o2a:ON,∃ o2n:Nat,∃ o2c:Cap,∃ o2k:List AV,v=(.agg [(.i r.1),(.i r.2.1),(.sl ⟨o2a,o2n,o2c⟩)])/\o2n=(r.2.2.1).length/\Out H0 Ri H' (Rs.own ⟨o2a,o2n,o2c⟩ eI.z o2k::Rs.blk aa [.sl ⟨jS,je,jT⟩,.i (r.2.2.2.1),.i (r.2.2.2.2)]::R0) λR=>CR eI H' R o2k (r.2.2.1)
def cw.S61 (H0:Hp) (Ri R0:agX) (jw:ON) (ij ax:Nat) (jx:Cap) (gD:agV) (C:ahO) (pC:ahT):Prop:=∀ {aE bP Me Mf rQ rR lp lq Eb Ec Aw mh Ax ln Ed Ee Ef pe Eg Eh},∀ {H:Hp},ij=gD.length->Aw=Ef.length->Ax=pe.length->(Out H0 Ri H (Rs.blk ax [.sl ⟨jw,ij,jx⟩,.i aE,.i bP]::Rs.own ⟨Eb,Aw,Ed⟩ eI.z Eg::Rs.blk mh [.i Me,.i Mf,.sl ⟨Eb,Aw,Ed⟩]::Rs.own ⟨Ec,Ax,Ee⟩ eI.z Eh::Rs.blk ln [.i rQ,.i rR,.sl ⟨Ec,Ax,Ee⟩]::R0) λR=>ROs (gI .u8) H R ⟨jw,ij,jx⟩ gD/\CR eI H R Eg Ef/\CR eI H R Eh pe)->∀ {r:ahC},pC gD aE bP rQ rR pe lp lq=some r->Rt (C ax 0 mh 0 ln 0 lp lq H) (cw.Q H0 Ri R0 jw ij ax jx gD r)
def cw.pj2 (F:Nat) (iM:ahT) (gD:agV) (aE:Int) (bP:Int) (Ay:Int) (Az:Int) (xA:agV) (tE:Int) (tF:Int):Option (Int×Int×List Int×Int×Int):=iM gD aE bP Ay Az xA tE (wrap .i64 (tF+1))
theorem cw.j2_P {jw ij ax jx gD} {C61_:ahO} {iM:ahT} (hC61:cw.S61 H0 Ri R0 jw ij ax jx gD C61_ iM) {aE bP XS XT Ay Az tE tF Mg Mh Ei yS Ej yT Mi Mj Mk xA Ml Mm} (pK:ij=gD.length) (XU:Ei=Mk.length) (XV:Ej=xA.length) (h0:Out H0 Ri H (Rs.blk ax [.sl ⟨jw,ij,jx⟩,.i aE,.i bP]::Rs.own ⟨Mg,Ei,Mi⟩ eI.z Ml::Rs.blk yS [.i XS,.i XT,.sl ⟨Mg,Ei,Mi⟩]::Rs.own ⟨Mh,Ej,Mj⟩ eI.z Mm::Rs.blk yT [.i Ay,.i Az,.sl ⟨Mh,Ej,Mj⟩]::R0) λR=>ROs (gI .u8) H R ⟨jw,ij,jx⟩ gD/\CR eI H R Ml Mk/\CR eI H R Mm xA) {r:ahC} (hp:cw.pj2 F iM gD aE bP Ay Az xA tE tF=some r):Rt (cw.j2 F (eH.tw F) (bO.tw F) C61_ ax 0 yS 0 yT 0 tE tF H) (cw.Q H0 Ri R0 jw ij ax jx gD r):=by
 obtain ⟨w0,s0,pd,XW,XX⟩:=h0
 subst pK
 subst XU
 subst XV
 unfold cw.pj2 at hp
 unfold cw.j2
 exact hC61 rfl rfl rfl ⟨w0,s0,pd,XW,XX⟩ hp
def cw.pl61 (F:Nat) :Nat->List Int->Int->Int->Int->Int->List Int->Int->Int->Option (Int×Int×List Int×Int×Int)
 | 0,_,_,_,_,_,_,_,_=>none
 | k+1,gD,aE,bP,rQ,rR,pe,lp,lq=>(bif (decide (lq<(pe.length:Int))) then ((bO.p F gD aE bP 3).bind λr1=>(bif (decide (r1.1>0)) then ((bO.p F gD r1.2.1 r1.2.2 (wrap .i64 ((wrap .i64 (2 * lp))+1))).bind λr3=>(ix pe lq).bind λn5=>(some (pe.set n5 (wrap .i64 (r3.1 - lp)))).bind λl6=>cw.pj2 F (cw.pl61 F k) gD r3.2.1 r3.2.2 rQ rR l6 lp lq) else (cw.pj2 F (cw.pl61 F k) gD r1.2.1 r1.2.2 rQ rR pe lp lq))) else (some (rQ,rR,pe,aE,bP)))
theorem cw.l61_P {jw ij ax jx gD} :∀ k,cw.S61 H0 Ri R0 jw ij ax jx gD (cw.l61 F (eH.tw F) (bO.tw F)  k) (cw.pl61 F  k):=by
 intro k
 induction k with
 | zero=>unfold cw.S61;intros;rename_i hp;cases hp
 | succ k ih=>
  intro aE bP Me Mf rQ rR lp lq Eb Ec Aw mh Ax ln Ed Ee Ef pe Eg Eh H pK XY XZ h0 r hp
  obtain ⟨w0,s0,pd,Mn,AA⟩:=h0
  subst pK
  subst XY
  subst XZ
  unfold cw.pl61 at hp
  unfold cw.l61
  refine lSl w0 4 ?_
  refine aX hp (λhp=>?_) λhp=>?_
  ·obtain ⟨r1,e1,hp⟩:=ag hp
   refine aP (bO.P rfl ⟨w0,pd⟩ e1) ?_
   rintro _ H2 ⟨rfl,w2,s2,_⟩
   refine br ?_
   refine aX hp (λhp=>?_) λhp=>?_
   ·refine lSl w2 4 ?_
    obtain ⟨r3,e3,hp⟩:=ag hp
    refine aP (bO.P rfl ⟨w2,(pd.step s2)⟩ e3) ?_
    rintro _ H4 ⟨rfl,w4,s4,_⟩
    refine br ?_
    obtain ⟨n5,g5,hp⟩:=ag hp
    obtain ⟨p5,q5,i5,h5,j5⟩:=W.ixo (E:=eI) w4 (i:=3) rfl rfl (AA.step (s2.trans s4)) g5
    refine bu i5 ?_
    obtain ⟨l6,e6,hp⟩:=ag hp
    refine iF eI w4 (i:=3) (j:=0) (p:=p5) rfl rfl (AA.step (s2.trans s4)) g5 i5 e6 rfl rfl (λ_ h=>by have h:_=[_]:=h;subst h;exact rfl) λH7 k7 w7 s7 c7=>?_
    refine wX ⟨⟨(gJ (jO (w4.ld (i:=4) rfl rfl)) (jP _ _)),(gJ (jO (w2.ld (i:=4) rfl rfl)) (jP _ _)),trivial⟩,trivial⟩ ?_
    exact cw.j2_P (@ih) rfl rfl ((fJ e6).symm) ⟨w7,(s0.trans (s2.trans (s4.trans s7))),(pd.step (s2.trans (s4.trans s7))),(Mn.step (s2.trans (s4.trans s7))),c7⟩ hp
   ·exact cw.j2_P (@ih) rfl rfl rfl ⟨w2,(s0.trans s2),(pd.step s2),(Mn.step s2),(AA.step s2)⟩ hp
  ·refine lI w0 4 ?_
   refine lI w0 4 ?_
   refine lSl w0 4 ?_
   refine aL w0 2 λH8 w8 s8=>?_
   refine aL w8 2 λH9 w9 s9=>?_
   refine aL w9 2 λH10 w10 s10=>?_
   refine lI w10 2 ?_
   refine lI w10 2 ?_
   refine lSl w10 2 ?_
   obtain ⟨w11,s11⟩:=w10.pp [3,0] 5
   exact aW hp ⟨_,_,_,_,rfl,rfl,w11,(s0.trans (s8.trans (s9.trans (s10.trans s11)))),(AA.step (s8.trans (s9.trans (s10.trans s11))))⟩
def cw.p (F:Nat) (gm:agV) (aE:Int) (bP:Int) (af:Int) (cy:Int):Option (Int×Int×List Int×Int×Int):=(eH.p F af cy).bind λr2=>(bO.p F gm aE bP 6).bind λr9=>cw.pl61 F F gm r9.2.1 r9.2.2 r2.1 r2.2.1 r2.2.2 (wrap .i64 (1+r9.1)) 0
theorem cw.P {jS je aa jT gm aE bP af cy} (xz:je=gm.length) (h0:Inn H (Rs.blk aa [.sl ⟨jS,je,jT⟩,.i aE,.i bP]::R0) λR=>ROs (gI .u8) H R ⟨jS,je,jT⟩ gm) {r:ahC} (hp:cw.p F gm aE bP af cy=some r):Rt (cw.tw F aa 0 af cy H) (cw.Q H (Rs.blk aa [.sl ⟨jS,je,jT⟩,.i aE,.i bP]::R0) R0 jS je aa jT gm r):=by
 obtain ⟨w0,kX⟩:=h0
 subst xz
 unfold cw.p at hp
 unfold cw.tw cw.twX
 have s0:=w0.rf
 refine cF w0 λH1 w1 s1=>?_
 obtain ⟨r2,e2,hp⟩:=ag hp
 refine aP (eH.P ⟨w1,trivial⟩ e2) ?_
 rintro _ H3 ⟨o2a_3,o2n_3,o2k_3,rfl,rfl,w3,s3,f3_0⟩
 refine br (br (br (br (br (br (br ?_))))))
 refine cF w3 λH4 w4 s4=>?_
 refine aL w4 0 λH5 w5 s5=>?_
 refine aL w5 0 λH6 w6 s6=>?_
 refine aL w6 0 λH7 w7 s7=>?_
 obtain ⟨w8,s8⟩:=w7.pp [3,0,1,2] 4
 obtain ⟨r9,e9,hp⟩:=ag hp
 refine aP (bO.P rfl ⟨w8,(kX.step (s1.trans (s3.trans (s4.trans (s5.trans (s6.trans (s7.trans s8)))))))⟩ e9) ?_
 rintro _ H10 ⟨rfl,w10,s10,_⟩
 refine br ?_
 obtain ⟨w11,s11⟩:=w10.nilS eI.z (by decide)
 obtain ⟨w12,s12⟩:=w11.pp [1,0,4,3,2] 5
 exact cw.l61_P F rfl rfl rfl ⟨w12,(s0.trans (s1.trans (s3.trans (s4.trans (s5.trans (s6.trans (s7.trans (s8.trans (s10.trans (s11.trans s12)))))))))),(kX.step (s1.trans (s3.trans (s4.trans (s5.trans (s6.trans (s7.trans (s8.trans (s10.trans (s11.trans s12)))))))))),((CR.empty:CR eI _ _ [] []).step s12),(f3_0.step (s4.trans (s5.trans (s6.trans (s7.trans (s8.trans (s10.trans (s11.trans s12))))))))⟩ hp
def fz.Q (H0:Hp) (Ri R0:agX) (jS:ON) (je aa:Nat) (jT:Cap) (r:ahC) (v:AV) (H':Hp):Prop:=∃ o2a:ON,∃ o2n:Nat,∃ o2c:Cap,∃ o2k:List AV,v=(.agg [(.i r.1),(.i r.2.1),(.sl ⟨o2a,o2n,o2c⟩)])/\o2n=(r.2.2.1).length/\Out H0 Ri H' (Rs.own ⟨o2a,o2n,o2c⟩ eI.z o2k::Rs.blk aa [.sl ⟨jS,je,jT⟩,.i (r.2.2.2.1),.i (r.2.2.2.2)]::R0) λR=>CR eI H' R o2k (r.2.2.1)
def fz.p (F:Nat) (gm:agV) (aE:Int) (bP:Int):Option (Int×Int×List Int×Int×Int):=(bO.p F gm aE bP 5).bind λr3=>(bO.p F gm r3.2.1 r3.2.2 5).bind λr5=>(cw.p F gm r5.2.1 r5.2.2 r3.1 r5.1).bind λr7=>(bO.p F gm r7.2.2.2.1 r7.2.2.2.2 24).bind λr14=>(bif (r14.1==0) then (some ((wrap .i64 (r7.1+1)),r7.2.1,r7.2.2.1,r14.2.1,r14.2.2)) else ((bif (r14.1==1) then ((apn r7.2.2.1 ([0]:List Int)).bind λl22=>some (r7.1,r7.2.1,l22,r14.2.1,r14.2.2)) else ((bif (r14.1==2) then ((bif (decide ((r7.2.2.1.length:Int)>0)) then ((bO.p F gm r14.2.1 r14.2.2 (r7.2.2.1.length:Int)).bind λr29=>(bO.p F gm r29.2.1 r29.2.2 5).bind λr33=>(ix ([1000000000000,1000000000001,(-1000000000000),(-1000000000001),(-9223372036854775808)]:List Int) r33.1).bind λn35=>(ix r7.2.2.1 r29.1).bind λn36=>(some (r7.2.2.1.set n36 (gt ([1000000000000,1000000000001,(-1000000000000),(-1000000000001),(-9223372036854775808)]:List Int) n35))).bind λl37=>some (r7.1,r7.2.1,l37,r33.2.1,r33.2.2)) else (some (r7.1,r7.2.1,r7.2.2.1,r14.2.1,r14.2.2)))) else ((bif (r14.1==3) then ((bO.p F gm r14.2.1 r14.2.2 3).bind λr49=>(ix ([48,49,(-1)]:List Int) r49.1).bind λn51=>some (0,(gt ([48,49,(-1)]:List Int) n51),([]:List Int),r49.2.1,r49.2.2)) else (some (r7.1,r7.2.1,r7.2.2.1,r14.2.1,r14.2.2)))))))))
theorem fz.P {jS je aa jT gm aE bP} (xz:je=gm.length) (h0:Inn H (Rs.blk aa [.sl ⟨jS,je,jT⟩,.i aE,.i bP]::R0) λR=>ROs (gI .u8) H R ⟨jS,je,jT⟩ gm) {r:ahC} (hp:fz.p F gm aE bP=some r):Rt (fz.tw F aa 0 H) (fz.Q H (Rs.blk aa [.sl ⟨jS,je,jT⟩,.i aE,.i bP]::R0) R0 jS je aa jT r):=by
 obtain ⟨w0,kX⟩:=h0
 subst xz
 unfold fz.p at hp
 unfold fz.tw fz.twX
 have s0:=w0.rf
 refine cF w0 λH1 w1 s1=>?_
 obtain ⟨w2,s2⟩:=w1.pp [1,0] 2
 obtain ⟨r3,e3,hp⟩:=ag hp
 refine aP (bO.P rfl ⟨w2,(kX.step (s1.trans s2))⟩ e3) ?_
 rintro _ H4 ⟨rfl,w4,s4,_⟩
 refine br ?_
 obtain ⟨r5,e5,hp⟩:=ag hp
 refine aP (bO.P rfl ⟨w4,(kX.step (s1.trans (s2.trans s4)))⟩ e5) ?_
 rintro _ H6 ⟨rfl,w6,s6,_⟩
 refine br ?_
 obtain ⟨r7,e7,hp⟩:=ag hp
 refine aP (cw.P rfl ⟨w6,(kX.step (s1.trans (s2.trans (s4.trans s6))))⟩ e7) ?_
 rintro _ H8 ⟨o2a_8,o2n_8,o2c_8,o2k_8,rfl,rfl,w8,s8,f8_0⟩
 refine br (br (br (br (br (br (br ?_))))))
 refine cF w8 λH9 w9 s9=>?_
 refine aL w9 0 λH10 w10 s10=>?_
 refine aL w10 0 λH11 w11 s11=>?_
 refine aL w11 0 λH12 w12 s12=>?_
 obtain ⟨w13,s13⟩:=w12.pp [2,0,1,3] 4
 obtain ⟨r14,e14,hp⟩:=ag hp
 refine aP (bO.P rfl ⟨w13,(kX.step (s1.trans (s2.trans (s4.trans (s6.trans (s8.trans (s9.trans (s10.trans (s11.trans (s12.trans s13))))))))))⟩ e14) ?_
 rintro _ H15 ⟨rfl,w15,s15,_⟩
 refine br ?_
 refine aX hp (λhp=>?_) λhp=>?_
 ·refine lI w15 1 ?_
  refine aL w15 1 λH16 w16 s16=>?_
  refine lI w16 1 ?_
  refine lI w16 1 ?_
  refine lSl w16 1 ?_
  refine aL w16 3 λH17 w17 s17=>?_
  refine aL w17 3 λH18 w18 s18=>?_
  refine aL w18 3 λH19 w19 s19=>?_
  dsimp only [pk,pks,nth,List.drop,List.set,List.eraseIdx] at w19 s2 s9 s10 s11 s12 s13 s16 s17 s18 s19
  refine lI w19 3 ?_
  refine lI w19 3 ?_
  refine lSl w19 3 ?_
  obtain ⟨w20,s20⟩:=w19.pp [2,0] 4
  exact aW hp ⟨_,_,_,_,rfl,rfl,w20,(s0.trans (s1.trans (s2.trans (s4.trans (s6.trans (s8.trans (s9.trans (s10.trans (s11.trans (s12.trans (s13.trans (s15.trans (s16.trans (s17.trans (s18.trans (s19.trans s20)))))))))))))))),(f8_0.step (s9.trans (s10.trans (s11.trans (s12.trans (s13.trans (s15.trans (s16.trans (s17.trans (s18.trans (s19.trans s20)))))))))))⟩
 ·refine aX hp (λhp=>?_) λhp=>?_
  ·refine lSl w15 1 ?_
   refine wY eI w15 (n:=1) (l:=([0]:List Int)) rfl (CR.cons1 rfl CR.empty) rfl λH21 w21 s21 c21=>?_
   refine bu (w21.rowo (i:=0) rfl) ?_
   obtain ⟨l22,e22,hp⟩:=ag hp
   refine DD eI w21 (i:=3) rfl rfl (f8_0.step (s9.trans (s10.trans (s11.trans (s12.trans (s13.trans (s15.trans s21))))))) c21 (show 1=List.length ([0]:List Int) from rfl) rfl e22 λa23 d23 H23 w23 s23 c23 x23=>?_
   refine aL w23 2 λH24 w24 s24=>?_
   refine lI w24 2 ?_
   refine lI w24 2 ?_
   refine lSl w24 2 ?_
   refine aL w24 4 λH25 w25 s25=>?_
   refine aL w25 4 λH26 w26 s26=>?_
   dsimp only [pk,pks,nth,List.drop,List.set,List.eraseIdx] at w26 s2 s9 s10 s11 s12 s13 s21 s23 c23 s24 s25 s26
   refine aL w26 4 λH27 w27 s27=>?_
   refine lI w27 4 ?_
   refine lI w27 4 ?_
   refine lSl w27 4 ?_
   obtain ⟨w28,s28⟩:=w27.pp [3,1] 5
   exact aW hp ⟨_,_,_,_,rfl,rfl,w28,(s0.trans (s1.trans (s2.trans (s4.trans (s6.trans (s8.trans (s9.trans (s10.trans (s11.trans (s12.trans (s13.trans (s15.trans (s21.trans (s23.trans (s24.trans (s25.trans (s26.trans (s27.trans s28)))))))))))))))))),(c23.step (s24.trans (s25.trans (s26.trans (s27.trans s28)))))⟩
  ·refine aX hp (λhp=>?_) λhp=>?_
   ·refine lSl w15 1 ?_
    refine aX hp (λhp=>?_) λhp=>?_
    ·refine lSl w15 1 ?_
     obtain ⟨r29,e29,hp⟩:=ag hp
     refine aP (bO.P rfl ⟨w15,(kX.step (s1.trans (s2.trans (s4.trans (s6.trans (s8.trans (s9.trans (s10.trans (s11.trans (s12.trans (s13.trans s15)))))))))))⟩ e29) ?_
     rintro _ H30 ⟨rfl,w30,s30,_⟩
     refine br ?_
     refine lSl w30 1 ?_
     refine wY eI w30 (n:=5) (l:=([1000000000000,1000000000001,(-1000000000000),(-1000000000001),(-9223372036854775808)]:List Int)) rfl (CR.cons1 rfl (CR.cons1 rfl (CR.cons1 rfl (CR.cons1 rfl (CR.cons1 rfl CR.empty))))) rfl λH31 w31 s31 c31=>?_
     obtain ⟨w32,s32⟩:=w31.pp [1,0,2,3,4] 5
     obtain ⟨r33,e33,hp⟩:=ag hp
     refine aP (bO.P rfl ⟨w32,(kX.step (s1.trans (s2.trans (s4.trans (s6.trans (s8.trans (s9.trans (s10.trans (s11.trans (s12.trans (s13.trans (s15.trans (s30.trans (s31.trans s32))))))))))))))⟩ e33) ?_
     rintro _ H34 ⟨rfl,w34,s34,_⟩
     refine br ?_
     obtain ⟨n35,g35,hp⟩:=ag hp
     obtain ⟨p35,q35,i35,h35,j35⟩:=W.ixo (E:=eI) w34 (i:=1) rfl rfl (c31.step (s32.trans s34)) g35
     refine bu i35 ?_
     have h35:_=[_]:=h35
     subst h35
     refine bu (dx (j35 0 _ rfl)) ?_
     obtain ⟨n36,g36,hp⟩:=ag hp
     obtain ⟨p36,q36,i36,h36,j36⟩:=W.ixo (E:=eI) w34 (i:=3) rfl rfl (f8_0.step (s9.trans (s10.trans (s11.trans (s12.trans (s13.trans (s15.trans (s30.trans (s31.trans (s32.trans s34)))))))))) g36
     refine bu i36 ?_
     obtain ⟨l37,e37,hp⟩:=ag hp
     refine iF eI w34 (i:=3) (j:=0) (p:=p36) rfl rfl (f8_0.step (s9.trans (s10.trans (s11.trans (s12.trans (s13.trans (s15.trans (s30.trans (s31.trans (s32.trans s34)))))))))) g36 i36 e37 rfl rfl (λ_ h=>by have h:_=[_]:=h;subst h;exact rfl) λH38 k38 w38 s38 c38=>?_
     refine wX ⟨⟨(w34.mk_ (i:=1) rfl rfl (by simp)),(w31.mk_ (i:=0) rfl rfl (by simp)),(ae3 (by simp)),trivial⟩,⟨(gJ (jO (w34.ld (i:=2) rfl rfl)) (jP _ _)),(gJ (jO (w31.ld (i:=2) rfl rfl)) (jP _ _)),(gJ (jO (w30.ld (i:=1) rfl rfl)) (jP _ _)),trivial⟩,trivial⟩ ?_
     refine lI w38 2 ?_
     refine lI w38 2 ?_
     refine lSl w38 2 ?_
     refine aL w38 4 λH39 w39 s39=>?_
     refine aL w39 4 λH40 w40 s40=>?_
     dsimp only [pk,pks,nth,List.drop,List.set,List.eraseIdx] at w40 s2 s9 s10 s11 s12 s13 s31 s32 s38 c38 s39 s40
     refine aL w40 4 λH41 w41 s41=>?_
     refine lI w41 4 ?_
     refine lI w41 4 ?_
     refine lSl w41 4 ?_
     obtain ⟨w42,s42⟩:=w41.pp [3,0] 5
     exact aW hp ⟨_,_,_,_,rfl,(fJ e37).symm,w42,(s0.trans (s1.trans (s2.trans (s4.trans (s6.trans (s8.trans (s9.trans (s10.trans (s11.trans (s12.trans (s13.trans (s15.trans (s30.trans (s31.trans (s32.trans (s34.trans (s38.trans (s39.trans (s40.trans (s41.trans s42)))))))))))))))))))),(c38.step (s39.trans (s40.trans (s41.trans s42))))⟩
    ·refine lI w15 1 ?_
     refine lI w15 1 ?_
     refine lSl w15 1 ?_
     refine aL w15 3 λH43 w43 s43=>?_
     refine aL w43 3 λH44 w44 s44=>?_
     refine aL w44 3 λH45 w45 s45=>?_
     refine lI w45 3 ?_
     refine lI w45 3 ?_
     refine lSl w45 3 ?_
     obtain ⟨w46,s46⟩:=w45.pp [2,0] 4
     dsimp only [pk,pks,nth,List.drop,List.set,List.eraseIdx] at w46 s2 s9 s10 s11 s12 s13 s43 s44 s45 s46
     exact aW hp ⟨_,_,_,_,rfl,rfl,w46,(s0.trans (s1.trans (s2.trans (s4.trans (s6.trans (s8.trans (s9.trans (s10.trans (s11.trans (s12.trans (s13.trans (s15.trans (s43.trans (s44.trans (s45.trans s46))))))))))))))),(f8_0.step (s9.trans (s10.trans (s11.trans (s12.trans (s13.trans (s15.trans (s43.trans (s44.trans (s45.trans s46))))))))))⟩
   ·refine aX hp (λhp=>?_) λhp=>?_
    ·refine wY eI w15 (n:=3) (l:=([48,49,(-1)]:List Int)) rfl (CR.cons1 rfl (CR.cons1 rfl (CR.cons1 rfl CR.empty))) rfl λH47 w47 s47 c47=>?_
     obtain ⟨w48,s48⟩:=w47.pp [1,0,2,3,4] 5
     obtain ⟨r49,e49,hp⟩:=ag hp
     refine aP (bO.P rfl ⟨w48,(kX.step (s1.trans (s2.trans (s4.trans (s6.trans (s8.trans (s9.trans (s10.trans (s11.trans (s12.trans (s13.trans (s15.trans (s47.trans s48)))))))))))))⟩ e49) ?_
     rintro _ H50 ⟨rfl,w50,s50,_⟩
     refine br ?_
     obtain ⟨n51,g51,hp⟩:=ag hp
     obtain ⟨p51,q51,i51,h51,j51⟩:=W.ixo (E:=eI) w50 (i:=1) rfl rfl (c47.step (s48.trans s50)) g51
     refine bu i51 ?_
     have h51:_=[_]:=h51
     subst h51
     refine bu (dx (j51 0 _ rfl)) ?_
     refine aL w50 2 λH52 w52 s52=>?_
     refine aL w52 2 λH53 w53 s53=>?_
     refine aL w53 2 λH54 w54 s54=>?_
     dsimp only [pk,pks,nth,List.drop,List.set,List.eraseIdx] at w54 s2 s9 s10 s11 s12 s13 s47 s48 s52 s53 s54
     refine lI w54 2 ?_
     refine lI w54 2 ?_
     refine lSl w54 2 ?_
     refine aL w54 4 λH55 w55 s55=>?_
     refine aL w55 4 λH56 w56 s56=>?_
     refine aL w56 4 λH57 w57 s57=>?_
     refine lI w57 4 ?_
     refine lI w57 4 ?_
     refine lSl w57 4 ?_
     obtain ⟨w58,s58⟩:=w57.nilS eI.z (by decide)
     obtain ⟨w59,s59⟩:=w58.pp [0,1] 6
     exact aW hp ⟨_,_,_,_,rfl,rfl,w59,(s0.trans (s1.trans (s2.trans (s4.trans (s6.trans (s8.trans (s9.trans (s10.trans (s11.trans (s12.trans (s13.trans (s15.trans (s47.trans (s48.trans (s50.trans (s52.trans (s53.trans (s54.trans (s55.trans (s56.trans (s57.trans (s58.trans s59)))))))))))))))))))))),((CR.empty:CR eI _ _ [] []).step s59)⟩
    ·refine lI w15 1 ?_
     refine lI w15 1 ?_
     refine lSl w15 1 ?_
     refine aL w15 3 λH60 w60 s60=>?_
     refine aL w60 3 λH61 w61 s61=>?_
     refine aL w61 3 λH62 w62 s62=>?_
     refine lI w62 3 ?_
     refine lI w62 3 ?_
     refine lSl w62 3 ?_
     obtain ⟨w63,s63⟩:=w62.pp [2,0] 4
     dsimp only [pk,pks,nth,List.drop,List.set,List.eraseIdx] at w63 s2 s9 s10 s11 s12 s13 s60 s61 s62 s63
     exact aW hp ⟨_,_,_,_,rfl,rfl,w63,(s0.trans (s1.trans (s2.trans (s4.trans (s6.trans (s8.trans (s9.trans (s10.trans (s11.trans (s12.trans (s13.trans (s15.trans (s60.trans (s61.trans (s62.trans s63))))))))))))))),(f8_0.step (s9.trans (s10.trans (s11.trans (s12.trans (s13.trans (s15.trans (s60.trans (s61.trans (s62.trans s63))))))))))⟩
def dt.Q (H0:Hp) (Ri R0:agX)  (r:ahf) (v:AV) (H':Hp):Prop:=∃ o2a:ON,∃ o2n:Nat,∃ o2c:Cap,∃ o2k:List AV,v=(.agg [(.i r.1),(.i r.2.1),(.sl ⟨o2a,o2n,o2c⟩)])/\o2n=(r.2.2).length/\Out H0 Ri H' (Rs.own ⟨o2a,o2n,o2c⟩ eI.z o2k::R0) λR=>CR eI H' R o2k (r.2.2)
def dt.S29 (H0:Hp) (Ri R0:agX)  (C:Int->Nat->Nat->Nat->Nat->Int->Hp->OA) (pC:Int->Int->Int->List Int->Int->Option (Int×Int×List Int)):Prop:=∀ {mO xB xC nb mJ iv rS rT pL ed pM iH rU rV rW kY rX rY},∀ {H:Hp},pL=rW.length->pM=kY.length->(Out H0 Ri H (Rs.own ⟨rS,pL,rU⟩ eI.z rX::Rs.blk ed [.i xB,.i xC,.sl ⟨rS,pL,rU⟩]::Rs.own ⟨rT,pM,rV⟩ eI.z rY::Rs.blk iH [.i nb,.i mJ,.sl ⟨rT,pM,rV⟩]::R0) λR=>CR eI H R rX rW/\CR eI H R rY kY)->∀ {r:ahf},pC mO nb mJ kY iv=some r->Rt (C mO ed 0 iH 0 iv H) (dt.Q H0 Ri R0  r)
def dt.pl29 (F:Nat) :Nat->Int->Int->Int->List Int->Int->Option (Int×Int×List Int)
 | 0,_,_,_,_,_=>none
 | k+1,mO,nb,mJ,kY,iv=>(bif (decide (iv<mO)) then ((ix kY (wrap .i64 ((wrap .i64 (iv * mO))+iv))).bind λn1=>(some (kY.set n1 1)).bind λl2=>dt.pl29 F k mO nb mJ l2 (wrap .i64 (iv+1))) else (some (nb,mJ,kY)))
theorem dt.l29_P  :∀ k,dt.S29 H0 Ri R0  (dt.l29 F (eH.tw F)  k) (dt.pl29 F  k):=by
 intro k
 induction k with
 | zero=>unfold dt.S29;intros;rename_i hp;cases hp
 | succ k ih=>
  intro mO xB xC nb mJ iv rS rT pL ed pM iH rU rV rW kY rX rY H Ek El h0 r hp
  obtain ⟨w0,s0,Em,rZ⟩:=h0
  subst Ek
  subst El
  unfold dt.pl29 at hp
  unfold dt.l29
  refine aX hp (λhp=>?_) λhp=>?_
  ·refine lSl w0 3 ?_
   obtain ⟨n1,g1,hp⟩:=ag hp
   obtain ⟨p1,q1,i1,h1,j1⟩:=W.ixo (E:=eI) w0 (i:=2) rfl rfl rZ g1
   refine bu i1 ?_
   obtain ⟨l2,e2,hp⟩:=ag hp
   refine iF eI w0 (i:=2) (j:=0) (p:=p1) rfl rfl rZ g1 i1 e2 rfl rfl (λ_ h=>by have h:_=[_]:=h;subst h;exact rfl) λH3 k3 w3 s3 c3=>?_
   exact ih rfl ((fJ e2).symm) ⟨w3,(s0.trans s3),(Em.step s3),c3⟩ hp
  ·refine lI w0 3 ?_
   refine lI w0 3 ?_
   refine lSl w0 3 ?_
   refine aL w0 1 λH4 w4 s4=>?_
   refine aL w4 1 λH5 w5 s5=>?_
   refine aL w5 1 λH6 w6 s6=>?_
   refine lI w6 1 ?_
   refine lI w6 1 ?_
   refine lSl w6 1 ?_
   obtain ⟨w7,s7⟩:=w6.pp [2] 4
   exact aW hp ⟨_,_,_,_,rfl,rfl,w7,(s0.trans (s4.trans (s5.trans (s6.trans s7)))),(rZ.step (s4.trans (s5.trans (s6.trans s7))))⟩
def dt.p (F:Nat) (aa:Int):Option (Int×Int×List Int):=(eH.p F aa aa).bind λr2=>dt.pl29 F F aa r2.1 r2.2.1 r2.2.2 0
theorem dt.P {aa}  (h0:Inn H R0 λR=>True) {r:ahf} (hp:dt.p F aa=some r):Rt (dt.tw F aa H) (dt.Q H R0 R0  r):=by
 obtain ⟨w0,_⟩:=h0
 unfold dt.p at hp
 unfold dt.tw dt.twX
 have s0:=w0.rf
 refine cF w0 λH1 w1 s1=>?_
 obtain ⟨r2,e2,hp⟩:=ag hp
 refine aP (eH.P ⟨w1,trivial⟩ e2) ?_
 rintro _ H3 ⟨o2a_3,o2n_3,o2k_3,rfl,rfl,w3,s3,f3_0⟩
 refine br (br (br (br (br (br (br ?_))))))
 refine cF w3 λH4 w4 s4=>?_
 refine aL w4 0 λH5 w5 s5=>?_
 refine aL w5 0 λH6 w6 s6=>?_
 refine aL w6 0 λH7 w7 s7=>?_
 obtain ⟨w8,s8⟩:=w7.nilS eI.z (by decide)
 obtain ⟨w9,s9⟩:=w8.pp [0,3,2,1] 4
 exact dt.l29_P F rfl rfl ⟨w9,(s0.trans (s1.trans (s3.trans (s4.trans (s5.trans (s6.trans (s7.trans (s8.trans s9)))))))),((CR.empty:CR eI _ _ [] []).step s9),(f3_0.step (s4.trans (s5.trans (s6.trans (s7.trans (s8.trans s9))))))⟩ hp
def bm.Q (H0:Hp) (Ri R0:agX)  (r:Int) (v:AV) (H':Hp):Prop:=v=(.i r)/\Out H0 Ri H' (R0) λR=>True
def bm.p (F:Nat) (ac:Int) (bT:agV) (aA:Int) (cG:Int):Option (Int):=(ix bT (wrap .i64 ((wrap .i64 (aA * ac))+cG))).bind λn2=>some (gt bT n2)
theorem bm.P {aa ac aA cG dH cK dI bT} (gE:cK=bT.length) (h0:Inn H R0 λR=>ROs eI H R ⟨dH,cK,dI⟩ bT) {r:Int} (hp:bm.p F ac bT aA cG=some r):Rt (bm.tw F aa ac ⟨dH,cK,dI⟩ aA cG H) (bm.Q H R0 R0  r):=by
 obtain ⟨w0,fU⟩:=h0
 subst gE
 unfold bm.p at hp
 unfold bm.tw bm.twX
 have s0:=w0.rf
 refine cF w0 λH1 w1 s1=>?_
 refine lSl w1 0 ?_
 refine lI w1 0 ?_
 obtain ⟨n2,g2,hp⟩:=ag hp
 obtain ⟨p2,q2,i2,h2,j2⟩:=ROs.ixr (fU.step s1) rfl g2
 refine bu i2 ?_
 have h2:_=[_]:=h2
 subst h2
 refine bu (dx (j2 0 _ rfl)) ?_
 obtain ⟨w3,s3⟩:=w1.pp [] 1
 exact aW hp ⟨rfl,w3,(s0.trans (s1.trans s3)),trivial⟩
def fa.Q (H0:Hp) (Ri R0:agX)  (r:Int) (v:AV) (H':Hp):Prop:=v=(.i r)/\Out H0 Ri H' (R0) λR=>True
def fa.p (F:Nat) (aa:Int):Option (Int):=some (if (wrap .i64 (0 - aa))>aa then (wrap .i64 (0 - aa)) else aa)
theorem fa.P {aa}  (h0:Inn H R0 λR=>True) {r:Int} (hp:fa.p F aa=some r):Rt (fa.tw F aa H) (fa.Q H R0 R0  r):=by
 obtain ⟨w0,_⟩:=h0
 unfold fa.p at hp
 unfold fa.tw fa.twX
 have s0:=w0.rf
 exact aW hp ⟨rfl,w0,s0,trivial⟩
def cS.Q (H0:Hp) (Ri R0:agX) (dH:ON) (cK:Nat) (dI:Cap) (jf:Bool) (jg jh:ag3) (r:agV) (v:AV) (H':Hp):Prop:=∃ oA:List AV,v=(.tup [])/\cK=(r).length/\Out H0 Ri H' (Rs.ow jf ⟨dH,cK,dI⟩ eI.z jg oA jh::R0) λR=>CR eI H' R oA (r)
def cS.S7 (H0:Hp) (Ri R0:agX) (ji:ON) (ik:Nat) (jj:Cap) (ko:Bool) (kp kq:ag3) (C:ah0) (pC:Int->Int->Int->List Int->Int->Option (List Int)):Prop:=∀ {hO hQ pN jU fD jI r_ fK},∀ {H:Hp},ik=jI.length->(Out H0 Ri H (Rs.ow ko ⟨ji,ik,jj⟩ eI.z kp r_ kq::Rs.blk fK [.i pN,.i jU,.sl ⟨ji,ik,jj⟩]::R0) λR=>CR eI H R r_ jI)->∀ {r:agV},pC hO hQ jU jI fD=some r->Rt (C hO hQ fK 0 fD H) (cS.Q H0 Ri R0 ji ik jj ko kp kq r)
def cS.pl7 (F:Nat) :Nat->Int->Int->Int->List Int->Int->Option (List Int)
 | 0,_,_,_,_,_=>none
 | k+1,hO,hQ,jU,jI,fD=>(bif (decide (fD<jU)) then ((bm.p F jU jI hO fD).bind λr2=>(bm.p F jU jI hQ fD).bind λr6=>(ix jI (wrap .i64 ((wrap .i64 (hO * jU))+fD))).bind λn10=>(some (jI.set n10 r6)).bind λl11=>(ix l11 (wrap .i64 ((wrap .i64 (hQ * jU))+fD))).bind λn13=>(some (l11.set n13 r2)).bind λl14=>cS.pl7 F k hO hQ jU l14 (wrap .i64 (fD+1))) else (some jI))
theorem cS.l7_P {ji ik jj ko kp kq} :∀ k,cS.S7 H0 Ri R0 ji ik jj ko kp kq (cS.l7 F (bm.tw F)  k) (cS.pl7 F  k):=by
 intro k
 induction k with
 | zero=>unfold cS.S7;intros;rename_i hp;cases hp
 | succ k ih=>
  intro hO hQ pN jU fD jI r_ fK H En h0 r hp
  obtain ⟨w0,s0,oB⟩:=h0
  subst En
  unfold cS.pl7 at hp
  unfold cS.l7
  refine lI w0 1 ?_
  refine aX hp (λhp=>?_) λhp=>?_
  ·refine lI w0 1 ?_
   refine lI w0 1 ?_
   refine lSl w0 1 ?_
   have f1:=W.borrow1 eI w0 oB
   obtain ⟨w1,s1⟩:=w0.right1
   obtain ⟨r2,e2,hp⟩:=ag hp
   refine aP (bm.P rfl ⟨w1,f1⟩ e2) ?_
   rintro _ H3 ⟨rfl,w3,s3,_⟩
   obtain ⟨w4,s4⟩:=W.frame1 w0 w3 s3
   refine br ?_
   refine lSl w4 1 ?_
   refine lI w4 1 ?_
   refine lI w4 1 ?_
   refine lI w4 1 ?_
   refine lSl w4 1 ?_
   have f5:=W.borrow1 eI w4 (oB.step s4)
   obtain ⟨w5,s5⟩:=w4.right1
   obtain ⟨r6,e6,hp⟩:=ag hp
   refine aP (bm.P rfl ⟨w5,f5⟩ e6) ?_
   rintro _ H7 ⟨rfl,w7,s7,_⟩
   obtain ⟨w8,s8⟩:=W.frame1 w4 w7 s7
   refine br ?_
   refine fQ (W.cons_of (Rn:=[]) w5 w7 s7) ?_
   obtain ⟨n10,g10,hp⟩:=ag hp
   obtain ⟨p10,q10,i10,h10,j10⟩:=W.ixo (E:=eI) w8 (i:=0) rfl rfl (oB.step (s4.trans s8)) g10
   refine bu i10 ?_
   obtain ⟨l11,e11,hp⟩:=ag hp
   refine iF eI w8 (i:=0) (j:=0) (p:=p10) rfl rfl (oB.step (s4.trans s8)) g10 i10 e11 rfl rfl (λ_ h=>by have h:_=[_]:=h;subst h;exact rfl) λH12 k12 w12 s12 c12=>?_
   refine lSl w12 1 ?_
   refine lI w12 1 ?_
   obtain ⟨n13,g13,hp⟩:=ag hp
   obtain ⟨p13,q13,i13,h13,j13⟩:=W.ixo (E:=eI) w12 (i:=0) rfl rfl c12 g13
   refine bu i13 ?_
   obtain ⟨l14,e14,hp⟩:=ag hp
   refine iF eI w12 (i:=0) (j:=0) (p:=p13) rfl rfl c12 g13 i13 e14 rfl rfl (λ_ h=>by have h:_=[_]:=h;subst h;exact rfl) λH15 k15 w15 s15 c15=>?_
   exact ih ((fJ e11).symm.trans (fJ e14).symm) ⟨w15,(s0.trans (s4.trans (s8.trans (s12.trans s15)))),c15⟩ hp
  ·obtain ⟨w16,s16⟩:=w0.pp [0] 2
   exact aW hp ⟨_,rfl,rfl,w16,(s0.trans s16),(oB.step s16)⟩
def cS.p (F:Nat) (ac:Int) (bT:agV) (aA:Int) (cG:Int):Option (List Int):=cS.pl7 F F aA cG ac bT 0
theorem cS.P {aa ac aA cG dH cK dI bT jf jg jh lU} (gE:cK=bT.length) (h0:Inn H (Rs.ow jf ⟨dH,cK,dI⟩ eI.z jg lU jh::R0) λR=>CR eI H R lU bT) {r:agV} (hp:cS.p F ac bT aA cG=some r):Rt (cS.tw F aa ac ⟨dH,cK,dI⟩ aA cG H) (cS.Q H (Rs.ow jf ⟨dH,cK,dI⟩ eI.z jg lU jh::R0) R0 dH cK dI jf jg jh r):=by
 obtain ⟨w0,fU⟩:=h0
 subst gE
 unfold cS.p at hp
 unfold cS.tw cS.twX
 have s0:=w0.rf
 refine cF w0 λH1 w1 s1=>?_
 obtain ⟨w2,s2⟩:=w1.pp [1,0] 2
 exact cS.l7_P F rfl ⟨w2,(s0.trans (s1.trans s2)),(fU.step (s1.trans s2))⟩ hp
def cT.Q (H0:Hp) (Ri R0:agX) (dH:ON) (cK:Nat) (dI:Cap) (jf:Bool) (jg jh:ag3) (r:agV) (v:AV) (H':Hp):Prop:=∃ oA:List AV,v=(.tup [])/\cK=(r).length/\Out H0 Ri H' (Rs.ow jf ⟨dH,cK,dI⟩ eI.z jg oA jh::R0) λR=>CR eI H' R oA (r)
def cT.S7 (H0:Hp) (Ri R0:agX) (ji:ON) (ik:Nat) (jj:Cap) (ko:Bool) (kp kq:ag3) (C:ah0) (pC:Int->Int->Int->Int->List Int->Int->Option (List Int)):Prop:=∀ {hO hQ pN jU fD jI r_ fK},∀ {H:Hp},ik=jI.length->(Out H0 Ri H (Rs.ow ko ⟨ji,ik,jj⟩ eI.z kp r_ kq::Rs.blk fK [.i pN,.i jU,.sl ⟨ji,ik,jj⟩]::R0) λR=>CR eI H R r_ jI)->∀ {r:agV},pC hO hQ pN jU jI fD=some r->Rt (C hO hQ fK 0 fD H) (cT.Q H0 Ri R0 ji ik jj ko kp kq r)
def cT.pl7 (F:Nat) :Nat->Int->Int->Int->Int->List Int->Int->Option (List Int)
 | 0,_,_,_,_,_,_=>none
 | k+1,hO,hQ,pN,jU,jI,fD=>(bif (decide (fD<pN)) then ((bm.p F jU jI fD hO).bind λr2=>(bm.p F jU jI fD hQ).bind λr6=>(ix jI (wrap .i64 ((wrap .i64 (fD * jU))+hO))).bind λn10=>(some (jI.set n10 r6)).bind λl11=>(ix l11 (wrap .i64 ((wrap .i64 (fD * jU))+hQ))).bind λn13=>(some (l11.set n13 r2)).bind λl14=>cT.pl7 F k hO hQ pN jU l14 (wrap .i64 (fD+1))) else (some jI))
theorem cT.l7_P {ji ik jj ko kp kq} :∀ k,cT.S7 H0 Ri R0 ji ik jj ko kp kq (cT.l7 F (bm.tw F)  k) (cT.pl7 F  k):=by
 intro k
 induction k with
 | zero=>unfold cT.S7;intros;rename_i hp;cases hp
 | succ k ih=>
  intro hO hQ pN jU fD jI r_ fK H En h0 r hp
  obtain ⟨w0,s0,oB⟩:=h0
  subst En
  unfold cT.pl7 at hp
  unfold cT.l7
  refine lI w0 1 ?_
  refine aX hp (λhp=>?_) λhp=>?_
  ·refine lI w0 1 ?_
   refine lI w0 1 ?_
   refine lSl w0 1 ?_
   have f1:=W.borrow1 eI w0 oB
   obtain ⟨w1,s1⟩:=w0.right1
   obtain ⟨r2,e2,hp⟩:=ag hp
   refine aP (bm.P rfl ⟨w1,f1⟩ e2) ?_
   rintro _ H3 ⟨rfl,w3,s3,_⟩
   obtain ⟨w4,s4⟩:=W.frame1 w0 w3 s3
   refine br ?_
   refine lSl w4 1 ?_
   refine lI w4 1 ?_
   refine lI w4 1 ?_
   refine lI w4 1 ?_
   refine lSl w4 1 ?_
   have f5:=W.borrow1 eI w4 (oB.step s4)
   obtain ⟨w5,s5⟩:=w4.right1
   obtain ⟨r6,e6,hp⟩:=ag hp
   refine aP (bm.P rfl ⟨w5,f5⟩ e6) ?_
   rintro _ H7 ⟨rfl,w7,s7,_⟩
   obtain ⟨w8,s8⟩:=W.frame1 w4 w7 s7
   refine br ?_
   refine fQ (W.cons_of (Rn:=[]) w5 w7 s7) ?_
   obtain ⟨n10,g10,hp⟩:=ag hp
   obtain ⟨p10,q10,i10,h10,j10⟩:=W.ixo (E:=eI) w8 (i:=0) rfl rfl (oB.step (s4.trans s8)) g10
   refine bu i10 ?_
   obtain ⟨l11,e11,hp⟩:=ag hp
   refine iF eI w8 (i:=0) (j:=0) (p:=p10) rfl rfl (oB.step (s4.trans s8)) g10 i10 e11 rfl rfl (λ_ h=>by have h:_=[_]:=h;subst h;exact rfl) λH12 k12 w12 s12 c12=>?_
   refine lSl w12 1 ?_
   refine lI w12 1 ?_
   obtain ⟨n13,g13,hp⟩:=ag hp
   obtain ⟨p13,q13,i13,h13,j13⟩:=W.ixo (E:=eI) w12 (i:=0) rfl rfl c12 g13
   refine bu i13 ?_
   obtain ⟨l14,e14,hp⟩:=ag hp
   refine iF eI w12 (i:=0) (j:=0) (p:=p13) rfl rfl c12 g13 i13 e14 rfl rfl (λ_ h=>by have h:_=[_]:=h;subst h;exact rfl) λH15 k15 w15 s15 c15=>?_
   exact ih ((fJ e11).symm.trans (fJ e14).symm) ⟨w15,(s0.trans (s4.trans (s8.trans (s12.trans s15)))),c15⟩ hp
  ·obtain ⟨w16,s16⟩:=w0.pp [0] 2
   exact aW hp ⟨_,rfl,rfl,w16,(s0.trans s16),(oB.step s16)⟩
def cT.p (F:Nat) (aa:Int) (ac:Int) (bT:agV) (aA:Int) (cG:Int):Option (List Int):=cT.pl7 F F aA cG aa ac bT 0
theorem cT.P {aa ac aA cG dH cK dI bT jf jg jh lU} (gE:cK=bT.length) (h0:Inn H (Rs.ow jf ⟨dH,cK,dI⟩ eI.z jg lU jh::R0) λR=>CR eI H R lU bT) {r:agV} (hp:cT.p F aa ac bT aA cG=some r):Rt (cT.tw F aa ac ⟨dH,cK,dI⟩ aA cG H) (cT.Q H (Rs.ow jf ⟨dH,cK,dI⟩ eI.z jg lU jh::R0) R0 dH cK dI jf jg jh r):=by
 obtain ⟨w0,fU⟩:=h0
 subst gE
 unfold cT.p at hp
 unfold cT.tw cT.twX
 have s0:=w0.rf
 refine cF w0 λH1 w1 s1=>?_
 obtain ⟨w2,s2⟩:=w1.pp [1,0] 2
 exact cT.l7_P F rfl ⟨w2,(s0.trans (s1.trans s2)),(fU.step (s1.trans s2))⟩ hp
def az.Q (H0:Hp) (Ri R0:agX) (bo aE bp bg aV aT bh bi bK bj:Int) (cH dJ cz dK dL:ON) (bU cY bQ cZ c_ aa:Nat) (cI dM cA dN dO:Cap) (dr:agV) (eO fo eP fp fq ay:Bool) (eQ eR ft fu eS eT fv fw fx fy:ag3) (r:aha) (v:AV) (H':Hp):Prop:=∃ jk:List AV,∃ jV:List AV,∃ jl:List AV,∃ jW:List AV,∃ jX:List AV,v=(.bool r.1)/\bU=(r.2.1).length/\cY=(r.2.2.1).length/\bQ=(r.2.2.2.1).length/\cZ=(r.2.2.2.2.1).length/\c_=(r.2.2.2.2.2).length/\Out H0 Ri H' (Rs.ow eO ⟨cH,bU,cI⟩ eI.z eQ jk eR::Rs.ow fo ⟨dJ,cY,dM⟩ eI.z ft jV fu::Rs.ow eP ⟨cz,bQ,cA⟩ eI.z eS jl eT::Rs.ow fp ⟨dK,cZ,dN⟩ eI.z fv jW fw::Rs.ow fq ⟨dL,c_,dO⟩ eI.z fx jX fy::Rs.blk aa [.i bo,.i aE,.sl ⟨cH,bU,cI⟩,.i bp,.i bg,.sl ⟨dJ,cY,dM⟩,.i aV,.i aT,.sl ⟨cz,bQ,cA⟩,.i bh,.i bi,.sl ⟨dK,cZ,dN⟩,.i bK,.i bj,.sl ⟨dL,c_,dO⟩,.bool ay]::R0) λR=>CR eI H' R jk (r.2.1)/\CR eI H' R jV (r.2.2.1)/\CR eI H' R jl (r.2.2.2.1)/\CR eI H' R jW (r.2.2.2.2.1)/\CR eI H' R jX (r.2.2.2.2.2)
def az.S29 (H0:Hp) (Ri R0:agX) (aw ai aC ap aq ak ar au aG av:Int) (aR bz aJ bC bD:ON) (aF aY aD aZ a_ ax:Nat) (aS bE aK bF bG:Cap) (cv:agV) (bV bW bX bY bZ bL:Bool) (b_ ca cb ce cf cg ch ci cj ck:ag3) (C:aho) (pC:aht):Prop:=∀ {aH aM aI aN aO cL cM cN cO cP eo fL nB nC},∀ {H:Hp},aF=aH.length->aY=aM.length->aD=aI.length->aZ=aN.length->a_=aO.length->(Out H0 Ri H (Rs.ow bV ⟨aR,aF,aS⟩ eI.z b_ cL ca::Rs.ow bW ⟨bz,aY,bE⟩ eI.z cb cM ce::Rs.ow bX ⟨aJ,aD,aK⟩ eI.z cf cN cg::Rs.ow bY ⟨bC,aZ,bF⟩ eI.z ch cO ci::Rs.ow bZ ⟨bD,a_,bG⟩ eI.z cj cP ck::Rs.blk ax [.i aw,.i ai,.sl ⟨aR,aF,aS⟩,.i aC,.i ap,.sl ⟨bz,aY,bE⟩,.i aq,.i ak,.sl ⟨aJ,aD,aK⟩,.i ar,.i au,.sl ⟨bC,aZ,bF⟩,.i aG,.i av,.sl ⟨bD,a_,bG⟩,.bool bL]::R0) λR=>CR eI H R cL aH/\CR eI H R cM aM/\CR eI H R cN aI/\CR eI H R cO aN/\CR eI H R cP aO)->∀ {r:aha},pC aw ai aH ap aM aq ak aI ar au aN av aO eo fL nB nC=some r->Rt (C ax 0 eo fL nB nC H) (az.Q H0 Ri R0 aw ai aC ap aq ak ar au aG av aR bz aJ bC bD aF aY aD aZ a_ ax aS bE aK bF bG cv bV bW bX bY bZ bL b_ ca cb ce cf cg ch ci cj ck r)
def az.S469 (H0:Hp) (Ri R0:agX) (aw ai aC ap aq ak ar au aG av:Int) (aR bz aJ bC bD:ON) (aF aY aD aZ a_ ax:Nat) (aS bE aK bF bG:Cap) (cv:agV) (bV bW bX bY bZ bL:Bool) (b_ ca cb ce cf cg ch ci cj ck:ag3) (C:ahP) (pC:ahU):Prop:=∀ {aH aM aI aN aO cL cM cN cO cP kO kP lx iX iY},∀ {H:Hp},aF=aH.length->aY=aM.length->aD=aI.length->aZ=aN.length->a_=aO.length->(Out H0 Ri H (Rs.ow bV ⟨aR,aF,aS⟩ eI.z b_ cL ca::Rs.ow bW ⟨bz,aY,bE⟩ eI.z cb cM ce::Rs.ow bX ⟨aJ,aD,aK⟩ eI.z cf cN cg::Rs.ow bY ⟨bC,aZ,bF⟩ eI.z ch cO ci::Rs.ow bZ ⟨bD,a_,bG⟩ eI.z cj cP ck::Rs.blk ax [.i aw,.i ai,.sl ⟨aR,aF,aS⟩,.i aC,.i ap,.sl ⟨bz,aY,bE⟩,.i aq,.i ak,.sl ⟨aJ,aD,aK⟩,.i ar,.i au,.sl ⟨bC,aZ,bF⟩,.i aG,.i av,.sl ⟨bD,a_,bG⟩,.bool bL]::R0) λR=>CR eI H R cL aH/\CR eI H R cM aM/\CR eI H R cN aI/\CR eI H R cO aN/\CR eI H R cP aO)->∀ {r:aha},pC aw ai aH ap aM aq ak aI ar au aN av aO kO kP lx iX iY=some r->Rt (C ax 0 kO kP lx iX iY H) (az.Q H0 Ri R0 aw ai aC ap aq ak ar au aG av aR bz aJ bC bD aF aY aD aZ a_ ax aS bE aK bF bG cv bV bW bX bY bZ bL b_ ca cb ce cf cg ch ci cj ck r)
def az.pj10 (F:Nat) (lf:ahU) (aw:Int) (ai:Int) (aH:agV) (ap:Int) (aM:agV) (aq:Int) (ak:Int) (aI:agV) (ar:Int) (au:Int) (aN:agV) (av:Int) (aO:agV) (tR:Int) (tS:Int) (tT:Int) (tU:Int) (tV:Int):Option (Bool×List Int×List Int×List Int×List Int×List Int):=lf aw ai aH ap aM aq ak aI ar au aN av aO tR tS tT tU (wrap .i64 (tV+1))
theorem az.j10_P {aw ai aC ap aq ak ar au aG av aR bz aJ bC bD aF aY aD aZ a_ ax aS bE aK bF bG cv bV bW bX bY bZ bL b_ ca cb ce cf cg ch ci cj ck} {C469_:ahP} {lf:ahU} (hC469:az.S469 H0 Ri R0 aw ai aC ap aq ak ar au aG av aR bz aJ bC bD aF aY aD aZ a_ ax aS bE aK bF bG cv bV bW bX bY bZ bL b_ ca cb ce cf cg ch ci cj ck C469_ lf) {aH aM aI aN aO cL cM cN cO cP tR tS tT tU tV} (eU:aF=aH.length) (eV:aY=aM.length) (eW:aD=aI.length) (eX:aZ=aN.length) (eY:a_=aO.length) (h0:Out H0 Ri H (Rs.ow bV ⟨aR,aF,aS⟩ eI.z b_ cL ca::Rs.ow bW ⟨bz,aY,bE⟩ eI.z cb cM ce::Rs.ow bX ⟨aJ,aD,aK⟩ eI.z cf cN cg::Rs.ow bY ⟨bC,aZ,bF⟩ eI.z ch cO ci::Rs.ow bZ ⟨bD,a_,bG⟩ eI.z cj cP ck::Rs.blk ax [.i aw,.i ai,.sl ⟨aR,aF,aS⟩,.i aC,.i ap,.sl ⟨bz,aY,bE⟩,.i aq,.i ak,.sl ⟨aJ,aD,aK⟩,.i ar,.i au,.sl ⟨bC,aZ,bF⟩,.i aG,.i av,.sl ⟨bD,a_,bG⟩,.bool bL]::R0) λR=>CR eI H R cL aH/\CR eI H R cM aM/\CR eI H R cN aI/\CR eI H R cO aN/\CR eI H R cP aO) {r:aha} (hp:az.pj10 F lf aw ai aH ap aM aq ak aI ar au aN av aO tR tS tT tU tV=some r):Rt (az.j10 F (bm.tw F) (fa.tw F) (cS.tw F) (cT.tw F) C469_ ax 0 tR tS tT tU tV H) (az.Q H0 Ri R0 aw ai aC ap aq ak ar au aG av aR bz aJ bC bD aF aY aD aZ a_ ax aS bE aK bF bG cv bV bW bX bY bZ bL b_ ca cb ce cf cg ch ci cj ck r):=by
 obtain ⟨w0,s0,cQ,db,cU,dh,di⟩:=h0
 subst eU
 subst eV
 subst eW
 subst eX
 subst eY
 unfold az.pj10 at hp
 unfold az.j10
 exact hC469 rfl rfl rfl rfl rfl ⟨w0,s0,cQ,db,cU,dh,di⟩ hp
def az.pj8 (F:Nat) (dE:aht) (aw:Int) (ai:Int) (aH:agV) (ap:Int) (aM:agV) (aq:Int) (ak:Int) (aI:agV) (ar:Int) (au:Int) (aN:agV) (av:Int) (aO:agV) (tJ:Int) (tK:Int) (tL:Int) (tM:Int):Option (Bool×List Int×List Int×List Int×List Int×List Int):=dE aw ai aH ap aM aq ak aI ar au aN av aO tJ tK tL (wrap .i64 (tM+1))
theorem az.j8_P {aw ai aC ap aq ak ar au aG av aR bz aJ bC bD aF aY aD aZ a_ ax aS bE aK bF bG cv bV bW bX bY bZ bL b_ ca cb ce cf cg ch ci cj ck} {C29_:aho} {dE:aht} (hC29:az.S29 H0 Ri R0 aw ai aC ap aq ak ar au aG av aR bz aJ bC bD aF aY aD aZ a_ ax aS bE aK bF bG cv bV bW bX bY bZ bL b_ ca cb ce cf cg ch ci cj ck C29_ dE) {aH aM aI aN aO cL cM cN cO cP tJ tK tL tM} (eU:aF=aH.length) (eV:aY=aM.length) (eW:aD=aI.length) (eX:aZ=aN.length) (eY:a_=aO.length) (h0:Out H0 Ri H (Rs.ow bV ⟨aR,aF,aS⟩ eI.z b_ cL ca::Rs.ow bW ⟨bz,aY,bE⟩ eI.z cb cM ce::Rs.ow bX ⟨aJ,aD,aK⟩ eI.z cf cN cg::Rs.ow bY ⟨bC,aZ,bF⟩ eI.z ch cO ci::Rs.ow bZ ⟨bD,a_,bG⟩ eI.z cj cP ck::Rs.blk ax [.i aw,.i ai,.sl ⟨aR,aF,aS⟩,.i aC,.i ap,.sl ⟨bz,aY,bE⟩,.i aq,.i ak,.sl ⟨aJ,aD,aK⟩,.i ar,.i au,.sl ⟨bC,aZ,bF⟩,.i aG,.i av,.sl ⟨bD,a_,bG⟩,.bool bL]::R0) λR=>CR eI H R cL aH/\CR eI H R cM aM/\CR eI H R cN aI/\CR eI H R cO aN/\CR eI H R cP aO) {r:aha} (hp:az.pj8 F dE aw ai aH ap aM aq ak aI ar au aN av aO tJ tK tL tM=some r):Rt (az.j8 F (bm.tw F) (fa.tw F) (cS.tw F) (cT.tw F) C29_ ax 0 tJ tK tL tM H) (az.Q H0 Ri R0 aw ai aC ap aq ak ar au aG av aR bz aJ bC bD aF aY aD aZ a_ ax aS bE aK bF bG cv bV bW bX bY bZ bL b_ ca cb ce cf cg ch ci cj ck r):=by
 obtain ⟨w0,s0,cQ,db,cU,dh,di⟩:=h0
 subst eU
 subst eV
 subst eW
 subst eX
 subst eY
 unfold az.pj8 at hp
 unfold az.j8
 exact hC29 rfl rfl rfl rfl rfl ⟨w0,s0,cQ,db,cU,dh,di⟩ hp
def az.pj9 (F:Nat) (dE:aht) (aw:Int) (ai:Int) (aH:agV) (ap:Int) (aM:agV) (aq:Int) (ak:Int) (aI:agV) (ar:Int) (au:Int) (aN:agV) (av:Int) (aO:agV) (tN:Int) (tO:Int) (tP:Int) (tQ:Int):Option (Bool×List Int×List Int×List Int×List Int×List Int):=az.pj8 F dE aw ai aH ap aM aq ak aI ar au aN av aO tN tO tP tQ
theorem az.j9_P {aw ai aC ap aq ak ar au aG av aR bz aJ bC bD aF aY aD aZ a_ ax aS bE aK bF bG cv bV bW bX bY bZ bL b_ ca cb ce cf cg ch ci cj ck} {C29_:aho} {dE:aht} (hC29:az.S29 H0 Ri R0 aw ai aC ap aq ak ar au aG av aR bz aJ bC bD aF aY aD aZ a_ ax aS bE aK bF bG cv bV bW bX bY bZ bL b_ ca cb ce cf cg ch ci cj ck C29_ dE) {aH aM aI aN aO cL cM cN cO cP tN tO tP tQ} (eU:aF=aH.length) (eV:aY=aM.length) (eW:aD=aI.length) (eX:aZ=aN.length) (eY:a_=aO.length) (h0:Out H0 Ri H (Rs.ow bV ⟨aR,aF,aS⟩ eI.z b_ cL ca::Rs.ow bW ⟨bz,aY,bE⟩ eI.z cb cM ce::Rs.ow bX ⟨aJ,aD,aK⟩ eI.z cf cN cg::Rs.ow bY ⟨bC,aZ,bF⟩ eI.z ch cO ci::Rs.ow bZ ⟨bD,a_,bG⟩ eI.z cj cP ck::Rs.blk ax [.i aw,.i ai,.sl ⟨aR,aF,aS⟩,.i aC,.i ap,.sl ⟨bz,aY,bE⟩,.i aq,.i ak,.sl ⟨aJ,aD,aK⟩,.i ar,.i au,.sl ⟨bC,aZ,bF⟩,.i aG,.i av,.sl ⟨bD,a_,bG⟩,.bool bL]::R0) λR=>CR eI H R cL aH/\CR eI H R cM aM/\CR eI H R cN aI/\CR eI H R cO aN/\CR eI H R cP aO) {r:aha} (hp:az.pj9 F dE aw ai aH ap aM aq ak aI ar au aN av aO tN tO tP tQ=some r):Rt (az.j9 F (bm.tw F) (fa.tw F) (cS.tw F) (cT.tw F) C29_ ax 0 tN tO tP tQ H) (az.Q H0 Ri R0 aw ai aC ap aq ak ar au aG av aR bz aJ bC bD aF aY aD aZ a_ ax aS bE aK bF bG cv bV bW bX bY bZ bL b_ ca cb ce cf cg ch ci cj ck r):=by
 obtain ⟨w0,s0,cQ,db,cU,dh,di⟩:=h0
 subst eU
 subst eV
 subst eW
 subst eX
 subst eY
 unfold az.pj9 at hp
 unfold az.j9
 exact az.j8_P (@hC29) rfl rfl rfl rfl rfl ⟨w0,s0,cQ,db,cU,dh,di⟩ hp
def az.pl469 (F:Nat) (dE:aht):Nat->Int->Int->List Int->Int->List Int->Int->Int->List Int->Int->Int->List Int->Int->List Int->Int->Int->Int->Int->Int->Option (Bool×List Int×List Int×List Int×List Int×List Int)
 | 0,_,_,_,_,_,_,_,_,_,_,_,_,_,_,_,_,_,_=>none
 | k+1,aw,ai,aH,ap,aM,aq,ak,aI,ar,au,aN,av,aO,kO,kP,lx,iX,iY=>(bif (decide (iY<ai)) then ((bm.p F ai aH iX iY).bind λr2=>(fa.p F r2).bind λr5=>(bif (decide (r5>0)) then ((bif (decide (kP<0)) then (az.pl469 F dE k aw ai aH ap aM aq ak aI ar au aN av aO kO iX iY iX (wrap .i64 (iY+1))) else ((bm.p F ai aH kP lx).bind λr8=>(fa.p F r8).bind λr11=>(bif (decide (r5<r11)) then (az.pj10 F (az.pl469 F dE k) aw ai aH ap aM aq ak aI ar au aN av aO kO iX iY iX iY) else (az.pj10 F (az.pl469 F dE k) aw ai aH ap aM aq ak aI ar au aN av aO kO kP lx iX iY))))) else (az.pl469 F dE k aw ai aH ap aM aq ak aI ar au aN av aO kO kP lx iX (wrap .i64 (iY+1))))) else (az.pj9 F dE aw ai aH ap aM aq ak aI ar au aN av aO kO kP lx iX))
theorem az.l469_P {aw ai aC ap aq ak ar au aG av aR bz aJ bC bD aF aY aD aZ a_ ax aS bE aK bF bG cv bV bW bX bY bZ bL b_ ca cb ce cf cg ch ci cj ck} {C29_:aho} {dE:aht} (hC29:az.S29 H0 Ri R0 aw ai aC ap aq ak ar au aG av aR bz aJ bC bD aF aY aD aZ a_ ax aS bE aK bF bG cv bV bW bX bY bZ bL b_ ca cb ce cf cg ch ci cj ck C29_ dE):∀ k,az.S469 H0 Ri R0 aw ai aC ap aq ak ar au aG av aR bz aJ bC bD aF aY aD aZ a_ ax aS bE aK bF bG cv bV bW bX bY bZ bL b_ ca cb ce cf cg ch ci cj ck (az.l469 F (bm.tw F) (fa.tw F) (cS.tw F) (cT.tw F) C29_ k) (az.pl469 F dE k):=by
 intro k
 induction k with
 | zero=>unfold az.S469;intros;rename_i hp;cases hp
 | succ k ih=>
  intro aH aM aI aN aO cL cM cN cO cP kO kP lx iX iY H eU eV eW eX eY h0 r hp
  obtain ⟨w0,s0,cQ,db,cU,dh,di⟩:=h0
  subst eU
  subst eV
  subst eW
  subst eX
  subst eY
  unfold az.pl469 at hp
  unfold az.l469
  refine lI w0 5 ?_
  refine aX hp (λhp=>?_) λhp=>?_
  ·refine lI w0 5 ?_
   refine lI w0 5 ?_
   refine lSl w0 5 ?_
   have f1:=W.borrow1 eI w0 cQ
   obtain ⟨w1,s1⟩:=w0.right1
   obtain ⟨r2,e2,hp⟩:=ag hp
   refine aP (bm.P rfl ⟨w1,f1⟩ e2) ?_
   rintro _ H3 ⟨rfl,w3,s3,_⟩
   obtain ⟨w4,s4⟩:=W.frame1 w0 w3 s3
   refine br ?_
   obtain ⟨r5,e5,hp⟩:=ag hp
   refine aP (fa.P ⟨w4,trivial⟩ e5) ?_
   rintro _ H6 ⟨rfl,w6,s6,_⟩
   refine br ?_
   refine aX hp (λhp=>?_) λhp=>?_
   ·refine aX hp (λhp=>?_) λhp=>?_
    ·exact ih rfl rfl rfl rfl rfl ⟨w6,(s0.trans (s4.trans s6)),(cQ.step (s4.trans s6)),(db.step (s4.trans s6)),(cU.step (s4.trans s6)),(dh.step (s4.trans s6)),(di.step (s4.trans s6))⟩ hp
    ·refine lI w6 5 ?_
     refine lI w6 5 ?_
     refine lSl w6 5 ?_
     have f7:=W.borrow1 eI w6 (cQ.step (s4.trans s6))
     obtain ⟨w7,s7⟩:=w6.right1
     obtain ⟨r8,e8,hp⟩:=ag hp
     refine aP (bm.P rfl ⟨w7,f7⟩ e8) ?_
     rintro _ H9 ⟨rfl,w9,s9,_⟩
     obtain ⟨w10,s10⟩:=W.frame1 w6 w9 s9
     refine br ?_
     obtain ⟨r11,e11,hp⟩:=ag hp
     refine aP (fa.P ⟨w10,trivial⟩ e11) ?_
     rintro _ H12 ⟨rfl,w12,s12,_⟩
     refine br ?_
     refine aX hp (λhp=>?_) λhp=>?_
     ·exact az.j10_P (@ih) rfl rfl rfl rfl rfl ⟨w12,(s0.trans (s4.trans (s6.trans (s10.trans s12)))),(cQ.step (s4.trans (s6.trans (s10.trans s12)))),(db.step (s4.trans (s6.trans (s10.trans s12)))),(cU.step (s4.trans (s6.trans (s10.trans s12)))),(dh.step (s4.trans (s6.trans (s10.trans s12)))),(di.step (s4.trans (s6.trans (s10.trans s12))))⟩ hp
     ·exact az.j10_P (@ih) rfl rfl rfl rfl rfl ⟨w12,(s0.trans (s4.trans (s6.trans (s10.trans s12)))),(cQ.step (s4.trans (s6.trans (s10.trans s12)))),(db.step (s4.trans (s6.trans (s10.trans s12)))),(cU.step (s4.trans (s6.trans (s10.trans s12)))),(dh.step (s4.trans (s6.trans (s10.trans s12)))),(di.step (s4.trans (s6.trans (s10.trans s12))))⟩ hp
   ·exact ih rfl rfl rfl rfl rfl ⟨w6,(s0.trans (s4.trans s6)),(cQ.step (s4.trans s6)),(db.step (s4.trans s6)),(cU.step (s4.trans s6)),(dh.step (s4.trans s6)),(di.step (s4.trans s6))⟩ hp
  ·exact az.j9_P (@hC29) rfl rfl rfl rfl rfl ⟨w0,s0,cQ,db,cU,dh,di⟩ hp
def az.S65513 (H0:Hp) (Ri R0:agX) (aw ai aC ap aq ak ar au aG av:Int) (aR bz aJ bC bD:ON) (aF aY aD aZ a_ ax:Nat) (aS bE aK bF bG:Cap) (cv:agV) (bV bW bX bY bZ bL:Bool) (b_ ca cb ce cf cg ch ci cj ck:ag3) (C:ag8) (pC:Int->List Int->Int->List Int->Int->List Int->List Int->List Int->Int->Int->Option (Bool×List Int×List Int×List Int×List Int×List Int)):Prop:=∀ {aH aM aI aN aO cL cM cN cO cP lu lw},∀ {H:Hp},aF=aH.length->aY=aM.length->aD=aI.length->aZ=aN.length->a_=aO.length->(Out H0 Ri H (Rs.ow bV ⟨aR,aF,aS⟩ eI.z b_ cL ca::Rs.ow bW ⟨bz,aY,bE⟩ eI.z cb cM ce::Rs.ow bX ⟨aJ,aD,aK⟩ eI.z cf cN cg::Rs.ow bY ⟨bC,aZ,bF⟩ eI.z ch cO ci::Rs.ow bZ ⟨bD,a_,bG⟩ eI.z cj cP ck::Rs.blk ax [.i aw,.i ai,.sl ⟨aR,aF,aS⟩,.i aC,.i ap,.sl ⟨bz,aY,bE⟩,.i aq,.i ak,.sl ⟨aJ,aD,aK⟩,.i ar,.i au,.sl ⟨bC,aZ,bF⟩,.i aG,.i av,.sl ⟨bD,a_,bG⟩,.bool bL]::R0) λR=>CR eI H R cL aH/\CR eI H R cM aM/\CR eI H R cN aI/\CR eI H R cO aN/\CR eI H R cP aO)->∀ {r:aha},pC ai aH ap aM ak aI aN aO lu lw=some r->Rt (C ax 0 lu lw H) (az.Q H0 Ri R0 aw ai aC ap aq ak ar au aG av aR bz aJ bC bD aF aY aD aZ a_ ax aS bE aK bF bG cv bV bW bX bY bZ bL b_ ca cb ce cf cg ch ci cj ck r)
def az.S65515 (H0:Hp) (Ri R0:agX) (aw ai aC ap aq ak ar au aG av:Int) (aR bz aJ bC bD:ON) (aF aY aD aZ a_ ax:Nat) (aS bE aK bF bG:Cap) (cv:agV) (bV bW bX bY bZ bL:Bool) (b_ ca cb ce cf cg ch ci cj ck:ag3) (C:ag8) (pC:List Int->Int->List Int->Int->List Int->List Int->List Int->Int->Int->Option (Bool×List Int×List Int×List Int×List Int×List Int)):Prop:=∀ {aH aM aI aN aO cL cM cN cO cP kN kc},∀ {H:Hp},aF=aH.length->aY=aM.length->aD=aI.length->aZ=aN.length->a_=aO.length->(Out H0 Ri H (Rs.ow bV ⟨aR,aF,aS⟩ eI.z b_ cL ca::Rs.ow bW ⟨bz,aY,bE⟩ eI.z cb cM ce::Rs.ow bX ⟨aJ,aD,aK⟩ eI.z cf cN cg::Rs.ow bY ⟨bC,aZ,bF⟩ eI.z ch cO ci::Rs.ow bZ ⟨bD,a_,bG⟩ eI.z cj cP ck::Rs.blk ax [.i aw,.i ai,.sl ⟨aR,aF,aS⟩,.i aC,.i ap,.sl ⟨bz,aY,bE⟩,.i aq,.i ak,.sl ⟨aJ,aD,aK⟩,.i ar,.i au,.sl ⟨bC,aZ,bF⟩,.i aG,.i av,.sl ⟨bD,a_,bG⟩,.bool bL]::R0) λR=>CR eI H R cL aH/\CR eI H R cM aM/\CR eI H R cN aI/\CR eI H R cO aN/\CR eI H R cP aO)->∀ {r:aha},pC aH ap aM ak aI aN aO kN kc=some r->Rt (C ax 0 kN kc H) (az.Q H0 Ri R0 aw ai aC ap aq ak ar au aG av aR bz aJ bC bD aF aY aD aZ a_ ax aS bE aK bF bG cv bV bW bX bY bZ bL b_ ca cb ce cf cg ch ci cj ck r)
def az.pl65515 (F:Nat) :Nat->List Int->Int->List Int->Int->List Int->List Int->List Int->Int->Int->Option (Bool×List Int×List Int×List Int×List Int×List Int)
 | 0,_,_,_,_,_,_,_,_,_=>none
 | k+1,aH,ap,aM,ak,aI,aN,aO,kN,kc=>(bif (decide (kc<ap)) then ((bm.p F ap aM kN kc).bind λr3=>(ix aM (wrap .i64 ((wrap .i64 (kN * ap))+kc))).bind λn7=>(some (aM.set n7 (wrap .i64 (0 - r3)))).bind λl8=>(bm.p F ak aI kc kN).bind λr12=>(ix aI (wrap .i64 ((wrap .i64 (kc * ak))+kN))).bind λn16=>(some (aI.set n16 (wrap .i64 (0 - r12)))).bind λl17=>az.pl65515 F k aH ap l8 ak l17 aN aO kN (wrap .i64 (kc+1))) else (some (true,aH,aM,aI,aN,aO)))
theorem az.l65515_P {aw ai aC ap aq ak ar au aG av aR bz aJ bC bD aF aY aD aZ a_ ax aS bE aK bF bG cv bV bW bX bY bZ bL b_ ca cb ce cf cg ch ci cj ck} :∀ k,az.S65515 H0 Ri R0 aw ai aC ap aq ak ar au aG av aR bz aJ bC bD aF aY aD aZ a_ ax aS bE aK bF bG cv bV bW bX bY bZ bL b_ ca cb ce cf cg ch ci cj ck (az.l65515 F (bm.tw F) (fa.tw F) (cS.tw F) (cT.tw F)  k) (az.pl65515 F  k):=by
 intro k
 induction k with
 | zero=>unfold az.S65515;intros;rename_i hp;cases hp
 | succ k ih=>
  intro aH aM aI aN aO cL cM cN cO cP kN kc H eU eV eW eX eY h0 r hp
  obtain ⟨w0,s0,cQ,db,cU,dh,di⟩:=h0
  subst eU
  subst eV
  subst eW
  subst eX
  subst eY
  unfold az.pl65515 at hp
  unfold az.l65515
  refine lI w0 5 ?_
  refine aX hp (λhp=>?_) λhp=>?_
  ·refine lSl w0 5 ?_
   refine lI w0 5 ?_
   refine lI w0 5 ?_
   refine lI w0 5 ?_
   refine lSl w0 5 ?_
   obtain ⟨w1,s1⟩:=w0.pp [1,0,2,3,4,5] 6
   have f2:=W.borrow1 eI w1 (db.step s1)
   obtain ⟨w2,s2⟩:=w1.right1
   obtain ⟨r3,e3,hp⟩:=ag hp
   refine aP (bm.P rfl ⟨w2,f2⟩ e3) ?_
   rintro _ H4 ⟨rfl,w4,s4,_⟩
   obtain ⟨w5,s5⟩:=W.frame1 w1 w4 s4
   refine br ?_
   refine fQ (bk.tr (bk.refl _) s1 (W.cons_of (Rn:=[]) w2 w4 s4)) ?_
   obtain ⟨n7,g7,hp⟩:=ag hp
   obtain ⟨p7,q7,i7,h7,j7⟩:=W.ixo (E:=eI) w5 (i:=0) rfl rfl (db.step (s1.trans s5)) g7
   refine bu i7 ?_
   obtain ⟨l8,e8,hp⟩:=ag hp
   refine iF eI w5 (i:=0) (j:=0) (p:=p7) rfl rfl (db.step (s1.trans s5)) g7 i7 e8 rfl rfl (λ_ h=>by have h:_=[_]:=h;subst h;exact rfl) λH9 k9 w9 s9 c9=>?_
   refine lSl w9 5 ?_
   refine lI w9 5 ?_
   refine lI w9 5 ?_
   refine lI w9 5 ?_
   refine lSl w9 5 ?_
   obtain ⟨w10,s10⟩:=w9.pp [2,0,1,3,4,5] 6
   have f11:=W.borrow1 eI w10 (cU.step (s1.trans (s5.trans (s9.trans s10))))
   obtain ⟨w11,s11⟩:=w10.right1
   obtain ⟨r12,e12,hp⟩:=ag hp
   refine aP (bm.P rfl ⟨w11,f11⟩ e12) ?_
   rintro _ H13 ⟨rfl,w13,s13,_⟩
   obtain ⟨w14,s14⟩:=W.frame1 w10 w13 s13
   refine br ?_
   refine fQ (bk.tr (bk.refl _) s10 (W.cons_of (Rn:=[]) w11 w13 s13)) ?_
   obtain ⟨n16,g16,hp⟩:=ag hp
   obtain ⟨p16,q16,i16,h16,j16⟩:=W.ixo (E:=eI) w14 (i:=0) rfl rfl (cU.step (s1.trans (s5.trans (s9.trans (s10.trans s14))))) g16
   refine bu i16 ?_
   obtain ⟨l17,e17,hp⟩:=ag hp
   refine iF eI w14 (i:=0) (j:=0) (p:=p16) rfl rfl (cU.step (s1.trans (s5.trans (s9.trans (s10.trans s14))))) g16 i16 e17 rfl rfl (λ_ h=>by have h:_=[_]:=h;subst h;exact rfl) λH18 k18 w18 s18 c18=>?_
   obtain ⟨w19,s19⟩:=w18.pp [2,1,0,3,4,5] 6
   exact ih rfl ((fJ e8).symm) ((fJ e17).symm) rfl rfl ⟨w19,(s0.trans (s1.trans (s5.trans (s9.trans (s10.trans (s14.trans (s18.trans s19))))))),(cQ.step (s1.trans (s5.trans (s9.trans (s10.trans (s14.trans (s18.trans s19))))))),(c9.step (s10.trans (s14.trans (s18.trans s19)))),(c18.step s19),(dh.step (s1.trans (s5.trans (s9.trans (s10.trans (s14.trans (s18.trans s19))))))),(di.step (s1.trans (s5.trans (s9.trans (s10.trans (s14.trans (s18.trans s19)))))))⟩ hp
  ·exact aW hp ⟨_,_,_,_,_,rfl,rfl,rfl,rfl,rfl,rfl,w0,s0,cQ,db,cU,dh,di⟩
def az.pj5 (F:Nat)  (aH:agV) (ap:Int) (aM:agV) (ak:Int) (aI:agV) (aN:agV) (aO:agV) (tI:Int):Option (Bool×List Int×List Int×List Int×List Int×List Int):=az.pl65515 F F aH ap aM ak aI aN aO tI 0
theorem az.j5_P {aw ai aC ap aq ak ar au aG av aR bz aJ bC bD aF aY aD aZ a_ ax aS bE aK bF bG cv bV bW bX bY bZ bL b_ ca cb ce cf cg ch ci cj ck}  {aH aM aI aN aO cL cM cN cO cP tI} (eU:aF=aH.length) (eV:aY=aM.length) (eW:aD=aI.length) (eX:aZ=aN.length) (eY:a_=aO.length) (h0:Out H0 Ri H (Rs.ow bV ⟨aR,aF,aS⟩ eI.z b_ cL ca::Rs.ow bW ⟨bz,aY,bE⟩ eI.z cb cM ce::Rs.ow bX ⟨aJ,aD,aK⟩ eI.z cf cN cg::Rs.ow bY ⟨bC,aZ,bF⟩ eI.z ch cO ci::Rs.ow bZ ⟨bD,a_,bG⟩ eI.z cj cP ck::Rs.blk ax [.i aw,.i ai,.sl ⟨aR,aF,aS⟩,.i aC,.i ap,.sl ⟨bz,aY,bE⟩,.i aq,.i ak,.sl ⟨aJ,aD,aK⟩,.i ar,.i au,.sl ⟨bC,aZ,bF⟩,.i aG,.i av,.sl ⟨bD,a_,bG⟩,.bool bL]::R0) λR=>CR eI H R cL aH/\CR eI H R cM aM/\CR eI H R cN aI/\CR eI H R cO aN/\CR eI H R cP aO) {r:aha} (hp:az.pj5 F  aH ap aM ak aI aN aO tI=some r):Rt (az.j5 F (bm.tw F) (fa.tw F) (cS.tw F) (cT.tw F)  ax 0 tI H) (az.Q H0 Ri R0 aw ai aC ap aq ak ar au aG av aR bz aJ bC bD aF aY aD aZ a_ ax aS bE aK bF bG cv bV bW bX bY bZ bL b_ ca cb ce cf cg ch ci cj ck r):=by
 obtain ⟨w0,s0,cQ,db,cU,dh,di⟩:=h0
 subst eU
 subst eV
 subst eW
 subst eX
 subst eY
 unfold az.pj5 at hp
 unfold az.j5
 exact az.l65515_P F rfl rfl rfl rfl rfl ⟨w0,s0,cQ,db,cU,dh,di⟩ hp
def az.pl65513 (F:Nat) :Nat->Int->List Int->Int->List Int->Int->List Int->List Int->List Int->Int->Int->Option (Bool×List Int×List Int×List Int×List Int×List Int)
 | 0,_,_,_,_,_,_,_,_,_,_=>none
 | k+1,ai,aH,ap,aM,ak,aI,aN,aO,lu,lw=>(bif (decide (lw<ai)) then ((bm.p F ai aH lu lw).bind λr2=>(ix aH (wrap .i64 ((wrap .i64 (lu * ai))+lw))).bind λn6=>(some (aH.set n6 (wrap .i64 (0 - r2)))).bind λl7=>az.pl65513 F k ai l7 ap aM ak aI aN aO lu (wrap .i64 (lw+1))) else (az.pj5 F aH ap aM ak aI aN aO lu))
theorem az.l65513_P {aw ai aC ap aq ak ar au aG av aR bz aJ bC bD aF aY aD aZ a_ ax aS bE aK bF bG cv bV bW bX bY bZ bL b_ ca cb ce cf cg ch ci cj ck} :∀ k,az.S65513 H0 Ri R0 aw ai aC ap aq ak ar au aG av aR bz aJ bC bD aF aY aD aZ a_ ax aS bE aK bF bG cv bV bW bX bY bZ bL b_ ca cb ce cf cg ch ci cj ck (az.l65513 F (bm.tw F) (fa.tw F) (cS.tw F) (cT.tw F)  k) (az.pl65513 F  k):=by
 intro k
 induction k with
 | zero=>unfold az.S65513;intros;rename_i hp;cases hp
 | succ k ih=>
  intro aH aM aI aN aO cL cM cN cO cP lu lw H eU eV eW eX eY h0 r hp
  obtain ⟨w0,s0,cQ,db,cU,dh,di⟩:=h0
  subst eU
  subst eV
  subst eW
  subst eX
  subst eY
  unfold az.pl65513 at hp
  unfold az.l65513
  refine lI w0 5 ?_
  refine aX hp (λhp=>?_) λhp=>?_
  ·refine lSl w0 5 ?_
   refine lI w0 5 ?_
   refine lI w0 5 ?_
   refine lI w0 5 ?_
   refine lSl w0 5 ?_
   have f1:=W.borrow1 eI w0 cQ
   obtain ⟨w1,s1⟩:=w0.right1
   obtain ⟨r2,e2,hp⟩:=ag hp
   refine aP (bm.P rfl ⟨w1,f1⟩ e2) ?_
   rintro _ H3 ⟨rfl,w3,s3,_⟩
   obtain ⟨w4,s4⟩:=W.frame1 w0 w3 s3
   refine br ?_
   refine fQ (W.cons_of (Rn:=[]) w1 w3 s3) ?_
   obtain ⟨n6,g6,hp⟩:=ag hp
   obtain ⟨p6,q6,i6,h6,j6⟩:=W.ixo (E:=eI) w4 (i:=0) rfl rfl (cQ.step s4) g6
   refine bu i6 ?_
   obtain ⟨l7,e7,hp⟩:=ag hp
   refine iF eI w4 (i:=0) (j:=0) (p:=p6) rfl rfl (cQ.step s4) g6 i6 e7 rfl rfl (λ_ h=>by have h:_=[_]:=h;subst h;exact rfl) λH8 k8 w8 s8 c8=>?_
   exact ih ((fJ e7).symm) rfl rfl rfl rfl ⟨w8,(s0.trans (s4.trans s8)),c8,(db.step (s4.trans s8)),(cU.step (s4.trans s8)),(dh.step (s4.trans s8)),(di.step (s4.trans s8))⟩ hp
  ·exact az.j5_P rfl rfl rfl rfl rfl ⟨w0,s0,cQ,db,cU,dh,di⟩ hp
def az.pj6 (F:Nat)  (aw:Int) (ai:Int) (aH:agV) (ap:Int) (aM:agV) (aq:Int) (ak:Int) (aI:agV) (ar:Int) (au:Int) (aN:agV) (av:Int) (aO:agV) (jt:Int) (nn:Int) (oW:Int):Option (Bool×List Int×List Int×List Int×List Int×List Int):=(bif (decide (nn<0)) then (some (false,aH,aM,aI,aN,aO)) else ((cS.p F ai aH nn jt).bind λr1=>(cS.p F ap aM nn jt).bind λr4=>(cT.p F aq ak aI nn jt).bind λr7=>(cT.p F aw ai r1 oW jt).bind λr10=>(cT.p F ar au aN oW jt).bind λr13=>(cS.p F av aO oW jt).bind λr16=>(bm.p F ai r10 jt jt).bind λr20=>(bif (decide (r20<0)) then (az.pl65513 F F ai r10 ap r4 ak r7 r13 r16 jt 0) else (some (true,r10,r4,r7,r13,r16)))))
theorem az.j6_P {aw ai aC ap aq ak ar au aG av aR bz aJ bC bD aF aY aD aZ a_ ax aS bE aK bF bG cv bV bW bX bY bZ bL b_ ca cb ce cf cg ch ci cj ck}  {aH aM aI aN aO cL cM cN cO cP jt nn oW} (eU:aF=aH.length) (eV:aY=aM.length) (eW:aD=aI.length) (eX:aZ=aN.length) (eY:a_=aO.length) (h0:Out H0 Ri H (Rs.ow bV ⟨aR,aF,aS⟩ eI.z b_ cL ca::Rs.ow bW ⟨bz,aY,bE⟩ eI.z cb cM ce::Rs.ow bX ⟨aJ,aD,aK⟩ eI.z cf cN cg::Rs.ow bY ⟨bC,aZ,bF⟩ eI.z ch cO ci::Rs.ow bZ ⟨bD,a_,bG⟩ eI.z cj cP ck::Rs.blk ax [.i aw,.i ai,.sl ⟨aR,aF,aS⟩,.i aC,.i ap,.sl ⟨bz,aY,bE⟩,.i aq,.i ak,.sl ⟨aJ,aD,aK⟩,.i ar,.i au,.sl ⟨bC,aZ,bF⟩,.i aG,.i av,.sl ⟨bD,a_,bG⟩,.bool bL]::R0) λR=>CR eI H R cL aH/\CR eI H R cM aM/\CR eI H R cN aI/\CR eI H R cO aN/\CR eI H R cP aO) {r:aha} (hp:az.pj6 F  aw ai aH ap aM aq ak aI ar au aN av aO jt nn oW=some r):Rt (az.j6 F (bm.tw F) (fa.tw F) (cS.tw F) (cT.tw F)  ax 0 jt nn oW H) (az.Q H0 Ri R0 aw ai aC ap aq ak ar au aG av aR bz aJ bC bD aF aY aD aZ a_ ax aS bE aK bF bG cv bV bW bX bY bZ bL b_ ca cb ce cf cg ch ci cj ck r):=by
 obtain ⟨w0,s0,cQ,db,cU,dh,di⟩:=h0
 subst eU
 subst eV
 subst eW
 subst eX
 subst eY
 unfold az.pj6 at hp
 unfold az.j6
 refine aX hp (λhp=>?_) λhp=>?_
 ·exact aW hp ⟨_,_,_,_,_,rfl,rfl,rfl,rfl,rfl,rfl,w0,s0,cQ,db,cU,dh,di⟩
 ·refine lI w0 5 ?_
  refine lI w0 5 ?_
  refine lSl w0 5 ?_
  obtain ⟨r1,e1,hp⟩:=ag hp
  refine aP (cS.P rfl ⟨w0,cQ⟩ e1) ?_
  rintro _ H2 ⟨af7,rfl,hl2_0,w2,s2,f2_0⟩
  refine lI w2 5 ?_
  refine lI w2 5 ?_
  refine lSl w2 5 ?_
  obtain ⟨w3,s3⟩:=w2.pp [1,0,2,3,4,5] 6
  obtain ⟨r4,e4,hp⟩:=ag hp
  refine aP (cS.P rfl ⟨w3,(db.step (s2.trans s3))⟩ e4) ?_
  rintro _ H5 ⟨af8,rfl,hl5_0,w5,s5,f5_0⟩
  refine lI w5 5 ?_
  refine lI w5 5 ?_
  refine lSl w5 5 ?_
  obtain ⟨w6,s6⟩:=w5.pp [2,0,1,3,4,5] 6
  obtain ⟨r7,e7,hp⟩:=ag hp
  refine aP (cT.P rfl ⟨w6,(cU.step (s2.trans (s3.trans (s5.trans s6))))⟩ e7) ?_
  rintro _ H8 ⟨X_,rfl,hl8_0,w8,s8,f8_0⟩
  refine lI w8 5 ?_
  refine lI w8 5 ?_
  refine lSl w8 5 ?_
  obtain ⟨w9,s9⟩:=w8.pp [2,0,1,3,4,5] 6
  obtain ⟨r10,e10,hp⟩:=ag hp
  refine aP (cT.P hl2_0 ⟨w9,(f2_0.step (s3.trans (s5.trans (s6.trans (s8.trans s9)))))⟩ e10) ?_
  rintro _ H11 ⟨Ya,rfl,hl11_0,w11,s11,f11_0⟩
  refine lI w11 5 ?_
  refine lI w11 5 ?_
  refine lSl w11 5 ?_
  obtain ⟨w12,s12⟩:=w11.pp [3,0,1,2,4,5] 6
  obtain ⟨r13,e13,hp⟩:=ag hp
  refine aP (cT.P rfl ⟨w12,(dh.step (s2.trans (s3.trans (s5.trans (s6.trans (s8.trans (s9.trans (s11.trans s12))))))))⟩ e13) ?_
  rintro _ H14 ⟨Yb,rfl,hl14_0,w14,s14,f14_0⟩
  refine lI w14 5 ?_
  refine lI w14 5 ?_
  refine lSl w14 5 ?_
  obtain ⟨w15,s15⟩:=w14.pp [4,0,1,2,3,5] 6
  obtain ⟨r16,e16,hp⟩:=ag hp
  refine aP (cS.P rfl ⟨w15,(di.step (s2.trans (s3.trans (s5.trans (s6.trans (s8.trans (s9.trans (s11.trans (s12.trans (s14.trans s15))))))))))⟩ e16) ?_
  rintro _ H17 ⟨Yc,rfl,hl17_0,w17,s17,f17_0⟩
  refine lI w17 5 ?_
  refine lI w17 5 ?_
  refine lSl w17 5 ?_
  obtain ⟨w18,s18⟩:=w17.pp [2,0,1,3,4,5] 6
  have f19:=W.borrow1 eI w18 (f11_0.step (s12.trans (s14.trans (s15.trans (s17.trans s18)))))
  obtain ⟨w19,s19⟩:=w18.right1
  obtain ⟨r20,e20,hp⟩:=ag hp
  refine aP (bm.P hl11_0 ⟨w19,f19⟩ e20) ?_
  rintro _ H21 ⟨rfl,w21,s21,_⟩
  obtain ⟨w22,s22⟩:=W.frame1 w18 w21 s21
  refine br ?_
  refine aX hp (λhp=>?_) λhp=>?_
  ·obtain ⟨w23,s23⟩:=w22.pp [0,4,3,2,1,5] 6
   exact az.l65513_P F hl11_0 hl5_0 hl8_0 hl14_0 hl17_0 ⟨w23,(s0.trans (s2.trans (s3.trans (s5.trans (s6.trans (s8.trans (s9.trans (s11.trans (s12.trans (s14.trans (s15.trans (s17.trans (s18.trans (s22.trans s23)))))))))))))),(f11_0.step (s12.trans (s14.trans (s15.trans (s17.trans (s18.trans (s22.trans s23))))))),(f5_0.step (s6.trans (s8.trans (s9.trans (s11.trans (s12.trans (s14.trans (s15.trans (s17.trans (s18.trans (s22.trans s23))))))))))),(f8_0.step (s9.trans (s11.trans (s12.trans (s14.trans (s15.trans (s17.trans (s18.trans (s22.trans s23))))))))),(f14_0.step (s15.trans (s17.trans (s18.trans (s22.trans s23))))),(f17_0.step (s18.trans (s22.trans s23)))⟩ hp
  ·obtain ⟨w24,s24⟩:=w22.pp [0,4,3,2,1,5] 6
   exact aW hp ⟨_,_,_,_,_,rfl,hl11_0,hl5_0,hl8_0,hl14_0,hl17_0,w24,(s0.trans (s2.trans (s3.trans (s5.trans (s6.trans (s8.trans (s9.trans (s11.trans (s12.trans (s14.trans (s15.trans (s17.trans (s18.trans (s22.trans s24)))))))))))))),(f11_0.step (s12.trans (s14.trans (s15.trans (s17.trans (s18.trans (s22.trans s24))))))),(f5_0.step (s6.trans (s8.trans (s9.trans (s11.trans (s12.trans (s14.trans (s15.trans (s17.trans (s18.trans (s22.trans s24))))))))))),(f8_0.step (s9.trans (s11.trans (s12.trans (s14.trans (s15.trans (s17.trans (s18.trans (s22.trans s24))))))))),(f14_0.step (s15.trans (s17.trans (s18.trans (s22.trans s24))))),(f17_0.step (s18.trans (s22.trans s24)))⟩
def az.pl29 (F:Nat) :Nat->Int->Int->List Int->Int->List Int->Int->Int->List Int->Int->Int->List Int->Int->List Int->Int->Int->Int->Int->Option (Bool×List Int×List Int×List Int×List Int×List Int)
 | 0,_,_,_,_,_,_,_,_,_,_,_,_,_,_,_,_,_=>none
 | k+1,aw,ai,aH,ap,aM,aq,ak,aI,ar,au,aN,av,aO,eo,fL,nB,nC=>(bif (decide (nC<aw)) then (az.pl469 F (az.pl29 F k) F aw ai aH ap aM aq ak aI ar au aN av aO eo fL nB nC eo) else (az.pj6 F aw ai aH ap aM aq ak aI ar au aN av aO eo fL nB))
theorem az.l29_P {aw ai aC ap aq ak ar au aG av aR bz aJ bC bD aF aY aD aZ a_ ax aS bE aK bF bG cv bV bW bX bY bZ bL b_ ca cb ce cf cg ch ci cj ck} :∀ k,az.S29 H0 Ri R0 aw ai aC ap aq ak ar au aG av aR bz aJ bC bD aF aY aD aZ a_ ax aS bE aK bF bG cv bV bW bX bY bZ bL b_ ca cb ce cf cg ch ci cj ck (az.l29 F (bm.tw F) (fa.tw F) (cS.tw F) (cT.tw F)  k) (az.pl29 F  k):=by
 intro k
 induction k with
 | zero=>unfold az.S29;intros;rename_i hp;cases hp
 | succ k ih=>
  intro aH aM aI aN aO cL cM cN cO cP eo fL nB nC H eU eV eW eX eY h0 r hp
  obtain ⟨w0,s0,cQ,db,cU,dh,di⟩:=h0
  subst eU
  subst eV
  subst eW
  subst eX
  subst eY
  unfold az.pl29 at hp
  unfold az.l29
  refine lI w0 5 ?_
  refine aX hp (λhp=>?_) λhp=>?_
  ·exact az.l469_P (@ih) F rfl rfl rfl rfl rfl ⟨w0,s0,cQ,db,cU,dh,di⟩ hp
  ·exact az.j6_P rfl rfl rfl rfl rfl ⟨w0,s0,cQ,db,cU,dh,di⟩ hp
def az.p (F:Nat) (bo:Int) (aE:Int) (dr:agV) (bg:Int) (fe:agV) (aV:Int) (aT:Int) (da:agV) (bh:Int) (bi:Int) (ff:agV) (bj:Int) (fg:agV) (af:Int):Option (Bool×List Int×List Int×List Int×List Int×List Int):=az.pl29 F F bo aE dr bg fe aV aT da bh bi ff bj fg af (-1) (-1) af
theorem az.P {bo aE bp bg aV aT bh bi bK bj af cH dJ cz dK dL bU cY bQ cZ c_ aa cI dM cA dN dO dr fe da ff fg eO fo eP fp fq ay eQ eR gF ft fu il eS eT gG fv fw im fx fy io} (kr:bU=dr.length) (ne:cY=fe.length) (jJ:bQ=da.length) (ng:cZ=ff.length) (nh:c_=fg.length) (h0:Inn H (Rs.ow eO ⟨cH,bU,cI⟩ eI.z eQ gF eR::Rs.ow fo ⟨dJ,cY,dM⟩ eI.z ft il fu::Rs.ow eP ⟨cz,bQ,cA⟩ eI.z eS gG eT::Rs.ow fp ⟨dK,cZ,dN⟩ eI.z fv im fw::Rs.ow fq ⟨dL,c_,dO⟩ eI.z fx io fy::Rs.blk aa [.i bo,.i aE,.sl ⟨cH,bU,cI⟩,.i bp,.i bg,.sl ⟨dJ,cY,dM⟩,.i aV,.i aT,.sl ⟨cz,bQ,cA⟩,.i bh,.i bi,.sl ⟨dK,cZ,dN⟩,.i bK,.i bj,.sl ⟨dL,c_,dO⟩,.bool ay]::R0) λR=>CR eI H R gF dr/\CR eI H R il fe/\CR eI H R gG da/\CR eI H R im ff/\CR eI H R io fg) {r:aha} (hp:az.p F bo aE dr bg fe aV aT da bh bi ff bj fg af=some r):Rt (az.tw F aa 0 af H) (az.Q H (Rs.ow eO ⟨cH,bU,cI⟩ eI.z eQ gF eR::Rs.ow fo ⟨dJ,cY,dM⟩ eI.z ft il fu::Rs.ow eP ⟨cz,bQ,cA⟩ eI.z eS gG eT::Rs.ow fp ⟨dK,cZ,dN⟩ eI.z fv im fw::Rs.ow fq ⟨dL,c_,dO⟩ eI.z fx io fy::Rs.blk aa [.i bo,.i aE,.sl ⟨cH,bU,cI⟩,.i bp,.i bg,.sl ⟨dJ,cY,dM⟩,.i aV,.i aT,.sl ⟨cz,bQ,cA⟩,.i bh,.i bi,.sl ⟨dK,cZ,dN⟩,.i bK,.i bj,.sl ⟨dL,c_,dO⟩,.bool ay]::R0) R0 bo aE bp bg aV aT bh bi bK bj cH dJ cz dK dL bU cY bQ cZ c_ aa cI dM cA dN dO dr eO fo eP fp fq ay eQ eR ft fu eS eT fv fw fx fy r):=by
 obtain ⟨w0,jy,lV,iU,lW,lX⟩:=h0
 subst kr
 subst ne
 subst jJ
 subst ng
 subst nh
 unfold az.p at hp
 unfold az.tw az.twX
 have s0:=w0.rf
 exact az.l29_P F rfl rfl rfl rfl rfl ⟨w0,s0,jy,lV,iU,lW,lX⟩ hp
def hU.Q (H0:Hp) (Ri R0:agX)  (r:Int) (v:AV) (H':Hp):Prop:=v=(.i r)/\Out H0 Ri H' (R0) λR=>True
def hU.p (F:Nat) (aa:Int) (aQ:Int):Option (Int):=(if aQ=0 then none else ((if aQ=0 then none else ((bif (decide ((Int.tmod aa aQ)<0)) then (some (wrap .i64 ((wrap .i64 (Int.tdiv aa aQ)) - 1))) else (some (wrap .i64 (Int.tdiv aa aQ))))))))
theorem hU.P {aa aQ}  (h0:Inn H R0 λR=>True) {r:Int} (hp:hU.p F aa aQ=some r):Rt (hU.tw F aa aQ H) (hU.Q H R0 R0  r):=by
 obtain ⟨w0,_⟩:=h0
 unfold hU.p at hp
 unfold hU.tw hU.twX
 have s0:=w0.rf
 obtain ⟨g1,hp⟩:=oI hp
 refine oJ g1 ?_
 obtain ⟨g2,hp⟩:=oI hp
 refine oJ g2 ?_
 refine aX hp (λhp=>?_) λhp=>?_
 ·exact aW hp ⟨rfl,w0,s0,trivial⟩
 ·exact aW hp ⟨rfl,w0,s0,trivial⟩
def gZ.Q (H0:Hp) (Ri R0:agX)  (r:ahu) (v:AV) (H':Hp):Prop:=v=(.tup [(.i r.1),(.bool r.2)])/\Out H0 Ri H' (R0) λR=>True
def gZ.p (F:Nat) (aa:Int) (aQ:Int) (eM:Int):Option (Int×Bool):=(bif (aa != 0) then ((fa.p F aQ).bind λr1=>(fa.p F aa).bind λr3=>(if r3=0 then none else ((bif (decide (r1>(wrap .i64 (Int.tdiv eM r3)))) then (some (0,false)) else (some ((wrap .i64 (aa * aQ)),true)))))) else (some ((wrap .i64 (aa * aQ)),true)))
theorem gZ.P {aa aQ eM}  (h0:Inn H R0 λR=>True) {r:ahu} (hp:gZ.p F aa aQ eM=some r):Rt (gZ.tw F aa aQ eM H) (gZ.Q H R0 R0  r):=by
 obtain ⟨w0,_⟩:=h0
 unfold gZ.p at hp
 unfold gZ.tw gZ.twX
 have s0:=w0.rf
 refine aX hp (λhp=>?_) λhp=>?_
 ·obtain ⟨r1,e1,hp⟩:=ag hp
  refine aP (fa.P ⟨w0,trivial⟩ e1) ?_
  rintro _ H2 ⟨rfl,w2,s2,_⟩
  refine br ?_
  obtain ⟨r3,e3,hp⟩:=ag hp
  refine aP (fa.P ⟨w2,trivial⟩ e3) ?_
  rintro _ H4 ⟨rfl,w4,s4,_⟩
  refine br ?_
  obtain ⟨g5,hp⟩:=oI hp
  refine oJ g5 ?_
  refine aX hp (λhp=>?_) λhp=>?_
  ·exact aW hp ⟨rfl,w4,(s0.trans (s2.trans s4)),trivial⟩
  ·exact aW hp ⟨rfl,w4,(s0.trans (s2.trans s4)),trivial⟩
 ·exact aW hp ⟨rfl,w0,s0,trivial⟩
def ga.Q (H0:Hp) (Ri R0:agX)  (r:Int) (v:AV) (H':Hp):Prop:=v=(.i r)/\Out H0 Ri H' (R0) λR=>True
def ga.p (F:Nat) (aa:Int) (aQ:Int) (eM:Int):Option (Int):=(gZ.p F aQ eM 2000000000000).bind λr1=>(bif (!r1.2) then (some 3000000000000) else (some (wrap .i64 (aa - r1.1))))
theorem ga.P {aa aQ eM}  (h0:Inn H R0 λR=>True) {r:Int} (hp:ga.p F aa aQ eM=some r):Rt (ga.tw F aa aQ eM H) (ga.Q H R0 R0  r):=by
 obtain ⟨w0,_⟩:=h0
 unfold ga.p at hp
 unfold ga.tw ga.twX
 have s0:=w0.rf
 obtain ⟨r1,e1,hp⟩:=ag hp
 refine aP (gZ.P ⟨w0,trivial⟩ e1) ?_
 rintro _ H2 ⟨rfl,w2,s2,_⟩
 refine br (br (br (br (br ?_))))
 refine aX hp (λhp=>?_) λhp=>?_
 ·exact aW hp ⟨rfl,w2,(s0.trans s2),trivial⟩
 ·exact aW hp ⟨rfl,w2,(s0.trans s2),trivial⟩
def fS.Q (H0:Hp) (Ri R0:agX) (bo aE bp bg aV aT bh bi bK bj:Int) (bP cV eu cW cX:Sl) (aa fc:Nat) (gf:ON) (gg:Cap) (gV:Bool) (gW gX:ag3) (r:ahc) (v:AV) (H':Hp):Prop:=∃ mK:List AV,v=(.tup [])/\fc=(r.2).length/\Out H0 Ri H' (Rs.blk aa [.i bo,.i aE,.sl bP,.i bp,.i bg,.sl cV,.i aV,.i aT,.sl eu,.i bh,.i bi,.sl cW,.i bK,.i bj,.sl cX,.bool (r.1)]::Rs.ow gV ⟨gf,fc,gg⟩ eI.z gW mK gX::R0) λR=>CR eI H' R mK (r.2)
def fS.p (F:Nat) (ay:Bool) (aA:Int) (gH:agV) (ef:Int) (eg:Int) (dY:Int):Option (Bool×List Int):=(fa.p F dY).bind λr2=>(bif (decide (r2>1000000000000)) then (some (true,gH)) else ((ix gH (wrap .i64 ((wrap .i64 (ef * aA))+eg))).bind λn6=>(some (gH.set n6 dY)).bind λl7=>some (ay,l7)))
theorem fS.P {bo aE bp bg aV aT bh bi bK bj af aA ef eg dY bP cV eu cW cX ay gV aa fc gf gg gH gW gX kt} (pO:fc=gH.length) (h0:Inn H (Rs.blk aa [.i bo,.i aE,.sl bP,.i bp,.i bg,.sl cV,.i aV,.i aT,.sl eu,.i bh,.i bi,.sl cW,.i bK,.i bj,.sl cX,.bool ay]::Rs.ow gV ⟨gf,fc,gg⟩ eI.z gW kt gX::R0) λR=>CR eI H R kt gH) {r:ahc} (hp:fS.p F ay aA gH ef eg dY=some r):Rt (fS.tw F aa 0 af aA ⟨gf,fc,gg⟩ ef eg dY H) (fS.Q H (Rs.blk aa [.i bo,.i aE,.sl bP,.i bp,.i bg,.sl cV,.i aV,.i aT,.sl eu,.i bh,.i bi,.sl cW,.i bK,.i bj,.sl cX,.bool ay]::Rs.ow gV ⟨gf,fc,gg⟩ eI.z gW kt gX::R0) R0 bo aE bp bg aV aT bh bi bK bj bP cV eu cW cX aa fc gf gg gV gW gX r):=by
 obtain ⟨w0,oC⟩:=h0
 subst pO
 unfold fS.p at hp
 unfold fS.tw fS.twX
 have s0:=w0.rf
 refine cF w0 λH1 w1 s1=>?_
 obtain ⟨r2,e2,hp⟩:=ag hp
 refine aP (fa.P ⟨w1,trivial⟩ e2) ?_
 rintro _ H3 ⟨rfl,w3,s3,_⟩
 refine br ?_
 refine aX hp (λhp=>?_) λhp=>?_
 ·refine aL w3 1 λH4 w4 s4=>?_
  obtain ⟨w5,s5⟩:=w4.pp [1,2] 3
  exact aW hp ⟨_,rfl,rfl,w5,(s0.trans (s1.trans (s3.trans (s4.trans s5)))),(oC.step (s1.trans (s3.trans (s4.trans s5))))⟩
 ·refine lSl w3 0 ?_
  refine lI w3 0 ?_
  obtain ⟨n6,g6,hp⟩:=ag hp
  obtain ⟨p6,q6,i6,h6,j6⟩:=W.ixo (E:=eI) w3 (i:=2) rfl rfl (oC.step (s1.trans s3)) g6
  refine bu i6 ?_
  obtain ⟨l7,e7,hp⟩:=ag hp
  refine iF eI w3 (i:=2) (j:=0) (p:=p6) rfl rfl (oC.step (s1.trans s3)) g6 i6 e7 rfl rfl (λ_ h=>by have h:_=[_]:=h;subst h;exact rfl) λH8 k8 w8 s8 c8=>?_
  obtain ⟨w9,s9⟩:=w8.pp [1,2] 3
  exact aW hp ⟨_,rfl,(fJ e7).symm,w9,(s0.trans (s1.trans (s3.trans (s8.trans s9)))),(c8.step s9)⟩
def dd.Q (H0:Hp) (Ri R0:agX) (bo aE bp bg aV aT bh bi bK bj:Int) (bP cV eu cW cX:Sl) (aa fc:Nat) (gf:ON) (gg:Cap) (gV:Bool) (gW gX:ag3) (r:ahc) (v:AV) (H':Hp):Prop:=∃ mK:List AV,v=(.tup [])/\fc=(r.2).length/\Out H0 Ri H' (Rs.blk aa [.i bo,.i aE,.sl bP,.i bp,.i bg,.sl cV,.i aV,.i aT,.sl eu,.i bh,.i bi,.sl cW,.i bK,.i bj,.sl cX,.bool (r.1)]::Rs.ow gV ⟨gf,fc,gg⟩ eI.z gW mK gX::R0) λR=>CR eI H' R mK (r.2)
def dd.S7 (H0:Hp) (Ri R0:agX) (aw ai aC ap aq ak ar au aG av:Int) (dR cB eD cC cD:Sl) (ax ip:Nat) (jm:ON) (jn:Cap) (ku:Bool) (kw kx:ag3) (C:ah1) (pC:Bool->Int->Int->Int->Int->List Int->Int->Option (Bool×List Int)):Prop:=∀ {ay h_ gh iZ pP kJ fW jK sb fV},∀ {H:Hp},ip=jK.length->(Out H0 Ri H (Rs.blk ax [.i aw,.i ai,.sl dR,.i aC,.i ap,.sl cB,.i aq,.i ak,.sl eD,.i ar,.i au,.sl cC,.i aG,.i av,.sl cD,.bool ay]::Rs.ow ku ⟨jm,ip,jn⟩ eI.z kw sb kx::Rs.blk fV [.i pP,.i kJ,.sl ⟨jm,ip,jn⟩]::R0) λR=>CR eI H R sb jK)->∀ {r:ahc},pC ay h_ gh iZ kJ jK fW=some r->Rt (C ax 0 h_ gh iZ fV 0 fW H) (dd.Q H0 Ri R0 aw ai aC ap aq ak ar au aG av dR cB eD cC cD ax ip jm jn ku kw kx r)
def dd.pl7 (F:Nat) :Nat->Bool->Int->Int->Int->Int->List Int->Int->Option (Bool×List Int)
 | 0,_,_,_,_,_,_,_=>none
 | k+1,ay,h_,gh,iZ,kJ,jK,fW=>(bif (decide (fW<kJ)) then ((bif (!ay) then ((bm.p F kJ jK h_ fW).bind λr3=>(bm.p F kJ jK gh fW).bind λr8=>(ga.p F r3 iZ r8).bind λr12=>(fS.p F ay kJ jK h_ fW r12).bind λr16=>dd.pl7 F k r16.1 h_ gh iZ kJ r16.2 (wrap .i64 (fW+1))) else (some (ay,jK)))) else (some (ay,jK)))
theorem dd.l7_P {aw ai aC ap aq ak ar au aG av dR cB eD cC cD ax ip jm jn ku kw kx} :∀ k,dd.S7 H0 Ri R0 aw ai aC ap aq ak ar au aG av dR cB eD cC cD ax ip jm jn ku kw kx (dd.l7 F (bm.tw F) (ga.tw F) (fS.tw F)  k) (dd.pl7 F  k):=by
 intro k
 induction k with
 | zero=>unfold dd.S7;intros;rename_i hp;cases hp
 | succ k ih=>
  intro ay h_ gh iZ pP kJ fW jK sb fV H Eo h0 r hp
  obtain ⟨w0,s0,oD⟩:=h0
  subst Eo
  unfold dd.pl7 at hp
  unfold dd.l7
  refine lI w0 2 ?_
  refine aX hp (λhp=>?_) λhp=>?_
  ·refine lB w0 0 ?_
   refine aX hp (λhp=>?_) λhp=>?_
   ·refine lI w0 2 ?_
    refine lI w0 2 ?_
    refine lSl w0 2 ?_
    refine lI w0 2 ?_
    refine lI w0 2 ?_
    refine lSl w0 2 ?_
    obtain ⟨w1,s1⟩:=w0.pp [1,0,2] 3
    have f2:=W.borrow1 eI w1 (oD.step s1)
    obtain ⟨w2,s2⟩:=w1.right1
    obtain ⟨r3,e3,hp⟩:=ag hp
    refine aP (bm.P rfl ⟨w2,f2⟩ e3) ?_
    rintro _ H4 ⟨rfl,w4,s4,_⟩
    obtain ⟨w5,s5⟩:=W.frame1 w1 w4 s4
    refine br ?_
    refine fQ (bk.tr (bk.refl _) s1 (W.cons_of (Rn:=[]) w2 w4 s4)) ?_
    refine lI w5 2 ?_
    refine lI w5 2 ?_
    refine lSl w5 2 ?_
    have f7:=W.borrow1 eI w5 (oD.step (s1.trans s5))
    obtain ⟨w7,s7⟩:=w5.right1
    obtain ⟨r8,e8,hp⟩:=ag hp
    refine aP (bm.P rfl ⟨w7,f7⟩ e8) ?_
    rintro _ H9 ⟨rfl,w9,s9,_⟩
    obtain ⟨w10,s10⟩:=W.frame1 w5 w9 s9
    refine br ?_
    refine fQ (W.cons_of (Rn:=[]) w7 w9 s9) ?_
    obtain ⟨r12,e12,hp⟩:=ag hp
    refine aP (ga.P ⟨w10,trivial⟩ e12) ?_
    rintro _ H13 ⟨rfl,w13,s13,_⟩
    refine br ?_
    refine fQ (W.cons_of (Rn:=[]) w10 w13 s13) ?_
    obtain ⟨w15,s15⟩:=w13.pp [1,0,2] 3
    obtain ⟨r16,e16,hp⟩:=ag hp
    refine aP (fS.P rfl ⟨w15,(oD.step (s1.trans (s5.trans (s10.trans (s13.trans s15)))))⟩ e16) ?_
    rintro _ H17 ⟨Yd,rfl,hl17_0,w17,s17,f17_0⟩
    exact ih hl17_0 ⟨w17,(s0.trans (s1.trans (s5.trans (s10.trans (s13.trans (s15.trans s17)))))),f17_0⟩ hp
   ·obtain ⟨w18,s18⟩:=w0.pp [0,1] 3
    exact aW hp ⟨_,rfl,rfl,w18,(s0.trans s18),(oD.step s18)⟩
  ·obtain ⟨w19,s19⟩:=w0.pp [0,1] 3
   exact aW hp ⟨_,rfl,rfl,w19,(s0.trans s19),(oD.step s19)⟩
def dd.p (F:Nat) (ay:Bool) (aA:Int) (gH:agV) (ef:Int) (eg:Int) (dY:Int):Option (Bool×List Int):=dd.pl7 F F ay ef eg dY aA gH 0
theorem dd.P {bo aE bp bg aV aT bh bi bK bj af aA ef eg dY bP cV eu cW cX ay gV aa fc gf gg gH gW gX kt} (pO:fc=gH.length) (h0:Inn H (Rs.blk aa [.i bo,.i aE,.sl bP,.i bp,.i bg,.sl cV,.i aV,.i aT,.sl eu,.i bh,.i bi,.sl cW,.i bK,.i bj,.sl cX,.bool ay]::Rs.ow gV ⟨gf,fc,gg⟩ eI.z gW kt gX::R0) λR=>CR eI H R kt gH) {r:ahc} (hp:dd.p F ay aA gH ef eg dY=some r):Rt (dd.tw F aa 0 af aA ⟨gf,fc,gg⟩ ef eg dY H) (dd.Q H (Rs.blk aa [.i bo,.i aE,.sl bP,.i bp,.i bg,.sl cV,.i aV,.i aT,.sl eu,.i bh,.i bi,.sl cW,.i bK,.i bj,.sl cX,.bool ay]::Rs.ow gV ⟨gf,fc,gg⟩ eI.z gW kt gX::R0) R0 bo aE bp bg aV aT bh bi bK bj bP cV eu cW cX aa fc gf gg gV gW gX r):=by
 obtain ⟨w0,oC⟩:=h0
 subst pO
 unfold dd.p at hp
 unfold dd.tw dd.twX
 have s0:=w0.rf
 refine cF w0 λH1 w1 s1=>?_
 obtain ⟨w2,s2⟩:=w1.pp [1,2,0] 3
 exact dd.l7_P F rfl ⟨w2,(s0.trans (s1.trans s2)),(oC.step (s1.trans s2))⟩ hp
def de.Q (H0:Hp) (Ri R0:agX) (bo aE bp bg aV aT bh bi bK bj:Int) (bP cV eu cW cX:Sl) (aa fc:Nat) (gf:ON) (gg:Cap) (gV:Bool) (gW gX:ag3) (r:ahc) (v:AV) (H':Hp):Prop:=∃ mK:List AV,v=(.tup [])/\fc=(r.2).length/\Out H0 Ri H' (Rs.blk aa [.i bo,.i aE,.sl bP,.i bp,.i bg,.sl cV,.i aV,.i aT,.sl eu,.i bh,.i bi,.sl cW,.i bK,.i bj,.sl cX,.bool (r.1)]::Rs.ow gV ⟨gf,fc,gg⟩ eI.z gW mK gX::R0) λR=>CR eI H' R mK (r.2)
def de.S7 (H0:Hp) (Ri R0:agX) (aw ai aC ap aq ak ar au aG av:Int) (dR cB eD cC cD:Sl) (ax ip:Nat) (jm:ON) (jn:Cap) (ku:Bool) (kw kx:ag3) (C:ah1) (pC:Bool->Int->Int->Int->Int->Int->List Int->Int->Option (Bool×List Int)):Prop:=∀ {ay h_ gh iZ pP kJ fW jK sb fV},∀ {H:Hp},ip=jK.length->(Out H0 Ri H (Rs.blk ax [.i aw,.i ai,.sl dR,.i aC,.i ap,.sl cB,.i aq,.i ak,.sl eD,.i ar,.i au,.sl cC,.i aG,.i av,.sl cD,.bool ay]::Rs.ow ku ⟨jm,ip,jn⟩ eI.z kw sb kx::Rs.blk fV [.i pP,.i kJ,.sl ⟨jm,ip,jn⟩]::R0) λR=>CR eI H R sb jK)->∀ {r:ahc},pC ay h_ gh iZ pP kJ jK fW=some r->Rt (C ax 0 h_ gh iZ fV 0 fW H) (de.Q H0 Ri R0 aw ai aC ap aq ak ar au aG av dR cB eD cC cD ax ip jm jn ku kw kx r)
def de.pl7 (F:Nat) :Nat->Bool->Int->Int->Int->Int->Int->List Int->Int->Option (Bool×List Int)
 | 0,_,_,_,_,_,_,_,_=>none
 | k+1,ay,h_,gh,iZ,pP,kJ,jK,fW=>(bif (decide (fW<pP)) then ((bif (!ay) then ((bm.p F kJ jK fW h_).bind λr3=>(bm.p F kJ jK fW gh).bind λr8=>(ga.p F r3 iZ r8).bind λr12=>(fS.p F ay kJ jK fW h_ r12).bind λr16=>de.pl7 F k r16.1 h_ gh iZ pP kJ r16.2 (wrap .i64 (fW+1))) else (some (ay,jK)))) else (some (ay,jK)))
theorem de.l7_P {aw ai aC ap aq ak ar au aG av dR cB eD cC cD ax ip jm jn ku kw kx} :∀ k,de.S7 H0 Ri R0 aw ai aC ap aq ak ar au aG av dR cB eD cC cD ax ip jm jn ku kw kx (de.l7 F (bm.tw F) (ga.tw F) (fS.tw F)  k) (de.pl7 F  k):=by
 intro k
 induction k with
 | zero=>unfold de.S7;intros;rename_i hp;cases hp
 | succ k ih=>
  intro ay h_ gh iZ pP kJ fW jK sb fV H Eo h0 r hp
  obtain ⟨w0,s0,oD⟩:=h0
  subst Eo
  unfold de.pl7 at hp
  unfold de.l7
  refine lI w0 2 ?_
  refine aX hp (λhp=>?_) λhp=>?_
  ·refine lB w0 0 ?_
   refine aX hp (λhp=>?_) λhp=>?_
   ·refine lI w0 2 ?_
    refine lI w0 2 ?_
    refine lSl w0 2 ?_
    refine lI w0 2 ?_
    refine lI w0 2 ?_
    refine lSl w0 2 ?_
    obtain ⟨w1,s1⟩:=w0.pp [1,0,2] 3
    have f2:=W.borrow1 eI w1 (oD.step s1)
    obtain ⟨w2,s2⟩:=w1.right1
    obtain ⟨r3,e3,hp⟩:=ag hp
    refine aP (bm.P rfl ⟨w2,f2⟩ e3) ?_
    rintro _ H4 ⟨rfl,w4,s4,_⟩
    obtain ⟨w5,s5⟩:=W.frame1 w1 w4 s4
    refine br ?_
    refine fQ (bk.tr (bk.refl _) s1 (W.cons_of (Rn:=[]) w2 w4 s4)) ?_
    refine lI w5 2 ?_
    refine lI w5 2 ?_
    refine lSl w5 2 ?_
    have f7:=W.borrow1 eI w5 (oD.step (s1.trans s5))
    obtain ⟨w7,s7⟩:=w5.right1
    obtain ⟨r8,e8,hp⟩:=ag hp
    refine aP (bm.P rfl ⟨w7,f7⟩ e8) ?_
    rintro _ H9 ⟨rfl,w9,s9,_⟩
    obtain ⟨w10,s10⟩:=W.frame1 w5 w9 s9
    refine br ?_
    refine fQ (W.cons_of (Rn:=[]) w7 w9 s9) ?_
    obtain ⟨r12,e12,hp⟩:=ag hp
    refine aP (ga.P ⟨w10,trivial⟩ e12) ?_
    rintro _ H13 ⟨rfl,w13,s13,_⟩
    refine br ?_
    refine fQ (W.cons_of (Rn:=[]) w10 w13 s13) ?_
    obtain ⟨w15,s15⟩:=w13.pp [1,0,2] 3
    obtain ⟨r16,e16,hp⟩:=ag hp
    refine aP (fS.P rfl ⟨w15,(oD.step (s1.trans (s5.trans (s10.trans (s13.trans s15)))))⟩ e16) ?_
    rintro _ H17 ⟨Yd,rfl,hl17_0,w17,s17,f17_0⟩
    exact ih hl17_0 ⟨w17,(s0.trans (s1.trans (s5.trans (s10.trans (s13.trans (s15.trans s17)))))),f17_0⟩ hp
   ·obtain ⟨w18,s18⟩:=w0.pp [0,1] 3
    exact aW hp ⟨_,rfl,rfl,w18,(s0.trans s18),(oD.step s18)⟩
  ·obtain ⟨w19,s19⟩:=w0.pp [0,1] 3
   exact aW hp ⟨_,rfl,rfl,w19,(s0.trans s19),(oD.step s19)⟩
def de.p (F:Nat) (ay:Bool) (af:Int) (aA:Int) (gH:agV) (ef:Int) (eg:Int) (dY:Int):Option (Bool×List Int):=de.pl7 F F ay ef eg dY af aA gH 0
theorem de.P {bo aE bp bg aV aT bh bi bK bj af aA ef eg dY bP cV eu cW cX ay gV aa fc gf gg gH gW gX kt} (pO:fc=gH.length) (h0:Inn H (Rs.blk aa [.i bo,.i aE,.sl bP,.i bp,.i bg,.sl cV,.i aV,.i aT,.sl eu,.i bh,.i bi,.sl cW,.i bK,.i bj,.sl cX,.bool ay]::Rs.ow gV ⟨gf,fc,gg⟩ eI.z gW kt gX::R0) λR=>CR eI H R kt gH) {r:ahc} (hp:de.p F ay af aA gH ef eg dY=some r):Rt (de.tw F aa 0 af aA ⟨gf,fc,gg⟩ ef eg dY H) (de.Q H (Rs.blk aa [.i bo,.i aE,.sl bP,.i bp,.i bg,.sl cV,.i aV,.i aT,.sl eu,.i bh,.i bi,.sl cW,.i bK,.i bj,.sl cX,.bool ay]::Rs.ow gV ⟨gf,fc,gg⟩ eI.z gW kt gX::R0) R0 bo aE bp bg aV aT bh bi bK bj bP cV eu cW cX aa fc gf gg gV gW gX r):=by
 obtain ⟨w0,oC⟩:=h0
 subst pO
 unfold de.p at hp
 unfold de.tw de.twX
 have s0:=w0.rf
 refine cF w0 λH1 w1 s1=>?_
 obtain ⟨w2,s2⟩:=w1.pp [1,2,0] 3
 exact de.l7_P F rfl ⟨w2,(s0.trans (s1.trans s2)),(oC.step (s1.trans s2))⟩ hp
def fX.Q (H0:Hp) (Ri R0:agX) (bo aE bp bg aV aT bh bi bK bj:Int) (cH dJ cz:ON) (bU cY bQ aa:Nat) (cI dM cA:Cap) (eO fo eP:Bool) (eQ eR ft fu eS eT:ag3) (cW cX:Sl) (r:ahm) (v:AV) (H':Hp):Prop:=∃ jk:List AV,∃ jV:List AV,∃ jl:List AV,v=(.tup [])/\bU=(r.1).length/\cY=(r.2.1).length/\bQ=(r.2.2.1).length/\Out H0 Ri H' (Rs.ow eO ⟨cH,bU,cI⟩ eI.z eQ jk eR::Rs.ow fo ⟨dJ,cY,dM⟩ eI.z ft jV fu::Rs.ow eP ⟨cz,bQ,cA⟩ eI.z eS jl eT::Rs.blk aa [.i bo,.i aE,.sl ⟨cH,bU,cI⟩,.i bp,.i bg,.sl ⟨dJ,cY,dM⟩,.i aV,.i aT,.sl ⟨cz,bQ,cA⟩,.i bh,.i bi,.sl cW,.i bK,.i bj,.sl cX,.bool (r.2.2.2)]::R0) λR=>CR eI H' R jk (r.1)/\CR eI H' R jV (r.2.1)/\CR eI H' R jl (r.2.2.1)
def fX.p (F:Nat) (aE:Int) (dr:agV) (bg:Int) (fe:agV) (aV:Int) (aT:Int) (da:agV) (ay:Bool) (af:Int) (cy:Int) (dD:Int):Option (List Int×List Int×List Int×Bool):=(bif (dD != 0) then ((dd.p F ay aE dr af cy dD).bind λr2=>(dd.p F r2.1 bg fe af cy dD).bind λr5=>(de.p F r5.1 aV aT da cy af (wrap .i64 (0 - dD))).bind λr8=>some (r2.2,r5.2,r8.2,r8.1)) else (some (dr,fe,da,ay)))
theorem fX.P {bo aE bp bg aV aT bh bi bK bj af cy dD cH dJ cz bU cY bQ aa cI dM cA dr fe da eO fo eP ay eQ eR gF ft fu il eS eT gG cW cX} (kr:bU=dr.length) (ne:cY=fe.length) (jJ:bQ=da.length) (h0:Inn H (Rs.ow eO ⟨cH,bU,cI⟩ eI.z eQ gF eR::Rs.ow fo ⟨dJ,cY,dM⟩ eI.z ft il fu::Rs.ow eP ⟨cz,bQ,cA⟩ eI.z eS gG eT::Rs.blk aa [.i bo,.i aE,.sl ⟨cH,bU,cI⟩,.i bp,.i bg,.sl ⟨dJ,cY,dM⟩,.i aV,.i aT,.sl ⟨cz,bQ,cA⟩,.i bh,.i bi,.sl cW,.i bK,.i bj,.sl cX,.bool ay]::R0) λR=>CR eI H R gF dr/\CR eI H R il fe/\CR eI H R gG da) {r:ahm} (hp:fX.p F aE dr bg fe aV aT da ay af cy dD=some r):Rt (fX.tw F aa 0 af cy dD H) (fX.Q H (Rs.ow eO ⟨cH,bU,cI⟩ eI.z eQ gF eR::Rs.ow fo ⟨dJ,cY,dM⟩ eI.z ft il fu::Rs.ow eP ⟨cz,bQ,cA⟩ eI.z eS gG eT::Rs.blk aa [.i bo,.i aE,.sl ⟨cH,bU,cI⟩,.i bp,.i bg,.sl ⟨dJ,cY,dM⟩,.i aV,.i aT,.sl ⟨cz,bQ,cA⟩,.i bh,.i bi,.sl cW,.i bK,.i bj,.sl cX,.bool ay]::R0) R0 bo aE bp bg aV aT bh bi bK bj cH dJ cz bU cY bQ aa cI dM cA eO fo eP eQ eR ft fu eS eT cW cX r):=by
 obtain ⟨w0,jy,lV,iU⟩:=h0
 subst kr
 subst ne
 subst jJ
 unfold fX.p at hp
 unfold fX.tw fX.twX
 have s0:=w0.rf
 refine aX hp (λhp=>?_) λhp=>?_
 ·refine lI w0 3 ?_
  refine lI w0 3 ?_
  refine lSl w0 3 ?_
  obtain ⟨w1,s1⟩:=w0.pp [3,0,1,2] 4
  obtain ⟨r2,e2,hp⟩:=ag hp
  refine aP (dd.P rfl ⟨w1,(jy.step s1)⟩ e2) ?_
  rintro _ H3 ⟨Ep,rfl,hl3_0,w3,s3,f3_0⟩
  refine lI w3 0 ?_
  refine lI w3 0 ?_
  refine lSl w3 0 ?_
  obtain ⟨w4,s4⟩:=w3.pp [0,2,1,3] 4
  obtain ⟨r5,e5,hp⟩:=ag hp
  refine aP (dd.P rfl ⟨w4,(lV.step (s1.trans (s3.trans s4)))⟩ e5) ?_
  rintro _ H6 ⟨Er,rfl,hl6_0,w6,s6,f6_0⟩
  refine lI w6 0 ?_
  refine lI w6 0 ?_
  refine lSl w6 0 ?_
  obtain ⟨w7,s7⟩:=w6.pp [0,3,1,2] 4
  obtain ⟨r8,e8,hp⟩:=ag hp
  refine aP (de.P rfl ⟨w7,(iU.step (s1.trans (s3.trans (s4.trans (s6.trans s7)))))⟩ e8) ?_
  rintro _ H9 ⟨Es,rfl,hl9_0,w9,s9,f9_0⟩
  obtain ⟨w10,s10⟩:=w9.pp [3,2,1,0] 4
  exact aW hp ⟨_,_,_,rfl,hl3_0,hl6_0,hl9_0,w10,(s0.trans (s1.trans (s3.trans (s4.trans (s6.trans (s7.trans (s9.trans s10))))))),(f3_0.step (s4.trans (s6.trans (s7.trans (s9.trans s10))))),(f6_0.step (s7.trans (s9.trans s10))),(f9_0.step s10)⟩
 ·exact aW hp ⟨_,_,_,rfl,rfl,rfl,rfl,w0,s0,jy,lV,iU⟩
def gi.Q (H0:Hp) (Ri R0:agX) (bo aE bp bg aV aT bh bi bK bj:Int) (cH dK dL:ON) (bU cZ c_ aa:Nat) (cI dN dO:Cap) (eO fp fq:Bool) (eQ eR fv fw fx fy:ag3) (cV eu:Sl) (r:ahm) (v:AV) (H':Hp):Prop:=∃ jk:List AV,∃ jW:List AV,∃ jX:List AV,v=(.tup [])/\bU=(r.1).length/\cZ=(r.2.1).length/\c_=(r.2.2.1).length/\Out H0 Ri H' (Rs.ow eO ⟨cH,bU,cI⟩ eI.z eQ jk eR::Rs.ow fp ⟨dK,cZ,dN⟩ eI.z fv jW fw::Rs.ow fq ⟨dL,c_,dO⟩ eI.z fx jX fy::Rs.blk aa [.i bo,.i aE,.sl ⟨cH,bU,cI⟩,.i bp,.i bg,.sl cV,.i aV,.i aT,.sl eu,.i bh,.i bi,.sl ⟨dK,cZ,dN⟩,.i bK,.i bj,.sl ⟨dL,c_,dO⟩,.bool (r.2.2.2)]::R0) λR=>CR eI H' R jk (r.1)/\CR eI H' R jW (r.2.1)/\CR eI H' R jX (r.2.2.1)
def gi.p (F:Nat) (bo:Int) (aE:Int) (dr:agV) (bh:Int) (bi:Int) (ff:agV) (bj:Int) (fg:agV) (ay:Bool) (af:Int) (cy:Int) (dD:Int):Option (List Int×List Int×List Int×Bool):=(bif (dD != 0) then ((de.p F ay bo aE dr af cy dD).bind λr2=>(de.p F r2.1 bh bi ff af cy dD).bind λr5=>(dd.p F r5.1 bj fg cy af (wrap .i64 (0 - dD))).bind λr8=>some (r2.2,r5.2,r8.2,r8.1)) else (some (dr,ff,fg,ay)))
theorem gi.P {bo aE bp bg aV aT bh bi bK bj af cy dD cH dK dL bU cZ c_ aa cI dN dO dr ff fg eO fp fq ay eQ eR gF fv fw im fx fy io cV eu} (kr:bU=dr.length) (ng:cZ=ff.length) (nh:c_=fg.length) (h0:Inn H (Rs.ow eO ⟨cH,bU,cI⟩ eI.z eQ gF eR::Rs.ow fp ⟨dK,cZ,dN⟩ eI.z fv im fw::Rs.ow fq ⟨dL,c_,dO⟩ eI.z fx io fy::Rs.blk aa [.i bo,.i aE,.sl ⟨cH,bU,cI⟩,.i bp,.i bg,.sl cV,.i aV,.i aT,.sl eu,.i bh,.i bi,.sl ⟨dK,cZ,dN⟩,.i bK,.i bj,.sl ⟨dL,c_,dO⟩,.bool ay]::R0) λR=>CR eI H R gF dr/\CR eI H R im ff/\CR eI H R io fg) {r:ahm} (hp:gi.p F bo aE dr bh bi ff bj fg ay af cy dD=some r):Rt (gi.tw F aa 0 af cy dD H) (gi.Q H (Rs.ow eO ⟨cH,bU,cI⟩ eI.z eQ gF eR::Rs.ow fp ⟨dK,cZ,dN⟩ eI.z fv im fw::Rs.ow fq ⟨dL,c_,dO⟩ eI.z fx io fy::Rs.blk aa [.i bo,.i aE,.sl ⟨cH,bU,cI⟩,.i bp,.i bg,.sl cV,.i aV,.i aT,.sl eu,.i bh,.i bi,.sl ⟨dK,cZ,dN⟩,.i bK,.i bj,.sl ⟨dL,c_,dO⟩,.bool ay]::R0) R0 bo aE bp bg aV aT bh bi bK bj cH dK dL bU cZ c_ aa cI dN dO eO fp fq eQ eR fv fw fx fy cV eu r):=by
 obtain ⟨w0,jy,lW,lX⟩:=h0
 subst kr
 subst ng
 subst nh
 unfold gi.p at hp
 unfold gi.tw gi.twX
 have s0:=w0.rf
 refine aX hp (λhp=>?_) λhp=>?_
 ·refine lI w0 3 ?_
  refine lI w0 3 ?_
  refine lSl w0 3 ?_
  obtain ⟨w1,s1⟩:=w0.pp [3,0,1,2] 4
  obtain ⟨r2,e2,hp⟩:=ag hp
  refine aP (de.P rfl ⟨w1,(jy.step s1)⟩ e2) ?_
  rintro _ H3 ⟨Ep,rfl,hl3_0,w3,s3,f3_0⟩
  refine lI w3 0 ?_
  refine lI w3 0 ?_
  refine lSl w3 0 ?_
  obtain ⟨w4,s4⟩:=w3.pp [0,2,1,3] 4
  obtain ⟨r5,e5,hp⟩:=ag hp
  refine aP (de.P rfl ⟨w4,(lW.step (s1.trans (s3.trans s4)))⟩ e5) ?_
  rintro _ H6 ⟨Er,rfl,hl6_0,w6,s6,f6_0⟩
  refine lI w6 0 ?_
  refine lI w6 0 ?_
  refine lSl w6 0 ?_
  obtain ⟨w7,s7⟩:=w6.pp [0,3,1,2] 4
  obtain ⟨r8,e8,hp⟩:=ag hp
  refine aP (dd.P rfl ⟨w7,(lX.step (s1.trans (s3.trans (s4.trans (s6.trans s7)))))⟩ e8) ?_
  rintro _ H9 ⟨Es,rfl,hl9_0,w9,s9,f9_0⟩
  obtain ⟨w10,s10⟩:=w9.pp [3,2,1,0] 4
  exact aW hp ⟨_,_,_,rfl,hl3_0,hl6_0,hl9_0,w10,(s0.trans (s1.trans (s3.trans (s4.trans (s6.trans (s7.trans (s9.trans s10))))))),(f3_0.step (s4.trans (s6.trans (s7.trans (s9.trans s10))))),(f6_0.step (s7.trans (s9.trans s10))),(f9_0.step s10)⟩
 ·exact aW hp ⟨_,_,_,rfl,rfl,rfl,rfl,w0,s0,jy,lW,lX⟩
def cq.Q (H0:Hp) (Ri R0:agX) (bo aE bp bg aV aT bh bi bK bj:Int) (cH:ON) (bU aa:Nat) (cI:Cap) (dr:agV) (cV eu cW cX:Sl) (ay:Bool) (r:Bool) (v:AV) (H':Hp):Prop:=v=(.bool r)/\Out H0 Ri H' (Rs.blk aa [.i bo,.i aE,.sl ⟨cH,bU,cI⟩,.i bp,.i bg,.sl cV,.i aV,.i aT,.sl eu,.i bh,.i bi,.sl cW,.i bK,.i bj,.sl cX,.bool ay]::R0) λR=>True
def cq.S13 (H0:Hp) (Ri R0:agX) (aw ai aC ap aq ak ar au aG av:Int) (aR:ON) (aF ax:Nat) (aS:Cap) (cv:agV) (cB eD cC cD:Sl) (bL:Bool) (C:ag8) (pC:Int->Int->List Int->Int->Int->Option (Bool)):Prop:=∀ {eo fL},∀ {H:Hp},aF=cv.length->(Out H0 Ri H (Rs.blk ax [.i aw,.i ai,.sl ⟨aR,aF,aS⟩,.i aC,.i ap,.sl cB,.i aq,.i ak,.sl eD,.i ar,.i au,.sl cC,.i aG,.i av,.sl cD,.bool bL]::R0) λR=>ROs eI H R ⟨aR,aF,aS⟩ cv)->∀ {r:Bool},pC aw ai cv eo fL=some r->Rt (C ax 0 eo fL H) (cq.Q H0 Ri R0 aw ai aC ap aq ak ar au aG av aR aF ax aS cv cB eD cC cD bL r)
def cq.S29 (H0:Hp) (Ri R0:agX) (aw ai aC ap aq ak ar au aG av:Int) (aR:ON) (aF ax:Nat) (aS:Cap) (cv:agV) (cB eD cC cD:Sl) (bL:Bool) (C:ag8) (pC:Int->List Int->Int->Int->Option (Bool)):Prop:=∀ {nE mP},∀ {H:Hp},aF=cv.length->(Out H0 Ri H (Rs.blk ax [.i aw,.i ai,.sl ⟨aR,aF,aS⟩,.i aC,.i ap,.sl cB,.i aq,.i ak,.sl eD,.i ar,.i au,.sl cC,.i aG,.i av,.sl cD,.bool bL]::R0) λR=>ROs eI H R ⟨aR,aF,aS⟩ cv)->∀ {r:Bool},pC ai cv nE mP=some r->Rt (C ax 0 nE mP H) (cq.Q H0 Ri R0 aw ai aC ap aq ak ar au aG av aR aF ax aS cv cB eD cC cD bL r)
def cq.pl29 (F:Nat) :Nat->Int->List Int->Int->Int->Option (Bool)
 | 0,_,_,_,_=>none
 | k+1,ai,cv,nE,mP=>(bif (decide (mP<ai)) then ((bm.p F ai cv nE mP).bind λr1=>(bif (r1 != 0) then (some false) else (cq.pl29 F k ai cv nE (wrap .i64 (mP+1))))) else (some true))
theorem cq.l29_P {aw ai aC ap aq ak ar au aG av aR aF ax aS cv cB eD cC cD bL} :∀ k,cq.S29 H0 Ri R0 aw ai aC ap aq ak ar au aG av aR aF ax aS cv cB eD cC cD bL (cq.l29 F (bm.tw F)  k) (cq.pl29 F  k):=by
 intro k
 induction k with
 | zero=>unfold cq.S29;intros;rename_i hp;cases hp
 | succ k ih=>
  intro nE mP H ni h0 r hp
  obtain ⟨w0,s0,ky⟩:=h0
  subst ni
  unfold cq.pl29 at hp
  unfold cq.l29
  refine lI w0 0 ?_
  refine aX hp (λhp=>?_) λhp=>?_
  ·refine lI w0 0 ?_
   refine lI w0 0 ?_
   refine lSl w0 0 ?_
   obtain ⟨r1,e1,hp⟩:=ag hp
   refine aP (bm.P rfl ⟨w0,ky⟩ e1) ?_
   rintro _ H2 ⟨rfl,w2,s2,_⟩
   refine br ?_
   refine aX hp (λhp=>?_) λhp=>?_
   ·exact aW hp ⟨rfl,w2,(s0.trans s2),trivial⟩
   ·exact ih rfl ⟨w2,(s0.trans s2),(ky.step s2)⟩ hp
  ·exact aW hp ⟨rfl,w0,s0,trivial⟩
def cq.pj1 (F:Nat)  (ai:Int) (cv:agV) (qa:Int):Option (Bool):=cq.pl29 F F ai cv qa (wrap .i64 (qa+1))
theorem cq.j1_P {aw ai aC ap aq ak ar au aG av aR aF ax aS cv cB eD cC cD bL}  {qa} (ni:aF=cv.length) (h0:Out H0 Ri H (Rs.blk ax [.i aw,.i ai,.sl ⟨aR,aF,aS⟩,.i aC,.i ap,.sl cB,.i aq,.i ak,.sl eD,.i ar,.i au,.sl cC,.i aG,.i av,.sl cD,.bool bL]::R0) λR=>ROs eI H R ⟨aR,aF,aS⟩ cv) {r:Bool} (hp:cq.pj1 F  ai cv qa=some r):Rt (cq.j1 F (bm.tw F)  ax 0 qa H) (cq.Q H0 Ri R0 aw ai aC ap aq ak ar au aG av aR aF ax aS cv cB eD cC cD bL r):=by
 obtain ⟨w0,s0,ky⟩:=h0
 subst ni
 unfold cq.pj1 at hp
 unfold cq.j1
 exact cq.l29_P F rfl ⟨w0,s0,ky⟩ hp
def cq.pl13 (F:Nat) :Nat->Int->Int->List Int->Int->Int->Option (Bool)
 | 0,_,_,_,_,_=>none
 | k+1,aw,ai,cv,eo,fL=>(bif (decide (fL<aw)) then ((bm.p F ai cv fL eo).bind λr1=>(bif (r1 != 0) then (some false) else (cq.pl13 F k aw ai cv eo (wrap .i64 (fL+1))))) else (cq.pj1 F ai cv eo))
theorem cq.l13_P {aw ai aC ap aq ak ar au aG av aR aF ax aS cv cB eD cC cD bL} :∀ k,cq.S13 H0 Ri R0 aw ai aC ap aq ak ar au aG av aR aF ax aS cv cB eD cC cD bL (cq.l13 F (bm.tw F)  k) (cq.pl13 F  k):=by
 intro k
 induction k with
 | zero=>unfold cq.S13;intros;rename_i hp;cases hp
 | succ k ih=>
  intro eo fL H ni h0 r hp
  obtain ⟨w0,s0,ky⟩:=h0
  subst ni
  unfold cq.pl13 at hp
  unfold cq.l13
  refine lI w0 0 ?_
  refine aX hp (λhp=>?_) λhp=>?_
  ·refine lI w0 0 ?_
   refine lI w0 0 ?_
   refine lSl w0 0 ?_
   obtain ⟨r1,e1,hp⟩:=ag hp
   refine aP (bm.P rfl ⟨w0,ky⟩ e1) ?_
   rintro _ H2 ⟨rfl,w2,s2,_⟩
   refine br ?_
   refine aX hp (λhp=>?_) λhp=>?_
   ·exact aW hp ⟨rfl,w2,(s0.trans s2),trivial⟩
   ·exact ih rfl ⟨w2,(s0.trans s2),(ky.step s2)⟩ hp
  ·exact cq.j1_P rfl ⟨w0,s0,ky⟩ hp
def cq.p (F:Nat) (bo:Int) (aE:Int) (dr:agV) (af:Int):Option (Bool):=cq.pl13 F F bo aE dr af (wrap .i64 (af+1))
theorem cq.P {bo aE bp bg aV aT bh bi bK bj af cH bU aa cI dr cV eu cW cX ay} (kr:bU=dr.length) (h0:Inn H (Rs.blk aa [.i bo,.i aE,.sl ⟨cH,bU,cI⟩,.i bp,.i bg,.sl cV,.i aV,.i aT,.sl eu,.i bh,.i bi,.sl cW,.i bK,.i bj,.sl cX,.bool ay]::R0) λR=>ROs eI H R ⟨cH,bU,cI⟩ dr) {r:Bool} (hp:cq.p F bo aE dr af=some r):Rt (cq.tw F aa 0 af H) (cq.Q H (Rs.blk aa [.i bo,.i aE,.sl ⟨cH,bU,cI⟩,.i bp,.i bg,.sl cV,.i aV,.i aT,.sl eu,.i bh,.i bi,.sl cW,.i bK,.i bj,.sl cX,.bool ay]::R0) R0 bo aE bp bg aV aT bh bi bK bj cH bU aa cI dr cV eu cW cX ay r):=by
 obtain ⟨w0,jy⟩:=h0
 subst kr
 unfold cq.p at hp
 unfold cq.tw cq.twX
 have s0:=w0.rf
 exact cq.l13_P F rfl ⟨w0,s0,jy⟩ hp
def bJ.Q (H0:Hp) (Ri R0:agX) (bo aE bp bg aV aT bh bi bK bj:Int) (cH:ON) (bU aa:Nat) (cI:Cap) (dr:agV) (cV eu cW cX:Sl) (ay:Bool) (r:Int) (v:AV) (H':Hp):Prop:=v=(.i r)/\Out H0 Ri H' (Rs.blk aa [.i bo,.i aE,.sl ⟨cH,bU,cI⟩,.i bp,.i bg,.sl cV,.i aV,.i aT,.sl eu,.i bh,.i bi,.sl cW,.i bK,.i bj,.sl cX,.bool ay]::R0) λR=>True
def bJ.S13 (H0:Hp) (Ri R0:agX) (aw ai aC ap aq ak ar au aG av:Int) (aR:ON) (aF ax:Nat) (aS:Cap) (cv:agV) (cB eD cC cD:Sl) (bL:Bool) (C:ag8) (pC:ahv):Prop:=∀ {eo fL},∀ {H:Hp},aF=cv.length->(Out H0 Ri H (Rs.blk ax [.i aw,.i ai,.sl ⟨aR,aF,aS⟩,.i aC,.i ap,.sl cB,.i aq,.i ak,.sl eD,.i ar,.i au,.sl cC,.i aG,.i av,.sl cD,.bool bL]::R0) λR=>ROs eI H R ⟨aR,aF,aS⟩ cv)->∀ {r:Int},pC aw ai cv eo fL=some r->Rt (C ax 0 eo fL H) (bJ.Q H0 Ri R0 aw ai aC ap aq ak ar au aG av aR aF ax aS cv cB eD cC cD bL r)
def bJ.S213 (H0:Hp) (Ri R0:agX) (aw ai aC ap aq ak ar au aG av:Int) (aR:ON) (aF ax:Nat) (aS:Cap) (cv:agV) (cB eD cC cD:Sl) (bL:Bool) (C:ag5) (pC:Int->Int->List Int->Int->Int->Int->Option (Int)):Prop:=∀ {ly lz mQ},∀ {H:Hp},aF=cv.length->(Out H0 Ri H (Rs.blk ax [.i aw,.i ai,.sl ⟨aR,aF,aS⟩,.i aC,.i ap,.sl cB,.i aq,.i ak,.sl eD,.i ar,.i au,.sl cC,.i aG,.i av,.sl cD,.bool bL]::R0) λR=>ROs eI H R ⟨aR,aF,aS⟩ cv)->∀ {r:Int},pC aw ai cv ly lz mQ=some r->Rt (C ax 0 ly lz mQ H) (bJ.Q H0 Ri R0 aw ai aC ap aq ak ar au aG av aR aF ax aS cv cB eD cC cD bL r)
def bJ.pj3 (F:Nat) (jY:ahv) (aw:Int) (ai:Int) (cv:agV) (tX:Int) (tY:Int):Option (Int):=jY aw ai cv tX (wrap .i64 (tY+1))
theorem bJ.j3_P {aw ai aC ap aq ak ar au aG av aR aF ax aS cv cB eD cC cD bL} {C13_:ag8} {jY:ahv} (hC13:bJ.S13 H0 Ri R0 aw ai aC ap aq ak ar au aG av aR aF ax aS cv cB eD cC cD bL C13_ jY) {tX tY} (ni:aF=cv.length) (h0:Out H0 Ri H (Rs.blk ax [.i aw,.i ai,.sl ⟨aR,aF,aS⟩,.i aC,.i ap,.sl cB,.i aq,.i ak,.sl eD,.i ar,.i au,.sl cC,.i aG,.i av,.sl cD,.bool bL]::R0) λR=>ROs eI H R ⟨aR,aF,aS⟩ cv) {r:Int} (hp:bJ.pj3 F jY aw ai cv tX tY=some r):Rt (bJ.j3 F (bm.tw F) C13_ ax 0 tX tY H) (bJ.Q H0 Ri R0 aw ai aC ap aq ak ar au aG av aR aF ax aS cv cB eD cC cD bL r):=by
 obtain ⟨w0,s0,ky⟩:=h0
 subst ni
 unfold bJ.pj3 at hp
 unfold bJ.j3
 exact hC13 rfl ⟨w0,s0,ky⟩ hp
def bJ.pj4 (F:Nat) (jY:ahv) (aw:Int) (ai:Int) (cv:agV) (tZ:Int) (t_:Int):Option (Int):=bJ.pj3 F jY aw ai cv tZ t_
theorem bJ.j4_P {aw ai aC ap aq ak ar au aG av aR aF ax aS cv cB eD cC cD bL} {C13_:ag8} {jY:ahv} (hC13:bJ.S13 H0 Ri R0 aw ai aC ap aq ak ar au aG av aR aF ax aS cv cB eD cC cD bL C13_ jY) {tZ t_} (ni:aF=cv.length) (h0:Out H0 Ri H (Rs.blk ax [.i aw,.i ai,.sl ⟨aR,aF,aS⟩,.i aC,.i ap,.sl cB,.i aq,.i ak,.sl eD,.i ar,.i au,.sl cC,.i aG,.i av,.sl cD,.bool bL]::R0) λR=>ROs eI H R ⟨aR,aF,aS⟩ cv) {r:Int} (hp:bJ.pj4 F jY aw ai cv tZ t_=some r):Rt (bJ.j4 F (bm.tw F) C13_ ax 0 tZ t_ H) (bJ.Q H0 Ri R0 aw ai aC ap aq ak ar au aG av aR aF ax aS cv cB eD cC cD bL r):=by
 obtain ⟨w0,s0,ky⟩:=h0
 subst ni
 unfold bJ.pj4 at hp
 unfold bJ.j4
 exact bJ.j3_P (@hC13) rfl ⟨w0,s0,ky⟩ hp
def bJ.pl213 (F:Nat) (jY:ahv):Nat->Int->Int->List Int->Int->Int->Int->Option (Int)
 | 0,_,_,_,_,_,_=>none
 | k+1,aw,ai,cv,ly,lz,mQ=>(bif (decide (mQ<ai)) then ((bm.p F ai cv lz mQ).bind λr1=>(bm.p F ai cv ly ly).bind λr4=>(if r4=0 then none else ((bif ((Int.tmod r1 r4) != 0) then (some lz) else (bJ.pl213 F jY k aw ai cv ly lz (wrap .i64 (mQ+1))))))) else (bJ.pj4 F jY aw ai cv ly lz))
theorem bJ.l213_P {aw ai aC ap aq ak ar au aG av aR aF ax aS cv cB eD cC cD bL} {C13_:ag8} {jY:ahv} (hC13:bJ.S13 H0 Ri R0 aw ai aC ap aq ak ar au aG av aR aF ax aS cv cB eD cC cD bL C13_ jY):∀ k,bJ.S213 H0 Ri R0 aw ai aC ap aq ak ar au aG av aR aF ax aS cv cB eD cC cD bL (bJ.l213 F (bm.tw F) C13_ k) (bJ.pl213 F jY k):=by
 intro k
 induction k with
 | zero=>unfold bJ.S213;intros;rename_i hp;cases hp
 | succ k ih=>
  intro ly lz mQ H ni h0 r hp
  obtain ⟨w0,s0,ky⟩:=h0
  subst ni
  unfold bJ.pl213 at hp
  unfold bJ.l213
  refine lI w0 0 ?_
  refine aX hp (λhp=>?_) λhp=>?_
  ·refine lI w0 0 ?_
   refine lI w0 0 ?_
   refine lSl w0 0 ?_
   obtain ⟨r1,e1,hp⟩:=ag hp
   refine aP (bm.P rfl ⟨w0,ky⟩ e1) ?_
   rintro _ H2 ⟨rfl,w2,s2,_⟩
   refine br ?_
   refine fQ (W.cons_of (Rn:=[]) w0 w2 s2) ?_
   refine lI w2 0 ?_
   refine lI w2 0 ?_
   refine lSl w2 0 ?_
   obtain ⟨r4,e4,hp⟩:=ag hp
   refine aP (bm.P rfl ⟨w2,(ky.step s2)⟩ e4) ?_
   rintro _ H5 ⟨rfl,w5,s5,_⟩
   refine br ?_
   obtain ⟨g6,hp⟩:=oI hp
   refine oJ g6 ?_
   refine aX hp (λhp=>?_) λhp=>?_
   ·exact aW hp ⟨rfl,w5,(s0.trans (s2.trans s5)),trivial⟩
   ·exact ih rfl ⟨w5,(s0.trans (s2.trans s5)),(ky.step (s2.trans s5))⟩ hp
  ·exact bJ.j4_P (@hC13) rfl ⟨w0,s0,ky⟩ hp
def bJ.pl13 (F:Nat) :Nat->Int->Int->List Int->Int->Int->Option (Int)
 | 0,_,_,_,_,_=>none
 | k+1,aw,ai,cv,eo,fL=>(bif (decide (fL<aw)) then (bJ.pl213 F (bJ.pl13 F k) F aw ai cv eo fL (wrap .i64 (eo+1))) else (some (-1)))
theorem bJ.l13_P {aw ai aC ap aq ak ar au aG av aR aF ax aS cv cB eD cC cD bL} :∀ k,bJ.S13 H0 Ri R0 aw ai aC ap aq ak ar au aG av aR aF ax aS cv cB eD cC cD bL (bJ.l13 F (bm.tw F)  k) (bJ.pl13 F  k):=by
 intro k
 induction k with
 | zero=>unfold bJ.S13;intros;rename_i hp;cases hp
 | succ k ih=>
  intro eo fL H ni h0 r hp
  obtain ⟨w0,s0,ky⟩:=h0
  subst ni
  unfold bJ.pl13 at hp
  unfold bJ.l13
  refine lI w0 0 ?_
  refine aX hp (λhp=>?_) λhp=>?_
  ·exact bJ.l213_P (@ih) F rfl ⟨w0,s0,ky⟩ hp
  ·exact aW hp ⟨rfl,w0,s0,trivial⟩
def bJ.p (F:Nat) (bo:Int) (aE:Int) (dr:agV) (af:Int):Option (Int):=bJ.pl13 F F bo aE dr af (wrap .i64 (af+1))
theorem bJ.P {bo aE bp bg aV aT bh bi bK bj af cH bU aa cI dr cV eu cW cX ay} (kr:bU=dr.length) (h0:Inn H (Rs.blk aa [.i bo,.i aE,.sl ⟨cH,bU,cI⟩,.i bp,.i bg,.sl cV,.i aV,.i aT,.sl eu,.i bh,.i bi,.sl cW,.i bK,.i bj,.sl cX,.bool ay]::R0) λR=>ROs eI H R ⟨cH,bU,cI⟩ dr) {r:Int} (hp:bJ.p F bo aE dr af=some r):Rt (bJ.tw F aa 0 af H) (bJ.Q H (Rs.blk aa [.i bo,.i aE,.sl ⟨cH,bU,cI⟩,.i bp,.i bg,.sl cV,.i aV,.i aT,.sl eu,.i bh,.i bi,.sl cW,.i bK,.i bj,.sl cX,.bool ay]::R0) R0 bo aE bp bg aV aT bh bi bK bj cH bU aa cI dr cV eu cW cX ay r):=by
 obtain ⟨w0,jy⟩:=h0
 subst kr
 unfold bJ.p at hp
 unfold bJ.tw bJ.twX
 have s0:=w0.rf
 exact bJ.l13_P F rfl ⟨w0,s0,jy⟩ hp
def bl.Q (H0:Hp) (Ri R0:agX) (bo aE bp bg aV aT bh bi bK bj:Int) (cH dJ cz dK dL:ON) (bU cY bQ cZ c_ aa:Nat) (cI dM cA dN dO:Cap) (eO fo eP fp fq:Bool) (eQ eR ft fu eS eT fv fw fx fy:ag3) (r:ahD) (v:AV) (H':Hp):Prop:=∃ jk:List AV,∃ jV:List AV,∃ jl:List AV,∃ jW:List AV,∃ jX:List AV,v=(.tup [(.bool r.1),(.bool r.2.1)])/\bU=(r.2.2.1).length/\cY=(r.2.2.2.1).length/\bQ=(r.2.2.2.2.1).length/\cZ=(r.2.2.2.2.2.1).length/\c_=(r.2.2.2.2.2.2.1).length/\Out H0 Ri H' (Rs.ow eO ⟨cH,bU,cI⟩ eI.z eQ jk eR::Rs.ow fo ⟨dJ,cY,dM⟩ eI.z ft jV fu::Rs.ow eP ⟨cz,bQ,cA⟩ eI.z eS jl eT::Rs.ow fp ⟨dK,cZ,dN⟩ eI.z fv jW fw::Rs.ow fq ⟨dL,c_,dO⟩ eI.z fx jX fy::Rs.blk aa [.i bo,.i aE,.sl ⟨cH,bU,cI⟩,.i bp,.i bg,.sl ⟨dJ,cY,dM⟩,.i aV,.i aT,.sl ⟨cz,bQ,cA⟩,.i bh,.i bi,.sl ⟨dK,cZ,dN⟩,.i bK,.i bj,.sl ⟨dL,c_,dO⟩,.bool (r.2.2.2.2.2.2.2)]::R0) λR=>CR eI H' R jk (r.2.2.1)/\CR eI H' R jV (r.2.2.2.1)/\CR eI H' R jl (r.2.2.2.2.1)/\CR eI H' R jW (r.2.2.2.2.2.1)/\CR eI H' R jX (r.2.2.2.2.2.2.1)
def bl.S29 (H0:Hp) (Ri R0:agX) (aw ai aC ap aq ak ar au aG av:Int) (aR bz aJ bC bD:ON) (aF aY aD aZ a_ ax:Nat) (aS bE aK bF bG:Cap) (bV bW bX bY bZ:Bool) (b_ ca cb ce cf cg ch ci cj ck:ag3) (C:ag8) (pC:ah2):Prop:=∀ {aH aM aI aN aO cL cM cN cO cP ay jD lC},∀ {H:Hp},aF=aH.length->aY=aM.length->aD=aI.length->aZ=aN.length->a_=aO.length->(Out H0 Ri H (Rs.ow bV ⟨aR,aF,aS⟩ eI.z b_ cL ca::Rs.ow bW ⟨bz,aY,bE⟩ eI.z cb cM ce::Rs.ow bX ⟨aJ,aD,aK⟩ eI.z cf cN cg::Rs.ow bY ⟨bC,aZ,bF⟩ eI.z ch cO ci::Rs.ow bZ ⟨bD,a_,bG⟩ eI.z cj cP ck::Rs.blk ax [.i aw,.i ai,.sl ⟨aR,aF,aS⟩,.i aC,.i ap,.sl ⟨bz,aY,bE⟩,.i aq,.i ak,.sl ⟨aJ,aD,aK⟩,.i ar,.i au,.sl ⟨bC,aZ,bF⟩,.i aG,.i av,.sl ⟨bD,a_,bG⟩,.bool ay]::R0) λR=>CR eI H R cL aH/\CR eI H R cM aM/\CR eI H R cN aI/\CR eI H R cO aN/\CR eI H R cP aO)->∀ {r:ahD},pC aw ai aH ap aM aq ak aI ar au aN av aO ay jD lC=some r->Rt (C ax 0 jD lC H) (bl.Q H0 Ri R0 aw ai aC ap aq ak ar au aG av aR bz aJ bC bD aF aY aD aZ a_ ax aS bE aK bF bG bV bW bX bY bZ b_ ca cb ce cf cg ch ci cj ck r)
def bl.S61 (H0:Hp) (Ri R0:agX) (aw ai aC ap aq ak ar au aG av:Int) (aR bz aJ bC bD:ON) (aF aY aD aZ a_ ax:Nat) (aS bE aK bF bG:Cap) (bV bW bX bY bZ:Bool) (b_ ca cb ce cf cg ch ci cj ck:ag3) (C:ag8) (pC:ah2):Prop:=∀ {aH aM aI aN aO cL cM cN cO cP ay jC lA},∀ {H:Hp},aF=aH.length->aY=aM.length->aD=aI.length->aZ=aN.length->a_=aO.length->(Out H0 Ri H (Rs.ow bV ⟨aR,aF,aS⟩ eI.z b_ cL ca::Rs.ow bW ⟨bz,aY,bE⟩ eI.z cb cM ce::Rs.ow bX ⟨aJ,aD,aK⟩ eI.z cf cN cg::Rs.ow bY ⟨bC,aZ,bF⟩ eI.z ch cO ci::Rs.ow bZ ⟨bD,a_,bG⟩ eI.z cj cP ck::Rs.blk ax [.i aw,.i ai,.sl ⟨aR,aF,aS⟩,.i aC,.i ap,.sl ⟨bz,aY,bE⟩,.i aq,.i ak,.sl ⟨aJ,aD,aK⟩,.i ar,.i au,.sl ⟨bC,aZ,bF⟩,.i aG,.i av,.sl ⟨bD,a_,bG⟩,.bool ay]::R0) λR=>CR eI H R cL aH/\CR eI H R cM aM/\CR eI H R cN aI/\CR eI H R cO aN/\CR eI H R cP aO)->∀ {r:ahD},pC aw ai aH ap aM aq ak aI ar au aN av aO ay jC lA=some r->Rt (C ax 0 jC lA H) (bl.Q H0 Ri R0 aw ai aC ap aq ak ar au aG av aR bz aJ bC bD aF aY aD aZ a_ ax aS bE aK bF bG bV bW bX bY bZ b_ ca cb ce cf cg ch ci cj ck r)
def bl.pj1 (F:Nat)  (aw:Int) (ai:Int) (aH:agV) (ap:Int) (aM:agV) (aq:Int) (ak:Int) (aI:agV) (aN:agV) (aO:agV) (ay:Bool) (oX:Int):Option (Bool×Bool×List Int×List Int×List Int×List Int×List Int×Bool):=(bif ay then (some (false,false,aH,aM,aI,aN,aO,ay)) else ((cq.p F aw ai aH oX).bind λr3=>(bif (!r3) then (some (false,false,aH,aM,aI,aN,aO,ay)) else ((bJ.p F aw ai aH oX).bind λr8=>(bif (decide (r8<0)) then (some (true,false,aH,aM,aI,aN,aO,ay)) else ((fX.p F ai aH ap aM aq ak aI ay oX r8 (-1)).bind λr13=>some (false,false,r13.1,r13.2.1,r13.2.2.1,aN,aO,r13.2.2.2)))))))
theorem bl.j1_P {aw ai aC ap aq ak ar au aG av aR bz aJ bC bD aF aY aD aZ a_ ax aS bE aK bF bG bV bW bX bY bZ b_ ca cb ce cf cg ch ci cj ck}  {aH aM aI aN aO cL cM cN cO cP ay oX} (eU:aF=aH.length) (eV:aY=aM.length) (eW:aD=aI.length) (eX:aZ=aN.length) (eY:a_=aO.length) (h0:Out H0 Ri H (Rs.ow bV ⟨aR,aF,aS⟩ eI.z b_ cL ca::Rs.ow bW ⟨bz,aY,bE⟩ eI.z cb cM ce::Rs.ow bX ⟨aJ,aD,aK⟩ eI.z cf cN cg::Rs.ow bY ⟨bC,aZ,bF⟩ eI.z ch cO ci::Rs.ow bZ ⟨bD,a_,bG⟩ eI.z cj cP ck::Rs.blk ax [.i aw,.i ai,.sl ⟨aR,aF,aS⟩,.i aC,.i ap,.sl ⟨bz,aY,bE⟩,.i aq,.i ak,.sl ⟨aJ,aD,aK⟩,.i ar,.i au,.sl ⟨bC,aZ,bF⟩,.i aG,.i av,.sl ⟨bD,a_,bG⟩,.bool ay]::R0) λR=>CR eI H R cL aH/\CR eI H R cM aM/\CR eI H R cN aI/\CR eI H R cO aN/\CR eI H R cP aO) {r:ahD} (hp:bl.pj1 F  aw ai aH ap aM aq ak aI aN aO ay oX=some r):Rt (bl.j1 F (az.tw F) (bm.tw F) (hU.tw F) (fX.tw F) (gi.tw F) (cq.tw F) (bJ.tw F)  ax 0 oX H) (bl.Q H0 Ri R0 aw ai aC ap aq ak ar au aG av aR bz aJ bC bD aF aY aD aZ a_ ax aS bE aK bF bG bV bW bX bY bZ b_ ca cb ce cf cg ch ci cj ck r):=by
 obtain ⟨w0,s0,cQ,db,cU,dh,di⟩:=h0
 subst eU
 subst eV
 subst eW
 subst eX
 subst eY
 unfold bl.pj1 at hp
 unfold bl.j1
 refine lB w0 5 ?_
 refine aX hp (λhp=>?_) λhp=>?_
 ·exact aW hp ⟨_,_,_,_,_,rfl,rfl,rfl,rfl,rfl,rfl,w0,s0,cQ,db,cU,dh,di⟩
 ·obtain ⟨w1,s1⟩:=w0.pp [0,5,1,2,3,4] 6
  have f2:=W.borrow1 eI w1 (cQ.step s1)
  obtain ⟨w2,s2⟩:=w1.right1
  obtain ⟨r3,e3,hp⟩:=ag hp
  refine aP (cq.P rfl ⟨w2,f2⟩ e3) ?_
  rintro _ H4 ⟨rfl,w4,s4,_⟩
  obtain ⟨w5,s5⟩:=W.frame1 w1 w4 s4
  refine br ?_
  refine aX hp (λhp=>?_) λhp=>?_
  ·obtain ⟨w6,s6⟩:=w5.pp [0,2,3,4,5,1] 6
   exact aW hp ⟨_,_,_,_,_,rfl,rfl,rfl,rfl,rfl,rfl,w6,(s0.trans (s1.trans (s5.trans s6))),(cQ.step (s1.trans (s5.trans s6))),(db.step (s1.trans (s5.trans s6))),(cU.step (s1.trans (s5.trans s6))),(dh.step (s1.trans (s5.trans s6))),(di.step (s1.trans (s5.trans s6)))⟩
  ·have f7:=W.borrow1 eI w5 (cQ.step (s1.trans s5))
   obtain ⟨w7,s7⟩:=w5.right1
   obtain ⟨r8,e8,hp⟩:=ag hp
   refine aP (bJ.P rfl ⟨w7,f7⟩ e8) ?_
   rintro _ H9 ⟨rfl,w9,s9,_⟩
   obtain ⟨w10,s10⟩:=W.frame1 w5 w9 s9
   refine br ?_
   refine aX hp (λhp=>?_) λhp=>?_
   ·obtain ⟨w11,s11⟩:=w10.pp [0,2,3,4,5,1] 6
    exact aW hp ⟨_,_,_,_,_,rfl,rfl,rfl,rfl,rfl,rfl,w11,(s0.trans (s1.trans (s5.trans (s10.trans s11)))),(cQ.step (s1.trans (s5.trans (s10.trans s11)))),(db.step (s1.trans (s5.trans (s10.trans s11)))),(cU.step (s1.trans (s5.trans (s10.trans s11)))),(dh.step (s1.trans (s5.trans (s10.trans s11)))),(di.step (s1.trans (s5.trans (s10.trans s11))))⟩
   ·obtain ⟨w12,s12⟩:=w10.pp [0,2,3,1,4,5] 6
    obtain ⟨r13,e13,hp⟩:=ag hp
    refine aP (fX.P rfl rfl rfl ⟨w12,(cQ.step (s1.trans (s5.trans (s10.trans s12)))),(db.step (s1.trans (s5.trans (s10.trans s12)))),(cU.step (s1.trans (s5.trans (s10.trans s12))))⟩ e13) ?_
    rintro _ H14 ⟨Mo,Ye,Yf,rfl,hl14_0,hl14_1,hl14_2,w14,s14,f14_0,f14_1,f14_2⟩
    obtain ⟨w15,s15⟩:=w14.pp [0,1,2,4,5,3] 6
    exact aW hp ⟨_,_,_,_,_,rfl,hl14_0,hl14_1,hl14_2,rfl,rfl,w15,(s0.trans (s1.trans (s5.trans (s10.trans (s12.trans (s14.trans s15)))))),(f14_0.step s15),(f14_1.step s15),(f14_2.step s15),(dh.step (s1.trans (s5.trans (s10.trans (s12.trans (s14.trans s15)))))),(di.step (s1.trans (s5.trans (s10.trans (s12.trans (s14.trans s15))))))⟩
def bl.pl61 (F:Nat) :Nat->Int->Int->List Int->Int->List Int->Int->Int->List Int->Int->Int->List Int->Int->List Int->Bool->Int->Int->Option (Bool×Bool×List Int×List Int×List Int×List Int×List Int×Bool)
 | 0,_,_,_,_,_,_,_,_,_,_,_,_,_,_,_,_=>none
 | k+1,aw,ai,aH,ap,aM,aq,ak,aI,ar,au,aN,av,aO,ay,jC,lA=>(bif (decide (lA<ai)) then ((bif (!ay) then ((bm.p F ai aH jC lA).bind λr2=>(bm.p F ai aH jC jC).bind λr7=>(hU.p F r2 r7).bind λr10=>(gi.p F aw ai aH ar au aN av aO ay lA jC r10).bind λr13=>bl.pl61 F k aw ai r13.1 ap aM aq ak aI ar au r13.2.1 av r13.2.2.1 r13.2.2.2 jC (wrap .i64 (lA+1))) else (bl.pj1 F aw ai aH ap aM aq ak aI aN aO ay jC))) else (bl.pj1 F aw ai aH ap aM aq ak aI aN aO ay jC))
theorem bl.l61_P {aw ai aC ap aq ak ar au aG av aR bz aJ bC bD aF aY aD aZ a_ ax aS bE aK bF bG bV bW bX bY bZ b_ ca cb ce cf cg ch ci cj ck} :∀ k,bl.S61 H0 Ri R0 aw ai aC ap aq ak ar au aG av aR bz aJ bC bD aF aY aD aZ a_ ax aS bE aK bF bG bV bW bX bY bZ b_ ca cb ce cf cg ch ci cj ck (bl.l61 F (az.tw F) (bm.tw F) (hU.tw F) (fX.tw F) (gi.tw F) (cq.tw F) (bJ.tw F)  k) (bl.pl61 F  k):=by
 intro k
 induction k with
 | zero=>unfold bl.S61;intros;rename_i hp;cases hp
 | succ k ih=>
  intro aH aM aI aN aO cL cM cN cO cP ay jC lA H eU eV eW eX eY h0 r hp
  obtain ⟨w0,s0,cQ,db,cU,dh,di⟩:=h0
  subst eU
  subst eV
  subst eW
  subst eX
  subst eY
  unfold bl.pl61 at hp
  unfold bl.l61
  refine lI w0 5 ?_
  refine aX hp (λhp=>?_) λhp=>?_
  ·refine lB w0 5 ?_
   refine aX hp (λhp=>?_) λhp=>?_
   ·refine lI w0 5 ?_
    refine lI w0 5 ?_
    refine lSl w0 5 ?_
    have f1:=W.borrow1 eI w0 cQ
    obtain ⟨w1,s1⟩:=w0.right1
    obtain ⟨r2,e2,hp⟩:=ag hp
    refine aP (bm.P rfl ⟨w1,f1⟩ e2) ?_
    rintro _ H3 ⟨rfl,w3,s3,_⟩
    obtain ⟨w4,s4⟩:=W.frame1 w0 w3 s3
    refine br ?_
    refine fQ (W.cons_of (Rn:=[]) w1 w3 s3) ?_
    refine lI w4 5 ?_
    refine lI w4 5 ?_
    refine lSl w4 5 ?_
    have f6:=W.borrow1 eI w4 (cQ.step s4)
    obtain ⟨w6,s6⟩:=w4.right1
    obtain ⟨r7,e7,hp⟩:=ag hp
    refine aP (bm.P rfl ⟨w6,f6⟩ e7) ?_
    rintro _ H8 ⟨rfl,w8,s8,_⟩
    obtain ⟨w9,s9⟩:=W.frame1 w4 w8 s8
    refine br ?_
    obtain ⟨r10,e10,hp⟩:=ag hp
    refine aP (hU.P ⟨w9,trivial⟩ e10) ?_
    rintro _ H11 ⟨rfl,w11,s11,_⟩
    refine br ?_
    obtain ⟨w12,s12⟩:=w11.pp [0,3,4,5,1,2] 6
    obtain ⟨r13,e13,hp⟩:=ag hp
    refine aP (gi.P rfl rfl rfl ⟨w12,(cQ.step (s4.trans (s9.trans (s11.trans s12)))),(dh.step (s4.trans (s9.trans (s11.trans s12)))),(di.step (s4.trans (s9.trans (s11.trans s12))))⟩ e13) ?_
    rintro _ H14 ⟨Mo,af9,af_,rfl,hl14_0,hl14_1,hl14_2,w14,s14,f14_0,f14_1,f14_2⟩
    obtain ⟨w15,s15⟩:=w14.pp [0,4,5,1,2,3] 6
    exact ih hl14_0 rfl rfl hl14_1 hl14_2 ⟨w15,(s0.trans (s4.trans (s9.trans (s11.trans (s12.trans (s14.trans s15)))))),(f14_0.step s15),(db.step (s4.trans (s9.trans (s11.trans (s12.trans (s14.trans s15)))))),(cU.step (s4.trans (s9.trans (s11.trans (s12.trans (s14.trans s15)))))),(f14_1.step s15),(f14_2.step s15)⟩ hp
   ·exact bl.j1_P rfl rfl rfl rfl rfl ⟨w0,s0,cQ,db,cU,dh,di⟩ hp
  ·exact bl.j1_P rfl rfl rfl rfl rfl ⟨w0,s0,cQ,db,cU,dh,di⟩ hp
def bl.pj2 (F:Nat)  (aw:Int) (ai:Int) (aH:agV) (ap:Int) (aM:agV) (aq:Int) (ak:Int) (aI:agV) (ar:Int) (au:Int) (aN:agV) (av:Int) (aO:agV) (ay:Bool) (kM:Int):Option (Bool×Bool×List Int×List Int×List Int×List Int×List Int×Bool):=bl.pl61 F F aw ai aH ap aM aq ak aI ar au aN av aO ay kM (wrap .i64 (kM+1))
theorem bl.j2_P {aw ai aC ap aq ak ar au aG av aR bz aJ bC bD aF aY aD aZ a_ ax aS bE aK bF bG bV bW bX bY bZ b_ ca cb ce cf cg ch ci cj ck}  {aH aM aI aN aO cL cM cN cO cP ay kM} (eU:aF=aH.length) (eV:aY=aM.length) (eW:aD=aI.length) (eX:aZ=aN.length) (eY:a_=aO.length) (h0:Out H0 Ri H (Rs.ow bV ⟨aR,aF,aS⟩ eI.z b_ cL ca::Rs.ow bW ⟨bz,aY,bE⟩ eI.z cb cM ce::Rs.ow bX ⟨aJ,aD,aK⟩ eI.z cf cN cg::Rs.ow bY ⟨bC,aZ,bF⟩ eI.z ch cO ci::Rs.ow bZ ⟨bD,a_,bG⟩ eI.z cj cP ck::Rs.blk ax [.i aw,.i ai,.sl ⟨aR,aF,aS⟩,.i aC,.i ap,.sl ⟨bz,aY,bE⟩,.i aq,.i ak,.sl ⟨aJ,aD,aK⟩,.i ar,.i au,.sl ⟨bC,aZ,bF⟩,.i aG,.i av,.sl ⟨bD,a_,bG⟩,.bool ay]::R0) λR=>CR eI H R cL aH/\CR eI H R cM aM/\CR eI H R cN aI/\CR eI H R cO aN/\CR eI H R cP aO) {r:ahD} (hp:bl.pj2 F  aw ai aH ap aM aq ak aI ar au aN av aO ay kM=some r):Rt (bl.j2 F (az.tw F) (bm.tw F) (hU.tw F) (fX.tw F) (gi.tw F) (cq.tw F) (bJ.tw F)  ax 0 kM H) (bl.Q H0 Ri R0 aw ai aC ap aq ak ar au aG av aR bz aJ bC bD aF aY aD aZ a_ ax aS bE aK bF bG bV bW bX bY bZ b_ ca cb ce cf cg ch ci cj ck r):=by
 obtain ⟨w0,s0,cQ,db,cU,dh,di⟩:=h0
 subst eU
 subst eV
 subst eW
 subst eX
 subst eY
 unfold bl.pj2 at hp
 unfold bl.j2
 exact bl.l61_P F rfl rfl rfl rfl rfl ⟨w0,s0,cQ,db,cU,dh,di⟩ hp
def bl.pl29 (F:Nat) :Nat->Int->Int->List Int->Int->List Int->Int->Int->List Int->Int->Int->List Int->Int->List Int->Bool->Int->Int->Option (Bool×Bool×List Int×List Int×List Int×List Int×List Int×Bool)
 | 0,_,_,_,_,_,_,_,_,_,_,_,_,_,_,_,_=>none
 | k+1,aw,ai,aH,ap,aM,aq,ak,aI,ar,au,aN,av,aO,ay,jD,lC=>(bif (decide (lC<aw)) then ((bif (!ay) then ((bm.p F ai aH lC jD).bind λr2=>(bm.p F ai aH jD jD).bind λr7=>(hU.p F r2 r7).bind λr10=>(fX.p F ai aH ap aM aq ak aI ay lC jD r10).bind λr13=>bl.pl29 F k aw ai r13.1 ap r13.2.1 aq ak r13.2.2.1 ar au aN av aO r13.2.2.2 jD (wrap .i64 (lC+1))) else (bl.pj2 F aw ai aH ap aM aq ak aI ar au aN av aO ay jD))) else (bl.pj2 F aw ai aH ap aM aq ak aI ar au aN av aO ay jD))
theorem bl.l29_P {aw ai aC ap aq ak ar au aG av aR bz aJ bC bD aF aY aD aZ a_ ax aS bE aK bF bG bV bW bX bY bZ b_ ca cb ce cf cg ch ci cj ck} :∀ k,bl.S29 H0 Ri R0 aw ai aC ap aq ak ar au aG av aR bz aJ bC bD aF aY aD aZ a_ ax aS bE aK bF bG bV bW bX bY bZ b_ ca cb ce cf cg ch ci cj ck (bl.l29 F (az.tw F) (bm.tw F) (hU.tw F) (fX.tw F) (gi.tw F) (cq.tw F) (bJ.tw F)  k) (bl.pl29 F  k):=by
 intro k
 induction k with
 | zero=>unfold bl.S29;intros;rename_i hp;cases hp
 | succ k ih=>
  intro aH aM aI aN aO cL cM cN cO cP ay jD lC H eU eV eW eX eY h0 r hp
  obtain ⟨w0,s0,cQ,db,cU,dh,di⟩:=h0
  subst eU
  subst eV
  subst eW
  subst eX
  subst eY
  unfold bl.pl29 at hp
  unfold bl.l29
  refine lI w0 5 ?_
  refine aX hp (λhp=>?_) λhp=>?_
  ·refine lB w0 5 ?_
   refine aX hp (λhp=>?_) λhp=>?_
   ·refine lI w0 5 ?_
    refine lI w0 5 ?_
    refine lSl w0 5 ?_
    have f1:=W.borrow1 eI w0 cQ
    obtain ⟨w1,s1⟩:=w0.right1
    obtain ⟨r2,e2,hp⟩:=ag hp
    refine aP (bm.P rfl ⟨w1,f1⟩ e2) ?_
    rintro _ H3 ⟨rfl,w3,s3,_⟩
    obtain ⟨w4,s4⟩:=W.frame1 w0 w3 s3
    refine br ?_
    refine fQ (W.cons_of (Rn:=[]) w1 w3 s3) ?_
    refine lI w4 5 ?_
    refine lI w4 5 ?_
    refine lSl w4 5 ?_
    have f6:=W.borrow1 eI w4 (cQ.step s4)
    obtain ⟨w6,s6⟩:=w4.right1
    obtain ⟨r7,e7,hp⟩:=ag hp
    refine aP (bm.P rfl ⟨w6,f6⟩ e7) ?_
    rintro _ H8 ⟨rfl,w8,s8,_⟩
    obtain ⟨w9,s9⟩:=W.frame1 w4 w8 s8
    refine br ?_
    obtain ⟨r10,e10,hp⟩:=ag hp
    refine aP (hU.P ⟨w9,trivial⟩ e10) ?_
    rintro _ H11 ⟨rfl,w11,s11,_⟩
    refine br ?_
    obtain ⟨w12,s12⟩:=w11.pp [0,1,2,5,3,4] 6
    obtain ⟨r13,e13,hp⟩:=ag hp
    refine aP (fX.P rfl rfl rfl ⟨w12,(cQ.step (s4.trans (s9.trans (s11.trans s12)))),(db.step (s4.trans (s9.trans (s11.trans s12)))),(cU.step (s4.trans (s9.trans (s11.trans s12))))⟩ e13) ?_
    rintro _ H14 ⟨Mo,Ye,Yf,rfl,hl14_0,hl14_1,hl14_2,w14,s14,f14_0,f14_1,f14_2⟩
    obtain ⟨w15,s15⟩:=w14.pp [0,1,2,4,5,3] 6
    exact ih hl14_0 hl14_1 hl14_2 rfl rfl ⟨w15,(s0.trans (s4.trans (s9.trans (s11.trans (s12.trans (s14.trans s15)))))),(f14_0.step s15),(f14_1.step s15),(f14_2.step s15),(dh.step (s4.trans (s9.trans (s11.trans (s12.trans (s14.trans s15)))))),(di.step (s4.trans (s9.trans (s11.trans (s12.trans (s14.trans s15))))))⟩ hp
   ·exact bl.j2_P rfl rfl rfl rfl rfl ⟨w0,s0,cQ,db,cU,dh,di⟩ hp
  ·exact bl.j2_P rfl rfl rfl rfl rfl ⟨w0,s0,cQ,db,cU,dh,di⟩ hp
def bl.p (F:Nat) (bo:Int) (aE:Int) (dr:agV) (bg:Int) (fe:agV) (aV:Int) (aT:Int) (da:agV) (bh:Int) (bi:Int) (ff:agV) (bj:Int) (fg:agV) (ay:Bool) (af:Int):Option (Bool×Bool×List Int×List Int×List Int×List Int×List Int×Bool):=(az.p F bo aE dr bg fe aV aT da bh bi ff bj fg af).bind λr1=>(bif (!r1.1) then (some (true,true,r1.2.1,r1.2.2.1,r1.2.2.2.1,r1.2.2.2.2.1,r1.2.2.2.2.2,ay)) else (bl.pl29 F F bo aE r1.2.1 bg r1.2.2.1 aV aT r1.2.2.2.1 bh bi r1.2.2.2.2.1 bj r1.2.2.2.2.2 ay af (wrap .i64 (af+1))))
theorem bl.P {bo aE bp bg aV aT bh bi bK bj af cH dJ cz dK dL bU cY bQ cZ c_ aa cI dM cA dN dO dr fe da ff fg eO fo eP fp fq ay eQ eR gF ft fu il eS eT gG fv fw im fx fy io} (kr:bU=dr.length) (ne:cY=fe.length) (jJ:bQ=da.length) (ng:cZ=ff.length) (nh:c_=fg.length) (h0:Inn H (Rs.ow eO ⟨cH,bU,cI⟩ eI.z eQ gF eR::Rs.ow fo ⟨dJ,cY,dM⟩ eI.z ft il fu::Rs.ow eP ⟨cz,bQ,cA⟩ eI.z eS gG eT::Rs.ow fp ⟨dK,cZ,dN⟩ eI.z fv im fw::Rs.ow fq ⟨dL,c_,dO⟩ eI.z fx io fy::Rs.blk aa [.i bo,.i aE,.sl ⟨cH,bU,cI⟩,.i bp,.i bg,.sl ⟨dJ,cY,dM⟩,.i aV,.i aT,.sl ⟨cz,bQ,cA⟩,.i bh,.i bi,.sl ⟨dK,cZ,dN⟩,.i bK,.i bj,.sl ⟨dL,c_,dO⟩,.bool ay]::R0) λR=>CR eI H R gF dr/\CR eI H R il fe/\CR eI H R gG da/\CR eI H R im ff/\CR eI H R io fg) {r:ahD} (hp:bl.p F bo aE dr bg fe aV aT da bh bi ff bj fg ay af=some r):Rt (bl.tw F aa 0 af H) (bl.Q H (Rs.ow eO ⟨cH,bU,cI⟩ eI.z eQ gF eR::Rs.ow fo ⟨dJ,cY,dM⟩ eI.z ft il fu::Rs.ow eP ⟨cz,bQ,cA⟩ eI.z eS gG eT::Rs.ow fp ⟨dK,cZ,dN⟩ eI.z fv im fw::Rs.ow fq ⟨dL,c_,dO⟩ eI.z fx io fy::Rs.blk aa [.i bo,.i aE,.sl ⟨cH,bU,cI⟩,.i bp,.i bg,.sl ⟨dJ,cY,dM⟩,.i aV,.i aT,.sl ⟨cz,bQ,cA⟩,.i bh,.i bi,.sl ⟨dK,cZ,dN⟩,.i bK,.i bj,.sl ⟨dL,c_,dO⟩,.bool ay]::R0) R0 bo aE bp bg aV aT bh bi bK bj cH dJ cz dK dL bU cY bQ cZ c_ aa cI dM cA dN dO eO fo eP fp fq eQ eR ft fu eS eT fv fw fx fy r):=by
 obtain ⟨w0,jy,lV,iU,lW,lX⟩:=h0
 subst kr
 subst ne
 subst jJ
 subst ng
 subst nh
 unfold bl.p at hp
 unfold bl.tw bl.twX
 have s0:=w0.rf
 obtain ⟨r1,e1,hp⟩:=ag hp
 refine aP (az.P rfl rfl rfl rfl rfl ⟨w0,jy,lV,iU,lW,lX⟩ e1) ?_
 rintro _ H2 ⟨Yg,Yh,Yi,Yj,Yk,rfl,hl2_0,hl2_1,hl2_2,hl2_3,hl2_4,w2,s2,f2_0,f2_1,f2_2,f2_3,f2_4⟩
 refine br ?_
 refine aX hp (λhp=>?_) λhp=>?_
 ·exact aW hp ⟨_,_,_,_,_,rfl,hl2_0,hl2_1,hl2_2,hl2_3,hl2_4,w2,(s0.trans s2),f2_0,f2_1,f2_2,f2_3,f2_4⟩
 ·exact bl.l29_P F hl2_0 hl2_1 hl2_2 hl2_3 hl2_4 ⟨w2,(s0.trans s2),f2_0,f2_1,f2_2,f2_3,f2_4⟩ hp
def bf.Q (H0:Hp) (Ri R0:agX)  (r:ahE) (v:AV) (H':Hp):Prop:=∃ o2a:ON,∃ o2n:Nat,∃ o2c:Cap,∃ o2k:List AV,∃ o5a:ON,∃ o5n:Nat,∃ o5c:Cap,∃ o5k:List AV,∃ o8a:ON,∃ o8n:Nat,∃ o8c:Cap,∃ o8k:List AV,∃ o11a:ON,∃ o11n:Nat,∃ o11c:Cap,∃ o11k:List AV,∃ o14a:ON,∃ o14n:Nat,∃ o14c:Cap,∃ o14k:List AV,∃ ob0:Nat,v=(.ptr ob0 0)/\o2n=(r.2.2.1).length/\o5n=(r.2.2.2.2.2.1).length/\o8n=(r.2.2.2.2.2.2.2.2.1).length/\o11n=(r.2.2.2.2.2.2.2.2.2.2.2.1).length/\o14n=(r.2.2.2.2.2.2.2.2.2.2.2.2.2.2.1).length/\Out H0 Ri H' (Rs.own ⟨o2a,o2n,o2c⟩ eI.z o2k::Rs.own ⟨o5a,o5n,o5c⟩ eI.z o5k::Rs.own ⟨o8a,o8n,o8c⟩ eI.z o8k::Rs.own ⟨o11a,o11n,o11c⟩ eI.z o11k::Rs.own ⟨o14a,o14n,o14c⟩ eI.z o14k::Rs.blk ob0 [.i r.1,.i r.2.1,.sl ⟨o2a,o2n,o2c⟩,.i r.2.2.2.1,.i r.2.2.2.2.1,.sl ⟨o5a,o5n,o5c⟩,.i r.2.2.2.2.2.2.1,.i r.2.2.2.2.2.2.2.1,.sl ⟨o8a,o8n,o8c⟩,.i r.2.2.2.2.2.2.2.2.2.1,.i r.2.2.2.2.2.2.2.2.2.2.1,.sl ⟨o11a,o11n,o11c⟩,.i r.2.2.2.2.2.2.2.2.2.2.2.2.1,.i r.2.2.2.2.2.2.2.2.2.2.2.2.2.1,.sl ⟨o14a,o14n,o14c⟩,.bool r.2.2.2.2.2.2.2.2.2.2.2.2.2.2.2]::R0) λR=>CR eI H' R o2k (r.2.2.1)/\CR eI H' R o5k (r.2.2.2.2.2.1)/\CR eI H' R o8k (r.2.2.2.2.2.2.2.2.1)/\CR eI H' R o11k (r.2.2.2.2.2.2.2.2.2.2.2.1)/\CR eI H' R o14k (r.2.2.2.2.2.2.2.2.2.2.2.2.2.2.1)
def bf.S29 (H0:Hp) (Ri R0:agX)  (C:ahk) (pC:ahw):Prop:=∀ {se sf vK vL vM vN vO vP vQ vR vS vT nJ Et Eu Ev Ew Ex Ey AB pw AC AD AF AG AH qc Ez EA EB EC ED EE EF sg si sj sk sm EG EH EI EJ EK vU},∀ {H:Hp},AB=EF.length->AC=sg.length->AD=si.length->AF=sj.length->AG=sk.length->AH=sm.length->(Out H0 Ri H (Rs.blk pw [.i se,.i sf,.sl ⟨Et,AB,Ez⟩]::Rs.own ⟨Eu,AC,EA⟩ eI.z EG::Rs.own ⟨Ev,AD,EB⟩ eI.z EH::Rs.own ⟨Ew,AF,EC⟩ eI.z EI::Rs.own ⟨Ex,AG,ED⟩ eI.z EJ::Rs.own ⟨Ey,AH,EE⟩ eI.z EK::Rs.blk qc [.i vK,.i vL,.sl ⟨Eu,AC,EA⟩,.i vM,.i vN,.sl ⟨Ev,AD,EB⟩,.i vO,.i vP,.sl ⟨Ew,AF,EC⟩,.i vQ,.i vR,.sl ⟨Ex,AG,ED⟩,.i vS,.i vT,.sl ⟨Ey,AH,EE⟩,.bool vU]::R0) λR=>ROs eI H R ⟨Et,AB,Ez⟩ EF/\CR eI H R EG sg/\CR eI H R EH si/\CR eI H R EI sj/\CR eI H R EJ sk/\CR eI H R EK sm)->∀ {r:ahE},pC se sf vK vL sg vM vN si vO vP sj vQ vR sk vS vT sm vU nJ=some r->Rt (C pw 0 qc 0 nJ H) (bf.Q H0 Ri R0  r)
def bf.S938 (H0:Hp) (Ri R0:agX)  (C:Nat->Nat->Nat->Nat->Int->Bool->Bool->Hp->OA) (pC:Int->Int->Int->Int->List Int->Int->Int->List Int->Int->Int->List Int->Int->Int->List Int->Int->Int->List Int->Bool->Int->Bool->Bool->Option (Int×Int×List Int×Int×Int×List Int×Int×Int×List Int×Int×Int×List Int×Int×Int×List Int×Bool)):Prop:=∀ {sp sq qy qz su qA qB qC qD qE sv qF lD EL EM EN EO EP EQ AI pu AJ AK AL AM AN nH ER ES ET EU EV EW EY qG qH qI qJ qK EZ E_ Fa Fb Fc qL pv nI},∀ {H:Hp},AI=EY.length->AJ=qG.length->AK=qH.length->AL=qI.length->AM=qJ.length->AN=qK.length->(Out H0 Ri H (Rs.blk pu [.i sp,.i sq,.sl ⟨EL,AI,ER⟩]::Rs.own ⟨EM,AJ,ES⟩ eI.z EZ::Rs.own ⟨EN,AK,ET⟩ eI.z E_::Rs.own ⟨EO,AL,EU⟩ eI.z Fa::Rs.own ⟨EP,AM,EV⟩ eI.z Fb::Rs.own ⟨EQ,AN,EW⟩ eI.z Fc::Rs.blk nH [.i qy,.i qz,.sl ⟨EM,AJ,ES⟩,.i su,.i qA,.sl ⟨EN,AK,ET⟩,.i qB,.i qC,.sl ⟨EO,AL,EU⟩,.i qD,.i qE,.sl ⟨EP,AM,EV⟩,.i sv,.i qF,.sl ⟨EQ,AN,EW⟩,.bool qL]::R0) λR=>ROs eI H R ⟨EL,AI,ER⟩ EY/\CR eI H R EZ qG/\CR eI H R E_ qH/\CR eI H R Fa qI/\CR eI H R Fb qJ/\CR eI H R Fc qK)->∀ {r:ahE},pC sp sq qy qz qG su qA qH qB qC qI qD qE qJ sv qF qK qL lD pv nI=some r->Rt (C pu 0 nH 0 lD pv nI H) (bf.Q H0 Ri R0  r)
def bf.pj3 (F:Nat) (dE:ahw) (AO:Int) (AP:Int) (AQ:Int) (AR:Int) (xD:agV) (AS:Int) (AT:Int) (xE:agV) (AU:Int) (AW:Int) (xF:agV) (AX:Int) (AY:Int) (xG:agV) (AZ:Int) (A_:Int) (xH:agV) (Ba:Bool) (uc:Int):Option (Int×Int×List Int×Int×Int×List Int×Int×Int×List Int×Int×Int×List Int×Int×Int×List Int×Bool):=dE AO AP AQ AR xD AS AT xE AU AW xF AX AY xG AZ A_ xH Ba (wrap .i64 (uc+1))
theorem bf.j3_P  {C29_:ahk} {dE:ahw} (hC29:bf.S29 H0 Ri R0  C29_ dE) {AO AP AQ AR AS AT AU AW AX AY AZ A_ uc Mp Mq Mr Ms Mt Mu Fe yU Ff Fg Fh Fi Fj yV Mv Mw Mx My Mz MA MB xD xE xF xG xH MC MD ME MF MG Ba} (Yl:Fe=MB.length) (Ym:Ff=xD.length) (Yn:Fg=xE.length) (Yo:Fh=xF.length) (Yp:Fi=xG.length) (Yq:Fj=xH.length) (h0:Out H0 Ri H (Rs.blk yU [.i AO,.i AP,.sl ⟨Mp,Fe,Mv⟩]::Rs.own ⟨Mq,Ff,Mw⟩ eI.z MC::Rs.own ⟨Mr,Fg,Mx⟩ eI.z MD::Rs.own ⟨Ms,Fh,My⟩ eI.z ME::Rs.own ⟨Mt,Fi,Mz⟩ eI.z MF::Rs.own ⟨Mu,Fj,MA⟩ eI.z MG::Rs.blk yV [.i AQ,.i AR,.sl ⟨Mq,Ff,Mw⟩,.i AS,.i AT,.sl ⟨Mr,Fg,Mx⟩,.i AU,.i AW,.sl ⟨Ms,Fh,My⟩,.i AX,.i AY,.sl ⟨Mt,Fi,Mz⟩,.i AZ,.i A_,.sl ⟨Mu,Fj,MA⟩,.bool Ba]::R0) λR=>ROs eI H R ⟨Mp,Fe,Mv⟩ MB/\CR eI H R MC xD/\CR eI H R MD xE/\CR eI H R ME xF/\CR eI H R MF xG/\CR eI H R MG xH) {r:ahE} (hp:bf.pj3 F dE AO AP AQ AR xD AS AT xE AU AW xF AX AY xG AZ A_ xH Ba uc=some r):Rt (bf.j3 F (dt.tw F) (bl.tw F) C29_ yU 0 yV 0 uc H) (bf.Q H0 Ri R0  r):=by
 obtain ⟨w0,s0,Yr,Ys,Yt,Yu,Yv,Yw⟩:=h0
 subst Yl
 subst Ym
 subst Yn
 subst Yo
 subst Yp
 subst Yq
 unfold bf.pj3 at hp
 unfold bf.j3
 exact hC29 rfl rfl rfl rfl rfl rfl ⟨w0,s0,Yr,Ys,Yt,Yu,Yv,Yw⟩ hp
def bf.pj4 (F:Nat) (dE:ahw) (Bb:Int) (Bc:Int) (vV:Int) (vW:Int) (sx:agV) (vX:Int) (vY:Int) (sy:agV) (vZ:Int) (v_:Int) (sA:agV) (wa:Int) (wb:Int) (sB:agV) (wc:Int) (wg:Int) (sC:agV) (sD:Bool) (qb:Int) (ud:Bool):Option (Int×Int×List Int×Int×Int×List Int×Int×Int×List Int×Int×Int×List Int×Int×Int×List Int×Bool):=(bif ud then (some (vV,vW,sx,vX,vY,sy,vZ,v_,sA,wa,wb,sB,wc,wg,sC,sD)) else ((bif sD then (some (vV,vW,sx,vX,vY,sy,vZ,v_,sA,wa,wb,sB,wc,wg,sC,sD)) else (bf.pj3 F dE Bb Bc vV vW sx vX vY sy vZ v_ sA wa wb sB wc wg sC sD qb))))
theorem bf.j4_P  {C29_:ahk} {dE:ahw} (hC29:bf.S29 H0 Ri R0  C29_ dE) {Bb Bc vV vW vX vY vZ v_ wa wb wc wg qb MH MI MJ MK ML MM Fk yW Fl Fm Fo Fp Fq rz MN MO MP MQ MR MS MT sx sy sA sB sC MU MV MW MX MY sD ud} (Yx:Fk=MT.length) (Yy:Fl=sx.length) (Yz:Fm=sy.length) (YA:Fo=sA.length) (YB:Fp=sB.length) (YC:Fq=sC.length) (h0:Out H0 Ri H (Rs.blk yW [.i Bb,.i Bc,.sl ⟨MH,Fk,MN⟩]::Rs.own ⟨MI,Fl,MO⟩ eI.z MU::Rs.own ⟨MJ,Fm,MP⟩ eI.z MV::Rs.own ⟨MK,Fo,MQ⟩ eI.z MW::Rs.own ⟨ML,Fp,MR⟩ eI.z MX::Rs.own ⟨MM,Fq,MS⟩ eI.z MY::Rs.blk rz [.i vV,.i vW,.sl ⟨MI,Fl,MO⟩,.i vX,.i vY,.sl ⟨MJ,Fm,MP⟩,.i vZ,.i v_,.sl ⟨MK,Fo,MQ⟩,.i wa,.i wb,.sl ⟨ML,Fp,MR⟩,.i wc,.i wg,.sl ⟨MM,Fq,MS⟩,.bool sD]::R0) λR=>ROs eI H R ⟨MH,Fk,MN⟩ MT/\CR eI H R MU sx/\CR eI H R MV sy/\CR eI H R MW sA/\CR eI H R MX sB/\CR eI H R MY sC) {r:ahE} (hp:bf.pj4 F dE Bb Bc vV vW sx vX vY sy vZ v_ sA wa wb sB wc wg sC sD qb ud=some r):Rt (bf.j4 F (dt.tw F) (bl.tw F) C29_ yW 0 rz 0 qb ud H) (bf.Q H0 Ri R0  r):=by
 obtain ⟨w0,s0,YD,Fs,Ft,Fu,Fv,Fw⟩:=h0
 subst Yx
 subst Yy
 subst Yz
 subst YA
 subst YB
 subst YC
 unfold bf.pj4 at hp
 unfold bf.j4
 refine aX hp (λhp=>?_) λhp=>?_
 ·obtain ⟨w1,s1⟩:=w0.pp [1,2,3,4,5,6] 7
  exact aW hp ⟨_,_,_,_,_,_,_,_,_,_,_,_,_,_,_,_,_,_,_,_,_,rfl,rfl,rfl,rfl,rfl,rfl,w1,(s0.trans s1),(Fs.step s1),(Ft.step s1),(Fu.step s1),(Fv.step s1),(Fw.step s1)⟩
 ·refine lB w0 6 ?_
  refine aX hp (λhp=>?_) λhp=>?_
  ·obtain ⟨w2,s2⟩:=w0.pp [1,2,3,4,5,6] 7
   exact aW hp ⟨_,_,_,_,_,_,_,_,_,_,_,_,_,_,_,_,_,_,_,_,_,rfl,rfl,rfl,rfl,rfl,rfl,w2,(s0.trans s2),(Fs.step s2),(Ft.step s2),(Fu.step s2),(Fv.step s2),(Fw.step s2)⟩
  ·exact bf.j3_P (@hC29) rfl rfl rfl rfl rfl rfl ⟨w0,s0,YD,Fs,Ft,Fu,Fv,Fw⟩ hp
def bf.pl938 (F:Nat) (dE:ahw):Nat->Int->Int->Int->Int->List Int->Int->Int->List Int->Int->Int->List Int->Int->Int->List Int->Int->Int->List Int->Bool->Int->Bool->Bool->Option (Int×Int×List Int×Int×Int×List Int×Int×Int×List Int×Int×Int×List Int×Int×Int×List Int×Bool)
 | 0,_,_,_,_,_,_,_,_,_,_,_,_,_,_,_,_,_,_,_,_,_=>none
 | k+1,sp,sq,qy,qz,qG,su,qA,qH,qB,qC,qI,qD,qE,qJ,sv,qF,qK,qL,lD,pv,nI=>(bif (!pv) then ((bif (!qL) then ((bl.p F qy qz qG qA qH qB qC qI qD qE qJ qF qK qL lD).bind λr2=>bf.pl938 F dE k sp sq qy qz r2.2.2.1 su qA r2.2.2.2.1 qB qC r2.2.2.2.2.1 qD qE r2.2.2.2.2.2.1 sv qF r2.2.2.2.2.2.2.1 r2.2.2.2.2.2.2.2 lD r2.1 r2.2.1) else (bf.pj4 F dE sp sq qy qz qG su qA qH qB qC qI qD qE qJ sv qF qK qL lD nI))) else (bf.pj4 F dE sp sq qy qz qG su qA qH qB qC qI qD qE qJ sv qF qK qL lD nI))
theorem bf.l938_P  {C29_:ahk} {dE:ahw} (hC29:bf.S29 H0 Ri R0  C29_ dE):∀ k,bf.S938 H0 Ri R0  (bf.l938 F (dt.tw F) (bl.tw F) C29_ k) (bf.pl938 F dE k):=by
 intro k
 induction k with
 | zero=>unfold bf.S938;intros;rename_i hp;cases hp
 | succ k ih=>
  intro sp sq qy qz su qA qB qC qD qE sv qF lD EL EM EN EO EP EQ AI pu AJ AK AL AM AN nH ER ES ET EU EV EW EY qG qH qI qJ qK EZ E_ Fa Fb Fc qL pv nI H YE YF YG YH YI YJ h0 r hp
  obtain ⟨w0,s0,Fx,Fy,Fz,FA,FB,FC⟩:=h0
  subst YE
  subst YF
  subst YG
  subst YH
  subst YI
  subst YJ
  unfold bf.pl938 at hp
  unfold bf.l938
  refine aX hp (λhp=>?_) λhp=>?_
  ·refine lB w0 6 ?_
   refine aX hp (λhp=>?_) λhp=>?_
   ·obtain ⟨w1,s1⟩:=w0.pp [1,2,3,4,5,6,0] 7
    obtain ⟨r2,e2,hp⟩:=ag hp
    refine aP (bl.P rfl rfl rfl rfl rfl ⟨w1,(Fy.step s1),(Fz.step s1),(FA.step s1),(FB.step s1),(FC.step s1)⟩ e2) ?_
    rintro _ H3 ⟨aga,agb,agc,agd,age,rfl,hl3_0,hl3_1,hl3_2,hl3_3,hl3_4,w3,s3,f3_0,f3_1,f3_2,f3_3,f3_4⟩
    refine br (br (br (br (br ?_))))
    obtain ⟨w4,s4⟩:=w3.pp [6,0,1,2,3,4,5] 7
    exact ih rfl hl3_0 hl3_1 hl3_2 hl3_3 hl3_4 ⟨w4,(s0.trans (s1.trans (s3.trans s4))),(Fx.step (s1.trans (s3.trans s4))),(f3_0.step s4),(f3_1.step s4),(f3_2.step s4),(f3_3.step s4),(f3_4.step s4)⟩ hp
   ·exact bf.j4_P (@hC29) rfl rfl rfl rfl rfl rfl ⟨w0,s0,Fx,Fy,Fz,FA,FB,FC⟩ hp
  ·exact bf.j4_P (@hC29) rfl rfl rfl rfl rfl rfl ⟨w0,s0,Fx,Fy,Fz,FA,FB,FC⟩ hp
def bf.pl29 (F:Nat) :Nat->Int->Int->Int->Int->List Int->Int->Int->List Int->Int->Int->List Int->Int->Int->List Int->Int->Int->List Int->Bool->Int->Option (Int×Int×List Int×Int×Int×List Int×Int×Int×List Int×Int×Int×List Int×Int×Int×List Int×Bool)
 | 0,_,_,_,_,_,_,_,_,_,_,_,_,_,_,_,_,_,_,_=>none
 | k+1,se,sf,vK,vL,sg,vM,vN,si,vO,vP,sj,vQ,vR,sk,vS,vT,sm,vU,nJ=>(bif (decide (nJ<(if sf<se then sf else se))) then (bf.pl938 F (bf.pl29 F k) F se sf vK vL sg vM vN si vO vP sj vQ vR sk vS vT sm vU nJ false false) else (some (vK,vL,sg,vM,vN,si,vO,vP,sj,vQ,vR,sk,vS,vT,sm,vU)))
theorem bf.l29_P  :∀ k,bf.S29 H0 Ri R0  (bf.l29 F (dt.tw F) (bl.tw F)  k) (bf.pl29 F  k):=by
 intro k
 induction k with
 | zero=>unfold bf.S29;intros;rename_i hp;cases hp
 | succ k ih=>
  intro se sf vK vL vM vN vO vP vQ vR vS vT nJ Et Eu Ev Ew Ex Ey AB pw AC AD AF AG AH qc Ez EA EB EC ED EE EF sg si sj sk sm EG EH EI EJ EK vU H YK YL YM YN YO YP h0 r hp
  obtain ⟨w0,s0,YQ,MZ,M_,Na,Nb,Nc⟩:=h0
  subst YK
  subst YL
  subst YM
  subst YN
  subst YO
  subst YP
  unfold bf.pl29 at hp
  unfold bf.l29
  refine lI w0 0 ?_
  refine lI w0 0 ?_
  refine aX hp (λhp=>?_) λhp=>?_
  ·exact bf.l938_P (@ih) F rfl rfl rfl rfl rfl rfl ⟨w0,s0,YQ,MZ,M_,Na,Nb,Nc⟩ hp
  ·obtain ⟨w1,s1⟩:=w0.pp [1,2,3,4,5,6] 7
   exact aW hp ⟨_,_,_,_,_,_,_,_,_,_,_,_,_,_,_,_,_,_,_,_,_,rfl,rfl,rfl,rfl,rfl,rfl,w1,(s0.trans s1),(MZ.step s1),(M_.step s1),(Na.step s1),(Nb.step s1),(Nc.step s1)⟩
def bf.p (F:Nat) (aa:Int) (ac:Int) (bT:agV):Option (Int×Int×List Int×Int×Int×List Int×Int×Int×List Int×Int×Int×List Int×Int×Int×List Int×Bool):=(apn ([]:List Int) bT).bind λl4=>(dt.p F aa).bind λr7=>(dt.p F aa).bind λr10=>(dt.p F ac).bind λr13=>(dt.p F ac).bind λr16=>bf.pl29 F F aa ac aa ac l4 r7.1 r7.2.1 r7.2.2 r10.1 r10.2.1 r10.2.2 r13.1 r13.2.1 r13.2.2 r16.1 r16.2.1 r16.2.2 false 0
theorem bf.P {aa ac dH cK dI bT} (gE:cK=bT.length) (h0:Inn H R0 λR=>ROs eI H R ⟨dH,cK,dI⟩ bT) {r:ahE} (hp:bf.p F aa ac bT=some r):Rt (bf.tw F aa ac ⟨dH,cK,dI⟩ H) (bf.Q H R0 R0  r):=by
 obtain ⟨w0,fU⟩:=h0
 subst gE
 unfold bf.p at hp
 unfold bf.tw bf.twX
 have s0:=w0.rf
 refine cF w0 λH1 w1 s1=>?_
 refine lI w1 0 ?_
 refine lI w1 0 ?_
 refine wY eI w1 (n:=0) (l:=([]:List Int)) rfl CR.empty rfl λH2 w2 s2 c2=>?_
 refine lSl w2 1 ?_
 obtain ⟨x3,h3,c3⟩:=(fU.step (s1.trans s2)).row rfl
 refine bu h3 ?_
 obtain ⟨l4,e4,hp⟩:=ag hp
 refine DD eI w2 (i:=0) rfl rfl c2 c3 rfl rfl e4 λa5 d5 H5 w5 s5 c5 x5=>?_
 refine fQ (x5 ⟨_,rfl⟩) ?_
 refine lI w5 1 ?_
 obtain ⟨r7,e7,hp⟩:=ag hp
 refine aP (dt.P ⟨w5,trivial⟩ e7) ?_
 rintro _ H8 ⟨o2a_8,o2n_8,o2c_8,o2k_8,rfl,rfl,w8,s8,f8_0⟩
 refine br (br (br (br (br (br (br ?_))))))
 refine fQ (W.cons_of (Rn:=[_]) w5 w8 s8) ?_
 refine lI w8 2 ?_
 obtain ⟨r10,e10,hp⟩:=ag hp
 refine aP (dt.P ⟨w8,trivial⟩ e10) ?_
 rintro _ H11 ⟨o2a_11,o2n_11,o2c_11,o2k_11,rfl,rfl,w11,s11,f11_0⟩
 refine br (br (br (br (br (br (br ?_))))))
 refine fQ (W.cons_of (Rn:=[_]) w8 w11 s11) ?_
 refine lI w11 3 ?_
 obtain ⟨r13,e13,hp⟩:=ag hp
 refine aP (dt.P ⟨w11,trivial⟩ e13) ?_
 rintro _ H14 ⟨o2a_14,o2n_14,o2c_14,o2k_14,rfl,rfl,w14,s14,f14_0⟩
 refine br (br (br (br (br (br (br ?_))))))
 refine fQ (W.cons_of (Rn:=[_]) w11 w14 s14) ?_
 refine lI w14 4 ?_
 obtain ⟨r16,e16,hp⟩:=ag hp
 refine aP (dt.P ⟨w14,trivial⟩ e16) ?_
 rintro _ H17 ⟨o2a_17,o2n_17,o2c_17,o2k_17,rfl,rfl,w17,s17,f17_0⟩
 refine br (br (br (br (br (br (br ?_))))))
 refine fQ (W.cons_of (Rn:=[_]) w14 w17 s17) ?_
 refine cF w17 λH19 w19 s19=>?_
 obtain ⟨w20,s20⟩:=w19.pp [6,5,4,3,2,1,0] 7
 exact bf.l29_P F rfl rfl rfl rfl rfl rfl ⟨w20,(s0.trans (s1.trans (s2.trans (s5.trans (s8.trans (s11.trans (s14.trans (s17.trans (s19.trans s20))))))))),(fU.step (s1.trans (s2.trans (s5.trans (s8.trans (s11.trans (s14.trans (s17.trans (s19.trans s20))))))))),(c5.step (s8.trans (s11.trans (s14.trans (s17.trans (s19.trans s20)))))),(f8_0.step (s11.trans (s14.trans (s17.trans (s19.trans s20))))),(f11_0.step (s14.trans (s17.trans (s19.trans s20)))),(f14_0.step (s17.trans (s19.trans s20))),(f17_0.step (s19.trans s20))⟩ hp
def aB.Q (H0:Hp) (Ri R0:agX)  (r:ahg) (v:AV) (H':Hp):Prop:=∃ o2a:ON,∃ o2n:Nat,∃ o2c:Cap,∃ o2k:List AV,∃ o5a:ON,∃ o5n:Nat,∃ o5c:Cap,∃ o5k:List AV,v=(.tup [(.agg [(.i r.1),(.i r.2.1),(.sl ⟨o2a,o2n,o2c⟩)]),(.agg [(.i r.2.2.2.1),(.i r.2.2.2.2.1),(.sl ⟨o5a,o5n,o5c⟩)])])/\o2n=(r.2.2.1).length/\o5n=(r.2.2.2.2.2).length/\Out H0 Ri H' (Rs.own ⟨o2a,o2n,o2c⟩ eI.z o2k::Rs.own ⟨o5a,o5n,o5c⟩ eI.z o5k::R0) λR=>CR eI H' R o2k (r.2.2.1)/\CR eI H' R o5k (r.2.2.2.2.2)
def aB.S510 (H0:Hp) (Ri R0:agX)  (C:Nat->Nat->Nat->Nat->Nat->Nat->Int->Nat->Nat->Nat->Nat->Int->Hp->OA) (pC:List Int->Int->Int->Int->Int->Int->List Int->Int->List Int->Int->List Int->Int->Option (Int×Int×List Int×Int×Int×List Int)):Prop:=∀ {Nd Nf Ng Nh sE sF kR pQ sG Ni wh Nj Nk Nl Nm Nn sH No Np kg FD FE FF FG FH FI FJ FK FL Be mU Bf mw Bg kf Bh oZ Bi Bj Bk Bl Bm nq FM FN FO FP FQ FR FS FT FU FW FX qM qN sI FY FZ qO F_ Ga Gb Gc Gd Ge Gf Gg Gh Nq},∀ {H:Hp},Be=FW.length->Bf=FX.length->Bg=qM.length->Bh=qN.length->Bi=sI.length->Bj=FY.length->Bk=FZ.length->Bl=qO.length->Bm=F_.length->(Out H0 Ri H (Rs.own ⟨FD,Be,FM⟩ eI.z Ga::Rs.blk mU [.i Nd,.i Nf,.sl ⟨FD,Be,FM⟩]::Rs.own ⟨FE,Bf,FN⟩ eI.z Gb::Rs.blk mw [.i Ng,.i Nh,.sl ⟨FE,Bf,FN⟩]::Rs.blk kf [.sl ⟨FF,Bg,FO⟩,.i sE,.i sF]::Rs.own ⟨FG,Bh,FP⟩ eI.z Gc::Rs.blk oZ [.i pQ,.i sG,.sl ⟨FG,Bh,FP⟩]::Rs.own ⟨FH,Bi,FQ⟩ eI.z Gd::Rs.own ⟨FI,Bj,FR⟩ eI.z Ge::Rs.own ⟨FJ,Bk,FS⟩ eI.z Gf::Rs.own ⟨FK,Bl,FT⟩ eI.z Gg::Rs.own ⟨FL,Bm,FU⟩ eI.z Gh::Rs.blk nq [.i Ni,.i wh,.sl ⟨FH,Bi,FQ⟩,.i Nj,.i Nk,.sl ⟨FI,Bj,FR⟩,.i Nl,.i Nm,.sl ⟨FJ,Bk,FS⟩,.i Nn,.i sH,.sl ⟨FK,Bl,FT⟩,.i No,.i Np,.sl ⟨FL,Bm,FU⟩,.bool Nq]::R0) λR=>CR eI H R Ga FW/\CR eI H R Gb FX/\ROs (gI .u8) H R ⟨FF,Bg,FO⟩ qM/\CR eI H R Gc qN/\CR eI H R Gd sI/\CR eI H R Ge FY/\CR eI H R Gf FZ/\CR eI H R Gg qO/\CR eI H R Gh F_)->∀ {r:ahg},pC qM sE sF kR pQ sG qN wh sI sH qO kg=some r->Rt (C mU 0 mw 0 kf 0 kR oZ 0 nq 0 kg H) (aB.Q H0 Ri R0  r)
def aB.S8189 (H0:Hp) (Ri R0:agX)  (C:ahh) (pC:ahj):Prop:=∀ {Nr Ns Nt Nu xI xJ pF wi wj Nv Nw Nx Ny Nz NA NB xK NC ND nR nS wk wl nT Gi Gj Gk Gl Gm Gn Gp Gq Gr Gs Bn qm Bo qn Bp rE Bq qo Br Bs Bt Bu Bv rF Bw qp Gt Gu Gv Gw Gx Gy Gz GA GB GC GD GE wo sJ GF GG GH wq GI sK GJ GK GL GM GN GO GP GQ GR NE},∀ {H:Hp},Bn=GD.length->Bo=GE.length->Bp=wo.length->Bq=sJ.length->Br=GF.length->Bs=GG.length->Bt=GH.length->Bu=wq.length->Bv=GI.length->Bw=sK.length->(Out H0 Ri H (Rs.own ⟨Gi,Bn,Gt⟩ eI.z GJ::Rs.blk qm [.i Nr,.i Ns,.sl ⟨Gi,Bn,Gt⟩]::Rs.own ⟨Gj,Bo,Gu⟩ eI.z GK::Rs.blk qn [.i Nt,.i Nu,.sl ⟨Gj,Bo,Gu⟩]::Rs.blk rE [.sl ⟨Gk,Bp,Gv⟩,.i xI,.i xJ]::Rs.own ⟨Gl,Bq,Gw⟩ eI.z GL::Rs.blk qo [.i wi,.i wj,.sl ⟨Gl,Bq,Gw⟩]::Rs.own ⟨Gm,Br,Gx⟩ eI.z GM::Rs.own ⟨Gn,Bs,Gy⟩ eI.z GN::Rs.own ⟨Gp,Bt,Gz⟩ eI.z GO::Rs.own ⟨Gq,Bu,GA⟩ eI.z GP::Rs.own ⟨Gr,Bv,GB⟩ eI.z GQ::Rs.blk rF [.i Nv,.i Nw,.sl ⟨Gm,Br,Gx⟩,.i Nx,.i Ny,.sl ⟨Gn,Bs,Gy⟩,.i Nz,.i NA,.sl ⟨Gp,Bt,Gz⟩,.i NB,.i xK,.sl ⟨Gq,Bu,GA⟩,.i NC,.i ND,.sl ⟨Gr,Bv,GB⟩,.bool NE]::Rs.own ⟨Gs,Bw,GC⟩ eI.z GR::Rs.blk qp [.i wk,.i wl,.sl ⟨Gs,Bw,GC⟩]::R0) λR=>CR eI H R GJ GD/\CR eI H R GK GE/\ROs (gI .u8) H R ⟨Gk,Bp,Gv⟩ wo/\CR eI H R GL sJ/\CR eI H R GM GF/\CR eI H R GN GG/\CR eI H R GO GH/\CR eI H R GP wq/\CR eI H R GQ GI/\CR eI H R GR sK)->∀ {r:ahg},pC wo xI xJ pF wi wj sJ xK wq nR nS wk wl sK nT=some r->Rt (C qm 0 qn 0 rE 0 pF qo 0 rF 0 nR nS qp 0 nT H) (aB.Q H0 Ri R0  r)
def aB.S131029 (H0:Hp) (Ri R0:agX)  (C:ahp) (pC:ahx):Prop:=∀ {NF NG NH NI wt wu mT wv ww NJ NK NL NM NN NO NP wx NQ NR nN nO wy wz nP nQ GS GT GU GV GW GX GY GZ G_ Ha Bx qh By qi Bz pE BA qj BB BC BD BE BF qk BG ql Hb Hc Hd He Hf Hg Hh Hj Hk Hl Hm Hn qP sL Ho Hq Hr sM Hs sN Ht Hu Hv Hw Hy Hz HA HB HC NS},∀ {H:Hp},Bx=Hm.length->By=Hn.length->Bz=qP.length->BA=sL.length->BB=Ho.length->BC=Hq.length->BD=Hr.length->BE=sM.length->BF=Hs.length->BG=sN.length->(Out H0 Ri H (Rs.own ⟨GS,Bx,Hb⟩ eI.z Ht::Rs.blk qh [.i NF,.i NG,.sl ⟨GS,Bx,Hb⟩]::Rs.own ⟨GT,By,Hc⟩ eI.z Hu::Rs.blk qi [.i NH,.i NI,.sl ⟨GT,By,Hc⟩]::Rs.blk pE [.sl ⟨GU,Bz,Hd⟩,.i wt,.i wu]::Rs.own ⟨GV,BA,He⟩ eI.z Hv::Rs.blk qj [.i wv,.i ww,.sl ⟨GV,BA,He⟩]::Rs.own ⟨GW,BB,Hf⟩ eI.z Hw::Rs.own ⟨GX,BC,Hg⟩ eI.z Hy::Rs.own ⟨GY,BD,Hh⟩ eI.z Hz::Rs.own ⟨GZ,BE,Hj⟩ eI.z HA::Rs.own ⟨G_,BF,Hk⟩ eI.z HB::Rs.blk qk [.i NJ,.i NK,.sl ⟨GW,BB,Hf⟩,.i NL,.i NM,.sl ⟨GX,BC,Hg⟩,.i NN,.i NO,.sl ⟨GY,BD,Hh⟩,.i NP,.i wx,.sl ⟨GZ,BE,Hj⟩,.i NQ,.i NR,.sl ⟨G_,BF,Hk⟩,.bool NS]::Rs.own ⟨Ha,BG,Hl⟩ eI.z HC::Rs.blk ql [.i wy,.i wz,.sl ⟨Ha,BG,Hl⟩]::R0) λR=>CR eI H R Ht Hm/\CR eI H R Hu Hn/\ROs (gI .u8) H R ⟨GU,Bz,Hd⟩ qP/\CR eI H R Hv sL/\CR eI H R Hw Ho/\CR eI H R Hy Hq/\CR eI H R Hz Hr/\CR eI H R HA sM/\CR eI H R HB Hs/\CR eI H R HC sN)->∀ {r:ahg},pC qP wt wu mT wv ww sL wx sM nN nO wy wz sN nP nQ=some r->Rt (C qh 0 qi 0 pE 0 mT qj 0 qk 0 nN nO ql 0 nP nQ H) (aB.Q H0 Ri R0  r)
def aB.S4192939 (H0:Hp) (Ri R0:agX)  (C:Nat->Nat->Nat->Nat->Nat->Nat->Int->Nat->Nat->Nat->Nat->Int->Int->Nat->Nat->Int->Int->Int->Int->Hp->OA) (pC:List Int->Int->Int->Int->Int->Int->List Int->Int->List Int->Int->Int->Int->Int->List Int->Int->Int->Int->Int->Option (Int×Int×List Int×Int×Int×List Int)):Prop:=∀ {NT NU NV NW wA wB mR wC wD NX NY NZ N_ Oa Ob Oc sR Od Oe nL lE wE wF lF mS nM kQ HD HE HF HG HI HJ HK HL HM HN BH qd BI qe BJ qf BK qg BL BM BN BO BP nK BQ mv HO HP HQ HR HS HT HU HW HX HY HZ H_ sS sT Ia Ib Ic qQ Ie pf If Ig Ih Ii Ij Ik Il Im Io Of},∀ {H:Hp},BH=HZ.length->BI=H_.length->BJ=sS.length->BK=sT.length->BL=Ia.length->BM=Ib.length->BN=Ic.length->BO=qQ.length->BP=Ie.length->BQ=pf.length->(Out H0 Ri H (Rs.own ⟨HD,BH,HO⟩ eI.z If::Rs.blk qd [.i NT,.i NU,.sl ⟨HD,BH,HO⟩]::Rs.own ⟨HE,BI,HP⟩ eI.z Ig::Rs.blk qe [.i NV,.i NW,.sl ⟨HE,BI,HP⟩]::Rs.blk qf [.sl ⟨HF,BJ,HQ⟩,.i wA,.i wB]::Rs.own ⟨HG,BK,HR⟩ eI.z Ih::Rs.blk qg [.i wC,.i wD,.sl ⟨HG,BK,HR⟩]::Rs.own ⟨HI,BL,HS⟩ eI.z Ii::Rs.own ⟨HJ,BM,HT⟩ eI.z Ij::Rs.own ⟨HK,BN,HU⟩ eI.z Ik::Rs.own ⟨HL,BO,HW⟩ eI.z Il::Rs.own ⟨HM,BP,HX⟩ eI.z Im::Rs.blk nK [.i NX,.i NY,.sl ⟨HI,BL,HS⟩,.i NZ,.i N_,.sl ⟨HJ,BM,HT⟩,.i Oa,.i Ob,.sl ⟨HK,BN,HU⟩,.i Oc,.i sR,.sl ⟨HL,BO,HW⟩,.i Od,.i Oe,.sl ⟨HM,BP,HX⟩,.bool Of]::Rs.own ⟨HN,BQ,HY⟩ eI.z Io::Rs.blk mv [.i wE,.i wF,.sl ⟨HN,BQ,HY⟩]::R0) λR=>CR eI H R If HZ/\CR eI H R Ig H_/\ROs (gI .u8) H R ⟨HF,BJ,HQ⟩ sS/\CR eI H R Ih sT/\CR eI H R Ii Ia/\CR eI H R Ij Ib/\CR eI H R Ik Ic/\CR eI H R Il qQ/\CR eI H R Im Ie/\CR eI H R Io pf)->∀ {r:ahg},pC sS wA wB mR wC wD sT sR qQ nL lE wE wF pf lF mS nM kQ=some r->Rt (C qd 0 qe 0 qf 0 mR qg 0 nK 0 nL lE mv 0 lF mS nM kQ H) (aB.Q H0 Ri R0  r)
def aB.pj12 (F:Nat) (lY:ahx) (xL:agV) (BR:Int) (BS:Int) (uq:Int) (BT:Int) (BU:Int) (xM:agV) (BV:Int) (xN:agV) (ur:Int) (ut:Int) (BW:Int) (BX:Int) (xO:agV) (uu:Int) (uv:Int):Option (Int×Int×List Int×Int×Int×List Int):=lY xL BR BS uq BT BU xM BV xN ur ut BW BX xO uu (wrap .i64 (uv+1))
theorem aB.j12_P  {C131029_:ahp} {lY:ahx} (hC131029:aB.S131029 H0 Ri R0  C131029_ lY) {YR YS YT YU BR BS uq BT BU YV YW YX YY YZ Y_ Za BV Zb Zc ur ut BW BX uu uv Og Oh Oi Oj Ol Om Oo Oq Ot Ou Ip zm Iq zn Ir zo Is zp It Iu Iv Iw Ix zq Iy zt Ov Ox Oy Oz OB OC OD OE OF OG OH OI xL xM OJ OK OL xN OM xO OO OP OQ OR OS OU OV OW OX Zd} (Ze:Ip=OH.length) (Zf:Iq=OI.length) (Zg:Ir=xL.length) (Zh:Is=xM.length) (Zi:It=OJ.length) (Zj:Iu=OK.length) (Zk:Iv=OL.length) (Zl:Iw=xN.length) (Zm:Ix=OM.length) (Zn:Iy=xO.length) (h0:Out H0 Ri H (Rs.own ⟨Og,Ip,Ov⟩ eI.z OO::Rs.blk zm [.i YR,.i YS,.sl ⟨Og,Ip,Ov⟩]::Rs.own ⟨Oh,Iq,Ox⟩ eI.z OP::Rs.blk zn [.i YT,.i YU,.sl ⟨Oh,Iq,Ox⟩]::Rs.blk zo [.sl ⟨Oi,Ir,Oy⟩,.i BR,.i BS]::Rs.own ⟨Oj,Is,Oz⟩ eI.z OQ::Rs.blk zp [.i BT,.i BU,.sl ⟨Oj,Is,Oz⟩]::Rs.own ⟨Ol,It,OB⟩ eI.z OR::Rs.own ⟨Om,Iu,OC⟩ eI.z OS::Rs.own ⟨Oo,Iv,OD⟩ eI.z OU::Rs.own ⟨Oq,Iw,OE⟩ eI.z OV::Rs.own ⟨Ot,Ix,OF⟩ eI.z OW::Rs.blk zq [.i YV,.i YW,.sl ⟨Ol,It,OB⟩,.i YX,.i YY,.sl ⟨Om,Iu,OC⟩,.i YZ,.i Y_,.sl ⟨Oo,Iv,OD⟩,.i Za,.i BV,.sl ⟨Oq,Iw,OE⟩,.i Zb,.i Zc,.sl ⟨Ot,Ix,OF⟩,.bool Zd]::Rs.own ⟨Ou,Iy,OG⟩ eI.z OX::Rs.blk zt [.i BW,.i BX,.sl ⟨Ou,Iy,OG⟩]::R0) λR=>CR eI H R OO OH/\CR eI H R OP OI/\ROs (gI .u8) H R ⟨Oi,Ir,Oy⟩ xL/\CR eI H R OQ xM/\CR eI H R OR OJ/\CR eI H R OS OK/\CR eI H R OU OL/\CR eI H R OV xN/\CR eI H R OW OM/\CR eI H R OX xO) {r:ahg} (hp:aB.pj12 F lY xL BR BS uq BT BU xM BV xN ur ut BW BX xO uu uv=some r):Rt (aB.j12 F (dy.tw F) (bO.tw F) (cw.tw F) (fz.tw F) (bf.tw F) (bm.tw F) (eH.tw F) C131029_ zm 0 zn 0 zo 0 uq zp 0 zq 0 ur ut zt 0 uu uv H) (aB.Q H0 Ri R0  r):=by
 obtain ⟨w0,s0,Zo,Zp,Zq,Zs,Zt,Zu,Zv,Zw,Zx,Zy⟩:=h0
 subst Ze
 subst Zf
 subst Zg
 subst Zh
 subst Zi
 subst Zj
 subst Zk
 subst Zl
 subst Zm
 subst Zn
 unfold aB.pj12 at hp
 unfold aB.j12
 exact hC131029 rfl rfl rfl rfl rfl rfl rfl rfl rfl rfl ⟨w0,s0,Zo,Zp,Zq,Zs,Zt,Zu,Zv,Zw,Zx,Zy⟩ hp
def aB.pj13 (F:Nat) (lY:ahx) (xP:agV) (BY:Int) (BZ:Int) (uw:Int) (B_:Int) (Ca:Int) (xQ:agV) (Cb:Int) (xR:agV) (ux:Int) (uy:Int) (Cc:Int) (Cd:Int) (xS:agV) (uz:Int) (uA:Int):Option (Int×Int×List Int×Int×Int×List Int):=aB.pj12 F lY xP BY BZ uw B_ Ca xQ Cb xR ux uy Cc Cd xS uz uA
theorem aB.j13_P  {C131029_:ahp} {lY:ahx} (hC131029:aB.S131029 H0 Ri R0  C131029_ lY) {Zz ZA ZB ZC BY BZ uw B_ Ca ZD ZE ZF ZG ZH ZI ZJ Cb ZK ZL ux uy Cc Cd uz uA OY OZ O_ Pa Pb Pc Pd Pe Pf Pg Iz zu IA zw IB zx IC zy ID IE IF IG IH zA II zB Ph Pi Pj Pm Pn Po Pp Pq Pr Ps Pt Pu xP xQ Pv Pw Px xR Py xS Pz PA PB PC PD PE PF PG PH ZM} (ZN:Iz=Pt.length) (ZO:IA=Pu.length) (ZP:IB=xP.length) (ZQ:IC=xQ.length) (ZR:ID=Pv.length) (ZS:IE=Pw.length) (ZT:IF=Px.length) (ZU:IG=xR.length) (ZV:IH=Py.length) (ZW:II=xS.length) (h0:Out H0 Ri H (Rs.own ⟨OY,Iz,Ph⟩ eI.z Pz::Rs.blk zu [.i Zz,.i ZA,.sl ⟨OY,Iz,Ph⟩]::Rs.own ⟨OZ,IA,Pi⟩ eI.z PA::Rs.blk zw [.i ZB,.i ZC,.sl ⟨OZ,IA,Pi⟩]::Rs.blk zx [.sl ⟨O_,IB,Pj⟩,.i BY,.i BZ]::Rs.own ⟨Pa,IC,Pm⟩ eI.z PB::Rs.blk zy [.i B_,.i Ca,.sl ⟨Pa,IC,Pm⟩]::Rs.own ⟨Pb,ID,Pn⟩ eI.z PC::Rs.own ⟨Pc,IE,Po⟩ eI.z PD::Rs.own ⟨Pd,IF,Pp⟩ eI.z PE::Rs.own ⟨Pe,IG,Pq⟩ eI.z PF::Rs.own ⟨Pf,IH,Pr⟩ eI.z PG::Rs.blk zA [.i ZD,.i ZE,.sl ⟨Pb,ID,Pn⟩,.i ZF,.i ZG,.sl ⟨Pc,IE,Po⟩,.i ZH,.i ZI,.sl ⟨Pd,IF,Pp⟩,.i ZJ,.i Cb,.sl ⟨Pe,IG,Pq⟩,.i ZK,.i ZL,.sl ⟨Pf,IH,Pr⟩,.bool ZM]::Rs.own ⟨Pg,II,Ps⟩ eI.z PH::Rs.blk zB [.i Cc,.i Cd,.sl ⟨Pg,II,Ps⟩]::R0) λR=>CR eI H R Pz Pt/\CR eI H R PA Pu/\ROs (gI .u8) H R ⟨O_,IB,Pj⟩ xP/\CR eI H R PB xQ/\CR eI H R PC Pv/\CR eI H R PD Pw/\CR eI H R PE Px/\CR eI H R PF xR/\CR eI H R PG Py/\CR eI H R PH xS) {r:ahg} (hp:aB.pj13 F lY xP BY BZ uw B_ Ca xQ Cb xR ux uy Cc Cd xS uz uA=some r):Rt (aB.j13 F (dy.tw F) (bO.tw F) (cw.tw F) (fz.tw F) (bf.tw F) (bm.tw F) (eH.tw F) C131029_ zu 0 zw 0 zx 0 uw zy 0 zA 0 ux uy zB 0 uz uA H) (aB.Q H0 Ri R0  r):=by
 obtain ⟨w0,s0,ZX,ZY,ZZ,Z_,aaa,aab,aac,aad,aae,aaf⟩:=h0
 subst ZN
 subst ZO
 subst ZP
 subst ZQ
 subst ZR
 subst ZS
 subst ZT
 subst ZU
 subst ZV
 subst ZW
 unfold aB.pj13 at hp
 unfold aB.j13
 exact aB.j12_P (@hC131029) rfl rfl rfl rfl rfl rfl rfl rfl rfl rfl ⟨w0,s0,ZX,ZY,ZZ,Z_,aaa,aab,aac,aad,aae,aaf⟩ hp
def aB.pl4192939 (F:Nat) (jL:ahj) (lY:ahx):Nat->List Int->Int->Int->Int->Int->Int->List Int->Int->List Int->Int->Int->Int->Int->List Int->Int->Int->Int->Int->Option (Int×Int×List Int×Int×Int×List Int)
 | 0,_,_,_,_,_,_,_,_,_,_,_,_,_,_,_,_,_,_=>none
 | k+1,sS,wA,wB,mR,wC,wD,sT,sR,qQ,nL,lE,wE,wF,pf,lF,mS,nM,kQ=>(bif (decide (kQ<mR)) then ((ix pf (wrap .i64 ((wrap .i64 (kQ * lE))+lF))).bind λn1=>(bm.p F sR qQ kQ mS).bind λr4=>(ix pf (wrap .i64 ((wrap .i64 (kQ * lE))+lF))).bind λn7=>(some (pf.set n7 (wrap .i64 ((gt pf n1)+(wrap .i64 (nM * r4)))))).bind λl8=>aB.pl4192939 F jL lY k sS wA wB mR wC wD sT sR qQ nL lE wE wF l8 lF mS nM (wrap .i64 (kQ+1))) else (aB.pj13 F lY sS wA wB mR wC wD sT sR qQ nL lE wE wF pf lF mS))
theorem aB.l4192939_P  {C8189_:ahh} {jL:ahj} (hC8189:aB.S8189 H0 Ri R0  C8189_ jL) {C131029_:ahp} {lY:ahx} (hC131029:aB.S131029 H0 Ri R0  C131029_ lY):∀ k,aB.S4192939 H0 Ri R0  (aB.l4192939 F (dy.tw F) (bO.tw F) (cw.tw F) (fz.tw F) (bf.tw F) (bm.tw F) (eH.tw F) C8189_ C131029_ k) (aB.pl4192939 F jL lY k):=by
 intro k
 induction k with
 | zero=>unfold aB.S4192939;intros;rename_i hp;cases hp
 | succ k ih=>
  intro NT NU NV NW wA wB mR wC wD NX NY NZ N_ Oa Ob Oc sR Od Oe nL lE wE wF lF mS nM kQ HD HE HF HG HI HJ HK HL HM HN BH qd BI qe BJ qf BK qg BL BM BN BO BP nK BQ mv HO HP HQ HR HS HT HU HW HX HY HZ H_ sS sT Ia Ib Ic qQ Ie pf If Ig Ih Ii Ij Ik Il Im Io Of H aag aah aai aaj aak aal aam aan aao aap h0 r hp
  obtain ⟨w0,s0,PI,PJ,PK,PL,PM,PO,PP,IJ,PQ,wG⟩:=h0
  subst aag
  subst aah
  subst aai
  subst aaj
  subst aak
  subst aal
  subst aam
  subst aan
  subst aao
  subst aap
  unfold aB.pl4192939 at hp
  unfold aB.l4192939
  refine aX hp (λhp=>?_) λhp=>?_
  ·refine lSl w0 14 ?_
   refine lSl w0 14 ?_
   obtain ⟨n1,g1,hp⟩:=ag hp
   obtain ⟨p1,q1,i1,h1,j1⟩:=W.ixo (E:=eI) w0 (i:=13) rfl rfl wG g1
   refine bu i1 ?_
   have h1:_=[_]:=h1
   subst h1
   refine bu (dx (j1 0 _ rfl)) ?_
   refine lI w0 12 ?_
   refine lI w0 12 ?_
   refine lSl w0 12 ?_
   obtain ⟨w2,s2⟩:=w0.pp [10,0,1,2,3,4,5,6,7,8,9,11,12,13,14] 15
   have f3:=W.borrow1 eI w2 (IJ.step s2)
   obtain ⟨w3,s3⟩:=w2.right1
   obtain ⟨r4,e4,hp⟩:=ag hp
   refine aP (bm.P rfl ⟨w3,f3⟩ e4) ?_
   rintro _ H5 ⟨rfl,w5,s5,_⟩
   obtain ⟨w6,s6⟩:=W.frame1 w2 w5 s5
   refine br ?_
   obtain ⟨n7,g7,hp⟩:=ag hp
   obtain ⟨p7,q7,i7,h7,j7⟩:=W.ixo (E:=eI) w6 (i:=13) rfl rfl (wG.step (s2.trans s6)) g7
   refine bu i7 ?_
   obtain ⟨l8,e8,hp⟩:=ag hp
   refine iF eI w6 (i:=13) (j:=0) (p:=p7) rfl rfl (wG.step (s2.trans s6)) g7 i7 e8 rfl rfl (λ_ h=>by have h:_=[_]:=h;subst h;exact rfl) λH9 k9 w9 s9 c9=>?_
   obtain ⟨p10,q10,i10,h10,j10⟩:=W.ixo (E:=eI) w6 (i:=13) rfl rfl (wG.step (s2.trans s6)) g1
   obtain rfl:=Option.some.inj (i1.symm.trans i10)
   have h10:_=[_]:=h10
   subst h10
   obtain ⟨p11,q11,i11,h11,j11⟩:=W.ixo (E:=eI) w0 (i:=13) rfl rfl wG g1
   obtain rfl:=Option.some.inj (i1.symm.trans i11)
   have h11:_=[_]:=h11
   subst h11
   refine wX ⟨⟨(gJ (dx (j10 0 _ rfl)) (jP _ _)),(gJ (dx (j11 0 _ rfl)) (jP _ _)),trivial⟩,⟨(gJ (jO (w6.ld (i:=14) rfl rfl)) (jP _ _)),(gJ (jO (w0.ld (i:=14) rfl rfl)) (jP _ _)),trivial⟩,⟨(gJ (jO (w6.ld (i:=14) rfl rfl)) (jP _ _)),(gJ (jO (w0.ld (i:=14) rfl rfl)) (jP _ _)),trivial⟩,trivial⟩ ?_
   obtain ⟨w12,s12⟩:=w9.pp [1,2,3,4,5,6,7,8,9,10,0,11,12,13,14] 15
   exact ih rfl rfl rfl rfl rfl rfl rfl rfl rfl ((fJ e8).symm) ⟨w12,(s0.trans (s2.trans (s6.trans (s9.trans s12)))),(PI.step (s2.trans (s6.trans (s9.trans s12)))),(PJ.step (s2.trans (s6.trans (s9.trans s12)))),(PK.step (s2.trans (s6.trans (s9.trans s12)))),(PL.step (s2.trans (s6.trans (s9.trans s12)))),(PM.step (s2.trans (s6.trans (s9.trans s12)))),(PO.step (s2.trans (s6.trans (s9.trans s12)))),(PP.step (s2.trans (s6.trans (s9.trans s12)))),(IJ.step (s2.trans (s6.trans (s9.trans s12)))),(PQ.step (s2.trans (s6.trans (s9.trans s12)))),(c9.step s12)⟩ hp
  ·exact aB.j13_P (@hC131029) rfl rfl rfl rfl rfl rfl rfl rfl rfl rfl ⟨w0,s0,PI,PJ,PK,PL,PM,PO,PP,IJ,PQ,wG⟩ hp
def aB.pj10 (F:Nat) (jL:ahj) (xT:agV) (Ce:Int) (Cf:Int) (uh:Int) (Cg:Int) (Ch:Int) (xU:agV) (Ci:Int) (xV:agV) (ui:Int) (uj:Int) (Cj:Int) (Ck:Int) (xW:agV) (uk:Int):Option (Int×Int×List Int×Int×Int×List Int):=jL xT Ce Cf uh Cg Ch xU Ci xV ui uj Cj Ck xW (wrap .i64 (uk+1))
theorem aB.j10_P  {C8189_:ahh} {jL:ahj} (hC8189:aB.S8189 H0 Ri R0  C8189_ jL) {aaq aar aas aat Ce Cf uh Cg Ch aau aav aaw aax aay aaz aaA Ci aaB aaC ui uj Cj Ck uk PR PS PT PU PW PX PY PZ P_ Qa IK yZ IL y_ IM za IN zb IP IQ IR IS IT zd IU ze Qb Qc Qd Qe Qf Qg Qh Qi Qj Qk Ql Qm xT xU Qn Qo Qp xV Qq xW Qr Qs Qt Qu Qv Qw Qx Qy Qz aaD} (aaE:IK=Ql.length) (aaF:IL=Qm.length) (aaG:IM=xT.length) (aaH:IN=xU.length) (aaI:IP=Qn.length) (aaJ:IQ=Qo.length) (aaK:IR=Qp.length) (aaL:IS=xV.length) (aaM:IT=Qq.length) (aaN:IU=xW.length) (h0:Out H0 Ri H (Rs.own ⟨PR,IK,Qb⟩ eI.z Qr::Rs.blk yZ [.i aaq,.i aar,.sl ⟨PR,IK,Qb⟩]::Rs.own ⟨PS,IL,Qc⟩ eI.z Qs::Rs.blk y_ [.i aas,.i aat,.sl ⟨PS,IL,Qc⟩]::Rs.blk za [.sl ⟨PT,IM,Qd⟩,.i Ce,.i Cf]::Rs.own ⟨PU,IN,Qe⟩ eI.z Qt::Rs.blk zb [.i Cg,.i Ch,.sl ⟨PU,IN,Qe⟩]::Rs.own ⟨PW,IP,Qf⟩ eI.z Qu::Rs.own ⟨PX,IQ,Qg⟩ eI.z Qv::Rs.own ⟨PY,IR,Qh⟩ eI.z Qw::Rs.own ⟨PZ,IS,Qi⟩ eI.z Qx::Rs.own ⟨P_,IT,Qj⟩ eI.z Qy::Rs.blk zd [.i aau,.i aav,.sl ⟨PW,IP,Qf⟩,.i aaw,.i aax,.sl ⟨PX,IQ,Qg⟩,.i aay,.i aaz,.sl ⟨PY,IR,Qh⟩,.i aaA,.i Ci,.sl ⟨PZ,IS,Qi⟩,.i aaB,.i aaC,.sl ⟨P_,IT,Qj⟩,.bool aaD]::Rs.own ⟨Qa,IU,Qk⟩ eI.z Qz::Rs.blk ze [.i Cj,.i Ck,.sl ⟨Qa,IU,Qk⟩]::R0) λR=>CR eI H R Qr Ql/\CR eI H R Qs Qm/\ROs (gI .u8) H R ⟨PT,IM,Qd⟩ xT/\CR eI H R Qt xU/\CR eI H R Qu Qn/\CR eI H R Qv Qo/\CR eI H R Qw Qp/\CR eI H R Qx xV/\CR eI H R Qy Qq/\CR eI H R Qz xW) {r:ahg} (hp:aB.pj10 F jL xT Ce Cf uh Cg Ch xU Ci xV ui uj Cj Ck xW uk=some r):Rt (aB.j10 F (dy.tw F) (bO.tw F) (cw.tw F) (fz.tw F) (bf.tw F) (bm.tw F) (eH.tw F) C8189_ yZ 0 y_ 0 za 0 uh zb 0 zd 0 ui uj ze 0 uk H) (aB.Q H0 Ri R0  r):=by
 obtain ⟨w0,s0,aaO,aaP,aaQ,aaR,aaS,aaT,aaU,aaV,aaW,aaX⟩:=h0
 subst aaE
 subst aaF
 subst aaG
 subst aaH
 subst aaI
 subst aaJ
 subst aaK
 subst aaL
 subst aaM
 subst aaN
 unfold aB.pj10 at hp
 unfold aB.j10
 exact hC8189 rfl rfl rfl rfl rfl rfl rfl rfl rfl rfl ⟨w0,s0,aaO,aaP,aaQ,aaR,aaS,aaT,aaU,aaV,aaW,aaX⟩ hp
def aB.pj11 (F:Nat) (jL:ahj) (xX:agV) (Cl:Int) (Cm:Int) (ul:Int) (Cn:Int) (Co:Int) (xY:agV) (Cp:Int) (xZ:agV) (um:Int) (un:Int) (Cq:Int) (Cr:Int) (x_:agV) (uo:Int):Option (Int×Int×List Int×Int×Int×List Int):=aB.pj10 F jL xX Cl Cm ul Cn Co xY Cp xZ um un Cq Cr x_ uo
theorem aB.j11_P  {C8189_:ahh} {jL:ahj} (hC8189:aB.S8189 H0 Ri R0  C8189_ jL) {aaY aaZ aa0 aa1 Cl Cm ul Cn Co aa2 aa3 aa4 aa5 aa6 aa7 aa8 Cp aa9 aa_ um un Cq Cr uo QA QB QC QD QE QF QG QH QI QJ IV zf IW zg IX zh IY zi IZ I_ Ja Jb Jc zj Jd zk QK QL QM QN QO QP QQ QR QT QU QV QW xX xY QX QY QZ xZ Q_ x_ Ra Rc Rd Re Rf Rg Rh Rj Rk aba} (abb:IV=QV.length) (abc:IW=QW.length) (abd:IX=xX.length) (abe:IY=xY.length) (abf:IZ=QX.length) (abg:I_=QY.length) (abh:Ja=QZ.length) (abi:Jb=xZ.length) (abj:Jc=Q_.length) (abk:Jd=x_.length) (h0:Out H0 Ri H (Rs.own ⟨QA,IV,QK⟩ eI.z Ra::Rs.blk zf [.i aaY,.i aaZ,.sl ⟨QA,IV,QK⟩]::Rs.own ⟨QB,IW,QL⟩ eI.z Rc::Rs.blk zg [.i aa0,.i aa1,.sl ⟨QB,IW,QL⟩]::Rs.blk zh [.sl ⟨QC,IX,QM⟩,.i Cl,.i Cm]::Rs.own ⟨QD,IY,QN⟩ eI.z Rd::Rs.blk zi [.i Cn,.i Co,.sl ⟨QD,IY,QN⟩]::Rs.own ⟨QE,IZ,QO⟩ eI.z Re::Rs.own ⟨QF,I_,QP⟩ eI.z Rf::Rs.own ⟨QG,Ja,QQ⟩ eI.z Rg::Rs.own ⟨QH,Jb,QR⟩ eI.z Rh::Rs.own ⟨QI,Jc,QT⟩ eI.z Rj::Rs.blk zj [.i aa2,.i aa3,.sl ⟨QE,IZ,QO⟩,.i aa4,.i aa5,.sl ⟨QF,I_,QP⟩,.i aa6,.i aa7,.sl ⟨QG,Ja,QQ⟩,.i aa8,.i Cp,.sl ⟨QH,Jb,QR⟩,.i aa9,.i aa_,.sl ⟨QI,Jc,QT⟩,.bool aba]::Rs.own ⟨QJ,Jd,QU⟩ eI.z Rk::Rs.blk zk [.i Cq,.i Cr,.sl ⟨QJ,Jd,QU⟩]::R0) λR=>CR eI H R Ra QV/\CR eI H R Rc QW/\ROs (gI .u8) H R ⟨QC,IX,QM⟩ xX/\CR eI H R Rd xY/\CR eI H R Re QX/\CR eI H R Rf QY/\CR eI H R Rg QZ/\CR eI H R Rh xZ/\CR eI H R Rj Q_/\CR eI H R Rk x_) {r:ahg} (hp:aB.pj11 F jL xX Cl Cm ul Cn Co xY Cp xZ um un Cq Cr x_ uo=some r):Rt (aB.j11 F (dy.tw F) (bO.tw F) (cw.tw F) (fz.tw F) (bf.tw F) (bm.tw F) (eH.tw F) C8189_ zf 0 zg 0 zh 0 ul zi 0 zj 0 um un zk 0 uo H) (aB.Q H0 Ri R0  r):=by
 obtain ⟨w0,s0,abl,abm,abn,abo,abp,abq,abr,abt,abu,abv⟩:=h0
 subst abb
 subst abc
 subst abd
 subst abe
 subst abf
 subst abg
 subst abh
 subst abi
 subst abj
 subst abk
 unfold aB.pj11 at hp
 unfold aB.j11
 exact aB.j10_P (@hC8189) rfl rfl rfl rfl rfl rfl rfl rfl rfl rfl ⟨w0,s0,abl,abm,abn,abo,abp,abq,abr,abt,abu,abv⟩ hp
def aB.pl131029 (F:Nat) (jL:ahj):Nat->List Int->Int->Int->Int->Int->Int->List Int->Int->List Int->Int->Int->Int->Int->List Int->Int->Int->Option (Int×Int×List Int×Int×Int×List Int)
 | 0,_,_,_,_,_,_,_,_,_,_,_,_,_,_,_,_=>none
 | k+1,qP,wt,wu,mT,wv,ww,sL,wx,sM,nN,nO,wy,wz,sN,nP,nQ=>(bif (decide (nQ<mT)) then ((bO.p F qP wt wu 7).bind λr2=>aB.pl4192939 F jL (aB.pl131029 F jL k) F qP r2.2.1 r2.2.2 mT wv ww sL wx sM nN nO wy wz sN nP nQ (wrap .i64 (r2.1 - 3)) 0) else (aB.pj11 F jL qP wt wu mT wv ww sL wx sM nN nO wy wz sN nP))
theorem aB.l131029_P  {C8189_:ahh} {jL:ahj} (hC8189:aB.S8189 H0 Ri R0  C8189_ jL):∀ k,aB.S131029 H0 Ri R0  (aB.l131029 F (dy.tw F) (bO.tw F) (cw.tw F) (fz.tw F) (bf.tw F) (bm.tw F) (eH.tw F) C8189_ k) (aB.pl131029 F jL k):=by
 intro k
 induction k with
 | zero=>unfold aB.S131029;intros;rename_i hp;cases hp
 | succ k ih=>
  intro NF NG NH NI wt wu mT wv ww NJ NK NL NM NN NO NP wx NQ NR nN nO wy wz nP nQ GS GT GU GV GW GX GY GZ G_ Ha Bx qh By qi Bz pE BA qj BB BC BD BE BF qk BG ql Hb Hc Hd He Hf Hg Hh Hj Hk Hl Hm Hn qP sL Ho Hq Hr sM Hs sN Ht Hu Hv Hw Hy Hz HA HB HC NS H abw abx aby abz abA abB abC abD abE abF h0 r hp
  obtain ⟨w0,s0,Rl,Rm,Je,Rp,Rq,Rr,Ru,Rv,Rw,Rx⟩:=h0
  subst abw
  subst abx
  subst aby
  subst abz
  subst abA
  subst abB
  subst abC
  subst abD
  subst abE
  subst abF
  unfold aB.pl131029 at hp
  unfold aB.l131029
  refine aX hp (λhp=>?_) λhp=>?_
  ·obtain ⟨w1,s1⟩:=w0.pp [4,0,1,2,3,5,6,7,8,9,10,11,12,13,14] 15
   obtain ⟨r2,e2,hp⟩:=ag hp
   refine aP (bO.P rfl ⟨w1,(Je.step s1)⟩ e2) ?_
   rintro _ H3 ⟨rfl,w3,s3,_⟩
   refine br ?_
   obtain ⟨w4,s4⟩:=w3.pp [1,2,3,4,0,5,6,7,8,9,10,11,12,13,14] 15
   exact aB.l4192939_P (@hC8189) (@ih) F rfl rfl rfl rfl rfl rfl rfl rfl rfl rfl ⟨w4,(s0.trans (s1.trans (s3.trans s4))),(Rl.step (s1.trans (s3.trans s4))),(Rm.step (s1.trans (s3.trans s4))),(Je.step (s1.trans (s3.trans s4))),(Rp.step (s1.trans (s3.trans s4))),(Rq.step (s1.trans (s3.trans s4))),(Rr.step (s1.trans (s3.trans s4))),(Ru.step (s1.trans (s3.trans s4))),(Rv.step (s1.trans (s3.trans s4))),(Rw.step (s1.trans (s3.trans s4))),(Rx.step (s1.trans (s3.trans s4)))⟩ hp
  ·exact aB.j11_P (@hC8189) rfl rfl rfl rfl rfl rfl rfl rfl rfl rfl ⟨w0,s0,Rl,Rm,Je,Rp,Rq,Rr,Ru,Rv,Rw,Rx⟩ hp
def aB.pj7 (F:Nat)  (Ct:Int) (Cu:Int) (ya:agV) (Cv:Int) (Cw:Int) (yb:agV):Option (Int×Int×List Int×Int×Int×List Int):=some (Cv,Cw,yb,Ct,Cu,ya)
theorem aB.j7_P   {abG abH abI abJ Ct Cu Cv Cw Ry Rz RA RB Jf pz Jg pA Jh np Ji ug RC RD RE RF RG RH ya yb RI RJ RK RL} (abK:Jf=RG.length) (abL:Jg=RH.length) (abM:Jh=ya.length) (abN:Ji=yb.length) (h0:Out H0 Ri H (Rs.own ⟨Ry,Jf,RC⟩ eI.z RI::Rs.blk pz [.i abG,.i abH,.sl ⟨Ry,Jf,RC⟩]::Rs.own ⟨Rz,Jg,RD⟩ eI.z RJ::Rs.blk pA [.i abI,.i abJ,.sl ⟨Rz,Jg,RD⟩]::Rs.own ⟨RA,Jh,RE⟩ eI.z RK::Rs.blk np [.i Ct,.i Cu,.sl ⟨RA,Jh,RE⟩]::Rs.own ⟨RB,Ji,RF⟩ eI.z RL::Rs.blk ug [.i Cv,.i Cw,.sl ⟨RB,Ji,RF⟩]::R0) λR=>CR eI H R RI RG/\CR eI H R RJ RH/\CR eI H R RK ya/\CR eI H R RL yb) {r:ahg} (hp:aB.pj7 F  Ct Cu ya Cv Cw yb=some r):Rt (aB.j7 F (dy.tw F) (bO.tw F) (cw.tw F) (fz.tw F) (bf.tw F) (bm.tw F) (eH.tw F)  pz 0 pA 0 np 0 ug 0 H) (aB.Q H0 Ri R0  r):=by
 obtain ⟨w0,s0,agf,agh,abO,abQ⟩:=h0
 subst abK
 subst abL
 subst abM
 subst abN
 unfold aB.pj7 at hp
 unfold aB.j7
 refine lI w0 7 ?_
 refine lI w0 7 ?_
 refine lSl w0 7 ?_
 refine lI w0 5 ?_
 refine lI w0 5 ?_
 refine lSl w0 5 ?_
 refine aL w0 1 λH1 w1 s1=>?_
 refine aL w1 1 λH2 w2 s2=>?_
 refine aL w2 1 λH3 w3 s3=>?_
 refine aL w3 3 λH4 w4 s4=>?_
 refine aL w4 3 λH5 w5 s5=>?_
 refine aL w5 3 λH6 w6 s6=>?_
 refine wX ⟨⟨(gJ (dx (w3.ld (i:=5) rfl rfl)) (gJ (dx (w3.ld (i:=5) rfl rfl)) (gJ (jO (w3.ld (i:=5) rfl rfl)) (jP _ _)))),(gJ (dx (w0.ld (i:=5) rfl rfl)) (gJ (dx (w0.ld (i:=5) rfl rfl)) (gJ (jO (w0.ld (i:=5) rfl rfl)) (jP _ _)))),trivial⟩,trivial⟩ ?_
 refine lI w6 1 ?_
 refine lI w6 1 ?_
 refine lSl w6 1 ?_
 refine lI w6 3 ?_
 refine lI w6 3 ?_
 refine lSl w6 3 ?_
 obtain ⟨w7,s7⟩:=w6.pp [6,4] 8
 exact aW hp ⟨_,_,_,_,_,_,_,_,rfl,rfl,rfl,w7,(s0.trans (s1.trans (s2.trans (s3.trans (s4.trans (s5.trans (s6.trans s7))))))),(abQ.step (s1.trans (s2.trans (s3.trans (s4.trans (s5.trans (s6.trans s7))))))),(abO.step (s1.trans (s2.trans (s3.trans (s4.trans (s5.trans (s6.trans s7)))))))⟩
def aB.pl8189 (F:Nat) :Nat->List Int->Int->Int->Int->Int->Int->List Int->Int->List Int->Int->Int->Int->Int->List Int->Int->Option (Int×Int×List Int×Int×Int×List Int)
 | 0,_,_,_,_,_,_,_,_,_,_,_,_,_,_,_=>none
 | k+1,wo,xI,xJ,pF,wi,wj,sJ,xK,wq,nR,nS,wk,wl,sK,nT=>(bif (decide (nT<nS)) then (aB.pl131029 F (aB.pl8189 F k) F wo xI xJ pF wi wj sJ xK wq nR nS wk wl sK nT nR) else (aB.pj7 F wi wj sJ wk wl sK))
theorem aB.l8189_P  :∀ k,aB.S8189 H0 Ri R0  (aB.l8189 F (dy.tw F) (bO.tw F) (cw.tw F) (fz.tw F) (bf.tw F) (bm.tw F) (eH.tw F)  k) (aB.pl8189 F  k):=by
 intro k
 induction k with
 | zero=>unfold aB.S8189;intros;rename_i hp;cases hp
 | succ k ih=>
  intro Nr Ns Nt Nu xI xJ pF wi wj Nv Nw Nx Ny Nz NA NB xK NC ND nR nS wk wl nT Gi Gj Gk Gl Gm Gn Gp Gq Gr Gs Bn qm Bo qn Bp rE Bq qo Br Bs Bt Bu Bv rF Bw qp Gt Gu Gv Gw Gx Gy Gz GA GB GC GD GE wo sJ GF GG GH wq GI sK GJ GK GL GM GN GO GP GQ GR NE H abR abS abT abU abV abW abX abY abZ ab0 h0 r hp
  obtain ⟨w0,s0,RM,RN,ab1,RO,ab2,ab3,ab4,ab5,ab6,RP⟩:=h0
  subst abR
  subst abS
  subst abT
  subst abU
  subst abV
  subst abW
  subst abX
  subst abY
  subst abZ
  subst ab0
  unfold aB.pl8189 at hp
  unfold aB.l8189
  refine aX hp (λhp=>?_) λhp=>?_
  ·exact aB.l131029_P (@ih) F rfl rfl rfl rfl rfl rfl rfl rfl rfl rfl ⟨w0,s0,RM,RN,ab1,RO,ab2,ab3,ab4,ab5,ab6,RP⟩ hp
  ·obtain ⟨w1,s1⟩:=w0.pp [0,1,2,3,5,6,13,14] 15
   exact aB.j7_P rfl rfl rfl rfl ⟨w1,(s0.trans s1),(RM.step s1),(RN.step s1),(RO.step s1),(RP.step s1)⟩ hp
def aB.pj14 (F:Nat)  (wH:agV) (Cx:Int) (Cy:Int) (qq:Int) (Cz:Int) (CA:Int) (yc:agV) (CB:Int) (yd:agV) (uC:Int):Option (Int×Int×List Int×Int×Int×List Int):=(bO.p F wH Cx Cy 4).bind λr2=>(eH.p F qq r2.1).bind λr4=>aB.pl8189 F F wH r2.2.1 r2.2.2 qq Cz CA yc CB yd uC r2.1 r4.1 r4.2.1 r4.2.2 0
theorem aB.j14_P   {ab7 ab8 ab9 ab_ Cx Cy qq Cz CA aca acb acc acd ace acf acg CB ach aci uC RQ RR RS RT RU RV RW RX RY Jj zP Jk zQ Jl xp Jm zR Jn Jo Jp Jq Jr zS RZ R_ Sa Sb Sd Se Sf Sh Si Sj Sk wH yc Sm Sn So yd Sp Sq Sr Ss Su Sv Sw Sx Sy acj} (ack:Jj=Sj.length) (acl:Jk=Sk.length) (acm:Jl=wH.length) (acn:Jm=yc.length) (aco:Jn=Sm.length) (acp:Jo=Sn.length) (acq:Jp=So.length) (acr:Jq=yd.length) (acs:Jr=Sp.length) (h0:Out H0 Ri H (Rs.own ⟨RQ,Jj,RZ⟩ eI.z Sq::Rs.blk zP [.i ab7,.i ab8,.sl ⟨RQ,Jj,RZ⟩]::Rs.own ⟨RR,Jk,R_⟩ eI.z Sr::Rs.blk zQ [.i ab9,.i ab_,.sl ⟨RR,Jk,R_⟩]::Rs.blk xp [.sl ⟨RS,Jl,Sa⟩,.i Cx,.i Cy]::Rs.own ⟨RT,Jm,Sb⟩ eI.z Ss::Rs.blk zR [.i Cz,.i CA,.sl ⟨RT,Jm,Sb⟩]::Rs.own ⟨RU,Jn,Sd⟩ eI.z Su::Rs.own ⟨RV,Jo,Se⟩ eI.z Sv::Rs.own ⟨RW,Jp,Sf⟩ eI.z Sw::Rs.own ⟨RX,Jq,Sh⟩ eI.z Sx::Rs.own ⟨RY,Jr,Si⟩ eI.z Sy::Rs.blk zS [.i aca,.i acb,.sl ⟨RU,Jn,Sd⟩,.i acc,.i acd,.sl ⟨RV,Jo,Se⟩,.i ace,.i acf,.sl ⟨RW,Jp,Sf⟩,.i acg,.i CB,.sl ⟨RX,Jq,Sh⟩,.i ach,.i aci,.sl ⟨RY,Jr,Si⟩,.bool acj]::R0) λR=>CR eI H R Sq Sj/\CR eI H R Sr Sk/\ROs (gI .u8) H R ⟨RS,Jl,Sa⟩ wH/\CR eI H R Ss yc/\CR eI H R Su Sm/\CR eI H R Sv Sn/\CR eI H R Sw So/\CR eI H R Sx yd/\CR eI H R Sy Sp) {r:ahg} (hp:aB.pj14 F  wH Cx Cy qq Cz CA yc CB yd uC=some r):Rt (aB.j14 F (dy.tw F) (bO.tw F) (cw.tw F) (fz.tw F) (bf.tw F) (bm.tw F) (eH.tw F)  zP 0 zQ 0 xp 0 qq zR 0 zS 0 uC H) (aB.Q H0 Ri R0  r):=by
 obtain ⟨w0,s0,acu,acv,Sz,acw,acx,acy,acz,acA,acB⟩:=h0
 subst ack
 subst acl
 subst acm
 subst acn
 subst aco
 subst acp
 subst acq
 subst acr
 subst acs
 unfold aB.pj14 at hp
 unfold aB.j14
 obtain ⟨w1,s1⟩:=w0.pp [4,0,1,2,3,5,6,7,8,9,10,11,12] 13
 obtain ⟨r2,e2,hp⟩:=ag hp
 refine aP (bO.P rfl ⟨w1,(Sz.step s1)⟩ e2) ?_
 rintro _ H3 ⟨rfl,w3,s3,_⟩
 refine br ?_
 obtain ⟨r4,e4,hp⟩:=ag hp
 refine aP (eH.P ⟨w3,trivial⟩ e4) ?_
 rintro _ H5 ⟨o2a_5,o2n_5,o2k_5,rfl,rfl,w5,s5,f5_0⟩
 refine br (br (br (br (br (br (br ?_))))))
 refine cF w5 λH6 w6 s6=>?_
 refine aL w6 0 λH7 w7 s7=>?_
 refine aL w7 0 λH8 w8 s8=>?_
 refine aL w8 0 λH9 w9 s9=>?_
 obtain ⟨w10,s10⟩:=w9.pp [3,4,5,6,2,7,8,9,10,11,12,13,14,1,0] 15
 exact aB.l8189_P F rfl rfl rfl rfl rfl rfl rfl rfl rfl rfl ⟨w10,(s0.trans (s1.trans (s3.trans (s5.trans (s6.trans (s7.trans (s8.trans (s9.trans s10)))))))),(acu.step (s1.trans (s3.trans (s5.trans (s6.trans (s7.trans (s8.trans (s9.trans s10)))))))),(acv.step (s1.trans (s3.trans (s5.trans (s6.trans (s7.trans (s8.trans (s9.trans s10)))))))),(Sz.step (s1.trans (s3.trans (s5.trans (s6.trans (s7.trans (s8.trans (s9.trans s10)))))))),(acw.step (s1.trans (s3.trans (s5.trans (s6.trans (s7.trans (s8.trans (s9.trans s10)))))))),(acx.step (s1.trans (s3.trans (s5.trans (s6.trans (s7.trans (s8.trans (s9.trans s10)))))))),(acy.step (s1.trans (s3.trans (s5.trans (s6.trans (s7.trans (s8.trans (s9.trans s10)))))))),(acz.step (s1.trans (s3.trans (s5.trans (s6.trans (s7.trans (s8.trans (s9.trans s10)))))))),(acA.step (s1.trans (s3.trans (s5.trans (s6.trans (s7.trans (s8.trans (s9.trans s10)))))))),(acB.step (s1.trans (s3.trans (s5.trans (s6.trans (s7.trans (s8.trans (s9.trans s10)))))))),(f5_0.step (s6.trans (s7.trans (s8.trans (s9.trans s10)))))⟩ hp
def aB.pl510 (F:Nat) :Nat->List Int->Int->Int->Int->Int->Int->List Int->Int->List Int->Int->List Int->Int->Option (Int×Int×List Int×Int×Int×List Int)
 | 0,_,_,_,_,_,_,_,_,_,_,_,_=>none
 | k+1,qM,sE,sF,kR,pQ,sG,qN,wh,sI,sH,qO,kg=>(bif (decide (kg<(if kR<pQ then kR else pQ))) then ((bm.p F wh sI kg kg).bind λr3=>(bif (r3 != 0) then (aB.pl510 F k qM sE sF kR pQ sG qN wh sI sH qO (wrap .i64 (kg+1))) else (aB.pj14 F qM sE sF kR pQ sG qN sH qO kg))) else (aB.pj14 F qM sE sF kR pQ sG qN sH qO kg))
theorem aB.l510_P  :∀ k,aB.S510 H0 Ri R0  (aB.l510 F (dy.tw F) (bO.tw F) (cw.tw F) (fz.tw F) (bf.tw F) (bm.tw F) (eH.tw F)  k) (aB.pl510 F  k):=by
 intro k
 induction k with
 | zero=>unfold aB.S510;intros;rename_i hp;cases hp
 | succ k ih=>
  intro Nd Nf Ng Nh sE sF kR pQ sG Ni wh Nj Nk Nl Nm Nn sH No Np kg FD FE FF FG FH FI FJ FK FL Be mU Bf mw Bg kf Bh oZ Bi Bj Bk Bl Bm nq FM FN FO FP FQ FR FS FT FU FW FX qM qN sI FY FZ qO F_ Ga Gb Gc Gd Ge Gf Gg Gh Nq H acC acD acE acF acG acH acI acJ acK h0 r hp
  obtain ⟨w0,s0,Js,Jt,Ju,Jv,CC,Jw,Jx,Jy,Jz⟩:=h0
  subst acC
  subst acD
  subst acE
  subst acF
  subst acG
  subst acH
  subst acI
  subst acJ
  subst acK
  unfold aB.pl510 at hp
  unfold aB.l510
  refine lI w0 6 ?_
  refine aX hp (λhp=>?_) λhp=>?_
  ·refine lI w0 12 ?_
   refine lI w0 12 ?_
   refine lSl w0 12 ?_
   obtain ⟨w1,s1⟩:=w0.pp [7,0,1,2,3,4,5,6,8,9,10,11,12] 13
   have f2:=W.borrow1 eI w1 (CC.step s1)
   obtain ⟨w2,s2⟩:=w1.right1
   obtain ⟨r3,e3,hp⟩:=ag hp
   refine aP (bm.P rfl ⟨w2,f2⟩ e3) ?_
   rintro _ H4 ⟨rfl,w4,s4,_⟩
   obtain ⟨w5,s5⟩:=W.frame1 w1 w4 s4
   refine br ?_
   refine aX hp (λhp=>?_) λhp=>?_
   ·obtain ⟨w6,s6⟩:=w5.pp [1,2,3,4,5,6,7,0,8,9,10,11,12] 13
    exact ih rfl rfl rfl rfl rfl rfl rfl rfl rfl ⟨w6,(s0.trans (s1.trans (s5.trans s6))),(Js.step (s1.trans (s5.trans s6))),(Jt.step (s1.trans (s5.trans s6))),(Ju.step (s1.trans (s5.trans s6))),(Jv.step (s1.trans (s5.trans s6))),(CC.step (s1.trans (s5.trans s6))),(Jw.step (s1.trans (s5.trans s6))),(Jx.step (s1.trans (s5.trans s6))),(Jy.step (s1.trans (s5.trans s6))),(Jz.step (s1.trans (s5.trans s6)))⟩ hp
   ·obtain ⟨w7,s7⟩:=w5.pp [1,2,3,4,5,6,7,0,8,9,10,11,12] 13
    exact aB.j14_P rfl rfl rfl rfl rfl rfl rfl rfl rfl ⟨w7,(s0.trans (s1.trans (s5.trans s7))),(Js.step (s1.trans (s5.trans s7))),(Jt.step (s1.trans (s5.trans s7))),(Ju.step (s1.trans (s5.trans s7))),(Jv.step (s1.trans (s5.trans s7))),(CC.step (s1.trans (s5.trans s7))),(Jw.step (s1.trans (s5.trans s7))),(Jx.step (s1.trans (s5.trans s7))),(Jy.step (s1.trans (s5.trans s7))),(Jz.step (s1.trans (s5.trans s7)))⟩ hp
  ·exact aB.j14_P rfl rfl rfl rfl rfl rfl rfl rfl rfl ⟨w0,s0,Js,Jt,Ju,Jv,CC,Jw,Jx,Jy,Jz⟩ hp
def aB.p (F:Nat) (bN:agV):Option (Int×Int×List Int×Int×Int×List Int):=(dy.p F bN).bind λr3=>(bO.p F r3.1 r3.2.1 r3.2.2 4).bind λr5=>(bO.p F r3.1 r5.2.1 r5.2.2 4).bind λr7=>(cw.p F r3.1 r7.2.1 r7.2.2 r7.1 (wrap .i64 (1+r5.1))).bind λr9=>(bO.p F r3.1 r9.2.2.2.1 r9.2.2.2.2 10).bind λr16=>(bif (r16.1==0) then ((fz.p F r3.1 r16.2.1 r16.2.2).bind λr18=>some (r18.1,r18.2.1,r18.2.2.1,r9.1,r9.2.1,r9.2.2.1)) else ((bf.p F r9.1 r9.2.1 r9.2.2.1).bind λr29=>aB.pl510 F F r3.1 r16.2.1 r16.2.2 (wrap .i64 (1+r5.1)) r9.1 r9.2.1 r9.2.2.1 r29.2.1 r29.2.2.1 r29.2.2.2.2.2.2.2.2.2.2.1 r29.2.2.2.2.2.2.2.2.2.2.2.1 0))
theorem aB.P {ev dq eC bN} (gl:dq=bN.length) (h0:Inn H R0 λR=>ROs (gI .u8) H R ⟨ev,dq,eC⟩ bN) {r:ahg} (hp:aB.p F bN=some r):Rt (aB.tw F ⟨ev,dq,eC⟩ H) (aB.Q H R0 R0  r):=by
 obtain ⟨w0,gr⟩:=h0
 subst gl
 unfold aB.p at hp
 unfold aB.tw aB.twX
 have s0:=w0.rf
 refine cF w0 λH1 w1 s1=>?_
 refine cF w1 λH2 w2 s2=>?_
 obtain ⟨r3,e3,hp⟩:=ag hp
 refine aP (dy.P rfl ⟨w2,(gr.step (s1.trans s2))⟩ e3) ?_
 rintro _ H4 ⟨o0a_4,o0n_4,o0c_4,ob0_4,rfl,rfl,w4,s4,f4_0⟩
 refine br ?_
 obtain ⟨r5,e5,hp⟩:=ag hp
 refine aP (bO.P rfl ⟨w4,f4_0⟩ e5) ?_
 rintro _ H6 ⟨rfl,w6,s6,_⟩
 refine br ?_
 obtain ⟨r7,e7,hp⟩:=ag hp
 refine aP (bO.P rfl ⟨w6,(f4_0.step s6)⟩ e7) ?_
 rintro _ H8 ⟨rfl,w8,s8,_⟩
 refine br ?_
 obtain ⟨r9,e9,hp⟩:=ag hp
 refine aP (cw.P rfl ⟨w8,(f4_0.step (s6.trans s8))⟩ e9) ?_
 rintro _ H10 ⟨o2a_10,o2n_10,o2c_10,o2k_10,rfl,rfl,w10,s10,f10_0⟩
 refine br (br (br (br (br (br (br ?_))))))
 refine cF w10 λH11 w11 s11=>?_
 refine aL w11 0 λH12 w12 s12=>?_
 refine aL w12 0 λH13 w13 s13=>?_
 refine aL w13 0 λH14 w14 s14=>?_
 obtain ⟨w15,s15⟩:=w14.pp [2,0,1,3,4] 5
 obtain ⟨r16,e16,hp⟩:=ag hp
 refine aP (bO.P rfl ⟨w15,(f4_0.step (s6.trans (s8.trans (s10.trans (s11.trans (s12.trans (s13.trans (s14.trans s15))))))))⟩ e16) ?_
 rintro _ H17 ⟨rfl,w17,s17,_⟩
 refine br ?_
 refine aX hp (λhp=>?_) λhp=>?_
 ·obtain ⟨r18,e18,hp⟩:=ag hp
  refine aP (fz.P rfl ⟨w17,(f4_0.step (s6.trans (s8.trans (s10.trans (s11.trans (s12.trans (s13.trans (s14.trans (s15.trans s17)))))))))⟩ e18) ?_
  rintro _ H19 ⟨o2a_19,o2n_19,o2c_19,o2k_19,rfl,rfl,w19,s19,f19_0⟩
  refine br (br (br (br (br (br (br ?_))))))
  refine lI w19 2 ?_
  refine lI w19 2 ?_
  refine lSl w19 2 ?_
  refine aL w19 5 λH20 w20 s20=>?_
  refine aL w20 5 λH21 w21 s21=>?_
  refine aL w21 5 λH22 w22 s22=>?_
  refine aL w22 4 λH23 w23 s23=>?_
  refine aL w23 4 λH24 w24 s24=>?_
  dsimp only [pk,pks,nth,List.drop,List.set,List.eraseIdx] at w24 s12 s13 s14 s15 s20 s21 s22 s23 s24
  refine aL w24 4 λH25 w25 s25=>?_
  refine wX ⟨⟨(gJ (dx (w22.ld (i:=2) rfl rfl)) (gJ (dx (w22.ld (i:=2) rfl rfl)) (gJ (jO (w22.ld (i:=2) rfl rfl)) (jP _ _)))),(gJ (dx (w19.ld (i:=2) rfl rfl)) (gJ (dx (w19.ld (i:=2) rfl rfl)) (gJ (jO (w19.ld (i:=2) rfl rfl)) (jP _ _)))),(gJ (dx (w17.ld (i:=1) rfl rfl)) (gJ (dx (w17.ld (i:=1) rfl rfl)) (gJ (jO (w17.ld (i:=1) rfl rfl)) (jP _ _)))),trivial⟩,trivial⟩ ?_
  refine lI w25 5 ?_
  refine lI w25 5 ?_
  refine lSl w25 5 ?_
  refine lI w25 4 ?_
  refine lI w25 4 ?_
  refine lSl w25 4 ?_
  obtain ⟨w26,s26⟩:=w25.pp [0,3] 6
  exact aW hp ⟨_,_,_,_,_,_,_,_,rfl,rfl,rfl,w26,(s0.trans (s1.trans (s2.trans (s4.trans (s6.trans (s8.trans (s10.trans (s11.trans (s12.trans (s13.trans (s14.trans (s15.trans (s17.trans (s19.trans (s20.trans (s21.trans (s22.trans (s23.trans (s24.trans (s25.trans s26)))))))))))))))))))),(f19_0.step (s20.trans (s21.trans (s22.trans (s23.trans (s24.trans (s25.trans s26))))))),(f10_0.step (s11.trans (s12.trans (s13.trans (s14.trans (s15.trans (s17.trans (s19.trans (s20.trans (s21.trans (s22.trans (s23.trans (s24.trans (s25.trans s26))))))))))))))⟩
 ·refine lI w17 1 ?_
  refine lI w17 1 ?_
  refine lSl w17 1 ?_
  obtain ⟨w27,s27⟩:=w17.pp [2,0,1,3,4] 5
  have f28:=W.borrow1 eI w27 (f10_0.step (s11.trans (s12.trans (s13.trans (s14.trans (s15.trans (s17.trans s27)))))))
  obtain ⟨w28,s28⟩:=w27.right1
  obtain ⟨r29,e29,hp⟩:=ag hp
  refine aP (bf.P rfl ⟨w28,f28⟩ e29) ?_
  rintro _ H30 ⟨o2a_30,o2n_30,o2c_30,o2k_30,o5a_30,o5n_30,o5c_30,o5k_30,o8a_30,o8n_30,o8c_30,o8k_30,o11a_30,o11n_30,o11c_30,o11k_30,o14a_30,o14n_30,o14c_30,o14k_30,ob0_30,rfl,rfl,rfl,rfl,rfl,rfl,w30,s30,f30_0,f30_1,f30_2,f30_3,f30_4⟩
  obtain ⟨w31,s31⟩:=W.frame1 w27 w30 s30
  refine br ?_
  obtain ⟨w32,s32⟩:=w31.nilS eI.z (by decide)
  obtain ⟨w33,s33⟩:=w32.nilS eI.z (by decide)
  obtain ⟨w34,s34⟩:=w33.pp [1,12,0,11,9,2,10,3,4,5,6,7,8] 13
  exact aB.l510_P F rfl rfl rfl rfl rfl rfl rfl rfl rfl ⟨w34,(s0.trans (s1.trans (s2.trans (s4.trans (s6.trans (s8.trans (s10.trans (s11.trans (s12.trans (s13.trans (s14.trans (s15.trans (s17.trans (s27.trans (s31.trans (s32.trans (s33.trans s34))))))))))))))))),((CR.empty:CR eI _ _ [] []).step (s33.trans s34)),((CR.empty:CR eI _ _ [] []).step s34),(f4_0.step (s6.trans (s8.trans (s10.trans (s11.trans (s12.trans (s13.trans (s14.trans (s15.trans (s17.trans (s27.trans (s31.trans (s32.trans (s33.trans s34)))))))))))))),(f10_0.step (s11.trans (s12.trans (s13.trans (s14.trans (s15.trans (s17.trans (s27.trans (s31.trans (s32.trans (s33.trans s34))))))))))),((CR.flat (wZ .i64) f30_0).step (s32.trans (s33.trans s34))),((CR.flat (wZ .i64) f30_1).step (s32.trans (s33.trans s34))),((CR.flat (wZ .i64) f30_2).step (s32.trans (s33.trans s34))),((CR.flat (wZ .i64) f30_3).step (s32.trans (s33.trans s34))),((CR.flat (wZ .i64) f30_4).step (s32.trans (s33.trans s34)))⟩ hp
def g_.Q (H0:Hp) (Ri R0:agX)  (r:Bool) (v:AV) (H':Hp):Prop:=v=(.bool r)/\Out H0 Ri H' (R0) λR=>True
def g_.p (F:Nat) (aa:Int) (aQ:Int) (eM:Int):Option (Bool):=(bif (decide (aQ<=aa)) then (some (decide (aa<=eM))) else (some false))
theorem g_.P {aa aQ eM}  (h0:Inn H R0 λR=>True) {r:Bool} (hp:g_.p F aa aQ eM=some r):Rt (g_.tw F aa aQ eM H) (g_.Q H R0 R0  r):=by
 obtain ⟨w0,_⟩:=h0
 unfold g_.p at hp
 unfold g_.tw g_.twX
 have s0:=w0.rf
 refine aX hp (λhp=>?_) λhp=>?_
 ·exact aW hp ⟨rfl,w0,s0,trivial⟩
 ·exact aW hp ⟨rfl,w0,s0,trivial⟩
def fY.Q (H0:Hp) (Ri R0:agX)  (r:Int) (v:AV) (H':Hp):Prop:=v=(.i r)/\Out H0 Ri H' (R0) λR=>True
def fY.p (F:Nat) (bN:agV):Option (Int):=some (bN.length:Int)
theorem fY.P {ev dq eC bN} (gl:dq=bN.length) (h0:Inn H R0 λR=>ROs eI H R ⟨ev,dq,eC⟩ bN) {r:Int} (hp:fY.p F bN=some r):Rt (fY.tw F ⟨ev,dq,eC⟩ H) (fY.Q H R0 R0  r):=by
 obtain ⟨w0,gr⟩:=h0
 subst gl
 unfold fY.p at hp
 unfold fY.tw fY.twX
 have s0:=w0.rf
 exact aW hp ⟨rfl,w0,s0,trivial⟩
def iw.Q (H0:Hp) (Ri R0:agX)  (r:Bool) (v:AV) (H':Hp):Prop:=v=(.bool r)/\Out H0 Ri H' (R0) λR=>True
def iw.p (F:Nat) (aa:Int):Option (Bool):=(g_.p F aa (-1000000000000) 1000000000000).bind λr1=>some (!r1)
theorem iw.P {aa}  (h0:Inn H R0 λR=>True) {r:Bool} (hp:iw.p F aa=some r):Rt (iw.tw F aa H) (iw.Q H R0 R0  r):=by
 obtain ⟨w0,_⟩:=h0
 unfold iw.p at hp
 unfold iw.tw iw.twX
 have s0:=w0.rf
 obtain ⟨r1,e1,hp⟩:=ag hp
 refine aP (g_.P ⟨w0,trivial⟩ e1) ?_
 rintro _ H2 ⟨rfl,w2,s2,_⟩
 refine br ?_
 exact aW hp ⟨rfl,w2,(s0.trans s2),trivial⟩
def dT.Q (H0:Hp) (Ri R0:agX)  (r:Int) (v:AV) (H':Hp):Prop:=v=(.i r)/\Out H0 Ri H' (R0) λR=>True
def dT.S13 (H0:Hp) (Ri R0:agX)  (C:ahs) (pC:ahN):Prop:=∀ {lZ kz l_ f_ eN dG},∀ {H:Hp},kz=f_.length->(Out H0 Ri H R0 λR=>ROs eI H R ⟨lZ,kz,l_⟩ f_)->∀ {r:Int},pC f_ eN dG=some r->Rt (C ⟨lZ,kz,l_⟩ eN dG H) (dT.Q H0 Ri R0  r)
def dT.pl13 (F:Nat) :Nat->List Int->Int->Int->Option (Int)
 | 0,_,_,_=>none
 | k+1,f_,eN,dG=>(bif (decide (dG<eN)) then ((ix f_ dG).bind λn1=>(iw.p F (gt f_ n1)).bind λr2=>(bif r2 then (some dG) else (dT.pl13 F k f_ eN (wrap .i64 (dG+1))))) else (some (-1)))
theorem dT.l13_P  :∀ k,dT.S13 H0 Ri R0  (dT.l13 F (iw.tw F)  k) (dT.pl13 F  k):=by
 intro k
 induction k with
 | zero=>unfold dT.S13;intros;rename_i hp;cases hp
 | succ k ih=>
  intro lZ kz l_ f_ eN dG H sU h0 r hp
  obtain ⟨w0,s0,oE⟩:=h0
  subst sU
  unfold dT.pl13 at hp
  unfold dT.l13
  refine aX hp (λhp=>?_) λhp=>?_
  ·obtain ⟨n1,g1,hp⟩:=ag hp
   obtain ⟨p1,q1,i1,h1,j1⟩:=ROs.ixr oE rfl g1
   refine bu i1 ?_
   have h1:_=[_]:=h1
   subst h1
   refine bu (dx (j1 0 _ rfl)) ?_
   obtain ⟨r2,e2,hp⟩:=ag hp
   refine aP (iw.P ⟨w0,trivial⟩ e2) ?_
   rintro _ H3 ⟨rfl,w3,s3,_⟩
   refine br ?_
   refine aX hp (λhp=>?_) λhp=>?_
   ·exact aW hp ⟨rfl,w3,(s0.trans s3),trivial⟩
   ·exact ih rfl ⟨w3,(s0.trans s3),(oE.step s3)⟩ hp
  ·exact aW hp ⟨rfl,w0,s0,trivial⟩
def dT.p (F:Nat) (bN:agV):Option (Int):=dT.pl13 F F bN (bN.length:Int) 0
theorem dT.P {ev dq eC bN} (gl:dq=bN.length) (h0:Inn H R0 λR=>ROs eI H R ⟨ev,dq,eC⟩ bN) {r:Int} (hp:dT.p F bN=some r):Rt (dT.tw F ⟨ev,dq,eC⟩ H) (dT.Q H R0 R0  r):=by
 obtain ⟨w0,gr⟩:=h0
 subst gl
 unfold dT.p at hp
 unfold dT.tw dT.twX
 have s0:=w0.rf
 exact dT.l13_P F rfl ⟨w0,s0,gr⟩ hp
def iI.Q (H0:Hp) (Ri R0:agX)  (r:Bool) (v:AV) (H':Hp):Prop:=v=(.bool r)/\Out H0 Ri H' (R0) λR=>True
def iI.p (F:Nat) (bN:agV):Option (Bool):=(dT.p F bN).bind λr1=>some (decide (r1>=0))
theorem iI.P {ev dq eC bN} (gl:dq=bN.length) (h0:Inn H R0 λR=>ROs eI H R ⟨ev,dq,eC⟩ bN) {r:Bool} (hp:iI.p F bN=some r):Rt (iI.tw F ⟨ev,dq,eC⟩ H) (iI.Q H R0 R0  r):=by
 obtain ⟨w0,gr⟩:=h0
 subst gl
 unfold iI.p at hp
 unfold iI.tw iI.twX
 have s0:=w0.rf
 obtain ⟨r1,e1,hp⟩:=ag hp
 refine aP (dT.P rfl ⟨w0,gr⟩ e1) ?_
 rintro _ H2 ⟨rfl,w2,s2,_⟩
 refine br ?_
 exact aW hp ⟨rfl,w2,(s0.trans s2),trivial⟩
def eF.Q (H0:Hp) (Ri R0:agX)  (r:Bool) (v:AV) (H':Hp):Prop:=v=(.bool r)/\Out H0 Ri H' (R0) λR=>True
def eF.p (F:Nat) (aa:Int) (ac:Int) (bT:agV):Option (Bool):=(g_.p F aa 0 48).bind λr2=>(bif r2 then ((g_.p F ac 0 48).bind λr4=>(bif r4 then ((fY.p F bT).bind λr6=>(bif (r6==(wrap .i64 (aa * ac))) then ((iI.p F bT).bind λr9=>some (!r9)) else (some false))) else (some false))) else (some false))
theorem eF.P {aa ac dH cK dI bT} (gE:cK=bT.length) (h0:Inn H R0 λR=>ROs eI H R ⟨dH,cK,dI⟩ bT) {r:Bool} (hp:eF.p F aa ac bT=some r):Rt (eF.tw F aa ac ⟨dH,cK,dI⟩ H) (eF.Q H R0 R0  r):=by
 obtain ⟨w0,fU⟩:=h0
 subst gE
 unfold eF.p at hp
 unfold eF.tw eF.twX
 have s0:=w0.rf
 refine cF w0 λH1 w1 s1=>?_
 refine lI w1 0 ?_
 obtain ⟨r2,e2,hp⟩:=ag hp
 refine aP (g_.P ⟨w1,trivial⟩ e2) ?_
 rintro _ H3 ⟨rfl,w3,s3,_⟩
 refine br ?_
 refine aX hp (λhp=>?_) λhp=>?_
 ·refine lI w3 0 ?_
  obtain ⟨r4,e4,hp⟩:=ag hp
  refine aP (g_.P ⟨w3,trivial⟩ e4) ?_
  rintro _ H5 ⟨rfl,w5,s5,_⟩
  refine br ?_
  refine aX hp (λhp=>?_) λhp=>?_
  ·refine lSl w5 0 ?_
   obtain ⟨r6,e6,hp⟩:=ag hp
   refine aP (fY.P rfl ⟨w5,(fU.step (s1.trans (s3.trans s5)))⟩ e6) ?_
   rintro _ H7 ⟨rfl,w7,s7,_⟩
   refine br ?_
   refine fQ (W.cons_of (Rn:=[]) w5 w7 s7) ?_
   refine lI w7 0 ?_
   refine lI w7 0 ?_
   refine aX hp (λhp=>?_) λhp=>?_
   ·refine lSl w7 0 ?_
    obtain ⟨r9,e9,hp⟩:=ag hp
    refine aP (iI.P rfl ⟨w7,(fU.step (s1.trans (s3.trans (s5.trans s7))))⟩ e9) ?_
    rintro _ H10 ⟨rfl,w10,s10,_⟩
    refine br ?_
    obtain ⟨w11,s11⟩:=w10.pp [] 1
    exact aW hp ⟨rfl,w11,(s0.trans (s1.trans (s3.trans (s5.trans (s7.trans (s10.trans s11)))))),trivial⟩
   ·obtain ⟨w12,s12⟩:=w7.pp [] 1
    exact aW hp ⟨rfl,w12,(s0.trans (s1.trans (s3.trans (s5.trans (s7.trans s12))))),trivial⟩
  ·obtain ⟨w13,s13⟩:=w5.pp [] 1
   exact aW hp ⟨rfl,w13,(s0.trans (s1.trans (s3.trans (s5.trans s13)))),trivial⟩
 ·obtain ⟨w14,s14⟩:=w3.pp [] 1
  exact aW hp ⟨rfl,w14,(s0.trans (s1.trans (s3.trans s14))),trivial⟩
def fH.Q (H0:Hp) (Ri R0:agX)  (r:ahf) (v:AV) (H':Hp):Prop:=∃ o2a:ON,∃ o2n:Nat,∃ o2k:List AV,v=(.agg [(.i r.1),(.i r.2.1),(.sl ⟨o2a,o2n,.ex o2n⟩)])/\o2n=(r.2.2).length/\Out H0 Ri H' (Rs.own ⟨o2a,o2n,.ex o2n⟩ eI.z o2k::R0) λR=>CR eI H' R o2k (r.2.2)
def fH.p (F:Nat) (aa:Int) (aQ:Int):Option (Int×Int×List Int):=(mkn (wrap .i64 (aa * aQ)) (0:Int)).bind λl2=>some (aa,aQ,l2)
theorem fH.P {aa aQ}  (h0:Inn H R0 λR=>True) {r:ahf} (hp:fH.p F aa aQ=some r):Rt (fH.tw F aa aQ H) (fH.Q H R0 R0  r):=by
 obtain ⟨w0,_⟩:=h0
 unfold fH.p at hp
 unfold fH.tw fH.twX
 have s0:=w0.rf
 refine cF w0 λH1 w1 s1=>?_
 obtain ⟨l2,e2,hp⟩:=ag hp
 refine UX eI (0:Int) w1 rfl rfl rfl e2 λH3 k3 w3 s3 c3=>?_
 refine aL w3 1 λH4 w4 s4=>?_
 refine aL w4 1 λH5 w5 s5=>?_
 refine aL w5 1 λH6 w6 s6=>?_
 refine lI w6 1 ?_
 refine lI w6 1 ?_
 refine lSl w6 1 ?_
 obtain ⟨w7,s7⟩:=w6.pp [0] 2
 exact aW hp ⟨_,_,_,rfl,rfl,w7,(s0.trans (s1.trans (s3.trans (s4.trans (s5.trans (s6.trans s7)))))),(c3.step (s4.trans (s5.trans (s6.trans s7))))⟩
def es.Q (H0:Hp) (Ri R0:agX)  (r:Int) (v:AV) (H':Hp):Prop:=v=(.i r)/\Out H0 Ri H' (R0) λR=>True
def es.p (F:Nat) (aa:Int):Option (Int):=(bif (decide (aa<0)) then (some (wrap .i64 (0 - aa))) else (some aa))
theorem es.P {aa}  (h0:Inn H R0 λR=>True) {r:Int} (hp:es.p F aa=some r):Rt (es.tw F aa H) (es.Q H R0 R0  r):=by
 obtain ⟨w0,_⟩:=h0
 unfold es.p at hp
 unfold es.tw es.twX
 have s0:=w0.rf
 refine aX hp (λhp=>?_) λhp=>?_
 ·exact aW hp ⟨rfl,w0,s0,trivial⟩
 ·exact aW hp ⟨rfl,w0,s0,trivial⟩
def fE.Q (H0:Hp) (Ri R0:agX)  (r:ahu) (v:AV) (H':Hp):Prop:=v=(.tup [(.i r.1),(.bool r.2)])/\Out H0 Ri H' (R0) λR=>True
def fE.p (F:Nat) (aa:Int) (aQ:Int) (eM:Int):Option (Int×Bool):=(bif (aa != 0) then ((es.p F aQ).bind λr1=>(es.p F aa).bind λr3=>(if r3=0 then none else ((bif (decide (r1>(wrap .i64 (Int.tdiv eM r3)))) then (some (0,false)) else (some ((wrap .i64 (aa * aQ)),true)))))) else (some ((wrap .i64 (aa * aQ)),true)))
theorem fE.P {aa aQ eM}  (h0:Inn H R0 λR=>True) {r:ahu} (hp:fE.p F aa aQ eM=some r):Rt (fE.tw F aa aQ eM H) (fE.Q H R0 R0  r):=by
 obtain ⟨w0,_⟩:=h0
 unfold fE.p at hp
 unfold fE.tw fE.twX
 have s0:=w0.rf
 refine aX hp (λhp=>?_) λhp=>?_
 ·obtain ⟨r1,e1,hp⟩:=ag hp
  refine aP (es.P ⟨w0,trivial⟩ e1) ?_
  rintro _ H2 ⟨rfl,w2,s2,_⟩
  refine br ?_
  obtain ⟨r3,e3,hp⟩:=ag hp
  refine aP (es.P ⟨w2,trivial⟩ e3) ?_
  rintro _ H4 ⟨rfl,w4,s4,_⟩
  refine br ?_
  obtain ⟨g5,hp⟩:=oI hp
  refine oJ g5 ?_
  refine aX hp (λhp=>?_) λhp=>?_
  ·exact aW hp ⟨rfl,w4,(s0.trans (s2.trans s4)),trivial⟩
  ·exact aW hp ⟨rfl,w4,(s0.trans (s2.trans s4)),trivial⟩
 ·exact aW hp ⟨rfl,w0,s0,trivial⟩
def dz.Q (H0:Hp) (Ri R0:agX)  (r:ahu) (v:AV) (H':Hp):Prop:=v=(.tup [(.i r.1),(.bool r.2)])/\Out H0 Ri H' (R0) λR=>True
def dz.S29 (H0:Hp) (Ri R0:agX)  (C:Int->Int->Nat->Nat->Nat->Nat->Int->Int->Int->Int->Hp->OA) (pC:Int->Int->Int->List Int->Int->List Int->Int->Int->Int->Int->Option (Int×Bool)):Prop:=∀ {nU gP SA wI SB wJ nV nW nX lG JA JB CD iv CE o_ JC JD qR qS},∀ {H:Hp},CD=qR.length->CE=qS.length->(Out H0 Ri H (Rs.blk iv [.i SA,.i wI,.sl ⟨JA,CD,JC⟩]::Rs.blk o_ [.i SB,.i wJ,.sl ⟨JB,CE,JD⟩]::R0) λR=>ROs eI H R ⟨JA,CD,JC⟩ qR/\ROs eI H R ⟨JB,CE,JD⟩ qS)->∀ {r:ahu},pC nU gP wI qR wJ qS nV nW nX lG=some r->Rt (C nU gP iv 0 o_ 0 nV nW nX lG H) (dz.Q H0 Ri R0  r)
def dz.pl29 (F:Nat) :Nat->Int->Int->Int->List Int->Int->List Int->Int->Int->Int->Int->Option (Int×Bool)
 | 0,_,_,_,_,_,_,_,_,_,_=>none
 | k+1,nU,gP,wI,qR,wJ,qS,nV,nW,nX,lG=>(bif (decide (lG<nX)) then ((ix qR (wrap .i64 ((wrap .i64 (nU * wI))+lG))).bind λn2=>(ix qS (wrap .i64 ((wrap .i64 (lG * wJ))+gP))).bind λn5=>(fE.p F (gt qR n2) (gt qS n5) 1000000000000).bind λr7=>(es.p F r7.1).bind λr9=>(bif (!r7.2) then (some (0,false)) else ((bif (decide ((wrap .i64 (nW+r9))>1000000000000)) then (some (0,false)) else (dz.pl29 F k nU gP wI qR wJ qS (wrap .i64 (nV+r7.1)) (wrap .i64 (nW+r9)) nX (wrap .i64 (lG+1))))))) else (some (nV,true)))
theorem dz.l29_P  :∀ k,dz.S29 H0 Ri R0  (dz.l29 F (bR.tw F) (fE.tw F) (es.tw F)  k) (dz.pl29 F  k):=by
 intro k
 induction k with
 | zero=>unfold dz.S29;intros;rename_i hp;cases hp
 | succ k ih=>
  intro nU gP SA wI SB wJ nV nW nX lG JA JB CD iv CE o_ JC JD qR qS H acL acM h0 r hp
  obtain ⟨w0,s0,SC,SD⟩:=h0
  subst acL
  subst acM
  unfold dz.pl29 at hp
  unfold dz.l29
  refine aX hp (λhp=>?_) λhp=>?_
  ·refine lI w0 0 ?_
   refine lI w0 0 ?_
   refine lSl w0 0 ?_
   refine bR.inl ?_
   refine cF w0 λH1 w1 s1=>?_
   refine lSl w1 0 ?_
   refine lI w1 0 ?_
   obtain ⟨n2,g2,hp⟩:=ag hp
   obtain ⟨p2,q2,i2,h2,j2⟩:=ROs.ixr (SC.step s1) rfl g2
   refine bu i2 ?_
   refine ⟨_,_,rfl,?_⟩
   refine br ?_
   refine fQ (W.cons_of (Rn:=[_]) w0 w1 s1) ?_
   have h2:_=[_]:=h2
   subst h2
   refine bu (dx (j2 0 _ rfl)) ?_
   refine lI w1 2 ?_
   refine lI w1 2 ?_
   refine lSl w1 2 ?_
   refine bR.inl ?_
   refine cF w1 λH4 w4 s4=>?_
   refine lSl w4 0 ?_
   refine lI w4 0 ?_
   obtain ⟨n5,g5,hp⟩:=ag hp
   obtain ⟨p5,q5,i5,h5,j5⟩:=ROs.ixr (SD.step (s1.trans s4)) rfl g5
   refine bu i5 ?_
   refine ⟨_,_,rfl,?_⟩
   refine br ?_
   refine fQ (W.cons_of (Rn:=[_]) w1 w4 s4) ?_
   have h5:_=[_]:=h5
   subst h5
   refine bu (dx (j5 0 _ rfl)) ?_
   obtain ⟨r7,e7,hp⟩:=ag hp
   refine aP (fE.P ⟨w4,trivial⟩ e7) ?_
   rintro _ H8 ⟨rfl,w8,s8,_⟩
   refine br (br (br (br (br ?_))))
   obtain ⟨r9,e9,hp⟩:=ag hp
   refine aP (es.P ⟨w8,trivial⟩ e9) ?_
   rintro _ H10 ⟨rfl,w10,s10,_⟩
   refine br ?_
   refine aX hp (λhp=>?_) λhp=>?_
   ·obtain ⟨w11,s11⟩:=w10.pp [] 4
    exact aW hp ⟨rfl,w11,(s0.trans (s1.trans (s4.trans (s8.trans (s10.trans s11))))),trivial⟩
   ·refine aX hp (λhp=>?_) λhp=>?_
    ·obtain ⟨w12,s12⟩:=w10.pp [] 4
     exact aW hp ⟨rfl,w12,(s0.trans (s1.trans (s4.trans (s8.trans (s10.trans s12))))),trivial⟩
    ·obtain ⟨w13,s13⟩:=w10.pp [2,3] 4
     exact ih rfl rfl ⟨w13,(s0.trans (s1.trans (s4.trans (s8.trans (s10.trans s13))))),(SC.step (s1.trans (s4.trans (s8.trans (s10.trans s13))))),(SD.step (s1.trans (s4.trans (s8.trans (s10.trans s13)))))⟩ hp
  ·obtain ⟨w14,s14⟩:=w0.pp [] 2
   exact aW hp ⟨rfl,w14,(s0.trans s14),trivial⟩
def dz.p (F:Nat) (ac:Int) (bT:agV) (cu:Int) (jM:agV) (mC:Int) (mD:Int):Option (Int×Bool):=dz.pl29 F F mC mD ac bT cu jM 0 0 ac 0
theorem dz.P {aa ac aA cu mC mD dH qT cK oF dI qU bT jM} (gE:cK=bT.length) (ye:oF=jM.length) (h0:Inn H R0 λR=>ROs eI H R ⟨dH,cK,dI⟩ bT/\ROs eI H R ⟨qT,oF,qU⟩ jM) {r:ahu} (hp:dz.p F ac bT cu jM mC mD=some r):Rt (dz.tw F aa ac ⟨dH,cK,dI⟩ aA cu ⟨qT,oF,qU⟩ mC mD H) (dz.Q H R0 R0  r):=by
 obtain ⟨w0,fU,sV⟩:=h0
 subst gE
 subst ye
 unfold dz.p at hp
 unfold dz.tw dz.twX
 have s0:=w0.rf
 refine cF w0 λH1 w1 s1=>?_
 refine cF w1 λH2 w2 s2=>?_
 refine lI w2 1 ?_
 obtain ⟨w3,s3⟩:=w2.pp [1,0] 2
 exact dz.l29_P F rfl rfl ⟨w3,(s0.trans (s1.trans (s2.trans s3))),(fU.step (s1.trans (s2.trans s3))),(sV.step (s1.trans (s2.trans s3)))⟩ hp
def bI.Q (H0:Hp) (Ri R0:agX)  (r:ahF) (v:AV) (H':Hp):Prop:=∃ o2a:ON,∃ o2n:Nat,∃ o2c:Cap,∃ o2k:List AV,v=(.tup [(.agg [(.i r.1),(.i r.2.1),(.sl ⟨o2a,o2n,o2c⟩)]),(.i r.2.2.2)])/\o2n=(r.2.2.1).length/\Out H0 Ri H' (Rs.own ⟨o2a,o2n,o2c⟩ eI.z o2k::R0) λR=>CR eI H' R o2k (r.2.2.1)
def bI.S61 (H0:Hp) (Ri R0:agX)  (C:ahq) (pC:ahy):Prop:=∀ {SF yf SG wK SH SJ wL wM od mX JE JF JG JH CF rJ CG qt CH mW CI kS JI JJ JK JL wN wO JM sW JN JO},∀ {H:Hp},CF=wN.length->CG=wO.length->CH=JM.length->CI=sW.length->(Out H0 Ri H (Rs.blk rJ [.i SF,.i yf,.sl ⟨JE,CF,JI⟩]::Rs.blk qt [.i SG,.i wK,.sl ⟨JF,CG,JJ⟩]::Rs.own ⟨JG,CH,JK⟩ eI.z JN::Rs.blk mW [.i SH,.i SJ,.sl ⟨JG,CH,JK⟩]::Rs.own ⟨JH,CI,JL⟩ eI.z JO::Rs.blk kS [.i wL,.i wM,.sl ⟨JH,CI,JL⟩]::R0) λR=>ROs eI H R ⟨JE,CF,JI⟩ wN/\ROs eI H R ⟨JF,CG,JJ⟩ wO/\CR eI H R JN JM/\CR eI H R JO sW)->∀ {r:ahF},pC yf wN wK wO wL wM sW od mX=some r->Rt (C rJ 0 qt 0 mW 0 kS 0 od mX H) (bI.Q H0 Ri R0  r)
def bI.S3931 (H0:Hp) (Ri R0:agX)  (C:Nat->Nat->Nat->Nat->Nat->Nat->Nat->Nat->Int->Int->Int->Int->Int->Hp->OA) (pC:Int->List Int->Int->List Int->Int->Int->List Int->Int->Int->Int->Int->Int->Option (Int×Int×List Int×Int)):Prop:=∀ {SK sX SL sY SM SN wP sZ oa ob mV oc lH JP JQ JR JS CJ nY CK nZ CL mE CM n_ JT JU JV JW qV qW JX qX JY JZ},∀ {H:Hp},CJ=qV.length->CK=qW.length->CL=JX.length->CM=qX.length->(Out H0 Ri H (Rs.blk nY [.i SK,.i sX,.sl ⟨JP,CJ,JT⟩]::Rs.blk nZ [.i SL,.i sY,.sl ⟨JQ,CK,JU⟩]::Rs.own ⟨JR,CL,JV⟩ eI.z JY::Rs.blk mE [.i SM,.i SN,.sl ⟨JR,CL,JV⟩]::Rs.own ⟨JS,CM,JW⟩ eI.z JZ::Rs.blk n_ [.i wP,.i sZ,.sl ⟨JS,CM,JW⟩]::R0) λR=>ROs eI H R ⟨JP,CJ,JT⟩ qV/\ROs eI H R ⟨JQ,CK,JU⟩ qW/\CR eI H R JY JX/\CR eI H R JZ qX)->∀ {r:ahF},pC sX qV sY qW wP sZ qX oa ob mV oc lH=some r->Rt (C nY 0 nZ 0 mE 0 n_ 0 oa ob mV oc lH H) (bI.Q H0 Ri R0  r)
def bI.pj3 (F:Nat) (iM:ahy) (CN:Int) (yh:agV) (CO:Int) (yi:agV) (CP:Int) (CQ:Int) (yj:agV) (uH:Int) (uI:Int):Option (Int×Int×List Int×Int):=iM CN yh CO yi CP CQ yj uH (wrap .i64 (uI+1))
theorem bI.j3_P  {C61_:ahq} {iM:ahy} (hC61:bI.S61 H0 Ri R0  C61_ iM) {acN CN acO CO acP acQ CP CQ uH uI SO SP SQ SU J_ zT Ka zU Kb zV Kc zW SV SW SX SY yh yi SZ yj S_ Ta} (acR:J_=yh.length) (acS:Ka=yi.length) (acT:Kb=SZ.length) (acU:Kc=yj.length) (h0:Out H0 Ri H (Rs.blk zT [.i acN,.i CN,.sl ⟨SO,J_,SV⟩]::Rs.blk zU [.i acO,.i CO,.sl ⟨SP,Ka,SW⟩]::Rs.own ⟨SQ,Kb,SX⟩ eI.z S_::Rs.blk zV [.i acP,.i acQ,.sl ⟨SQ,Kb,SX⟩]::Rs.own ⟨SU,Kc,SY⟩ eI.z Ta::Rs.blk zW [.i CP,.i CQ,.sl ⟨SU,Kc,SY⟩]::R0) λR=>ROs eI H R ⟨SO,J_,SV⟩ yh/\ROs eI H R ⟨SP,Ka,SW⟩ yi/\CR eI H R S_ SZ/\CR eI H R Ta yj) {r:ahF} (hp:bI.pj3 F iM CN yh CO yi CP CQ yj uH uI=some r):Rt (bI.j3 F (eF.tw F) (fH.tw F) (dz.tw F) (bR.tw F) C61_ zT 0 zU 0 zV 0 zW 0 uH uI H) (bI.Q H0 Ri R0  r):=by
 obtain ⟨w0,s0,acV,acW,acX,acY⟩:=h0
 subst acR
 subst acS
 subst acT
 subst acU
 unfold bI.pj3 at hp
 unfold bI.j3
 exact hC61 rfl rfl rfl rfl ⟨w0,s0,acV,acW,acX,acY⟩ hp
def bI.pj4 (F:Nat) (iM:ahy) (CS:Int) (yk:agV) (CT:Int) (ym:agV) (CU:Int) (CV:Int) (yn:agV) (uJ:Int) (uK:Int):Option (Int×Int×List Int×Int):=bI.pj3 F iM CS yk CT ym CU CV yn uJ uK
theorem bI.j4_P  {C61_:ahq} {iM:ahy} (hC61:bI.S61 H0 Ri R0  C61_ iM) {acZ CS ac0 CT ac1 ac2 CU CV uJ uK Tb Tc Td Te Kd zX Ke zY Kf zZ Kg z_ Tf Tg Th Ti yk ym Tj yn Tk Tl} (ac3:Kd=yk.length) (ac4:Ke=ym.length) (ac5:Kf=Tj.length) (ac6:Kg=yn.length) (h0:Out H0 Ri H (Rs.blk zX [.i acZ,.i CS,.sl ⟨Tb,Kd,Tf⟩]::Rs.blk zY [.i ac0,.i CT,.sl ⟨Tc,Ke,Tg⟩]::Rs.own ⟨Td,Kf,Th⟩ eI.z Tk::Rs.blk zZ [.i ac1,.i ac2,.sl ⟨Td,Kf,Th⟩]::Rs.own ⟨Te,Kg,Ti⟩ eI.z Tl::Rs.blk z_ [.i CU,.i CV,.sl ⟨Te,Kg,Ti⟩]::R0) λR=>ROs eI H R ⟨Tb,Kd,Tf⟩ yk/\ROs eI H R ⟨Tc,Ke,Tg⟩ ym/\CR eI H R Tk Tj/\CR eI H R Tl yn) {r:ahF} (hp:bI.pj4 F iM CS yk CT ym CU CV yn uJ uK=some r):Rt (bI.j4 F (eF.tw F) (fH.tw F) (dz.tw F) (bR.tw F) C61_ zX 0 zY 0 zZ 0 z_ 0 uJ uK H) (bI.Q H0 Ri R0  r):=by
 obtain ⟨w0,s0,ac7,ac8,ac9,ac_⟩:=h0
 subst ac3
 subst ac4
 subst ac5
 subst ac6
 unfold bI.pj4 at hp
 unfold bI.j4
 exact bI.j3_P (@hC61) rfl rfl rfl rfl ⟨w0,s0,ac7,ac8,ac9,ac_⟩ hp
def bI.pl3931 (F:Nat) (iM:ahy):Nat->Int->List Int->Int->List Int->Int->Int->List Int->Int->Int->Int->Int->Int->Option (Int×Int×List Int×Int)
 | 0,_,_,_,_,_,_,_,_,_,_,_,_=>none
 | k+1,sX,qV,sY,qW,wP,sZ,qX,oa,ob,mV,oc,lH=>(bif (decide (lH<oc)) then ((dz.p F sX qV sY qW mV lH).bind λr1=>(bif (!r1.2) then (some (0,0,([]:List Int),3)) else ((ix qX (wrap .i64 ((wrap .i64 (mV * sZ))+lH))).bind λn9=>(some (qX.set n9 r1.1)).bind λl10=>bI.pl3931 F iM k sX qV sY qW wP sZ l10 oa ob mV oc (wrap .i64 (lH+1))))) else (bI.pj4 F iM sX qV sY qW wP sZ qX oa ob))
theorem bI.l3931_P  {C61_:ahq} {iM:ahy} (hC61:bI.S61 H0 Ri R0  C61_ iM):∀ k,bI.S3931 H0 Ri R0  (bI.l3931 F (eF.tw F) (fH.tw F) (dz.tw F) (bR.tw F) C61_ k) (bI.pl3931 F iM k):=by
 intro k
 induction k with
 | zero=>unfold bI.S3931;intros;rename_i hp;cases hp
 | succ k ih=>
  intro SK sX SL sY SM SN wP sZ oa ob mV oc lH JP JQ JR JS CJ nY CK nZ CL mE CM n_ JT JU JV JW qV qW JX qX JY JZ H ada adb adc ade h0 r hp
  obtain ⟨w0,s0,Kh,Ki,Tn,Kj⟩:=h0
  subst ada
  subst adb
  subst adc
  subst ade
  unfold bI.pl3931 at hp
  unfold bI.l3931
  refine aX hp (λhp=>?_) λhp=>?_
  ·refine lI w0 0 ?_
   refine lI w0 0 ?_
   refine lSl w0 0 ?_
   refine lI w0 1 ?_
   refine lI w0 1 ?_
   refine lSl w0 1 ?_
   obtain ⟨r1,e1,hp⟩:=ag hp
   refine aP (dz.P rfl rfl ⟨w0,Kh,Ki⟩ e1) ?_
   rintro _ H2 ⟨rfl,w2,s2,_⟩
   refine br (br (br (br (br ?_))))
   refine aX hp (λhp=>?_) λhp=>?_
   ·refine aL w2 3 λH3 w3 s3=>?_
    refine aL w3 3 λH4 w4 s4=>?_
    refine aL w4 3 λH5 w5 s5=>?_
    refine lI w5 3 ?_
    refine lI w5 3 ?_
    refine lSl w5 3 ?_
    obtain ⟨w6,s6⟩:=w5.nilS eI.z (by decide)
    obtain ⟨w7,s7⟩:=w6.pp [0] 7
    exact aW hp ⟨_,_,_,_,rfl,rfl,w7,(s0.trans (s2.trans (s3.trans (s4.trans (s5.trans (s6.trans s7)))))),((CR.empty:CR eI _ _ [] []).step s7)⟩
   ·refine lI w2 5 ?_
    refine lI w2 5 ?_
    refine lSl w2 5 ?_
    refine bR.inl ?_
    refine cF w2 λH8 w8 s8=>?_
    refine lSl w8 0 ?_
    refine lI w8 0 ?_
    obtain ⟨n9,g9,hp⟩:=ag hp
    obtain ⟨p9,q9,i9,h9,j9⟩:=W.ixo (E:=eI) w8 (i:=5) rfl rfl (Kj.step (s2.trans s8)) g9
    refine bu i9 ?_
    refine ⟨_,_,rfl,?_⟩
    refine br ?_
    obtain ⟨l10,e10,hp⟩:=ag hp
    refine iF eI w8 (i:=5) (j:=0) (p:=p9) rfl rfl (Kj.step (s2.trans s8)) g9 i9 e10 rfl rfl (λ_ h=>by have h:_=[_]:=h;subst h;exact rfl) λH11 k11 w11 s11 c11=>?_
    obtain ⟨w12,s12⟩:=w11.pp [1,2,3,4,5,6] 7
    exact ih rfl rfl rfl ((fJ e10).symm) ⟨w12,(s0.trans (s2.trans (s8.trans (s11.trans s12)))),(Kh.step (s2.trans (s8.trans (s11.trans s12)))),(Ki.step (s2.trans (s8.trans (s11.trans s12)))),(Tn.step (s2.trans (s8.trans (s11.trans s12)))),(c11.step s12)⟩ hp
  ·exact bI.j4_P (@hC61) rfl rfl rfl rfl ⟨w0,s0,Kh,Ki,Tn,Kj⟩ hp
def bI.pl61 (F:Nat) :Nat->Int->List Int->Int->List Int->Int->Int->List Int->Int->Int->Option (Int×Int×List Int×Int)
 | 0,_,_,_,_,_,_,_,_,_=>none
 | k+1,yf,wN,wK,wO,wL,wM,sW,od,mX=>(bif (decide (mX<od)) then (bI.pl3931 F (bI.pl61 F k) F yf wN wK wO wL wM sW od mX mX wK 0) else (some (wL,wM,sW,0)))
theorem bI.l61_P  :∀ k,bI.S61 H0 Ri R0  (bI.l61 F (eF.tw F) (fH.tw F) (dz.tw F) (bR.tw F)  k) (bI.pl61 F  k):=by
 intro k
 induction k with
 | zero=>unfold bI.S61;intros;rename_i hp;cases hp
 | succ k ih=>
  intro SF yf SG wK SH SJ wL wM od mX JE JF JG JH CF rJ CG qt CH mW CI kS JI JJ JK JL wN wO JM sW JN JO H adf adg adh adi h0 r hp
  obtain ⟨w0,s0,adj,adk,adl,To⟩:=h0
  subst adf
  subst adg
  subst adh
  subst adi
  unfold bI.pl61 at hp
  unfold bI.l61
  refine aX hp (λhp=>?_) λhp=>?_
  ·refine lI w0 1 ?_
   exact bI.l3931_P (@ih) F rfl rfl rfl rfl ⟨w0,s0,adj,adk,adl,To⟩ hp
  ·refine lI w0 5 ?_
   refine lI w0 5 ?_
   refine lSl w0 5 ?_
   refine aL w0 3 λH1 w1 s1=>?_
   refine aL w1 3 λH2 w2 s2=>?_
   refine aL w2 3 λH3 w3 s3=>?_
   refine lI w3 3 ?_
   refine lI w3 3 ?_
   refine lSl w3 3 ?_
   obtain ⟨w4,s4⟩:=w3.pp [4] 6
   exact aW hp ⟨_,_,_,_,rfl,rfl,w4,(s0.trans (s1.trans (s2.trans (s3.trans s4)))),(To.step (s1.trans (s2.trans (s3.trans s4))))⟩
def bI.p (F:Nat) (aa:Int) (ac:Int) (bT:agV) (aA:Int) (cu:Int) (jM:agV):Option (Int×Int×List Int×Int):=(eF.p F aa ac bT).bind λr4=>(bif (!r4) then (some (0,0,([]:List Int),1)) else ((eF.p F aA cu jM).bind λr11=>(bif (!r11) then (some (0,0,([]:List Int),1)) else ((bif (ac != aA) then (some (0,0,([]:List Int),2)) else ((fH.p F aa cu).bind λr23=>bI.pl61 F F ac bT cu jM r23.1 r23.2.1 r23.2.2 aa 0))))))
theorem bI.P {aa ac aA cu dH qT cK oF dI qU bT jM} (gE:cK=bT.length) (ye:oF=jM.length) (h0:Inn H R0 λR=>ROs eI H R ⟨dH,cK,dI⟩ bT/\ROs eI H R ⟨qT,oF,qU⟩ jM) {r:ahF} (hp:bI.p F aa ac bT aA cu jM=some r):Rt (bI.tw F aa ac ⟨dH,cK,dI⟩ aA cu ⟨qT,oF,qU⟩ H) (bI.Q H R0 R0  r):=by
 obtain ⟨w0,fU,sV⟩:=h0
 subst gE
 subst ye
 unfold bI.p at hp
 unfold bI.tw bI.twX
 have s0:=w0.rf
 refine cF w0 λH1 w1 s1=>?_
 refine cF w1 λH2 w2 s2=>?_
 refine cF w2 λH3 w3 s3=>?_
 refine lI w3 2 ?_
 refine lI w3 2 ?_
 refine lSl w3 2 ?_
 obtain ⟨r4,e4,hp⟩:=ag hp
 refine aP (eF.P rfl ⟨w3,(fU.step (s1.trans (s2.trans s3)))⟩ e4) ?_
 rintro _ H5 ⟨rfl,w5,s5,_⟩
 refine br ?_
 refine aX hp (λhp=>?_) λhp=>?_
 ·refine aL w5 0 λH6 w6 s6=>?_
  refine aL w6 0 λH7 w7 s7=>?_
  refine aL w7 0 λH8 w8 s8=>?_
  refine lI w8 0 ?_
  refine lI w8 0 ?_
  refine lSl w8 0 ?_
  obtain ⟨w9,s9⟩:=w8.nilS eI.z (by decide)
  obtain ⟨w10,s10⟩:=w9.pp [0] 4
  exact aW hp ⟨_,_,_,_,rfl,rfl,w10,(s0.trans (s1.trans (s2.trans (s3.trans (s5.trans (s6.trans (s7.trans (s8.trans (s9.trans s10))))))))),((CR.empty:CR eI _ _ [] []).step s10)⟩
 ·refine lI w5 1 ?_
  refine lI w5 1 ?_
  refine lSl w5 1 ?_
  obtain ⟨r11,e11,hp⟩:=ag hp
  refine aP (eF.P rfl ⟨w5,(sV.step (s1.trans (s2.trans (s3.trans s5))))⟩ e11) ?_
  rintro _ H12 ⟨rfl,w12,s12,_⟩
  refine br ?_
  refine aX hp (λhp=>?_) λhp=>?_
  ·refine aL w12 0 λH13 w13 s13=>?_
   refine aL w13 0 λH14 w14 s14=>?_
   refine aL w14 0 λH15 w15 s15=>?_
   refine lI w15 0 ?_
   refine lI w15 0 ?_
   refine lSl w15 0 ?_
   obtain ⟨w16,s16⟩:=w15.nilS eI.z (by decide)
   obtain ⟨w17,s17⟩:=w16.pp [0] 4
   exact aW hp ⟨_,_,_,_,rfl,rfl,w17,(s0.trans (s1.trans (s2.trans (s3.trans (s5.trans (s12.trans (s13.trans (s14.trans (s15.trans (s16.trans s17)))))))))),((CR.empty:CR eI _ _ [] []).step s17)⟩
  ·refine lI w12 2 ?_
   refine lI w12 1 ?_
   refine aX hp (λhp=>?_) λhp=>?_
   ·refine aL w12 0 λH18 w18 s18=>?_
    refine aL w18 0 λH19 w19 s19=>?_
    refine aL w19 0 λH20 w20 s20=>?_
    refine lI w20 0 ?_
    refine lI w20 0 ?_
    refine lSl w20 0 ?_
    obtain ⟨w21,s21⟩:=w20.nilS eI.z (by decide)
    obtain ⟨w22,s22⟩:=w21.pp [0] 4
    exact aW hp ⟨_,_,_,_,rfl,rfl,w22,(s0.trans (s1.trans (s2.trans (s3.trans (s5.trans (s12.trans (s18.trans (s19.trans (s20.trans (s21.trans s22)))))))))),((CR.empty:CR eI _ _ [] []).step s22)⟩
   ·refine lI w12 2 ?_
    refine lI w12 1 ?_
    obtain ⟨r23,e23,hp⟩:=ag hp
    refine aP (fH.P ⟨w12,trivial⟩ e23) ?_
    rintro _ H24 ⟨o2a_24,o2n_24,o2k_24,rfl,rfl,w24,s24,f24_0⟩
    refine br (br (br (br (br (br (br ?_))))))
    refine cF w24 λH25 w25 s25=>?_
    refine aL w25 0 λH26 w26 s26=>?_
    refine aL w26 0 λH27 w27 s27=>?_
    refine aL w27 0 λH28 w28 s28=>?_
    refine lI w28 4 ?_
    obtain ⟨w29,s29⟩:=w28.nilS eI.z (by decide)
    obtain ⟨w30,s30⟩:=w29.pp [5,4,0,3,2,1] 6
    exact bI.l61_P F rfl rfl rfl rfl ⟨w30,(s0.trans (s1.trans (s2.trans (s3.trans (s5.trans (s12.trans (s24.trans (s25.trans (s26.trans (s27.trans (s28.trans (s29.trans s30)))))))))))),(fU.step (s1.trans (s2.trans (s3.trans (s5.trans (s12.trans (s24.trans (s25.trans (s26.trans (s27.trans (s28.trans (s29.trans s30)))))))))))),(sV.step (s1.trans (s2.trans (s3.trans (s5.trans (s12.trans (s24.trans (s25.trans (s26.trans (s27.trans (s28.trans (s29.trans s30)))))))))))),((CR.empty:CR eI _ _ [] []).step s30),(f24_0.step (s25.trans (s26.trans (s27.trans (s28.trans (s29.trans s30))))))⟩ hp
def jF.Q (H0:Hp) (Ri R0:agX)  (r:Bool) (v:AV) (H':Hp):Prop:=v=(.bool r)/\Out H0 Ri H' (R0) λR=>True
def jF.p (F:Nat) (aa:Int):Option (Bool):=some (aa != 0)
theorem jF.P {aa}  (h0:Inn H R0 λR=>True) {r:Bool} (hp:jF.p F aa=some r):Rt (jF.tw F aa H) (jF.Q H R0 R0  r):=by
 obtain ⟨w0,_⟩:=h0
 unfold jF.p at hp
 unfold jF.tw jF.twX
 have s0:=w0.rf
 exact aW hp ⟨rfl,w0,s0,trivial⟩
def dU.Q (H0:Hp) (Ri R0:agX)  (r:Int) (v:AV) (H':Hp):Prop:=v=(.i r)/\Out H0 Ri H' (R0) λR=>True
def dU.S13 (H0:Hp) (Ri R0:agX)  (C:ahs) (pC:ahN):Prop:=∀ {lZ kz l_ f_ eN dG},∀ {H:Hp},kz=f_.length->(Out H0 Ri H R0 λR=>ROs eI H R ⟨lZ,kz,l_⟩ f_)->∀ {r:Int},pC f_ eN dG=some r->Rt (C ⟨lZ,kz,l_⟩ eN dG H) (dU.Q H0 Ri R0  r)
def dU.pl13 (F:Nat) :Nat->List Int->Int->Int->Option (Int)
 | 0,_,_,_=>none
 | k+1,f_,eN,dG=>(bif (decide (dG<eN)) then ((ix f_ dG).bind λn1=>(jF.p F (gt f_ n1)).bind λr2=>(bif r2 then (some dG) else (dU.pl13 F k f_ eN (wrap .i64 (dG+1))))) else (some (-1)))
theorem dU.l13_P  :∀ k,dU.S13 H0 Ri R0  (dU.l13 F (jF.tw F)  k) (dU.pl13 F  k):=by
 intro k
 induction k with
 | zero=>unfold dU.S13;intros;rename_i hp;cases hp
 | succ k ih=>
  intro lZ kz l_ f_ eN dG H sU h0 r hp
  obtain ⟨w0,s0,oE⟩:=h0
  subst sU
  unfold dU.pl13 at hp
  unfold dU.l13
  refine aX hp (λhp=>?_) λhp=>?_
  ·obtain ⟨n1,g1,hp⟩:=ag hp
   obtain ⟨p1,q1,i1,h1,j1⟩:=ROs.ixr oE rfl g1
   refine bu i1 ?_
   have h1:_=[_]:=h1
   subst h1
   refine bu (dx (j1 0 _ rfl)) ?_
   obtain ⟨r2,e2,hp⟩:=ag hp
   refine aP (jF.P ⟨w0,trivial⟩ e2) ?_
   rintro _ H3 ⟨rfl,w3,s3,_⟩
   refine br ?_
   refine aX hp (λhp=>?_) λhp=>?_
   ·exact aW hp ⟨rfl,w3,(s0.trans s3),trivial⟩
   ·exact ih rfl ⟨w3,(s0.trans s3),(oE.step s3)⟩ hp
  ·exact aW hp ⟨rfl,w0,s0,trivial⟩
def dU.p (F:Nat) (bN:agV):Option (Int):=dU.pl13 F F bN (bN.length:Int) 0
theorem dU.P {ev dq eC bN} (gl:dq=bN.length) (h0:Inn H R0 λR=>ROs eI H R ⟨ev,dq,eC⟩ bN) {r:Int} (hp:dU.p F bN=some r):Rt (dU.tw F ⟨ev,dq,eC⟩ H) (dU.Q H R0 R0  r):=by
 obtain ⟨w0,gr⟩:=h0
 subst gl
 unfold dU.p at hp
 unfold dU.tw dU.twX
 have s0:=w0.rf
 exact dU.l13_P F rfl ⟨w0,s0,gr⟩ hp
def iK.Q (H0:Hp) (Ri R0:agX)  (r:Bool) (v:AV) (H':Hp):Prop:=v=(.bool r)/\Out H0 Ri H' (R0) λR=>True
def iK.p (F:Nat) (bN:agV):Option (Bool):=(dU.p F bN).bind λr1=>some (decide (r1>=0))
theorem iK.P {ev dq eC bN} (gl:dq=bN.length) (h0:Inn H R0 λR=>ROs eI H R ⟨ev,dq,eC⟩ bN) {r:Bool} (hp:iK.p F bN=some r):Rt (iK.tw F ⟨ev,dq,eC⟩ H) (iK.Q H R0 R0  r):=by
 obtain ⟨w0,gr⟩:=h0
 subst gl
 unfold iK.p at hp
 unfold iK.tw iK.twX
 have s0:=w0.rf
 obtain ⟨r1,e1,hp⟩:=ag hp
 refine aP (dU.P rfl ⟨w0,gr⟩ e1) ?_
 rintro _ H2 ⟨rfl,w2,s2,_⟩
 refine br ?_
 exact aW hp ⟨rfl,w2,(s0.trans s2),trivial⟩
def dC.Q (H0:Hp) (Ri R0:agX)  (r:ahf) (v:AV) (H':Hp):Prop:=∃ o2a:ON,∃ o2n:Nat,∃ o2c:Cap,∃ o2k:List AV,v=(.agg [(.i r.1),(.i r.2.1),(.sl ⟨o2a,o2n,o2c⟩)])/\o2n=(r.2.2).length/\Out H0 Ri H' (Rs.own ⟨o2a,o2n,o2c⟩ eI.z o2k::R0) λR=>CR eI H' R o2k (r.2.2)
def dC.S29 (H0:Hp) (Ri R0:agX)  (C:ahb) (pC:Int->Int->List Int->Int->Int->Option (Int×Int×List Int)):Prop:=∀ {xB xC nb mJ oe lJ rS rT pL ed pM iH rU rV rW kY rX rY},∀ {H:Hp},pL=rW.length->pM=kY.length->(Out H0 Ri H (Rs.own ⟨rS,pL,rU⟩ eI.z rX::Rs.blk ed [.i xB,.i xC,.sl ⟨rS,pL,rU⟩]::Rs.own ⟨rT,pM,rV⟩ eI.z rY::Rs.blk iH [.i nb,.i mJ,.sl ⟨rT,pM,rV⟩]::R0) λR=>CR eI H R rX rW/\CR eI H R rY kY)->∀ {r:ahf},pC nb mJ kY oe lJ=some r->Rt (C ed 0 iH 0 oe lJ H) (dC.Q H0 Ri R0  r)
def dC.pl29 (F:Nat) :Nat->Int->Int->List Int->Int->Int->Option (Int×Int×List Int)
 | 0,_,_,_,_,_=>none
 | k+1,nb,mJ,kY,oe,lJ=>(bif (decide (lJ<oe)) then ((ix kY (wrap .i64 ((wrap .i64 (lJ * mJ))+lJ))).bind λn2=>(some (kY.set n2 1)).bind λl3=>dC.pl29 F k nb mJ l3 oe (wrap .i64 (lJ+1))) else (some (nb,mJ,kY)))
theorem dC.l29_P  :∀ k,dC.S29 H0 Ri R0  (dC.l29 F (fH.tw F) (bR.tw F)  k) (dC.pl29 F  k):=by
 intro k
 induction k with
 | zero=>unfold dC.S29;intros;rename_i hp;cases hp
 | succ k ih=>
  intro xB xC nb mJ oe lJ rS rT pL ed pM iH rU rV rW kY rX rY H Ek El h0 r hp
  obtain ⟨w0,s0,Em,rZ⟩:=h0
  subst Ek
  subst El
  unfold dC.pl29 at hp
  unfold dC.l29
  refine aX hp (λhp=>?_) λhp=>?_
  ·refine lI w0 3 ?_
   refine lI w0 3 ?_
   refine lSl w0 3 ?_
   refine bR.inl ?_
   refine cF w0 λH1 w1 s1=>?_
   refine lSl w1 0 ?_
   refine lI w1 0 ?_
   obtain ⟨n2,g2,hp⟩:=ag hp
   obtain ⟨p2,q2,i2,h2,j2⟩:=W.ixo (E:=eI) w1 (i:=3) rfl rfl (rZ.step s1) g2
   refine bu i2 ?_
   refine ⟨_,_,rfl,?_⟩
   refine br ?_
   obtain ⟨l3,e3,hp⟩:=ag hp
   refine iF eI w1 (i:=3) (j:=0) (p:=p2) rfl rfl (rZ.step s1) g2 i2 e3 rfl rfl (λ_ h=>by have h:_=[_]:=h;subst h;exact rfl) λH4 k4 w4 s4 c4=>?_
   obtain ⟨w5,s5⟩:=w4.pp [1,2,3,4] 5
   exact ih rfl ((fJ e3).symm) ⟨w5,(s0.trans (s1.trans (s4.trans s5))),(Em.step (s1.trans (s4.trans s5))),(c4.step s5)⟩ hp
  ·refine lI w0 3 ?_
   refine lI w0 3 ?_
   refine lSl w0 3 ?_
   refine aL w0 1 λH6 w6 s6=>?_
   refine aL w6 1 λH7 w7 s7=>?_
   refine aL w7 1 λH8 w8 s8=>?_
   refine lI w8 1 ?_
   refine lI w8 1 ?_
   refine lSl w8 1 ?_
   obtain ⟨w9,s9⟩:=w8.pp [2] 4
   exact aW hp ⟨_,_,_,_,rfl,rfl,w9,(s0.trans (s6.trans (s7.trans (s8.trans s9)))),(rZ.step (s6.trans (s7.trans (s8.trans s9))))⟩
def dC.p (F:Nat) (aa:Int):Option (Int×Int×List Int):=(fH.p F aa aa).bind λr2=>dC.pl29 F F r2.1 r2.2.1 r2.2.2 aa 0
theorem dC.P {aa}  (h0:Inn H R0 λR=>True) {r:ahf} (hp:dC.p F aa=some r):Rt (dC.tw F aa H) (dC.Q H R0 R0  r):=by
 obtain ⟨w0,_⟩:=h0
 unfold dC.p at hp
 unfold dC.tw dC.twX
 have s0:=w0.rf
 refine cF w0 λH1 w1 s1=>?_
 obtain ⟨r2,e2,hp⟩:=ag hp
 refine aP (fH.P ⟨w1,trivial⟩ e2) ?_
 rintro _ H3 ⟨o2a_3,o2n_3,o2k_3,rfl,rfl,w3,s3,f3_0⟩
 refine br (br (br (br (br (br (br ?_))))))
 refine cF w3 λH4 w4 s4=>?_
 refine aL w4 0 λH5 w5 s5=>?_
 refine aL w5 0 λH6 w6 s6=>?_
 refine aL w6 0 λH7 w7 s7=>?_
 obtain ⟨w8,s8⟩:=w7.nilS eI.z (by decide)
 obtain ⟨w9,s9⟩:=w8.pp [0,3,2,1] 4
 exact dC.l29_P F rfl rfl ⟨w9,(s0.trans (s1.trans (s3.trans (s4.trans (s5.trans (s6.trans (s7.trans (s8.trans s9)))))))),((CR.empty:CR eI _ _ [] []).step s9),(f3_0.step (s4.trans (s5.trans (s6.trans (s7.trans (s8.trans s9))))))⟩ hp
def jQ.Q (H0:Hp) (Ri R0:agX)  (r:agV) (v:AV) (H':Hp):Prop:=∃ o0a:ON,∃ o0n:Nat,∃ o0c:Cap,∃ o0k:List AV,v=(.sl ⟨o0a,o0n,o0c⟩)/\o0n=(r).length/\Out H0 Ri H' (Rs.own ⟨o0a,o0n,o0c⟩ eI.z o0k::R0) λR=>CR eI H' R o0k (r)
def jQ.p (F:Nat) (bN:agV):Option (List Int):=apn ([]:List Int) bN
theorem jQ.P {ev dq eC bN} (gl:dq=bN.length) (h0:Inn H R0 λR=>ROs eI H R ⟨ev,dq,eC⟩ bN) {r:agV} (hp:jQ.p F bN=some r):Rt (jQ.tw F ⟨ev,dq,eC⟩ H) (jQ.Q H R0 R0  r):=by
 obtain ⟨w0,f0⟩:=h0
 subst gl
 unfold jQ.p at hp
 unfold jQ.tw jQ.twX
 have s0:=w0.rf
 refine DE (λhb=>?_) (λhb=>?_)
 ·obtain ⟨w1,s1⟩:=w0.nilS eI.z (by decide)
  obtain rfl:=ROs.none_nil f0 (Option.isNone_iff_eq_none.1 hb)
  obtain rfl:r=[]:=(UY hp).2
  exact ⟨_,_,rfl,none,0,.ex 0,[],rfl,rfl,w1,s0.trans s1,CR.empty⟩
 ·refine wY eI w0 (n:=0) (l:=[]) rfl CR.empty rfl λH2 w2 s2 c2=>?_
  obtain ⟨xs,hx,cx⟩:=(f0.step s2).row rfl
  refine bu hx ?_
  refine DD eI w2 (i:=0) rfl rfl c2 cx rfl rfl hp λa d H3 w3 s3 c3 _=>?_
  dsimp only [List.set] at w3 s3 c3
  exact ⟨_,_,rfl,_,_,_,_,rfl,rfl,w3,s0.trans (s2.trans s3),c3⟩
def iy.Q (H0:Hp) (Ri R0:agX)  (r:ahf) (v:AV) (H':Hp):Prop:=∃ o2a:ON,∃ o2n:Nat,∃ o2c:Cap,∃ o2k:List AV,v=(.agg [(.i r.1),(.i r.2.1),(.sl ⟨o2a,o2n,o2c⟩)])/\o2n=(r.2.2).length/\Out H0 Ri H' (Rs.own ⟨o2a,o2n,o2c⟩ eI.z o2k::R0) λR=>CR eI H' R o2k (r.2.2)
def iy.p (F:Nat) (aa:Int) (ac:Int) (bT:agV):Option (Int×Int×List Int):=(jQ.p F bT).bind λr3=>some (aa,ac,r3)
theorem iy.P {aa ac dH cK dI bT} (gE:cK=bT.length) (h0:Inn H R0 λR=>ROs eI H R ⟨dH,cK,dI⟩ bT) {r:ahf} (hp:iy.p F aa ac bT=some r):Rt (iy.tw F aa ac ⟨dH,cK,dI⟩ H) (iy.Q H R0 R0  r):=by
 obtain ⟨w0,fU⟩:=h0
 subst gE
 unfold iy.p at hp
 unfold iy.tw iy.twX
 have s0:=w0.rf
 refine cF w0 λH1 w1 s1=>?_
 refine cF w1 λH2 w2 s2=>?_
 refine lSl w2 1 ?_
 obtain ⟨r3,e3,hp⟩:=ag hp
 refine aP (jQ.P rfl ⟨w2,(fU.step (s1.trans s2))⟩ e3) ?_
 rintro _ H4 ⟨o0a_4,o0n_4,o0c_4,o0k_4,rfl,rfl,w4,s4,f4_0⟩
 refine br ?_
 refine aL w4 2 λH5 w5 s5=>?_
 refine lI w5 2 ?_
 refine lI w5 2 ?_
 refine lSl w5 2 ?_
 refine aL w5 1 λH6 w6 s6=>?_
 refine aL w6 1 λH7 w7 s7=>?_
 refine aL w7 1 λH8 w8 s8=>?_
 refine lI w8 1 ?_
 refine lI w8 1 ?_
 refine lSl w8 1 ?_
 obtain ⟨w9,s9⟩:=w8.pp [0] 3
 exact aW hp ⟨_,_,_,_,rfl,rfl,w9,(s0.trans (s1.trans (s2.trans (s4.trans (s5.trans (s6.trans (s7.trans (s8.trans s9)))))))),(f4_0.step (s5.trans (s6.trans (s7.trans (s8.trans s9)))))⟩
def bc.Q (H0:Hp) (Ri R0:agX) (bo aE bp bg aV aT bh bi bK bj:Int) (bP cV cW cX:Sl) (cz:ON) (bQ aa:Nat) (cA:Cap) (da:agV) (ay:Bool) (r:ahn) (v:AV) (H':Hp):Prop:=v=(.tup [(.i r.1),(.i r.2.1),(.bool r.2.2)])/\Out H0 Ri H' (Rs.blk aa [.i bo,.i aE,.sl bP,.i bp,.i bg,.sl cV,.i aV,.i aT,.sl ⟨cz,bQ,cA⟩,.i bh,.i bi,.sl cW,.i bK,.i bj,.sl cX,.bool ay]::R0) λR=>True
def bc.S29 (H0:Hp) (Ri R0:agX) (aw ai aC ap aq ak ar au aG av:Int) (dR cB cC cD:Sl) (aJ:ON) (aD ax:Nat) (aK:Cap) (cl:agV) (bL:Bool) (C:ahr) (pC:ahz):Prop:=∀ {eK gQ iR wQ yo oh og qu},∀ {H:Hp},aD=cl.length->(Out H0 Ri H (Rs.blk qu [.i wQ,.i yo,.sl ⟨aJ,aD,aK⟩]::Rs.blk ax [.i aw,.i ai,.sl dR,.i aC,.i ap,.sl cB,.i aq,.i ak,.sl ⟨aJ,aD,aK⟩,.i ar,.i au,.sl cC,.i aG,.i av,.sl cD,.bool bL]::R0) λR=>ROs eI H R ⟨aJ,aD,aK⟩ cl)->∀ {r:ahn},pC eK gQ iR og wQ yo cl oh=some r->Rt (C eK gQ iR og qu 0 oh H) (bc.Q H0 Ri R0 aw ai aC ap aq ak ar au aG av dR cB cC cD aJ aD ax aK cl bL r)
def bc.S469 (H0:Hp) (Ri R0:agX) (aw ai aC ap aq ak ar au aG av:Int) (dR cB cC cD:Sl) (aJ:ON) (aD ax:Nat) (aK:Cap) (cl:agV) (bL:Bool) (C:ahQ) (pC:ahV):Prop:=∀ {kT lK lL pR ns i_ ja lM kE},∀ {H:Hp},aD=cl.length->(Out H0 Ri H (Rs.blk kE [.i pR,.i ns,.sl ⟨aJ,aD,aK⟩]::Rs.blk ax [.i aw,.i ai,.sl dR,.i aC,.i ap,.sl cB,.i aq,.i ak,.sl ⟨aJ,aD,aK⟩,.i ar,.i au,.sl cC,.i aG,.i av,.sl cD,.bool bL]::R0) λR=>ROs eI H R ⟨aJ,aD,aK⟩ cl)->∀ {r:ahn},pC kT lK lL lM pR ns cl i_ ja=some r->Rt (C kT lK lL lM kE 0 i_ ja H) (bc.Q H0 Ri R0 aw ai aC ap aq ak ar au aG av dR cB cC cD aJ aD ax aK cl bL r)
def bc.pj9 (F:Nat) (lf:ahV) (vb:Int) (vc:Int) (ve:Int) (vg:Bool) (CW:Int) (CX:Int) (cl:agV) (vh:Int) (vi:Int):Option (Int×Int×Bool):=lf vb vc ve vg CW CX cl vh (wrap .i64 (vi+1))
theorem bc.j9_P {aw ai aC ap aq ak ar au aG av dR cB cC cD aJ aD ax aK cl bL} {C469_:ahQ} {lf:ahV} (hC469:bc.S469 H0 Ri R0 aw ai aC ap aq ak ar au aG av dR cB cC cD aJ aD ax aK cl bL C469_ lf) {vb vc ve CW CX vh vi vg Ac} (kZ:aD=cl.length) (h0:Out H0 Ri H (Rs.blk Ac [.i CW,.i CX,.sl ⟨aJ,aD,aK⟩]::Rs.blk ax [.i aw,.i ai,.sl dR,.i aC,.i ap,.sl cB,.i aq,.i ak,.sl ⟨aJ,aD,aK⟩,.i ar,.i au,.sl cC,.i aG,.i av,.sl cD,.bool bL]::R0) λR=>ROs eI H R ⟨aJ,aD,aK⟩ cl) {r:ahn} (hp:bc.pj9 F lf vb vc ve vg CW CX cl vh vi=some r):Rt (bc.j9 F (bR.tw F) (es.tw F) C469_ vb vc ve vg Ac 0 vh vi H) (bc.Q H0 Ri R0 aw ai aC ap aq ak ar au aG av dR cB cC cD aJ aD ax aK cl bL r):=by
 obtain ⟨w0,s0,iq⟩:=h0
 subst kZ
 unfold bc.pj9 at hp
 unfold bc.j9
 exact hC469 rfl ⟨w0,s0,iq⟩ hp
def bc.pj7 (F:Nat) (dE:ahz) (uS:Int) (uT:Int) (uU:Int) (uV:Bool) (CY:Int) (CZ:Int) (cl:agV) (uW:Int):Option (Int×Int×Bool):=dE uS uT uU uV CY CZ cl (wrap .i64 (uW+1))
theorem bc.j7_P {aw ai aC ap aq ak ar au aG av dR cB cC cD aJ aD ax aK cl bL} {C29_:ahr} {dE:ahz} (hC29:bc.S29 H0 Ri R0 aw ai aC ap aq ak ar au aG av dR cB cC cD aJ aD ax aK cl bL C29_ dE) {uS uT uU CY CZ uW uV Aa} (kZ:aD=cl.length) (h0:Out H0 Ri H (Rs.blk Aa [.i CY,.i CZ,.sl ⟨aJ,aD,aK⟩]::Rs.blk ax [.i aw,.i ai,.sl dR,.i aC,.i ap,.sl cB,.i aq,.i ak,.sl ⟨aJ,aD,aK⟩,.i ar,.i au,.sl cC,.i aG,.i av,.sl cD,.bool bL]::R0) λR=>ROs eI H R ⟨aJ,aD,aK⟩ cl) {r:ahn} (hp:bc.pj7 F dE uS uT uU uV CY CZ cl uW=some r):Rt (bc.j7 F (bR.tw F) (es.tw F) C29_ uS uT uU uV Aa 0 uW H) (bc.Q H0 Ri R0 aw ai aC ap aq ak ar au aG av dR cB cC cD aJ aD ax aK cl bL r):=by
 obtain ⟨w0,s0,iq⟩:=h0
 subst kZ
 unfold bc.pj7 at hp
 unfold bc.j7
 exact hC29 rfl ⟨w0,s0,iq⟩ hp
def bc.pj8 (F:Nat) (dE:ahz) (uX:Int) (uY:Int) (uZ:Int) (u_:Bool) (C_:Int) (Da:Int) (cl:agV) (va:Int):Option (Int×Int×Bool):=bc.pj7 F dE uX uY uZ u_ C_ Da cl va
theorem bc.j8_P {aw ai aC ap aq ak ar au aG av dR cB cC cD aJ aD ax aK cl bL} {C29_:ahr} {dE:ahz} (hC29:bc.S29 H0 Ri R0 aw ai aC ap aq ak ar au aG av dR cB cC cD aJ aD ax aK cl bL C29_ dE) {uX uY uZ C_ Da va u_ Ab} (kZ:aD=cl.length) (h0:Out H0 Ri H (Rs.blk Ab [.i C_,.i Da,.sl ⟨aJ,aD,aK⟩]::Rs.blk ax [.i aw,.i ai,.sl dR,.i aC,.i ap,.sl cB,.i aq,.i ak,.sl ⟨aJ,aD,aK⟩,.i ar,.i au,.sl cC,.i aG,.i av,.sl cD,.bool bL]::R0) λR=>ROs eI H R ⟨aJ,aD,aK⟩ cl) {r:ahn} (hp:bc.pj8 F dE uX uY uZ u_ C_ Da cl va=some r):Rt (bc.j8 F (bR.tw F) (es.tw F) C29_ uX uY uZ u_ Ab 0 va H) (bc.Q H0 Ri R0 aw ai aC ap aq ak ar au aG av dR cB cC cD aJ aD ax aK cl bL r):=by
 obtain ⟨w0,s0,iq⟩:=h0
 subst kZ
 unfold bc.pj8 at hp
 unfold bc.j8
 exact bc.j7_P (@hC29) rfl ⟨w0,s0,iq⟩ hp
def bc.pl469 (F:Nat) (dE:ahz):Nat->Int->Int->Int->Bool->Int->Int->List Int->Int->Int->Option (Int×Int×Bool)
 | 0,_,_,_,_,_,_,_,_,_=>none
 | k+1,kT,lK,lL,lM,pR,ns,cl,i_,ja=>(bif (decide (ja<ns)) then ((ix cl (wrap .i64 ((wrap .i64 (i_ * ns))+ja))).bind λn2=>(es.p F (gt cl n2)).bind λr3=>(bif (r3 != 0) then ((bif (!lM) then (bc.pl469 F dE k kT i_ ja true pR ns cl i_ (wrap .i64 (ja+1))) else ((ix cl (wrap .i64 ((wrap .i64 (lK * ns))+lL))).bind λn7=>(es.p F (gt cl n7)).bind λr8=>(bif (decide (r3<r8)) then (bc.pj9 F (bc.pl469 F dE k) kT i_ ja true pR ns cl i_ ja) else (bc.pj9 F (bc.pl469 F dE k) kT lK lL lM pR ns cl i_ ja))))) else (bc.pl469 F dE k kT lK lL lM pR ns cl i_ (wrap .i64 (ja+1))))) else (bc.pj8 F dE kT lK lL lM pR ns cl i_))
theorem bc.l469_P {aw ai aC ap aq ak ar au aG av dR cB cC cD aJ aD ax aK cl bL} {C29_:ahr} {dE:ahz} (hC29:bc.S29 H0 Ri R0 aw ai aC ap aq ak ar au aG av dR cB cC cD aJ aD ax aK cl bL C29_ dE):∀ k,bc.S469 H0 Ri R0 aw ai aC ap aq ak ar au aG av dR cB cC cD aJ aD ax aK cl bL (bc.l469 F (bR.tw F) (es.tw F) C29_ k) (bc.pl469 F dE k):=by
 intro k
 induction k with
 | zero=>unfold bc.S469;intros;rename_i hp;cases hp
 | succ k ih=>
  intro kT lK lL pR ns i_ ja lM kE H kZ h0 r hp
  obtain ⟨w0,s0,iq⟩:=h0
  subst kZ
  unfold bc.pl469 at hp
  unfold bc.l469
  refine lI w0 0 ?_
  refine aX hp (λhp=>?_) λhp=>?_
  ·refine lI w0 0 ?_
   refine lI w0 0 ?_
   refine lSl w0 0 ?_
   refine bR.inl ?_
   refine cF w0 λH1 w1 s1=>?_
   refine lSl w1 0 ?_
   refine lI w1 0 ?_
   obtain ⟨n2,g2,hp⟩:=ag hp
   obtain ⟨p2,q2,i2,h2,j2⟩:=ROs.ixr (iq.step s1) rfl g2
   refine bu i2 ?_
   refine ⟨_,_,rfl,?_⟩
   refine br ?_
   have h2:_=[_]:=h2
   subst h2
   refine bu (dx (j2 0 _ rfl)) ?_
   obtain ⟨r3,e3,hp⟩:=ag hp
   refine aP (es.P ⟨w1,trivial⟩ e3) ?_
   rintro _ H4 ⟨rfl,w4,s4,_⟩
   refine br ?_
   refine aX hp (λhp=>?_) λhp=>?_
   ·refine aX hp (λhp=>?_) λhp=>?_
    ·obtain ⟨w5,s5⟩:=w4.pp [1,2] 3
     exact ih rfl ⟨w5,(s0.trans (s1.trans (s4.trans s5))),(iq.step (s1.trans (s4.trans s5)))⟩ hp
    ·refine lI w4 1 ?_
     refine lI w4 1 ?_
     refine lSl w4 1 ?_
     refine bR.inl ?_
     refine cF w4 λH6 w6 s6=>?_
     refine lSl w6 0 ?_
     refine lI w6 0 ?_
     obtain ⟨n7,g7,hp⟩:=ag hp
     obtain ⟨p7,q7,i7,h7,j7⟩:=ROs.ixr (iq.step (s1.trans (s4.trans s6))) rfl g7
     refine bu i7 ?_
     refine ⟨_,_,rfl,?_⟩
     refine br ?_
     have h7:_=[_]:=h7
     subst h7
     refine bu (dx (j7 0 _ rfl)) ?_
     obtain ⟨r8,e8,hp⟩:=ag hp
     refine aP (es.P ⟨w6,trivial⟩ e8) ?_
     rintro _ H9 ⟨rfl,w9,s9,_⟩
     refine br ?_
     refine aX hp (λhp=>?_) λhp=>?_
     ·obtain ⟨w10,s10⟩:=w9.pp [2,3] 4
      exact bc.j9_P (@ih) rfl ⟨w10,(s0.trans (s1.trans (s4.trans (s6.trans (s9.trans s10))))),(iq.step (s1.trans (s4.trans (s6.trans (s9.trans s10)))))⟩ hp
     ·obtain ⟨w11,s11⟩:=w9.pp [2,3] 4
      exact bc.j9_P (@ih) rfl ⟨w11,(s0.trans (s1.trans (s4.trans (s6.trans (s9.trans s11))))),(iq.step (s1.trans (s4.trans (s6.trans (s9.trans s11)))))⟩ hp
   ·obtain ⟨w12,s12⟩:=w4.pp [1,2] 3
    exact ih rfl ⟨w12,(s0.trans (s1.trans (s4.trans s12))),(iq.step (s1.trans (s4.trans s12)))⟩ hp
  ·exact bc.j8_P (@hC29) rfl ⟨w0,s0,iq⟩ hp
def bc.pj5 (F:Nat)  (uP:Int) (uQ:Int) (uR:Bool):Option (Int×Int×Bool):=some (uP,uQ,uR)
theorem bc.j5_P {aw ai aC ap aq ak ar au aG av dR cB cC cD aJ aD ax aK cl bL}  {uP uQ uR} (kZ:aD=cl.length) (h0:Out H0 Ri H (Rs.blk ax [.i aw,.i ai,.sl dR,.i aC,.i ap,.sl cB,.i aq,.i ak,.sl ⟨aJ,aD,aK⟩,.i ar,.i au,.sl cC,.i aG,.i av,.sl cD,.bool bL]::R0) λR=>ROs eI H R ⟨aJ,aD,aK⟩ cl) {r:ahn} (hp:bc.pj5 F  uP uQ uR=some r):Rt (bc.j5 F (bR.tw F) (es.tw F)  uP uQ uR H) (bc.Q H0 Ri R0 aw ai aC ap aq ak ar au aG av dR cB cC cD aJ aD ax aK cl bL r):=by
 obtain ⟨w0,s0,iq⟩:=h0
 subst kZ
 unfold bc.pj5 at hp
 unfold bc.j5
 exact aW hp ⟨rfl,w0,s0,trivial⟩
def bc.pl29 (F:Nat) :Nat->Int->Int->Int->Bool->Int->Int->List Int->Int->Option (Int×Int×Bool)
 | 0,_,_,_,_,_,_,_,_=>none
 | k+1,eK,gQ,iR,og,wQ,yo,cl,oh=>(bif (decide (oh<wQ)) then (bc.pl469 F (bc.pl29 F k) F eK gQ iR og wQ yo cl oh eK) else (bc.pj5 F gQ iR og))
theorem bc.l29_P {aw ai aC ap aq ak ar au aG av dR cB cC cD aJ aD ax aK cl bL} :∀ k,bc.S29 H0 Ri R0 aw ai aC ap aq ak ar au aG av dR cB cC cD aJ aD ax aK cl bL (bc.l29 F (bR.tw F) (es.tw F)  k) (bc.pl29 F  k):=by
 intro k
 induction k with
 | zero=>unfold bc.S29;intros;rename_i hp;cases hp
 | succ k ih=>
  intro eK gQ iR wQ yo oh og qu H kZ h0 r hp
  obtain ⟨w0,s0,iq⟩:=h0
  subst kZ
  unfold bc.pl29 at hp
  unfold bc.l29
  refine lI w0 0 ?_
  refine aX hp (λhp=>?_) λhp=>?_
  ·exact bc.l469_P (@ih) F rfl ⟨w0,s0,iq⟩ hp
  ·obtain ⟨w1,s1⟩:=w0.pp [1] 2
   exact bc.j5_P rfl ⟨w1,(s0.trans s1),(iq.step s1)⟩ hp
def bc.p (F:Nat) (aV:Int) (aT:Int) (da:agV) (af:Int):Option (Int×Int×Bool):=bc.pl29 F F af 0 0 false aV aT da af
theorem bc.P {bo aE bp bg aV aT bh bi bK bj af bP cV cW cX cz bQ aa cA da ay} (jJ:bQ=da.length) (h0:Inn H (Rs.blk aa [.i bo,.i aE,.sl bP,.i bp,.i bg,.sl cV,.i aV,.i aT,.sl ⟨cz,bQ,cA⟩,.i bh,.i bi,.sl cW,.i bK,.i bj,.sl cX,.bool ay]::R0) λR=>ROs eI H R ⟨cz,bQ,cA⟩ da) {r:ahn} (hp:bc.p F aV aT da af=some r):Rt (bc.tw F aa 0 af H) (bc.Q H (Rs.blk aa [.i bo,.i aE,.sl bP,.i bp,.i bg,.sl cV,.i aV,.i aT,.sl ⟨cz,bQ,cA⟩,.i bh,.i bi,.sl cW,.i bK,.i bj,.sl cX,.bool ay]::R0) R0 bo aE bp bg aV aT bh bi bK bj bP cV cW cX cz bQ aa cA da ay r):=by
 obtain ⟨w0,iU⟩:=h0
 subst jJ
 unfold bc.p at hp
 unfold bc.tw bc.twX
 have s0:=w0.rf
 refine lI w0 0 ?_
 refine lI w0 0 ?_
 refine lSl w0 0 ?_
 refine cF w0 λH1 w1 s1=>?_
 refine aL w1 0 λH2 w2 s2=>?_
 refine aL w2 0 λH3 w3 s3=>?_
 refine aL w3 0 λH4 w4 s4=>?_
 exact bc.l29_P F rfl ⟨w4,(s0.trans (s1.trans (s2.trans (s3.trans s4)))),(iU.step (s1.trans (s2.trans (s3.trans s4))))⟩ hp
def dn.Q (H0:Hp) (Ri R0:agX) (dH:ON) (cK:Nat) (dI:Cap) (jf:Bool) (jg jh:ag3) (r:agV) (v:AV) (H':Hp):Prop:=∃ oA:List AV,v=(.tup [])/\cK=(r).length/\Out H0 Ri H' (Rs.ow jf ⟨dH,cK,dI⟩ eI.z jg oA jh::R0) λR=>CR eI H' R oA (r)
def dn.S7 (H0:Hp) (Ri R0:agX) (ji:ON) (ik:Nat) (jj:Cap) (ko:Bool) (kp kq:ag3) (C:ah3) (pC:ah4):Prop:=∀ {jb jc yp ma jd gA jo s_ dS},∀ {H:Hp},ik=jo.length->(Out H0 Ri H (Rs.ow ko ⟨ji,ik,jj⟩ eI.z kp s_ kq::Rs.blk dS [.i yp,.i ma,.sl ⟨ji,ik,jj⟩]::R0) λR=>CR eI H R s_ jo)->∀ {r:agV},pC jb jc ma jo jd gA=some r->Rt (C jb jc dS 0 jd gA H) (dn.Q H0 Ri R0 ji ik jj ko kp kq r)
def dn.pl7 (F:Nat) :Nat->Int->Int->Int->List Int->Int->Int->Option (List Int)
 | 0,_,_,_,_,_,_=>none
 | k+1,jb,jc,ma,jo,jd,gA=>(bif (decide (gA<jd)) then ((ix jo (wrap .i64 ((wrap .i64 (jb * ma))+gA))).bind λn2=>(ix jo (wrap .i64 ((wrap .i64 (jc * ma))+gA))).bind λn5=>(some (jo.set n2 (gt jo n5))).bind λl7=>(some (l7.set n5 (gt jo n2))).bind λl9=>dn.pl7 F k jb jc ma l9 jd (wrap .i64 (gA+1))) else (some jo))
theorem dn.l7_P {ji ik jj ko kp kq} :∀ k,dn.S7 H0 Ri R0 ji ik jj ko kp kq (dn.l7 F (bR.tw F)  k) (dn.pl7 F  k):=by
 intro k
 induction k with
 | zero=>unfold dn.S7;intros;rename_i hp;cases hp
 | succ k ih=>
  intro jb jc yp ma jd gA jo s_ dS H Kk h0 r hp
  obtain ⟨w0,s0,oG⟩:=h0
  subst Kk
  unfold dn.pl7 at hp
  unfold dn.l7
  refine aX hp (λhp=>?_) λhp=>?_
  ·refine lI w0 1 ?_
   refine lI w0 1 ?_
   refine lSl w0 1 ?_
   refine bR.inl ?_
   refine cF w0 λH1 w1 s1=>?_
   refine lSl w1 0 ?_
   refine lI w1 0 ?_
   obtain ⟨n2,g2,hp⟩:=ag hp
   obtain ⟨p2,q2,i2,h2,j2⟩:=W.ixo (E:=eI) w1 (i:=1) rfl rfl (oG.step s1) g2
   refine bu i2 ?_
   refine ⟨_,_,rfl,?_⟩
   refine br ?_
   refine fQ (W.cons_of (Rn:=[_]) w0 w1 s1) ?_
   refine lI w1 2 ?_
   refine lI w1 2 ?_
   refine lSl w1 2 ?_
   refine bR.inl ?_
   refine cF w1 λH4 w4 s4=>?_
   refine lSl w4 0 ?_
   refine lI w4 0 ?_
   obtain ⟨n5,g5,hp⟩:=ag hp
   obtain ⟨p5,q5,i5,h5,j5⟩:=W.ixo (E:=eI) w4 (i:=2) rfl rfl (oG.step (s1.trans s4)) g5
   refine bu i5 ?_
   refine ⟨_,_,rfl,?_⟩
   refine br ?_
   have h5:_=[_]:=h5
   subst h5
   refine bu (dx (j5 0 _ rfl)) ?_
   obtain ⟨p6,q6,i6,h6,j6⟩:=W.ixo (E:=eI) w4 (i:=2) rfl rfl (oG.step (s1.trans s4)) g2
   obtain rfl:=Option.some.inj (i2.symm.trans i6)
   have h6:_=[_]:=h6
   subst h6
   refine bu (dx (j6 0 _ rfl)) ?_
   obtain ⟨l7,e7,hp⟩:=ag hp
   refine iF eI w4 (i:=2) (j:=0) (p:=p2) rfl rfl (oG.step (s1.trans s4)) g2 i2 e7 rfl rfl (λ_ h=>by have h:_=[_]:=h;subst h;exact rfl) λH8 k8 w8 s8 c8=>?_
   obtain ⟨l9,e9,hp⟩:=ag hp
   refine iF eI w8 (i:=2) (j:=0) (p:=p5) rfl rfl c8 (rc g5 (fJ e7)) i5 e9 rfl rfl (λ_ h=>by have h:_=[_]:=h;subst h;exact rfl) λH10 k10 w10 s10 c10=>?_
   obtain ⟨w11,s11⟩:=w10.pp [2,3] 4
   exact ih ((fJ e7).symm.trans (fJ e9).symm) ⟨w11,(s0.trans (s1.trans (s4.trans (s8.trans (s10.trans s11))))),(c10.step s11)⟩ hp
  ·obtain ⟨w12,s12⟩:=w0.pp [0] 2
   exact aW hp ⟨_,rfl,rfl,w12,(s0.trans s12),(oG.step s12)⟩
def dn.p (F:Nat) (ac:Int) (bT:agV) (aA:Int) (cG:Int):Option (List Int):=dn.pl7 F F aA cG ac bT ac 0
theorem dn.P {aa ac aA cG dH cK dI bT jf jg jh lU} (gE:cK=bT.length) (h0:Inn H (Rs.ow jf ⟨dH,cK,dI⟩ eI.z jg lU jh::R0) λR=>CR eI H R lU bT) {r:agV} (hp:dn.p F ac bT aA cG=some r):Rt (dn.tw F aa ac ⟨dH,cK,dI⟩ aA cG H) (dn.Q H (Rs.ow jf ⟨dH,cK,dI⟩ eI.z jg lU jh::R0) R0 dH cK dI jf jg jh r):=by
 obtain ⟨w0,fU⟩:=h0
 subst gE
 unfold dn.p at hp
 unfold dn.tw dn.twX
 have s0:=w0.rf
 refine cF w0 λH1 w1 s1=>?_
 refine lI w1 0 ?_
 obtain ⟨w2,s2⟩:=w1.pp [1,0] 2
 exact dn.l7_P F rfl ⟨w2,(s0.trans (s1.trans s2)),(fU.step (s1.trans s2))⟩ hp
def dp.Q (H0:Hp) (Ri R0:agX) (dH:ON) (cK:Nat) (dI:Cap) (jf:Bool) (jg jh:ag3) (r:agV) (v:AV) (H':Hp):Prop:=∃ oA:List AV,v=(.tup [])/\cK=(r).length/\Out H0 Ri H' (Rs.ow jf ⟨dH,cK,dI⟩ eI.z jg oA jh::R0) λR=>CR eI H' R oA (r)
def dp.S7 (H0:Hp) (Ri R0:agX) (ji:ON) (ik:Nat) (jj:Cap) (ko:Bool) (kp kq:ag3) (C:ah3) (pC:ah4):Prop:=∀ {jb jc yp ma jd gA jo s_ dS},∀ {H:Hp},ik=jo.length->(Out H0 Ri H (Rs.ow ko ⟨ji,ik,jj⟩ eI.z kp s_ kq::Rs.blk dS [.i yp,.i ma,.sl ⟨ji,ik,jj⟩]::R0) λR=>CR eI H R s_ jo)->∀ {r:agV},pC jb jc ma jo jd gA=some r->Rt (C jb jc dS 0 jd gA H) (dp.Q H0 Ri R0 ji ik jj ko kp kq r)
def dp.pl7 (F:Nat) :Nat->Int->Int->Int->List Int->Int->Int->Option (List Int)
 | 0,_,_,_,_,_,_=>none
 | k+1,jb,jc,ma,jo,jd,gA=>(bif (decide (gA<jd)) then ((ix jo (wrap .i64 ((wrap .i64 (gA * ma))+jb))).bind λn2=>(ix jo (wrap .i64 ((wrap .i64 (gA * ma))+jc))).bind λn5=>(some (jo.set n2 (gt jo n5))).bind λl7=>(some (l7.set n5 (gt jo n2))).bind λl9=>dp.pl7 F k jb jc ma l9 jd (wrap .i64 (gA+1))) else (some jo))
theorem dp.l7_P {ji ik jj ko kp kq} :∀ k,dp.S7 H0 Ri R0 ji ik jj ko kp kq (dp.l7 F (bR.tw F)  k) (dp.pl7 F  k):=by
 intro k
 induction k with
 | zero=>unfold dp.S7;intros;rename_i hp;cases hp
 | succ k ih=>
  intro jb jc yp ma jd gA jo s_ dS H Kk h0 r hp
  obtain ⟨w0,s0,oG⟩:=h0
  subst Kk
  unfold dp.pl7 at hp
  unfold dp.l7
  refine aX hp (λhp=>?_) λhp=>?_
  ·refine lI w0 1 ?_
   refine lI w0 1 ?_
   refine lSl w0 1 ?_
   refine bR.inl ?_
   refine cF w0 λH1 w1 s1=>?_
   refine lSl w1 0 ?_
   refine lI w1 0 ?_
   obtain ⟨n2,g2,hp⟩:=ag hp
   obtain ⟨p2,q2,i2,h2,j2⟩:=W.ixo (E:=eI) w1 (i:=1) rfl rfl (oG.step s1) g2
   refine bu i2 ?_
   refine ⟨_,_,rfl,?_⟩
   refine br ?_
   refine fQ (W.cons_of (Rn:=[_]) w0 w1 s1) ?_
   refine lI w1 2 ?_
   refine lI w1 2 ?_
   refine lSl w1 2 ?_
   refine bR.inl ?_
   refine cF w1 λH4 w4 s4=>?_
   refine lSl w4 0 ?_
   refine lI w4 0 ?_
   obtain ⟨n5,g5,hp⟩:=ag hp
   obtain ⟨p5,q5,i5,h5,j5⟩:=W.ixo (E:=eI) w4 (i:=2) rfl rfl (oG.step (s1.trans s4)) g5
   refine bu i5 ?_
   refine ⟨_,_,rfl,?_⟩
   refine br ?_
   have h5:_=[_]:=h5
   subst h5
   refine bu (dx (j5 0 _ rfl)) ?_
   obtain ⟨p6,q6,i6,h6,j6⟩:=W.ixo (E:=eI) w4 (i:=2) rfl rfl (oG.step (s1.trans s4)) g2
   obtain rfl:=Option.some.inj (i2.symm.trans i6)
   have h6:_=[_]:=h6
   subst h6
   refine bu (dx (j6 0 _ rfl)) ?_
   obtain ⟨l7,e7,hp⟩:=ag hp
   refine iF eI w4 (i:=2) (j:=0) (p:=p2) rfl rfl (oG.step (s1.trans s4)) g2 i2 e7 rfl rfl (λ_ h=>by have h:_=[_]:=h;subst h;exact rfl) λH8 k8 w8 s8 c8=>?_
   obtain ⟨l9,e9,hp⟩:=ag hp
   refine iF eI w8 (i:=2) (j:=0) (p:=p5) rfl rfl c8 (rc g5 (fJ e7)) i5 e9 rfl rfl (λ_ h=>by have h:_=[_]:=h;subst h;exact rfl) λH10 k10 w10 s10 c10=>?_
   obtain ⟨w11,s11⟩:=w10.pp [2,3] 4
   exact ih ((fJ e7).symm.trans (fJ e9).symm) ⟨w11,(s0.trans (s1.trans (s4.trans (s8.trans (s10.trans s11))))),(c10.step s11)⟩ hp
  ·obtain ⟨w12,s12⟩:=w0.pp [0] 2
   exact aW hp ⟨_,rfl,rfl,w12,(s0.trans s12),(oG.step s12)⟩
def dp.p (F:Nat) (aa:Int) (ac:Int) (bT:agV) (aA:Int) (cG:Int):Option (List Int):=dp.pl7 F F aA cG ac bT aa 0
theorem dp.P {aa ac aA cG dH cK dI bT jf jg jh lU} (gE:cK=bT.length) (h0:Inn H (Rs.ow jf ⟨dH,cK,dI⟩ eI.z jg lU jh::R0) λR=>CR eI H R lU bT) {r:agV} (hp:dp.p F aa ac bT aA cG=some r):Rt (dp.tw F aa ac ⟨dH,cK,dI⟩ aA cG H) (dp.Q H (Rs.ow jf ⟨dH,cK,dI⟩ eI.z jg lU jh::R0) R0 dH cK dI jf jg jh r):=by
 obtain ⟨w0,fU⟩:=h0
 subst gE
 unfold dp.p at hp
 unfold dp.tw dp.twX
 have s0:=w0.rf
 refine cF w0 λH1 w1 s1=>?_
 refine lI w1 0 ?_
 obtain ⟨w2,s2⟩:=w1.pp [1,0] 2
 exact dp.l7_P F rfl ⟨w2,(s0.trans (s1.trans s2)),(fU.step (s1.trans s2))⟩ hp
def fi.Q (H0:Hp) (Ri R0:agX)  (r:agV) (v:AV) (H':Hp):Prop:=∃ o0a:ON,∃ o0n:Nat,∃ o0c:Cap,v=(.sl ⟨o0a,o0n,o0c⟩)/\o0n=(r).length/\Out H0 Ri H' (R0) λR=>ROs eI H' R ⟨o0a,o0n,o0c⟩ (r)
def fi.p (F:Nat) (ac:Int) (bT:agV) (aA:Int):Option (List Int):=(cutf bT (wrap .i64 (aA * ac)) (wrap .i64 ((wrap .i64 (aA+1)) * ac))).bind λl2=>some l2
theorem fi.P {aa ac aA dH cK dI bT} (gE:cK=bT.length) (h0:Inn H R0 λR=>ROs eI H R ⟨dH,cK,dI⟩ bT) {r:agV} (hp:fi.p F ac bT aA=some r):Rt (fi.tw F aa ac ⟨dH,cK,dI⟩ aA H) (fi.Q H R0 R0  r):=by
 obtain ⟨w0,fU⟩:=h0
 subst gE
 unfold fi.p at hp
 unfold fi.tw fi.twX
 have s0:=w0.rf
 refine cF w0 λH1 w1 s1=>?_
 refine lSl w1 0 ?_
 refine lI w1 0 ?_
 refine lI w1 0 ?_
 obtain ⟨l2,e2,hp⟩:=ag hp
 obtain ⟨a2,d2,h2,f2⟩:=ROs.cutf (fU.step s1) rfl e2
 refine bu h2 ?_
 obtain ⟨w3,s3⟩:=w1.pp [] 1
 exact aW hp ⟨_,_,_,rfl,rfl,w3,(s0.trans (s1.trans s3)),(f2.step s3)⟩
def bS.Q (H0:Hp) (Ri R0:agX) (bo aE bp bg aV aT bh bi bK bj:Int) (cH dJ cz dK dL:ON) (bU cY bQ cZ c_ aa:Nat) (cI dM cA dN dO:Cap) (eO fo eP fp fq ay:Bool) (eQ eR ft fu eS eT fv fw fx fy:ag3) (r:aha) (v:AV) (H':Hp):Prop:=∃ jk:List AV,∃ jV:List AV,∃ jl:List AV,∃ jW:List AV,∃ jX:List AV,v=(.bool r.1)/\bU=(r.2.1).length/\cY=(r.2.2.1).length/\bQ=(r.2.2.2.1).length/\cZ=(r.2.2.2.2.1).length/\c_=(r.2.2.2.2.2).length/\Out H0 Ri H' (Rs.ow eO ⟨cH,bU,cI⟩ eI.z eQ jk eR::Rs.ow fo ⟨dJ,cY,dM⟩ eI.z ft jV fu::Rs.ow eP ⟨cz,bQ,cA⟩ eI.z eS jl eT::Rs.ow fp ⟨dK,cZ,dN⟩ eI.z fv jW fw::Rs.ow fq ⟨dL,c_,dO⟩ eI.z fx jX fy::Rs.blk aa [.i bo,.i aE,.sl ⟨cH,bU,cI⟩,.i bp,.i bg,.sl ⟨dJ,cY,dM⟩,.i aV,.i aT,.sl ⟨cz,bQ,cA⟩,.i bh,.i bi,.sl ⟨dK,cZ,dN⟩,.i bK,.i bj,.sl ⟨dL,c_,dO⟩,.bool ay]::R0) λR=>CR eI H' R jk (r.2.1)/\CR eI H' R jV (r.2.2.1)/\CR eI H' R jl (r.2.2.2.1)/\CR eI H' R jW (r.2.2.2.2.1)/\CR eI H' R jX (r.2.2.2.2.2)
theorem bS.neg_l {F:Nat} {C:ahI} {y0 o:Nat} {y1:Int} {y94:Sl} {y95 y96:Int} {R:agX} {t:Bool} {pre rest:ag3} {s:Sl} {i lo n:Nat} {c:Cap} {H:Hp} {cells:ag3} {l:agV}
  (ht:∀ z o,c≠.tip z o) (hd:s.ad=s.a) (w:W H R) (hi:R[i]?=some (.ow t s eI.z pre cells rest)) (cr:CR eI H R cells l) (hb:lo+n<=l.length):∀ (k j:Nat),n - j<k->j<=n->l.length<4611686018427387904 ->
  ∃ H' cells',bS.l2095707 F (bc.tw F) (dn.tw F) (dp.tw F) (bR.tw F) (fi.tw F) C k y0 o y1 y94 y95 y96 ⟨s.a.map (λp=>(p.1,p.2+lo * 1)),n,c⟩ (n:Int) (j:Int) H=C y0 o y1 y94 y95 (wrap .i64 (y96+1)) H' /\
   W H' (R.set i (.ow t s eI.z pre cells' rest))/\Fr H R H' (R.set i (.ow t s eI.z pre cells' rest))/\CR eI H' (R.set i (.ow t s eI.z pre cells' rest)) cells' (oK l (lo+j) (n - j)):=by
 intro k
 induction k generalizing H cells l R with
 | zero=>intro j h;exact absurd h (Nat.not_lt_zero _)
 | succ k ih=>
  intro j hk hj hlen
  unfold bS.l2095707
  by_cases c1:j<n
  ·have e1:decide ((j:Int)<(n:Int))=true:=decide_eq_true (by omega)
   have hsn:=w.own_n hi cr
   have hix:ix l ((lo:Int)+j)=some (lo+j):=by unfold ix;rw [if_pos ⟨by omega,by omega⟩];rfl
   obtain ⟨p,cs,g1,g2,g3⟩:=W.ixo (E:=gI .i64) (z:=1) w hi rfl cr hix
   have g2:cs=[_]:=g2
   subst g2
   have hv:Sl.idx ⟨s.a.map (λp=>(p.1,p.2+lo * 1)),n,c⟩ (j:Int) 1=some p:=by rw [ae4 ht hd (by omega) (by omega) (by rw [hsn];omega)];exact g1
   have hset:∀ cells',(R.set i (.ow t s eI.z pre cells' rest))[i]?=some (.ow t s eI.z pre cells' rest):=λcells'=>List.getElem?_set_self (List.getElem?_eq_some_iff.1 hi).1
   obtain ⟨H',cells',h1,h2,h3,h4⟩:=W.sto (E:=gI .i64) (j:=0) (v:=.i (wrap .i64 (0 - gt l (lo+j)))) (x':=wrap .i64 (0 - gt l (lo+j))) w hi rfl cr (n:=lo+j) (k:=(lo:Int)+j) (by omega) (by omega) g1 (by decide) rfl (λ_ h=>by have h:_=[_]:=h;subst h;rfl)
   have hw:wrap .i64 ((j:Int)+1)=((j+1:Nat):Int):=by rw [bv (by omega) (by omega)];omega
   have hp0:H.ldI .i64 p.1 p.2=some (gt l (lo+j)):=dx (g3 0 _ rfl)
   have hst:H.st p.1 p.2 (.i (wrap .i64 (0 - gt l (lo+j))))=some H':=h1
   simp only [e1,cond_true,hv,Option.bind_some,hp0,hst,hw]
   obtain ⟨H2,cells2,q1,q2,q3,q4⟩:=ih h2 (hset _) h4 (by rw [List.length_set];exact hb) (j+1) (by omega) (by omega) (by rw [List.length_set];exact hlen)
   refine ⟨H2,cells2,q1,?_,?_,?_⟩
   ·rw [List.set_set] at q2;exact q2
   ·rw [List.set_set] at q3;exact h3.trans q3
   ·rw [List.set_set] at q4
    rw [show n - j=(n - (j+1))+1 by omega]
    exact q4
  ·have e1:decide ((j:Int)<(n:Int))=false:=decide_eq_false (by omega)
   simp only [e1,cond_false]
   have:n - j=0:=by omega
   refine ⟨H,cells,rfl,?_,?_,?_⟩
   all_goals
    have e:R.set i (.ow t s eI.z pre cells rest)=R:=by
     apply List.ext_getElem?
     intro j
     by_cases ej:i=j
     ·subst ej;rw [List.getElem?_set_self (List.getElem?_eq_some_iff.1 hi).1,hi]
     ·rw [List.getElem?_set_ne ej]
    rw [e]
   ·exact w
   ·exact Fr.refl _ _
   ·rw [this];exact cr
theorem bS.neg_k {F:Nat} {C:ahI} {y0 o:Nat} {y1:Int} {y94:Sl} {y95 y96:Int} {R:agX} {t:Bool} {pre rest:ag3} {s:Sl} {i:Nat} {c:Cap} {H:Hp} {cells:ag3} {l x:agV} {a b:Int} {k:Nat} {Q:ahK}
  (ht:∀ z o,c≠.tip z o) (hd:s.ad=s.a) (w:W H R) (hi:R[i]?=some (.ow t s eI.z pre cells rest)) (cr:CR eI H R cells l) (hx:mb l a b=some x) (hk:l.length<k) (hl:l.length<=4294967296)
  (g:∀ H' cells',W H' (R.set i (.ow t s eI.z pre cells' rest))->Fr H R H' (R.set i (.ow t s eI.z pre cells' rest))->CR eI H' (R.set i (.ow t s eI.z pre cells' rest)) cells' (oK l a.toNat x.length) ->
   ∃ v H'',C y0 o y1 y94 y95 (wrap .i64 (y96+1)) H'=some (v,H'')/\Q v H'') :
  ∃ v H'',bS.l2095707 F (bc.tw F) (dn.tw F) (dp.tw F) (bR.tw F) (fi.tw F) C k y0 o y1 y94 y95 y96 ⟨s.a.map (λp=>(p.1,p.2+a.toNat * eI.z)),x.length,c⟩ ((⟨s.a.map (λp=>(p.1,p.2+a.toNat * eI.z)),x.length,c⟩:Sl).n:Int) 0 H=some (v,H'')/\Q v H'':=by
 obtain ⟨h1,h2,h3⟩:=Ly hx
 have hxl:x.length=b.toNat - a.toNat:=by rw [h2,List.length_drop,List.length_take];omega
 obtain ⟨H',cells',e,q1,q2,q3⟩:=bS.neg_l (F:=F) (C:=C) (y0:=y0) (o:=o) (y1:=y1) (y94:=y94) (y95:=y95) (y96:=y96) (c:=c) (lo:=a.toNat) (n:=x.length) ht hd w hi cr (by omega) k 0 (by omega) (Nat.zero_le _) (by omega)
 rw [Nat.add_zero,Nat.sub_zero] at q3
 obtain ⟨v,H'',g1,g2⟩:=g H' cells' q1 q2 q3
 exact ⟨v,H'',Eq.trans e g1,g2⟩
def bS.S32747 (H0:Hp) (Ri R0:agX) (aw ai aC ap aq ak ar au aG av:Int) (aR bz aJ bC bD:ON) (aF aY aD aZ a_ ax:Nat) (aS bE aK bF bG:Cap) (bV bW bX bY bZ bL:Bool) (b_ ca cb ce cf cg ch ci cj ck:ag3) (C:ag5) (pC:List Int->Int->List Int->List Int->List Int->List Int->Int->Int->Int->Option (Bool×List Int×List Int×List Int×List Int×List Int)):Prop:=∀ {aH aM aI aN aO cL cM cN cO cP mY om lN},∀ {H:Hp},aF=aH.length->aY=aM.length->aD=aI.length->aZ=aN.length->a_=aO.length->(Out H0 Ri H (Rs.ow bV ⟨aR,aF,aS⟩ eI.z b_ cL ca::Rs.ow bW ⟨bz,aY,bE⟩ eI.z cb cM ce::Rs.ow bX ⟨aJ,aD,aK⟩ eI.z cf cN cg::Rs.ow bY ⟨bC,aZ,bF⟩ eI.z ch cO ci::Rs.ow bZ ⟨bD,a_,bG⟩ eI.z cj cP ck::Rs.blk ax [.i aw,.i ai,.sl ⟨aR,aF,aS⟩,.i aC,.i ap,.sl ⟨bz,aY,bE⟩,.i aq,.i ak,.sl ⟨aJ,aD,aK⟩,.i ar,.i au,.sl ⟨bC,aZ,bF⟩,.i aG,.i av,.sl ⟨bD,a_,bG⟩,.bool bL]::R0) λR=>CR eI H R cL aH/\CR eI H R cM aM/\CR eI H R cN aI/\CR eI H R cO aN/\CR eI H R cP aO)->∀ {r:aha},pC aH ap aM aI aN aO mY om lN=some r->Rt (C ax 0 mY om lN H) (bS.Q H0 Ri R0 aw ai aC ap aq ak ar au aG av aR bz aJ bC bD aF aY aD aZ a_ ax aS bE aK bF bG bV bW bX bY bZ bL b_ ca cb ce cf cg ch ci cj ck r)
def bS.pl32747 (F:Nat) :Nat->List Int->Int->List Int->List Int->List Int->List Int->Int->Int->Int->Option (Bool×List Int×List Int×List Int×List Int×List Int)
 | 0,_,_,_,_,_,_,_,_,_=>none
 | k+1,aH,ap,aM,aI,aN,aO,mY,om,lN=>(bif (decide (lN<om)) then ((ix aM (wrap .i64 ((wrap .i64 (lN * ap))+mY))).bind λn2=>(ix aM (wrap .i64 ((wrap .i64 (lN * ap))+mY))).bind λn5=>(some (aM.set n2 (wrap .i64 (0 - (gt aM n5))))).bind λl6=>bS.pl32747 F k aH ap l6 aI aN aO mY om (wrap .i64 (lN+1))) else (some (true,aH,aM,aI,aN,aO)))
theorem bS.l32747_P {aw ai aC ap aq ak ar au aG av aR bz aJ bC bD aF aY aD aZ a_ ax aS bE aK bF bG bV bW bX bY bZ bL b_ ca cb ce cf cg ch ci cj ck} :∀ k,bS.S32747 H0 Ri R0 aw ai aC ap aq ak ar au aG av aR bz aJ bC bD aF aY aD aZ a_ ax aS bE aK bF bG bV bW bX bY bZ bL b_ ca cb ce cf cg ch ci cj ck (bS.l32747 F (bc.tw F) (dn.tw F) (dp.tw F) (bR.tw F) (fi.tw F)  k) (bS.pl32747 F  k):=by
 intro k
 induction k with
 | zero=>unfold bS.S32747;intros;rename_i hp;cases hp
 | succ k ih=>
  intro aH aM aI aN aO cL cM cN cO cP mY om lN H eU eV eW eX eY h0 r hp
  obtain ⟨w0,s0,cQ,db,cU,dh,di⟩:=h0
  subst eU
  subst eV
  subst eW
  subst eX
  subst eY
  unfold bS.pl32747 at hp
  unfold bS.l32747
  refine aX hp (λhp=>?_) λhp=>?_
  ·refine lI w0 5 ?_
   refine lI w0 5 ?_
   refine lSl w0 5 ?_
   refine bR.inl ?_
   refine cF w0 λH1 w1 s1=>?_
   refine lSl w1 0 ?_
   refine lI w1 0 ?_
   obtain ⟨n2,g2,hp⟩:=ag hp
   obtain ⟨p2,q2,i2,h2,j2⟩:=W.ixo (E:=eI) w1 (i:=2) rfl rfl (db.step s1) g2
   refine bu i2 ?_
   refine ⟨_,_,rfl,?_⟩
   refine br ?_
   refine fQ (W.cons_of (Rn:=[_]) w0 w1 s1) ?_
   refine lI w1 6 ?_
   refine lI w1 6 ?_
   refine lSl w1 6 ?_
   refine bR.inl ?_
   refine cF w1 λH4 w4 s4=>?_
   refine lSl w4 0 ?_
   refine lI w4 0 ?_
   obtain ⟨n5,g5,hp⟩:=ag hp
   obtain ⟨p5,q5,i5,h5,j5⟩:=W.ixo (E:=eI) w4 (i:=3) rfl rfl (db.step (s1.trans s4)) g5
   refine bu i5 ?_
   refine ⟨_,_,rfl,?_⟩
   refine br ?_
   have h5:_=[_]:=h5
   subst h5
   refine bu (dx (j5 0 _ rfl)) ?_
   obtain ⟨l6,e6,hp⟩:=ag hp
   refine iF eI w4 (i:=3) (j:=0) (p:=p2) rfl rfl (db.step (s1.trans s4)) g2 i2 e6 rfl rfl (λ_ h=>by have h:_=[_]:=h;subst h;exact rfl) λH7 k7 w7 s7 c7=>?_
   obtain ⟨w8,s8⟩:=w7.pp [2,3,4,5,6,7] 8
   exact ih rfl ((fJ e6).symm) rfl rfl rfl ⟨w8,(s0.trans (s1.trans (s4.trans (s7.trans s8)))),(cQ.step (s1.trans (s4.trans (s7.trans s8)))),(c7.step s8),(cU.step (s1.trans (s4.trans (s7.trans s8)))),(dh.step (s1.trans (s4.trans (s7.trans s8)))),(di.step (s1.trans (s4.trans (s7.trans s8))))⟩ hp
  ·exact aW hp ⟨_,_,_,_,_,rfl,rfl,rfl,rfl,rfl,rfl,w0,s0,cQ,db,cU,dh,di⟩
def bS.pj3 (F:Nat)  (aH:agV) (aC:Int) (ap:Int) (aM:agV) (aI:agV) (aN:agV) (aO:agV) (vj:Int):Option (Bool×List Int×List Int×List Int×List Int×List Int):=bS.pl32747 F F aH ap aM aI aN aO vj aC 0
theorem bS.j3_P {aw ai aC ap aq ak ar au aG av aR bz aJ bC bD aF aY aD aZ a_ ax aS bE aK bF bG bV bW bX bY bZ bL b_ ca cb ce cf cg ch ci cj ck}  {aH aM aI aN aO cL cM cN cO cP vj} (eU:aF=aH.length) (eV:aY=aM.length) (eW:aD=aI.length) (eX:aZ=aN.length) (eY:a_=aO.length) (h0:Out H0 Ri H (Rs.ow bV ⟨aR,aF,aS⟩ eI.z b_ cL ca::Rs.ow bW ⟨bz,aY,bE⟩ eI.z cb cM ce::Rs.ow bX ⟨aJ,aD,aK⟩ eI.z cf cN cg::Rs.ow bY ⟨bC,aZ,bF⟩ eI.z ch cO ci::Rs.ow bZ ⟨bD,a_,bG⟩ eI.z cj cP ck::Rs.blk ax [.i aw,.i ai,.sl ⟨aR,aF,aS⟩,.i aC,.i ap,.sl ⟨bz,aY,bE⟩,.i aq,.i ak,.sl ⟨aJ,aD,aK⟩,.i ar,.i au,.sl ⟨bC,aZ,bF⟩,.i aG,.i av,.sl ⟨bD,a_,bG⟩,.bool bL]::R0) λR=>CR eI H R cL aH/\CR eI H R cM aM/\CR eI H R cN aI/\CR eI H R cO aN/\CR eI H R cP aO) {r:aha} (hp:bS.pj3 F  aH aC ap aM aI aN aO vj=some r):Rt (bS.j3 F (bc.tw F) (dn.tw F) (dp.tw F) (bR.tw F) (fi.tw F)  ax 0 vj H) (bS.Q H0 Ri R0 aw ai aC ap aq ak ar au aG av aR bz aJ bC bD aF aY aD aZ a_ ax aS bE aK bF bG bV bW bX bY bZ bL b_ ca cb ce cf cg ch ci cj ck r):=by
 obtain ⟨w0,s0,cQ,db,cU,dh,di⟩:=h0
 subst eU
 subst eV
 subst eW
 subst eX
 subst eY
 unfold bS.pj3 at hp
 unfold bS.j3
 refine lI w0 5 ?_
 exact bS.l32747_P F rfl rfl rfl rfl rfl ⟨w0,s0,cQ,db,cU,dh,di⟩ hp
def bS.p (F:Nat) (aE:Int) (dr:agV) (bp:Int) (bg:Int) (fe:agV) (aV:Int) (aT:Int) (da:agV) (bh:Int) (bi:Int) (ff:agV) (bj:Int) (fg:agV) (af:Int):Option (Bool×List Int×List Int×List Int×List Int×List Int):=(bc.p F aV aT da af).bind λr3=>(bif (!r3.2.2) then (some (false,dr,fe,da,ff,fg)) else ((dn.p F aT da r3.1 af).bind λr7=>(dn.p F aE dr r3.1 af).bind λr10=>(dp.p F bp bg fe r3.1 af).bind λr13=>(dp.p F aV aT r7 r3.2.1 af).bind λr16=>(dp.p F bh bi ff r3.2.1 af).bind λr19=>(dn.p F bj fg r3.2.1 af).bind λr22=>(ix r16 (wrap .i64 ((wrap .i64 (af * aT))+af))).bind λn25=>(bif (decide ((gt r16 n25)<0)) then ((mb r16 (wrap .i64 (af * aT)) (wrap .i64 ((wrap .i64 (af+1)) * aT))).bind λx27=>(mb r10 (wrap .i64 (af * aE)) (wrap .i64 ((wrap .i64 (af+1)) * aE))).bind λx29=>(if r16.length+3<F/\r10.length+3<F/\r16.length+r10.length<=4294967296 then ((some (oK r16 ((wrap .i64 (af * aT)):Int).toNat x27.length)).bind λl32=>(some (oK r10 ((wrap .i64 (af * aE)):Int).toNat x29.length)).bind λl34=>bS.pj3 F l34 bp bg r13 l32 r19 r22 af) else none)) else (some (true,r10,r13,r16,r19,r22)))))
theorem bS.P {bo aE bp bg aV aT bh bi bK bj af cH dJ cz dK dL bU cY bQ cZ c_ aa cI dM cA dN dO dr fe da ff fg eO fo eP fp fq ay eQ eR gF ft fu il eS eT gG fv fw im fx fy io} (kr:bU=dr.length) (ne:cY=fe.length) (jJ:bQ=da.length) (ng:cZ=ff.length) (nh:c_=fg.length) (h0:Inn H (Rs.ow eO ⟨cH,bU,cI⟩ eI.z eQ gF eR::Rs.ow fo ⟨dJ,cY,dM⟩ eI.z ft il fu::Rs.ow eP ⟨cz,bQ,cA⟩ eI.z eS gG eT::Rs.ow fp ⟨dK,cZ,dN⟩ eI.z fv im fw::Rs.ow fq ⟨dL,c_,dO⟩ eI.z fx io fy::Rs.blk aa [.i bo,.i aE,.sl ⟨cH,bU,cI⟩,.i bp,.i bg,.sl ⟨dJ,cY,dM⟩,.i aV,.i aT,.sl ⟨cz,bQ,cA⟩,.i bh,.i bi,.sl ⟨dK,cZ,dN⟩,.i bK,.i bj,.sl ⟨dL,c_,dO⟩,.bool ay]::R0) λR=>CR eI H R gF dr/\CR eI H R il fe/\CR eI H R gG da/\CR eI H R im ff/\CR eI H R io fg) {r:aha} (hp:bS.p F aE dr bp bg fe aV aT da bh bi ff bj fg af=some r):Rt (bS.tw F aa 0 af H) (bS.Q H (Rs.ow eO ⟨cH,bU,cI⟩ eI.z eQ gF eR::Rs.ow fo ⟨dJ,cY,dM⟩ eI.z ft il fu::Rs.ow eP ⟨cz,bQ,cA⟩ eI.z eS gG eT::Rs.ow fp ⟨dK,cZ,dN⟩ eI.z fv im fw::Rs.ow fq ⟨dL,c_,dO⟩ eI.z fx io fy::Rs.blk aa [.i bo,.i aE,.sl ⟨cH,bU,cI⟩,.i bp,.i bg,.sl ⟨dJ,cY,dM⟩,.i aV,.i aT,.sl ⟨cz,bQ,cA⟩,.i bh,.i bi,.sl ⟨dK,cZ,dN⟩,.i bK,.i bj,.sl ⟨dL,c_,dO⟩,.bool ay]::R0) R0 bo aE bp bg aV aT bh bi bK bj cH dJ cz dK dL bU cY bQ cZ c_ aa cI dM cA dN dO eO fo eP fp fq ay eQ eR ft fu eS eT fv fw fx fy r):=by
 obtain ⟨w0,jy,lV,iU,lW,lX⟩:=h0
 subst kr
 subst ne
 subst jJ
 subst ng
 subst nh
 unfold bS.p at hp
 unfold bS.tw bS.twX
 have s0:=w0.rf
 obtain ⟨w1,s1⟩:=w0.pp [2,5,0,1,3,4] 6
 have f2:=W.borrow1 eI w1 (iU.step s1)
 obtain ⟨w2,s2⟩:=w1.right1
 obtain ⟨r3,e3,hp⟩:=ag hp
 refine aP (bc.P rfl ⟨w2,f2⟩ e3) ?_
 rintro _ H4 ⟨rfl,w4,s4,_⟩
 obtain ⟨w5,s5⟩:=W.frame1 w1 w4 s4
 refine br (br (br (br (br (br (br ?_))))))
 refine aX hp (λhp=>?_) λhp=>?_
 ·obtain ⟨w6,s6⟩:=w5.pp [2,3,0,4,5,1] 6
  exact aW hp ⟨_,_,_,_,_,rfl,rfl,rfl,rfl,rfl,rfl,w6,(s0.trans (s1.trans (s5.trans s6))),(jy.step (s1.trans (s5.trans s6))),(lV.step (s1.trans (s5.trans s6))),(iU.step (s1.trans (s5.trans s6))),(lW.step (s1.trans (s5.trans s6))),(lX.step (s1.trans (s5.trans s6)))⟩
 ·refine lI w5 1 ?_
  refine lI w5 1 ?_
  refine lSl w5 1 ?_
  obtain ⟨r7,e7,hp⟩:=ag hp
  refine aP (dn.P rfl ⟨w5,(iU.step (s1.trans s5))⟩ e7) ?_
  rintro _ H8 ⟨X_,rfl,hl8_0,w8,s8,f8_0⟩
  refine lI w8 1 ?_
  refine lI w8 1 ?_
  refine lSl w8 1 ?_
  obtain ⟨w9,s9⟩:=w8.pp [2,0,1,3,4,5] 6
  obtain ⟨r10,e10,hp⟩:=ag hp
  refine aP (dn.P rfl ⟨w9,(jy.step (s1.trans (s5.trans (s8.trans s9))))⟩ e10) ?_
  rintro _ H11 ⟨Ya,rfl,hl11_0,w11,s11,f11_0⟩
  refine lI w11 2 ?_
  refine lI w11 2 ?_
  refine lSl w11 2 ?_
  obtain ⟨w12,s12⟩:=w11.pp [3,0,1,2,4,5] 6
  obtain ⟨r13,e13,hp⟩:=ag hp
  refine aP (dp.P rfl ⟨w12,(lV.step (s1.trans (s5.trans (s8.trans (s9.trans (s11.trans s12))))))⟩ e13) ?_
  rintro _ H14 ⟨Yb,rfl,hl14_0,w14,s14,f14_0⟩
  refine lI w14 3 ?_
  refine lI w14 3 ?_
  refine lSl w14 3 ?_
  obtain ⟨w15,s15⟩:=w14.pp [2,0,1,3,4,5] 6
  obtain ⟨r16,e16,hp⟩:=ag hp
  refine aP (dp.P hl8_0 ⟨w15,(f8_0.step (s9.trans (s11.trans (s12.trans (s14.trans s15)))))⟩ e16) ?_
  rintro _ H17 ⟨Yc,rfl,hl17_0,w17,s17,f17_0⟩
  refine lI w17 3 ?_
  refine lI w17 3 ?_
  refine lSl w17 3 ?_
  obtain ⟨w18,s18⟩:=w17.pp [4,0,1,2,3,5] 6
  obtain ⟨r19,e19,hp⟩:=ag hp
  refine aP (dp.P rfl ⟨w18,(lW.step (s1.trans (s5.trans (s8.trans (s9.trans (s11.trans (s12.trans (s14.trans (s15.trans (s17.trans s18))))))))))⟩ e19) ?_
  rintro _ H20 ⟨agi,rfl,hl20_0,w20,s20,f20_0⟩
  refine lI w20 4 ?_
  refine lI w20 4 ?_
  refine lSl w20 4 ?_
  obtain ⟨w21,s21⟩:=w20.pp [5,0,1,2,3,4] 6
  obtain ⟨r22,e22,hp⟩:=ag hp
  refine aP (dn.P rfl ⟨w21,(lX.step (s1.trans (s5.trans (s8.trans (s9.trans (s11.trans (s12.trans (s14.trans (s15.trans (s17.trans (s18.trans (s20.trans s21))))))))))))⟩ e22) ?_
  rintro _ H23 ⟨agj,rfl,hl23_0,w23,s23,f23_0⟩
  refine lI w23 5 ?_
  refine lI w23 5 ?_
  refine lSl w23 5 ?_
  refine bR.inl ?_
  refine cF w23 λH24 w24 s24=>?_
  refine lSl w24 0 ?_
  refine lI w24 0 ?_
  obtain ⟨n25,g25,hp⟩:=ag hp
  obtain ⟨p25,q25,i25,h25,j25⟩:=W.ixo (E:=eI) w24 (i:=3) rfl rfl (f17_0.step (s18.trans (s20.trans (s21.trans (s23.trans s24))))) g25
  refine bu i25 ?_
  refine ⟨_,_,rfl,?_⟩
  refine br ?_
  have h25:_=[_]:=h25
  subst h25
  refine bu (dx (j25 0 _ rfl)) ?_
  refine aX hp (λhp=>?_) λhp=>?_
  ·refine bu (dx (w24.ld (i:=6) rfl rfl)) ?_
   refine bu (dx (w24.ld (i:=6) rfl rfl)) ?_
   refine bu (jO (w24.ld (i:=6) rfl rfl)) ?_
   refine fi.inl ?_
   refine cF w24 λH26 w26 s26=>?_
   refine bu (jO (w26.ld (i:=0) rfl rfl)) ?_
   refine bu (dx (w26.ld (i:=0) rfl rfl)) ?_
   refine bu (dx (w26.ld (i:=0) rfl rfl)) ?_
   obtain ⟨x27,e27,hp⟩:=ag hp
   obtain ⟨d27,h27,t27,u27⟩:=W.cutv (E:=eI) w26 (i:=4) rfl (f17_0.step (s18.trans (s20.trans (s21.trans (s23.trans (s24.trans s26)))))) e27
   refine bu h27 ?_
   refine ⟨_,_,rfl,?_⟩
   refine bu rfl ?_
   refine fQ (W.cons_of (Rn:=[_]) w24 w26 s26) ?_
   refine bu (dx (w26.ld (i:=7) rfl rfl)) ?_
   refine bu (dx (w26.ld (i:=7) rfl rfl)) ?_
   refine bu (jO (w26.ld (i:=7) rfl rfl)) ?_
   refine fi.inl ?_
   refine cF w26 λH28 w28 s28=>?_
   refine bu (jO (w28.ld (i:=0) rfl rfl)) ?_
   refine bu (dx (w28.ld (i:=0) rfl rfl)) ?_
   refine bu (dx (w28.ld (i:=0) rfl rfl)) ?_
   obtain ⟨x29,e29,hp⟩:=ag hp
   obtain ⟨d29,h29,t29,u29⟩:=W.cutv (E:=eI) w28 (i:=7) rfl (f11_0.step (s12.trans (s14.trans (s15.trans (s17.trans (s18.trans (s20.trans (s21.trans (s23.trans (s24.trans (s26.trans s28))))))))))) e29
   refine bu h29 ?_
   refine ⟨_,_,rfl,?_⟩
   refine bu rfl ?_
   refine cF w28 λH30 w30 s30=>?_
   obtain ⟨⟨hF,hl6,hl0⟩,hp⟩:=oM hp
   obtain ⟨k,rfl⟩:∃ k,F=k+3:=⟨F - 3,by omega⟩
   unfold bS.l32745
   refine DE (λ_=>?_) (λhb=>absurd (show decide ((0:Int)<((2:Nat):Int))=false from hb) (by decide))
   refine bu (show _=some (_,_) from rfl) ?_
   refine bu (jO (w30.ld (i:=0) rfl rfl)) ?_
   refine bS.neg_k (i:=6) t27 u27 w30 rfl (f17_0.step (s18.trans (s20.trans (s21.trans (s23.trans (s24.trans (s26.trans (s28.trans s30)))))))) e27 (by omega) (by omega) λH31 k31 w31 s31 c31=>?_
   dsimp only [List.set] at w31 s31 c31
   obtain ⟨l32,e32,hp⟩:=ag hp
   obtain rfl:=Option.some.inj e32
   unfold bS.l32745
   refine DE (λ_=>?_) (λhb=>absurd (show decide ((wrap .i64 (0+1))<((2:Nat):Int))=false from hb) (by decide))
   refine bu (show _=some (_,_) from rfl) ?_
   refine bu (jO (w31.ld (i:=0) rfl rfl)) ?_
   refine bS.neg_k (i:=8) t29 u29 w31 rfl (f11_0.step (s12.trans (s14.trans (s15.trans (s17.trans (s18.trans (s20.trans (s21.trans (s23.trans (s24.trans (s26.trans (s28.trans (s30.trans s31))))))))))))) e29 (by omega) (by omega) λH33 k33 w33 s33 c33=>?_
   dsimp only [List.set] at w33 s33 c33
   obtain ⟨l34,e34,hp⟩:=ag hp
   obtain rfl:=Option.some.inj e34
   unfold bS.l32745
   refine DE (λhb=>absurd (show decide (wrap .i64 (wrap .i64 (0+1)+1)<((2:Nat):Int))=true from hb) (by decide)) (λ_=>?_)
   obtain ⟨w35,s35⟩:=w33.pp [8,7,6,5,4,9] 10
   exact bS.j3_P (hl11_0.trans (UZ _ _ _).symm) hl14_0 (hl17_0.trans (UZ _ _ _).symm) hl20_0 hl23_0 ⟨w35,(s0.trans (s1.trans (s5.trans (s8.trans (s9.trans (s11.trans (s12.trans (s14.trans (s15.trans (s17.trans (s18.trans (s20.trans (s21.trans (s23.trans (s24.trans (s26.trans (s28.trans (s30.trans (s31.trans (s33.trans s35)))))))))))))))))))),(c33.step s35),(f14_0.step (s15.trans (s17.trans (s18.trans (s20.trans (s21.trans (s23.trans (s24.trans (s26.trans (s28.trans (s30.trans (s31.trans (s33.trans s35))))))))))))),(c31.step (s33.trans s35)),(f20_0.step (s21.trans (s23.trans (s24.trans (s26.trans (s28.trans (s30.trans (s31.trans (s33.trans s35))))))))),(f23_0.step (s24.trans (s26.trans (s28.trans (s30.trans (s31.trans (s33.trans s35)))))))⟩ hp
  ·obtain ⟨w36,s36⟩:=w24.pp [5,4,3,2,1,6] 7
   exact aW hp ⟨_,_,_,_,_,rfl,hl11_0,hl14_0,hl17_0,hl20_0,hl23_0,w36,(s0.trans (s1.trans (s5.trans (s8.trans (s9.trans (s11.trans (s12.trans (s14.trans (s15.trans (s17.trans (s18.trans (s20.trans (s21.trans (s23.trans (s24.trans s36))))))))))))))),(f11_0.step (s12.trans (s14.trans (s15.trans (s17.trans (s18.trans (s20.trans (s21.trans (s23.trans (s24.trans s36)))))))))),(f14_0.step (s15.trans (s17.trans (s18.trans (s20.trans (s21.trans (s23.trans (s24.trans s36)))))))),(f17_0.step (s18.trans (s20.trans (s21.trans (s23.trans (s24.trans s36)))))),(f20_0.step (s21.trans (s23.trans (s24.trans s36)))),(f23_0.step (s24.trans s36))⟩
def hG.Q (H0:Hp) (Ri R0:agX)  (r:Int) (v:AV) (H':Hp):Prop:=v=(.i r)/\Out H0 Ri H' (R0) λR=>True
def hG.p (F:Nat) (aa:Int) (aQ:Int):Option (Int):=(if aQ=0 then none else ((if aQ=0 then none else ((bif (decide ((Int.tmod aa aQ)<0)) then (some (wrap .i64 ((wrap .i64 (Int.tdiv aa aQ)) - 1))) else (some (wrap .i64 (Int.tdiv aa aQ))))))))
theorem hG.P {aa aQ}  (h0:Inn H R0 λR=>True) {r:Int} (hp:hG.p F aa aQ=some r):Rt (hG.tw F aa aQ H) (hG.Q H R0 R0  r):=by
 obtain ⟨w0,_⟩:=h0
 unfold hG.p at hp
 unfold hG.tw hG.twX
 have s0:=w0.rf
 obtain ⟨g1,hp⟩:=oI hp
 refine oJ g1 ?_
 obtain ⟨g2,hp⟩:=oI hp
 refine oJ g2 ?_
 refine aX hp (λhp=>?_) λhp=>?_
 ·exact aW hp ⟨rfl,w0,s0,trivial⟩
 ·exact aW hp ⟨rfl,w0,s0,trivial⟩
def gq.Q (H0:Hp) (Ri R0:agX) (bo aE bp bg aV aT bh bi bK bj:Int) (bP cV eu cW cX:Sl) (aa af:Nat) (r:Bool×Int) (v:AV) (H':Hp):Prop:=v=(.tup [])/\Out H0 Ri H' (Rs.blk aa [.i bo,.i aE,.sl bP,.i bp,.i bg,.sl cV,.i aV,.i aT,.sl eu,.i bh,.i bi,.sl cW,.i bK,.i bj,.sl cX,.bool (r.1)]::Rs.blk af [.i (r.2)]::R0) λR=>True
def gq.p (F:Nat) (ay:Bool) (wR:Int) (cG:Int) (kU:Int):Option (Bool×Int):=(fE.p F cG kU 2000000000000).bind λr1=>(bif (!r1.2) then (some (true,0)) else ((es.p F (wrap .i64 (wR+r1.1))).bind λr6=>(bif (decide (r6>1000000000000)) then (some (true,0)) else (some (ay,(wrap .i64 (wR+r1.1)))))))
theorem gq.P {bo aE bp bg aV aT bh bi bK bj wR cG kU bP cV eu cW cX ay aa af}  (h0:Inn H (Rs.blk aa [.i bo,.i aE,.sl bP,.i bp,.i bg,.sl cV,.i aV,.i aT,.sl eu,.i bh,.i bi,.sl cW,.i bK,.i bj,.sl cX,.bool ay]::Rs.blk af [.i wR]::R0) λR=>True) {r:Bool×Int} (hp:gq.p F ay wR cG kU=some r):Rt (gq.tw F aa 0 af 0 cG kU H) (gq.Q H (Rs.blk aa [.i bo,.i aE,.sl bP,.i bp,.i bg,.sl cV,.i aV,.i aT,.sl eu,.i bh,.i bi,.sl cW,.i bK,.i bj,.sl cX,.bool ay]::Rs.blk af [.i wR]::R0) R0 bo aE bp bg aV aT bh bi bK bj bP cV eu cW cX aa af r):=by
 obtain ⟨w0,_⟩:=h0
 unfold gq.p at hp
 unfold gq.tw gq.twX
 have s0:=w0.rf
 obtain ⟨r1,e1,hp⟩:=ag hp
 refine aP (fE.P ⟨w0,trivial⟩ e1) ?_
 rintro _ H2 ⟨rfl,w2,s2,_⟩
 refine br (br (br (br (br ?_))))
 refine lI w2 1 ?_
 refine aL w2 1 λH3 w3 s3=>?_
 refine aX hp (λhp=>?_) λhp=>?_
 ·refine aL w3 0 λH4 w4 s4=>?_
  refine aL w4 1 λH5 w5 s5=>?_
  exact aW hp ⟨rfl,w5,(s0.trans (s2.trans (s3.trans (s4.trans s5)))),trivial⟩
 ·refine lI w3 1 ?_
  obtain ⟨r6,e6,hp⟩:=ag hp
  refine aP (es.P ⟨w3,trivial⟩ e6) ?_
  rintro _ H7 ⟨rfl,w7,s7,_⟩
  refine br ?_
  refine aX hp (λhp=>?_) λhp=>?_
  ·refine aL w7 0 λH8 w8 s8=>?_
   refine aL w8 1 λH9 w9 s9=>?_
   exact aW hp ⟨rfl,w9,(s0.trans (s2.trans (s3.trans (s7.trans (s8.trans s9))))),trivial⟩
  ·exact aW hp ⟨rfl,w7,(s0.trans (s2.trans (s3.trans s7))),trivial⟩
def dk.Q (H0:Hp) (Ri R0:agX) (bo aE bp bg aV aT bh bi bK bj:Int) (bP cV eu cW cX:Sl) (aa fc:Nat) (gf:ON) (gg:Cap) (gV:Bool) (gW gX:ag3) (r:ahc) (v:AV) (H':Hp):Prop:=∃ mK:List AV,v=(.tup [])/\fc=(r.2).length/\Out H0 Ri H' (Rs.blk aa [.i bo,.i aE,.sl bP,.i bp,.i bg,.sl cV,.i aV,.i aT,.sl eu,.i bh,.i bi,.sl cW,.i bK,.i bj,.sl cX,.bool (r.1)]::Rs.ow gV ⟨gf,fc,gg⟩ eI.z gW mK gX::R0) λR=>CR eI H' R mK (r.2)
def dk.S7 (H0:Hp) (Ri R0:agX) (aw ai aC ap aq ak ar au aG av:Int) (dR cB eD cC cD:Sl) (ax ip:Nat) (jm:ON) (jn:Cap) (ku:Bool) (kw kx:ag3) (C:ah5) (pC:ah6):Prop:=∀ {ay ed gj ia yq kA ib fZ jp ta ee},∀ {H:Hp},ip=jp.length->(Out H0 Ri H (Rs.blk ax [.i aw,.i ai,.sl dR,.i aC,.i ap,.sl cB,.i aq,.i ak,.sl eD,.i ar,.i au,.sl cC,.i aG,.i av,.sl cD,.bool ay]::Rs.ow ku ⟨jm,ip,jn⟩ eI.z kw ta kx::Rs.blk ee [.i yq,.i kA,.sl ⟨jm,ip,jn⟩]::R0) λR=>CR eI H R ta jp)->∀ {r:ahc},pC ay ed gj ia kA jp ib fZ=some r->Rt (C ax 0 ed gj ia ee 0 ib fZ H) (dk.Q H0 Ri R0 aw ai aC ap aq ak ar au aG av dR cB eD cC cD ax ip jm jn ku kw kx r)
def dk.pl7 (F:Nat) :Nat->Bool->Int->Int->Int->Int->List Int->Int->Int->Option (Bool×List Int)
 | 0,_,_,_,_,_,_,_,_=>none
 | k+1,ay,ed,gj,ia,kA,jp,ib,fZ=>(bif (decide (fZ<ib)) then ((ix jp (wrap .i64 ((wrap .i64 (ed * kA))+fZ))).bind λn2=>(ix jp (wrap .i64 ((wrap .i64 (gj * kA))+fZ))).bind λn5=>(fE.p F (gt jp n5) ia 2000000000000).bind λr6=>(some (jp.set n2 (wrap .i64 ((gt jp n2)+r6.1)))).bind λl9=>(bif (!r6.2) then ((some (l9.set n2 0)).bind λl12=>dk.pl7 F k true ed gj ia kA l12 ib (wrap .i64 (fZ+1))) else ((es.p F (gt l9 n2)).bind λr16=>(bif (decide (r16>1000000000000)) then ((some (l9.set n2 0)).bind λl19=>dk.pl7 F k true ed gj ia kA l19 ib (wrap .i64 (fZ+1))) else (dk.pl7 F k ay ed gj ia kA l9 ib (wrap .i64 (fZ+1))))))) else (some (ay,jp)))
theorem dk.l7_P {aw ai aC ap aq ak ar au aG av dR cB eD cC cD ax ip jm jn ku kw kx} :∀ k,dk.S7 H0 Ri R0 aw ai aC ap aq ak ar au aG av dR cB eD cC cD ax ip jm jn ku kw kx (dk.l7 F (bR.tw F) (gq.tw F)  k) (dk.pl7 F  k):=by
 intro k
 induction k with
 | zero=>unfold dk.S7;intros;rename_i hp;cases hp
 | succ k ih=>
  intro ay ed gj ia yq kA ib fZ jp ta ee H Kl h0 r hp
  obtain ⟨w0,s0,oH⟩:=h0
  subst Kl
  unfold dk.pl7 at hp
  unfold dk.l7
  refine aX hp (λhp=>?_) λhp=>?_
  ·refine lI w0 2 ?_
   refine lI w0 2 ?_
   refine lSl w0 2 ?_
   refine bR.inl ?_
   refine cF w0 λH1 w1 s1=>?_
   refine lSl w1 0 ?_
   refine lI w1 0 ?_
   obtain ⟨n2,g2,hp⟩:=ag hp
   obtain ⟨p2,q2,i2,h2,j2⟩:=W.ixo (E:=eI) w1 (i:=2) rfl rfl (oH.step s1) g2
   refine bu i2 ?_
   refine ⟨_,_,rfl,?_⟩
   refine br ?_
   refine fQ (W.cons_of (Rn:=[_]) w0 w1 s1) ?_
   refine lI w1 3 ?_
   refine lI w1 3 ?_
   refine lSl w1 3 ?_
   refine bR.inl ?_
   refine cF w1 λH4 w4 s4=>?_
   refine lSl w4 0 ?_
   refine lI w4 0 ?_
   obtain ⟨n5,g5,hp⟩:=ag hp
   obtain ⟨p5,q5,i5,h5,j5⟩:=W.ixo (E:=eI) w4 (i:=3) rfl rfl (oH.step (s1.trans s4)) g5
   refine bu i5 ?_
   refine ⟨_,_,rfl,?_⟩
   refine br ?_
   have h5:_=[_]:=h5
   subst h5
   refine bu (dx (j5 0 _ rfl)) ?_
   refine gq.inl ?_
   obtain ⟨r6,e6,hp⟩:=ag hp
   refine aP (fE.P ⟨w4,trivial⟩ e6) ?_
   rintro _ H7 ⟨rfl,w7,s7,_⟩
   refine br (br (br (br (br ?_))))
   obtain ⟨p8,q8,i8,h8,j8⟩:=W.ixo (E:=eI) w7 (i:=3) rfl rfl (oH.step (s1.trans (s4.trans s7))) g2
   obtain rfl:=Option.some.inj (i2.symm.trans i8)
   have h8:_=[_]:=h8
   subst h8
   refine bu (dx (j8 0 _ rfl)) ?_
   obtain ⟨l9,e9,hp⟩:=ag hp
   refine iF eI w7 (i:=3) (j:=0) (p:=p2) rfl rfl (oH.step (s1.trans (s4.trans s7))) g2 i2 e9 rfl rfl (λ_ h=>by have h:_=[_]:=h;subst h;exact rfl) λH10 k10 w10 s10 c10=>?_
   refine aX hp (λhp=>?_) λhp=>?_
   ·refine aL w10 2 λH11 w11 s11=>?_
    obtain ⟨l12,e12,hp⟩:=ag hp
    refine iF eI w11 (i:=3) (j:=0) (p:=p2) rfl rfl (c10.step s11) (rc g2 (fJ e9)) i2 e12 rfl rfl (λ_ h=>by have h:_=[_]:=h;subst h;exact rfl) λH13 k13 w13 s13 c13=>?_
    refine ⟨_,_,rfl,?_⟩
    obtain ⟨w14,s14⟩:=w13.pp [2,3,4] 5
    exact ih ((fJ e9).symm.trans (fJ e12).symm) ⟨w14,(s0.trans (s1.trans (s4.trans (s7.trans (s10.trans (s11.trans (s13.trans s14))))))),(c13.step s14)⟩ hp
   ·obtain ⟨p15,q15,i15,h15,j15⟩:=W.ixo (E:=eI) w10 (i:=3) rfl rfl c10 (rc g2 (fJ e9))
    obtain rfl:=Option.some.inj (i2.symm.trans i15)
    have h15:_=[_]:=h15
    subst h15
    refine bu (dx (j15 0 _ rfl)) ?_
    obtain ⟨r16,e16,hp⟩:=ag hp
    refine aP (es.P ⟨w10,trivial⟩ e16) ?_
    rintro _ H17 ⟨rfl,w17,s17,_⟩
    refine br ?_
    refine aX hp (λhp=>?_) λhp=>?_
    ·refine aL w17 2 λH18 w18 s18=>?_
     obtain ⟨l19,e19,hp⟩:=ag hp
     refine iF eI w18 (i:=3) (j:=0) (p:=p2) rfl rfl (c10.step (s17.trans s18)) (rc g2 (fJ e9)) i2 e19 rfl rfl (λ_ h=>by have h:_=[_]:=h;subst h;exact rfl) λH20 k20 w20 s20 c20=>?_
     refine ⟨_,_,rfl,?_⟩
     obtain ⟨w21,s21⟩:=w20.pp [2,3,4] 5
     exact ih ((fJ e9).symm.trans (fJ e19).symm) ⟨w21,(s0.trans (s1.trans (s4.trans (s7.trans (s10.trans (s17.trans (s18.trans (s20.trans s21)))))))),(c20.step s21)⟩ hp
    ·refine ⟨_,_,rfl,?_⟩
     obtain ⟨w22,s22⟩:=w17.pp [2,3,4] 5
     exact ih ((fJ e9).symm) ⟨w22,(s0.trans (s1.trans (s4.trans (s7.trans (s10.trans (s17.trans s22)))))),(c10.step (s17.trans s22))⟩ hp
  ·obtain ⟨w23,s23⟩:=w0.pp [0,1] 3
   exact aW hp ⟨_,rfl,rfl,w23,(s0.trans s23),(oH.step s23)⟩
def dk.p (F:Nat) (ay:Bool) (aA:Int) (gH:agV) (ef:Int) (eg:Int) (dY:Int):Option (Bool×List Int):=dk.pl7 F F ay ef eg dY aA gH aA 0
theorem dk.P {bo aE bp bg aV aT bh bi bK bj af aA ef eg dY bP cV eu cW cX ay gV aa fc gf gg gH gW gX kt} (pO:fc=gH.length) (h0:Inn H (Rs.blk aa [.i bo,.i aE,.sl bP,.i bp,.i bg,.sl cV,.i aV,.i aT,.sl eu,.i bh,.i bi,.sl cW,.i bK,.i bj,.sl cX,.bool ay]::Rs.ow gV ⟨gf,fc,gg⟩ eI.z gW kt gX::R0) λR=>CR eI H R kt gH) {r:ahc} (hp:dk.p F ay aA gH ef eg dY=some r):Rt (dk.tw F aa 0 af aA ⟨gf,fc,gg⟩ ef eg dY H) (dk.Q H (Rs.blk aa [.i bo,.i aE,.sl bP,.i bp,.i bg,.sl cV,.i aV,.i aT,.sl eu,.i bh,.i bi,.sl cW,.i bK,.i bj,.sl cX,.bool ay]::Rs.ow gV ⟨gf,fc,gg⟩ eI.z gW kt gX::R0) R0 bo aE bp bg aV aT bh bi bK bj bP cV eu cW cX aa fc gf gg gV gW gX r):=by
 obtain ⟨w0,oC⟩:=h0
 subst pO
 unfold dk.p at hp
 unfold dk.tw dk.twX
 have s0:=w0.rf
 refine cF w0 λH1 w1 s1=>?_
 refine lI w1 0 ?_
 obtain ⟨w2,s2⟩:=w1.pp [1,2,0] 3
 exact dk.l7_P F rfl ⟨w2,(s0.trans (s1.trans s2)),(oC.step (s1.trans s2))⟩ hp
def dl.Q (H0:Hp) (Ri R0:agX) (bo aE bp bg aV aT bh bi bK bj:Int) (bP cV eu cW cX:Sl) (aa fc:Nat) (gf:ON) (gg:Cap) (gV:Bool) (gW gX:ag3) (r:ahc) (v:AV) (H':Hp):Prop:=∃ mK:List AV,v=(.tup [])/\fc=(r.2).length/\Out H0 Ri H' (Rs.blk aa [.i bo,.i aE,.sl bP,.i bp,.i bg,.sl cV,.i aV,.i aT,.sl eu,.i bh,.i bi,.sl cW,.i bK,.i bj,.sl cX,.bool (r.1)]::Rs.ow gV ⟨gf,fc,gg⟩ eI.z gW mK gX::R0) λR=>CR eI H' R mK (r.2)
def dl.S7 (H0:Hp) (Ri R0:agX) (aw ai aC ap aq ak ar au aG av:Int) (dR cB eD cC cD:Sl) (ax ip:Nat) (jm:ON) (jn:Cap) (ku:Bool) (kw kx:ag3) (C:ah5) (pC:ah6):Prop:=∀ {ay ed gj ia yq kA ib fZ jp ta ee},∀ {H:Hp},ip=jp.length->(Out H0 Ri H (Rs.blk ax [.i aw,.i ai,.sl dR,.i aC,.i ap,.sl cB,.i aq,.i ak,.sl eD,.i ar,.i au,.sl cC,.i aG,.i av,.sl cD,.bool ay]::Rs.ow ku ⟨jm,ip,jn⟩ eI.z kw ta kx::Rs.blk ee [.i yq,.i kA,.sl ⟨jm,ip,jn⟩]::R0) λR=>CR eI H R ta jp)->∀ {r:ahc},pC ay ed gj ia kA jp ib fZ=some r->Rt (C ax 0 ed gj ia ee 0 ib fZ H) (dl.Q H0 Ri R0 aw ai aC ap aq ak ar au aG av dR cB eD cC cD ax ip jm jn ku kw kx r)
def dl.pl7 (F:Nat) :Nat->Bool->Int->Int->Int->Int->List Int->Int->Int->Option (Bool×List Int)
 | 0,_,_,_,_,_,_,_,_=>none
 | k+1,ay,ed,gj,ia,kA,jp,ib,fZ=>(bif (decide (fZ<ib)) then ((ix jp (wrap .i64 ((wrap .i64 (fZ * kA))+ed))).bind λn2=>(ix jp (wrap .i64 ((wrap .i64 (fZ * kA))+gj))).bind λn5=>(fE.p F (gt jp n5) ia 2000000000000).bind λr6=>(some (jp.set n2 (wrap .i64 ((gt jp n2)+r6.1)))).bind λl9=>(bif (!r6.2) then ((some (l9.set n2 0)).bind λl12=>dl.pl7 F k true ed gj ia kA l12 ib (wrap .i64 (fZ+1))) else ((es.p F (gt l9 n2)).bind λr16=>(bif (decide (r16>1000000000000)) then ((some (l9.set n2 0)).bind λl19=>dl.pl7 F k true ed gj ia kA l19 ib (wrap .i64 (fZ+1))) else (dl.pl7 F k ay ed gj ia kA l9 ib (wrap .i64 (fZ+1))))))) else (some (ay,jp)))
theorem dl.l7_P {aw ai aC ap aq ak ar au aG av dR cB eD cC cD ax ip jm jn ku kw kx} :∀ k,dl.S7 H0 Ri R0 aw ai aC ap aq ak ar au aG av dR cB eD cC cD ax ip jm jn ku kw kx (dl.l7 F (bR.tw F) (gq.tw F)  k) (dl.pl7 F  k):=by
 intro k
 induction k with
 | zero=>unfold dl.S7;intros;rename_i hp;cases hp
 | succ k ih=>
  intro ay ed gj ia yq kA ib fZ jp ta ee H Kl h0 r hp
  obtain ⟨w0,s0,oH⟩:=h0
  subst Kl
  unfold dl.pl7 at hp
  unfold dl.l7
  refine aX hp (λhp=>?_) λhp=>?_
  ·refine lI w0 2 ?_
   refine lI w0 2 ?_
   refine lSl w0 2 ?_
   refine bR.inl ?_
   refine cF w0 λH1 w1 s1=>?_
   refine lSl w1 0 ?_
   refine lI w1 0 ?_
   obtain ⟨n2,g2,hp⟩:=ag hp
   obtain ⟨p2,q2,i2,h2,j2⟩:=W.ixo (E:=eI) w1 (i:=2) rfl rfl (oH.step s1) g2
   refine bu i2 ?_
   refine ⟨_,_,rfl,?_⟩
   refine br ?_
   refine fQ (W.cons_of (Rn:=[_]) w0 w1 s1) ?_
   refine lI w1 3 ?_
   refine lI w1 3 ?_
   refine lSl w1 3 ?_
   refine bR.inl ?_
   refine cF w1 λH4 w4 s4=>?_
   refine lSl w4 0 ?_
   refine lI w4 0 ?_
   obtain ⟨n5,g5,hp⟩:=ag hp
   obtain ⟨p5,q5,i5,h5,j5⟩:=W.ixo (E:=eI) w4 (i:=3) rfl rfl (oH.step (s1.trans s4)) g5
   refine bu i5 ?_
   refine ⟨_,_,rfl,?_⟩
   refine br ?_
   have h5:_=[_]:=h5
   subst h5
   refine bu (dx (j5 0 _ rfl)) ?_
   refine gq.inl ?_
   obtain ⟨r6,e6,hp⟩:=ag hp
   refine aP (fE.P ⟨w4,trivial⟩ e6) ?_
   rintro _ H7 ⟨rfl,w7,s7,_⟩
   refine br (br (br (br (br ?_))))
   obtain ⟨p8,q8,i8,h8,j8⟩:=W.ixo (E:=eI) w7 (i:=3) rfl rfl (oH.step (s1.trans (s4.trans s7))) g2
   obtain rfl:=Option.some.inj (i2.symm.trans i8)
   have h8:_=[_]:=h8
   subst h8
   refine bu (dx (j8 0 _ rfl)) ?_
   obtain ⟨l9,e9,hp⟩:=ag hp
   refine iF eI w7 (i:=3) (j:=0) (p:=p2) rfl rfl (oH.step (s1.trans (s4.trans s7))) g2 i2 e9 rfl rfl (λ_ h=>by have h:_=[_]:=h;subst h;exact rfl) λH10 k10 w10 s10 c10=>?_
   refine aX hp (λhp=>?_) λhp=>?_
   ·refine aL w10 2 λH11 w11 s11=>?_
    obtain ⟨l12,e12,hp⟩:=ag hp
    refine iF eI w11 (i:=3) (j:=0) (p:=p2) rfl rfl (c10.step s11) (rc g2 (fJ e9)) i2 e12 rfl rfl (λ_ h=>by have h:_=[_]:=h;subst h;exact rfl) λH13 k13 w13 s13 c13=>?_
    refine ⟨_,_,rfl,?_⟩
    obtain ⟨w14,s14⟩:=w13.pp [2,3,4] 5
    exact ih ((fJ e9).symm.trans (fJ e12).symm) ⟨w14,(s0.trans (s1.trans (s4.trans (s7.trans (s10.trans (s11.trans (s13.trans s14))))))),(c13.step s14)⟩ hp
   ·obtain ⟨p15,q15,i15,h15,j15⟩:=W.ixo (E:=eI) w10 (i:=3) rfl rfl c10 (rc g2 (fJ e9))
    obtain rfl:=Option.some.inj (i2.symm.trans i15)
    have h15:_=[_]:=h15
    subst h15
    refine bu (dx (j15 0 _ rfl)) ?_
    obtain ⟨r16,e16,hp⟩:=ag hp
    refine aP (es.P ⟨w10,trivial⟩ e16) ?_
    rintro _ H17 ⟨rfl,w17,s17,_⟩
    refine br ?_
    refine aX hp (λhp=>?_) λhp=>?_
    ·refine aL w17 2 λH18 w18 s18=>?_
     obtain ⟨l19,e19,hp⟩:=ag hp
     refine iF eI w18 (i:=3) (j:=0) (p:=p2) rfl rfl (c10.step (s17.trans s18)) (rc g2 (fJ e9)) i2 e19 rfl rfl (λ_ h=>by have h:_=[_]:=h;subst h;exact rfl) λH20 k20 w20 s20 c20=>?_
     refine ⟨_,_,rfl,?_⟩
     obtain ⟨w21,s21⟩:=w20.pp [2,3,4] 5
     exact ih ((fJ e9).symm.trans (fJ e19).symm) ⟨w21,(s0.trans (s1.trans (s4.trans (s7.trans (s10.trans (s17.trans (s18.trans (s20.trans s21)))))))),(c20.step s21)⟩ hp
    ·refine ⟨_,_,rfl,?_⟩
     obtain ⟨w22,s22⟩:=w17.pp [2,3,4] 5
     exact ih ((fJ e9).symm) ⟨w22,(s0.trans (s1.trans (s4.trans (s7.trans (s10.trans (s17.trans s22)))))),(c10.step (s17.trans s22))⟩ hp
  ·obtain ⟨w23,s23⟩:=w0.pp [0,1] 3
   exact aW hp ⟨_,rfl,rfl,w23,(s0.trans s23),(oH.step s23)⟩
def dl.p (F:Nat) (ay:Bool) (af:Int) (aA:Int) (gH:agV) (ef:Int) (eg:Int) (dY:Int):Option (Bool×List Int):=dl.pl7 F F ay ef eg dY aA gH af 0
theorem dl.P {bo aE bp bg aV aT bh bi bK bj af aA ef eg dY bP cV eu cW cX ay gV aa fc gf gg gH gW gX kt} (pO:fc=gH.length) (h0:Inn H (Rs.blk aa [.i bo,.i aE,.sl bP,.i bp,.i bg,.sl cV,.i aV,.i aT,.sl eu,.i bh,.i bi,.sl cW,.i bK,.i bj,.sl cX,.bool ay]::Rs.ow gV ⟨gf,fc,gg⟩ eI.z gW kt gX::R0) λR=>CR eI H R kt gH) {r:ahc} (hp:dl.p F ay af aA gH ef eg dY=some r):Rt (dl.tw F aa 0 af aA ⟨gf,fc,gg⟩ ef eg dY H) (dl.Q H (Rs.blk aa [.i bo,.i aE,.sl bP,.i bp,.i bg,.sl cV,.i aV,.i aT,.sl eu,.i bh,.i bi,.sl cW,.i bK,.i bj,.sl cX,.bool ay]::Rs.ow gV ⟨gf,fc,gg⟩ eI.z gW kt gX::R0) R0 bo aE bp bg aV aT bh bi bK bj bP cV eu cW cX aa fc gf gg gV gW gX r):=by
 obtain ⟨w0,oC⟩:=h0
 subst pO
 unfold dl.p at hp
 unfold dl.tw dl.twX
 have s0:=w0.rf
 refine cF w0 λH1 w1 s1=>?_
 refine lI w1 0 ?_
 obtain ⟨w2,s2⟩:=w1.pp [1,2,0] 3
 exact dl.l7_P F rfl ⟨w2,(s0.trans (s1.trans s2)),(oC.step (s1.trans s2))⟩ hp
def fj.Q (H0:Hp) (Ri R0:agX) (bo aE bp bg aV aT bh bi bK bj:Int) (cH dJ cz:ON) (bU cY bQ aa:Nat) (cI dM cA:Cap) (eO fo eP:Bool) (eQ eR ft fu eS eT:ag3) (cW cX:Sl) (r:ahm) (v:AV) (H':Hp):Prop:=∃ jk:List AV,∃ jV:List AV,∃ jl:List AV,v=(.tup [])/\bU=(r.1).length/\cY=(r.2.1).length/\bQ=(r.2.2.1).length/\Out H0 Ri H' (Rs.ow eO ⟨cH,bU,cI⟩ eI.z eQ jk eR::Rs.ow fo ⟨dJ,cY,dM⟩ eI.z ft jV fu::Rs.ow eP ⟨cz,bQ,cA⟩ eI.z eS jl eT::Rs.blk aa [.i bo,.i aE,.sl ⟨cH,bU,cI⟩,.i bp,.i bg,.sl ⟨dJ,cY,dM⟩,.i aV,.i aT,.sl ⟨cz,bQ,cA⟩,.i bh,.i bi,.sl cW,.i bK,.i bj,.sl cX,.bool (r.2.2.2)]::R0) λR=>CR eI H' R jk (r.1)/\CR eI H' R jV (r.2.1)/\CR eI H' R jl (r.2.2.1)
def fj.p (F:Nat) (aE:Int) (dr:agV) (bp:Int) (bg:Int) (fe:agV) (aT:Int) (da:agV) (ay:Bool) (af:Int) (cy:Int) (dD:Int):Option (List Int×List Int×List Int×Bool):=(dk.p F ay aT da af cy dD).bind λr2=>(dk.p F r2.1 aE dr af cy dD).bind λr5=>(dl.p F r5.1 bp bg fe cy af (wrap .i64 (0 - dD))).bind λr8=>some (r5.2,r8.2,r2.2,r8.1)
theorem fj.P {bo aE bp bg aV aT bh bi bK bj af cy dD cH dJ cz bU cY bQ aa cI dM cA dr fe da eO fo eP ay eQ eR gF ft fu il eS eT gG cW cX} (kr:bU=dr.length) (ne:cY=fe.length) (jJ:bQ=da.length) (h0:Inn H (Rs.ow eO ⟨cH,bU,cI⟩ eI.z eQ gF eR::Rs.ow fo ⟨dJ,cY,dM⟩ eI.z ft il fu::Rs.ow eP ⟨cz,bQ,cA⟩ eI.z eS gG eT::Rs.blk aa [.i bo,.i aE,.sl ⟨cH,bU,cI⟩,.i bp,.i bg,.sl ⟨dJ,cY,dM⟩,.i aV,.i aT,.sl ⟨cz,bQ,cA⟩,.i bh,.i bi,.sl cW,.i bK,.i bj,.sl cX,.bool ay]::R0) λR=>CR eI H R gF dr/\CR eI H R il fe/\CR eI H R gG da) {r:ahm} (hp:fj.p F aE dr bp bg fe aT da ay af cy dD=some r):Rt (fj.tw F aa 0 af cy dD H) (fj.Q H (Rs.ow eO ⟨cH,bU,cI⟩ eI.z eQ gF eR::Rs.ow fo ⟨dJ,cY,dM⟩ eI.z ft il fu::Rs.ow eP ⟨cz,bQ,cA⟩ eI.z eS gG eT::Rs.blk aa [.i bo,.i aE,.sl ⟨cH,bU,cI⟩,.i bp,.i bg,.sl ⟨dJ,cY,dM⟩,.i aV,.i aT,.sl ⟨cz,bQ,cA⟩,.i bh,.i bi,.sl cW,.i bK,.i bj,.sl cX,.bool ay]::R0) R0 bo aE bp bg aV aT bh bi bK bj cH dJ cz bU cY bQ aa cI dM cA eO fo eP eQ eR ft fu eS eT cW cX r):=by
 obtain ⟨w0,jy,lV,iU⟩:=h0
 subst kr
 subst ne
 subst jJ
 unfold fj.p at hp
 unfold fj.tw fj.twX
 have s0:=w0.rf
 refine lI w0 3 ?_
 refine lI w0 3 ?_
 refine lSl w0 3 ?_
 obtain ⟨w1,s1⟩:=w0.pp [3,2,0,1] 4
 obtain ⟨r2,e2,hp⟩:=ag hp
 refine aP (dk.P rfl ⟨w1,(iU.step s1)⟩ e2) ?_
 rintro _ H3 ⟨Ep,rfl,hl3_0,w3,s3,f3_0⟩
 refine lI w3 0 ?_
 refine lI w3 0 ?_
 refine lSl w3 0 ?_
 obtain ⟨w4,s4⟩:=w3.pp [0,2,1,3] 4
 obtain ⟨r5,e5,hp⟩:=ag hp
 refine aP (dk.P rfl ⟨w4,(jy.step (s1.trans (s3.trans s4)))⟩ e5) ?_
 rintro _ H6 ⟨Er,rfl,hl6_0,w6,s6,f6_0⟩
 refine lI w6 0 ?_
 refine lI w6 0 ?_
 refine lSl w6 0 ?_
 obtain ⟨w7,s7⟩:=w6.pp [0,3,1,2] 4
 obtain ⟨r8,e8,hp⟩:=ag hp
 refine aP (dl.P rfl ⟨w7,(lV.step (s1.trans (s3.trans (s4.trans (s6.trans s7)))))⟩ e8) ?_
 rintro _ H9 ⟨Es,rfl,hl9_0,w9,s9,f9_0⟩
 obtain ⟨w10,s10⟩:=w9.pp [2,1,3,0] 4
 exact aW hp ⟨_,_,_,rfl,hl6_0,hl9_0,hl3_0,w10,(s0.trans (s1.trans (s3.trans (s4.trans (s6.trans (s7.trans (s9.trans s10))))))),(f6_0.step (s7.trans (s9.trans s10))),(f9_0.step s10),(f3_0.step (s4.trans (s6.trans (s7.trans (s9.trans s10)))))⟩
def gB.Q (H0:Hp) (Ri R0:agX) (bo aE bp bg aV aT bh bi bK bj:Int) (bP cV:Sl) (cz dK dL:ON) (bQ cZ c_ aa:Nat) (cA dN dO:Cap) (eP fp fq:Bool) (eS eT fv fw fx fy:ag3) (r:ahm) (v:AV) (H':Hp):Prop:=∃ jl:List AV,∃ jW:List AV,∃ jX:List AV,v=(.tup [])/\bQ=(r.1).length/\cZ=(r.2.1).length/\c_=(r.2.2.1).length/\Out H0 Ri H' (Rs.ow eP ⟨cz,bQ,cA⟩ eI.z eS jl eT::Rs.ow fp ⟨dK,cZ,dN⟩ eI.z fv jW fw::Rs.ow fq ⟨dL,c_,dO⟩ eI.z fx jX fy::Rs.blk aa [.i bo,.i aE,.sl bP,.i bp,.i bg,.sl cV,.i aV,.i aT,.sl ⟨cz,bQ,cA⟩,.i bh,.i bi,.sl ⟨dK,cZ,dN⟩,.i bK,.i bj,.sl ⟨dL,c_,dO⟩,.bool (r.2.2.2)]::R0) λR=>CR eI H' R jl (r.1)/\CR eI H' R jW (r.2.1)/\CR eI H' R jX (r.2.2.1)
def gB.p (F:Nat) (aV:Int) (aT:Int) (da:agV) (bh:Int) (bi:Int) (ff:agV) (bj:Int) (fg:agV) (ay:Bool) (af:Int) (cy:Int) (dD:Int):Option (List Int×List Int×List Int×Bool):=(dl.p F ay aV aT da af cy dD).bind λr2=>(dl.p F r2.1 bh bi ff af cy dD).bind λr5=>(dk.p F r5.1 bj fg cy af (wrap .i64 (0 - dD))).bind λr8=>some (r2.2,r5.2,r8.2,r8.1)
theorem gB.P {bo aE bp bg aV aT bh bi bK bj af cy dD bP cV cz dK dL bQ cZ c_ aa cA dN dO da ff fg eP fp fq ay eS eT gG fv fw im fx fy io} (jJ:bQ=da.length) (ng:cZ=ff.length) (nh:c_=fg.length) (h0:Inn H (Rs.ow eP ⟨cz,bQ,cA⟩ eI.z eS gG eT::Rs.ow fp ⟨dK,cZ,dN⟩ eI.z fv im fw::Rs.ow fq ⟨dL,c_,dO⟩ eI.z fx io fy::Rs.blk aa [.i bo,.i aE,.sl bP,.i bp,.i bg,.sl cV,.i aV,.i aT,.sl ⟨cz,bQ,cA⟩,.i bh,.i bi,.sl ⟨dK,cZ,dN⟩,.i bK,.i bj,.sl ⟨dL,c_,dO⟩,.bool ay]::R0) λR=>CR eI H R gG da/\CR eI H R im ff/\CR eI H R io fg) {r:ahm} (hp:gB.p F aV aT da bh bi ff bj fg ay af cy dD=some r):Rt (gB.tw F aa 0 af cy dD H) (gB.Q H (Rs.ow eP ⟨cz,bQ,cA⟩ eI.z eS gG eT::Rs.ow fp ⟨dK,cZ,dN⟩ eI.z fv im fw::Rs.ow fq ⟨dL,c_,dO⟩ eI.z fx io fy::Rs.blk aa [.i bo,.i aE,.sl bP,.i bp,.i bg,.sl cV,.i aV,.i aT,.sl ⟨cz,bQ,cA⟩,.i bh,.i bi,.sl ⟨dK,cZ,dN⟩,.i bK,.i bj,.sl ⟨dL,c_,dO⟩,.bool ay]::R0) R0 bo aE bp bg aV aT bh bi bK bj bP cV cz dK dL bQ cZ c_ aa cA dN dO eP fp fq eS eT fv fw fx fy r):=by
 obtain ⟨w0,iU,lW,lX⟩:=h0
 subst jJ
 subst ng
 subst nh
 unfold gB.p at hp
 unfold gB.tw gB.twX
 have s0:=w0.rf
 refine lI w0 3 ?_
 refine lI w0 3 ?_
 refine lSl w0 3 ?_
 obtain ⟨w1,s1⟩:=w0.pp [3,0,1,2] 4
 obtain ⟨r2,e2,hp⟩:=ag hp
 refine aP (dl.P rfl ⟨w1,(iU.step s1)⟩ e2) ?_
 rintro _ H3 ⟨Ep,rfl,hl3_0,w3,s3,f3_0⟩
 refine lI w3 0 ?_
 refine lI w3 0 ?_
 refine lSl w3 0 ?_
 obtain ⟨w4,s4⟩:=w3.pp [0,2,1,3] 4
 obtain ⟨r5,e5,hp⟩:=ag hp
 refine aP (dl.P rfl ⟨w4,(lW.step (s1.trans (s3.trans s4)))⟩ e5) ?_
 rintro _ H6 ⟨Er,rfl,hl6_0,w6,s6,f6_0⟩
 refine lI w6 0 ?_
 refine lI w6 0 ?_
 refine lSl w6 0 ?_
 obtain ⟨w7,s7⟩:=w6.pp [0,3,1,2] 4
 obtain ⟨r8,e8,hp⟩:=ag hp
 refine aP (dk.P rfl ⟨w7,(lX.step (s1.trans (s3.trans (s4.trans (s6.trans s7)))))⟩ e8) ?_
 rintro _ H9 ⟨Es,rfl,hl9_0,w9,s9,f9_0⟩
 obtain ⟨w10,s10⟩:=w9.pp [3,2,1,0] 4
 exact aW hp ⟨_,_,_,rfl,hl3_0,hl6_0,hl9_0,w10,(s0.trans (s1.trans (s3.trans (s4.trans (s6.trans (s7.trans (s9.trans s10))))))),(f3_0.step (s4.trans (s6.trans (s7.trans (s9.trans s10))))),(f6_0.step (s7.trans (s9.trans s10))),(f9_0.step s10)⟩
def aU.Q (H0:Hp) (Ri R0:agX) (bo aE bp bg aV aT bh bi bK bj:Int) (cH dJ cz dK dL:ON) (bU cY bQ cZ c_ aa:Nat) (cI dM cA dN dO:Cap) (eO fo eP fp fq:Bool) (eQ eR ft fu eS eT fv fw fx fy:ag3) (da:agV) (r:aha) (v:AV) (H':Hp):Prop:=∃ jk:List AV,∃ jV:List AV,∃ jl:List AV,∃ jW:List AV,∃ jX:List AV,v=(.tup [])/\bU=(r.2.1).length/\cY=(r.2.2.1).length/\bQ=(r.2.2.2.1).length/\cZ=(r.2.2.2.2.1).length/\c_=(r.2.2.2.2.2).length/\Out H0 Ri H' (Rs.ow eO ⟨cH,bU,cI⟩ eI.z eQ jk eR::Rs.ow fo ⟨dJ,cY,dM⟩ eI.z ft jV fu::Rs.ow eP ⟨cz,bQ,cA⟩ eI.z eS jl eT::Rs.ow fp ⟨dK,cZ,dN⟩ eI.z fv jW fw::Rs.ow fq ⟨dL,c_,dO⟩ eI.z fx jX fy::Rs.blk aa [.i bo,.i aE,.sl ⟨cH,bU,cI⟩,.i bp,.i bg,.sl ⟨dJ,cY,dM⟩,.i aV,.i aT,.sl ⟨cz,bQ,cA⟩,.i bh,.i bi,.sl ⟨dK,cZ,dN⟩,.i bK,.i bj,.sl ⟨dL,c_,dO⟩,.bool (r.1)]::R0) λR=>CR eI H' R jk (r.2.1)/\CR eI H' R jV (r.2.2.1)/\CR eI H' R jl (r.2.2.2.1)/\CR eI H' R jW (r.2.2.2.2.1)/\CR eI H' R jX (r.2.2.2.2.2)
def aU.S13 (H0:Hp) (Ri R0:agX) (aw ai aC ap aq ak ar au aG av:Int) (aR bz aJ bC bD:ON) (aF aY aD aZ a_ ax:Nat) (aS bE aK bF bG:Cap) (bV bW bX bY bZ:Bool) (b_ ca cb ce cf cg ch ci cj ck:ag3) (cl:agV) (C:ahB) (pC:ahW):Prop:=∀ {aH aM aI aN aO cL cM cN cO cP ay eK tc pg iz gQ},∀ {H:Hp},aF=aH.length->aY=aM.length->aD=aI.length->aZ=aN.length->a_=aO.length->(Out H0 Ri H (Rs.ow bV ⟨aR,aF,aS⟩ eI.z b_ cL ca::Rs.ow bW ⟨bz,aY,bE⟩ eI.z cb cM ce::Rs.ow bX ⟨aJ,aD,aK⟩ eI.z cf cN cg::Rs.ow bY ⟨bC,aZ,bF⟩ eI.z ch cO ci::Rs.ow bZ ⟨bD,a_,bG⟩ eI.z cj cP ck::Rs.blk ax [.i aw,.i ai,.sl ⟨aR,aF,aS⟩,.i aC,.i ap,.sl ⟨bz,aY,bE⟩,.i aq,.i ak,.sl ⟨aJ,aD,aK⟩,.i ar,.i au,.sl ⟨bC,aZ,bF⟩,.i aG,.i av,.sl ⟨bD,a_,bG⟩,.bool ay]::Rs.blk gQ [.i tc,.i pg,.sl ⟨aJ,aD,aK⟩]::R0) λR=>CR eI H R cL aH/\CR eI H R cM aM/\CR eI H R cN aI/\CR eI H R cO aN/\CR eI H R cP aO)->∀ {r:aha},pC ai aH aC ap aM aq ak aI ar au aN av aO ay eK tc pg iz=some r->Rt (C ax 0 eK gQ 0 iz H) (aU.Q H0 Ri R0 aw ai aC ap aq ak ar au aG av aR bz aJ bC bD aF aY aD aZ a_ ax aS bE aK bF bG bV bW bX bY bZ b_ ca cb ce cf cg ch ci cj ck cl r)
def aU.pj5 (F:Nat) (jY:ahW) (ai:Int) (aH:agV) (aC:Int) (ap:Int) (aM:agV) (aq:Int) (ak:Int) (aI:agV) (ar:Int) (au:Int) (aN:agV) (av:Int) (aO:agV) (ay:Bool) (vn:Int) (Db:Int) (Dc:Int) (vo:Int):Option (Bool×List Int×List Int×List Int×List Int×List Int):=jY ai aH aC ap aM aq ak aI ar au aN av aO ay vn Db Dc (wrap .i64 (vo+1))
theorem aU.j5_P {aw ai aC ap aq ak ar au aG av aR bz aJ bC bD aF aY aD aZ a_ ax aS bE aK bF bG bV bW bX bY bZ b_ ca cb ce cf cg ch ci cj ck cl} {C13_:ahB} {jY:ahW} (hC13:aU.S13 H0 Ri R0 aw ai aC ap aq ak ar au aG av aR bz aJ bC bD aF aY aD aZ a_ ax aS bE aK bF bG bV bW bX bY bZ b_ ca cb ce cf cg ch ci cj ck cl C13_ jY) {aH aM aI aN aO cL cM cN cO cP ay vn Db Dc vo Ap} (eU:aF=aH.length) (eV:aY=aM.length) (eW:aD=aI.length) (eX:aZ=aN.length) (eY:a_=aO.length) (h0:Out H0 Ri H (Rs.ow bV ⟨aR,aF,aS⟩ eI.z b_ cL ca::Rs.ow bW ⟨bz,aY,bE⟩ eI.z cb cM ce::Rs.ow bX ⟨aJ,aD,aK⟩ eI.z cf cN cg::Rs.ow bY ⟨bC,aZ,bF⟩ eI.z ch cO ci::Rs.ow bZ ⟨bD,a_,bG⟩ eI.z cj cP ck::Rs.blk ax [.i aw,.i ai,.sl ⟨aR,aF,aS⟩,.i aC,.i ap,.sl ⟨bz,aY,bE⟩,.i aq,.i ak,.sl ⟨aJ,aD,aK⟩,.i ar,.i au,.sl ⟨bC,aZ,bF⟩,.i aG,.i av,.sl ⟨bD,a_,bG⟩,.bool ay]::Rs.blk Ap [.i Db,.i Dc,.sl ⟨aJ,aD,aK⟩]::R0) λR=>CR eI H R cL aH/\CR eI H R cM aM/\CR eI H R cN aI/\CR eI H R cO aN/\CR eI H R cP aO) {r:aha} (hp:aU.pj5 F jY ai aH aC ap aM aq ak aI ar au aN av aO ay vn Db Dc vo=some r):Rt (aU.j5 F (bR.tw F) (hG.tw F) (fj.tw F) (gB.tw F) C13_ ax 0 vn Ap 0 vo H) (aU.Q H0 Ri R0 aw ai aC ap aq ak ar au aG av aR bz aJ bC bD aF aY aD aZ a_ ax aS bE aK bF bG bV bW bX bY bZ b_ ca cb ce cf cg ch ci cj ck cl r):=by
 obtain ⟨w0,s0,cQ,db,cU,dh,di⟩:=h0
 subst eU
 subst eV
 subst eW
 subst eX
 subst eY
 unfold aU.pj5 at hp
 unfold aU.j5
 exact hC13 rfl rfl rfl rfl rfl ⟨w0,s0,cQ,db,cU,dh,di⟩ hp
def aU.S15 (H0:Hp) (Ri R0:agX) (aw ai aC ap aq ak ar au aG av:Int) (aR bz aJ bC bD:ON) (aF aY aD aZ a_ ax:Nat) (aS bE aK bF bG:Cap) (bV bW bX bY bZ:Bool) (b_ ca cb ce cf cg ch ci cj ck:ag3) (cl:agV) (C:ahB) (pC:ahX):Prop:=∀ {aH aM aI aN aO cL cM cN cO cP ay iS Tp pS kV lO},∀ {H:Hp},aF=aH.length->aY=aM.length->aD=aI.length->aZ=aN.length->a_=aO.length->(Out H0 Ri H (Rs.ow bV ⟨aR,aF,aS⟩ eI.z b_ cL ca::Rs.ow bW ⟨bz,aY,bE⟩ eI.z cb cM ce::Rs.ow bX ⟨aJ,aD,aK⟩ eI.z cf cN cg::Rs.ow bY ⟨bC,aZ,bF⟩ eI.z ch cO ci::Rs.ow bZ ⟨bD,a_,bG⟩ eI.z cj cP ck::Rs.blk ax [.i aw,.i ai,.sl ⟨aR,aF,aS⟩,.i aC,.i ap,.sl ⟨bz,aY,bE⟩,.i aq,.i ak,.sl ⟨aJ,aD,aK⟩,.i ar,.i au,.sl ⟨bC,aZ,bF⟩,.i aG,.i av,.sl ⟨bD,a_,bG⟩,.bool ay]::Rs.blk lO [.i Tp,.i pS,.sl ⟨aJ,aD,aK⟩]::R0) λR=>CR eI H R cL aH/\CR eI H R cM aM/\CR eI H R cN aI/\CR eI H R cO aN/\CR eI H R cP aO)->∀ {r:aha},pC aH aM aq ak aI ar au aN av aO ay iS pS kV=some r->Rt (C ax 0 iS lO 0 kV H) (aU.Q H0 Ri R0 aw ai aC ap aq ak ar au aG av aR bz aJ bC bD aF aY aD aZ a_ ax aS bE aK bF bG bV bW bX bY bZ b_ ca cb ce cf cg ch ci cj ck cl r)
def aU.pj3 (F:Nat) (Dd:ahX) (aH:agV) (aM:agV) (aq:Int) (ak:Int) (aI:agV) (ar:Int) (au:Int) (aN:agV) (av:Int) (aO:agV) (ay:Bool) (vl:Int) (De:Int) (vm:Int):Option (Bool×List Int×List Int×List Int×List Int×List Int):=Dd aH aM aq ak aI ar au aN av aO ay vl De (wrap .i64 (vm+1))
theorem aU.j3_P {aw ai aC ap aq ak ar au aG av aR bz aJ bC bD aF aY aD aZ a_ ax aS bE aK bF bG bV bW bX bY bZ b_ ca cb ce cf cg ch ci cj ck cl} {C15_:ahB} {Dd:ahX} (hC15:aU.S15 H0 Ri R0 aw ai aC ap aq ak ar au aG av aR bz aJ bC bD aF aY aD aZ a_ ax aS bE aK bF bG bV bW bX bY bZ b_ ca cb ce cf cg ch ci cj ck cl C15_ Dd) {aH aM aI aN aO cL cM cN cO cP ay vl adm De vm An} (eU:aF=aH.length) (eV:aY=aM.length) (eW:aD=aI.length) (eX:aZ=aN.length) (eY:a_=aO.length) (h0:Out H0 Ri H (Rs.ow bV ⟨aR,aF,aS⟩ eI.z b_ cL ca::Rs.ow bW ⟨bz,aY,bE⟩ eI.z cb cM ce::Rs.ow bX ⟨aJ,aD,aK⟩ eI.z cf cN cg::Rs.ow bY ⟨bC,aZ,bF⟩ eI.z ch cO ci::Rs.ow bZ ⟨bD,a_,bG⟩ eI.z cj cP ck::Rs.blk ax [.i aw,.i ai,.sl ⟨aR,aF,aS⟩,.i aC,.i ap,.sl ⟨bz,aY,bE⟩,.i aq,.i ak,.sl ⟨aJ,aD,aK⟩,.i ar,.i au,.sl ⟨bC,aZ,bF⟩,.i aG,.i av,.sl ⟨bD,a_,bG⟩,.bool ay]::Rs.blk An [.i adm,.i De,.sl ⟨aJ,aD,aK⟩]::R0) λR=>CR eI H R cL aH/\CR eI H R cM aM/\CR eI H R cN aI/\CR eI H R cO aN/\CR eI H R cP aO) {r:aha} (hp:aU.pj3 F Dd aH aM aq ak aI ar au aN av aO ay vl De vm=some r):Rt (aU.j3 F (bR.tw F) (hG.tw F) (fj.tw F) (gB.tw F) C15_ ax 0 vl An 0 vm H) (aU.Q H0 Ri R0 aw ai aC ap aq ak ar au aG av aR bz aJ bC bD aF aY aD aZ a_ ax aS bE aK bF bG bV bW bX bY bZ b_ ca cb ce cf cg ch ci cj ck cl r):=by
 obtain ⟨w0,s0,cQ,db,cU,dh,di⟩:=h0
 subst eU
 subst eV
 subst eW
 subst eX
 subst eY
 unfold aU.pj3 at hp
 unfold aU.j3
 exact hC15 rfl rfl rfl rfl rfl ⟨w0,s0,cQ,db,cU,dh,di⟩ hp
def aU.pl15 (F:Nat) :Nat->List Int->List Int->Int->Int->List Int->Int->Int->List Int->Int->List Int->Bool->Int->Int->Int->Option (Bool×List Int×List Int×List Int×List Int×List Int)
 | 0,_,_,_,_,_,_,_,_,_,_,_,_,_,_=>none
 | k+1,aH,aM,aq,ak,aI,ar,au,aN,av,aO,ay,iS,pS,kV=>(bif (decide (kV<pS)) then ((bif (!ay) then ((ix aI (wrap .i64 ((wrap .i64 (iS * pS))+kV))).bind λn2=>(ix aI (wrap .i64 ((wrap .i64 (iS * pS))+iS))).bind λn5=>(hG.p F (gt aI n2) (gt aI n5)).bind λr7=>(bif (r7 != 0) then ((gB.p F aq ak aI ar au aN av aO ay kV iS (wrap .i64 (0 - r7))).bind λr10=>aU.pj3 F (aU.pl15 F k) aH aM aq ak r10.1 ar au r10.2.1 av r10.2.2.1 r10.2.2.2 iS pS kV) else (aU.pj3 F (aU.pl15 F k) aH aM aq ak aI ar au aN av aO ay iS pS kV))) else (some (ay,aH,aM,aI,aN,aO)))) else (some (ay,aH,aM,aI,aN,aO)))
theorem aU.l15_P {aw ai aC ap aq ak ar au aG av aR bz aJ bC bD aF aY aD aZ a_ ax aS bE aK bF bG bV bW bX bY bZ b_ ca cb ce cf cg ch ci cj ck cl} :∀ k,aU.S15 H0 Ri R0 aw ai aC ap aq ak ar au aG av aR bz aJ bC bD aF aY aD aZ a_ ax aS bE aK bF bG bV bW bX bY bZ b_ ca cb ce cf cg ch ci cj ck cl (aU.l15 F (bR.tw F) (hG.tw F) (fj.tw F) (gB.tw F)  k) (aU.pl15 F  k):=by
 intro k
 induction k with
 | zero=>unfold aU.S15;intros;rename_i hp;cases hp
 | succ k ih=>
  intro aH aM aI aN aO cL cM cN cO cP ay iS Tp pS kV lO H eU eV eW eX eY h0 r hp
  obtain ⟨w0,s0,cQ,db,cU,dh,di⟩:=h0
  subst eU
  subst eV
  subst eW
  subst eX
  subst eY
  unfold aU.pl15 at hp
  unfold aU.l15
  refine lI w0 6 ?_
  refine aX hp (λhp=>?_) λhp=>?_
  ·refine lB w0 5 ?_
   refine aX hp (λhp=>?_) λhp=>?_
   ·refine lI w0 6 ?_
    refine lI w0 6 ?_
    refine lSl w0 6 ?_
    refine bR.inl ?_
    refine cF w0 λH1 w1 s1=>?_
    refine lSl w1 0 ?_
    refine lI w1 0 ?_
    obtain ⟨n2,g2,hp⟩:=ag hp
    obtain ⟨p2,q2,i2,h2,j2⟩:=W.ixo (E:=eI) w1 (i:=3) rfl rfl (cU.step s1) g2
    refine bu i2 ?_
    refine ⟨_,_,rfl,?_⟩
    refine br ?_
    refine fQ (W.cons_of (Rn:=[_]) w0 w1 s1) ?_
    have h2:_=[_]:=h2
    subst h2
    refine bu (dx (j2 0 _ rfl)) ?_
    refine lI w1 7 ?_
    refine lI w1 7 ?_
    refine lSl w1 7 ?_
    refine bR.inl ?_
    refine cF w1 λH4 w4 s4=>?_
    refine lSl w4 0 ?_
    refine lI w4 0 ?_
    obtain ⟨n5,g5,hp⟩:=ag hp
    obtain ⟨p5,q5,i5,h5,j5⟩:=W.ixo (E:=eI) w4 (i:=4) rfl rfl (cU.step (s1.trans s4)) g5
    refine bu i5 ?_
    refine ⟨_,_,rfl,?_⟩
    refine br ?_
    refine fQ (W.cons_of (Rn:=[_]) w1 w4 s4) ?_
    have h5:_=[_]:=h5
    subst h5
    refine bu (dx (j5 0 _ rfl)) ?_
    obtain ⟨r7,e7,hp⟩:=ag hp
    refine aP (hG.P ⟨w4,trivial⟩ e7) ?_
    rintro _ H8 ⟨rfl,w8,s8,_⟩
    refine br ?_
    refine aX hp (λhp=>?_) λhp=>?_
    ·obtain ⟨w9,s9⟩:=w8.pp [4,5,6,7,0,1,2,3,8] 9
     obtain ⟨r10,e10,hp⟩:=ag hp
     refine aP (gB.P rfl rfl rfl ⟨w9,(cU.step (s1.trans (s4.trans (s8.trans s9)))),(dh.step (s1.trans (s4.trans (s8.trans s9)))),(di.step (s1.trans (s4.trans (s8.trans s9))))⟩ e10) ?_
     rintro _ H11 ⟨adn,agk,agl,rfl,hl11_0,hl11_1,hl11_2,w11,s11,f11_0,f11_1,f11_2⟩
     obtain ⟨w12,s12⟩:=w11.pp [6,7,0,1,2,3,8] 9
     exact aU.j3_P (@ih) rfl rfl hl11_0 hl11_1 hl11_2 ⟨w12,(s0.trans (s1.trans (s4.trans (s8.trans (s9.trans (s11.trans s12)))))),(cQ.step (s1.trans (s4.trans (s8.trans (s9.trans (s11.trans s12)))))),(db.step (s1.trans (s4.trans (s8.trans (s9.trans (s11.trans s12)))))),(f11_0.step s12),(f11_1.step s12),(f11_2.step s12)⟩ hp
    ·obtain ⟨w13,s13⟩:=w8.pp [2,3,4,5,6,7,8] 9
     exact aU.j3_P (@ih) rfl rfl rfl rfl rfl ⟨w13,(s0.trans (s1.trans (s4.trans (s8.trans s13)))),(cQ.step (s1.trans (s4.trans (s8.trans s13)))),(db.step (s1.trans (s4.trans (s8.trans s13)))),(cU.step (s1.trans (s4.trans (s8.trans s13)))),(dh.step (s1.trans (s4.trans (s8.trans s13)))),(di.step (s1.trans (s4.trans (s8.trans s13))))⟩ hp
   ·obtain ⟨w14,s14⟩:=w0.pp [0,1,2,3,4,5] 7
    exact aW hp ⟨_,_,_,_,_,rfl,rfl,rfl,rfl,rfl,rfl,w14,(s0.trans s14),(cQ.step s14),(db.step s14),(cU.step s14),(dh.step s14),(di.step s14)⟩
  ·obtain ⟨w15,s15⟩:=w0.pp [0,1,2,3,4,5] 7
   exact aW hp ⟨_,_,_,_,_,rfl,rfl,rfl,rfl,rfl,rfl,w15,(s0.trans s15),(cQ.step s15),(db.step s15),(cU.step s15),(dh.step s15),(di.step s15)⟩
def aU.pj4 (F:Nat)  (aH:agV) (aM:agV) (aq:Int) (ak:Int) (aI:agV) (ar:Int) (au:Int) (aN:agV) (av:Int) (aO:agV) (ay:Bool) (qv:Int) (Df:Int):Option (Bool×List Int×List Int×List Int×List Int×List Int):=aU.pl15 F F aH aM aq ak aI ar au aN av aO ay qv Df (wrap .i64 (qv+1))
theorem aU.j4_P {aw ai aC ap aq ak ar au aG av aR bz aJ bC bD aF aY aD aZ a_ ax aS bE aK bF bG bV bW bX bY bZ b_ ca cb ce cf cg ch ci cj ck cl}  {aH aM aI aN aO cL cM cN cO cP ay qv ado Df Ao} (eU:aF=aH.length) (eV:aY=aM.length) (eW:aD=aI.length) (eX:aZ=aN.length) (eY:a_=aO.length) (h0:Out H0 Ri H (Rs.ow bV ⟨aR,aF,aS⟩ eI.z b_ cL ca::Rs.ow bW ⟨bz,aY,bE⟩ eI.z cb cM ce::Rs.ow bX ⟨aJ,aD,aK⟩ eI.z cf cN cg::Rs.ow bY ⟨bC,aZ,bF⟩ eI.z ch cO ci::Rs.ow bZ ⟨bD,a_,bG⟩ eI.z cj cP ck::Rs.blk ax [.i aw,.i ai,.sl ⟨aR,aF,aS⟩,.i aC,.i ap,.sl ⟨bz,aY,bE⟩,.i aq,.i ak,.sl ⟨aJ,aD,aK⟩,.i ar,.i au,.sl ⟨bC,aZ,bF⟩,.i aG,.i av,.sl ⟨bD,a_,bG⟩,.bool ay]::Rs.blk Ao [.i ado,.i Df,.sl ⟨aJ,aD,aK⟩]::R0) λR=>CR eI H R cL aH/\CR eI H R cM aM/\CR eI H R cN aI/\CR eI H R cO aN/\CR eI H R cP aO) {r:aha} (hp:aU.pj4 F  aH aM aq ak aI ar au aN av aO ay qv Df=some r):Rt (aU.j4 F (bR.tw F) (hG.tw F) (fj.tw F) (gB.tw F)  ax 0 qv Ao 0 H) (aU.Q H0 Ri R0 aw ai aC ap aq ak ar au aG av aR bz aJ bC bD aF aY aD aZ a_ ax aS bE aK bF bG bV bW bX bY bZ b_ ca cb ce cf cg ch ci cj ck cl r):=by
 obtain ⟨w0,s0,cQ,db,cU,dh,di⟩:=h0
 subst eU
 subst eV
 subst eW
 subst eX
 subst eY
 unfold aU.pj4 at hp
 unfold aU.j4
 exact aU.l15_P F rfl rfl rfl rfl rfl ⟨w0,s0,cQ,db,cU,dh,di⟩ hp
def aU.pl13 (F:Nat) :Nat->Int->List Int->Int->Int->List Int->Int->Int->List Int->Int->Int->List Int->Int->List Int->Bool->Int->Int->Int->Int->Option (Bool×List Int×List Int×List Int×List Int×List Int)
 | 0,_,_,_,_,_,_,_,_,_,_,_,_,_,_,_,_,_,_=>none
 | k+1,ai,aH,aC,ap,aM,aq,ak,aI,ar,au,aN,av,aO,ay,eK,tc,pg,iz=>(bif (decide (iz<tc)) then ((bif (!ay) then ((ix aI (wrap .i64 ((wrap .i64 (iz * pg))+eK))).bind λn2=>(ix aI (wrap .i64 ((wrap .i64 (eK * pg))+eK))).bind λn5=>(hG.p F (gt aI n2) (gt aI n5)).bind λr7=>(bif (r7 != 0) then ((fj.p F ai aH aC ap aM ak aI ay iz eK (wrap .i64 (0 - r7))).bind λr10=>aU.pj5 F (aU.pl13 F k) ai r10.1 aC ap r10.2.1 aq ak r10.2.2.1 ar au aN av aO r10.2.2.2 eK tc pg iz) else (aU.pj5 F (aU.pl13 F k) ai aH aC ap aM aq ak aI ar au aN av aO ay eK tc pg iz))) else (aU.pj4 F aH aM aq ak aI ar au aN av aO ay eK pg))) else (aU.pj4 F aH aM aq ak aI ar au aN av aO ay eK pg))
theorem aU.l13_P {aw ai aC ap aq ak ar au aG av aR bz aJ bC bD aF aY aD aZ a_ ax aS bE aK bF bG bV bW bX bY bZ b_ ca cb ce cf cg ch ci cj ck cl} :∀ k,aU.S13 H0 Ri R0 aw ai aC ap aq ak ar au aG av aR bz aJ bC bD aF aY aD aZ a_ ax aS bE aK bF bG bV bW bX bY bZ b_ ca cb ce cf cg ch ci cj ck cl (aU.l13 F (bR.tw F) (hG.tw F) (fj.tw F) (gB.tw F)  k) (aU.pl13 F  k):=by
 intro k
 induction k with
 | zero=>unfold aU.S13;intros;rename_i hp;cases hp
 | succ k ih=>
  intro aH aM aI aN aO cL cM cN cO cP ay eK tc pg iz gQ H eU eV eW eX eY h0 r hp
  obtain ⟨w0,s0,cQ,db,cU,dh,di⟩:=h0
  subst eU
  subst eV
  subst eW
  subst eX
  subst eY
  unfold aU.pl13 at hp
  unfold aU.l13
  refine lI w0 6 ?_
  refine aX hp (λhp=>?_) λhp=>?_
  ·refine lB w0 5 ?_
   refine aX hp (λhp=>?_) λhp=>?_
   ·refine lI w0 6 ?_
    refine lI w0 6 ?_
    refine lSl w0 6 ?_
    refine bR.inl ?_
    refine cF w0 λH1 w1 s1=>?_
    refine lSl w1 0 ?_
    refine lI w1 0 ?_
    obtain ⟨n2,g2,hp⟩:=ag hp
    obtain ⟨p2,q2,i2,h2,j2⟩:=W.ixo (E:=eI) w1 (i:=3) rfl rfl (cU.step s1) g2
    refine bu i2 ?_
    refine ⟨_,_,rfl,?_⟩
    refine br ?_
    refine fQ (W.cons_of (Rn:=[_]) w0 w1 s1) ?_
    have h2:_=[_]:=h2
    subst h2
    refine bu (dx (j2 0 _ rfl)) ?_
    refine lI w1 7 ?_
    refine lI w1 7 ?_
    refine lSl w1 7 ?_
    refine bR.inl ?_
    refine cF w1 λH4 w4 s4=>?_
    refine lSl w4 0 ?_
    refine lI w4 0 ?_
    obtain ⟨n5,g5,hp⟩:=ag hp
    obtain ⟨p5,q5,i5,h5,j5⟩:=W.ixo (E:=eI) w4 (i:=4) rfl rfl (cU.step (s1.trans s4)) g5
    refine bu i5 ?_
    refine ⟨_,_,rfl,?_⟩
    refine br ?_
    refine fQ (W.cons_of (Rn:=[_]) w1 w4 s4) ?_
    have h5:_=[_]:=h5
    subst h5
    refine bu (dx (j5 0 _ rfl)) ?_
    obtain ⟨r7,e7,hp⟩:=ag hp
    refine aP (hG.P ⟨w4,trivial⟩ e7) ?_
    rintro _ H8 ⟨rfl,w8,s8,_⟩
    refine br ?_
    refine aX hp (λhp=>?_) λhp=>?_
    ·obtain ⟨w9,s9⟩:=w8.pp [2,3,4,7,0,1,5,6,8] 9
     obtain ⟨r10,e10,hp⟩:=ag hp
     refine aP (fj.P rfl rfl rfl ⟨w9,(cQ.step (s1.trans (s4.trans (s8.trans s9)))),(db.step (s1.trans (s4.trans (s8.trans s9)))),(cU.step (s1.trans (s4.trans (s8.trans s9))))⟩ e10) ?_
     rintro _ H11 ⟨agm,agn,adn,rfl,hl11_0,hl11_1,hl11_2,w11,s11,f11_0,f11_1,f11_2⟩
     obtain ⟨w12,s12⟩:=w11.pp [0,1,2,6,7,3,8] 9
     exact aU.j5_P (@ih) hl11_0 hl11_1 hl11_2 rfl rfl ⟨w12,(s0.trans (s1.trans (s4.trans (s8.trans (s9.trans (s11.trans s12)))))),(f11_0.step s12),(f11_1.step s12),(f11_2.step s12),(dh.step (s1.trans (s4.trans (s8.trans (s9.trans (s11.trans s12)))))),(di.step (s1.trans (s4.trans (s8.trans (s9.trans (s11.trans s12))))))⟩ hp
    ·obtain ⟨w13,s13⟩:=w8.pp [2,3,4,5,6,7,8] 9
     exact aU.j5_P (@ih) rfl rfl rfl rfl rfl ⟨w13,(s0.trans (s1.trans (s4.trans (s8.trans s13)))),(cQ.step (s1.trans (s4.trans (s8.trans s13)))),(db.step (s1.trans (s4.trans (s8.trans s13)))),(cU.step (s1.trans (s4.trans (s8.trans s13)))),(dh.step (s1.trans (s4.trans (s8.trans s13)))),(di.step (s1.trans (s4.trans (s8.trans s13))))⟩ hp
   ·exact aU.j4_P rfl rfl rfl rfl rfl ⟨w0,s0,cQ,db,cU,dh,di⟩ hp
  ·exact aU.j4_P rfl rfl rfl rfl rfl ⟨w0,s0,cQ,db,cU,dh,di⟩ hp
def aU.p (F:Nat) (aE:Int) (dr:agV) (bp:Int) (bg:Int) (fe:agV) (aV:Int) (aT:Int) (da:agV) (bh:Int) (bi:Int) (ff:agV) (bj:Int) (fg:agV) (ay:Bool) (af:Int):Option (Bool×List Int×List Int×List Int×List Int×List Int):=aU.pl13 F F aE dr bp bg fe aV aT da bh bi ff bj fg ay af aV aT (wrap .i64 (af+1))
end
end Go.Proofs.Ytokekkacliomkaa.AE
