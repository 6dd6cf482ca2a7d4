import Derived.Test.YthfinhmkgdmelaaP1
import Derived.Test.YthfinhmkgdmelaaT2
import Derived.Test.YthfinhmkgdmelaaE2
set_option linter.unusedVariables false
set_option linter.unusedSimpArgs false
namespace Go.Proofs.Ythfinhmkgdmelaa.AE
open Go Go.AE Go.Proofs
set_option linter.unusedVariables false
set_option maxHeartbeats 4000000
set_option maxRecDepth 100000
theorem aj.l16301_P {F:Nat} {H0:Hp} {Ri R0:List Rs}  {C509_:Sl→Sl→Int→Int→Hp→OA} {aQ:List Int→List Int→Int→Int→Option (List Int)} (hC509:aj.S509 H0 Ri R0  C509_ aQ):∀ k,aj.S16301 H0 Ri R0  (aj.l16301 F (au.tw F) (aH.tw F) (aq.tw F) (aO.tw F) (bd.tw F) C509_ k) (aj.pl16301 F aQ k):=by
 intro k
 induction k with
 | zero=>
  intro BC BD uN uO BE BF ju jv BG BH eA fm fE dp H Sa Sb h0 r hp
  exact nomatch (show (none:Option (List Int)) = some r from hp)
 | succ k ih=>
  intro BC BD uN uO BE BF ju jv BG BH eA fm fE dp H Sa Sb h0 r hp
  obtain ⟨w0,s0,uV,uW⟩:=h0
  subst Sa
  subst Sb
  unfold aj.pl16301 at hp
  unfold aj.l16301
  refine bif_ex (fun hb=>?_) (fun hb=>?_)
  ·replace hp:=bif_t hb hp
   obtain ⟨n1,g1,hp⟩:=bind_some' hp
   obtain ⟨p1,q1,i1,h1,j1⟩:=W.ixo (E:=(eInt .i64)) w0 (i:=0) rfl rfl uV g1
   refine bind_ex i1 ?_
   have h1:_ = [_]:=h1
   subst h1
   refine bind_ex (ldI_of (j1 0 _ rfl)) ?_
   obtain ⟨n2,g2,hp⟩:=bind_some' hp
   obtain ⟨p2,q2,i2,h2,j2⟩:=W.ixo (E:=(eInt .i64)) w0 (i:=1) rfl rfl uW g2
   refine bind_ex i2 ?_
   have h2:_ = [_]:=h2
   subst h2
   refine bind_ex (ldI_of (j2 0 _ rfl)) ?_
   refine bif_ex (fun hb=>?_) (fun hb=>?_)
   ·replace hp:=bif_t hb hp
    obtain ⟨n3,g3,hp⟩:=bind_some' hp
    obtain ⟨p3,q3,i3,h3,j3⟩:=W.ixo (E:=(eInt .i64)) w0 (i:=0) rfl rfl uV g3
    refine bind_ex i3 ?_
    have h3:_ = [_]:=h3
    subst h3
    refine bind_ex (ldI_of (j3 0 _ rfl)) ?_
    obtain ⟨n4,g4,hp⟩:=bind_some' hp
    obtain ⟨p4,q4,i4,h4,j4⟩:=W.ixo (E:=(eInt .i64)) w0 (i:=1) rfl rfl uW g4
    refine bind_ex i4 ?_
    obtain ⟨l5,e5,hp⟩:=bind_some' hp
    refine sto_k (eInt .i64) w0 (i:=1) (j:=0) (p:=p4) rfl rfl uW g4 i4 e5 rfl rfl (fun _ h=>by have h:_ = [_]:=h; subst h; exact rfl) fun H6 k6 w6 s6 c6=>?_
    dsimp only [List.set] at w6 s6 c6
    exact aj.j9_P (@ih) rfl ((st_len e5).symm) ⟨w6,(s0.trans s6),(uV.step s6),c6⟩ hp
   ·replace hp:=bif_f hb hp
    exact aj.j9_P (@ih) rfl rfl ⟨w0,s0,uV,uW⟩ hp
  ·replace hp:=bif_f hb hp
   exact aj.j8_P (@hC509) rfl rfl ⟨w0,s0,uV,uW⟩ hp
def aj.pl509 (F:Nat) :Nat→List Int→List Int→Int→Int→Option (List Int)
 | 0,_,_,_,_=>none
 | k + 1,nm,nn,gn,gK=>(bif (decide (gK < gn)) then (aj.pl16301 F (aj.pl509 F k) F nm nn gn gK (nm.length:Int) 0) else (some nn))
termination_by structural n=>n
theorem aj.l509_P {F:Nat} {H0:Hp} {Ri R0:List Rs}  :∀ k,aj.S509 H0 Ri R0  (aj.l509 F (au.tw F) (aH.tw F) (aq.tw F) (aO.tw F) (bd.tw F)  k) (aj.pl509 F  k):=by
 intro k
 induction k with
 | zero=>
  intro Bw Bx uL uM By Bz nm nn BA BB gn gK H Sc Sd h0 r hp
  exact nomatch (show (none:Option (List Int)) = some r from hp)
 | succ k ih=>
  intro Bw Bx uL uM By Bz nm nn BA BB gn gK H Sc Sd h0 r hp
  obtain ⟨w0,s0,ac0,Se⟩:=h0
  subst Sc
  subst Sd
  unfold aj.pl509 at hp
  unfold aj.l509
  refine bif_ex (fun hb=>?_) (fun hb=>?_)
  ·replace hp:=bif_t hb hp
   exact aj.l16301_P (@ih) F rfl rfl ⟨w0,s0,ac0,Se⟩ hp
  ·replace hp:=bif_f hb hp
   obtain ⟨w1,s1⟩:=w0.pick' [1] 2 rfl rfl rfl
   dsimp only [pk,pks,nth,List.drop] at w1 s1
   obtain rfl:=Option.some.inj hp
   exact ⟨_,_,rfl,_,_,_,_,rfl,rfl,w1,(s0.trans s1),(Se.step s1)⟩
def aj.pj10 (F:Nat)  (uX:List Int) (qj:List Int):Option (List Int):=aj.pl509 F F uX qj (qj.length:Int) 0
theorem aj.j10_P {F:Nat} {H0:Hp} {Ri R0:List Rs}   {Sf Sg:ON} {GX GY:Nat} {Sh Si:Cap} {uX qj:List Int} {Sk Sm:List AV} {H:Hp} (ac1:GX = uX.length) (ac2:GY = qj.length) (h0:Out H0 Ri H (Rs.own ⟨Sf,GX,Sh⟩ (eInt .i64).z Sk :: Rs.own ⟨Sg,GY,Si⟩ (eInt .i64).z Sm :: R0) fun R=>CR (eInt .i64) H R Sk uX∧CR (eInt .i64) H R Sm qj) {r:List Int} (hp:aj.pj10 F  uX qj = some r):∃ v H',aj.j10 F (au.tw F) (aH.tw F) (aq.tw F) (aO.tw F) (bd.tw F)  ⟨Sf,GX,Sh⟩ ⟨Sg,GY,Si⟩ H = some (v,H')∧aj.Q H0 Ri R0  r v H':=by
 obtain ⟨w0,s0,ac3,ac4⟩:=h0
 subst ac1
 subst ac2
 unfold aj.pj10 at hp
 unfold aj.j10
 exact aj.l509_P F rfl rfl ⟨w0,s0,ac3,ac4⟩ hp
def aj.pl253 (F:Nat) :Nat→List Int→List Int→List Bool→List Int→Int→Int→Option (List Int)
 | 0,_,_,_,_,_,_=>none
 | k + 1,kL,lk,kN,kM,fF,ec=>(bif (decide (ec < fF)) then ((ix kM ec).bind fun n1=>(ix kN (gt kM n1)).bind fun n2=>(bif (!(gt kN n2)) then ((ix kN (gt kM n1)).bind fun n3=>(some (kN.set n3 true)).bind fun l4=>(ix kL (IntKind.i64.wrap (4 * ec))).bind fun n6=>(ix lk (gt kL n6)).bind fun n7=>(some (lk.set n7 0)).bind fun l8=>aj.pj11 F (aj.pl253 F k) kL l8 l4 kM fF ec) else (aj.pj11 F (aj.pl253 F k) kL lk kN kM fF ec))) else (aj.pj10 F kL lk))
termination_by structural n=>n
theorem aj.l253_P {F:Nat} {H0:Hp} {Ri R0:List Rs}  :∀ k,aj.S253 H0 Ri R0  (aj.l253 F (au.tw F) (aH.tw F) (aq.tw F) (aO.tw F) (bd.tw F)  k) (aj.pl253 F  k):=by
 intro k
 induction k with
 | zero=>
  intro Bk Bl Bm Bn uD uE uF uG Bo Bp Bq Br kL lk kM Bs Bt Bu Bv kN fF ec H Sn So Sp Sq h0 r hp
  exact nomatch (show (none:Option (List Int)) = some r from hp)
 | succ k ih=>
  intro Bk Bl Bm Bn uD uE uF uG Bo Bp Bq Br kL lk kM Bs Bt Bu Bv kN fF ec H Sn So Sp Sq h0 r hp
  obtain ⟨w0,s0,BJ,BK,BL,GZ⟩:=h0
  subst Sn
  subst So
  subst Sp
  subst Sq
  unfold aj.pl253 at hp
  unfold aj.l253
  refine bif_ex (fun hb=>?_) (fun hb=>?_)
  ·replace hp:=bif_t hb hp
   obtain ⟨n1,g1,hp⟩:=bind_some' hp
   obtain ⟨p1,q1,i1,h1,j1⟩:=W.ixo (E:=(eInt .i64)) w0 (i:=3) rfl rfl GZ g1
   refine bind_ex i1 ?_
   have h1:_ = [_]:=h1
   subst h1
   refine bind_ex (ldI_of (j1 0 _ rfl)) ?_
   obtain ⟨n2,g2,hp⟩:=bind_some' hp
   obtain ⟨p2,q2,i2,h2,j2⟩:=W.ixo (E:=eBool) w0 (i:=2) rfl rfl BL g2
   refine bind_ex i2 ?_
   have h2:_ = [_]:=h2
   subst h2
   refine bind_ex (ldB_of (j2 0 _ rfl)) ?_
   refine bif_ex (fun hb=>?_) (fun hb=>?_)
   ·replace hp:=bif_t hb hp
    obtain ⟨n3,g3,hp⟩:=bind_some' hp
    obtain ⟨p3,q3,i3,h3,j3⟩:=W.ixo (E:=eBool) w0 (i:=2) rfl rfl BL g3
    refine bind_ex i3 ?_
    obtain ⟨l4,e4,hp⟩:=bind_some' hp
    refine sto_k eBool w0 (i:=2) (j:=0) (p:=p3) rfl rfl BL g3 i3 e4 rfl rfl (fun _ h=>by have h:_ = [_]:=h; subst h; exact rfl) fun H5 k5 w5 s5 c5=>?_
    dsimp only [List.set] at w5 s5 c5
    obtain ⟨n6,g6,hp⟩:=bind_some' hp
    obtain ⟨p6,q6,i6,h6,j6⟩:=W.ixo (E:=(eInt .i64)) w5 (i:=0) rfl rfl (BJ.step s5) g6
    refine bind_ex i6 ?_
    have h6:_ = [_]:=h6
    subst h6
    refine bind_ex (ldI_of (j6 0 _ rfl)) ?_
    obtain ⟨n7,g7,hp⟩:=bind_some' hp
    obtain ⟨p7,q7,i7,h7,j7⟩:=W.ixo (E:=(eInt .i64)) w5 (i:=1) rfl rfl (BK.step s5) g7
    refine bind_ex i7 ?_
    obtain ⟨l8,e8,hp⟩:=bind_some' hp
    refine sto_k (eInt .i64) w5 (i:=1) (j:=0) (p:=p7) rfl rfl (BK.step s5) g7 i7 e8 rfl rfl (fun _ h=>by have h:_ = [_]:=h; subst h; exact rfl) fun H9 k9 w9 s9 c9=>?_
    dsimp only [List.set] at w9 s9 c9
    exact aj.j11_P (@ih) rfl ((st_len e8).symm) ((st_len e4).symm) rfl ⟨w9,(s0.trans (s5.trans s9)),(BJ.step (s5.trans s9)),c9,(c5.step s9),(GZ.step (s5.trans s9))⟩ hp
   ·replace hp:=bif_f hb hp
    exact aj.j11_P (@ih) rfl rfl rfl rfl ⟨w0,s0,BJ,BK,BL,GZ⟩ hp
  ·replace hp:=bif_f hb hp
   obtain ⟨w10,s10⟩:=w0.pick' [0,1] 4 rfl rfl rfl
   dsimp only [pk,pks,nth,List.drop] at w10 s10
   exact aj.j10_P rfl rfl ⟨w10,(s0.trans s10),(BJ.step s10),(BK.step s10)⟩ hp
def aj.p (F:Nat) (ae:List (Int×Int×Int×Int×Int)) (cl:List (Int×Int)) (cr:List (Int×Int)):Option (List Int):=(au.p F ae cl cr).bind fun r3=>(aH.p F ae cl cr).bind fun r5=>(aq.p F ae cl cr).bind fun r8=>(aO.p F ([(-1)]:List Int) (r8.length:Int)).bind fun r12=>(bd.p F r5).bind fun r17=>(mkn r17 false).bind fun l20=>aj.pl253 F F r3 r12 l20 r5 (r5.length:Int) 0
theorem aj.P {F:Nat} {az dL eH:ON} {ap cN cX:Nat} {aA dM eI:Cap} {ae:List (Int×Int×Int×Int×Int)} {ab:Int} {cl cr:List (Int×Int)} {H:Hp} {R0:List Rs} (aW:ap = ae.length) (hO:cN = cl.length) (iz:cX = cr.length) (h0:Inn H R0 fun R=>ROs (ePair (eInt .i64) (ePair (eInt .i64) (ePair (eInt .i64) (ePair (eInt .i64) (eInt .i64))))) H R ⟨az,ap,aA⟩ ae∧ROs (ePair (eInt .i64) (eInt .i64)) H R ⟨dL,cN,dM⟩ cl∧ROs (ePair (eInt .i64) (eInt .i64)) H R ⟨eH,cX,eI⟩ cr) {r:List Int} (hp:aj.p F ae cl cr = some r):∃ v H',aj.tw F ⟨az,ap,aA⟩ ab ⟨dL,cN,dM⟩ ⟨eH,cX,eI⟩ H = some (v,H')∧aj.Q H R0 R0  r v H':=by
 obtain ⟨w0,aK,fw,fY⟩:=h0
 subst aW
 subst hO
 subst iz
 unfold aj.p at hp
 unfold aj.tw aj.twX
 have s0:=w0.rf
 refine new_k w0 fun H1 w1 s1=>?_
 refine new_k w1 fun H2 w2 s2=>?_
 refine bind_ex (ldSl_of (w2.ld (i:=1) rfl rfl)) ?_
 refine bind_ex (ldI_of (w2.ld (i:=1) rfl rfl)) ?_
 refine bind_ex (ldSl_of (w2.ld (i:=0) rfl rfl)) ?_
 refine bind_ex (ldSl_of (w2.ld (i:=0) rfl rfl)) ?_
 obtain ⟨r3,e3,hp⟩:=bind_some' hp
 refine call_ex (au.P rfl rfl rfl ⟨w2,(aK.step (s1.trans s2)),(fw.step (s1.trans s2)),(fY.step (s1.trans s2))⟩ e3) ?_
 rintro _ H4 ⟨o0a_4,o0n_4,o0c_4,o0k_4,rfl,rfl,w4,s4,f4_0⟩
 refine bind_ex rfl ?_
 refine bind_ex (ldSl_of (w4.ld (i:=2) rfl rfl)) ?_
 refine bind_ex (ldI_of (w4.ld (i:=2) rfl rfl)) ?_
 refine bind_ex (ldSl_of (w4.ld (i:=1) rfl rfl)) ?_
 refine bind_ex (ldSl_of (w4.ld (i:=1) rfl rfl)) ?_
 obtain ⟨r5,e5,hp⟩:=bind_some' hp
 refine call_ex (aH.P rfl rfl rfl ⟨w4,(aK.step (s1.trans (s2.trans s4))),(fw.step (s1.trans (s2.trans s4))),(fY.step (s1.trans (s2.trans s4)))⟩ e5) ?_
 rintro _ H6 ⟨o0a_6,o0n_6,o0c_6,o0k_6,rfl,rfl,w6,s6,f6_0⟩
 refine bind_ex rfl ?_
 refine newS_k (eInt .i64) w6 (n:=1) (l:=([(-1)]:List Int)) rfl (CR.cons1 rfl CR.empty) rfl fun H7 w7 s7 c7=>?_
 refine bind_ex (ldSl_of (w7.ld (i:=4) rfl rfl)) ?_
 refine bind_ex (ldI_of (w7.ld (i:=4) rfl rfl)) ?_
 refine bind_ex (ldSl_of (w7.ld (i:=3) rfl rfl)) ?_
 refine bind_ex (ldSl_of (w7.ld (i:=3) rfl rfl)) ?_
 obtain ⟨r8,e8,hp⟩:=bind_some' hp
 refine call_ex (aq.P rfl rfl rfl ⟨w7,(aK.step (s1.trans (s2.trans (s4.trans (s6.trans s7))))),(fw.step (s1.trans (s2.trans (s4.trans (s6.trans s7))))),(fY.step (s1.trans (s2.trans (s4.trans (s6.trans s7)))))⟩ e8) ?_
 rintro _ H9 ⟨o0a_9,o0n_9,o0c_9,o0k_9,rfl,rfl,w9,s9,f9_0⟩
 refine bind_ex rfl ?_
 obtain ⟨w10,s10⟩:=w9.pick' [1,0,2,3,4,5] 6 rfl rfl rfl
 dsimp only [pk,pks,nth,List.drop] at w10 s10
 have f11:=W.borrow1 (eInt .i64) w10 (c7.step (s9.trans s10))
 obtain ⟨w11,s11⟩:=w10.right1
 obtain ⟨r12,e12,hp⟩:=bind_some' hp
 refine call_ex (aO.P (show 1 = List.length ([(-1)]:List Int) from rfl) ⟨w11,f11⟩ e12) ?_
 rintro _ H13 ⟨o0a_13,o0n_13,o0k_13,rfl,rfl,w13,s13,f13_0⟩
 obtain ⟨w14,s14⟩:=W.frame1 w10 w13 s13
 refine bind_ex rfl ?_
 obtain ⟨w15,s15⟩:=w14.pick' [3,0,1,2,4,5,6] 7 rfl rfl rfl
 dsimp only [pk,pks,nth,List.drop] at w15 s15
 have f16:=W.borrow1 (eInt .i64) w15 (f6_0.step (s7.trans (s9.trans (s10.trans (s14.trans s15)))))
 obtain ⟨w16,s16⟩:=w15.right1
 obtain ⟨r17,e17,hp⟩:=bind_some' hp
 refine call_ex (bd.P rfl ⟨w16,f16⟩ e17) ?_
 rintro _ H18 ⟨rfl,w18,s18,_⟩
 obtain ⟨w19,s19⟩:=W.frame1 w15 w18 s18
 refine bind_ex rfl ?_
 obtain ⟨l20,e20,hp⟩:=bind_some' hp
 refine mk_k eBool false w19 rfl rfl rfl e20 fun H21 k21 w21 s21 c21=>?_
 obtain ⟨w22,s22⟩:=w21.pick' [5,3,0,1] 8 rfl rfl rfl
 dsimp only [pk,pks,nth,List.drop] at w22 s22
 exact aj.l253_P F rfl rfl rfl rfl ⟨w22,(s0.trans (s1.trans (s2.trans (s4.trans (s6.trans (s7.trans (s9.trans (s10.trans (s14.trans (s15.trans (s19.trans (s21.trans s22)))))))))))),(f4_0.step (s6.trans (s7.trans (s9.trans (s10.trans (s14.trans (s15.trans (s19.trans (s21.trans s22))))))))),((CR.flat (eInt_flat .i64) f13_0).step (s15.trans (s19.trans (s21.trans s22)))),(c21.step s22),(f6_0.step (s7.trans (s9.trans (s10.trans (s14.trans (s15.trans (s19.trans (s21.trans s22))))))))⟩ hp
def bw.Q (H0:Hp) (Ri R0:List Rs)  (r:Int×Int×List Int) (v:AV) (H':Hp):Prop:=∃ o2a:ON,∃ o2n:Nat,∃ o2k:List AV,v = (.agg [(.int .i64 r.1),(.int .i64 r.2.1),(.sl ⟨o2a,o2n,.ex o2n⟩)])∧o2n = (r.2.2).length∧Out H0 Ri H' (Rs.own ⟨o2a,o2n,.ex o2n⟩ (eInt .i64).z o2k :: R0) fun R=>CR (eInt .i64) H' R o2k (r.2.2)
def bw.p (F:Nat) (aa:Int) (af:Int):Option (Int×Int×List Int):=(mkn (IntKind.i64.wrap (aa * af)) (0:Int)).bind fun l2=>some (aa,af,l2)
theorem bw.P {F:Nat} {aa af:Int} {H:Hp} {R0:List Rs}  (h0:Inn H R0 fun R=>True) {r:Int×Int×List Int} (hp:bw.p F aa af = some r):∃ v H',bw.tw F aa af H = some (v,H')∧bw.Q H R0 R0  r v H':=by
 obtain ⟨w0,_⟩:=h0
 unfold bw.p at hp
 unfold bw.tw bw.twX
 have s0:=w0.rf
 refine new_k w0 fun H1 w1 s1=>?_
 obtain ⟨l2,e2,hp⟩:=bind_some' hp
 refine mk_k (eInt .i64) (0:Int) w1 rfl rfl rfl e2 fun H3 k3 w3 s3 c3=>?_
 refine st_k w3 (i:=1) rfl rfl rfl fun H4 w4 s4=>?_
 dsimp only [List.set] at w4 s4
 refine st_k w4 (i:=1) rfl rfl rfl fun H5 w5 s5=>?_
 dsimp only [List.set] at w5 s5
 refine st_k w5 (i:=1) rfl rfl rfl fun H6 w6 s6=>?_
 dsimp only [List.set] at w6 s6
 refine bind_ex (ldI_of (w6.ld (i:=1) rfl rfl)) ?_
 refine bind_ex (ldI_of (w6.ld (i:=1) rfl rfl)) ?_
 refine bind_ex (ldSl_of (w6.ld (i:=1) rfl rfl)) ?_
 obtain ⟨w7,s7⟩:=w6.pick' [0] 2 rfl rfl rfl
 dsimp only [pk,pks,nth,List.drop] at w7 s7
 obtain rfl:=Option.some.inj hp
 exact ⟨_,_,rfl,_,_,_,rfl,rfl,w7,(s0.trans (s1.trans (s3.trans (s4.trans (s5.trans (s6.trans s7)))))),(c3.step (s4.trans (s5.trans (s6.trans s7))))⟩
def cd.Q (H0:Hp) (Ri R0:List Rs)  (r:Int) (v:AV) (H':Hp):Prop:=v = (.int .i64 r)∧Out H0 Ri H' (R0) fun R=>True
def cd.p (F:Nat) (aa:Bool):Option (Int):=(bif aa then (some 1) else (some 0))
theorem cd.P {F:Nat} {aa:Bool} {H:Hp} {R0:List Rs}  (h0:Inn H R0 fun R=>True) {r:Int} (hp:cd.p F aa = some r):∃ v H',cd.tw F aa H = some (v,H')∧cd.Q H R0 R0  r v H':=by
 obtain ⟨w0,_⟩:=h0
 unfold cd.p at hp
 unfold cd.tw cd.twX
 have s0:=w0.rf
 refine bif_ex (fun hb=>?_) (fun hb=>?_)
 ·replace hp:=bif_t hb hp
  obtain rfl:=Option.some.inj hp
  exact ⟨_,_,rfl,rfl,w0,s0,trivial⟩
 ·replace hp:=bif_f hb hp
  obtain rfl:=Option.some.inj hp
  exact ⟨_,_,rfl,rfl,w0,s0,trivial⟩
def aR.Q (H0:Hp) (Ri R0:List Rs)  (r:List Int) (v:AV) (H':Hp):Prop:=∃ o0a:ON,∃ o0n:Nat,∃ o0c:Cap,∃ o0k:List AV,v = (.sl ⟨o0a,o0n,o0c⟩)∧o0n = (r).length∧Out H0 Ri H' (Rs.own ⟨o0a,o0n,o0c⟩ (eInt .i64).z o0k :: R0) fun R=>CR (eInt .i64) H' R o0k (r)
def aR.S61 (H0:Hp) (Ri R0:List Rs)  (C:Int→Sl→Sl→Sl→Int→Int→Hp→OA) (pC:Int→List Int→List Int→List Int→Int→Int→Option (List Int)):Prop:=∀ {eB gp fU:Int} {BM BN BO:ON} {uY uZ u_:Nat} {BP BQ BR:Cap} {lY lZ np:List Int} {BS BT BU:List AV},∀ {H:Hp},uY = lY.length→uZ = lZ.length→u_ = np.length→(Out H0 Ri H (Rs.own ⟨BM,uY,BP⟩ (eInt .i64).z BS :: Rs.own ⟨BN,uZ,BQ⟩ (eInt .i64).z BT :: Rs.own ⟨BO,u_,BR⟩ (eInt .i64).z BU :: R0) fun R=>CR (eInt .i64) H R BS lY∧CR (eInt .i64) H R BT lZ∧CR (eInt .i64) H R BU np)→∀ {r:List Int},pC eB lY lZ np gp fU = some r→∃ v H',C eB ⟨BM,uY,BP⟩ ⟨BN,uZ,BQ⟩ ⟨BO,u_,BR⟩ gp fU H = some (v,H')∧aR.Q H0 Ri R0  r v H'
def aR.pl61 (F:Nat) :Nat→Int→List Int→List Int→List Int→Int→Int→Option (List Int)
 | 0,_,_,_,_,_,_=>none
 | k + 1,eB,lY,lZ,np,gp,fU=>(bif (decide (fU < gp)) then ((ix lY (IntKind.i64.wrap ((IntKind.i64.wrap (4 * fU)) + 1))).bind fun n1=>(ix lZ (gt lY n1)).bind fun n2=>(cd.p F ((gt lZ n2) == eB)).bind fun r3=>(apn np ([(IntKind.i64.wrap ((IntKind.i64.wrap (2 * r3)) - 1))]:List Int)).bind fun l6=>aR.pl61 F k eB lY lZ l6 gp (IntKind.i64.wrap (fU + 1))) else (some np))
termination_by structural n=>n
theorem aR.l61_P {F:Nat} {H0:Hp} {Ri R0:List Rs}  :∀ k,aR.S61 H0 Ri R0  (aR.l61 F (au.tw F) (aj.tw F) (cd.tw F)  k) (aR.pl61 F  k):=by
 intro k
 induction k with
 | zero=>
  intro eB gp fU BM BN BO uY uZ u_ BP BQ BR lY lZ np BS BT BU H Sr Ss St h0 r hp
  exact nomatch (show (none:Option (List Int)) = some r from hp)
 | succ k ih=>
  intro eB gp fU BM BN BO uY uZ u_ BP BQ BR lY lZ np BS BT BU H Sr Ss St h0 r hp
  obtain ⟨w0,s0,Su,Sv,Sw⟩:=h0
  subst Sr
  subst Ss
  subst St
  unfold aR.pl61 at hp
  unfold aR.l61
  refine bif_ex (fun hb=>?_) (fun hb=>?_)
  ·replace hp:=bif_t hb hp
   obtain ⟨n1,g1,hp⟩:=bind_some' hp
   obtain ⟨p1,q1,i1,h1,j1⟩:=W.ixo (E:=(eInt .i64)) w0 (i:=0) rfl rfl Su g1
   refine bind_ex i1 ?_
   have h1:_ = [_]:=h1
   subst h1
   refine bind_ex (ldI_of (j1 0 _ rfl)) ?_
   obtain ⟨n2,g2,hp⟩:=bind_some' hp
   obtain ⟨p2,q2,i2,h2,j2⟩:=W.ixo (E:=(eInt .i64)) w0 (i:=1) rfl rfl Sv g2
   refine bind_ex i2 ?_
   have h2:_ = [_]:=h2
   subst h2
   refine bind_ex (ldI_of (j2 0 _ rfl)) ?_
   obtain ⟨r3,e3,hp⟩:=bind_some' hp
   refine call_ex (cd.P ⟨w0,trivial⟩ e3) ?_
   rintro _ H4 ⟨rfl,w4,s4,_⟩
   refine bind_ex rfl ?_
   refine newS_k (eInt .i64) w4 (n:=1) (l:=([(IntKind.i64.wrap ((IntKind.i64.wrap (2 * r3)) - 1))]:List Int)) rfl (CR.cons1 rfl CR.empty) rfl fun H5 w5 s5 c5=>?_
   refine bind_ex (w5.rowo (i:=0) rfl) ?_
   obtain ⟨l6,e6,hp⟩:=bind_some' hp
   refine app_k (eInt .i64) w5 (i:=3) rfl rfl (Sw.step (s4.trans s5)) c5 (show 1 = List.length ([(IntKind.i64.wrap ((IntKind.i64.wrap (2 * r3)) - 1))]:List Int) from rfl) rfl e6 fun a7 d7 H7 w7 s7 c7 x7=>?_
   dsimp only [List.set] at w7 s7 c7
   obtain ⟨w8,s8⟩:=w7.pick' [1,2,3] 4 rfl rfl rfl
   dsimp only [pk,pks,nth,List.drop] at w8 s8
   exact ih rfl rfl rfl ⟨w8,(s0.trans (s4.trans (s5.trans (s7.trans s8)))),(Su.step (s4.trans (s5.trans (s7.trans s8)))),(Sv.step (s4.trans (s5.trans (s7.trans s8)))),(c7.step s8)⟩ hp
  ·replace hp:=bif_f hb hp
   obtain ⟨w9,s9⟩:=w0.pick' [2] 3 rfl rfl rfl
   dsimp only [pk,pks,nth,List.drop] at w9 s9
   obtain rfl:=Option.some.inj hp
   exact ⟨_,_,rfl,_,_,_,_,rfl,rfl,w9,(s0.trans s9),(Sw.step s9)⟩
def aR.p (F:Nat) (ae:List (Int×Int×Int×Int×Int)) (cl:List (Int×Int)) (cr:List (Int×Int)) (bH:Int):Option (List Int):=(au.p F ae cl cr).bind fun r3=>(aj.p F ae cl cr).bind fun r6=>aR.pl61 F F bH r3 r6 ([]:List Int) (ae.length:Int) 0
theorem aR.P {F:Nat} {az dL eH:ON} {ap cN cX:Nat} {aA dM eI:Cap} {ae:List (Int×Int×Int×Int×Int)} {ab bH:Int} {cl cr:List (Int×Int)} {H:Hp} {R0:List Rs} (aW:ap = ae.length) (hO:cN = cl.length) (iz:cX = cr.length) (h0:Inn H R0 fun R=>ROs (ePair (eInt .i64) (ePair (eInt .i64) (ePair (eInt .i64) (ePair (eInt .i64) (eInt .i64))))) H R ⟨az,ap,aA⟩ ae∧ROs (ePair (eInt .i64) (eInt .i64)) H R ⟨dL,cN,dM⟩ cl∧ROs (ePair (eInt .i64) (eInt .i64)) H R ⟨eH,cX,eI⟩ cr) {r:List Int} (hp:aR.p F ae cl cr bH = some r):∃ v H',aR.tw F ⟨az,ap,aA⟩ ab ⟨dL,cN,dM⟩ ⟨eH,cX,eI⟩ bH H = some (v,H')∧aR.Q H R0 R0  r v H':=by
 obtain ⟨w0,aK,fw,fY⟩:=h0
 subst aW
 subst hO
 subst iz
 unfold aR.p at hp
 unfold aR.tw aR.twX
 have s0:=w0.rf
 refine new_k w0 fun H1 w1 s1=>?_
 refine new_k w1 fun H2 w2 s2=>?_
 refine bind_ex (ldSl_of (w2.ld (i:=1) rfl rfl)) ?_
 refine bind_ex (ldI_of (w2.ld (i:=1) rfl rfl)) ?_
 refine bind_ex (ldSl_of (w2.ld (i:=0) rfl rfl)) ?_
 refine bind_ex (ldSl_of (w2.ld (i:=0) rfl rfl)) ?_
 obtain ⟨r3,e3,hp⟩:=bind_some' hp
 refine call_ex (au.P rfl rfl rfl ⟨w2,(aK.step (s1.trans s2)),(fw.step (s1.trans s2)),(fY.step (s1.trans s2))⟩ e3) ?_
 rintro _ H4 ⟨o0a_4,o0n_4,o0c_4,o0k_4,rfl,rfl,w4,s4,f4_0⟩
 refine bind_ex rfl ?_
 refine ifs_ex (W.cons_of (Rn:=[_]) w2 w4 s4) ?_
 refine bind_ex (ldSl_of (w4.ld (i:=2) rfl rfl)) ?_
 refine bind_ex (ldI_of (w4.ld (i:=2) rfl rfl)) ?_
 refine bind_ex (ldSl_of (w4.ld (i:=1) rfl rfl)) ?_
 refine bind_ex (ldSl_of (w4.ld (i:=1) rfl rfl)) ?_
 obtain ⟨r6,e6,hp⟩:=bind_some' hp
 refine call_ex (aj.P rfl rfl rfl ⟨w4,(aK.step (s1.trans (s2.trans s4))),(fw.step (s1.trans (s2.trans s4))),(fY.step (s1.trans (s2.trans s4)))⟩ e6) ?_
 rintro _ H7 ⟨o0a_7,o0n_7,o0c_7,o0k_7,rfl,rfl,w7,s7,f7_0⟩
 refine bind_ex rfl ?_
 refine bind_ex (ldSl_of (w7.ld (i:=3) rfl rfl)) ?_
 obtain ⟨w8,s8⟩:=w7.nilS (eInt .i64).z (by decide)
 obtain ⟨w9,s9⟩:=w8.pick' [2,1,0] 5 rfl rfl rfl
 dsimp only [pk,pks,nth,List.drop] at w9 s9
 exact aR.l61_P F rfl rfl rfl ⟨w9,(s0.trans (s1.trans (s2.trans (s4.trans (s7.trans (s8.trans s9)))))),(f4_0.step (s7.trans (s8.trans s9))),(f7_0.step (s8.trans s9)),((CR.empty:CR (eInt .i64) _ _ [] []).step s9)⟩ hp
def ag.Q (H0:Hp) (Ri R0:List Rs)  (r:Int×Int×List Int) (v:AV) (H':Hp):Prop:=∃ o2a:ON,∃ o2n:Nat,∃ o2c:Cap,∃ o2k:List AV,v = (.agg [(.int .i64 r.1),(.int .i64 r.2.1),(.sl ⟨o2a,o2n,o2c⟩)])∧o2n = (r.2.2).length∧Out H0 Ri H' (Rs.own ⟨o2a,o2n,o2c⟩ (eInt .i64).z o2k :: R0) fun R=>CR (eInt .i64) H' R o2k (r.2.2)
def ag.S125 (H0:Hp) (Ri R0:List Rs)  (C:Int→Nat→Nat→Nat→Nat→Nat→Nat→Sl→Sl→Int→Sl→Int→Int→Hp→OA) (pC:Int→List (Int×Int×Int×Int×Int)→List (Int×Int)→List (Int×Int)→List Int→List Int→Int→List Int→Int→Int→Option (Int×Int×List Int)):Prop:=∀ {cV G_ Ha Hb dR fK ef:Int} {BV BW BX BY BZ B_ Ca:ON} {va ee vb vc eF vd fu ve vf vg:Nat} {Cb Cc Cd Ce Cf Cg Ch:Cap} {l_:List (Int×Int×Int×Int×Int)} {ma mb:List (Int×Int)} {Ci mc ll lm:List Int} {Cj Ck Cl Cm:List AV},∀ {H:Hp},va = l_.length→vb = ma.length→vc = mb.length→vd = Ci.length→ve = mc.length→vf = ll.length→vg = lm.length→(Out H0 Ri H (Rs.blk ee [.sl ⟨BV,va,Cb⟩,.int .i64 G_] :: Rs.blk eF [.sl ⟨BW,vb,Cc⟩,.sl ⟨BX,vc,Cd⟩] :: Rs.own ⟨BY,vd,Ce⟩ (eInt .i64).z Cj :: Rs.blk fu [.int .i64 Ha,.int .i64 Hb,.sl ⟨BY,vd,Ce⟩] :: Rs.own ⟨BZ,ve,Cf⟩ (eInt .i64).z Ck :: Rs.own ⟨B_,vf,Cg⟩ (eInt .i64).z Cl :: Rs.own ⟨Ca,vg,Ch⟩ (eInt .i64).z Cm :: R0) fun R=>ROs (ePair (eInt .i64) (ePair (eInt .i64) (ePair (eInt .i64) (ePair (eInt .i64) (eInt .i64))))) H R ⟨BV,va,Cb⟩ l_∧ROs (ePair (eInt .i64) (eInt .i64)) H R ⟨BW,vb,Cc⟩ ma∧ROs (ePair (eInt .i64) (eInt .i64)) H R ⟨BX,vc,Cd⟩ mb∧CR (eInt .i64) H R Cj Ci∧CR (eInt .i64) H R Ck mc∧CR (eInt .i64) H R Cl ll∧CR (eInt .i64) H R Cm lm)→∀ {r:Int×Int×List Int},pC cV l_ ma mb mc ll dR lm fK ef = some r→∃ v H',C cV ee 0 eF 0 fu 0 ⟨BZ,ve,Cf⟩ ⟨B_,vf,Cg⟩ dR ⟨Ca,vg,Ch⟩ fK ef H = some (v,H')∧ag.Q H0 Ri R0  r v H'
def ag.pj17 (F:Nat) (lL:Int→List (Int×Int×Int×Int×Int)→List (Int×Int)→List (Int×Int)→List Int→List Int→Int→List Int→Int→Int→Option (Int×Int×List Int)) (pL:Int) (vh:List (Int×Int×Int×Int×Int)) (vi:List (Int×Int)) (vj:List (Int×Int)) (vk:List Int) (vl:List Int) (pM:Int) (vm:List Int) (pN:Int) (pO:Int):Option (Int×Int×List Int):=lL pL vh vi vj vk vl pM vm pN (IntKind.i64.wrap (pO + 1))
theorem ag.j17_P {F:Nat} {H0:Hp} {Ri R0:List Rs}  {C125_:Int→Nat→Nat→Nat→Nat→Nat→Nat→Sl→Sl→Int→Sl→Int→Int→Hp→OA} {lL:Int→List (Int×Int×Int×Int×Int)→List (Int×Int)→List (Int×Int)→List Int→List Int→Int→List Int→Int→Int→Option (Int×Int×List Int)} (hC125:ag.S125 H0 Ri R0  C125_ lL) {pL ac5 ac6 ac7 pM pN pO:Int} {Sx Sy Sz SA SB SD SE:ON} {Hc wU Hd He wV Hf wW Hg Hh Hi:Nat} {SF SG SH SI SJ SK SL:Cap} {vh:List (Int×Int×Int×Int×Int)} {vi vj:List (Int×Int)} {SM vk vl vm:List Int} {SN SO SP SQ:List AV} {H:Hp} (ac8:Hc = vh.length) (ac9:Hd = vi.length) (ac_:He = vj.length) (ada:Hf = SM.length) (adb:Hg = vk.length) (adc:Hh = vl.length) (ade:Hi = vm.length) (h0:Out H0 Ri H (Rs.blk wU [.sl ⟨Sx,Hc,SF⟩,.int .i64 ac5] :: Rs.blk wV [.sl ⟨Sy,Hd,SG⟩,.sl ⟨Sz,He,SH⟩] :: Rs.own ⟨SA,Hf,SI⟩ (eInt .i64).z SN :: Rs.blk wW [.int .i64 ac6,.int .i64 ac7,.sl ⟨SA,Hf,SI⟩] :: Rs.own ⟨SB,Hg,SJ⟩ (eInt .i64).z SO :: Rs.own ⟨SD,Hh,SK⟩ (eInt .i64).z SP :: Rs.own ⟨SE,Hi,SL⟩ (eInt .i64).z SQ :: R0) fun R=>ROs (ePair (eInt .i64) (ePair (eInt .i64) (ePair (eInt .i64) (ePair (eInt .i64) (eInt .i64))))) H R ⟨Sx,Hc,SF⟩ vh∧ROs (ePair (eInt .i64) (eInt .i64)) H R ⟨Sy,Hd,SG⟩ vi∧ROs (ePair (eInt .i64) (eInt .i64)) H R ⟨Sz,He,SH⟩ vj∧CR (eInt .i64) H R SN SM∧CR (eInt .i64) H R SO vk∧CR (eInt .i64) H R SP vl∧CR (eInt .i64) H R SQ vm) {r:Int×Int×List Int} (hp:ag.pj17 F lL pL vh vi vj vk vl pM vm pN pO = some r):∃ v H',ag.j17 F (au.tw F) (aj.tw F) (bw.tw F) (aR.tw F) (bO.tw F) C125_ pL wU 0 wV 0 wW 0 ⟨SB,Hg,SJ⟩ ⟨SD,Hh,SK⟩ pM ⟨SE,Hi,SL⟩ pN pO H = some (v,H')∧ag.Q H0 Ri R0  r v H':=by
 obtain ⟨w0,s0,adf,adg,adh,adi,adj,adk,adl⟩:=h0
 subst ac8
 subst ac9
 subst ac_
 subst ada
 subst adb
 subst adc
 subst ade
 unfold ag.pj17 at hp
 unfold ag.j17
 exact hC125 rfl rfl rfl rfl rfl rfl rfl ⟨w0,s0,adf,adg,adh,adi,adj,adk,adl⟩ hp
def ag.S509 (H0:Hp) (Ri R0:List Rs)  (C:Nat→Nat→Sl→Sl→Nat→Nat→Sl→Int→Int→Hp→OA) (pC:List Int→List Int→Int→Int→List Int→List Int→Int→Int→Option (Int×Int×List Int)):Prop:=∀ {Hj Hk nq nr fJ dI:Int} {Cn Co Cp Cq Cs:ON} {vn dA vo vp vq fI vr:Nat} {Ct Cu Cv Cw Cx:Cap} {Cy ns nu md jN:List Int} {Cz CA CB CC CD:List AV},∀ {H:Hp},vn = Cy.length→vo = ns.length→vp = nu.length→vq = md.length→vr = jN.length→(Out H0 Ri H (Rs.own ⟨Cn,vn,Ct⟩ (eInt .i64).z Cz :: Rs.blk dA [.int .i64 Hj,.int .i64 Hk,.sl ⟨Cn,vn,Ct⟩] :: Rs.own ⟨Co,vo,Cu⟩ (eInt .i64).z CA :: Rs.own ⟨Cp,vp,Cv⟩ (eInt .i64).z CB :: Rs.own ⟨Cq,vq,Cw⟩ (eInt .i64).z CC :: Rs.blk fI [.int .i64 nq,.int .i64 nr,.sl ⟨Cq,vq,Cw⟩] :: Rs.own ⟨Cs,vr,Cx⟩ (eInt .i64).z CD :: R0) fun R=>CR (eInt .i64) H R Cz Cy∧CR (eInt .i64) H R CA ns∧CR (eInt .i64) H R CB nu∧CR (eInt .i64) H R CC md∧CR (eInt .i64) H R CD jN)→∀ {r:Int×Int×List Int},pC ns nu nq nr md jN fJ dI = some r→∃ v H',C dA 0 ⟨Co,vo,Cu⟩ ⟨Cp,vp,Cv⟩ fI 0 ⟨Cs,vr,Cx⟩ fJ dI H = some (v,H')∧ag.Q H0 Ri R0  r v H'
def ag.pj9 (F:Nat) (aQ:List Int→List Int→Int→Int→List Int→List Int→Int→Int→Option (Int×Int×List Int)) (vs:List Int) (vt:List Int) (CE:Int) (CF:Int) (vu:List Int) (vv:List Int) (pu:Int) (pv:Int):Option (Int×Int×List Int):=aQ vs vt CE CF vu vv pu (IntKind.i64.wrap (pv + 1))
theorem ag.j9_P {F:Nat} {H0:Hp} {Ri R0:List Rs}  {C509_:Nat→Nat→Sl→Sl→Nat→Nat→Sl→Int→Int→Hp→OA} {aQ:List Int→List Int→Int→Int→List Int→List Int→Int→Int→Option (Int×Int×List Int)} (hC509:ag.S509 H0 Ri R0  C509_ aQ) {adm adn CE CF pu pv:Int} {SR SS SU SV SW:ON} {Hl wJ Hm Hn Ho wK Hq:Nat} {SX SY SZ S_ Ta:Cap} {Tc vs vt vu vv:List Int} {Td Te Tf Tg Th:List AV} {H:Hp} (ado:Hl = Tc.length) (adp:Hm = vs.length) (adq:Hn = vt.length) (adr:Ho = vu.length) (ads:Hq = vv.length) (h0:Out H0 Ri H (Rs.own ⟨SR,Hl,SX⟩ (eInt .i64).z Td :: Rs.blk wJ [.int .i64 adm,.int .i64 adn,.sl ⟨SR,Hl,SX⟩] :: Rs.own ⟨SS,Hm,SY⟩ (eInt .i64).z Te :: Rs.own ⟨SU,Hn,SZ⟩ (eInt .i64).z Tf :: Rs.own ⟨SV,Ho,S_⟩ (eInt .i64).z Tg :: Rs.blk wK [.int .i64 CE,.int .i64 CF,.sl ⟨SV,Ho,S_⟩] :: Rs.own ⟨SW,Hq,Ta⟩ (eInt .i64).z Th :: R0) fun R=>CR (eInt .i64) H R Td Tc∧CR (eInt .i64) H R Te vs∧CR (eInt .i64) H R Tf vt∧CR (eInt .i64) H R Tg vu∧CR (eInt .i64) H R Th vv) {r:Int×Int×List Int} (hp:ag.pj9 F aQ vs vt CE CF vu vv pu pv = some r):∃ v H',ag.j9 F (au.tw F) (aj.tw F) (bw.tw F) (aR.tw F) (bO.tw F) C509_ wJ 0 ⟨SS,Hm,SY⟩ ⟨SU,Hn,SZ⟩ wK 0 ⟨SW,Hq,Ta⟩ pu pv H = some (v,H')∧ag.Q H0 Ri R0  r v H':=by
 obtain ⟨w0,s0,adt,adu,adv,adw,adx⟩:=h0
 subst ado
 subst adp
 subst adq
 subst adr
 subst ads
 unfold ag.pj9 at hp
 unfold ag.j9
 exact hC509 rfl rfl rfl rfl rfl ⟨w0,s0,adt,adu,adv,adw,adx⟩ hp
def ag.S1043325 (H0:Hp) (Ri R0:List Rs)  (C:Nat→Nat→Sl→Sl→Nat→Nat→Sl→Int→Int→Int→Int→Int→Sl→Int→Int→Hp→OA) (pC:List Int→List Int→Int→Int→List Int→List Int→Int→Int→Int→Int→Int→List (Int×Int)→Int→Int→Option (Int×Int×List Int)):Prop:=∀ {Hr Hs nv mf ed eE db dz dH fH fq:Int} {CG CH CI CJ CK CL:ON} {vw dq vx vy vz dr vA vB:Nat} {CM CN CO CP CQ CS:Cap} {CT mg mh kO mi:List Int} {CU CV CW CX CY CZ:List AV} {jO:List (Int×Int)},∀ {H:Hp},vw = CT.length→vx = mg.length→vy = mh.length→vz = kO.length→vA = mi.length→vB = jO.length→(Out H0 Ri H (Rs.own ⟨CG,vw,CM⟩ (eInt .i64).z CU :: Rs.blk dq [.int .i64 Hr,.int .i64 Hs,.sl ⟨CG,vw,CM⟩] :: Rs.own ⟨CH,vx,CN⟩ (eInt .i64).z CV :: Rs.own ⟨CI,vy,CO⟩ (eInt .i64).z CW :: Rs.own ⟨CJ,vz,CP⟩ (eInt .i64).z CX :: Rs.blk dr [.int .i64 nv,.int .i64 mf,.sl ⟨CJ,vz,CP⟩] :: Rs.own ⟨CK,vA,CQ⟩ (eInt .i64).z CY :: Rs.own ⟨CL,vB,CS⟩ (ePair (eInt .i64) (eInt .i64)).z CZ :: R0) fun R=>CR (eInt .i64) H R CU CT∧CR (eInt .i64) H R CV mg∧CR (eInt .i64) H R CW mh∧CR (eInt .i64) H R CX kO∧CR (eInt .i64) H R CY mi∧CR (ePair (eInt .i64) (eInt .i64)) H R CZ jO)→∀ {r:Int×Int×List Int},pC mg mh nv mf kO mi ed eE db dz dH jO fH fq = some r→∃ v H',C dq 0 ⟨CH,vx,CN⟩ ⟨CI,vy,CO⟩ dr 0 ⟨CK,vA,CQ⟩ ed eE db dz dH ⟨CL,vB,CS⟩ fH fq H = some (v,H')∧ag.Q H0 Ri R0  r v H'
def ag.pj14 (F:Nat) (C_:List Int→List Int→Int→Int→List Int→List Int→Int→Int→Int→Int→Int→List (Int×Int)→Int→Int→Option (Int×Int×List Int)) (vC:List Int) (vD:List Int) (Da:Int) (Db:Int) (vE:List Int) (pB:Int) (pD:Int) (pE:Int) (vF:List Int) (pF:Int) (pG:Int) (vG:List (Int×Int)) (pH:Int) (pI:Int):Option (Int×Int×List Int):=C_ vC vD Da Db vE vF pF pG pB pD pE vG pH (IntKind.i64.wrap (pI + 1))
theorem ag.j14_P {F:Nat} {H0:Hp} {Ri R0:List Rs}  {C1043325_:Nat→Nat→Sl→Sl→Nat→Nat→Sl→Int→Int→Int→Int→Int→Sl→Int→Int→Hp→OA} {C_:List Int→List Int→Int→Int→List Int→List Int→Int→Int→Int→Int→Int→List (Int×Int)→Int→Int→Option (Int×Int×List Int)} (hC1043325:ag.S1043325 H0 Ri R0  C1043325_ C_) {ady adz Da Db pB pD pE pF pG pH pI:Int} {Ti Tj Tk Tl Tn To:ON} {Ht wP Hu Hv Hw wQ Hx Hy:Nat} {Tp Tq Tr Ts Tt Tu:Cap} {Tv vC vD vE vF:List Int} {Tw Tx Ty Tz TA TC:List AV} {vG:List (Int×Int)} {H:Hp} (adA:Ht = Tv.length) (adB:Hu = vC.length) (adC:Hv = vD.length) (adD:Hw = vE.length) (adE:Hx = vF.length) (adF:Hy = vG.length) (h0:Out H0 Ri H (Rs.own ⟨Ti,Ht,Tp⟩ (eInt .i64).z Tw :: Rs.blk wP [.int .i64 ady,.int .i64 adz,.sl ⟨Ti,Ht,Tp⟩] :: Rs.own ⟨Tj,Hu,Tq⟩ (eInt .i64).z Tx :: Rs.own ⟨Tk,Hv,Tr⟩ (eInt .i64).z Ty :: Rs.own ⟨Tl,Hw,Ts⟩ (eInt .i64).z Tz :: Rs.blk wQ [.int .i64 Da,.int .i64 Db,.sl ⟨Tl,Hw,Ts⟩] :: Rs.own ⟨Tn,Hx,Tt⟩ (eInt .i64).z TA :: Rs.own ⟨To,Hy,Tu⟩ (ePair (eInt .i64) (eInt .i64)).z TC :: R0) fun R=>CR (eInt .i64) H R Tw Tv∧CR (eInt .i64) H R Tx vC∧CR (eInt .i64) H R Ty vD∧CR (eInt .i64) H R Tz vE∧CR (eInt .i64) H R TA vF∧CR (ePair (eInt .i64) (eInt .i64)) H R TC vG) {r:Int×Int×List Int} (hp:ag.pj14 F C_ vC vD Da Db vE pB pD pE vF pF pG vG pH pI = some r):∃ v H',ag.j14 F (au.tw F) (aj.tw F) (bw.tw F) (aR.tw F) (bO.tw F) C1043325_ wP 0 ⟨Tj,Hu,Tq⟩ ⟨Tk,Hv,Tr⟩ wQ 0 pB pD pE ⟨Tn,Hx,Tt⟩ pF pG ⟨To,Hy,Tu⟩ pH pI H = some (v,H')∧ag.Q H0 Ri R0  r v H':=by
 obtain ⟨w0,s0,adG,adH,adI,adJ,adK,adL⟩:=h0
 subst adA
 subst adB
 subst adC
 subst adD
 subst adE
 subst adF
 unfold ag.pj14 at hp
 unfold ag.j14
 exact hC1043325 rfl rfl rfl rfl rfl rfl ⟨w0,s0,adG,adH,adI,adJ,adK,adL⟩ hp
def ag.pj11 (F:Nat) (aQ:List Int→List Int→Int→Int→List Int→List Int→Int→Int→Option (Int×Int×List Int)) (vH:List Int) (vI:List Int) (Dc:Int) (Dd:Int) (vJ:List Int) (vK:List Int) (pw:Int) (px:Int):Option (Int×Int×List Int):=aQ vH vI Dc Dd vJ vK pw (IntKind.i64.wrap (px + 1))
theorem ag.j11_P {F:Nat} {H0:Hp} {Ri R0:List Rs}  {C509_:Nat→Nat→Sl→Sl→Nat→Nat→Sl→Int→Int→Hp→OA} {aQ:List Int→List Int→Int→Int→List Int→List Int→Int→Int→Option (Int×Int×List Int)} (hC509:ag.S509 H0 Ri R0  C509_ aQ) {adM adN Dc Dd pw px:Int} {TD TE TF TG TH:ON} {Hz wL HA HB HC wM HD:Nat} {TJ TK TL TM TN:Cap} {TO vH vI vJ vK:List Int} {TP TQ TR TT TU:List AV} {H:Hp} (adO:Hz = TO.length) (adP:HA = vH.length) (adQ:HB = vI.length) (adR:HC = vJ.length) (adS:HD = vK.length) (h0:Out H0 Ri H (Rs.own ⟨TD,Hz,TJ⟩ (eInt .i64).z TP :: Rs.blk wL [.int .i64 adM,.int .i64 adN,.sl ⟨TD,Hz,TJ⟩] :: Rs.own ⟨TE,HA,TK⟩ (eInt .i64).z TQ :: Rs.own ⟨TF,HB,TL⟩ (eInt .i64).z TR :: Rs.own ⟨TG,HC,TM⟩ (eInt .i64).z TT :: Rs.blk wM [.int .i64 Dc,.int .i64 Dd,.sl ⟨TG,HC,TM⟩] :: Rs.own ⟨TH,HD,TN⟩ (eInt .i64).z TU :: R0) fun R=>CR (eInt .i64) H R TP TO∧CR (eInt .i64) H R TQ vH∧CR (eInt .i64) H R TR vI∧CR (eInt .i64) H R TT vJ∧CR (eInt .i64) H R TU vK) {r:Int×Int×List Int} (hp:ag.pj11 F aQ vH vI Dc Dd vJ vK pw px = some r):∃ v H',ag.j11 F (au.tw F) (aj.tw F) (bw.tw F) (aR.tw F) (bO.tw F) C509_ wL 0 ⟨TE,HA,TK⟩ ⟨TF,HB,TL⟩ wM 0 ⟨TH,HD,TN⟩ pw px H = some (v,H')∧ag.Q H0 Ri R0  r v H':=by
 obtain ⟨w0,s0,adT,adU,adV,adW,adX⟩:=h0
 subst adO
 subst adP
 subst adQ
 subst adR
 subst adS
 unfold ag.pj11 at hp
 unfold ag.j11
 exact hC509 rfl rfl rfl rfl rfl ⟨w0,s0,adT,adU,adV,adW,adX⟩ hp
def ag.pj12 (F:Nat) (aQ:List Int→List Int→Int→Int→List Int→List Int→Int→Int→Option (Int×Int×List Int)) (vL:List Int) (vM:List Int) (De:Int) (Df:Int) (vN:List Int) (vO:List Int) (py:Int) (pz:Int):Option (Int×Int×List Int):=ag.pj11 F aQ vL vM De Df vN vO py pz
theorem ag.j12_P {F:Nat} {H0:Hp} {Ri R0:List Rs}  {C509_:Nat→Nat→Sl→Sl→Nat→Nat→Sl→Int→Int→Hp→OA} {aQ:List Int→List Int→Int→Int→List Int→List Int→Int→Int→Option (Int×Int×List Int)} (hC509:ag.S509 H0 Ri R0  C509_ aQ) {adY adZ De Df py pz:Int} {TV TW TX TY TZ:ON} {HE wN HF HG HH wO HI:Nat} {T_ Ua Ub Uc Ud:Cap} {Ue vL vM vN vO:List Int} {Uf Ug Uh Ui Uj:List AV} {H:Hp} (ad0:HE = Ue.length) (ad1:HF = vL.length) (ad2:HG = vM.length) (ad3:HH = vN.length) (ad4:HI = vO.length) (h0:Out H0 Ri H (Rs.own ⟨TV,HE,T_⟩ (eInt .i64).z Uf :: Rs.blk wN [.int .i64 adY,.int .i64 adZ,.sl ⟨TV,HE,T_⟩] :: Rs.own ⟨TW,HF,Ua⟩ (eInt .i64).z Ug :: Rs.own ⟨TX,HG,Ub⟩ (eInt .i64).z Uh :: Rs.own ⟨TY,HH,Uc⟩ (eInt .i64).z Ui :: Rs.blk wO [.int .i64 De,.int .i64 Df,.sl ⟨TY,HH,Uc⟩] :: Rs.own ⟨TZ,HI,Ud⟩ (eInt .i64).z Uj :: R0) fun R=>CR (eInt .i64) H R Uf Ue∧CR (eInt .i64) H R Ug vL∧CR (eInt .i64) H R Uh vM∧CR (eInt .i64) H R Ui vN∧CR (eInt .i64) H R Uj vO) {r:Int×Int×List Int} (hp:ag.pj12 F aQ vL vM De Df vN vO py pz = some r):∃ v H',ag.j12 F (au.tw F) (aj.tw F) (bw.tw F) (aR.tw F) (bO.tw F) C509_ wN 0 ⟨TW,HF,Ua⟩ ⟨TX,HG,Ub⟩ wO 0 ⟨TZ,HI,Ud⟩ py pz H = some (v,H')∧ag.Q H0 Ri R0  r v H':=by
 obtain ⟨w0,s0,ad5,ad6,ad7,ad8,ad9⟩:=h0
 subst ad0
 subst ad1
 subst ad2
 subst ad3
 subst ad4
 unfold ag.pj12 at hp
 unfold ag.j12
 exact ag.j11_P (@hC509) rfl rfl rfl rfl rfl ⟨w0,s0,ad5,ad6,ad7,ad8,ad9⟩ hp
def ag.pj13 (F:Nat) (aQ:List Int→List Int→Int→Int→List Int→List Int→Int→Int→Option (Int×Int×List Int)) (nS:List Int) (nT:List Int) (qk:Int) (nw:Int) (mj:List Int) (mC:Int) (kX:Int) (kY:Int) (nU:List Int) (kZ:Int) (k_:Int):Option (Int×Int×List Int):=(bif (decide (kX ≥ 0)) then ((bif (decide (kY ≥ 0)) then ((ix mj (IntKind.i64.wrap ((IntKind.i64.wrap (kX * nw)) + kY))).bind fun n2=>(some (mj.set n2 (IntKind.i64.wrap ((gt mj n2) - mC)))).bind fun l3=>(ix l3 (IntKind.i64.wrap ((IntKind.i64.wrap (kY * nw)) + kX))).bind fun n6=>(some (l3.set n6 (IntKind.i64.wrap ((gt l3 n6) - mC)))).bind fun l7=>ag.pj12 F aQ nS nT qk nw l7 nU kZ k_) else (ag.pj12 F aQ nS nT qk nw mj nU kZ k_))) else (ag.pj11 F aQ nS nT qk nw mj nU kZ k_))
theorem ag.j13_P {F:Nat} {H0:Hp} {Ri R0:List Rs}  {C509_:Nat→Nat→Sl→Sl→Nat→Nat→Sl→Int→Int→Hp→OA} {aQ:List Int→List Int→Int→Int→List Int→List Int→Int→Int→Option (Int×Int×List Int)} (hC509:ag.S509 H0 Ri R0  C509_ aQ) {ad_ aea qk nw mC kX kY kZ k_:Int} {Uk Ul Um Un Uo:ON} {HJ pA HK HL HM jG HN:Nat} {Up Uq Ur Us Ut:Cap} {Uu nS nT mj nU:List Int} {Uv Uw Ux Uy Uz:List AV} {H:Hp} (aeb:HJ = Uu.length) (aec:HK = nS.length) (aed:HL = nT.length) (aee:HM = mj.length) (aef:HN = nU.length) (h0:Out H0 Ri H (Rs.own ⟨Uk,HJ,Up⟩ (eInt .i64).z Uv :: Rs.blk pA [.int .i64 ad_,.int .i64 aea,.sl ⟨Uk,HJ,Up⟩] :: Rs.own ⟨Ul,HK,Uq⟩ (eInt .i64).z Uw :: Rs.own ⟨Um,HL,Ur⟩ (eInt .i64).z Ux :: Rs.own ⟨Un,HM,Us⟩ (eInt .i64).z Uy :: Rs.blk jG [.int .i64 qk,.int .i64 nw,.sl ⟨Un,HM,Us⟩] :: Rs.own ⟨Uo,HN,Ut⟩ (eInt .i64).z Uz :: R0) fun R=>CR (eInt .i64) H R Uv Uu∧CR (eInt .i64) H R Uw nS∧CR (eInt .i64) H R Ux nT∧CR (eInt .i64) H R Uy mj∧CR (eInt .i64) H R Uz nU) {r:Int×Int×List Int} (hp:ag.pj13 F aQ nS nT qk nw mj mC kX kY nU kZ k_ = some r):∃ v H',ag.j13 F (au.tw F) (aj.tw F) (bw.tw F) (aR.tw F) (bO.tw F) C509_ pA 0 ⟨Ul,HK,Uq⟩ ⟨Um,HL,Ur⟩ jG 0 mC kX kY ⟨Uo,HN,Ut⟩ kZ k_ H = some (v,H')∧ag.Q H0 Ri R0  r v H':=by
 obtain ⟨w0,s0,HO,HP,HQ,Dg,HR⟩:=h0
 subst aeb
 subst aec
 subst aed
 subst aee
 subst aef
 unfold ag.pj13 at hp
 unfold ag.j13
 refine bif_ex (fun hb=>?_) (fun hb=>?_)
 ·replace hp:=bif_t hb hp
  refine bif_ex (fun hb=>?_) (fun hb=>?_)
  ·replace hp:=bif_t hb hp
   refine bind_ex (ldI_of (w0.ld (i:=5) rfl rfl)) ?_
   refine bind_ex (ldI_of (w0.ld (i:=5) rfl rfl)) ?_
   refine bind_ex (ldSl_of (w0.ld (i:=5) rfl rfl)) ?_
   refine bO.inl ?_
   refine new_k w0 fun H1 w1 s1=>?_
   refine bind_ex (ldSl_of (w1.ld (i:=0) rfl rfl)) ?_
   refine bind_ex (ldI_of (w1.ld (i:=0) rfl rfl)) ?_
   obtain ⟨n2,g2,hp⟩:=bind_some' hp
   obtain ⟨p2,q2,i2,h2,j2⟩:=W.ixo (E:=(eInt .i64)) w1 (i:=5) rfl rfl (Dg.step s1) g2
   refine bind_ex i2 ?_
   refine ⟨_,_,rfl,?_⟩
   refine bind_ex rfl ?_
   have h2:_ = [_]:=h2
   subst h2
   refine bind_ex (ldI_of (j2 0 _ rfl)) ?_
   obtain ⟨l3,e3,hp⟩:=bind_some' hp
   refine sto_k (eInt .i64) w1 (i:=5) (j:=0) (p:=p2) rfl rfl (Dg.step s1) g2 i2 e3 rfl rfl (fun _ h=>by have h:_ = [_]:=h; subst h; exact rfl) fun H4 k4 w4 s4 c4=>?_
   dsimp only [List.set] at w4 s4 c4
   refine bind_ex (ldI_of (w4.ld (i:=6) rfl rfl)) ?_
   refine bind_ex (ldI_of (w4.ld (i:=6) rfl rfl)) ?_
   refine bind_ex (ldSl_of (w4.ld (i:=6) rfl rfl)) ?_
   refine bO.inl ?_
   refine new_k w4 fun H5 w5 s5=>?_
   refine bind_ex (ldSl_of (w5.ld (i:=0) rfl rfl)) ?_
   refine bind_ex (ldI_of (w5.ld (i:=0) rfl rfl)) ?_
   obtain ⟨n6,g6,hp⟩:=bind_some' hp
   obtain ⟨p6,q6,i6,h6,j6⟩:=W.ixo (E:=(eInt .i64)) w5 (i:=6) rfl rfl (c4.step s5) g6
   refine bind_ex i6 ?_
   refine ⟨_,_,rfl,?_⟩
   refine bind_ex rfl ?_
   have h6:_ = [_]:=h6
   subst h6
   refine bind_ex (ldI_of (j6 0 _ rfl)) ?_
   obtain ⟨l7,e7,hp⟩:=bind_some' hp
   refine sto_k (eInt .i64) w5 (i:=6) (j:=0) (p:=p6) rfl rfl (c4.step s5) g6 i6 e7 rfl rfl (fun _ h=>by have h:_ = [_]:=h; subst h; exact rfl) fun H8 k8 w8 s8 c8=>?_
   dsimp only [List.set] at w8 s8 c8
   obtain ⟨w9,s9⟩:=w8.pick' [2,3,4,5,6,7,8] 9 rfl rfl rfl
   dsimp only [pk,pks,nth,List.drop] at w9 s9
   exact ag.j12_P (@hC509) rfl rfl rfl ((st_len e3).symm.trans (st_len e7).symm) rfl ⟨w9,(s0.trans (s1.trans (s4.trans (s5.trans (s8.trans s9))))),(HO.step (s1.trans (s4.trans (s5.trans (s8.trans s9))))),(HP.step (s1.trans (s4.trans (s5.trans (s8.trans s9))))),(HQ.step (s1.trans (s4.trans (s5.trans (s8.trans s9))))),(c8.step s9),(HR.step (s1.trans (s4.trans (s5.trans (s8.trans s9)))))⟩ hp
  ·replace hp:=bif_f hb hp
   exact ag.j12_P (@hC509) rfl rfl rfl rfl rfl ⟨w0,s0,HO,HP,HQ,Dg,HR⟩ hp
 ·replace hp:=bif_f hb hp
  exact ag.j11_P (@hC509) rfl rfl rfl rfl rfl ⟨w0,s0,HO,HP,HQ,Dg,HR⟩ hp
def ag.pl1043325 (F:Nat) (aQ:List Int→List Int→Int→Int→List Int→List Int→Int→Int→Option (Int×Int×List Int)):Nat→List Int→List Int→Int→Int→List Int→List Int→Int→Int→Int→Int→Int→List (Int×Int)→Int→Int→Option (Int×Int×List Int)
 | 0,_,_,_,_,_,_,_,_,_,_,_,_,_,_=>none
 | k + 1,mg,mh,nv,mf,kO,mi,ed,eE,db,dz,dH,jO,fH,fq=>(bif (decide (fq < fH)) then ((ix jO fq).bind fun n1=>(bif (decide (((gt jO n1).1) ≥ 0)) then ((ix kO (IntKind.i64.wrap ((IntKind.i64.wrap (((gt jO n1).1) * mf)) + ((gt jO n1).2)))).bind fun n6=>(some (kO.set n6 (IntKind.i64.wrap ((gt kO n6) + db)))).bind fun l7=>ag.pj14 F (ag.pl1043325 F aQ k) mg mh nv mf l7 db dz dH mi ed eE jO fH fq) else (ag.pj14 F (ag.pl1043325 F aQ k) mg mh nv mf kO db dz dH mi ed eE jO fH fq))) else (ag.pj13 F aQ mg mh nv mf kO db dz dH mi ed eE))
termination_by structural n=>n
theorem ag.l1043325_P {F:Nat} {H0:Hp} {Ri R0:List Rs}  {C509_:Nat→Nat→Sl→Sl→Nat→Nat→Sl→Int→Int→Hp→OA} {aQ:List Int→List Int→Int→Int→List Int→List Int→Int→Int→Option (Int×Int×List Int)} (hC509:ag.S509 H0 Ri R0  C509_ aQ):∀ k,ag.S1043325 H0 Ri R0  (ag.l1043325 F (au.tw F) (aj.tw F) (bw.tw F) (aR.tw F) (bO.tw F) C509_ k) (ag.pl1043325 F aQ k):=by
 intro k
 induction k with
 | zero=>
  intro Hr Hs nv mf ed eE db dz dH fH fq CG CH CI CJ CK CL vw dq vx vy vz dr vA vB CM CN CO CP CQ CS CT mg mh kO mi CU CV CW CX CY CZ jO H UA UB UC UD UE UG h0 r hp
  exact nomatch (show (none:Option (Int×Int×List Int)) = some r from hp)
 | succ k ih=>
  intro Hr Hs nv mf ed eE db dz dH fH fq CG CH CI CJ CK CL vw dq vx vy vz dr vA vB CM CN CO CP CQ CS CT mg mh kO mi CU CV CW CX CY CZ jO H UA UB UC UD UE UG h0 r hp
  obtain ⟨w0,s0,HS,HT,HU,Dh,HV,HW⟩:=h0
  subst UA
  subst UB
  subst UC
  subst UD
  subst UE
  subst UG
  unfold ag.pl1043325 at hp
  unfold ag.l1043325
  refine bif_ex (fun hb=>?_) (fun hb=>?_)
  ·replace hp:=bif_t hb hp
   obtain ⟨n1,g1,hp⟩:=bind_some' hp
   obtain ⟨p1,q1,i1,h1,j1⟩:=W.ixo (E:=(ePair (eInt .i64) (eInt .i64))) w0 (i:=7) rfl rfl HW g1
   refine bind_ex i1 ?_
   obtain ⟨_,_,rfl,rfl,rfl⟩:=h1
   refine bind_ex (ldI_of (j1 0 _ rfl)) ?_
   refine bind_ex (ldI_of (j1 1 _ rfl)) ?_
   refine new_k w0 fun H2 w2 s2=>?_
   refine st_k w2 (i:=0) rfl rfl rfl fun H3 w3 s3=>?_
   dsimp only [List.set] at w3 s3
   refine st_k w3 (i:=0) rfl rfl rfl fun H4 w4 s4=>?_
   dsimp only [List.set] at w4 s4
   refine bind_ex (ldI_of (w4.ld (i:=0) rfl rfl)) ?_
   refine bif_ex (fun hb=>?_) (fun hb=>?_)
   ·replace hp:=bif_t hb hp
    refine bind_ex (ldI_of (w4.ld (i:=6) rfl rfl)) ?_
    refine bind_ex (ldI_of (w4.ld (i:=6) rfl rfl)) ?_
    refine bind_ex (ldSl_of (w4.ld (i:=6) rfl rfl)) ?_
    refine bind_ex (ldI_of (w4.ld (i:=0) rfl rfl)) ?_
    refine bind_ex (ldI_of (w4.ld (i:=0) rfl rfl)) ?_
    refine bO.inl ?_
    refine new_k w4 fun H5 w5 s5=>?_
    refine bind_ex (ldSl_of (w5.ld (i:=0) rfl rfl)) ?_
    refine bind_ex (ldI_of (w5.ld (i:=0) rfl rfl)) ?_
    obtain ⟨n6,g6,hp⟩:=bind_some' hp
    obtain ⟨p6,q6,i6,h6,j6⟩:=W.ixo (E:=(eInt .i64)) w5 (i:=6) rfl rfl (Dh.step (s2.trans (s3.trans (s4.trans s5)))) g6
    refine bind_ex i6 ?_
    refine ⟨_,_,rfl,?_⟩
    refine bind_ex rfl ?_
    have h6:_ = [_]:=h6
    subst h6
    refine bind_ex (ldI_of (j6 0 _ rfl)) ?_
    obtain ⟨l7,e7,hp⟩:=bind_some' hp
    refine sto_k (eInt .i64) w5 (i:=6) (j:=0) (p:=p6) rfl rfl (Dh.step (s2.trans (s3.trans (s4.trans s5)))) g6 i6 e7 rfl rfl (fun _ h=>by have h:_ = [_]:=h; subst h; exact rfl) fun H8 k8 w8 s8 c8=>?_
    dsimp only [List.set] at w8 s8 c8
    obtain ⟨w9,s9⟩:=w8.pick' [2,3,4,5,6,7,8,9] 10 rfl rfl rfl
    dsimp only [pk,pks,nth,List.drop] at w9 s9
    exact ag.j14_P (@ih) rfl rfl rfl ((st_len e7).symm) rfl rfl ⟨w9,(s0.trans (s2.trans (s3.trans (s4.trans (s5.trans (s8.trans s9)))))),(HS.step (s2.trans (s3.trans (s4.trans (s5.trans (s8.trans s9)))))),(HT.step (s2.trans (s3.trans (s4.trans (s5.trans (s8.trans s9)))))),(HU.step (s2.trans (s3.trans (s4.trans (s5.trans (s8.trans s9)))))),(c8.step s9),(HV.step (s2.trans (s3.trans (s4.trans (s5.trans (s8.trans s9)))))),(HW.step (s2.trans (s3.trans (s4.trans (s5.trans (s8.trans s9))))))⟩ hp
   ·replace hp:=bif_f hb hp
    obtain ⟨w10,s10⟩:=w4.pick' [1,2,3,4,5,6,7,8] 9 rfl rfl rfl
    dsimp only [pk,pks,nth,List.drop] at w10 s10
    exact ag.j14_P (@ih) rfl rfl rfl rfl rfl rfl ⟨w10,(s0.trans (s2.trans (s3.trans (s4.trans s10)))),(HS.step (s2.trans (s3.trans (s4.trans s10)))),(HT.step (s2.trans (s3.trans (s4.trans s10)))),(HU.step (s2.trans (s3.trans (s4.trans s10)))),(Dh.step (s2.trans (s3.trans (s4.trans s10)))),(HV.step (s2.trans (s3.trans (s4.trans s10)))),(HW.step (s2.trans (s3.trans (s4.trans s10))))⟩ hp
  ·replace hp:=bif_f hb hp
   obtain ⟨w11,s11⟩:=w0.pick' [0,1,2,3,4,5,6] 8 rfl rfl rfl
   dsimp only [pk,pks,nth,List.drop] at w11 s11
   exact ag.j13_P (@hC509) rfl rfl rfl rfl rfl ⟨w11,(s0.trans s11),(HS.step s11),(HT.step s11),(HU.step s11),(Dh.step s11),(HV.step s11)⟩ hp
def ag.pj15 (F:Nat) (aQ:List Int→List Int→Int→Int→List Int→List Int→Int→Int→Option (Int×Int×List Int)) (ln:List Int) (ej:List Int) (vP:Int) (vQ:Int) (ql:List Int) (pJ:Int) (mD:Int) (qn:List Int) (mE:Int) (mF:Int):Option (Int×Int×List Int):=(ix ln mD).bind fun n1=>(ix ej (gt ln n1)).bind fun n2=>(ix ln (IntKind.i64.wrap (mD + 2))).bind fun n3=>(ix ej (gt ln n3)).bind fun n4=>(bif ((gt ej n2) == (gt ej n4)) then (ag.pj9 F aQ ln ej vP vQ ql qn mE mF) else (ag.pl1043325 F aQ F ln ej vP vQ ql qn mE mF pJ (gt ej n2) (gt ej n4) ([((gt ej n2),(gt ej n2)),((gt ej n4),(gt ej n4))]:List (Int×Int)) (2:Int) 0))
theorem ag.j15_P {F:Nat} {H0:Hp} {Ri R0:List Rs}  {C509_:Nat→Nat→Sl→Sl→Nat→Nat→Sl→Int→Int→Hp→OA} {aQ:List Int→List Int→Int→Int→List Int→List Int→Int→Int→Option (Int×Int×List Int)} (hC509:ag.S509 H0 Ri R0  C509_ aQ) {aeg aeh vP vQ pJ mD mE mF:Int} {UH UI UJ UK UL:ON} {HX qz HY HZ H_ qA Ia:Nat} {UM UN UO UP UQ:Cap} {UR ln ej ql qn:List Int} {US UT UU UV UW:List AV} {H:Hp} (aei:HX = UR.length) (aej:HY = ln.length) (aek:HZ = ej.length) (ael:H_ = ql.length) (aem:Ia = qn.length) (h0:Out H0 Ri H (Rs.own ⟨UH,HX,UM⟩ (eInt .i64).z US :: Rs.blk qz [.int .i64 aeg,.int .i64 aeh,.sl ⟨UH,HX,UM⟩] :: Rs.own ⟨UI,HY,UN⟩ (eInt .i64).z UT :: Rs.own ⟨UJ,HZ,UO⟩ (eInt .i64).z UU :: Rs.own ⟨UK,H_,UP⟩ (eInt .i64).z UV :: Rs.blk qA [.int .i64 vP,.int .i64 vQ,.sl ⟨UK,H_,UP⟩] :: Rs.own ⟨UL,Ia,UQ⟩ (eInt .i64).z UW :: R0) fun R=>CR (eInt .i64) H R US UR∧CR (eInt .i64) H R UT ln∧CR (eInt .i64) H R UU ej∧CR (eInt .i64) H R UV ql∧CR (eInt .i64) H R UW qn) {r:Int×Int×List Int} (hp:ag.pj15 F aQ ln ej vP vQ ql pJ mD qn mE mF = some r):∃ v H',ag.j15 F (au.tw F) (aj.tw F) (bw.tw F) (aR.tw F) (bO.tw F) C509_ qz 0 ⟨UI,HY,UN⟩ ⟨UJ,HZ,UO⟩ qA 0 pJ mD ⟨UL,Ia,UQ⟩ mE mF H = some (v,H')∧ag.Q H0 Ri R0  r v H':=by
 obtain ⟨w0,s0,UX,Di,Dj,UY,UZ⟩:=h0
 subst aei
 subst aej
 subst aek
 subst ael
 subst aem
 unfold ag.pj15 at hp
 unfold ag.j15
 obtain ⟨n1,g1,hp⟩:=bind_some' hp
 obtain ⟨p1,q1,i1,h1,j1⟩:=W.ixo (E:=(eInt .i64)) w0 (i:=2) rfl rfl Di g1
 refine bind_ex i1 ?_
 have h1:_ = [_]:=h1
 subst h1
 refine bind_ex (ldI_of (j1 0 _ rfl)) ?_
 obtain ⟨n2,g2,hp⟩:=bind_some' hp
 obtain ⟨p2,q2,i2,h2,j2⟩:=W.ixo (E:=(eInt .i64)) w0 (i:=3) rfl rfl Dj g2
 refine bind_ex i2 ?_
 have h2:_ = [_]:=h2
 subst h2
 refine bind_ex (ldI_of (j2 0 _ rfl)) ?_
 obtain ⟨n3,g3,hp⟩:=bind_some' hp
 obtain ⟨p3,q3,i3,h3,j3⟩:=W.ixo (E:=(eInt .i64)) w0 (i:=2) rfl rfl Di g3
 refine bind_ex i3 ?_
 have h3:_ = [_]:=h3
 subst h3
 refine bind_ex (ldI_of (j3 0 _ rfl)) ?_
 obtain ⟨n4,g4,hp⟩:=bind_some' hp
 obtain ⟨p4,q4,i4,h4,j4⟩:=W.ixo (E:=(eInt .i64)) w0 (i:=3) rfl rfl Dj g4
 refine bind_ex i4 ?_
 have h4:_ = [_]:=h4
 subst h4
 refine bind_ex (ldI_of (j4 0 _ rfl)) ?_
 refine bif_ex (fun hb=>?_) (fun hb=>?_)
 ·replace hp:=bif_t hb hp
  exact ag.j9_P (@hC509) rfl rfl rfl rfl rfl ⟨w0,s0,UX,Di,Dj,UY,UZ⟩ hp
 ·replace hp:=bif_f hb hp
  refine newS_k (ePair (eInt .i64) (eInt .i64)) w0 (n:=2) (l:=([((gt ej n2),(gt ej n2)),((gt ej n4),(gt ej n4))]:List (Int×Int))) rfl (CR.cons (c:=[_,_]) ⟨[_],_,rfl,rfl,rfl⟩ (CR.cons (c:=[_,_]) ⟨[_],_,rfl,rfl,rfl⟩ CR.empty)) rfl fun H5 w5 s5 c5=>?_
  obtain ⟨w6,s6⟩:=w5.pick' [1,2,3,4,5,6,7,0] 8 rfl rfl rfl
  dsimp only [pk,pks,nth,List.drop] at w6 s6
  exact ag.l1043325_P (@hC509) F rfl rfl rfl rfl rfl (show 2 = List.length ([((gt ej n2),(gt ej n2)),((gt ej n4),(gt ej n4))]:List (Int×Int)) from rfl) ⟨w6,(s0.trans (s5.trans s6)),(UX.step (s5.trans s6)),(Di.step (s5.trans s6)),(Dj.step (s5.trans s6)),(UY.step (s5.trans s6)),(UZ.step (s5.trans s6)),(c5.step s6)⟩ hp
def ag.pl509 (F:Nat) :Nat→List Int→List Int→Int→Int→List Int→List Int→Int→Int→Option (Int×Int×List Int)
 | 0,_,_,_,_,_,_,_,_=>none
 | k + 1,ns,nu,nq,nr,md,jN,fJ,dI=>(bif (decide (dI < fJ)) then ((ix jN dI).bind fun n1=>(bif (decide ((gt jN n1) < 0)) then (ag.pj15 F (ag.pl509 F k) ns nu nq nr md (gt jN n1) (IntKind.i64.wrap ((IntKind.i64.wrap (4 * dI)) + 1)) jN fJ dI) else (ag.pj15 F (ag.pl509 F k) ns nu nq nr md (gt jN n1) (IntKind.i64.wrap (4 * dI)) jN fJ dI))) else (some (nq,nr,md)))
termination_by structural n=>n
theorem ag.l509_P {F:Nat} {H0:Hp} {Ri R0:List Rs}  :∀ k,ag.S509 H0 Ri R0  (ag.l509 F (au.tw F) (aj.tw F) (bw.tw F) (aR.tw F) (bO.tw F)  k) (ag.pl509 F  k):=by
 intro k
 induction k with
 | zero=>
  intro Hj Hk nq nr fJ dI Cn Co Cp Cq Cs vn dA vo vp vq fI vr Ct Cu Cv Cw Cx Cy ns nu md jN Cz CA CB CC CD H U_ Va Vb Vc Vd h0 r hp
  exact nomatch (show (none:Option (Int×Int×List Int)) = some r from hp)
 | succ k ih=>
  intro Hj Hk nq nr fJ dI Cn Co Cp Cq Cs vn dA vo vp vq fI vr Ct Cu Cv Cw Cx Cy ns nu md jN Cz CA CB CC CD H U_ Va Vb Vc Vd h0 r hp
  obtain ⟨w0,s0,Ve,Vf,Vg,Ib,Ic⟩:=h0
  subst U_
  subst Va
  subst Vb
  subst Vc
  subst Vd
  unfold ag.pl509 at hp
  unfold ag.l509
  refine bif_ex (fun hb=>?_) (fun hb=>?_)
  ·replace hp:=bif_t hb hp
   obtain ⟨n1,g1,hp⟩:=bind_some' hp
   obtain ⟨p1,q1,i1,h1,j1⟩:=W.ixo (E:=(eInt .i64)) w0 (i:=6) rfl rfl Ic g1
   refine bind_ex i1 ?_
   have h1:_ = [_]:=h1
   subst h1
   refine bind_ex (ldI_of (j1 0 _ rfl)) ?_
   refine bif_ex (fun hb=>?_) (fun hb=>?_)
   ·replace hp:=bif_t hb hp
    exact ag.j15_P (@ih) rfl rfl rfl rfl rfl ⟨w0,s0,Ve,Vf,Vg,Ib,Ic⟩ hp
   ·replace hp:=bif_f hb hp
    exact ag.j15_P (@ih) rfl rfl rfl rfl rfl ⟨w0,s0,Ve,Vf,Vg,Ib,Ic⟩ hp
  ·replace hp:=bif_f hb hp
   refine bind_ex (ldI_of (w0.ld (i:=5) rfl rfl)) ?_
   refine bind_ex (ldI_of (w0.ld (i:=5) rfl rfl)) ?_
   refine bind_ex (ldSl_of (w0.ld (i:=5) rfl rfl)) ?_
   refine st_k w0 (i:=1) rfl rfl rfl fun H2 w2 s2=>?_
   dsimp only [List.set] at w2 s2
   refine st_k w2 (i:=1) rfl rfl rfl fun H3 w3 s3=>?_
   dsimp only [List.set] at w3 s3
   refine st_k w3 (i:=1) rfl rfl rfl fun H4 w4 s4=>?_
   dsimp only [List.set] at w4 s4
   refine bind_ex (ldI_of (w4.ld (i:=1) rfl rfl)) ?_
   refine bind_ex (ldI_of (w4.ld (i:=1) rfl rfl)) ?_
   refine bind_ex (ldSl_of (w4.ld (i:=1) rfl rfl)) ?_
   obtain ⟨w5,s5⟩:=w4.pick' [4] 7 rfl rfl rfl
   dsimp only [pk,pks,nth,List.drop] at w5 s5
   obtain rfl:=Option.some.inj hp
   exact ⟨_,_,rfl,_,_,_,_,rfl,rfl,w5,(s0.trans (s2.trans (s3.trans (s4.trans s5)))),(Ib.step (s2.trans (s3.trans (s4.trans s5))))⟩
def ag.pj16 (F:Nat)  (pK:Int) (vR:List (Int×Int×Int×Int×Int)) (vS:List (Int×Int)) (vT:List (Int×Int)) (vU:List Int) (vV:List Int) (mG:Int):Option (Int×Int×List Int):=(bw.p F mG mG).bind fun r1=>(aR.p F vR vS vT pK).bind fun r7=>ag.pl509 F F vU vV r1.1 r1.2.1 r1.2.2 r7 (r7.length:Int) 0
theorem ag.j16_P {F:Nat} {H0:Hp} {Ri R0:List Rs}   {pK aen aeo aep mG:Int} {Vh Vi Vj Vk Vl Vm:ON} {Id qB Ie If qC Ig wT Ih Ii:Nat} {Vn Vo Vp Vq Vr Vs:Cap} {vR:List (Int×Int×Int×Int×Int)} {vS vT:List (Int×Int)} {Vt vU vV:List Int} {Vu Vv Vw:List AV} {H:Hp} (aeq:Id = vR.length) (aer:Ie = vS.length) (aes:If = vT.length) (aet:Ig = Vt.length) (aeu:Ih = vU.length) (aev:Ii = vV.length) (h0:Out H0 Ri H (Rs.blk qB [.sl ⟨Vh,Id,Vn⟩,.int .i64 aen] :: Rs.blk qC [.sl ⟨Vi,Ie,Vo⟩,.sl ⟨Vj,If,Vp⟩] :: Rs.own ⟨Vk,Ig,Vq⟩ (eInt .i64).z Vu :: Rs.blk wT [.int .i64 aeo,.int .i64 aep,.sl ⟨Vk,Ig,Vq⟩] :: Rs.own ⟨Vl,Ih,Vr⟩ (eInt .i64).z Vv :: Rs.own ⟨Vm,Ii,Vs⟩ (eInt .i64).z Vw :: R0) fun R=>ROs (ePair (eInt .i64) (ePair (eInt .i64) (ePair (eInt .i64) (ePair (eInt .i64) (eInt .i64))))) H R ⟨Vh,Id,Vn⟩ vR∧ROs (ePair (eInt .i64) (eInt .i64)) H R ⟨Vi,Ie,Vo⟩ vS∧ROs (ePair (eInt .i64) (eInt .i64)) H R ⟨Vj,If,Vp⟩ vT∧CR (eInt .i64) H R Vu Vt∧CR (eInt .i64) H R Vv vU∧CR (eInt .i64) H R Vw vV) {r:Int×Int×List Int} (hp:ag.pj16 F  pK vR vS vT vU vV mG = some r):∃ v H',ag.j16 F (au.tw F) (aj.tw F) (bw.tw F) (aR.tw F) (bO.tw F)  pK qB 0 qC 0 wT 0 ⟨Vl,Ih,Vr⟩ ⟨Vm,Ii,Vs⟩ mG H = some (v,H')∧ag.Q H0 Ri R0  r v H':=by
 obtain ⟨w0,s0,aew,aex,aey,aez,aeA,aeB⟩:=h0
 subst aeq
 subst aer
 subst aes
 subst aet
 subst aeu
 subst aev
 unfold ag.pj16 at hp
 unfold ag.j16
 obtain ⟨r1,e1,hp⟩:=bind_some' hp
 refine call_ex (bw.P ⟨w0,trivial⟩ e1) ?_
 rintro _ H2 ⟨o2a_2,o2n_2,o2k_2,rfl,rfl,w2,s2,f2_0⟩
 refine bind_ex rfl ?_
 refine bind_ex rfl ?_
 refine bind_ex rfl ?_
 refine bind_ex rfl ?_
 refine bind_ex rfl ?_
 refine bind_ex rfl ?_
 refine bind_ex rfl ?_
 refine new_k w2 fun H3 w3 s3=>?_
 refine st_k w3 (i:=0) rfl rfl rfl fun H4 w4 s4=>?_
 dsimp only [List.set] at w4 s4
 refine st_k w4 (i:=0) rfl rfl rfl fun H5 w5 s5=>?_
 dsimp only [List.set] at w5 s5
 refine st_k w5 (i:=0) rfl rfl rfl fun H6 w6 s6=>?_
 dsimp only [List.set] at w6 s6
 refine bind_ex (ldSl_of (w6.ld (i:=2) rfl rfl)) ?_
 refine bind_ex (ldI_of (w6.ld (i:=2) rfl rfl)) ?_
 refine bind_ex (ldSl_of (w6.ld (i:=3) rfl rfl)) ?_
 refine bind_ex (ldSl_of (w6.ld (i:=3) rfl rfl)) ?_
 obtain ⟨r7,e7,hp⟩:=bind_some' hp
 refine call_ex (aR.P rfl rfl rfl ⟨w6,(aew.step (s2.trans (s3.trans (s4.trans (s5.trans s6))))),(aex.step (s2.trans (s3.trans (s4.trans (s5.trans s6))))),(aey.step (s2.trans (s3.trans (s4.trans (s5.trans s6)))))⟩ e7) ?_
 rintro _ H8 ⟨o0a_8,o0n_8,o0c_8,o0k_8,rfl,rfl,w8,s8,f8_0⟩
 refine bind_ex rfl ?_
 obtain ⟨w9,s9⟩:=w8.pick' [5,6,7,8,2,1,0] 9 rfl rfl rfl
 dsimp only [pk,pks,nth,List.drop] at w9 s9
 exact ag.l509_P F rfl rfl rfl rfl rfl ⟨w9,(s0.trans (s2.trans (s3.trans (s4.trans (s5.trans (s6.trans (s8.trans s9))))))),(aez.step (s2.trans (s3.trans (s4.trans (s5.trans (s6.trans (s8.trans s9))))))),(aeA.step (s2.trans (s3.trans (s4.trans (s5.trans (s6.trans (s8.trans s9))))))),(aeB.step (s2.trans (s3.trans (s4.trans (s5.trans (s6.trans (s8.trans s9))))))),(f2_0.step (s3.trans (s4.trans (s5.trans (s6.trans (s8.trans s9)))))),(f8_0.step s9)⟩ hp
def ag.pl125 (F:Nat) :Nat→Int→List (Int×Int×Int×Int×Int)→List (Int×Int)→List (Int×Int)→List Int→List Int→Int→List Int→Int→Int→Option (Int×Int×List Int)
 | 0,_,_,_,_,_,_,_,_,_,_=>none
 | k + 1,cV,l_,ma,mb,mc,ll,dR,lm,fK,ef=>(bif (decide (ef < fK)) then ((ix lm ef).bind fun n1=>(bif ((gt lm n1) != cV) then ((ix ll ef).bind fun n2=>(some (ll.set n2 dR)).bind fun l3=>ag.pj17 F (ag.pl125 F k) cV l_ ma mb mc l3 (IntKind.i64.wrap (dR + 1)) lm fK ef) else (ag.pj17 F (ag.pl125 F k) cV l_ ma mb mc ll dR lm fK ef))) else (ag.pj16 F cV l_ ma mb mc ll dR))
termination_by structural n=>n
theorem ag.l125_P {F:Nat} {H0:Hp} {Ri R0:List Rs}  :∀ k,ag.S125 H0 Ri R0  (ag.l125 F (au.tw F) (aj.tw F) (bw.tw F) (aR.tw F) (bO.tw F)  k) (ag.pl125 F  k):=by
 intro k
 induction k with
 | zero=>
  intro cV G_ Ha Hb dR fK ef BV BW BX BY BZ B_ Ca va ee vb vc eF vd fu ve vf vg Cb Cc Cd Ce Cf Cg Ch l_ ma mb Ci mc ll lm Cj Ck Cl Cm H Vx Vy Vz VA VB VD VE h0 r hp
  exact nomatch (show (none:Option (Int×Int×List Int)) = some r from hp)
 | succ k ih=>
  intro cV G_ Ha Hb dR fK ef BV BW BX BY BZ B_ Ca va ee vb vc eF vd fu ve vf vg Cb Cc Cd Ce Cf Cg Ch l_ ma mb Ci mc ll lm Cj Ck Cl Cm H Vx Vy Vz VA VB VD VE h0 r hp
  obtain ⟨w0,s0,Ij,Ik,Il,Im,In,Dk,Io⟩:=h0
  subst Vx
  subst Vy
  subst Vz
  subst VA
  subst VB
  subst VD
  subst VE
  unfold ag.pl125 at hp
  unfold ag.l125
  refine bif_ex (fun hb=>?_) (fun hb=>?_)
  ·replace hp:=bif_t hb hp
   obtain ⟨n1,g1,hp⟩:=bind_some' hp
   obtain ⟨p1,q1,i1,h1,j1⟩:=W.ixo (E:=(eInt .i64)) w0 (i:=6) rfl rfl Io g1
   refine bind_ex i1 ?_
   have h1:_ = [_]:=h1
   subst h1
   refine bind_ex (ldI_of (j1 0 _ rfl)) ?_
   refine bif_ex (fun hb=>?_) (fun hb=>?_)
   ·replace hp:=bif_t hb hp
    obtain ⟨n2,g2,hp⟩:=bind_some' hp
    obtain ⟨p2,q2,i2,h2,j2⟩:=W.ixo (E:=(eInt .i64)) w0 (i:=5) rfl rfl Dk g2
    refine bind_ex i2 ?_
    obtain ⟨l3,e3,hp⟩:=bind_some' hp
    refine sto_k (eInt .i64) w0 (i:=5) (j:=0) (p:=p2) rfl rfl Dk g2 i2 e3 rfl rfl (fun _ h=>by have h:_ = [_]:=h; subst h; exact rfl) fun H4 k4 w4 s4 c4=>?_
    dsimp only [List.set] at w4 s4 c4
    exact ag.j17_P (@ih) rfl rfl rfl rfl rfl ((st_len e3).symm) rfl ⟨w4,(s0.trans s4),(Ij.step s4),(Ik.step s4),(Il.step s4),(Im.step s4),(In.step s4),c4,(Io.step s4)⟩ hp
   ·replace hp:=bif_f hb hp
    exact ag.j17_P (@ih) rfl rfl rfl rfl rfl rfl rfl ⟨w0,s0,Ij,Ik,Il,Im,In,Dk,Io⟩ hp
  ·replace hp:=bif_f hb hp
   obtain ⟨w5,s5⟩:=w0.pick' [0,1,2,3,4,5] 7 rfl rfl rfl
   dsimp only [pk,pks,nth,List.drop] at w5 s5
   exact ag.j16_P rfl rfl rfl rfl rfl rfl ⟨w5,(s0.trans s5),(Ij.step s5),(Ik.step s5),(Il.step s5),(Im.step s5),(In.step s5),(Dk.step s5)⟩ hp
def ag.p (F:Nat) (ae:List (Int×Int×Int×Int×Int)) (cl:List (Int×Int)) (cr:List (Int×Int)) (bH:Int):Option (Int×Int×List Int):=(au.p F ae cl cr).bind fun r4=>(aj.p F ae cl cr).bind fun r7=>(mkn (r7.length:Int) (0:Int)).bind fun l9=>ag.pl125 F F bH ae cl cr r4 l9 (-1) r7 (r7.length:Int) 0
theorem ag.P {F:Nat} {az dL eH:ON} {ap cN cX:Nat} {aA dM eI:Cap} {ae:List (Int×Int×Int×Int×Int)} {ab bH:Int} {cl cr:List (Int×Int)} {H:Hp} {R0:List Rs} (aW:ap = ae.length) (hO:cN = cl.length) (iz:cX = cr.length) (h0:Inn H R0 fun R=>ROs (ePair (eInt .i64) (ePair (eInt .i64) (ePair (eInt .i64) (ePair (eInt .i64) (eInt .i64))))) H R ⟨az,ap,aA⟩ ae∧ROs (ePair (eInt .i64) (eInt .i64)) H R ⟨dL,cN,dM⟩ cl∧ROs (ePair (eInt .i64) (eInt .i64)) H R ⟨eH,cX,eI⟩ cr) {r:Int×Int×List Int} (hp:ag.p F ae cl cr bH = some r):∃ v H',ag.tw F ⟨az,ap,aA⟩ ab ⟨dL,cN,dM⟩ ⟨eH,cX,eI⟩ bH H = some (v,H')∧ag.Q H R0 R0  r v H':=by
 obtain ⟨w0,aK,fw,fY⟩:=h0
 subst aW
 subst hO
 subst iz
 unfold ag.p at hp
 unfold ag.tw ag.twX
 have s0:=w0.rf
 refine new_k w0 fun H1 w1 s1=>?_
 refine new_k w1 fun H2 w2 s2=>?_
 refine new_k w2 fun H3 w3 s3=>?_
 refine bind_ex (ldSl_of (w3.ld (i:=2) rfl rfl)) ?_
 refine bind_ex (ldI_of (w3.ld (i:=2) rfl rfl)) ?_
 refine bind_ex (ldSl_of (w3.ld (i:=1) rfl rfl)) ?_
 refine bind_ex (ldSl_of (w3.ld (i:=1) rfl rfl)) ?_
 obtain ⟨r4,e4,hp⟩:=bind_some' hp
 refine call_ex (au.P rfl rfl rfl ⟨w3,(aK.step (s1.trans (s2.trans s3))),(fw.step (s1.trans (s2.trans s3))),(fY.step (s1.trans (s2.trans s3)))⟩ e4) ?_
 rintro _ H5 ⟨o0a_5,o0n_5,o0c_5,o0k_5,rfl,rfl,w5,s5,f5_0⟩
 refine bind_ex rfl ?_
 refine ifs_ex (W.cons_of (Rn:=[_]) w3 w5 s5) ?_
 refine bind_ex (ldSl_of (w5.ld (i:=3) rfl rfl)) ?_
 refine bind_ex (ldI_of (w5.ld (i:=3) rfl rfl)) ?_
 refine bind_ex (ldSl_of (w5.ld (i:=2) rfl rfl)) ?_
 refine bind_ex (ldSl_of (w5.ld (i:=2) rfl rfl)) ?_
 obtain ⟨r7,e7,hp⟩:=bind_some' hp
 refine call_ex (aj.P rfl rfl rfl ⟨w5,(aK.step (s1.trans (s2.trans (s3.trans s5)))),(fw.step (s1.trans (s2.trans (s3.trans s5)))),(fY.step (s1.trans (s2.trans (s3.trans s5))))⟩ e7) ?_
 rintro _ H8 ⟨o0a_8,o0n_8,o0c_8,o0k_8,rfl,rfl,w8,s8,f8_0⟩
 refine bind_ex rfl ?_
 obtain ⟨l9,e9,hp⟩:=bind_some' hp
 refine mk_k (eInt .i64) (0:Int) w8 rfl rfl rfl e9 fun H10 k10 w10 s10 c10=>?_
 obtain ⟨w11,s11⟩:=w10.nilS (eInt .i64).z (by decide)
 obtain ⟨w12,s12⟩:=w11.pick' [6,5,0,4,3,1,2] 7 rfl rfl rfl
 dsimp only [pk,pks,nth,List.drop] at w12 s12
 exact ag.l125_P F rfl rfl rfl rfl rfl rfl rfl ⟨w12,(s0.trans (s1.trans (s2.trans (s3.trans (s5.trans (s8.trans (s10.trans (s11.trans s12)))))))),(aK.step (s1.trans (s2.trans (s3.trans (s5.trans (s8.trans (s10.trans (s11.trans s12)))))))),(fw.step (s1.trans (s2.trans (s3.trans (s5.trans (s8.trans (s10.trans (s11.trans s12)))))))),(fY.step (s1.trans (s2.trans (s3.trans (s5.trans (s8.trans (s10.trans (s11.trans s12)))))))),((CR.empty:CR (eInt .i64) _ _ [] []).step s12),(f5_0.step (s8.trans (s10.trans (s11.trans s12)))),(c10.step (s11.trans s12)),(f8_0.step (s10.trans (s11.trans s12)))⟩ hp
def bP.Q (H0:Hp) (Ri R0:List Rs)  (r:Int×Int×List Int×Int) (v:AV) (H':Hp):Prop:=∃ o2a:ON,∃ o2n:Nat,∃ o2c:Cap,∃ o2k:List AV,v = (.tup [(.agg [(.int .i64 r.1),(.int .i64 r.2.1),(.sl ⟨o2a,o2n,o2c⟩)]),(.int .i64 r.2.2.2)])∧o2n = (r.2.2.1).length∧Out H0 Ri H' (Rs.own ⟨o2a,o2n,o2c⟩ (eInt .i64).z o2k :: R0) fun R=>CR (eInt .i64) H' R o2k (r.2.2.1)
def bP.p (F:Nat) (ae:List (Int×Int×Int×Int×Int)) (ab:Int) (ah:Int):Option (Int×Int×List Int×Int):=(bI.p F ae ab).bind fun r3=>(bif (!r3.2.2) then (some (0,0,([]:List Int),1)) else ((b_.p F ah).bind fun r13=>(bif (!r13) then (some (0,0,([]:List Int),2)) else ((cc.p F ae ab r3.1 r3.2.1).bind fun r20=>(bif (!r20) then (some (0,0,([]:List Int),5)) else ((ag.p F ae r3.1 r3.2.1 ah).bind fun r27=>some (r27.1,r27.2.1,r27.2.2,0)))))))
theorem bP.P {F:Nat} {az:ON} {ap:Nat} {aA:Cap} {ae:List (Int×Int×Int×Int×Int)} {ab ah:Int} {H:Hp} {R0:List Rs} (aW:ap = ae.length) (h0:Inn H R0 fun R=>ROs (ePair (eInt .i64) (ePair (eInt .i64) (ePair (eInt .i64) (ePair (eInt .i64) (eInt .i64))))) H R ⟨az,ap,aA⟩ ae) {r:Int×Int×List Int×Int} (hp:bP.p F ae ab ah = some r):∃ v H',bP.tw F ⟨az,ap,aA⟩ ab ah H = some (v,H')∧bP.Q H R0 R0  r v H':=by
 obtain ⟨w0,aK⟩:=h0
 subst aW
 unfold bP.p at hp
 unfold bP.tw bP.twX
 have s0:=w0.rf
 refine new_k w0 fun H1 w1 s1=>?_
 refine new_k w1 fun H2 w2 s2=>?_
 refine bind_ex (ldSl_of (w2.ld (i:=1) rfl rfl)) ?_
 refine bind_ex (ldI_of (w2.ld (i:=1) rfl rfl)) ?_
 obtain ⟨r3,e3,hp⟩:=bind_some' hp
 refine call_ex (bI.P rfl ⟨w2,(aK.step (s1.trans s2))⟩ e3) ?_
 rintro _ H4 ⟨o0a_4,o0n_4,o0c_4,o1a_4,o1n_4,o1c_4,rfl,rfl,rfl,w4,s4,f4_0,f4_1⟩
 refine bind_ex rfl ?_
 refine bind_ex rfl ?_
 refine bind_ex rfl ?_
 refine bind_ex rfl ?_
 refine bind_ex rfl ?_
 refine bind_ex rfl ?_
 refine bind_ex rfl ?_
 refine bind_ex rfl ?_
 refine bind_ex rfl ?_
 refine new_k w4 fun H5 w5 s5=>?_
 refine st_k w5 (i:=0) rfl rfl rfl fun H6 w6 s6=>?_
 dsimp only [List.set] at w6 s6
 refine st_k w6 (i:=0) rfl rfl rfl fun H7 w7 s7=>?_
 dsimp only [List.set] at w7 s7
 refine bif_ex (fun hb=>?_) (fun hb=>?_)
 ·replace hp:=bif_t hb hp
  refine st_k w7 (i:=1) rfl rfl rfl fun H8 w8 s8=>?_
  dsimp only [List.set] at w8 s8
  refine st_k w8 (i:=1) rfl rfl rfl fun H9 w9 s9=>?_
  dsimp only [List.set] at w9 s9
  refine st_k w9 (i:=1) rfl rfl rfl fun H10 w10 s10=>?_
  dsimp only [List.set] at w10 s10
  refine bind_ex (ldI_of (w10.ld (i:=1) rfl rfl)) ?_
  refine bind_ex (ldI_of (w10.ld (i:=1) rfl rfl)) ?_
  refine bind_ex (ldSl_of (w10.ld (i:=1) rfl rfl)) ?_
  obtain ⟨w11,s11⟩:=w10.nilS (eInt .i64).z (by decide)
  obtain ⟨w12,s12⟩:=w11.pick' [0] 4 rfl rfl rfl
  dsimp only [pk,pks,nth,List.drop] at w12 s12
  obtain rfl:=Option.some.inj hp
  exact ⟨_,_,rfl,_,_,_,_,rfl,rfl,w12,(s0.trans (s1.trans (s2.trans (s4.trans (s5.trans (s6.trans (s7.trans (s8.trans (s9.trans (s10.trans (s11.trans s12))))))))))),((CR.empty:CR (eInt .i64) _ _ [] []).step s12)⟩
 ·replace hp:=bif_f hb hp
  obtain ⟨r13,e13,hp⟩:=bind_some' hp
  refine call_ex (b_.P ⟨w7,trivial⟩ e13) ?_
  rintro _ H14 ⟨rfl,w14,s14,_⟩
  refine bind_ex rfl ?_
  refine bif_ex (fun hb=>?_) (fun hb=>?_)
  ·replace hp:=bif_t hb hp
   refine st_k w14 (i:=1) rfl rfl rfl fun H15 w15 s15=>?_
   dsimp only [List.set] at w15 s15
   refine st_k w15 (i:=1) rfl rfl rfl fun H16 w16 s16=>?_
   dsimp only [List.set] at w16 s16
   refine st_k w16 (i:=1) rfl rfl rfl fun H17 w17 s17=>?_
   dsimp only [List.set] at w17 s17
   refine bind_ex (ldI_of (w17.ld (i:=1) rfl rfl)) ?_
   refine bind_ex (ldI_of (w17.ld (i:=1) rfl rfl)) ?_
   refine bind_ex (ldSl_of (w17.ld (i:=1) rfl rfl)) ?_
   obtain ⟨w18,s18⟩:=w17.nilS (eInt .i64).z (by decide)
   obtain ⟨w19,s19⟩:=w18.pick' [0] 4 rfl rfl rfl
   dsimp only [pk,pks,nth,List.drop] at w19 s19
   obtain rfl:=Option.some.inj hp
   exact ⟨_,_,rfl,_,_,_,_,rfl,rfl,w19,(s0.trans (s1.trans (s2.trans (s4.trans (s5.trans (s6.trans (s7.trans (s14.trans (s15.trans (s16.trans (s17.trans (s18.trans s19)))))))))))),((CR.empty:CR (eInt .i64) _ _ [] []).step s19)⟩
  ·replace hp:=bif_f hb hp
   refine bind_ex (ldSl_of (w14.ld (i:=2) rfl rfl)) ?_
   refine bind_ex (ldI_of (w14.ld (i:=2) rfl rfl)) ?_
   refine bind_ex (ldSl_of (w14.ld (i:=0) rfl rfl)) ?_
   refine bind_ex (ldSl_of (w14.ld (i:=0) rfl rfl)) ?_
   obtain ⟨r20,e20,hp⟩:=bind_some' hp
   refine call_ex (cc.P rfl rfl rfl ⟨w14,(aK.step (s1.trans (s2.trans (s4.trans (s5.trans (s6.trans (s7.trans s14))))))),(f4_0.step (s5.trans (s6.trans (s7.trans s14)))),(f4_1.step (s5.trans (s6.trans (s7.trans s14))))⟩ e20) ?_
   rintro _ H21 ⟨rfl,w21,s21,_⟩
   refine bind_ex rfl ?_
   refine bif_ex (fun hb=>?_) (fun hb=>?_)
   ·replace hp:=bif_t hb hp
    refine st_k w21 (i:=1) rfl rfl rfl fun H22 w22 s22=>?_
    dsimp only [List.set] at w22 s22
    refine st_k w22 (i:=1) rfl rfl rfl fun H23 w23 s23=>?_
    dsimp only [List.set] at w23 s23
    refine st_k w23 (i:=1) rfl rfl rfl fun H24 w24 s24=>?_
    dsimp only [List.set] at w24 s24
    refine bind_ex (ldI_of (w24.ld (i:=1) rfl rfl)) ?_
    refine bind_ex (ldI_of (w24.ld (i:=1) rfl rfl)) ?_
    refine bind_ex (ldSl_of (w24.ld (i:=1) rfl rfl)) ?_
    obtain ⟨w25,s25⟩:=w24.nilS (eInt .i64).z (by decide)
    obtain ⟨w26,s26⟩:=w25.pick' [0] 4 rfl rfl rfl
    dsimp only [pk,pks,nth,List.drop] at w26 s26
    obtain rfl:=Option.some.inj hp
    exact ⟨_,_,rfl,_,_,_,_,rfl,rfl,w26,(s0.trans (s1.trans (s2.trans (s4.trans (s5.trans (s6.trans (s7.trans (s14.trans (s21.trans (s22.trans (s23.trans (s24.trans (s25.trans s26))))))))))))),((CR.empty:CR (eInt .i64) _ _ [] []).step s26)⟩
   ·replace hp:=bif_f hb hp
    refine bind_ex (ldSl_of (w21.ld (i:=2) rfl rfl)) ?_
    refine bind_ex (ldI_of (w21.ld (i:=2) rfl rfl)) ?_
    refine bind_ex (ldSl_of (w21.ld (i:=0) rfl rfl)) ?_
    refine bind_ex (ldSl_of (w21.ld (i:=0) rfl rfl)) ?_
    obtain ⟨r27,e27,hp⟩:=bind_some' hp
    refine call_ex (ag.P rfl rfl rfl ⟨w21,(aK.step (s1.trans (s2.trans (s4.trans (s5.trans (s6.trans (s7.trans (s14.trans s21)))))))),(f4_0.step (s5.trans (s6.trans (s7.trans (s14.trans s21))))),(f4_1.step (s5.trans (s6.trans (s7.trans (s14.trans s21)))))⟩ e27) ?_
    rintro _ H28 ⟨o2a_28,o2n_28,o2c_28,o2k_28,rfl,rfl,w28,s28,f28_0⟩
    refine bind_ex rfl ?_
    refine bind_ex rfl ?_
    refine bind_ex rfl ?_
    refine bind_ex rfl ?_
    refine bind_ex rfl ?_
    refine bind_ex rfl ?_
    refine bind_ex rfl ?_
    refine st_k w28 (i:=2) rfl rfl rfl fun H29 w29 s29=>?_
    dsimp only [List.set] at w29 s29
    refine st_k w29 (i:=2) rfl rfl rfl fun H30 w30 s30=>?_
    dsimp only [List.set] at w30 s30
    refine st_k w30 (i:=2) rfl rfl rfl fun H31 w31 s31=>?_
    dsimp only [List.set] at w31 s31
    refine bind_ex (ldI_of (w31.ld (i:=2) rfl rfl)) ?_
    refine bind_ex (ldI_of (w31.ld (i:=2) rfl rfl)) ?_
    refine bind_ex (ldSl_of (w31.ld (i:=2) rfl rfl)) ?_
    obtain ⟨w32,s32⟩:=w31.pick' [0] 4 rfl rfl rfl
    dsimp only [pk,pks,nth,List.drop] at w32 s32
    obtain rfl:=Option.some.inj hp
    exact ⟨_,_,rfl,_,_,_,_,rfl,rfl,w32,(s0.trans (s1.trans (s2.trans (s4.trans (s5.trans (s6.trans (s7.trans (s14.trans (s21.trans (s28.trans (s29.trans (s30.trans (s31.trans s32))))))))))))),(f28_0.step (s29.trans (s30.trans (s31.trans s32))))⟩
def bf.Q (H0:Hp) (Ri R0:List Rs)  (r:Bool) (v:AV) (H':Hp):Prop:=v = (.bool r)∧Out H0 Ri H' (R0) fun R=>True
def bf.S29 (H0:Hp) (Ri R0:List Rs)  (C:Sl→Sl→Int→Hp→OA) (pC:List Int→List Int→Int→Option (Bool)):Prop:=∀ {gu ml:ON} {eG kP:Nat} {gv mm:Cap} {br eM:List Int} {cA:Int},∀ {H:Hp},eG = br.length→kP = eM.length→(Out H0 Ri H R0 fun R=>ROs (eInt .i64) H R ⟨gu,eG,gv⟩ br∧ROs (eInt .i64) H R ⟨ml,kP,mm⟩ eM)→∀ {r:Bool},pC br eM cA = some r→∃ v H',C ⟨gu,eG,gv⟩ ⟨ml,kP,mm⟩ cA H = some (v,H')∧bf.Q H0 Ri R0  r v H'
def bf.pl29 (F:Nat) :Nat→List Int→List Int→Int→Option (Bool)
 | 0,_,_,_=>none
 | k + 1,br,eM,cA=>(bif (decide (cA < (br.length:Int))) then ((ix br cA).bind fun n1=>(ix eM cA).bind fun n2=>(bif ((gt br n1) != (gt eM n2)) then (some false) else (bf.pl29 F k br eM (IntKind.i64.wrap (cA + 1))))) else (some true))
termination_by structural n=>n
theorem bf.l29_P {F:Nat} {H0:Hp} {Ri R0:List Rs}  :∀ k,bf.S29 H0 Ri R0  (bf.l29 F   k) (bf.pl29 F  k):=by
 intro k
 induction k with
 | zero=>
  intro gu ml eG kP gv mm br eM cA H hM vW h0 r hp
  exact nomatch (show (none:Option (Bool)) = some r from hp)
 | succ k ih=>
  intro gu ml eG kP gv mm br eM cA H hM vW h0 r hp
  obtain ⟨w0,s0,gw,vX⟩:=h0
  subst hM
  subst vW
  unfold bf.pl29 at hp
  unfold bf.l29
  refine bif_ex (fun hb=>?_) (fun hb=>?_)
  ·replace hp:=bif_t hb hp
   obtain ⟨n1,g1,hp⟩:=bind_some' hp
   obtain ⟨p1,q1,i1,h1,j1⟩:=ROs.ixr gw rfl g1
   refine bind_ex i1 ?_
   have h1:_ = [_]:=h1
   subst h1
   refine bind_ex (ldI_of (j1 0 _ rfl)) ?_
   obtain ⟨n2,g2,hp⟩:=bind_some' hp
   obtain ⟨p2,q2,i2,h2,j2⟩:=ROs.ixr vX rfl g2
   refine bind_ex i2 ?_
   have h2:_ = [_]:=h2
   subst h2
   refine bind_ex (ldI_of (j2 0 _ rfl)) ?_
   refine bif_ex (fun hb=>?_) (fun hb=>?_)
   ·replace hp:=bif_t hb hp
    obtain rfl:=Option.some.inj hp
    exact ⟨_,_,rfl,rfl,w0,s0,trivial⟩
   ·replace hp:=bif_f hb hp
    exact ih rfl rfl ⟨w0,s0,gw,vX⟩ hp
  ·replace hp:=bif_f hb hp
   obtain rfl:=Option.some.inj hp
   exact ⟨_,_,rfl,rfl,w0,s0,trivial⟩
def bf.p (F:Nat) (ae:List Int) (fW:List Int):Option (Bool):=(bif ((ae.length:Int) != (fW.length:Int)) then (some false) else (bf.pl29 F F ae fW 0))
theorem bf.P {F:Nat} {az mW:ON} {ap kE:Nat} {aA mX:Cap} {ae fW:List Int} {H:Hp} {R0:List Rs} (aW:ap = ae.length) (sw:kE = fW.length) (h0:Inn H R0 fun R=>ROs (eInt .i64) H R ⟨az,ap,aA⟩ ae∧ROs (eInt .i64) H R ⟨mW,kE,mX⟩ fW) {r:Bool} (hp:bf.p F ae fW = some r):∃ v H',bf.tw F ⟨az,ap,aA⟩ ⟨mW,kE,mX⟩ H = some (v,H')∧bf.Q H R0 R0  r v H':=by
 obtain ⟨w0,aK,sx⟩:=h0
 subst aW
 subst sw
 unfold bf.p at hp
 unfold bf.tw bf.twX
 have s0:=w0.rf
 refine bif_ex (fun hb=>?_) (fun hb=>?_)
 ·replace hp:=bif_t hb hp
  obtain rfl:=Option.some.inj hp
  exact ⟨_,_,rfl,rfl,w0,s0,trivial⟩
 ·replace hp:=bif_f hb hp
  exact bf.l29_P F rfl rfl ⟨w0,s0,aK,sx⟩ hp
def bM.Q (H0:Hp) (Ri R0:List Rs)  (r:Bool) (v:AV) (H':Hp):Prop:=v = (.bool r)∧Out H0 Ri H' (R0) fun R=>True
def bM.p (F:Nat) (aa:Int) (ab:Int) (hP:List Int) (av:Int) (hH:Int) (vY:List Int):Option (Bool):=(bif (aa != av) then (some false) else ((bif (ab != hH) then (some false) else ((bf.p F hP vY).bind fun r5=>(bif (!r5) then (some false) else (some true))))))
theorem bM.P {F:Nat} {aa ab av hH:Int} {jP VF:ON} {il Ip:Nat} {jQ VG:Cap} {hP vY:List Int} {H:Hp} {R0:List Rs} (vZ:il = hP.length) (aeC:Ip = vY.length) (h0:Inn H R0 fun R=>ROs (eInt .i64) H R ⟨jP,il,jQ⟩ hP∧ROs (eInt .i64) H R ⟨VF,Ip,VG⟩ vY) {r:Bool} (hp:bM.p F aa ab hP av hH vY = some r):∃ v H',bM.tw F aa ab ⟨jP,il,jQ⟩ av hH ⟨VF,Ip,VG⟩ H = some (v,H')∧bM.Q H R0 R0  r v H':=by
 obtain ⟨w0,v_,aeD⟩:=h0
 subst vZ
 subst aeC
 unfold bM.p at hp
 unfold bM.tw bM.twX
 have s0:=w0.rf
 refine new_k w0 fun H1 w1 s1=>?_
 refine new_k w1 fun H2 w2 s2=>?_
 refine bind_ex (ldI_of (w2.ld (i:=1) rfl rfl)) ?_
 refine bind_ex (ldI_of (w2.ld (i:=0) rfl rfl)) ?_
 refine bif_ex (fun hb=>?_) (fun hb=>?_)
 ·replace hp:=bif_t hb hp
  obtain ⟨w3,s3⟩:=w2.pick' [] 2 rfl rfl rfl
  dsimp only [pk,pks,nth,List.drop] at w3 s3
  obtain rfl:=Option.some.inj hp
  exact ⟨_,_,rfl,rfl,w3,(s0.trans (s1.trans (s2.trans s3))),trivial⟩
 ·replace hp:=bif_f hb hp
  refine bind_ex (ldI_of (w2.ld (i:=1) rfl rfl)) ?_
  refine bind_ex (ldI_of (w2.ld (i:=0) rfl rfl)) ?_
  refine bif_ex (fun hb=>?_) (fun hb=>?_)
  ·replace hp:=bif_t hb hp
   obtain ⟨w4,s4⟩:=w2.pick' [] 2 rfl rfl rfl
   dsimp only [pk,pks,nth,List.drop] at w4 s4
   obtain rfl:=Option.some.inj hp
   exact ⟨_,_,rfl,rfl,w4,(s0.trans (s1.trans (s2.trans s4))),trivial⟩
  ·replace hp:=bif_f hb hp
   refine bind_ex (ldSl_of (w2.ld (i:=1) rfl rfl)) ?_
   refine bind_ex (ldSl_of (w2.ld (i:=0) rfl rfl)) ?_
   obtain ⟨r5,e5,hp⟩:=bind_some' hp
   refine call_ex (bf.P rfl rfl ⟨w2,(v_.step (s1.trans s2)),(aeD.step (s1.trans s2))⟩ e5) ?_
   rintro _ H6 ⟨rfl,w6,s6,_⟩
   refine bind_ex rfl ?_
   refine bif_ex (fun hb=>?_) (fun hb=>?_)
   ·replace hp:=bif_t hb hp
    obtain ⟨w7,s7⟩:=w6.pick' [] 2 rfl rfl rfl
    dsimp only [pk,pks,nth,List.drop] at w7 s7
    obtain rfl:=Option.some.inj hp
    exact ⟨_,_,rfl,rfl,w7,(s0.trans (s1.trans (s2.trans (s6.trans s7)))),trivial⟩
   ·replace hp:=bif_f hb hp
    obtain ⟨w8,s8⟩:=w6.pick' [] 2 rfl rfl rfl
    dsimp only [pk,pks,nth,List.drop] at w8 s8
    obtain rfl:=Option.some.inj hp
    exact ⟨_,_,rfl,rfl,w8,(s0.trans (s1.trans (s2.trans (s6.trans s8)))),trivial⟩
def cf.Q (H0:Hp) (Ri R0:List Rs)  (r:Bool) (v:AV) (H':Hp):Prop:=v = (.bool r)∧Out H0 Ri H' (R0) fun R=>True
def cf.p (F:Nat) (aa:Int) (ab:Int) (ay:Int) (aJ:Int) (aG:Int) (aX:Int) (hI:Int) (hJ:Int) (hK:Int) (hL:Int):Option (Bool):=(bif (aa != aX) then (some false) else ((bif (ab != hI) then (some false) else ((bif (ay != hJ) then (some false) else ((bif (aJ != hK) then (some false) else ((bif (aG != hL) then (some false) else (some true))))))))))
theorem cf.P {F:Nat} {aa ab ay aJ aG aX hI hJ hK hL:Int} {H:Hp} {R0:List Rs}  (h0:Inn H R0 fun R=>True) {r:Bool} (hp:cf.p F aa ab ay aJ aG aX hI hJ hK hL = some r):∃ v H',cf.tw F aa ab ay aJ aG aX hI hJ hK hL H = some (v,H')∧cf.Q H R0 R0  r v H':=by
 obtain ⟨w0,_⟩:=h0
 unfold cf.p at hp
 unfold cf.tw cf.twX
 have s0:=w0.rf
 refine new_k w0 fun H1 w1 s1=>?_
 refine new_k w1 fun H2 w2 s2=>?_
 refine bind_ex (ldI_of (w2.ld (i:=1) rfl rfl)) ?_
 refine bind_ex (ldI_of (w2.ld (i:=0) rfl rfl)) ?_
 refine bif_ex (fun hb=>?_) (fun hb=>?_)
 ·replace hp:=bif_t hb hp
  obtain ⟨w3,s3⟩:=w2.pick' [] 2 rfl rfl rfl
  dsimp only [pk,pks,nth,List.drop] at w3 s3
  obtain rfl:=Option.some.inj hp
  exact ⟨_,_,rfl,rfl,w3,(s0.trans (s1.trans (s2.trans s3))),trivial⟩
 ·replace hp:=bif_f hb hp
  refine bind_ex (ldI_of (w2.ld (i:=1) rfl rfl)) ?_
  refine bind_ex (ldI_of (w2.ld (i:=0) rfl rfl)) ?_
  refine bif_ex (fun hb=>?_) (fun hb=>?_)
  ·replace hp:=bif_t hb hp
   obtain ⟨w4,s4⟩:=w2.pick' [] 2 rfl rfl rfl
   dsimp only [pk,pks,nth,List.drop] at w4 s4
   obtain rfl:=Option.some.inj hp
   exact ⟨_,_,rfl,rfl,w4,(s0.trans (s1.trans (s2.trans s4))),trivial⟩
  ·replace hp:=bif_f hb hp
   refine bind_ex (ldI_of (w2.ld (i:=1) rfl rfl)) ?_
   refine bind_ex (ldI_of (w2.ld (i:=0) rfl rfl)) ?_
   refine bif_ex (fun hb=>?_) (fun hb=>?_)
   ·replace hp:=bif_t hb hp
    obtain ⟨w5,s5⟩:=w2.pick' [] 2 rfl rfl rfl
    dsimp only [pk,pks,nth,List.drop] at w5 s5
    obtain rfl:=Option.some.inj hp
    exact ⟨_,_,rfl,rfl,w5,(s0.trans (s1.trans (s2.trans s5))),trivial⟩
   ·replace hp:=bif_f hb hp
    refine bind_ex (ldI_of (w2.ld (i:=1) rfl rfl)) ?_
    refine bind_ex (ldI_of (w2.ld (i:=0) rfl rfl)) ?_
    refine bif_ex (fun hb=>?_) (fun hb=>?_)
    ·replace hp:=bif_t hb hp
     obtain ⟨w6,s6⟩:=w2.pick' [] 2 rfl rfl rfl
     dsimp only [pk,pks,nth,List.drop] at w6 s6
     obtain rfl:=Option.some.inj hp
     exact ⟨_,_,rfl,rfl,w6,(s0.trans (s1.trans (s2.trans s6))),trivial⟩
    ·replace hp:=bif_f hb hp
     refine bind_ex (ldI_of (w2.ld (i:=1) rfl rfl)) ?_
     refine bind_ex (ldI_of (w2.ld (i:=0) rfl rfl)) ?_
     refine bif_ex (fun hb=>?_) (fun hb=>?_)
     ·replace hp:=bif_t hb hp
      obtain ⟨w7,s7⟩:=w2.pick' [] 2 rfl rfl rfl
      dsimp only [pk,pks,nth,List.drop] at w7 s7
      obtain rfl:=Option.some.inj hp
      exact ⟨_,_,rfl,rfl,w7,(s0.trans (s1.trans (s2.trans s7))),trivial⟩
     ·replace hp:=bif_f hb hp
      obtain ⟨w8,s8⟩:=w2.pick' [] 2 rfl rfl rfl
      dsimp only [pk,pks,nth,List.drop] at w8 s8
      obtain rfl:=Option.some.inj hp
      exact ⟨_,_,rfl,rfl,w8,(s0.trans (s1.trans (s2.trans s8))),trivial⟩
def bg.Q (H0:Hp) (Ri R0:List Rs)  (r:Bool) (v:AV) (H':Hp):Prop:=v = (.bool r)∧Out H0 Ri H' (R0) fun R=>True
def bg.S29 (H0:Hp) (Ri R0:List Rs)  (C:Sl→Sl→Int→Hp→OA) (pC:List (Int×Int×Int×Int×Int)→List (Int×Int×Int×Int×Int)→Int→Option (Bool)):Prop:=∀ {gu ml:ON} {eG kP:Nat} {gv mm:Cap} {br eM:List (Int×Int×Int×Int×Int)} {cA:Int},∀ {H:Hp},eG = br.length→kP = eM.length→(Out H0 Ri H R0 fun R=>ROs (ePair (eInt .i64) (ePair (eInt .i64) (ePair (eInt .i64) (ePair (eInt .i64) (eInt .i64))))) H R ⟨gu,eG,gv⟩ br∧ROs (ePair (eInt .i64) (ePair (eInt .i64) (ePair (eInt .i64) (ePair (eInt .i64) (eInt .i64))))) H R ⟨ml,kP,mm⟩ eM)→∀ {r:Bool},pC br eM cA = some r→∃ v H',C ⟨gu,eG,gv⟩ ⟨ml,kP,mm⟩ cA H = some (v,H')∧bg.Q H0 Ri R0  r v H'
def bg.pl29 (F:Nat) :Nat→List (Int×Int×Int×Int×Int)→List (Int×Int×Int×Int×Int)→Int→Option (Bool)
 | 0,_,_,_=>none
 | k + 1,br,eM,cA=>(bif (decide (cA < (br.length:Int))) then ((ix br cA).bind fun n1=>(ix eM cA).bind fun n2=>(cf.p F ((gt br n1).1) ((gt br n1).2.1) ((gt br n1).2.2.1) ((gt br n1).2.2.2.1) ((gt br n1).2.2.2.2) ((gt eM n2).1) ((gt eM n2).2.1) ((gt eM n2).2.2.1) ((gt eM n2).2.2.2.1) ((gt eM n2).2.2.2.2)).bind fun r3=>(bif (!r3) then (some false) else (bg.pl29 F k br eM (IntKind.i64.wrap (cA + 1))))) else (some true))
termination_by structural n=>n
theorem bg.l29_P {F:Nat} {H0:Hp} {Ri R0:List Rs}  :∀ k,bg.S29 H0 Ri R0  (bg.l29 F (cf.tw F)  k) (bg.pl29 F  k):=by
 intro k
 induction k with
 | zero=>
  intro gu ml eG kP gv mm br eM cA H hM vW h0 r hp
  exact nomatch (show (none:Option (Bool)) = some r from hp)
 | succ k ih=>
  intro gu ml eG kP gv mm br eM cA H hM vW h0 r hp
  obtain ⟨w0,s0,gw,vX⟩:=h0
  subst hM
  subst vW
  unfold bg.pl29 at hp
  unfold bg.l29
  refine bif_ex (fun hb=>?_) (fun hb=>?_)
  ·replace hp:=bif_t hb hp
   obtain ⟨n1,g1,hp⟩:=bind_some' hp
   obtain ⟨p1,q1,i1,h1,j1⟩:=ROs.ixr gw rfl g1
   refine bind_ex i1 ?_
   obtain ⟨_,_,rfl,rfl,_,_,rfl,rfl,_,_,rfl,rfl,_,_,rfl,rfl,rfl⟩:=h1
   refine bind_ex (ldI_of (j1 0 _ rfl)) ?_
   refine bind_ex (ldI_of (j1 1 _ rfl)) ?_
   refine bind_ex (ldI_of (j1 2 _ rfl)) ?_
   refine bind_ex (ldI_of (j1 3 _ rfl)) ?_
   refine bind_ex (ldI_of (j1 4 _ rfl)) ?_
   obtain ⟨n2,g2,hp⟩:=bind_some' hp
   obtain ⟨p2,q2,i2,h2,j2⟩:=ROs.ixr vX rfl g2
   refine bind_ex i2 ?_
   obtain ⟨_,_,rfl,rfl,_,_,rfl,rfl,_,_,rfl,rfl,_,_,rfl,rfl,rfl⟩:=h2
   refine bind_ex (ldI_of (j2 0 _ rfl)) ?_
   refine bind_ex (ldI_of (j2 1 _ rfl)) ?_
   refine bind_ex (ldI_of (j2 2 _ rfl)) ?_
   refine bind_ex (ldI_of (j2 3 _ rfl)) ?_
   refine bind_ex (ldI_of (j2 4 _ rfl)) ?_
   obtain ⟨r3,e3,hp⟩:=bind_some' hp
   refine call_ex (cf.P ⟨w0,trivial⟩ e3) ?_
   rintro _ H4 ⟨rfl,w4,s4,_⟩
   refine bind_ex rfl ?_
   refine bif_ex (fun hb=>?_) (fun hb=>?_)
   ·replace hp:=bif_t hb hp
    obtain rfl:=Option.some.inj hp
    exact ⟨_,_,rfl,rfl,w4,(s0.trans s4),trivial⟩
   ·replace hp:=bif_f hb hp
    exact ih rfl rfl ⟨w4,(s0.trans s4),(gw.step s4),(vX.step s4)⟩ hp
  ·replace hp:=bif_f hb hp
   obtain rfl:=Option.some.inj hp
   exact ⟨_,_,rfl,rfl,w0,s0,trivial⟩
def bg.p (F:Nat) (ae:List (Int×Int×Int×Int×Int)) (fW:List (Int×Int×Int×Int×Int)):Option (Bool):=(bif ((ae.length:Int) != (fW.length:Int)) then (some false) else (bg.pl29 F F ae fW 0))
theorem bg.P {F:Nat} {az mW:ON} {ap kE:Nat} {aA mX:Cap} {ae fW:List (Int×Int×Int×Int×Int)} {H:Hp} {R0:List Rs} (aW:ap = ae.length) (sw:kE = fW.length) (h0:Inn H R0 fun R=>ROs (ePair (eInt .i64) (ePair (eInt .i64) (ePair (eInt .i64) (ePair (eInt .i64) (eInt .i64))))) H R ⟨az,ap,aA⟩ ae∧ROs (ePair (eInt .i64) (ePair (eInt .i64) (ePair (eInt .i64) (ePair (eInt .i64) (eInt .i64))))) H R ⟨mW,kE,mX⟩ fW) {r:Bool} (hp:bg.p F ae fW = some r):∃ v H',bg.tw F ⟨az,ap,aA⟩ ⟨mW,kE,mX⟩ H = some (v,H')∧bg.Q H R0 R0  r v H':=by
 obtain ⟨w0,aK,sx⟩:=h0
 subst aW
 subst sw
 unfold bg.p at hp
 unfold bg.tw bg.twX
 have s0:=w0.rf
 refine bif_ex (fun hb=>?_) (fun hb=>?_)
 ·replace hp:=bif_t hb hp
  obtain rfl:=Option.some.inj hp
  exact ⟨_,_,rfl,rfl,w0,s0,trivial⟩
 ·replace hp:=bif_f hb hp
  exact bg.l29_P F rfl rfl ⟨w0,s0,aK,sx⟩ hp
def bU.Q (H0:Hp) (Ri R0:List Rs)  (r:Bool) (v:AV) (H':Hp):Prop:=v = (.bool r)∧Out H0 Ri H' (R0) fun R=>True
def bU.p (F:Nat) (ae:List (Int×Int×Int×Int×Int)) (ab:Int) (cl:List (Int×Int×Int×Int×Int)) (av:Int):Option (Bool):=(bg.p F ae cl).bind fun r3=>(bif (!r3) then (some false) else ((bif (ab != av) then (some false) else (some true))))
theorem bU.P {F:Nat} {az dL:ON} {ap cN:Nat} {aA dM:Cap} {ae cl:List (Int×Int×Int×Int×Int)} {ab av:Int} {H:Hp} {R0:List Rs} (aW:ap = ae.length) (hO:cN = cl.length) (h0:Inn H R0 fun R=>ROs (ePair (eInt .i64) (ePair (eInt .i64) (ePair (eInt .i64) (ePair (eInt .i64) (eInt .i64))))) H R ⟨az,ap,aA⟩ ae∧ROs (ePair (eInt .i64) (ePair (eInt .i64) (ePair (eInt .i64) (ePair (eInt .i64) (eInt .i64))))) H R ⟨dL,cN,dM⟩ cl) {r:Bool} (hp:bU.p F ae ab cl av = some r):∃ v H',bU.tw F ⟨az,ap,aA⟩ ab ⟨dL,cN,dM⟩ av H = some (v,H')∧bU.Q H R0 R0  r v H':=by
 obtain ⟨w0,aK,fw⟩:=h0
 subst aW
 subst hO
 unfold bU.p at hp
 unfold bU.tw bU.twX
 have s0:=w0.rf
 refine new_k w0 fun H1 w1 s1=>?_
 refine new_k w1 fun H2 w2 s2=>?_
 refine bind_ex (ldSl_of (w2.ld (i:=1) rfl rfl)) ?_
 refine bind_ex (ldSl_of (w2.ld (i:=0) rfl rfl)) ?_
 obtain ⟨r3,e3,hp⟩:=bind_some' hp
 refine call_ex (bg.P rfl rfl ⟨w2,(aK.step (s1.trans s2)),(fw.step (s1.trans s2))⟩ e3) ?_
 rintro _ H4 ⟨rfl,w4,s4,_⟩
 refine bind_ex rfl ?_
 refine bif_ex (fun hb=>?_) (fun hb=>?_)
 ·replace hp:=bif_t hb hp
  obtain ⟨w5,s5⟩:=w4.pick' [] 2 rfl rfl rfl
  dsimp only [pk,pks,nth,List.drop] at w5 s5
  obtain rfl:=Option.some.inj hp
  exact ⟨_,_,rfl,rfl,w5,(s0.trans (s1.trans (s2.trans (s4.trans s5)))),trivial⟩
 ·replace hp:=bif_f hb hp
  refine bind_ex (ldI_of (w4.ld (i:=1) rfl rfl)) ?_
  refine bind_ex (ldI_of (w4.ld (i:=0) rfl rfl)) ?_
  refine bif_ex (fun hb=>?_) (fun hb=>?_)
  ·replace hp:=bif_t hb hp
   obtain ⟨w6,s6⟩:=w4.pick' [] 2 rfl rfl rfl
   dsimp only [pk,pks,nth,List.drop] at w6 s6
   obtain rfl:=Option.some.inj hp
   exact ⟨_,_,rfl,rfl,w6,(s0.trans (s1.trans (s2.trans (s4.trans s6)))),trivial⟩
  ·replace hp:=bif_f hb hp
   obtain ⟨w7,s7⟩:=w4.pick' [] 2 rfl rfl rfl
   dsimp only [pk,pks,nth,List.drop] at w7 s7
   obtain rfl:=Option.some.inj hp
   exact ⟨_,_,rfl,rfl,w7,(s0.trans (s1.trans (s2.trans (s4.trans s7)))),trivial⟩
def bh.Q (H0:Hp) (Ri R0:List Rs) (az:ON) (ap:Nat) (aA:Cap) (eJ:Bool) (eK eL:List AV) (r:Int×(List (Int×Int×Int×Int×Int))) (v:AV) (H':Hp):Prop:=∃ kK:List AV,v = (.int .i64 r.1)∧ap = (r.2).length∧Out H0 Ri H' (Rs.ow eJ ⟨az,ap,aA⟩ (ePair (eInt .i64) (ePair (eInt .i64) (ePair (eInt .i64) (ePair (eInt .i64) (eInt .i64))))).z eK kK eL :: R0) fun R=>CR (ePair (eInt .i64) (ePair (eInt .i64) (ePair (eInt .i64) (ePair (eInt .i64) (eInt .i64))))) H' R kK (r.2)
def bh.S13 (H0:Hp) (Ri R0:List Rs) (eg:ON) (du:Nat) (eh:Cap) (gP:Bool) (gQ gR:List AV) (C:Sl→Int→Int→Hp→OA) (pC:List (Int×Int×Int×Int×Int)→Int→Int→Option (Int×(List (Int×Int×Int×Int×Int)))):Prop:=∀ {br:List (Int×Int×Int×Int×Int)} {mn:List AV} {aT bD:Int},∀ {H:Hp},du = br.length→(Out H0 Ri H (Rs.ow gP ⟨eg,du,eh⟩ (ePair (eInt .i64) (ePair (eInt .i64) (ePair (eInt .i64) (ePair (eInt .i64) (eInt .i64))))).z gQ mn gR :: R0) fun R=>CR (ePair (eInt .i64) (ePair (eInt .i64) (ePair (eInt .i64) (ePair (eInt .i64) (eInt .i64))))) H R mn br)→∀ {r:Int×(List (Int×Int×Int×Int×Int))},pC br aT bD = some r→∃ v H',C ⟨eg,du,eh⟩ aT bD H = some (v,H')∧bh.Q H0 Ri R0 eg du eh gP gQ gR r v H'
def bh.pl13 (F:Nat) :Nat→List (Int×Int×Int×Int×Int)→Int→Int→Option (Int×(List (Int×Int×Int×Int×Int)))
 | 0,_,_,_=>none
 | k + 1,br,aT,bD=>(bif (decide (bD < (br.length:Int))) then ((ix br bD).bind fun n1=>(some (br.set n1 (aT,(gt br n1).2.1,(gt br n1).2.2.1,(gt br n1).2.2.2.1,(gt br n1).2.2.2.2))).bind fun l2=>(ix l2 bD).bind fun n4=>(some (l2.set n4 ((gt l2 n4).1,(IntKind.i64.wrap (aT + 1)),(gt l2 n4).2.2.1,(gt l2 n4).2.2.2.1,(gt l2 n4).2.2.2.2))).bind fun l5=>(ix l5 bD).bind fun n7=>(some (l5.set n7 ((gt l5 n7).1,(gt l5 n7).2.1,(IntKind.i64.wrap ((IntKind.i64.wrap (aT + 1)) + 1)),(gt l5 n7).2.2.2.1,(gt l5 n7).2.2.2.2))).bind fun l8=>(ix l8 bD).bind fun n10=>(some (l8.set n10 ((gt l8 n10).1,(gt l8 n10).2.1,(gt l8 n10).2.2.1,(IntKind.i64.wrap ((IntKind.i64.wrap ((IntKind.i64.wrap (aT + 1)) + 1)) + 1)),(gt l8 n10).2.2.2.2))).bind fun l11=>(ix l11 bD).bind fun n13=>(some (l11.set n13 ((gt l11 n13).1,(gt l11 n13).2.1,(gt l11 n13).2.2.1,(gt l11 n13).2.2.2.1,(IntKind.i64.wrap ((IntKind.i64.wrap ((IntKind.i64.wrap ((IntKind.i64.wrap (aT + 1)) + 1)) + 1)) + 1))))).bind fun l14=>bh.pl13 F k l14 (IntKind.i64.wrap ((IntKind.i64.wrap ((IntKind.i64.wrap ((IntKind.i64.wrap ((IntKind.i64.wrap (aT + 1)) + 1)) + 1)) + 1)) + 1)) (IntKind.i64.wrap (bD + 1))) else (some (aT,br)))
termination_by structural n=>n
theorem bh.l13_P {F:Nat} {H0:Hp} {Ri R0:List Rs} {eg:ON} {du:Nat} {eh:Cap} {gP:Bool} {gQ gR:List AV} :∀ k,bh.S13 H0 Ri R0 eg du eh gP gQ gR (bh.l13 F   k) (bh.pl13 F  k):=by
 intro k
 induction k with
 | zero=>
  intro br mn aT bD H hM h0 r hp
  exact nomatch (show (none:Option (Int×(List (Int×Int×Int×Int×Int)))) = some r from hp)
 | succ k ih=>
  intro br mn aT bD H hM h0 r hp
  obtain ⟨w0,s0,gw⟩:=h0
  subst hM
  unfold bh.pl13 at hp
  unfold bh.l13
  refine bif_ex (fun hb=>?_) (fun hb=>?_)
  ·replace hp:=bif_t hb hp
   obtain ⟨n1,g1,hp⟩:=bind_some' hp
   obtain ⟨p1,q1,i1,h1,j1⟩:=W.ixo (E:=(ePair (eInt .i64) (ePair (eInt .i64) (ePair (eInt .i64) (ePair (eInt .i64) (eInt .i64)))))) w0 (i:=0) rfl rfl gw g1
   refine bind_ex i1 ?_
   obtain ⟨l2,e2,hp⟩:=bind_some' hp
   refine sto_k (ePair (eInt .i64) (ePair (eInt .i64) (ePair (eInt .i64) (ePair (eInt .i64) (eInt .i64))))) w0 (i:=0) (j:=0) (p:=p1) rfl rfl gw g1 i1 e2 rfl rfl (fun _ h=>by obtain ⟨_,_,rfl,rfl,_,_,rfl,rfl,_,_,rfl,rfl,_,_,rfl,rfl,rfl⟩:=h; exact ⟨[_],_,rfl,rfl,[_],_,rfl,rfl,[_],_,rfl,rfl,[_],_,rfl,rfl,rfl⟩) fun H3 k3 w3 s3 c3=>?_
   dsimp only [List.set] at w3 s3 c3
   obtain ⟨n4,g4,hp⟩:=bind_some' hp
   obtain ⟨p4,q4,i4,h4,j4⟩:=W.ixo (E:=(ePair (eInt .i64) (ePair (eInt .i64) (ePair (eInt .i64) (ePair (eInt .i64) (eInt .i64)))))) w3 (i:=0) rfl rfl c3 g4
   refine bind_ex i4 ?_
   obtain ⟨l5,e5,hp⟩:=bind_some' hp
   refine sto_k (ePair (eInt .i64) (ePair (eInt .i64) (ePair (eInt .i64) (ePair (eInt .i64) (eInt .i64))))) w3 (i:=0) (j:=1) (p:=p4) rfl rfl c3 g4 i4 e5 rfl rfl (fun _ h=>by obtain ⟨_,_,rfl,rfl,_,_,rfl,rfl,_,_,rfl,rfl,_,_,rfl,rfl,rfl⟩:=h; exact ⟨[_],_,rfl,rfl,[_],_,rfl,rfl,[_],_,rfl,rfl,[_],_,rfl,rfl,rfl⟩) fun H6 k6 w6 s6 c6=>?_
   dsimp only [List.set] at w6 s6 c6
   obtain ⟨n7,g7,hp⟩:=bind_some' hp
   obtain ⟨p7,q7,i7,h7,j7⟩:=W.ixo (E:=(ePair (eInt .i64) (ePair (eInt .i64) (ePair (eInt .i64) (ePair (eInt .i64) (eInt .i64)))))) w6 (i:=0) rfl rfl c6 g7
   refine bind_ex i7 ?_
   obtain ⟨l8,e8,hp⟩:=bind_some' hp
   refine sto_k (ePair (eInt .i64) (ePair (eInt .i64) (ePair (eInt .i64) (ePair (eInt .i64) (eInt .i64))))) w6 (i:=0) (j:=2) (p:=p7) rfl rfl c6 g7 i7 e8 rfl rfl (fun _ h=>by obtain ⟨_,_,rfl,rfl,_,_,rfl,rfl,_,_,rfl,rfl,_,_,rfl,rfl,rfl⟩:=h; exact ⟨[_],_,rfl,rfl,[_],_,rfl,rfl,[_],_,rfl,rfl,[_],_,rfl,rfl,rfl⟩) fun H9 k9 w9 s9 c9=>?_
   dsimp only [List.set] at w9 s9 c9
   obtain ⟨n10,g10,hp⟩:=bind_some' hp
   obtain ⟨p10,q10,i10,h10,j10⟩:=W.ixo (E:=(ePair (eInt .i64) (ePair (eInt .i64) (ePair (eInt .i64) (ePair (eInt .i64) (eInt .i64)))))) w9 (i:=0) rfl rfl c9 g10
   refine bind_ex i10 ?_
   obtain ⟨l11,e11,hp⟩:=bind_some' hp
   refine sto_k (ePair (eInt .i64) (ePair (eInt .i64) (ePair (eInt .i64) (ePair (eInt .i64) (eInt .i64))))) w9 (i:=0) (j:=3) (p:=p10) rfl rfl c9 g10 i10 e11 rfl rfl (fun _ h=>by obtain ⟨_,_,rfl,rfl,_,_,rfl,rfl,_,_,rfl,rfl,_,_,rfl,rfl,rfl⟩:=h; exact ⟨[_],_,rfl,rfl,[_],_,rfl,rfl,[_],_,rfl,rfl,[_],_,rfl,rfl,rfl⟩) fun H12 k12 w12 s12 c12=>?_
   dsimp only [List.set] at w12 s12 c12
   obtain ⟨n13,g13,hp⟩:=bind_some' hp
   obtain ⟨p13,q13,i13,h13,j13⟩:=W.ixo (E:=(ePair (eInt .i64) (ePair (eInt .i64) (ePair (eInt .i64) (ePair (eInt .i64) (eInt .i64)))))) w12 (i:=0) rfl rfl c12 g13
   refine bind_ex i13 ?_
   obtain ⟨l14,e14,hp⟩:=bind_some' hp
   refine sto_k (ePair (eInt .i64) (ePair (eInt .i64) (ePair (eInt .i64) (ePair (eInt .i64) (eInt .i64))))) w12 (i:=0) (j:=4) (p:=p13) rfl rfl c12 g13 i13 e14 rfl rfl (fun _ h=>by obtain ⟨_,_,rfl,rfl,_,_,rfl,rfl,_,_,rfl,rfl,_,_,rfl,rfl,rfl⟩:=h; exact ⟨[_],_,rfl,rfl,[_],_,rfl,rfl,[_],_,rfl,rfl,[_],_,rfl,rfl,rfl⟩) fun H15 k15 w15 s15 c15=>?_
   dsimp only [List.set] at w15 s15 c15
   exact ih (((((st_len e2).symm.trans (st_len e5).symm).trans (st_len e8).symm).trans (st_len e11).symm).trans (st_len e14).symm) ⟨w15,(s0.trans (s3.trans (s6.trans (s9.trans (s12.trans s15))))),c15⟩ hp
  ·replace hp:=bif_f hb hp
   obtain rfl:=Option.some.inj hp
   exact ⟨_,_,rfl,_,rfl,rfl,w0,s0,gw⟩
def bh.p (F:Nat) (ae:List (Int×Int×Int×Int×Int)) (af:Int):Option (Int×(List (Int×Int×Int×Int×Int))):=bh.pl13 F F ae af 0
theorem bh.P {F:Nat} {az:ON} {ap:Nat} {aA:Cap} {ae:List (Int×Int×Int×Int×Int)} {eJ:Bool} {eK eL iA:List AV} {af:Int} {H:Hp} {R0:List Rs} (aW:ap = ae.length) (h0:Inn H (Rs.ow eJ ⟨az,ap,aA⟩ (ePair (eInt .i64) (ePair (eInt .i64) (ePair (eInt .i64) (ePair (eInt .i64) (eInt .i64))))).z eK iA eL :: R0) fun R=>CR (ePair (eInt .i64) (ePair (eInt .i64) (ePair (eInt .i64) (ePair (eInt .i64) (eInt .i64))))) H R iA ae) {r:Int×(List (Int×Int×Int×Int×Int))} (hp:bh.p F ae af = some r):∃ v H',bh.tw F ⟨az,ap,aA⟩ af H = some (v,H')∧bh.Q H (Rs.ow eJ ⟨az,ap,aA⟩ (ePair (eInt .i64) (ePair (eInt .i64) (ePair (eInt .i64) (ePair (eInt .i64) (eInt .i64))))).z eK iA eL :: R0) R0 az ap aA eJ eK eL r v H':=by
 obtain ⟨w0,aK⟩:=h0
 subst aW
 unfold bh.p at hp
 unfold bh.tw bh.twX
 have s0:=w0.rf
 exact bh.l13_P F rfl ⟨w0,s0,aK⟩ hp
def bV.Q (H0:Hp) (Ri R0:List Rs) (az:ON) (ap:Nat) (aA:Cap) (eJ:Bool) (eK eL:List AV) (r:Int×(List (Int×Int×Int×Int×Int))) (v:AV) (H':Hp):Prop:=∃ kK:List AV,v = (.int .i64 r.1)∧ap = (r.2).length∧Out H0 Ri H' (Rs.ow eJ ⟨az,ap,aA⟩ (ePair (eInt .i64) (ePair (eInt .i64) (ePair (eInt .i64) (ePair (eInt .i64) (eInt .i64))))).z eK kK eL :: R0) fun R=>CR (ePair (eInt .i64) (ePair (eInt .i64) (ePair (eInt .i64) (ePair (eInt .i64) (eInt .i64))))) H' R kK (r.2)
def bV.p (F:Nat) (ae:List (Int×Int×Int×Int×Int)) (ah:Int):Option (Int×(List (Int×Int×Int×Int×Int))):=(bh.p F ae ah).bind fun r3=>some (r3.1,r3.2)
theorem bV.P {F:Nat} {az:ON} {ap:Nat} {aA:Cap} {ae:List (Int×Int×Int×Int×Int)} {eJ:Bool} {eK eL iA:List AV} {ab ah:Int} {H:Hp} {R0:List Rs} (aW:ap = ae.length) (h0:Inn H (Rs.ow eJ ⟨az,ap,aA⟩ (ePair (eInt .i64) (ePair (eInt .i64) (ePair (eInt .i64) (ePair (eInt .i64) (eInt .i64))))).z eK iA eL :: R0) fun R=>CR (ePair (eInt .i64) (ePair (eInt .i64) (ePair (eInt .i64) (ePair (eInt .i64) (eInt .i64))))) H R iA ae) {r:Int×(List (Int×Int×Int×Int×Int))} (hp:bV.p F ae ah = some r):∃ v H',bV.tw F ⟨az,ap,aA⟩ ab ah H = some (v,H')∧bV.Q H (Rs.ow eJ ⟨az,ap,aA⟩ (ePair (eInt .i64) (ePair (eInt .i64) (ePair (eInt .i64) (ePair (eInt .i64) (eInt .i64))))).z eK iA eL :: R0) R0 az ap aA eJ eK eL r v H':=by
 obtain ⟨w0,aK⟩:=h0
 subst aW
 unfold bV.p at hp
 unfold bV.tw bV.twX
 have s0:=w0.rf
 refine new_k w0 fun H1 w1 s1=>?_
 refine bind_ex (ldSl_of (w1.ld (i:=0) rfl rfl)) ?_
 obtain ⟨w2,s2⟩:=w1.pick' [1,0] 2 rfl rfl rfl
 dsimp only [pk,pks,nth,List.drop] at w2 s2
 obtain ⟨r3,e3,hp⟩:=bind_some' hp
 refine call_ex (bh.P rfl ⟨w2,(aK.step (s1.trans s2))⟩ e3) ?_
 rintro _ H4 ⟨aeE,rfl,hl4_0,w4,s4,f4_0⟩
 refine bind_ex rfl ?_
 obtain ⟨w5,s5⟩:=w4.pick' [0] 2 rfl rfl rfl
 dsimp only [pk,pks,nth,List.drop] at w5 s5
 obtain rfl:=Option.some.inj hp
 exact ⟨_,_,rfl,_,rfl,hl4_0,w5,(s0.trans (s1.trans (s2.trans (s4.trans s5)))),(f4_0.step s5)⟩
def bi.Q (H0:Hp) (Ri R0:List Rs) (az:ON) (ap:Nat) (aA:Cap) (eJ:Bool) (eK eL:List AV) (r:Int×List Int) (v:AV) (H':Hp):Prop:=∃ kK:List AV,v = (.int .i64 r.1)∧ap = (r.2).length∧Out H0 Ri H' (Rs.ow eJ ⟨az,ap,aA⟩ (eInt .i64).z eK kK eL :: R0) fun R=>CR (eInt .i64) H' R kK (r.2)
def bi.S13 (H0:Hp) (Ri R0:List Rs) (eg:ON) (du:Nat) (eh:Cap) (gP:Bool) (gQ gR:List AV) (C:Sl→Int→Int→Hp→OA) (pC:List Int→Int→Int→Option (Int×List Int)):Prop:=∀ {br:List Int} {mn:List AV} {aT bD:Int},∀ {H:Hp},du = br.length→(Out H0 Ri H (Rs.ow gP ⟨eg,du,eh⟩ (eInt .i64).z gQ mn gR :: R0) fun R=>CR (eInt .i64) H R mn br)→∀ {r:Int×List Int},pC br aT bD = some r→∃ v H',C ⟨eg,du,eh⟩ aT bD H = some (v,H')∧bi.Q H0 Ri R0 eg du eh gP gQ gR r v H'
def bi.pl13 (F:Nat) :Nat→List Int→Int→Int→Option (Int×List Int)
 | 0,_,_,_=>none
 | k + 1,br,aT,bD=>(bif (decide (bD < (br.length:Int))) then ((ix br bD).bind fun n1=>(some (br.set n1 aT)).bind fun l2=>bi.pl13 F k l2 (IntKind.i64.wrap (aT + 1)) (IntKind.i64.wrap (bD + 1))) else (some (aT,br)))
termination_by structural n=>n
theorem bi.l13_P {F:Nat} {H0:Hp} {Ri R0:List Rs} {eg:ON} {du:Nat} {eh:Cap} {gP:Bool} {gQ gR:List AV} :∀ k,bi.S13 H0 Ri R0 eg du eh gP gQ gR (bi.l13 F   k) (bi.pl13 F  k):=by
 intro k
 induction k with
 | zero=>
  intro br mn aT bD H hM h0 r hp
  exact nomatch (show (none:Option (Int×List Int)) = some r from hp)
 | succ k ih=>
  intro br mn aT bD H hM h0 r hp
  obtain ⟨w0,s0,gw⟩:=h0
  subst hM
  unfold bi.pl13 at hp
  unfold bi.l13
  refine bif_ex (fun hb=>?_) (fun hb=>?_)
  ·replace hp:=bif_t hb hp
   obtain ⟨n1,g1,hp⟩:=bind_some' hp
   obtain ⟨p1,q1,i1,h1,j1⟩:=W.ixo (E:=(eInt .i64)) w0 (i:=0) rfl rfl gw g1
   refine bind_ex i1 ?_
   obtain ⟨l2,e2,hp⟩:=bind_some' hp
   refine sto_k (eInt .i64) w0 (i:=0) (j:=0) (p:=p1) rfl rfl gw g1 i1 e2 rfl rfl (fun _ h=>by have h:_ = [_]:=h; subst h; exact rfl) fun H3 k3 w3 s3 c3=>?_
   dsimp only [List.set] at w3 s3 c3
   exact ih ((st_len e2).symm) ⟨w3,(s0.trans s3),c3⟩ hp
  ·replace hp:=bif_f hb hp
   obtain rfl:=Option.some.inj hp
   exact ⟨_,_,rfl,_,rfl,rfl,w0,s0,gw⟩
def bi.p (F:Nat) (ae:List Int) (af:Int):Option (Int×List Int):=bi.pl13 F F ae af 0
theorem bi.P {F:Nat} {az:ON} {ap:Nat} {aA:Cap} {ae:List Int} {eJ:Bool} {eK eL iA:List AV} {af:Int} {H:Hp} {R0:List Rs} (aW:ap = ae.length) (h0:Inn H (Rs.ow eJ ⟨az,ap,aA⟩ (eInt .i64).z eK iA eL :: R0) fun R=>CR (eInt .i64) H R iA ae) {r:Int×List Int} (hp:bi.p F ae af = some r):∃ v H',bi.tw F ⟨az,ap,aA⟩ af H = some (v,H')∧bi.Q H (Rs.ow eJ ⟨az,ap,aA⟩ (eInt .i64).z eK iA eL :: R0) R0 az ap aA eJ eK eL r v H':=by
 obtain ⟨w0,aK⟩:=h0
 subst aW
 unfold bi.p at hp
 unfold bi.tw bi.twX
 have s0:=w0.rf
 exact bi.l13_P F rfl ⟨w0,s0,aK⟩ hp
def cg.Q (H0:Hp) (Ri R0:List Rs) (jP:ON) (il:Nat) (jQ:Cap) (wa:Bool) (wb wc:List AV) (r:Int×List Int) (v:AV) (H':Hp):Prop:=∃ VH:List AV,v = (.int .i64 r.1)∧il = (r.2).length∧Out H0 Ri H' (Rs.ow wa ⟨jP,il,jQ⟩ (eInt .i64).z wb VH wc :: R0) fun R=>CR (eInt .i64) H' R VH (r.2)
def cg.p (F:Nat) (hP:List Int) (av:Int):Option (Int×List Int):=(bi.p F hP av).bind fun r3=>some (r3.1,r3.2)
theorem cg.P {F:Nat} {aa ab av:Int} {jP:ON} {il:Nat} {jQ:Cap} {hP:List Int} {wa:Bool} {wb wc Iq:List AV} {H:Hp} {R0:List Rs} (vZ:il = hP.length) (h0:Inn H (Rs.ow wa ⟨jP,il,jQ⟩ (eInt .i64).z wb Iq wc :: R0) fun R=>CR (eInt .i64) H R Iq hP) {r:Int×List Int} (hp:cg.p F hP av = some r):∃ v H',cg.tw F aa ab ⟨jP,il,jQ⟩ av H = some (v,H')∧cg.Q H (Rs.ow wa ⟨jP,il,jQ⟩ (eInt .i64).z wb Iq wc :: R0) R0 jP il jQ wa wb wc r v H':=by
 obtain ⟨w0,v_⟩:=h0
 subst vZ
 unfold cg.p at hp
 unfold cg.tw cg.twX
 have s0:=w0.rf
 refine new_k w0 fun H1 w1 s1=>?_
 refine bind_ex (ldSl_of (w1.ld (i:=0) rfl rfl)) ?_
 obtain ⟨w2,s2⟩:=w1.pick' [1,0] 2 rfl rfl rfl
 dsimp only [pk,pks,nth,List.drop] at w2 s2
 obtain ⟨r3,e3,hp⟩:=bind_some' hp
 refine call_ex (bi.P rfl ⟨w2,(v_.step (s1.trans s2))⟩ e3) ?_
 rintro _ H4 ⟨aeE,rfl,hl4_0,w4,s4,f4_0⟩
 refine bind_ex rfl ?_
 obtain ⟨w5,s5⟩:=w4.pick' [0] 2 rfl rfl rfl
 dsimp only [pk,pks,nth,List.drop] at w5 s5
 obtain rfl:=Option.some.inj hp
 exact ⟨_,_,rfl,_,rfl,hl4_0,w5,(s0.trans (s1.trans (s2.trans (s4.trans s5)))),(f4_0.step s5)⟩
def a_.Q (H0:Hp) (Ri R0:List Rs)  (r:Int) (v:AV) (H':Hp):Prop:=v = (.int .i64 r)∧Out H0 Ri H' (R0) fun R=>True
def a_.S13 (H0:Hp) (Ri R0:List Rs)  (C:Sl→Int→Int→Hp→OA) (pC:List Int→Int→Int→Option (Int)):Prop:=∀ {gu:ON} {eG:Nat} {gv:Cap} {br:List Int} {aT bD:Int},∀ {H:Hp},eG = br.length→(Out H0 Ri H R0 fun R=>ROs (eInt .i64) H R ⟨gu,eG,gv⟩ br)→∀ {r:Int},pC br aT bD = some r→∃ v H',C ⟨gu,eG,gv⟩ aT bD H = some (v,H')∧a_.Q H0 Ri R0  r v H'
def a_.pl13 (F:Nat) :Nat→List Int→Int→Int→Option (Int)
 | 0,_,_,_=>none
 | k + 1,br,aT,bD=>(bif (decide (bD < (br.length:Int))) then ((ix br bD).bind fun n1=>(bif ((gt br n1) != aT) then (some (-1)) else (a_.pl13 F k br (IntKind.i64.wrap (aT + 1)) (IntKind.i64.wrap (bD + 1))))) else (some aT))
termination_by structural n=>n
theorem a_.l13_P {F:Nat} {H0:Hp} {Ri R0:List Rs}  :∀ k,a_.S13 H0 Ri R0  (a_.l13 F   k) (a_.pl13 F  k):=by
 intro k
 induction k with
 | zero=>
  intro gu eG gv br aT bD H hM h0 r hp
  exact nomatch (show (none:Option (Int)) = some r from hp)
 | succ k ih=>
  intro gu eG gv br aT bD H hM h0 r hp
  obtain ⟨w0,s0,gw⟩:=h0
  subst hM
  unfold a_.pl13 at hp
  unfold a_.l13
  refine bif_ex (fun hb=>?_) (fun hb=>?_)
  ·replace hp:=bif_t hb hp
   obtain ⟨n1,g1,hp⟩:=bind_some' hp
   obtain ⟨p1,q1,i1,h1,j1⟩:=ROs.ixr gw rfl g1
   refine bind_ex i1 ?_
   have h1:_ = [_]:=h1
   subst h1
   refine bind_ex (ldI_of (j1 0 _ rfl)) ?_
   refine bif_ex (fun hb=>?_) (fun hb=>?_)
   ·replace hp:=bif_t hb hp
    obtain rfl:=Option.some.inj hp
    exact ⟨_,_,rfl,rfl,w0,s0,trivial⟩
   ·replace hp:=bif_f hb hp
    exact ih rfl ⟨w0,s0,gw⟩ hp
  ·replace hp:=bif_f hb hp
   obtain rfl:=Option.some.inj hp
   exact ⟨_,_,rfl,rfl,w0,s0,trivial⟩
def a_.p (F:Nat) (ae:List Int) (af:Int):Option (Int):=a_.pl13 F F ae af 0
theorem a_.P {F:Nat} {az:ON} {ap:Nat} {aA:Cap} {ae:List Int} {af:Int} {H:Hp} {R0:List Rs} (aW:ap = ae.length) (h0:Inn H R0 fun R=>ROs (eInt .i64) H R ⟨az,ap,aA⟩ ae) {r:Int} (hp:a_.p F ae af = some r):∃ v H',a_.tw F ⟨az,ap,aA⟩ af H = some (v,H')∧a_.Q H R0 R0  r v H':=by
 obtain ⟨w0,aK⟩:=h0
 subst aW
 unfold a_.p at hp
 unfold a_.tw a_.twX
 have s0:=w0.rf
 exact a_.l13_P F rfl ⟨w0,s0,aK⟩ hp
def bR.Q (H0:Hp) (Ri R0:List Rs)  (r:Int) (v:AV) (H':Hp):Prop:=v = (.int .i64 r)∧Out H0 Ri H' (R0) fun R=>True
def bR.p (F:Nat) (hP:List Int) (av:Int):Option (Int):=(a_.p F hP av).bind fun r2=>(bif (decide (r2 < 0)) then (some (-1)) else (some r2))
theorem bR.P {F:Nat} {aa ab av:Int} {jP:ON} {il:Nat} {jQ:Cap} {hP:List Int} {H:Hp} {R0:List Rs} (vZ:il = hP.length) (h0:Inn H R0 fun R=>ROs (eInt .i64) H R ⟨jP,il,jQ⟩ hP) {r:Int} (hp:bR.p F hP av = some r):∃ v H',bR.tw F aa ab ⟨jP,il,jQ⟩ av H = some (v,H')∧bR.Q H R0 R0  r v H':=by
 obtain ⟨w0,v_⟩:=h0
 subst vZ
 unfold bR.p at hp
 unfold bR.tw bR.twX
 have s0:=w0.rf
 refine new_k w0 fun H1 w1 s1=>?_
 refine bind_ex (ldSl_of (w1.ld (i:=0) rfl rfl)) ?_
 obtain ⟨r2,e2,hp⟩:=bind_some' hp
 refine call_ex (a_.P rfl ⟨w1,(v_.step s1)⟩ e2) ?_
 rintro _ H3 ⟨rfl,w3,s3,_⟩
 refine bind_ex rfl ?_
 refine bif_ex (fun hb=>?_) (fun hb=>?_)
 ·replace hp:=bif_t hb hp
  obtain ⟨w4,s4⟩:=w3.pick' [] 1 rfl rfl rfl
  dsimp only [pk,pks,nth,List.drop] at w4 s4
  obtain rfl:=Option.some.inj hp
  exact ⟨_,_,rfl,rfl,w4,(s0.trans (s1.trans (s3.trans s4))),trivial⟩
 ·replace hp:=bif_f hb hp
  obtain ⟨w5,s5⟩:=w3.pick' [] 1 rfl rfl rfl
  dsimp only [pk,pks,nth,List.drop] at w5 s5
  obtain rfl:=Option.some.inj hp
  exact ⟨_,_,rfl,rfl,w5,(s0.trans (s1.trans (s3.trans s5))),trivial⟩
def cq.Q (H0:Hp) (Ri R0:List Rs)  (r:Bool) (v:AV) (H':Hp):Prop:=v = (.bool r)∧Out H0 Ri H' (R0) fun R=>True
def cq.p (F:Nat) (ae:List (Int×Int×Int×Int×Int)) (ab:Int) (ah:Int):Option (Bool):=(bN.p F ae 1048576).bind fun r2=>(bif (decide (r2 < 0)) then (some true) else ((bE.p F ae ab).bind fun r5=>(bS.p F r5.1 r5.2 ah).bind fun r8=>(bE.p F ae ab).bind fun r15=>(bP.p F r15.1 r15.2 ah).bind fun r22=>(bM.p F r22.1 r22.2.1 r22.2.2.1 r8.1 r8.2.1 r8.2.2.1).bind fun r32=>(bif (!r32) then (some false) else ((bif (r22.2.2.2 != r8.2.2.2) then (some false) else ((bE.p F ae ab).bind fun r38=>(bU.p F r15.1 r15.2 r38.1 r38.2).bind fun r44=>(bif (!r44) then (some false) else ((bV.p F r15.1 1).bind fun r49=>(bif (decide (r49.1 < 0)) then (some false) else ((bM.p F r22.1 r22.2.1 r22.2.2.1 r8.1 r8.2.1 r8.2.2.1).bind fun r55=>(bif (!r55) then (some false) else ((bif (r22.2.2.2 != r8.2.2.2) then (some false) else ((cg.p F r22.2.2.1 1).bind fun r61=>(bR.p F r61.2 1).bind fun r64=>(bif (decide (r64 < 0)) then (some false) else ((bif (r64 != r61.1) then (some false) else ((bE.p F ae ab).bind fun r69=>(bP.p F r69.1 r69.2 ah).bind fun r72=>(bM.p F r72.1 r72.2.1 r72.2.2.1 r8.1 r8.2.1 r8.2.2.1).bind fun r82=>(bif (!r82) then (some false) else ((bif (r72.2.2.2 != r8.2.2.2) then (some false) else ((bR.p F r61.2 1).bind fun r90=>(bif (decide (r90 < 0)) then (some false) else ((bif (r90 != r61.1) then (some false) else (some true))))))))))))))))))))))))))
theorem cq.P {F:Nat} {az:ON} {ap:Nat} {aA:Cap} {ae:List (Int×Int×Int×Int×Int)} {ab ah:Int} {H:Hp} {R0:List Rs} (aW:ap = ae.length) (h0:Inn H R0 fun R=>ROs (ePair (eInt .i64) (ePair (eInt .i64) (ePair (eInt .i64) (ePair (eInt .i64) (eInt .i64))))) H R ⟨az,ap,aA⟩ ae) {r:Bool} (hp:cq.p F ae ab ah = some r):∃ v H',cq.tw F ⟨az,ap,aA⟩ ab ah H = some (v,H')∧cq.Q H R0 R0  r v H':=by
 obtain ⟨w0,aK⟩:=h0
 subst aW
 unfold cq.p at hp
 unfold cq.tw cq.twX
 have s0:=w0.rf
 refine new_k w0 fun H1 w1 s1=>?_
 refine bind_ex (ldSl_of (w1.ld (i:=0) rfl rfl)) ?_
 refine bind_ex (ldI_of (w1.ld (i:=0) rfl rfl)) ?_
 obtain ⟨r2,e2,hp⟩:=bind_some' hp
 refine call_ex (bN.P rfl ⟨w1,(aK.step s1)⟩ e2) ?_
 rintro _ H3 ⟨rfl,w3,s3,_⟩
 refine bind_ex rfl ?_
 refine bif_ex (fun hb=>?_) (fun hb=>?_)
 ·replace hp:=bif_t hb hp
  obtain ⟨w4,s4⟩:=w3.pick' [] 1 rfl rfl rfl
  dsimp only [pk,pks,nth,List.drop] at w4 s4
  obtain rfl:=Option.some.inj hp
  exact ⟨_,_,rfl,rfl,w4,(s0.trans (s1.trans (s3.trans s4))),trivial⟩
 ·replace hp:=bif_f hb hp
  refine bind_ex (ldSl_of (w3.ld (i:=0) rfl rfl)) ?_
  refine bind_ex (ldI_of (w3.ld (i:=0) rfl rfl)) ?_
  obtain ⟨r5,e5,hp⟩:=bind_some' hp
  refine call_ex (bE.P rfl ⟨w3,(aK.step (s1.trans s3))⟩ e5) ?_
  rintro _ H6 ⟨o0a_6,o0n_6,o0c_6,o0k_6,rfl,rfl,w6,s6,f6_0⟩
  refine bind_ex rfl ?_
  refine bind_ex rfl ?_
  refine bind_ex rfl ?_
  refine bind_ex rfl ?_
  refine bind_ex rfl ?_
  have f7:=W.borrow1 (ePair (eInt .i64) (ePair (eInt .i64) (ePair (eInt .i64) (ePair (eInt .i64) (eInt .i64))))) w6 f6_0
  obtain ⟨w7,s7⟩:=w6.right1
  obtain ⟨r8,e8,hp⟩:=bind_some' hp
  refine call_ex (bS.P rfl ⟨w7,f7⟩ e8) ?_
  rintro _ H9 ⟨o2a_9,o2n_9,o2c_9,o2k_9,rfl,rfl,w9,s9,f9_0⟩
  obtain ⟨w10,s10⟩:=W.frame1 w6 w9 s9
  refine bind_ex rfl ?_
  refine bind_ex rfl ?_
  refine bind_ex rfl ?_
  refine bind_ex rfl ?_
  refine bind_ex rfl ?_
  refine bind_ex rfl ?_
  refine bind_ex rfl ?_
  refine bind_ex rfl ?_
  refine bind_ex rfl ?_
  refine bind_ex rfl ?_
  refine bind_ex rfl ?_
  refine new_k w10 fun H11 w11 s11=>?_
  refine st_k w11 (i:=0) rfl rfl rfl fun H12 w12 s12=>?_
  dsimp only [List.set] at w12 s12
  refine st_k w12 (i:=0) rfl rfl rfl fun H13 w13 s13=>?_
  dsimp only [List.set] at w13 s13
  refine st_k w13 (i:=0) rfl rfl rfl fun H14 w14 s14=>?_
  dsimp only [List.set] at w14 s14
  refine bind_ex (ldSl_of (w14.ld (i:=3) rfl rfl)) ?_
  refine bind_ex (ldI_of (w14.ld (i:=3) rfl rfl)) ?_
  obtain ⟨r15,e15,hp⟩:=bind_some' hp
  refine call_ex (bE.P rfl ⟨w14,(aK.step (s1.trans (s3.trans (s6.trans (s10.trans (s11.trans (s12.trans (s13.trans s14))))))))⟩ e15) ?_
  rintro _ H16 ⟨o0a_16,o0n_16,o0c_16,o0k_16,rfl,rfl,w16,s16,f16_0⟩
  refine bind_ex rfl ?_
  refine bind_ex rfl ?_
  refine bind_ex rfl ?_
  refine bind_ex rfl ?_
  refine bind_ex rfl ?_
  refine new_k w16 fun H17 w17 s17=>?_
  refine st_k w17 (i:=0) rfl rfl rfl fun H18 w18 s18=>?_
  dsimp only [List.set] at w18 s18
  refine st_k w18 (i:=0) rfl rfl rfl fun H19 w19 s19=>?_
  dsimp only [List.set] at w19 s19
  refine bind_ex (ldSl_of (w19.ld (i:=0) rfl rfl)) ?_
  refine bind_ex (ldI_of (w19.ld (i:=0) rfl rfl)) ?_
  obtain ⟨w20,s20⟩:=w19.pick' [1,0,2,3,4,5] 6 rfl rfl rfl
  dsimp only [pk,pks,nth,List.drop] at w20 s20
  have f21:=W.borrow1 (ePair (eInt .i64) (ePair (eInt .i64) (ePair (eInt .i64) (ePair (eInt .i64) (eInt .i64))))) w20 (f16_0.step (s17.trans (s18.trans (s19.trans s20))))
  obtain ⟨w21,s21⟩:=w20.right1
  obtain ⟨r22,e22,hp⟩:=bind_some' hp
  refine call_ex (bP.P rfl ⟨w21,f21⟩ e22) ?_
  rintro _ H23 ⟨o2a_23,o2n_23,o2c_23,o2k_23,rfl,rfl,w23,s23,f23_0⟩
  obtain ⟨w24,s24⟩:=W.frame1 w20 w23 s23
  refine bind_ex rfl ?_
  refine bind_ex rfl ?_
  refine bind_ex rfl ?_
  refine bind_ex rfl ?_
  refine bind_ex rfl ?_
  refine bind_ex rfl ?_
  refine bind_ex rfl ?_
  refine bind_ex rfl ?_
  refine bind_ex rfl ?_
  refine bind_ex rfl ?_
  refine bind_ex rfl ?_
  refine new_k w24 fun H25 w25 s25=>?_
  refine st_k w25 (i:=0) rfl rfl rfl fun H26 w26 s26=>?_
  dsimp only [List.set] at w26 s26
  refine st_k w26 (i:=0) rfl rfl rfl fun H27 w27 s27=>?_
  dsimp only [List.set] at w27 s27
  refine st_k w27 (i:=0) rfl rfl rfl fun H28 w28 s28=>?_
  dsimp only [List.set] at w28 s28
  refine bind_ex (ldI_of (w28.ld (i:=0) rfl rfl)) ?_
  refine bind_ex (ldI_of (w28.ld (i:=0) rfl rfl)) ?_
  refine bind_ex (ldSl_of (w28.ld (i:=0) rfl rfl)) ?_
  refine bind_ex (ldI_of (w28.ld (i:=4) rfl rfl)) ?_
  refine bind_ex (ldI_of (w28.ld (i:=4) rfl rfl)) ?_
  refine bind_ex (ldSl_of (w28.ld (i:=4) rfl rfl)) ?_
  obtain ⟨w29,s29⟩:=w28.pick' [2,6,0,1,3,4,5,7] 8 rfl rfl rfl
  dsimp only [pk,pks,nth,List.drop] at w29 s29
  have f30:=W.borrow1 (eInt .i64) w29 ((CR.flat (eInt_flat .i64) f23_0).step (s25.trans (s26.trans (s27.trans (s28.trans s29)))))
  obtain ⟨w30,s30⟩:=w29.right1
  have f31:=W.borrow1 (eInt .i64) w30 (((CR.flat (eInt_flat .i64) f9_0).step (s11.trans (s12.trans (s13.trans (s14.trans (s16.trans (s17.trans (s18.trans (s19.trans (s20.trans (s24.trans (s25.trans (s26.trans (s27.trans (s28.trans s29))))))))))))))).step s30)
  obtain ⟨w31,s31⟩:=w30.right1
  obtain ⟨r32,e32,hp⟩:=bind_some' hp
  refine call_ex (bM.P rfl rfl ⟨w31,(f30.step s31),f31⟩ e32) ?_
  rintro _ H33 ⟨rfl,w33,s33,_⟩
  obtain ⟨w34,s34⟩:=W.frame1 w30 w33 s33
  obtain ⟨w35,s35⟩:=W.frame1 w29 w34 s34
  refine bind_ex rfl ?_
  refine bif_ex (fun hb=>?_) (fun hb=>?_)
  ·replace hp:=bif_t hb hp
   obtain ⟨w36,s36⟩:=w35.pick' [] 8 rfl rfl rfl
   dsimp only [pk,pks,nth,List.drop] at w36 s36
   obtain rfl:=Option.some.inj hp
   exact ⟨_,_,rfl,rfl,w36,(s0.trans (s1.trans (s3.trans (s6.trans (s10.trans (s11.trans (s12.trans (s13.trans (s14.trans (s16.trans (s17.trans (s18.trans (s19.trans (s20.trans (s24.trans (s25.trans (s26.trans (s27.trans (s28.trans (s29.trans (s35.trans s36))))))))))))))))))))),trivial⟩
  ·replace hp:=bif_f hb hp
   refine bif_ex (fun hb=>?_) (fun hb=>?_)
   ·replace hp:=bif_t hb hp
    obtain ⟨w37,s37⟩:=w35.pick' [] 8 rfl rfl rfl
    dsimp only [pk,pks,nth,List.drop] at w37 s37
    obtain rfl:=Option.some.inj hp
    exact ⟨_,_,rfl,rfl,w37,(s0.trans (s1.trans (s3.trans (s6.trans (s10.trans (s11.trans (s12.trans (s13.trans (s14.trans (s16.trans (s17.trans (s18.trans (s19.trans (s20.trans (s24.trans (s25.trans (s26.trans (s27.trans (s28.trans (s29.trans (s35.trans s37))))))))))))))))))))),trivial⟩
   ·replace hp:=bif_f hb hp
    refine bind_ex (ldSl_of (w35.ld (i:=4) rfl rfl)) ?_
    refine bind_ex (ldI_of (w35.ld (i:=4) rfl rfl)) ?_
    refine bind_ex (ldSl_of (w35.ld (i:=7) rfl rfl)) ?_
    refine bind_ex (ldI_of (w35.ld (i:=7) rfl rfl)) ?_
    obtain ⟨r38,e38,hp⟩:=bind_some' hp
    refine call_ex (bE.P rfl ⟨w35,(aK.step (s1.trans (s3.trans (s6.trans (s10.trans (s11.trans (s12.trans (s13.trans (s14.trans (s16.trans (s17.trans (s18.trans (s19.trans (s20.trans (s24.trans (s25.trans (s26.trans (s27.trans (s28.trans (s29.trans s35))))))))))))))))))))⟩ e38) ?_
    rintro _ H39 ⟨o0a_39,o0n_39,o0c_39,o0k_39,rfl,rfl,w39,s39,f39_0⟩
    refine bind_ex rfl ?_
    refine bind_ex rfl ?_
    refine bind_ex rfl ?_
    refine bind_ex rfl ?_
    refine bind_ex rfl ?_
    refine ifs_ex (W.cons_of (Rn:=[_]) w35 w39 s39) ?_
    obtain ⟨w41,s41⟩:=w39.pick' [4,0,1,2,3,5,6,7,8] 9 rfl rfl rfl
    dsimp only [pk,pks,nth,List.drop] at w41 s41
    have f42:=W.borrow1 (ePair (eInt .i64) (ePair (eInt .i64) (ePair (eInt .i64) (ePair (eInt .i64) (eInt .i64))))) w41 (f16_0.step (s17.trans (s18.trans (s19.trans (s20.trans (s24.trans (s25.trans (s26.trans (s27.trans (s28.trans (s29.trans (s35.trans (s39.trans s41)))))))))))))
    obtain ⟨w42,s42⟩:=w41.right1
    have f43:=W.borrow1 (ePair (eInt .i64) (ePair (eInt .i64) (ePair (eInt .i64) (ePair (eInt .i64) (eInt .i64))))) w42 ((f39_0.step s41).step s42)
    obtain ⟨w43,s43⟩:=w42.right1
    obtain ⟨r44,e44,hp⟩:=bind_some' hp
    refine call_ex (bU.P rfl rfl ⟨w43,(f42.step s43),f43⟩ e44) ?_
    rintro _ H45 ⟨rfl,w45,s45,_⟩
    obtain ⟨w46,s46⟩:=W.frame1 w42 w45 s45
    obtain ⟨w47,s47⟩:=W.frame1 w41 w46 s46
    refine bind_ex rfl ?_
    refine bif_ex (fun hb=>?_) (fun hb=>?_)
    ·replace hp:=bif_t hb hp
     obtain ⟨w48,s48⟩:=w47.pick' [] 9 rfl rfl rfl
     dsimp only [pk,pks,nth,List.drop] at w48 s48
     obtain rfl:=Option.some.inj hp
     exact ⟨_,_,rfl,rfl,w48,(s0.trans (s1.trans (s3.trans (s6.trans (s10.trans (s11.trans (s12.trans (s13.trans (s14.trans (s16.trans (s17.trans (s18.trans (s19.trans (s20.trans (s24.trans (s25.trans (s26.trans (s27.trans (s28.trans (s29.trans (s35.trans (s39.trans (s41.trans (s47.trans s48)))))))))))))))))))))))),trivial⟩
    ·replace hp:=bif_f hb hp
     refine bind_ex (ldSl_of (w47.ld (i:=5) rfl rfl)) ?_
     refine bind_ex (ldI_of (w47.ld (i:=5) rfl rfl)) ?_
     obtain ⟨r49,e49,hp⟩:=bind_some' hp
     refine call_ex (bV.P rfl ⟨w47,(f16_0.step (s17.trans (s18.trans (s19.trans (s20.trans (s24.trans (s25.trans (s26.trans (s27.trans (s28.trans (s29.trans (s35.trans (s39.trans (s41.trans s47))))))))))))))⟩ e49) ?_
     rintro _ H50 ⟨aeK,rfl,hl50_0,w50,s50,f50_0⟩
     refine bind_ex rfl ?_
     refine bif_ex (fun hb=>?_) (fun hb=>?_)
     ·replace hp:=bif_t hb hp
      obtain ⟨w51,s51⟩:=w50.pick' [] 9 rfl rfl rfl
      dsimp only [pk,pks,nth,List.drop] at w51 s51
      obtain rfl:=Option.some.inj hp
      exact ⟨_,_,rfl,rfl,w51,(s0.trans (s1.trans (s3.trans (s6.trans (s10.trans (s11.trans (s12.trans (s13.trans (s14.trans (s16.trans (s17.trans (s18.trans (s19.trans (s20.trans (s24.trans (s25.trans (s26.trans (s27.trans (s28.trans (s29.trans (s35.trans (s39.trans (s41.trans (s47.trans (s50.trans s51))))))))))))))))))))))))),trivial⟩
     ·replace hp:=bif_f hb hp
      refine bind_ex (ldI_of (w50.ld (i:=4) rfl rfl)) ?_
      refine bind_ex (ldI_of (w50.ld (i:=4) rfl rfl)) ?_
      refine bind_ex (ldSl_of (w50.ld (i:=4) rfl rfl)) ?_
      refine bind_ex (ldI_of (w50.ld (i:=6) rfl rfl)) ?_
      refine bind_ex (ldI_of (w50.ld (i:=6) rfl rfl)) ?_
      refine bind_ex (ldSl_of (w50.ld (i:=6) rfl rfl)) ?_
      obtain ⟨w52,s52⟩:=w50.pick' [2,3,0,1,4,5,6,7,8] 9 rfl rfl rfl
      dsimp only [pk,pks,nth,List.drop] at w52 s52
      have f53:=W.borrow1 (eInt .i64) w52 ((CR.flat (eInt_flat .i64) f23_0).step (s25.trans (s26.trans (s27.trans (s28.trans (s29.trans (s35.trans (s39.trans (s41.trans (s47.trans (s50.trans s52)))))))))))
      obtain ⟨w53,s53⟩:=w52.right1
      have f54:=W.borrow1 (eInt .i64) w53 (((CR.flat (eInt_flat .i64) f9_0).step (s11.trans (s12.trans (s13.trans (s14.trans (s16.trans (s17.trans (s18.trans (s19.trans (s20.trans (s24.trans (s25.trans (s26.trans (s27.trans (s28.trans (s29.trans (s35.trans (s39.trans (s41.trans (s47.trans (s50.trans s52))))))))))))))))))))).step s53)
      obtain ⟨w54,s54⟩:=w53.right1
      obtain ⟨r55,e55,hp⟩:=bind_some' hp
      refine call_ex (bM.P rfl rfl ⟨w54,(f53.step s54),f54⟩ e55) ?_
      rintro _ H56 ⟨rfl,w56,s56,_⟩
      obtain ⟨w57,s57⟩:=W.frame1 w53 w56 s56
      obtain ⟨w58,s58⟩:=W.frame1 w52 w57 s57
      refine bind_ex rfl ?_
      refine bif_ex (fun hb=>?_) (fun hb=>?_)
      ·replace hp:=bif_t hb hp
       obtain ⟨w59,s59⟩:=w58.pick' [] 9 rfl rfl rfl
       dsimp only [pk,pks,nth,List.drop] at w59 s59
       obtain rfl:=Option.some.inj hp
       exact ⟨_,_,rfl,rfl,w59,(s0.trans (s1.trans (s3.trans (s6.trans (s10.trans (s11.trans (s12.trans (s13.trans (s14.trans (s16.trans (s17.trans (s18.trans (s19.trans (s20.trans (s24.trans (s25.trans (s26.trans (s27.trans (s28.trans (s29.trans (s35.trans (s39.trans (s41.trans (s47.trans (s50.trans (s52.trans (s58.trans s59))))))))))))))))))))))))))),trivial⟩
      ·replace hp:=bif_f hb hp
       refine bif_ex (fun hb=>?_) (fun hb=>?_)
       ·replace hp:=bif_t hb hp
        obtain ⟨w60,s60⟩:=w58.pick' [] 9 rfl rfl rfl
        dsimp only [pk,pks,nth,List.drop] at w60 s60
        obtain rfl:=Option.some.inj hp
        exact ⟨_,_,rfl,rfl,w60,(s0.trans (s1.trans (s3.trans (s6.trans (s10.trans (s11.trans (s12.trans (s13.trans (s14.trans (s16.trans (s17.trans (s18.trans (s19.trans (s20.trans (s24.trans (s25.trans (s26.trans (s27.trans (s28.trans (s29.trans (s35.trans (s39.trans (s41.trans (s47.trans (s50.trans (s52.trans (s58.trans s60))))))))))))))))))))))))))),trivial⟩
       ·replace hp:=bif_f hb hp
        refine bind_ex (ldI_of (w58.ld (i:=4) rfl rfl)) ?_
        refine bind_ex (ldI_of (w58.ld (i:=4) rfl rfl)) ?_
        refine bind_ex (ldSl_of (w58.ld (i:=4) rfl rfl)) ?_
        obtain ⟨r61,e61,hp⟩:=bind_some' hp
        refine call_ex (cg.P rfl ⟨w58,((CR.flat (eInt_flat .i64) f23_0).step (s25.trans (s26.trans (s27.trans (s28.trans (s29.trans (s35.trans (s39.trans (s41.trans (s47.trans (s50.trans (s52.trans s58))))))))))))⟩ e61) ?_
        rintro _ H62 ⟨aeL,rfl,hl62_0,w62,s62,f62_0⟩
        refine bind_ex rfl ?_
        refine bind_ex (ldI_of (w62.ld (i:=4) rfl rfl)) ?_
        refine bind_ex (ldI_of (w62.ld (i:=4) rfl rfl)) ?_
        refine bind_ex (ldSl_of (w62.ld (i:=4) rfl rfl)) ?_
        have f63:=W.borrow1 (eInt .i64) w62 f62_0
        obtain ⟨w63,s63⟩:=w62.right1
        obtain ⟨r64,e64,hp⟩:=bind_some' hp
        refine call_ex (bR.P hl62_0 ⟨w63,f63⟩ e64) ?_
        rintro _ H65 ⟨rfl,w65,s65,_⟩
        obtain ⟨w66,s66⟩:=W.frame1 w62 w65 s65
        refine bind_ex rfl ?_
        refine bif_ex (fun hb=>?_) (fun hb=>?_)
        ·replace hp:=bif_t hb hp
         obtain ⟨w67,s67⟩:=w66.pick' [] 9 rfl rfl rfl
         dsimp only [pk,pks,nth,List.drop] at w67 s67
         obtain rfl:=Option.some.inj hp
         exact ⟨_,_,rfl,rfl,w67,(s0.trans (s1.trans (s3.trans (s6.trans (s10.trans (s11.trans (s12.trans (s13.trans (s14.trans (s16.trans (s17.trans (s18.trans (s19.trans (s20.trans (s24.trans (s25.trans (s26.trans (s27.trans (s28.trans (s29.trans (s35.trans (s39.trans (s41.trans (s47.trans (s50.trans (s52.trans (s58.trans (s62.trans (s66.trans s67))))))))))))))))))))))))))))),trivial⟩
        ·replace hp:=bif_f hb hp
         refine bif_ex (fun hb=>?_) (fun hb=>?_)
         ·replace hp:=bif_t hb hp
          obtain ⟨w68,s68⟩:=w66.pick' [] 9 rfl rfl rfl
          dsimp only [pk,pks,nth,List.drop] at w68 s68
          obtain rfl:=Option.some.inj hp
          exact ⟨_,_,rfl,rfl,w68,(s0.trans (s1.trans (s3.trans (s6.trans (s10.trans (s11.trans (s12.trans (s13.trans (s14.trans (s16.trans (s17.trans (s18.trans (s19.trans (s20.trans (s24.trans (s25.trans (s26.trans (s27.trans (s28.trans (s29.trans (s35.trans (s39.trans (s41.trans (s47.trans (s50.trans (s52.trans (s58.trans (s62.trans (s66.trans s68))))))))))))))))))))))))))))),trivial⟩
         ·replace hp:=bif_f hb hp
          refine bind_ex (ldSl_of (w66.ld (i:=8) rfl rfl)) ?_
          refine bind_ex (ldI_of (w66.ld (i:=8) rfl rfl)) ?_
          obtain ⟨r69,e69,hp⟩:=bind_some' hp
          refine call_ex (bE.P rfl ⟨w66,(aK.step (s1.trans (s3.trans (s6.trans (s10.trans (s11.trans (s12.trans (s13.trans (s14.trans (s16.trans (s17.trans (s18.trans (s19.trans (s20.trans (s24.trans (s25.trans (s26.trans (s27.trans (s28.trans (s29.trans (s35.trans (s39.trans (s41.trans (s47.trans (s50.trans (s52.trans (s58.trans (s62.trans s66))))))))))))))))))))))))))))⟩ e69) ?_
          rintro _ H70 ⟨o0a_70,o0n_70,o0c_70,o0k_70,rfl,rfl,w70,s70,f70_0⟩
          refine bind_ex rfl ?_
          refine bind_ex rfl ?_
          refine bind_ex rfl ?_
          refine bind_ex rfl ?_
          refine bind_ex rfl ?_
          have f71:=W.borrow1 (ePair (eInt .i64) (ePair (eInt .i64) (ePair (eInt .i64) (ePair (eInt .i64) (eInt .i64))))) w70 f70_0
          obtain ⟨w71,s71⟩:=w70.right1
          obtain ⟨r72,e72,hp⟩:=bind_some' hp
          refine call_ex (bP.P rfl ⟨w71,f71⟩ e72) ?_
          rintro _ H73 ⟨o2a_73,o2n_73,o2c_73,o2k_73,rfl,rfl,w73,s73,f73_0⟩
          obtain ⟨w74,s74⟩:=W.frame1 w70 w73 s73
          refine bind_ex rfl ?_
          refine bind_ex rfl ?_
          refine bind_ex rfl ?_
          refine bind_ex rfl ?_
          refine bind_ex rfl ?_
          refine bind_ex rfl ?_
          refine bind_ex rfl ?_
          refine bind_ex rfl ?_
          refine bind_ex rfl ?_
          refine bind_ex rfl ?_
          refine bind_ex rfl ?_
          refine new_k w74 fun H75 w75 s75=>?_
          refine st_k w75 (i:=0) rfl rfl rfl fun H76 w76 s76=>?_
          dsimp only [List.set] at w76 s76
          refine st_k w76 (i:=0) rfl rfl rfl fun H77 w77 s77=>?_
          dsimp only [List.set] at w77 s77
          refine st_k w77 (i:=0) rfl rfl rfl fun H78 w78 s78=>?_
          dsimp only [List.set] at w78 s78
          refine bind_ex (ldI_of (w78.ld (i:=0) rfl rfl)) ?_
          refine bind_ex (ldI_of (w78.ld (i:=0) rfl rfl)) ?_
          refine bind_ex (ldSl_of (w78.ld (i:=0) rfl rfl)) ?_
          refine bind_ex (ldI_of (w78.ld (i:=9) rfl rfl)) ?_
          refine bind_ex (ldI_of (w78.ld (i:=9) rfl rfl)) ?_
          refine bind_ex (ldSl_of (w78.ld (i:=9) rfl rfl)) ?_
          obtain ⟨w79,s79⟩:=w78.pick' [2,4,0,1,3,5,6,7,8,9,10,11] 12 rfl rfl rfl
          dsimp only [pk,pks,nth,List.drop] at w79 s79
          have f80:=W.borrow1 (eInt .i64) w79 ((CR.flat (eInt_flat .i64) f73_0).step (s75.trans (s76.trans (s77.trans (s78.trans s79)))))
          obtain ⟨w80,s80⟩:=w79.right1
          have f81:=W.borrow1 (eInt .i64) w80 (((CR.flat (eInt_flat .i64) f9_0).step (s11.trans (s12.trans (s13.trans (s14.trans (s16.trans (s17.trans (s18.trans (s19.trans (s20.trans (s24.trans (s25.trans (s26.trans (s27.trans (s28.trans (s29.trans (s35.trans (s39.trans (s41.trans (s47.trans (s50.trans (s52.trans (s58.trans (s62.trans (s66.trans (s70.trans (s74.trans (s75.trans (s76.trans (s77.trans (s78.trans s79))))))))))))))))))))))))))))))).step s80)
          obtain ⟨w81,s81⟩:=w80.right1
          obtain ⟨r82,e82,hp⟩:=bind_some' hp
          refine call_ex (bM.P rfl rfl ⟨w81,(f80.step s81),f81⟩ e82) ?_
          rintro _ H83 ⟨rfl,w83,s83,_⟩
          obtain ⟨w84,s84⟩:=W.frame1 w80 w83 s83
          obtain ⟨w85,s85⟩:=W.frame1 w79 w84 s84
          refine bind_ex rfl ?_
          refine bif_ex (fun hb=>?_) (fun hb=>?_)
          ·replace hp:=bif_t hb hp
           obtain ⟨w86,s86⟩:=w85.pick' [] 12 rfl rfl rfl
           dsimp only [pk,pks,nth,List.drop] at w86 s86
           obtain rfl:=Option.some.inj hp
           exact ⟨_,_,rfl,rfl,w86,(s0.trans (s1.trans (s3.trans (s6.trans (s10.trans (s11.trans (s12.trans (s13.trans (s14.trans (s16.trans (s17.trans (s18.trans (s19.trans (s20.trans (s24.trans (s25.trans (s26.trans (s27.trans (s28.trans (s29.trans (s35.trans (s39.trans (s41.trans (s47.trans (s50.trans (s52.trans (s58.trans (s62.trans (s66.trans (s70.trans (s74.trans (s75.trans (s76.trans (s77.trans (s78.trans (s79.trans (s85.trans s86))))))))))))))))))))))))))))))))))))),trivial⟩
          ·replace hp:=bif_f hb hp
           refine bif_ex (fun hb=>?_) (fun hb=>?_)
           ·replace hp:=bif_t hb hp
            obtain ⟨w87,s87⟩:=w85.pick' [] 12 rfl rfl rfl
            dsimp only [pk,pks,nth,List.drop] at w87 s87
            obtain rfl:=Option.some.inj hp
            exact ⟨_,_,rfl,rfl,w87,(s0.trans (s1.trans (s3.trans (s6.trans (s10.trans (s11.trans (s12.trans (s13.trans (s14.trans (s16.trans (s17.trans (s18.trans (s19.trans (s20.trans (s24.trans (s25.trans (s26.trans (s27.trans (s28.trans (s29.trans (s35.trans (s39.trans (s41.trans (s47.trans (s50.trans (s52.trans (s58.trans (s62.trans (s66.trans (s70.trans (s74.trans (s75.trans (s76.trans (s77.trans (s78.trans (s79.trans (s85.trans s87))))))))))))))))))))))))))))))))))))),trivial⟩
           ·replace hp:=bif_f hb hp
            refine bind_ex (ldI_of (w85.ld (i:=7) rfl rfl)) ?_
            refine bind_ex (ldI_of (w85.ld (i:=7) rfl rfl)) ?_
            refine bind_ex (ldSl_of (w85.ld (i:=7) rfl rfl)) ?_
            obtain ⟨w88,s88⟩:=w85.pick' [4,0,1,2,3,5,6,7,8,9,10,11] 12 rfl rfl rfl
            dsimp only [pk,pks,nth,List.drop] at w88 s88
            have f89:=W.borrow1 (eInt .i64) w88 (f62_0.step (s66.trans (s70.trans (s74.trans (s75.trans (s76.trans (s77.trans (s78.trans (s79.trans (s85.trans s88))))))))))
            obtain ⟨w89,s89⟩:=w88.right1
            obtain ⟨r90,e90,hp⟩:=bind_some' hp
            refine call_ex (bR.P hl62_0 ⟨w89,f89⟩ e90) ?_
            rintro _ H91 ⟨rfl,w91,s91,_⟩
            obtain ⟨w92,s92⟩:=W.frame1 w88 w91 s91
            refine bind_ex rfl ?_
            refine bif_ex (fun hb=>?_) (fun hb=>?_)
            ·replace hp:=bif_t hb hp
             obtain ⟨w93,s93⟩:=w92.pick' [] 12 rfl rfl rfl
             dsimp only [pk,pks,nth,List.drop] at w93 s93
             obtain rfl:=Option.some.inj hp
             exact ⟨_,_,rfl,rfl,w93,(s0.trans (s1.trans (s3.trans (s6.trans (s10.trans (s11.trans (s12.trans (s13.trans (s14.trans (s16.trans (s17.trans (s18.trans (s19.trans (s20.trans (s24.trans (s25.trans (s26.trans (s27.trans (s28.trans (s29.trans (s35.trans (s39.trans (s41.trans (s47.trans (s50.trans (s52.trans (s58.trans (s62.trans (s66.trans (s70.trans (s74.trans (s75.trans (s76.trans (s77.trans (s78.trans (s79.trans (s85.trans (s88.trans (s92.trans s93))))))))))))))))))))))))))))))))))))))),trivial⟩
            ·replace hp:=bif_f hb hp
             refine bif_ex (fun hb=>?_) (fun hb=>?_)
             ·replace hp:=bif_t hb hp
              obtain ⟨w94,s94⟩:=w92.pick' [] 12 rfl rfl rfl
              dsimp only [pk,pks,nth,List.drop] at w94 s94
              obtain rfl:=Option.some.inj hp
              exact ⟨_,_,rfl,rfl,w94,(s0.trans (s1.trans (s3.trans (s6.trans (s10.trans (s11.trans (s12.trans (s13.trans (s14.trans (s16.trans (s17.trans (s18.trans (s19.trans (s20.trans (s24.trans (s25.trans (s26.trans (s27.trans (s28.trans (s29.trans (s35.trans (s39.trans (s41.trans (s47.trans (s50.trans (s52.trans (s58.trans (s62.trans (s66.trans (s70.trans (s74.trans (s75.trans (s76.trans (s77.trans (s78.trans (s79.trans (s85.trans (s88.trans (s92.trans s94))))))))))))))))))))))))))))))))))))))),trivial⟩
             ·replace hp:=bif_f hb hp
              obtain ⟨w95,s95⟩:=w92.pick' [] 12 rfl rfl rfl
              dsimp only [pk,pks,nth,List.drop] at w95 s95
              obtain rfl:=Option.some.inj hp
              exact ⟨_,_,rfl,rfl,w95,(s0.trans (s1.trans (s3.trans (s6.trans (s10.trans (s11.trans (s12.trans (s13.trans (s14.trans (s16.trans (s17.trans (s18.trans (s19.trans (s20.trans (s24.trans (s25.trans (s26.trans (s27.trans (s28.trans (s29.trans (s35.trans (s39.trans (s41.trans (s47.trans (s50.trans (s52.trans (s58.trans (s62.trans (s66.trans (s70.trans (s74.trans (s75.trans (s76.trans (s77.trans (s78.trans (s79.trans (s85.trans (s88.trans (s92.trans s95))))))))))))))))))))))))))))))))))))))),trivial⟩
end Go.Proofs.Ythfinhmkgdmelaa.AE
