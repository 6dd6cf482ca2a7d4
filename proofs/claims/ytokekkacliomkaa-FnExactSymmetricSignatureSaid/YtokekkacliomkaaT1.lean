import Derived.Test.YtokekkacliomkaaTab1
set_option linter.unusedVariables false
set_option linter.unusedSimpArgs false
namespace Go.Proofs.Ytokekkacliomkaa.AE
open Go Go.AE Go.Proofs IntKind
variable (F:Nat)
set_option linter.unusedVariables false
set_option maxHeartbeats 4000000
set_option maxRecDepth 100000
noncomputable section
def dO.twX (F:Nat) (aa:Sl) (aI:Int) (H:Hp):OA:=(bif (decide ((wrap .i64 (aI - (aa.n:Int)))<0)) then (some ((.int .i64 (-1)),H)) else (some ((.int .i64 (wrap .i64 (aI - (aa.n:Int)))),H)))
def dO.tw:=dO.twX F
def mk0 (g:aby) (args:aba) (H:Hp):OA:=match args with
 | [(.sl aa),(.int .i64 aI)]=>g aa aI H
 | _=>none
theorem mk0_E (g:aby) (aa:Sl) (aI:Int) (H:Hp):mk0 g [(.sl aa),(.int .i64 aI)] H=g aa aI H:=rfl
theorem dO.k:Ok Try.prog 92 (mk0 (dO.tw F)):=by
 intro args H v H' h
 unfold mk0 at h
 split at h
 ·exact ok0 Try.func92 (Eq.trans (by kernel_rfl) h) (by kernel_rfl) (by kernel_rfl)
 ·cases h
def df.twX (F:Nat) (nk:aby) (aa:Int) (ac:Int) (ar:Sl) (aC:Int) (H:Hp):OA:=(Hp.new H [(.int .i64 aa),(.int .i64 ac),(.sl ar)]).bind λH5=>(Hp.ldSl H5 H.length 2).bind λs6=>(nk s6 aC H5).bind λr7=>((r7.1).asI .i64).bind λn8=>(bif (decide (n8<0)) then (some ((.int .i64 (-1)),r7.2)) else (some ((.int .i64 n8),r7.2)))
def df.tw:=df.twX F (dO.tw F)
def mk1 (g:aa4) (args:aba) (H:Hp):OA:=match args with
 | [(.agg [(.int .i64 aa),(.int .i64 ac),(.sl ar)]),(.int .i64 aC)]=>g aa ac ar aC H
 | _=>none
theorem mk1_E (g:aa4) (aa:Int) (ac:Int) (ar:Sl) (aC:Int) (H:Hp):mk1 g [(.agg [(.int .i64 aa),(.int .i64 ac),(.sl ar)]),(.int .i64 aC)] H=g aa ac ar aC H:=rfl
def df.cs (F:Nat) (nk:aby):Cs:=[(92,mk0 nk)]
theorem df.eqX (nk:aby) (aa:Int) (ac:Int) (ar:Sl) (aC:Int) (H:Hp):EX (bH (df.cs F nk)) bR lh0 F Try.f36 [(.agg [(.int .i64 aa),(.int .i64 ac),(.sl ar)]),(.int .i64 aC)] H=df.twX F nk aa ac ar aC H:=by kernel_rfl
theorem df.k:Ok Try.prog 36 (mk1 (df.tw F)):=by
 intro args H v H' h
 unfold mk1 at h
 split at h
 ·exact okT (TB:=bR) Try.func36 (bF (dO.k F) cO) ae.no ((df.eqX F (dO.tw F) _ _ _ _ H).trans h) (by kernel_rfl)
 ·cases h
def bG.l29 (F:Nat) :Nat->Sl->Sl->Int->Hp->OA
 | 0,_,_,_,_=>none
 | cf+1,eG,rr,eP,H7=>(bif (decide (eP<(eG.n:Int))) then ((Sl.idx eG eP 1).bind λp12=>(Hp.ldI H7 .i64 p12.1 p12.2).bind λn13=>(Sl.idx rr eP 1).bind λp14=>(Hp.st H7 p14.1 p14.2 (.int .i64 n13)).bind λH15=>bG.l29 F cf eG rr (wrap .i64 (eP+1)) H15) else (some ((.sl rr),H7)))
def bG.twX (aa:Sl) (H:Hp):OA:=(Hp.mk H [.int .i64 0] 8 (aa.n:Int) (aa.n:Int)).bind λm2=>bG.l29 F F aa m2.1 0 m2.2
def bG.tw:=bG.twX F
def bG.lh29 (ks:aa1) (n:Nat) (tm:Tm) (H:Hp):OA:=match ks,tm 0,tm 3,tm 4 with
 | [],(.sl eG),(.sl rr),(.int .i64 eP)=>bG.l29 F n eG rr eP H
 | _,_,_,_=>none
def bG.lh (p:Nat) (ks:aa1) (n:Nat) (tm:Tm) (H:Hp):OA:=bif p.beq 29 then bG.lh29 F ks n tm H else (none)
def mk2 (g:aa3) (args:aba) (H:Hp):OA:=match args with
 | [(.sl aa)]=>g aa H
 | _=>none
theorem mk2_E (g:aa3) (aa:Sl) (H:Hp):mk2 g [(.sl aa)] H=g aa H:=rfl
theorem bG.loops:LO (bH []) bR (bG.lh F) F Try.f93:=
 (ae.rt (ae.rt (ae.lt (ae.rt (ae.block (ae.la (λn tm H r h=>by change bG.lh29 F [] n tm H=_ at h;unfold bG.lh29 at h;split at h;have e:ck tm [(0,_),(3,_),(4,_)]:=⟨‹_›,‹_›,‹_›,trivial⟩;obtain _ | k29:=n;cases h;exact ⟨_,rfl,by rw [<- co e];exact Eq.trans (by kernel_rfl) h⟩;cases h) λk29=>ae.no))))))
theorem bG.k:Ok Try.prog 93 (mk2 (bG.tw F)):=by
 intro args H v H' h
 unfold mk2 at h
 split at h
 ·exact okT (PN:=bR) (LH:=(bG.lh F)) (F:=F) (TB:=bR) Try.func93 cO (bG.loops F) (Eq.trans (by kernel_rfl) h) (by kernel_rfl)
 ·cases h
def cG.twX (F:Nat) (nl:aa3) (aa:Int) (ac:Int) (ar:Sl) (H:Hp):OA:=(Hp.new H [(.int .i64 aa),(.int .i64 ac),(.sl ar)]).bind λH4=>(Hp.new H4 [.int .i64 0,.int .i64 0,.sl ⟨none,0,.ex 0⟩]).bind λH5=>(Hp.new H5 [.int .i64 0,.int .i64 0,.sl ⟨none,0,.ex 0⟩]).bind λH6=>(Hp.ldI H6 .i64 H.length 0).bind λn7=>(Hp.st H6 H5.length 0 (.int .i64 n7)).bind λH8=>(Hp.ldI H8 .i64 H.length 1).bind λn9=>(Hp.st H8 H5.length 1 (.int .i64 n9)).bind λH10=>(Hp.ldSl H10 H.length 2).bind λs11=>(nl s11 H10).bind λr12=>((r12.1).asSl).bind λs13=>(Hp.st r12.2 H5.length 2 (.sl s13)).bind λH14=>(Hp.ldI H14 .i64 H5.length 0).bind λn15=>(Hp.ldI H14 .i64 H5.length (0+1)).bind λn16=>(Hp.ldSl H14 H5.length (0+2)).bind λs17=>(Hp.st H14 H4.length 0 (.int .i64 n15)).bind λH18=>(Hp.st H18 H4.length (0+1) (.int .i64 n16)).bind λH19=>(Hp.st H19 H4.length (0+1+1) (.sl s17)).bind λH20=>(Hp.ldI H20 .i64 H4.length 0).bind λn21=>(Hp.ldI H20 .i64 H4.length (0+1)).bind λn22=>(Hp.ldSl H20 H4.length (0+2)).bind λs23=>some ((.agg [(.int .i64 n21),(.int .i64 n22),(.sl s23)]),H20)
def cG.tw:=cG.twX F (bG.tw F)
def mk3 (g:aaY) (args:aba) (H:Hp):OA:=match args with
 | [(.agg [(.int .i64 aa),(.int .i64 ac),(.sl ar)])]=>g aa ac ar H
 | _=>none
theorem mk3_E (g:aaY) (aa:Int) (ac:Int) (ar:Sl) (H:Hp):mk3 g [(.agg [(.int .i64 aa),(.int .i64 ac),(.sl ar)])] H=g aa ac ar H:=rfl
def cG.cs (F:Nat) (nl:aa3):Cs:=[(93,mk2 nl)]
theorem cG.eqX (nl:aa3) (aa:Int) (ac:Int) (ar:Sl) (H:Hp):EX (bH (cG.cs F nl)) bR lh0 F Try.f37 [(.agg [(.int .i64 aa),(.int .i64 ac),(.sl ar)])] H=cG.twX F nl aa ac ar H:=by kernel_rfl
theorem cG.k:Ok Try.prog 37 (mk3 (cG.tw F)):=by
 intro args H v H' h
 unfold mk3 at h
 split at h
 ·exact okT (TB:=bR) Try.func37 (bF (bG.k F) cO) ae.no ((cG.eqX F (bG.tw F) _ _ _ H).trans h) (by kernel_rfl)
 ·cases h
def c_.twX (F:Nat) (aa:Int) (aI:Int) (di:Int) (H:Hp):OA:=(bif (decide (aa>=aI)) then (some ((.bool (decide (aa<=di))),H)) else (some ((.bool false),H)))
def c_.tw:=c_.twX F
def mk4 (g:aa6) (args:aba) (H:Hp):OA:=match args with
 | [(.int .i64 aa),(.int .i64 aI),(.int .i64 di)]=>g aa aI di H
 | _=>none
theorem mk4_E (g:aa6) (aa:Int) (aI:Int) (di:Int) (H:Hp):mk4 g [(.int .i64 aa),(.int .i64 aI),(.int .i64 di)] H=g aa aI di H:=rfl
theorem c_.k:Ok Try.prog 70 (mk4 (c_.tw F)):=by
 intro args H v H' h
 unfold mk4 at h
 split at h
 ·exact ok0 Try.func70 (Eq.trans (by kernel_rfl) h) (by kernel_rfl) (by kernel_rfl)
 ·cases h
def aY.l29 (F:Nat) (dH:aa6) :Nat->Nat->Nat->Int->Hp->OA
 | 0,_,_,_,_=>none
 | cf+1,jz,ru,fH,H22=>(Hp.ldSl H22 jz (ru+2)).bind λs29=>(bif (decide (fH<(s29.n:Int))) then ((Hp.ldSl H22 jz (ru+2)).bind λs30=>(Sl.idx s30 fH 1).bind λp31=>(Hp.ldI H22 .i64 p31.1 p31.2).bind λn32=>(dH n32 (-1000000000000) 1000000000000 H22).bind λr33=>((r33.1).asB).bind λb34=>(bif (!b34) then (some ((.bool false),r33.2)) else (aY.l29 F dH cf jz ru (wrap .i64 (fH+1)) r33.2))) else (some ((.bool true),H22)))
termination_by structural n=>n
def aY.twX (dH:aa6) (aa:Int) (ac:Int) (ar:Sl) (H:Hp):OA:=(Hp.new H [(.int .i64 aa),(.int .i64 ac),(.sl ar)]).bind λH4=>(Hp.ldI H4 .i64 H.length 0).bind λn5=>(dH n5 0 48 H4).bind λr6=>((r6.1).asB).bind λb7=>(bif (!b7) then (some ((.bool false),r6.2)) else ((Hp.ldI r6.2 .i64 H.length 1).bind λn8=>(dH n8 0 48 r6.2).bind λr9=>((r9.1).asB).bind λb10=>(bif (!b10) then (some ((.bool false),r9.2)) else ((Hp.ldSl r9.2 H.length 2).bind λs11=>(Hp.ldI r9.2 .i64 H.length 0).bind λn12=>(Hp.ldI r9.2 .i64 H.length 1).bind λn13=>(bif ((s11.n:Int) != (wrap .i64 (n12 * n13))) then (some ((.bool false),r9.2)) else (aY.l29 F dH F H.length 0 0 r9.2))))))
def aY.tw:=aY.twX F (c_.tw F)
def aY.lh29 (dH:aa6) (ks:aa1) (n:Nat) (tm:Tm) (H:Hp):OA:=match ks,tm 1,tm 3 with
 | [],(.ptr jz ru),(.int .i64 fH)=>aY.l29 F dH n jz ru fH H
 | _,_,_=>none
def aY.lh (dH:aa6) (p:Nat) (ks:aa1) (n:Nat) (tm:Tm) (H:Hp):OA:=bif p.beq 29 then aY.lh29 F dH ks n tm H else (none)
def aY.cs (F:Nat) (dH:aa6):Cs:=[(70,mk4 dH)]
theorem aY.loops (dH:aa6):LO (bH (aY.cs F dH)) bR (aY.lh F dH) F Try.f29:=
 (ae.rt (ae.rt (ae.lt (ae.rt (ae.block (ae.la (λn tm H r h=>by change aY.lh29 F dH [] n tm H=_ at h;unfold aY.lh29 at h;split at h;have e:ck tm [(1,_),(3,_)]:=⟨‹_›,‹_›,trivial⟩;obtain _ | k29:=n;cases h;exact ⟨_,rfl,by rw [<- co e];exact Eq.trans (by kernel_rfl) h⟩;cases h) λk29=>ae.no))))))
theorem aY.eqX (dH:aa6) (aa:Int) (ac:Int) (ar:Sl) (H:Hp):EX (bH (aY.cs F dH)) bR (aY.lh F dH) F Try.f29 [(.agg [(.int .i64 aa),(.int .i64 ac),(.sl ar)])] H=aY.twX F dH aa ac ar H:=by kernel_rfl
theorem aY.k:Ok Try.prog 29 (mk3 (aY.tw F)):=by
 intro args H v H' h
 unfold mk3 at h
 split at h
 ·exact okT (TB:=bR) Try.func29 (bF (c_.k F) cO) (aY.loops F (c_.tw F)) ((aY.eqX F (c_.tw F) _ _ _ H).trans h) (by kernel_rfl)
 ·cases h
def bS.twX (F:Nat) (aa:Int) (aI:Int) (H:Hp):OA:=(Hp.new H [.int .i64 0,.int .i64 0,.sl ⟨none,0,.ex 0⟩]).bind λH3=>(Hp.mk H3 [.int .i64 0] 8 (wrap .i64 (aa * aI)) (wrap .i64 (aa * aI))).bind λm4=>(Hp.st m4.2 H.length 0 (.int .i64 aa)).bind λH5=>(Hp.st H5 H.length (0+1) (.int .i64 aI)).bind λH6=>(Hp.st H6 H.length (0+1+1) (.sl m4.1)).bind λH7=>(Hp.ldI H7 .i64 H.length 0).bind λn8=>(Hp.ldI H7 .i64 H.length (0+1)).bind λn9=>(Hp.ldSl H7 H.length (0+2)).bind λs10=>some ((.agg [(.int .i64 n8),(.int .i64 n9),(.sl s10)]),H7)
def bS.tw:=bS.twX F
def mk5 (g:aa0) (args:aba) (H:Hp):OA:=match args with
 | [(.int .i64 aa),(.int .i64 aI)]=>g aa aI H
 | _=>none
theorem mk5_E (g:aa0) (aa:Int) (aI:Int) (H:Hp):mk5 g [(.int .i64 aa),(.int .i64 aI)] H=g aa aI H:=rfl
theorem bS.k:Ok Try.prog 63 (mk5 (bS.tw F)):=by
 intro args H v H' h
 unfold mk5 at h
 split at h
 ·exact ok0 Try.func63 (Eq.trans (by kernel_rfl) h) (by kernel_rfl) (by kernel_rfl)
 ·cases h
def aE.twX (F:Nat) (aa:Int) (ac:Int) (ar:Sl) (aC:Int) (cp:Int) (H:Hp):OA:=(Hp.new H [(.int .i64 aa),(.int .i64 ac),(.sl ar)]).bind λH6=>(Hp.ldSl H6 H.length 2).bind λs7=>(Hp.ldI H6 .i64 H.length 1).bind λn8=>(Sl.idx s7 (wrap .i64 ((wrap .i64 (aC * n8))+cp)) 1).bind λp9=>(Hp.ldI H6 .i64 p9.1 p9.2).bind λn10=>some ((.int .i64 n10),H6)
def aE.tw:=aE.twX F
def mk6 (g:aaW) (args:aba) (H:Hp):OA:=match args with
 | [(.agg [(.int .i64 aa),(.int .i64 ac),(.sl ar)]),(.int .i64 aC),(.int .i64 cp)]=>g aa ac ar aC cp H
 | _=>none
theorem mk6_E (g:aaW) (aa:Int) (ac:Int) (ar:Sl) (aC:Int) (cp:Int) (H:Hp):mk6 g [(.agg [(.int .i64 aa),(.int .i64 ac),(.sl ar)]),(.int .i64 aC),(.int .i64 cp)] H=g aa ac ar aC cp H:=rfl
theorem aE.k:Ok Try.prog 62 (mk6 (aE.tw F)):=by
 intro args H v H' h
 unfold mk6 at h
 split at h
 ·exact ok0 Try.func62 (Eq.trans (by kernel_rfl) h) (by kernel_rfl) (by kernel_rfl)
 ·cases h
def av.j3 (F:Nat) (bY:aaY) (aQ:aa0) (ai:aaW) (C61_:abj) (ur:Nat) (Pg:Nat) (ut:Nat) (Ph:Nat) (uu:Nat) (Pj:Nat) (nm:Int) (H171:Hp):OA:=C61_ ur Pg ut Ph uu Pj (wrap .i64 (nm+1)) H171
def av.j4 (bY:aaY) (aQ:aa0) (ai:aaW) (C61_:abj) (uv:Nat) (Pm:Nat) (uw:Nat) (Pn:Nat) (ux:Nat) (Po:Nat) (nn:Int) (H156:Hp):OA:=av.j3 F bY aQ ai C61_ uv Pm uw Pn ux Po nn H156
def av.l981 (F:Nat) (bY:aaY) (aQ:aa0) (ai:aaW) (C61_:abj):Nat->Nat->Nat->Nat->Nat->Nat->Nat->Int->Int->Hp->OA
 | 0,_,_,_,_,_,_,_,_,_=>none
 | Pp+1,fI,jA,kj,uy,jB,rv,eQ,eR,H131=>(Hp.ldI H131 .i64 fI (jA+1)).bind λn172=>(bif (decide (eR<n172)) then ((Hp.ldSl H131 jB (rv+2)).bind λs173=>(Hp.ldI H131 .i64 fI jA).bind λn174=>(Hp.ldI H131 .i64 fI jA).bind λn175=>(Hp.ldI H131 .i64 fI (jA+1)).bind λn176=>(Hp.ldSl H131 fI (jA+2)).bind λs177=>(ai n175 n176 s177 eQ eR H131).bind λr178=>((r178.1).asI .i64).bind λn179=>(if ax H131 r178.2 then ((Sl.idx s173 (wrap .i64 ((wrap .i64 (eR * n174))+eQ)) 1).bind λp180=>(Hp.st r178.2 p180.1 p180.2 (.int .i64 n179)).bind λH181=>av.l981 F bY aQ ai C61_ Pp fI jA kj uy jB rv eQ (wrap .i64 (eR+1)) H181) else none)) else (av.j4 F bY aQ ai C61_ fI jA kj uy jB rv eQ H131))
termination_by structural n=>n
def av.l61 (F:Nat) (bY:aaY) (aQ:aa0) (ai:aaW) :Nat->Nat->Nat->Nat->Nat->Nat->Nat->Int->Hp->OA
 | 0,_,_,_,_,_,_,_,_=>none
 | jC+1,kl,fJ,fK,dp,jd,dY,gI,H42=>(Hp.ldI H42 .i64 kl fJ).bind λn117=>(bif (decide (gI<n117)) then (av.l981 F bY aQ ai (av.l61 F bY aQ ai jC) F kl fJ fK dp jd dY gI 0 H42) else ((Hp.ldI H42 .i64 jd dY).bind λn182=>(Hp.ldI H42 .i64 jd (dY+1)).bind λn183=>(Hp.ldSl H42 jd (dY+2)).bind λs184=>(Hp.st H42 fK dp (.int .i64 n182)).bind λH185=>(Hp.st H185 fK (dp+1) (.int .i64 n183)).bind λH186=>(Hp.st H186 fK (dp+1+1) (.sl s184)).bind λH187=>(Hp.ldI H187 .i64 fK dp).bind λn188=>(Hp.ldI H187 .i64 fK (dp+1)).bind λn189=>(Hp.ldSl H187 fK (dp+2)).bind λs190=>some ((.agg [(.int .i64 n188),(.int .i64 n189),(.sl s190)]),H187)))
termination_by structural n=>n
def av.twX (bY:aaY) (aQ:aa0) (ai:aaW) (aa:Int) (ac:Int) (ar:Sl) (H:Hp):OA:=(Hp.new H [(.int .i64 aa),(.int .i64 ac),(.sl ar)]).bind λH4=>(Hp.new H4 [.int .i64 0,.int .i64 0,.sl ⟨none,0,.ex 0⟩]).bind λH5=>(Hp.ldI H5 .i64 H.length 0).bind λn6=>(Hp.ldI H5 .i64 H.length (0+1)).bind λn7=>(Hp.ldSl H5 H.length (0+2)).bind λs8=>(bY n6 n7 s8 H5).bind λr9=>((r9.1).asB).bind λb10=>(bif (!b10) then ((Hp.st r9.2 H4.length 0 (.int .i64 0)).bind λH11=>(Hp.st H11 H4.length (0+1) (.int .i64 0)).bind λH12=>(Hp.st H12 H4.length (0+1+1) (.sl (⟨none,0,.ex 0⟩:Sl))).bind λH13=>(Hp.ldI H13 .i64 H4.length 0).bind λn14=>(Hp.ldI H13 .i64 H4.length (0+1)).bind λn15=>(Hp.ldSl H13 H4.length (0+2)).bind λs16=>some ((.agg [(.int .i64 n14),(.int .i64 n15),(.sl s16)]),H13)) else ((Hp.ldI r9.2 .i64 H.length 1).bind λn17=>(Hp.ldI r9.2 .i64 H.length 0).bind λn18=>(aQ n17 n18 r9.2).bind λr19=>((r19.1).asAgg 3).bind λl20=>(l20[0]?).bind λv21=>((v21).asI .i64).bind λn22=>(l20[1]?).bind λv23=>((v23).asI .i64).bind λn24=>(l20[2]?).bind λv25=>((v25).asSl).bind λs26=>(Hp.new r19.2 [.int .i64 0,.int .i64 0,.sl ⟨none,0,.ex 0⟩]).bind λH27=>(Hp.st H27 r19.2.length 0 (.int .i64 n22)).bind λH28=>(Hp.st H28 r19.2.length (0+1) (.int .i64 n24)).bind λH29=>(Hp.st H29 r19.2.length (0+1+1) (.sl s26)).bind λH30=>av.l61 F bY aQ ai F H.length 0 H4.length 0 r19.2.length 0 0 H30))
def av.tw:=av.twX F (aY.tw F) (bS.tw F) (aE.tw F)
def av.lh61 (bY:aaY) (aQ:aa0) (ai:aaW) (ks:aa1) (n:Nat) (tm:Tm) (H:Hp):OA:=match ks,tm 1,tm 2,tm 3,tm 4 with
 | [],(.ptr kl fJ),(.ptr fK dp),(.ptr jd dY),(.int .i64 gI)=>av.l61 F bY aQ ai n kl fJ fK dp jd dY gI H
 | _,_,_,_,_=>none
def av.lh981 (bY:aaY) (aQ:aa0) (ai:aaW) (ks:aa1) (n:Nat) (tm:Tm) (H:Hp):OA:=match ks,tm 1,tm 2,tm 3,tm 4,tm 5 with
 | [jC],(.ptr fI jA),(.ptr kj uy),(.ptr jB rv),(.int .i64 eQ),(.int .i64 eR)=>av.l981 F bY aQ ai (av.l61 F bY aQ ai jC) n fI jA kj uy jB rv eQ eR H
 | _,_,_,_,_,_=>none
def av.lh (bY:aaY) (aQ:aa0) (ai:aaW) (p:Nat) (ks:aa1) (n:Nat) (tm:Tm) (H:Hp):OA:=bif p.beq 981 then av.lh981 F bY aQ ai ks n tm H else (bif p.beq 61 then av.lh61 F bY aQ ai ks n tm H else (none))
def av.pn:Nat->List Nat:=cY [(10,[13])]
def av.tb:Nat->List (List Nat):=cY [(10,[[],[0],[],[],[3],[2,3,4],[],[2,3,4,5,6],[],[],[],[8,9,10],[0,1,2,3,4,5,6,7,8,9,10,11],[0,1,2,3,4,5,6,7,8,9,10,11,12]])]
def av.cs (F:Nat) (bY:aaY) (aQ:aa0) (ai:aaW):Cs:=[(29,mk3 bY),(63,mk5 aQ),(62,mk6 ai)]
theorem av.loops (bY:aaY) (aQ:aa0) (ai:aaW):LO (bH (av.cs F bY aQ ai)) av.pn (av.lh F bY aQ ai) F Try.f90:=
 (ae.rt (ae.rt (ae.rt (ae.lt (ae.rt (ae.block (ae.la (λn tm H r h=>by change av.lh61 F bY aQ ai [] n tm H=_ at h;unfold av.lh61 at h;split at h;have e:ck tm [(1,_),(2,_),(3,_),(4,_)]:=⟨‹_›,‹_›,‹_›,‹_›,trivial⟩;obtain _ | k61:=n;cases h;exact ⟨_,rfl,by rw [<- co e];exact Eq.trans (by kernel_rfl) h⟩;cases h) λk61=>(ae.rt (ae.lt (ae.block (ae.rt (ae.block (ae.la (λn tm H r h=>by change av.lh981 F bY aQ ai [k61] n tm H=_ at h;unfold av.lh981 at h;split at h;have e:ck tm [(1,_),(2,_),(3,_),(4,_),(5,_)]:=⟨‹_›,‹_›,‹_›,‹_›,‹_›,trivial⟩;cases (show [k61]=_ from ‹_›);obtain _ | k981:=n;cases h;exact ⟨_,rfl,by rw [<- co e];exact Eq.trans (by kernel_rfl) h⟩;cases h) λk981=>ae.no)))))))))))))
theorem av.eqX (bY:aaY) (aQ:aa0) (ai:aaW) (aa:Int) (ac:Int) (ar:Sl) (H:Hp):EX (bH (av.cs F bY aQ ai)) av.pn (av.lh F bY aQ ai) F Try.f90 [(.agg [(.int .i64 aa),(.int .i64 ac),(.sl ar)])] H=av.twX F bY aQ ai aa ac ar H:=by kernel_rfl
theorem av.k:Ok Try.prog 90 (mk3 (av.tw F)):=by
 intro args H v H' h
 unfold mk3 at h
 split at h
 ·exact okT (TB:=av.tb) Try.func90 (bF (aY.k F) (bF (bS.k F) (bF (aE.k F) cO))) (av.loops F (aY.tw F) (bS.tw F) (aE.tw F)) ((av.eqX F (aY.tw F) (bS.tw F) (aE.tw F) _ _ _ H).trans h) (by kernel_rfl)
 ·cases h
def bC.l29 (F:Nat) :Nat->Nat->Nat->Nat->Nat->Int->Hp->OA
 | 0,_,_,_,_,_,_=>none
 | cf+1,jD,rx,kn,uz,eS,H28=>(Hp.ldSl H28 jD (rx+2)).bind λs36=>(bif (decide (eS<(s36.n:Int))) then ((Hp.ldSl H28 jD (rx+2)).bind λs37=>(Sl.idx s37 eS 1).bind λp38=>(Hp.ldI H28 .i64 p38.1 p38.2).bind λn39=>(Hp.ldSl H28 kn (uz+2)).bind λs40=>(Sl.idx s40 eS 1).bind λp41=>(Hp.ldI H28 .i64 p41.1 p41.2).bind λn42=>(bif (n39 != n42) then (some ((.bool false),H28)) else (bC.l29 F cf jD rx kn uz (wrap .i64 (eS+1)) H28))) else (some ((.bool true),H28)))
termination_by structural n=>n
def bC.twX (aa:Int) (ac:Int) (ar:Sl) (aC:Int) (cv:Int) (eH:Sl) (H:Hp):OA:=(Hp.new H [(.int .i64 aa),(.int .i64 ac),(.sl ar)]).bind λH7=>(Hp.new H7 [(.int .i64 aC),(.int .i64 cv),(.sl eH)]).bind λH8=>(Hp.ldI H8 .i64 H.length 0).bind λn9=>(Hp.ldI H8 .i64 H7.length 0).bind λn10=>(bif (n9 != n10) then (some ((.bool false),H8)) else ((Hp.ldI H8 .i64 H.length 1).bind λn11=>(Hp.ldI H8 .i64 H7.length 1).bind λn12=>(bif (n11 != n12) then (some ((.bool false),H8)) else ((Hp.ldSl H8 H.length 2).bind λs13=>(Hp.ldSl H8 H7.length 2).bind λs14=>(bif ((s13.n:Int) != (s14.n:Int)) then (some ((.bool false),H8)) else (bC.l29 F F H.length 0 H7.length 0 0 H8))))))
def bC.tw:=bC.twX F
def bC.lh29 (ks:aa1) (n:Nat) (tm:Tm) (H:Hp):OA:=match ks,tm 2,tm 3,tm 5 with
 | [],(.ptr jD rx),(.ptr kn uz),(.int .i64 eS)=>bC.l29 F n jD rx kn uz eS H
 | _,_,_,_=>none
def bC.lh (p:Nat) (ks:aa1) (n:Nat) (tm:Tm) (H:Hp):OA:=bif p.beq 29 then bC.lh29 F ks n tm H else (none)
def bC.tb:Nat->List (List Nat):=cY [(6,[[],[0],[],[0,1,2],[0,1,2,3],[],[5],[],[5,6,7],[5,6,7,8],[0,1,2,3,4,5,6,7,8,9]])]
def mk7 (g:abb) (args:aba) (H:Hp):OA:=match args with
 | [(.agg [(.int .i64 aa),(.int .i64 ac),(.sl ar)]),(.agg [(.int .i64 aC),(.int .i64 cv),(.sl eH)])]=>g aa ac ar aC cv eH H
 | _=>none
theorem mk7_E (g:abb) (aa:Int) (ac:Int) (ar:Sl) (aC:Int) (cv:Int) (eH:Sl) (H:Hp):mk7 g [(.agg [(.int .i64 aa),(.int .i64 ac),(.sl ar)]),(.agg [(.int .i64 aC),(.int .i64 cv),(.sl eH)])] H=g aa ac ar aC cv eH H:=rfl
theorem bC.loops:LO (bH []) bR (bC.lh F) F Try.f89:=
 (ae.rt (ae.rt (ae.lt (ae.rt (ae.block (ae.la (λn tm H r h=>by change bC.lh29 F [] n tm H=_ at h;unfold bC.lh29 at h;split at h;have e:ck tm [(2,_),(3,_),(5,_)]:=⟨‹_›,‹_›,‹_›,trivial⟩;obtain _ | k29:=n;cases h;exact ⟨_,rfl,by rw [<- co e];exact Eq.trans (by kernel_rfl) h⟩;cases h) λk29=>ae.no))))))
theorem bC.k:Ok Try.prog 89 (mk7 (bC.tw F)):=by
 intro args H v H' h
 unfold mk7 at h
 split at h
 ·exact okT (PN:=bR) (LH:=(bC.lh F)) (F:=F) (TB:=bC.tb) Try.func89 cO (bC.loops F) (Eq.trans (by kernel_rfl) h) (by kernel_rfl)
 ·cases h
def cq.twX (F:Nat) (aa:Int) (H:Hp):OA:=some ((.int .i64 (if (wrap .i64 (0 - aa))>aa then (wrap .i64 (0 - aa)) else aa)),H)
def cq.tw:=cq.twX F
def mk8 (g:aa2) (args:aba) (H:Hp):OA:=match args with
 | [(.int .i64 aa)]=>g aa H
 | _=>none
theorem mk8_E (g:aa2) (aa:Int) (H:Hp):mk8 g [(.int .i64 aa)] H=g aa H:=rfl
theorem cq.k:Ok Try.prog 130 (mk8 (cq.tw F)):=by
 intro args H v H' h
 unfold mk8 at h
 split at h
 ·exact ok0 Try.func130 (Eq.trans (by kernel_rfl) h) (by kernel_rfl) (by kernel_rfl)
 ·cases h
def az.j3 (F:Nat) (ai:aaW) (cA:aa2) (C29_:abk) (uA:Nat) (Pq:Nat) (np:Int) (nq:Int) (H115:Hp):OA:=C29_ uA Pq np (wrap .i64 (nq+1)) H115
def az.j4 (ai:aaW) (cA:aa2) (C29_:abk) (uB:Nat) (Pr:Nat) (nr:Int) (ns:Int) (gw:Int) (H102:Hp):OA:=(if (if gw>1 then gw else 1)=0 then none else (az.j3 F ai cA C29_ uB Pr (wrap .i64 (Int.tdiv nr (if gw>1 then gw else 1))) ns H102))
def az.l1877 (F:Nat) (ai:aaW) (cA:aa2) (C29_:abk):Nat->Nat->Nat->Int->Int->Int->Int->Hp->OA
 | 0,_,_,_,_,_,_,_=>none
 | Ps+1,gy,ko,gJ,fL,gK,fM,H81=>(Hp.ldI H81 .i64 gy (ko+1)).bind λn116=>(bif (decide (fM<n116)) then ((Hp.ldI H81 .i64 gy ko).bind λn117=>(Hp.ldI H81 .i64 gy (ko+1)).bind λn118=>(Hp.ldSl H81 gy (ko+2)).bind λs119=>(ai n117 n118 s119 fL fM H81).bind λr120=>((r120.1).asI .i64).bind λn121=>(cA n121 r120.2).bind λr122=>((r122.1).asI .i64).bind λn123=>az.l1877 F ai cA C29_ Ps gy ko gJ fL (wrap .i64 (gK+n123)) (wrap .i64 (fM+1)) r122.2) else (az.j4 F ai cA C29_ gy ko gJ fL gK H81))
termination_by structural n=>n
def az.l29 (F:Nat) (ai:aaW) (cA:aa2) :Nat->Nat->Nat->Int->Int->Hp->OA
 | 0,_,_,_,_,_=>none
 | cf+1,eJ,eT,gL,gM,H13=>(Hp.ldI H13 .i64 eJ eT).bind λn69=>(bif (decide (gM<n69)) then (az.l1877 F ai cA (az.l29 F ai cA cf) F eJ eT gL gM 0 0 H13) else (some ((.bool (decide (gL>0))),H13)))
termination_by structural n=>n
def az.twX (ai:aaW) (cA:aa2) (aa:Int) (ac:Int) (ar:Sl) (H:Hp):OA:=(Hp.new H [(.int .i64 aa),(.int .i64 ac),(.sl ar)]).bind λH4=>az.l29 F ai cA F H.length 0 1000000000 0 H4
def az.tw:=az.twX F (aE.tw F) (cq.tw F)
def az.lh29 (ai:aaW) (cA:aa2) (ks:aa1) (n:Nat) (tm:Tm) (H:Hp):OA:=match ks,tm 1,tm 3,tm 4 with
 | [],(.ptr eJ eT),(.int .i64 gL),(.int .i64 gM)=>az.l29 F ai cA n eJ eT gL gM H
 | _,_,_,_=>none
def az.lh1877 (ai:aaW) (cA:aa2) (ks:aa1) (n:Nat) (tm:Tm) (H:Hp):OA:=match ks,tm 1,tm 3,tm 4,tm 5,tm 6 with
 | [cf],(.ptr gy ko),(.int .i64 gJ),(.int .i64 fL),(.int .i64 gK),(.int .i64 fM)=>az.l1877 F ai cA (az.l29 F ai cA cf) n gy ko gJ fL gK fM H
 | _,_,_,_,_,_=>none
def az.lh (ai:aaW) (cA:aa2) (p:Nat) (ks:aa1) (n:Nat) (tm:Tm) (H:Hp):OA:=bif p.beq 1877 then az.lh1877 F ai cA ks n tm H else (bif p.beq 29 then az.lh29 F ai cA ks n tm H else (none))
def az.cs (F:Nat) (ai:aaW) (cA:aa2):Cs:=[(62,mk6 ai),(130,mk8 cA)]
theorem az.loops (ai:aaW) (cA:aa2):LO (bH (az.cs F ai cA)) bR (az.lh F ai cA) F Try.f80:=
 (ae.rt (ae.rt (ae.lt (ae.rt (ae.block (ae.la (λn tm H r h=>by change az.lh29 F ai cA [] n tm H=_ at h;unfold az.lh29 at h;split at h;have e:ck tm [(1,_),(3,_),(4,_)]:=⟨‹_›,‹_›,‹_›,trivial⟩;obtain _ | k29:=n;cases h;exact ⟨_,rfl,by rw [<- co e];exact Eq.trans (by kernel_rfl) h⟩;cases h) λk29=>(ae.rt (ae.lt (ae.block (ae.rt (ae.lt (ae.rt (ae.block (ae.la (λn tm H r h=>by change az.lh1877 F ai cA [k29] n tm H=_ at h;unfold az.lh1877 at h;split at h;have e:ck tm [(1,_),(3,_),(4,_),(5,_),(6,_)]:=⟨‹_›,‹_›,‹_›,‹_›,‹_›,trivial⟩;cases (show [k29]=_ from ‹_›);obtain _ | k1877:=n;cases h;exact ⟨_,rfl,by rw [<- co e];exact Eq.trans (by kernel_rfl) h⟩;cases h) λk1877=>ae.no))))))))))))))
theorem az.eqX (ai:aaW) (cA:aa2) (aa:Int) (ac:Int) (ar:Sl) (H:Hp):EX (bH (az.cs F ai cA)) bR (az.lh F ai cA) F Try.f80 [(.agg [(.int .i64 aa),(.int .i64 ac),(.sl ar)])] H=az.twX F ai cA aa ac ar H:=by kernel_rfl
theorem az.k:Ok Try.prog 80 (mk3 (az.tw F)):=by
 intro args H v H' h
 unfold mk3 at h
 split at h
 ·exact okT (TB:=bR) Try.func80 (bF (aE.k F) (bF (cq.k F) cO)) (az.loops F (aE.tw F) (cq.tw F)) ((az.eqX F (aE.tw F) (cq.tw F) _ _ _ H).trans h) (by kernel_rfl)
 ·cases h
def aj.j4 (F:Nat) (aQ:aa0) (ai:aaW) (jE:Nat) (nu:Nat) (nv:Int) (nw:Nat) (zE:Nat) (H180:Hp):OA:=(Hp.ldI H180 .i64 nw zE).bind λn181=>(Hp.ldI H180 .i64 nw (zE+1)).bind λn182=>(Hp.ldSl H180 nw (zE+2)).bind λs183=>(Hp.st H180 jE nu (.int .i64 n181)).bind λH184=>(Hp.st H184 jE (nu+1) (.int .i64 n182)).bind λH185=>(Hp.st H185 jE (nu+1+1) (.sl s183)).bind λH186=>(Hp.ldI H186 .i64 jE nu).bind λn187=>(Hp.ldI H186 .i64 jE (nu+1)).bind λn188=>(Hp.ldSl H186 jE (nu+2)).bind λs189=>some ((.tup [(.agg [(.int .i64 n187),(.int .i64 n188),(.sl s189)]),(.int .i64 nv)]),H186)
def aj.j5 (F:Nat) (aQ:aa0) (ai:aaW) (C253_:abl) (uC:Nat) (Pt:Nat) (uD:Nat) (Pu:Nat) (Pv:Sl) (nx:Int) (uE:Nat) (Pw:Nat) (ny:Int) (H260:Hp):OA:=C253_ uC Pt uD Pu Pv nx uE Pw (wrap .i64 (ny+1)) H260
def aj.j6 (aQ:aa0) (ai:aaW) (C253_:abl) (uF:Nat) (Px:Nat) (uG:Nat) (Py:Nat) (Pz:Sl) (nA:Int) (uH:Nat) (PA:Nat) (nB:Int) (H240:Hp):OA:=aj.j5 F aQ ai C253_ uF Px uG Py Pz nA uH PA nB H240
def aj.l4053 (F:Nat) (aQ:aa0) (ai:aaW) (C253_:abl):Nat->Nat->Nat->Nat->Nat->Sl->Int->Nat->Nat->Int->Int->Hp->OA
 | 0,_,_,_,_,_,_,_,_,_,_,_=>none
 | PB+1,gN,lO,kp,uI,nC,eU,jF,ry,eV,eW,H208=>(bif (decide (eW<eU)) then ((Hp.ldSl H208 jF (ry+2)).bind λs261=>(Hp.ldI H208 .i64 gN lO).bind λn262=>(Hp.ldI H208 .i64 gN (lO+1)).bind λn263=>(Hp.ldSl H208 gN (lO+2)).bind λs264=>(Sl.idx nC eV 1).bind λp265=>(Hp.ldI H208 .i64 p265.1 p265.2).bind λn266=>(Sl.idx nC eW 1).bind λp267=>(Hp.ldI H208 .i64 p267.1 p267.2).bind λn268=>(ai n262 n263 s264 n266 n268 H208).bind λr269=>((r269.1).asI .i64).bind λn270=>(if ax H208 r269.2 then ((Sl.idx s261 (wrap .i64 ((wrap .i64 (eV * eU))+eW)) 1).bind λp271=>(Hp.st r269.2 p271.1 p271.2 (.int .i64 n270)).bind λH272=>aj.l4053 F aQ ai C253_ PB gN lO kp uI nC eU jF ry eV (wrap .i64 (eW+1)) H272) else none)) else (aj.j6 F aQ ai C253_ gN lO kp uI nC eU jF ry eV H208))
termination_by structural n=>n
def aj.l253 (F:Nat) (aQ:aa0) (ai:aaW) :Nat->Nat->Nat->Nat->Nat->Sl->Int->Nat->Nat->Int->Hp->OA
 | 0,_,_,_,_,_,_,_,_,_,_=>none
 | dZ+1,lP,zF,kq,uJ,zG,fN,kr,uK,gO,H79=>(bif (decide (gO<fN)) then (aj.l4053 F aQ ai (aj.l253 F aQ ai dZ) F lP zF kq uJ zG fN kr uK gO 0 H79) else (aj.j4 F aQ ai kq uJ fN kr uK H79))
termination_by structural n=>n
def aj.j7 (aQ:aa0) (ai:aaW) (uL:Nat) (PC:Nat) (uM:Nat) (PD:Nat) (uN:Sl) (H50:Hp):OA:=(aQ (uN.n:Int) (uN.n:Int) H50).bind λr51=>((r51.1).asAgg 3).bind λl52=>(l52[0]?).bind λv53=>((v53).asI .i64).bind λn54=>(l52[1]?).bind λv55=>((v55).asI .i64).bind λn56=>(l52[2]?).bind λv57=>((v57).asSl).bind λs58=>(Hp.new r51.2 [.int .i64 0,.int .i64 0,.sl ⟨none,0,.ex 0⟩]).bind λH59=>(Hp.st H59 r51.2.length 0 (.int .i64 n54)).bind λH60=>(Hp.st H60 r51.2.length (0+1) (.int .i64 n56)).bind λH61=>(Hp.st H61 r51.2.length (0+1+1) (.sl s58)).bind λH62=>aj.l253 F aQ ai F uL PC uM PD uN (uN.n:Int) r51.2.length 0 0 H62
def aj.j8 (F:Nat) (aQ:aa0) (ai:aaW) (C29_:abz) (nD:Int) (uO:Nat) (PE:Nat) (uP:Nat) (PF:Nat) (PG:Sl) (nE:Int) (H290:Hp):OA:=C29_ nD uO PE uP PF PG (wrap .i64 (nE+1)) H290
def aj.l29 (F:Nat) (aQ:aa0) (ai:aaW) :Nat->Int->Nat->Nat->Nat->Nat->Sl->Int->Hp->OA
 | 0,_,_,_,_,_,_,_,_=>none
 | cf+1,cV,eK,nF,da,rz,jG,dz,H19=>(Hp.ldI H19 .i64 eK nF).bind λn273=>(bif (decide (dz<n273)) then ((if (IntKind.u64.wrap dz)<0 then none else ((bif ((Go.bits .and .i64 (Int.fdiv cV (2 ^ (min ((IntKind.u64.wrap dz):Int).toNat (IntKind.i64).bits))) 1)==1) then ((Hp.new H19 [(.int .i64 dz)]).bind λH274=>(Sl.row H274 (⟨some (H19.length,0),1,.ex 1⟩:Sl) 1).bind λxs276=>(Hp.app H274 1 8 jG (⟨some (H19.length,0),1,.ex 1⟩:Sl).n xs276).bind λa275=>aj.j8 F aQ ai (aj.l29 F aQ ai cf) cV eK nF da rz a275.1 dz a275.2) else (aj.j8 F aQ ai (aj.l29 F aQ ai cf) cV eK nF da rz jG dz H19))))) else (aj.j7 F aQ ai eK nF da rz jG H19))
termination_by structural n=>n
def aj.twX (aQ:aa0) (ai:aaW) (aa:Int) (ac:Int) (ar:Sl) (aC:Int) (H:Hp):OA:=(Hp.new H [(.int .i64 aa),(.int .i64 ac),(.sl ar)]).bind λH5=>(Hp.new H5 [.int .i64 0,.int .i64 0,.sl ⟨none,0,.ex 0⟩]).bind λH6=>(Hp.new H6 []).bind λH7=>aj.l29 F aQ ai F aC H.length 0 H5.length 0 (⟨some (H6.length,0),0,.ex 0⟩:Sl) 0 H7
def aj.tw:=aj.twX F (bS.tw F) (aE.tw F)
def aj.lh29 (aQ:aa0) (ai:aaW) (ks:aa1) (n:Nat) (tm:Tm) (H:Hp):OA:=match ks,tm 1,tm 2,tm 4,tm 6,tm 7 with
 | [],(.int .i64 cV),(.ptr eK nF),(.ptr da rz),(.sl jG),(.int .i64 dz)=>aj.l29 F aQ ai n cV eK nF da rz jG dz H
 | _,_,_,_,_,_=>none
def aj.lh253 (aQ:aa0) (ai:aaW) (ks:aa1) (n:Nat) (tm:Tm) (H:Hp):OA:=match ks,tm 2,tm 4,tm 6,tm 8,tm 9,tm 10 with
 | [],(.ptr lP zF),(.ptr kq uJ),(.sl zG),(.int .i64 fN),(.ptr kr uK),(.int .i64 gO)=>aj.l253 F aQ ai n lP zF kq uJ zG fN kr uK gO H
 | _,_,_,_,_,_,_=>none
def aj.lh4053 (aQ:aa0) (ai:aaW) (ks:aa1) (n:Nat) (tm:Tm) (H:Hp):OA:=match ks,tm 2,tm 4,tm 6,tm 8,tm 9,tm 10,tm 11 with
 | [dZ],(.ptr gN lO),(.ptr kp uI),(.sl nC),(.int .i64 eU),(.ptr jF ry),(.int .i64 eV),(.int .i64 eW)=>aj.l4053 F aQ ai (aj.l253 F aQ ai dZ) n gN lO kp uI nC eU jF ry eV eW H
 | _,_,_,_,_,_,_,_=>none
def aj.lh (aQ:aa0) (ai:aaW) (p:Nat) (ks:aa1) (n:Nat) (tm:Tm) (H:Hp):OA:=bif p.beq 4053 then aj.lh4053 F aQ ai ks n tm H else (bif p.beq 253 then aj.lh253 F aQ ai ks n tm H else (bif p.beq 29 then aj.lh29 F aQ ai ks n tm H else (none)))
def aj.pn:Nat->List Nat:=cY [(15,[18])]
def aj.tb:Nat->List (List Nat):=cY [(15,[[],[0],[],[],[2,3],[],[2,3,4,5],[],[],[],[8,9],[8,9,10],[],[],[12,13],[12,13,14],[7,8,9,10,11,12,13,14,15],[0,1,2,3,4,5,6,7,8,9,10,11,12,13,14,15,16],[0,1,2,3,4,5,6,7,8,9,10,11,12,13,14,15,16,17]])]
def aj.cs (F:Nat) (aQ:aa0) (ai:aaW):Cs:=[(63,mk5 aQ),(62,mk6 ai)]
theorem aj.loops (aQ:aa0) (ai:aaW):LO (bH (aj.cs F aQ ai)) aj.pn (aj.lh F aQ ai) F Try.f140:=
 (ae.rt (ae.rt (ae.seq (ae.rt (ae.block (ae.la (λn tm H r h=>by change aj.lh29 F aQ ai [] n tm H=_ at h;unfold aj.lh29 at h;split at h;have e:ck tm [(1,_),(2,_),(4,_),(6,_),(7,_)]:=⟨‹_›,‹_›,‹_›,‹_›,‹_›,trivial⟩;obtain _ | k29:=n;cases h;exact ⟨_,rfl,by rw [<- co e];exact Eq.trans (by kernel_rfl) h⟩;cases h) λk29=>ae.no))) (ae.rt (ae.rt (ae.lt (ae.rt (ae.block (ae.la (λn tm H r h=>by change aj.lh253 F aQ ai [] n tm H=_ at h;unfold aj.lh253 at h;split at h;have e:ck tm [(2,_),(4,_),(6,_),(8,_),(9,_),(10,_)]:=⟨‹_›,‹_›,‹_›,‹_›,‹_›,‹_›,trivial⟩;obtain _ | k253:=n;cases h;exact ⟨_,rfl,by rw [<- co e];exact Eq.trans (by kernel_rfl) h⟩;cases h) λk253=>(ae.rt (ae.lt (ae.block (ae.rt (ae.block (ae.la (λn tm H r h=>by change aj.lh4053 F aQ ai [k253] n tm H=_ at h;unfold aj.lh4053 at h;split at h;have e:ck tm [(2,_),(4,_),(6,_),(8,_),(9,_),(10,_),(11,_)]:=⟨‹_›,‹_›,‹_›,‹_›,‹_›,‹_›,‹_›,trivial⟩;cases (show [k253]=_ from ‹_›);obtain _ | k4053:=n;cases h;exact ⟨_,rfl,by rw [<- co e];exact Eq.trans (by kernel_rfl) h⟩;cases h) λk4053=>ae.no)))))))))))))))
theorem aj.eqX (aQ:aa0) (ai:aaW) (aa:Int) (ac:Int) (ar:Sl) (aC:Int) (H:Hp):EX (bH (aj.cs F aQ ai)) aj.pn (aj.lh F aQ ai) F Try.f140 [(.agg [(.int .i64 aa),(.int .i64 ac),(.sl ar)]),(.int .i64 aC)] H=aj.twX F aQ ai aa ac ar aC H:=by kernel_rfl
theorem aj.k:Ok Try.prog 140 (mk1 (aj.tw F)):=by
 intro args H v H' h
 unfold mk1 at h
 split at h
 ·exact okT (TB:=aj.tb) Try.func140 (bF (bS.k F) (bF (aE.k F) cO)) (aj.loops F (bS.tw F) (aE.tw F)) ((aj.eqX F (bS.tw F) (aE.tw F) _ _ _ _ H).trans h) (by kernel_rfl)
 ·cases h
def aS.l7 (F:Nat) (ai:aaW) :Nat->Int->Int->Nat->Nat->Int->Hp->OA
 | 0,_,_,_,_,_,_=>none
 | PH+1,cb,d_,cl,dC,db,H15=>(Hp.ldI H15 .i64 cl (dC+1)).bind λn35=>(bif (decide (db<n35)) then ((Hp.ldI H15 .i64 cl dC).bind λn36=>(Hp.ldI H15 .i64 cl (dC+1)).bind λn37=>(Hp.ldSl H15 cl (dC+2)).bind λs38=>(ai n36 n37 s38 cb db H15).bind λr39=>((r39.1).asI .i64).bind λn40=>(Hp.ldSl r39.2 cl (dC+2)).bind λs41=>(Hp.ldI r39.2 .i64 cl (dC+1)).bind λn42=>(Hp.ldI r39.2 .i64 cl dC).bind λn43=>(Hp.ldI r39.2 .i64 cl (dC+1)).bind λn44=>(Hp.ldSl r39.2 cl (dC+2)).bind λs45=>(ai n43 n44 s45 d_ db r39.2).bind λr46=>((r46.1).asI .i64).bind λn47=>(if ax r39.2 r46.2 then ((Sl.idx s41 (wrap .i64 ((wrap .i64 (cb * n42))+db)) 1).bind λp48=>(Hp.st r46.2 p48.1 p48.2 (.int .i64 n47)).bind λH49=>(Hp.ldSl H49 cl (dC+2)).bind λs50=>(Hp.ldI H49 .i64 cl (dC+1)).bind λn51=>(Sl.idx s50 (wrap .i64 ((wrap .i64 (d_ * n51))+db)) 1).bind λp52=>(Hp.st H49 p52.1 p52.2 (.int .i64 n40)).bind λH53=>aS.l7 F ai PH cb d_ cl dC (wrap .i64 (db+1)) H53) else none)) else (some ((.tup []),H15)))
termination_by structural n=>n
def aS.twX (ai:aaW) (aa:Int) (ac:Int) (ar:Sl) (aC:Int) (cp:Int) (H:Hp):OA:=(Hp.new H [(.int .i64 aa),(.int .i64 ac),(.sl ar)]).bind λH6=>aS.l7 F ai F aC cp H.length 0 0 H6
def aS.tw:=aS.twX F (aE.tw F)
def aS.lh7 (ai:aaW) (ks:aa1) (n:Nat) (tm:Tm) (H:Hp):OA:=match ks,tm 1,tm 2,tm 3,tm 6 with
 | [],(.int .i64 cb),(.int .i64 d_),(.ptr cl dC),(.int .i64 db)=>aS.l7 F ai n cb d_ cl dC db H
 | _,_,_,_,_=>none
def aS.lh (ai:aaW) (p:Nat) (ks:aa1) (n:Nat) (tm:Tm) (H:Hp):OA:=bif p.beq 7 then aS.lh7 F ai ks n tm H else (none)
def aS.pn:Nat->List Nat:=cY [(5,[13])]
def aS.tb:Nat->List (List Nat):=cY [(5,[[],[0],[],[],[3],[2,3,4],[],[2,3,4,5,6],[],[],[],[8,9,10],[0,1,2,3,4,5,6,7,8,9,10,11],[0,1,2,3,4,5,6,7,8,9,10,11,12]])]
def aS.cs (F:Nat) (ai:aaW):Cs:=[(62,mk6 ai)]
theorem aS.loops (ai:aaW):LO (bH (aS.cs F ai)) aS.pn (aS.lh F ai) F Try.f131:=
 (ae.rt (ae.rt (ae.block (ae.la (λn tm H r h=>by change aS.lh7 F ai [] n tm H=_ at h;unfold aS.lh7 at h;split at h;have e:ck tm [(1,_),(2,_),(3,_),(6,_)]:=⟨‹_›,‹_›,‹_›,‹_›,trivial⟩;obtain _ | k7:=n;cases h;exact ⟨_,rfl,by rw [<- co e];exact Eq.trans (by kernel_rfl) h⟩;cases h) λk7=>ae.no))))
theorem aS.eqX (ai:aaW) (aa:Int) (ac:Int) (ar:Sl) (aC:Int) (cp:Int) (H:Hp):EX (bH (aS.cs F ai)) aS.pn (aS.lh F ai) F Try.f131 [(.agg [(.int .i64 aa),(.int .i64 ac),(.sl ar)]),(.int .i64 aC),(.int .i64 cp)] H=aS.twX F ai aa ac ar aC cp H:=by kernel_rfl
theorem aS.k:Ok Try.prog 131 (mk6 (aS.tw F)):=by
 intro args H v H' h
 unfold mk6 at h
 split at h
 ·exact okT (TB:=aS.tb) Try.func131 (bF (aE.k F) cO) (aS.loops F (aE.tw F)) ((aS.eqX F (aE.tw F) _ _ _ _ _ H).trans h) (by kernel_rfl)
 ·cases h
def ag.j9 (F:Nat) (ai:aaW) (bi:aaW) (nG:Int) (nH:Int) (H389:Hp):OA:=some ((.int .i64 (wrap .i64 (nG * nH))),H389)
def ag.j12 (F:Nat) (ai:aaW) (bi:aaW) (C125_:aa7) (nI:Int) (uQ:Nat) (PI:Nat) (nJ:Int) (nK:Int) (nL:Int) (H622:Hp):OA:=C125_ nI uQ PI nJ nK (wrap .i64 (nL+1)) H622
def ag.j13 (ai:aaW) (bi:aaW) (C125_:aa7) (nM:Int) (lQ:Nat) (uR:Nat) (nN:Int) (je:Int) (H597:Hp):OA:=(Hp.ldI H597 .i64 lQ uR).bind λn598=>(Hp.ldI H597 .i64 lQ (uR+1)).bind λn599=>(Hp.ldSl H597 lQ (uR+2)).bind λs600=>(ai n598 n599 s600 je je H597).bind λr601=>((r601.1).asI .i64).bind λn602=>ag.j12 F ai bi C125_ nM lQ uR nN n602 je r601.2
def ag.j14 (F:Nat) (ai:aaW) (bi:aaW) (C64189_:abf) (nO:Int) (uS:Nat) (PJ:Nat) (nP:Int) (nQ:Int) (nR:Int) (nS:Int) (H710:Hp):OA:=C64189_ nO uS PJ nP nQ nR (wrap .i64 (nS+1)) H710
def ag.j15 (ai:aaW) (bi:aaW) (C64189_:abf) (nT:Int) (uT:Nat) (PK:Nat) (nU:Int) (nV:Int) (nW:Int) (nX:Int) (H688:Hp):OA:=ag.j14 F ai bi C64189_ nT uT PK nU nV nW nX H688
def ag.l1027029 (F:Nat) (ai:aaW) (bi:aaW) (C125_:aa7) (C64189_:abf):Nat->Int->Nat->Nat->Int->Int->Int->Int->Int->Hp->OA
 | 0,_,_,_,_,_,_,_,_,_=>none
 | PL+1,eX,dD,ed,gP,eY,dP,ee,eg,H643=>(bif (decide (eg<eX)) then ((Hp.ldSl H643 dD (ed+2)).bind λs711=>(Hp.ldI H643 .i64 dD ed).bind λn712=>(Hp.ldI H643 .i64 dD (ed+1)).bind λn713=>(Hp.ldSl H643 dD (ed+2)).bind λs714=>(ai n712 n713 s714 ee eg H643).bind λr715=>((r715.1).asI .i64).bind λn716=>(if ax H643 r715.2 then ((Hp.ldI r715.2 .i64 dD ed).bind λn717=>(Hp.ldI r715.2 .i64 dD (ed+1)).bind λn718=>(Hp.ldSl r715.2 dD (ed+2)).bind λs719=>(ai n717 n718 s719 dP dP r715.2).bind λr720=>((r720.1).asI .i64).bind λn721=>(if ax r715.2 r720.2 then ((Hp.ldI r720.2 .i64 dD ed).bind λn722=>(Hp.ldI r720.2 .i64 dD (ed+1)).bind λn723=>(Hp.ldSl r720.2 dD (ed+2)).bind λs724=>(ai n722 n723 s724 ee dP r720.2).bind λr725=>((r725.1).asI .i64).bind λn726=>(if ax r720.2 r725.2 then ((Hp.ldI r725.2 .i64 dD ed).bind λn727=>(Hp.ldI r725.2 .i64 dD (ed+1)).bind λn728=>(Hp.ldSl r725.2 dD (ed+2)).bind λs729=>(ai n727 n728 s729 dP eg r725.2).bind λr730=>((r730.1).asI .i64).bind λn731=>(if ax r725.2 r730.2 then ((if eY=0 then none else ((Sl.idx s711 (wrap .i64 ((wrap .i64 (ee * eX))+eg)) 1).bind λp732=>(Hp.st r730.2 p732.1 p732.2 (.int .i64 (wrap .i64 (Int.tdiv (wrap .i64 ((wrap .i64 (n716 * n721)) - (wrap .i64 (n726 * n731)))) eY)))).bind λH733=>ag.l1027029 F ai bi C125_ C64189_ PL eX dD ed gP eY dP ee (wrap .i64 (eg+1)) H733))) else none)) else none)) else none)) else none)) else (ag.j15 F ai bi C64189_ eX dD ed gP eY dP ee H643))
termination_by structural n=>n
def ag.l64189 (F:Nat) (ai:aaW) (bi:aaW) (C125_:aa7):Nat->Int->Nat->Nat->Int->Int->Int->Int->Hp->OA
 | 0,_,_,_,_,_,_,_,_=>none
 | zH+1,fO,kt,uU,gQ,jH,fP,gR,H466=>(bif (decide (gR<fO)) then (ag.l1027029 F ai bi C125_ (ag.l64189 F ai bi C125_ zH) F fO kt uU gQ jH fP gR (wrap .i64 (fP+1)) H466) else (ag.j13 F ai bi C125_ fO kt uU gQ fP H466))
termination_by structural n=>n
def ag.j16 (ai:aaW) (bi:aaW) (C125_:aa7) (nY:Int) (uV:Nat) (PM:Nat) (nZ:Int) (n_:Int) (ku:Int) (H447:Hp):OA:=ag.l64189 F ai bi C125_ F nY uV PM nZ n_ ku (wrap .i64 (ku+1)) H447
def ag.j17 (ai:aaW) (bi:aaW) (C125_:aa7) (jf:Int) (kw:Nat) (rA:Nat) (kx:Int) (ky:Int) (gz:Int) (jg:Int) (H425:Hp):OA:=(bif (jg==jf) then (some ((.int .i64 0),H425)) else ((bif (jg != gz) then ((Hp.ldI H425 .i64 kw rA).bind λn426=>(Hp.ldI H425 .i64 kw (rA+1)).bind λn427=>(Hp.ldSl H425 kw (rA+2)).bind λs428=>(bi n426 n427 s428 jg gz H425).bind λr429=>ag.j16 F ai bi C125_ jf kw rA (wrap .i64 (0 - kx)) ky gz r429.2) else (ag.j16 F ai bi C125_ jf kw rA kx ky gz H425))))
def ag.l4010 (F:Nat) (ai:aaW) (bi:aaW) (C125_:aa7):Nat->Int->Nat->Nat->Int->Int->Int->Int->Hp->OA
 | 0,_,_,_,_,_,_,_,_=>none
 | PO+1,eZ,gA,kz,fQ,fR,e_,en,H404=>(bif (decide (en<eZ)) then ((Hp.ldI H404 .i64 gA kz).bind λn734=>(Hp.ldI H404 .i64 gA (kz+1)).bind λn735=>(Hp.ldSl H404 gA (kz+2)).bind λs736=>(ai n734 n735 s736 en e_ H404).bind λr737=>((r737.1).asI .i64).bind λn738=>(bif (n738==0) then (ag.l4010 F ai bi C125_ PO eZ gA kz fQ fR e_ (wrap .i64 (en+1)) r737.2) else (ag.j17 F ai bi C125_ eZ gA kz fQ fR e_ en r737.2))) else (ag.j17 F ai bi C125_ eZ gA kz fQ fR e_ en H404))
termination_by structural n=>n
def ag.l125 (F:Nat) (ai:aaW) (bi:aaW) :Nat->Int->Nat->Nat->Int->Int->Int->Hp->OA
 | 0,_,_,_,_,_,_,_=>none
 | jh+1,gS,lR,zI,gT,gU,fT,H26=>(bif (decide (fT<gS)) then (ag.l4010 F ai bi (ag.l125 F ai bi jh) F gS lR zI gT gU fT fT H26) else (ag.j9 F ai bi gT gU H26))
termination_by structural n=>n
def ag.twX (ai:aaW) (bi:aaW) (aa:Int) (ac:Int) (ar:Sl) (H:Hp):OA:=(Hp.new H [(.int .i64 aa),(.int .i64 ac),(.sl ar)]).bind λH4=>(Hp.ldI H4 .i64 H.length 0).bind λn5=>(Hp.new H4 []).bind λH6=>(Hp.ldSl H6 H.length 2).bind λs7=>(Sl.row H6 s7 1).bind λxs9=>(Hp.app H6 1 8 (⟨some (H4.length,0),0,.ex 0⟩:Sl) s7.n xs9).bind λa8=>(Hp.new a8.2 [.int .i64 0,.int .i64 0,.sl ⟨none,0,.ex 0⟩]).bind λH10=>(Hp.st H10 a8.2.length 0 (.int .i64 n5)).bind λH11=>(Hp.st H11 a8.2.length (0+1) (.int .i64 n5)).bind λH12=>(Hp.st H12 a8.2.length (0+1+1) (.sl a8.1)).bind λH13=>ag.l125 F ai bi F n5 a8.2.length 0 1 1 0 H13
def ag.tw:=ag.twX F (aE.tw F) (aS.tw F)
def ag.lh125 (ai:aaW) (bi:aaW) (ks:aa1) (n:Nat) (tm:Tm) (H:Hp):OA:=match ks,tm 3,tm 4,tm 5,tm 6,tm 7 with
 | [],(.int .i64 gS),(.ptr lR zI),(.int .i64 gT),(.int .i64 gU),(.int .i64 fT)=>ag.l125 F ai bi n gS lR zI gT gU fT H
 | _,_,_,_,_,_=>none
def ag.lh4010 (ai:aaW) (bi:aaW) (ks:aa1) (n:Nat) (tm:Tm) (H:Hp):OA:=match ks,tm 3,tm 4,tm 5,tm 6,tm 7,tm 8 with
 | [jh],(.int .i64 eZ),(.ptr gA kz),(.int .i64 fQ),(.int .i64 fR),(.int .i64 e_),(.int .i64 en)=>ag.l4010 F ai bi (ag.l125 F ai bi jh) n eZ gA kz fQ fR e_ en H
 | _,_,_,_,_,_,_=>none
def ag.lh64189 (ai:aaW) (bi:aaW) (ks:aa1) (n:Nat) (tm:Tm) (H:Hp):OA:=match ks,tm 3,tm 4,tm 5,tm 6,tm 7,tm 9 with
 | [jh],(.int .i64 fO),(.ptr kt uU),(.int .i64 gQ),(.int .i64 jH),(.int .i64 fP),(.int .i64 gR)=>ag.l64189 F ai bi (ag.l125 F ai bi jh) n fO kt uU gQ jH fP gR H
 | _,_,_,_,_,_,_=>none
def ag.lh1027029 (ai:aaW) (bi:aaW) (ks:aa1) (n:Nat) (tm:Tm) (H:Hp):OA:=match ks,tm 3,tm 4,tm 5,tm 6,tm 7,tm 9,tm 10 with
 | [zH,jh],(.int .i64 eX),(.ptr dD ed),(.int .i64 gP),(.int .i64 eY),(.int .i64 dP),(.int .i64 ee),(.int .i64 eg)=>ag.l1027029 F ai bi (ag.l125 F ai bi jh) (ag.l64189 F ai bi (ag.l125 F ai bi jh) zH) n eX dD ed gP eY dP ee eg H
 | _,_,_,_,_,_,_,_=>none
def ag.lh (ai:aaW) (bi:aaW) (p:Nat) (ks:aa1) (n:Nat) (tm:Tm) (H:Hp):OA:=bif p.beq 1027029 then ag.lh1027029 F ai bi ks n tm H else (bif p.beq 64189 then ag.lh64189 F ai bi ks n tm H else (bif p.beq 4010 then ag.lh4010 F ai bi ks n tm H else (bif p.beq 125 then ag.lh125 F ai bi ks n tm H else (none))))
def ag.pn:Nat->List Nat:=cY [(21,[29])]
def ag.tb:Nat->List (List Nat):=cY [(21,[[],[0],[],[],[2,3],[],[2,3,4,5],[],[],[],[7,8,9],[],[],[],[7,8,9,10,11,12,13],[7,8,9,10,11,12,13,14],[],[],[],[7,8,9,10,11,12,13,14,16,17,18],[],[],[],[7,8,9,10,11,12,13,14,16,17,18,19,20,21,22],[7,8,9,10,11,12,13,14,16,17,18,19,20,21,22,23],[7,8,9,10,11,12,13,14,15,16,17,18,19,20,21,22,23,24],[],[7,8,9,10,11,12,13,14,15,16,17,18,19,20,21,22,23,24,25,26],[0,1,2,3,4,5,6,7,8,9,10,11,12,13,14,15,16,17,18,19,20,21,22,23,24,25,26,27],[0,1,2,3,4,5,6,7,8,9,10,11,12,13,14,15,16,17,18,19,20,21,22,23,24,25,26,27,28]])]
def ag.cs (F:Nat) (ai:aaW) (bi:aaW):Cs:=[(62,mk6 ai),(131,mk6 bi)]
theorem ag.loops (ai:aaW) (bi:aaW):LO (bH (ag.cs F ai bi)) ag.pn (ag.lh F ai bi) F Try.f81:=
 (ae.rt (ae.rt (ae.rt (ae.rt (ae.lt (ae.rt (ae.block (ae.la (λn tm H r h=>by change ag.lh125 F ai bi [] n tm H=_ at h;unfold ag.lh125 at h;split at h;have e:ck tm [(3,_),(4,_),(5,_),(6,_),(7,_)]:=⟨‹_›,‹_›,‹_›,‹_›,‹_›,trivial⟩;obtain _ | k125:=n;cases h;exact ⟨_,rfl,by rw [<- co e];exact Eq.trans (by kernel_rfl) h⟩;cases h) λk125=>(ae.rt (ae.lt (ae.block (ae.rt (ae.seq (ae.block (ae.la (λn tm H r h=>by change ag.lh4010 F ai bi [k125] n tm H=_ at h;unfold ag.lh4010 at h;split at h;have e:ck tm [(3,_),(4,_),(5,_),(6,_),(7,_),(8,_)]:=⟨‹_›,‹_›,‹_›,‹_›,‹_›,‹_›,trivial⟩;cases (show [k125]=_ from ‹_›);obtain _ | k4010:=n;cases h;exact ⟨_,rfl,by rw [<- co e];exact Eq.trans (by kernel_rfl) h⟩;cases h) λk4010=>ae.no)) (ae.rt (ae.rt (ae.lt (ae.rt (ae.block (ae.la (λn tm H r h=>by change ag.lh64189 F ai bi [k125] n tm H=_ at h;unfold ag.lh64189 at h;split at h;have e:ck tm [(3,_),(4,_),(5,_),(6,_),(7,_),(9,_)]:=⟨‹_›,‹_›,‹_›,‹_›,‹_›,‹_›,trivial⟩;cases (show [k125]=_ from ‹_›);obtain _ | k64189:=n;cases h;exact ⟨_,rfl,by rw [<- co e];exact Eq.trans (by kernel_rfl) h⟩;cases h) λk64189=>(ae.rt (ae.lt (ae.block (ae.rt (ae.block (ae.la (λn tm H r h=>by change ag.lh1027029 F ai bi [k64189,k125] n tm H=_ at h;unfold ag.lh1027029 at h;split at h;have e:ck tm [(3,_),(4,_),(5,_),(6,_),(7,_),(9,_),(10,_)]:=⟨‹_›,‹_›,‹_›,‹_›,‹_›,‹_›,‹_›,trivial⟩;cases (show [k64189,k125]=_ from ‹_›);obtain _ | k1027029:=n;cases h;exact ⟨_,rfl,by rw [<- co e];exact Eq.trans (by kernel_rfl) h⟩;cases h) λk1027029=>ae.no)))))))))))))))))))))))))
theorem ag.eqX (ai:aaW) (bi:aaW) (aa:Int) (ac:Int) (ar:Sl) (H:Hp):EX (bH (ag.cs F ai bi)) ag.pn (ag.lh F ai bi) F Try.f81 [(.agg [(.int .i64 aa),(.int .i64 ac),(.sl ar)])] H=ag.twX F ai bi aa ac ar H:=by kernel_rfl
theorem ag.k:Ok Try.prog 81 (mk3 (ag.tw F)):=by
 intro args H v H' h
 unfold mk3 at h
 split at h
 ·exact okT (TB:=ag.tb) Try.func81 (bF (aE.k F) (bF (aS.k F) cO)) (ag.loops F (aE.tw F) (aS.tw F)) ((ag.eqX F (aE.tw F) (aS.tw F) _ _ _ H).trans h) (by kernel_rfl)
 ·cases h
def aF.j3 (F:Nat) (C29_:abw) (PP:Sl) (oa:Int) (ob:Int) (oc:Int) (H41:Hp):OA:=C29_ PP oa ob (wrap .i64 (oc+1)) H41
def aF.j4 (F:Nat) (C29_:abw) (PQ:Sl) (od:Int) (oe:Int) (og:Int) (H51:Hp):OA:=C29_ PQ od oe (wrap .i64 (og+1)) H51
def aF.l29 (F:Nat) :Nat->Sl->Int->Int->Int->Hp->OA
 | 0,_,_,_,_,_=>none
 | cf+1,dQ,bT,bU,cH,H7=>(bif (decide (cH<(dQ.n:Int))) then ((Sl.idx dQ cH 1).bind λp30=>(Hp.ldI H7 .i64 p30.1 p30.2).bind λn31=>(bif (decide (n31>0)) then ((bif (decide (bU<0)) then (aF.l29 F cf dQ (wrap .i64 (bT+1)) (wrap .i64 (0 - bU)) (wrap .i64 (cH+1)) H7) else ((Sl.idx dQ cH 1).bind λp32=>(Hp.ldI H7 .i64 p32.1 p32.2).bind λn33=>(bif (decide (n33<0)) then ((bif (decide (bU>0)) then (aF.j3 F (aF.l29 F cf) dQ (wrap .i64 (bT+1)) (wrap .i64 (0 - bU)) cH H7) else (aF.j3 F (aF.l29 F cf) dQ bT bU cH H7))) else (aF.l29 F cf dQ bT bU (wrap .i64 (cH+1)) H7))))) else ((Sl.idx dQ cH 1).bind λp42=>(Hp.ldI H7 .i64 p42.1 p42.2).bind λn43=>(bif (decide (n43<0)) then ((bif (decide (bU>0)) then (aF.j4 F (aF.l29 F cf) dQ (wrap .i64 (bT+1)) (wrap .i64 (0 - bU)) cH H7) else (aF.j4 F (aF.l29 F cf) dQ bT bU cH H7))) else (aF.l29 F cf dQ bT bU (wrap .i64 (cH+1)) H7))))) else (some ((.int .i64 bT),H7)))
def aF.twX (aa:Sl) (H:Hp):OA:=aF.l29 F F aa 0 1 0 H
def aF.tw:=aF.twX F
def aF.lh29 (ks:aa1) (n:Nat) (tm:Tm) (H:Hp):OA:=match ks,tm 0,tm 3,tm 4,tm 5 with
 | [],(.sl dQ),(.int .i64 bT),(.int .i64 bU),(.int .i64 cH)=>aF.l29 F n dQ bT bU cH H
 | _,_,_,_,_=>none
def aF.lh (p:Nat) (ks:aa1) (n:Nat) (tm:Tm) (H:Hp):OA:=bif p.beq 29 then aF.lh29 F ks n tm H else (none)
theorem aF.loops:LO (bH []) bR (aF.lh F) F Try.f141:=
 (ae.rt (ae.rt (ae.lt (ae.rt (ae.block (ae.la (λn tm H r h=>by change aF.lh29 F [] n tm H=_ at h;unfold aF.lh29 at h;split at h;have e:ck tm [(0,_),(3,_),(4,_),(5,_)]:=⟨‹_›,‹_›,‹_›,‹_›,trivial⟩;obtain _ | k29:=n;cases h;exact ⟨_,rfl,by rw [<- co e];exact Eq.trans (by kernel_rfl) h⟩;cases h) λk29=>ae.no))))))
theorem aF.k:Ok Try.prog 141 (mk2 (aF.tw F)):=by
 intro args H v H' h
 unfold mk2 at h
 split at h
 ·exact okT (PN:=bR) (LH:=(aF.lh F)) (F:=F) (TB:=bR) Try.func141 cO (aF.loops F) (Eq.trans (by kernel_rfl) h) (by kernel_rfl)
 ·cases h
def aA.j1 (F:Nat) (cI:aa4) (cJ:aaY) (cB:aa3) (PR:Sl) (PS:Sl) (H85:Hp):OA:=(cB PS H85).bind λr86=>((r86.1).asI .i64).bind λn87=>(cB PR r86.2).bind λr88=>((r88.1).asI .i64).bind λn89=>some ((.int .i64 (wrap .i64 (n87 - n89))),r88.2)
def aA.l125 (F:Nat) (cI:aa4) (cJ:aaY) (cB:aa3) :Nat->Sl->Sl->Int->Hp->OA
 | 0,_,_,_,_=>none
 | jh+1,oh,uW,eo,H67=>(bif (decide (eo<(oh.n:Int))) then ((Sl.idx oh eo 1).bind λp90=>(Hp.ldI H67 .i64 p90.1 p90.2).bind λn91=>(Hp.new H67 [(.int .i64 (wrap .i64 (n91 * (wrap .i64 (1 - (wrap .i64 (2 * (Int.tmod eo 2))))))))]).bind λH92=>(Sl.row H92 (⟨some (H67.length,0),1,.ex 1⟩:Sl) 1).bind λxs94=>(Hp.app H92 1 8 uW (⟨some (H67.length,0),1,.ex 1⟩:Sl).n xs94).bind λa93=>aA.l125 F cI cJ cB jh oh a93.1 (wrap .i64 (eo+1)) a93.2) else (aA.j1 F cI cJ cB oh uW H67))
def aA.j2 (cI:aa4) (cJ:aaY) (cB:aa3) (PT:Sl) (H54:Hp):OA:=(Hp.new H54 []).bind λH55=>aA.l125 F cI cJ cB F PT (⟨some (H54.length,0),0,.ex 0⟩:Sl) 0 H55
def aA.l29 (F:Nat) (cI:aa4) (cJ:aaY) (cB:aa3) :Nat->Nat->Nat->Sl->Int->Hp->OA
 | 0,_,_,_,_,_=>none
 | cf+1,cb,cV,dC,da,H15=>(Hp.ldI H15 .i64 cb cV).bind λn95=>(if (IntKind.u64.wrap n95)<0 then none else ((bif (decide (da<(wrap .i64 (1 * 2 ^ (min ((IntKind.u64.wrap n95):Int).toNat (IntKind.i64).bits))))) then ((Hp.ldI H15 .i64 cb cV).bind λn96=>(Hp.ldI H15 .i64 cb (cV+1)).bind λn97=>(Hp.ldSl H15 cb (cV+2)).bind λs98=>(cI n96 n97 s98 da H15).bind λr99=>((r99.1).asTup 2).bind λl100=>(l100[0]?).bind λv101=>((v101).asAgg 3).bind λl102=>(l102[0]?).bind λv103=>((v103).asI .i64).bind λn104=>(l102[1]?).bind λv105=>((v105).asI .i64).bind λn106=>(l102[2]?).bind λv107=>((v107).asSl).bind λs108=>(l100[1]?).bind λv109=>((v109).asI .i64).bind λn110=>(Hp.new r99.2 [.int .i64 0,.int .i64 0,.sl ⟨none,0,.ex 0⟩]).bind λH111=>(Hp.st H111 r99.2.length 0 (.int .i64 n104)).bind λH112=>(Hp.st H112 r99.2.length (0+1) (.int .i64 n106)).bind λH113=>(Hp.st H113 r99.2.length (0+1+1) (.sl s108)).bind λH114=>(Sl.idx dC n110 1).bind λp115=>(Hp.ldI H114 .i64 p115.1 p115.2).bind λn116=>(Hp.ldI H114 .i64 r99.2.length 0).bind λn117=>(Hp.ldI H114 .i64 r99.2.length (0+1)).bind λn118=>(Hp.ldSl H114 r99.2.length (0+2)).bind λs119=>(cJ n117 n118 s119 H114).bind λr120=>((r120.1).asI .i64).bind λn121=>(if ax H114 r120.2 then ((Sl.idx dC n110 1).bind λp122=>(Hp.st r120.2 p122.1 p122.2 (.int .i64 (wrap .i64 (n116+n121)))).bind λH123=>aA.l29 F cI cJ cB cf cb cV dC (wrap .i64 (da+1)) H123) else none)) else (aA.j2 F cI cJ cB dC H15))))
termination_by structural n=>n
def aA.twX (cI:aa4) (cJ:aaY) (cB:aa3) (aa:Int) (ac:Int) (ar:Sl) (H:Hp):OA:=(Hp.new H [(.int .i64 aa),(.int .i64 ac),(.sl ar)]).bind λH4=>(Hp.ldI H4 .i64 H.length 0).bind λn5=>(Hp.mk H4 [.int .i64 0] 8 (wrap .i64 (n5+1)) (wrap .i64 (n5+1))).bind λm6=>aA.l29 F cI cJ cB F H.length 0 m6.1 0 m6.2
def aA.tw:=aA.twX F (aj.tw F) (ag.tw F) (aF.tw F)
def aA.lh29 (cI:aa4) (cJ:aaY) (cB:aa3) (ks:aa1) (n:Nat) (tm:Tm) (H:Hp):OA:=match ks,tm 1,tm 3,tm 4 with
 | [],(.ptr cb cV),(.sl dC),(.int .i64 da)=>aA.l29 F cI cJ cB n cb cV dC da H
 | _,_,_,_=>none
def aA.lh125 (cI:aa4) (cJ:aaY) (cB:aa3) (ks:aa1) (n:Nat) (tm:Tm) (H:Hp):OA:=match ks,tm 3,tm 7,tm 8 with
 | [],(.sl oh),(.sl uW),(.int .i64 eo)=>aA.l125 F cI cJ cB n oh uW eo H
 | _,_,_,_=>none
def aA.lh (cI:aa4) (cJ:aaY) (cB:aa3) (p:Nat) (ks:aa1) (n:Nat) (tm:Tm) (H:Hp):OA:=bif p.beq 125 then aA.lh125 F cI cJ cB ks n tm H else (bif p.beq 29 then aA.lh29 F cI cJ cB ks n tm H else (none))
def aA.pn:Nat->List Nat:=cY [(6,[10])]
def aA.tb:Nat->List (List Nat):=cY [(6,[[],[],[],[],[2,3],[2,3,4],[],[6],[2,3,4,5,6,7],[0,1,2,3,4,5,6,7,8],[0,1,2,3,4,5,6,7,8,9]])]
def aA.cs (F:Nat) (cI:aa4) (cJ:aaY) (cB:aa3):Cs:=[(140,mk1 cI),(81,mk3 cJ),(141,mk2 cB)]
theorem aA.loops (cI:aa4) (cJ:aaY) (cB:aa3):LO (bH (aA.cs F cI cJ cB)) aA.pn (aA.lh F cI cJ cB) F Try.f91:=
 (ae.rt (ae.rt (ae.seq (ae.rt (ae.block (ae.la (λn tm H r h=>by change aA.lh29 F cI cJ cB [] n tm H=_ at h;unfold aA.lh29 at h;split at h;have e:ck tm [(1,_),(3,_),(4,_)]:=⟨‹_›,‹_›,‹_›,trivial⟩;obtain _ | k29:=n;cases h;exact ⟨_,rfl,by rw [<- co e];exact Eq.trans (by kernel_rfl) h⟩;cases h) λk29=>ae.no))) (ae.rt (ae.lt (ae.rt (ae.block (ae.la (λn tm H r h=>by change aA.lh125 F cI cJ cB [] n tm H=_ at h;unfold aA.lh125 at h;split at h;have e:ck tm [(3,_),(7,_),(8,_)]:=⟨‹_›,‹_›,‹_›,trivial⟩;obtain _ | k125:=n;cases h;exact ⟨_,rfl,by rw [<- co e];exact Eq.trans (by kernel_rfl) h⟩;cases h) λk125=>ae.no))))))))
theorem aA.eqX (cI:aa4) (cJ:aaY) (cB:aa3) (aa:Int) (ac:Int) (ar:Sl) (H:Hp):EX (bH (aA.cs F cI cJ cB)) aA.pn (aA.lh F cI cJ cB) F Try.f91 [(.agg [(.int .i64 aa),(.int .i64 ac),(.sl ar)])] H=aA.twX F cI cJ cB aa ac ar H:=by kernel_rfl
theorem aA.k:Ok Try.prog 91 (mk3 (aA.tw F)):=by
 intro args H v H' h
 unfold mk3 at h
 split at h
 ·exact okT (TB:=aA.tb) Try.func91 (bF (aj.k F) (bF (ag.k F) (bF (aF.k F) cO))) (aA.loops F (aj.tw F) (ag.tw F) (aF.tw F)) ((aA.eqX F (aj.tw F) (ag.tw F) (aF.tw F) _ _ _ H).trans h) (by kernel_rfl)
 ·cases h
def cK.twX (F:Nat) (bY:aaY) (ol:aaY) (om:abb) (oq:aaY) (ou:aaY) (aa:Int) (ac:Int) (ar:Sl) (H:Hp):OA:=(Hp.new H [(.int .i64 aa),(.int .i64 ac),(.sl ar)]).bind λH4=>(Hp.ldI H4 .i64 H.length 0).bind λn5=>(Hp.ldI H4 .i64 H.length (0+1)).bind λn6=>(Hp.ldSl H4 H.length (0+2)).bind λs7=>(bY n5 n6 s7 H4).bind λr8=>((r8.1).asB).bind λb9=>(bif (!b9) then (some ((.tup [(.int .i64 0),(.int .i64 1)]),r8.2)) else ((Hp.ldI r8.2 .i64 H.length 0).bind λn10=>(Hp.ldI r8.2 .i64 H.length (0+1)).bind λn11=>(Hp.ldSl r8.2 H.length (0+2)).bind λs12=>(Hp.ldI r8.2 .i64 H.length 0).bind λn13=>(Hp.ldI r8.2 .i64 H.length (0+1)).bind λn14=>(Hp.ldSl r8.2 H.length (0+2)).bind λs15=>(ol n13 n14 s15 r8.2).bind λr16=>((r16.1).asAgg 3).bind λl17=>(l17[0]?).bind λv18=>((v18).asI .i64).bind λn19=>(l17[1]?).bind λv20=>((v20).asI .i64).bind λn21=>(l17[2]?).bind λv22=>((v22).asSl).bind λs23=>(if ax r8.2 r16.2 then ((om n10 n11 s12 n19 n21 s23 r16.2).bind λr24=>((r24.1).asB).bind λb25=>(bif (!b25) then (some ((.tup [(.int .i64 0),(.int .i64 2)]),r24.2)) else ((Hp.ldI r24.2 .i64 H.length 0).bind λn26=>(bif (decide (n26>12)) then (some ((.tup [(.int .i64 0),(.int .i64 3)]),r24.2)) else ((Hp.ldI r24.2 .i64 H.length 0).bind λn27=>(Hp.ldI r24.2 .i64 H.length (0+1)).bind λn28=>(Hp.ldSl r24.2 H.length (0+2)).bind λs29=>(oq n27 n28 s29 r24.2).bind λr30=>((r30.1).asB).bind λb31=>(bif (!b31) then (some ((.tup [(.int .i64 0),(.int .i64 3)]),r30.2)) else ((Hp.ldI r30.2 .i64 H.length 0).bind λn32=>(Hp.ldI r30.2 .i64 H.length (0+1)).bind λn33=>(Hp.ldSl r30.2 H.length (0+2)).bind λs34=>(ou n32 n33 s34 r30.2).bind λr35=>((r35.1).asI .i64).bind λn36=>some ((.tup [(.int .i64 n36),(.int .i64 0)]),r35.2)))))))) else none)))
def cK.tw:=cK.twX F (aY.tw F) (av.tw F) (bC.tw F) (az.tw F) (aA.tw F)
def cK.pn:Nat->List Nat:=cY [(3,[3])]
def cK.tb:Nat->List (List Nat):=cY [(3,[[],[],[1],[0,1,2],[0,1,2,3]])]
def cK.cs (F:Nat) (bY:aaY) (ol:aaY) (om:abb) (oq:aaY) (ou:aaY):Cs:=[(29,mk3 bY),(90,mk3 ol),(89,mk7 om),(80,mk3 oq),(91,mk3 ou)]
theorem cK.eqX (bY:aaY) (ol:aaY) (om:abb) (oq:aaY) (ou:aaY) (aa:Int) (ac:Int) (ar:Sl) (H:Hp):EX (bH (cK.cs F bY ol om oq ou)) cK.pn lh0 F Try.f35 [(.agg [(.int .i64 aa),(.int .i64 ac),(.sl ar)])] H=cK.twX F bY ol om oq ou aa ac ar H:=by kernel_rfl
theorem cK.k:Ok Try.prog 35 (mk3 (cK.tw F)):=by
 intro args H v H' h
 unfold mk3 at h
 split at h
 ·exact okT (TB:=cK.tb) Try.func35 (bF (aY.k F) (bF (av.k F) (bF (bC.k F) (bF (az.k F) (bF (aA.k F) cO))))) ae.no ((cK.eqX F (aY.tw F) (av.tw F) (bC.tw F) (az.tw F) (aA.tw F) _ _ _ H).trans h) (by kernel_rfl)
 ·cases h
def cQ.twX (F:Nat) (aa:Int) (aI:Int) (di:Int) (H:Hp):OA:=(bif (decide (aI<=aa)) then (some ((.bool (decide (aa<=di))),H)) else (some ((.bool false),H)))
def cQ.tw:=cQ.twX F
theorem cQ.k:Ok Try.prog 125 (mk4 (cQ.tw F)):=by
 intro args H v H' h
 unfold mk4 at h
 split at h
 ·exact ok0 Try.func125 (Eq.trans (by kernel_rfl) h) (by kernel_rfl) (by kernel_rfl)
 ·cases h
def dI.twX (F:Nat) (aa:Sl) (H:Hp):OA:=some ((.int .i64 (aa.n:Int)),H)
def dI.tw:=dI.twX F
theorem dI.k:Ok Try.prog 68 (mk2 (dI.tw F)):=by
 intro args H v H' h
 unfold mk2 at h
 split at h
 ·exact ok0 Try.func68 (Eq.trans (by kernel_rfl) h) (by kernel_rfl) (by kernel_rfl)
 ·cases h
def dc.twX (F:Nat) (fx:aa6) (aa:Int) (H:Hp):OA:=(fx aa (-1000000000000) 1000000000000 H).bind λr2=>((r2.1).asB).bind λb3=>some ((.bool (!b3)),r2.2)
def dc.tw:=dc.twX F (cQ.tw F)
def dc.cs (F:Nat) (fx:aa6):Cs:=[(125,mk4 fx)]
theorem dc.eqX (fx:aa6) (aa:Int) (H:Hp):EX (bH (dc.cs F fx)) bR lh0 F Try.f127 [(.int .i64 aa)] H=dc.twX F fx aa H:=by kernel_rfl
theorem dc.k:Ok Try.prog 127 (mk8 (dc.tw F)):=by
 intro args H v H' h
 unfold mk8 at h
 split at h
 ·exact okT (TB:=bR) Try.func127 (bF (cQ.k F) cO) ae.no ((dc.eqX F (cQ.tw F) _ H).trans h) (by kernel_rfl)
 ·cases h
def bo.l13 (F:Nat) (dT:aa2) :Nat->Sl->Int->Int->Hp->OA
 | 0,_,_,_,_=>none
 | PU+1,dQ,fy,dJ,H6=>(bif (decide (dJ<fy)) then ((Sl.idx dQ dJ 1).bind λp11=>(Hp.ldI H6 .i64 p11.1 p11.2).bind λn12=>(dT n12 H6).bind λr13=>((r13.1).asB).bind λb14=>(bif b14 then (some ((.int .i64 dJ),r13.2)) else (bo.l13 F dT PU dQ fy (wrap .i64 (dJ+1)) r13.2))) else (some ((.int .i64 (-1)),H6)))
def bo.twX (dT:aa2) (aa:Sl) (H:Hp):OA:=bo.l13 F dT F aa (aa.n:Int) 0 H
def bo.tw:=bo.twX F (dc.tw F)
def bo.lh13 (dT:aa2) (ks:aa1) (n:Nat) (tm:Tm) (H:Hp):OA:=match ks,tm 0,tm 1,tm 7,tm 8 with
 | [],(.sl dQ),(.fn 127 []),(.int .i64 fy),(.int .i64 dJ)=>bo.l13 F dT n dQ fy dJ H
 | _,_,_,_,_=>none
def bo.lh (dT:aa2) (p:Nat) (ks:aa1) (n:Nat) (tm:Tm) (H:Hp):OA:=bif p.beq 13 then bo.lh13 F dT ks n tm H else (none)
def mk9 (g:aa3) (args:aba) (H:Hp):OA:=match args with
 | [(.sl aa),(.fn 127 [])]=>g aa H
 | _=>none
theorem mk9_E (g:aa3) (aa:Sl) (H:Hp):mk9 g [(.sl aa),(.fn 127 [])] H=g aa H:=rfl
def bo.cs (F:Nat) (dT:aa2):Cs:=[(127,mk8 dT)]
theorem bo.loops (dT:aa2):LO (bH (bo.cs F dT)) bR (bo.lh F dT) F Try.f122:=
 (ae.rt (ae.lt (ae.rt (ae.block (ae.la (λn tm H r h=>by change bo.lh13 F dT [] n tm H=_ at h;unfold bo.lh13 at h;split at h;have e:ck tm [(0,_),(1,_),(7,_),(8,_)]:=⟨‹_›,‹_›,‹_›,‹_›,trivial⟩;obtain _ | k13:=n;cases h;exact ⟨_,rfl,by rw [<- co e];exact Eq.trans (by kernel_rfl) h⟩;cases h) λk13=>ae.no)))))
theorem bo.eqX (dT:aa2) (aa:Sl) (H:Hp):EX (bH (bo.cs F dT)) bR (bo.lh F dT) F Try.f122 [(.sl aa),(.fn 127 [])] H=bo.twX F dT aa H:=by kernel_rfl
theorem bo.k:Ok Try.prog 122 (mk9 (bo.tw F)):=by
 intro args H v H' h
 unfold mk9 at h
 split at h
 ·exact okT (TB:=bR) Try.func122 (bF (dc.k F) cO) (bo.loops F (dc.tw F)) ((bo.eqX F (dc.tw F) _ H).trans h) (by kernel_rfl)
 ·cases h
def dg.twX (F:Nat) (ov:aa3) (aa:Sl) (H:Hp):OA:=(ov aa H).bind λr2=>((r2.1).asI .i64).bind λn3=>some ((.bool (decide (n3>=0))),r2.2)
def dg.tw:=dg.twX F (bo.tw F)
def dg.cs (F:Nat) (ov:aa3):Cs:=[(122,mk9 ov)]
theorem dg.eqX (ov:aa3) (aa:Sl) (H:Hp):EX (bH (dg.cs F ov)) bR lh0 F Try.f65 [(.sl aa),(.fn 127 [])] H=dg.twX F ov aa H:=by kernel_rfl
theorem dg.k:Ok Try.prog 65 (mk9 (dg.tw F)):=by
 intro args H v H' h
 unfold mk9 at h
 split at h
 ·exact okT (TB:=bR) Try.func65 (bF (bo.k F) cO) ae.no ((dg.eqX F (bo.tw F) _ H).trans h) (by kernel_rfl)
 ·cases h
def bN.twX (F:Nat) (fx:aa6) (ox:aa3) (oy:aa3) (aa:Int) (ac:Int) (ar:Sl) (H:Hp):OA:=(Hp.new H [(.int .i64 aa),(.int .i64 ac),(.sl ar)]).bind λH4=>(Hp.ldI H4 .i64 H.length 0).bind λn5=>(fx n5 0 48 H4).bind λr6=>((r6.1).asB).bind λb7=>(bif b7 then ((Hp.ldI r6.2 .i64 H.length 1).bind λn8=>(fx n8 0 48 r6.2).bind λr9=>((r9.1).asB).bind λb10=>(bif b10 then ((Hp.ldSl r9.2 H.length 2).bind λs11=>(ox s11 r9.2).bind λr12=>((r12.1).asI .i64).bind λn13=>(if ax r9.2 r12.2 then ((Hp.ldI r12.2 .i64 H.length 0).bind λn14=>(Hp.ldI r12.2 .i64 H.length 1).bind λn15=>(bif (n13==(wrap .i64 (n14 * n15))) then ((Hp.ldSl r12.2 H.length 2).bind λs16=>(oy s16 r12.2).bind λr17=>((r17.1).asB).bind λb18=>some ((.bool (!b18)),r17.2)) else (some ((.bool false),r12.2)))) else none)) else (some ((.bool false),r9.2)))) else (some ((.bool false),r6.2)))
def bN.tw:=bN.twX F (cQ.tw F) (dI.tw F) (dg.tw F)
def bN.pn:Nat->List Nat:=cY [(1,[2,6,22])]
def bN.tb:Nat->List (List Nat):=cY [(1,[[],[0],[0,1],[0,1,2],[0,1,2,3],[0,1,2,3,4],[0,1,2,3,4,5],[0,1,2,3,4,5,6],[0,1,2,3,4,5,6,7],[0,1,2,3,4,5,6,7,8],[0,1,2,3,4,5,6,7,8,9],[0,1,2,3,4,5,6,7,8,9,10],[0,1,2,3,4,5,6,7,8],[0,1,2,3,4,5,6,7,8,12],[0,1,2,3,4,5,6,7,8],[0,1,2,3,4,5,6,7,8,14],[0,1,2,3,4,5,6,7,8,12,13,14,15],[0,1,2,3,4,5,6,7,8,9,10,11,12,13,14,15,16],[0,1,2,3,4,5,6,7,8,9,10,11,12,13,14,15,16,17],[0,1,2,3,4,5,6,7,8,9,10,11,12,13,14,15,16,17,18],[0,1,2,3,4,5,6,7,8,9,10,11,12,13,14,15,16,17,18,19],[0,1,2,3,4,5,6,7,8,9,10,11,12,13,14,15,16,17,18,19,20],[0,1,2,3,4,5,6,7,8,9,10,11,12,13,14,15,16,17,18,19,20,21],[0,1,2,3,4,5,6,7,8,9,10,11,12,13,14,15,16,17,18,19,20,21,22],[0,1,2,3,4,5,6,7,8,9,10,11,12,13,14,15,16,17,18,19,20,21,22,23],[0,1,2,3,4,5,6,7,8,9,10,11,12,13,14,15,16,17,18,19,20,21,22,23,24]])]
def bN.cs (F:Nat) (fx:aa6) (ox:aa3) (oy:aa3):Cs:=[(125,mk4 fx),(68,mk2 ox),(65,mk9 oy)]
theorem bN.eqX (fx:aa6) (ox:aa3) (oy:aa3) (aa:Int) (ac:Int) (ar:Sl) (H:Hp):EX (bH (bN.cs F fx ox oy)) bN.pn lh0 F Try.f76 [(.agg [(.int .i64 aa),(.int .i64 ac),(.sl ar)])] H=bN.twX F fx ox oy aa ac ar H:=by kernel_rfl
theorem bN.k:Ok Try.prog 76 (mk3 (bN.tw F)):=by
 intro args H v H' h
 unfold mk3 at h
 split at h
 ·exact okT (TB:=bN.tb) Try.func76 (bF (cQ.k F) (bF (dI.k F) (bF (dg.k F) cO))) ae.no ((bN.eqX F (cQ.tw F) (dI.tw F) (dg.tw F) _ _ _ H).trans h) (by kernel_rfl)
 ·cases h
def bD.twX (F:Nat) (aa:Int) (aI:Int) (H:Hp):OA:=(Hp.new H [.int .i64 0,.int .i64 0,.sl ⟨none,0,.ex 0⟩]).bind λH3=>(Hp.mk H3 [.int .i64 0] 8 (wrap .i64 (aa * aI)) (wrap .i64 (aa * aI))).bind λm4=>(Hp.st m4.2 H.length 0 (.int .i64 aa)).bind λH5=>(Hp.st H5 H.length (0+1) (.int .i64 aI)).bind λH6=>(Hp.st H6 H.length (0+1+1) (.sl m4.1)).bind λH7=>(Hp.ldI H7 .i64 H.length 0).bind λn8=>(Hp.ldI H7 .i64 H.length (0+1)).bind λn9=>(Hp.ldSl H7 H.length (0+2)).bind λs10=>some ((.agg [(.int .i64 n8),(.int .i64 n9),(.sl s10)]),H7)
def bD.tw:=bD.twX F
theorem bD.k:Ok Try.prog 74 (mk5 (bD.tw F)):=by
 intro args H v H' h
 unfold mk5 at h
 split at h
 ·exact ok0 Try.func74 (Eq.trans (by kernel_rfl) h) (by kernel_rfl) (by kernel_rfl)
 ·cases h
def bZ.twX (F:Nat) (aa:Int) (ac:Int) (ar:Sl) (aC:Int) (cp:Int) (H:Hp):OA:=(Hp.new H [(.int .i64 aa),(.int .i64 ac),(.sl ar)]).bind λH6=>(Hp.ldSl H6 H.length 2).bind λs7=>(Hp.ldI H6 .i64 H.length 1).bind λn8=>(Sl.idx s7 (wrap .i64 ((wrap .i64 (aC * n8))+cp)) 1).bind λp9=>some ((.ptr p9.1 p9.2),H6)
def bZ.tw:=bZ.twX F
theorem bZ.k:Ok Try.prog 75 (mk6 (bZ.tw F)):=by
 intro args H v H' h
 unfold mk6 at h
 split at h
 ·exact ok0 Try.func75 (Eq.trans (by kernel_rfl) h) (by kernel_rfl) (by kernel_rfl)
 ·cases h
def aw.j3 (F:Nat) (b_:aaY) (aG:aa0) (aD:aaW) (C61_:abg) (uX:Nat) (PW:Nat) (uY:Nat) (PX:Nat) (uZ:Nat) (PY:Nat) (oz:Int) (oA:Int) (H197:Hp):OA:=C61_ uX PW uY PX uZ PY oz (wrap .i64 (oA+1)) H197
def aw.j4 (b_:aaY) (aG:aa0) (aD:aaW) (C61_:abg) (u_:Nat) (PZ:Nat) (va:Nat) (P_:Nat) (vb:Nat) (Qa:Nat) (oB:Int) (oC:Int) (H179:Hp):OA:=aw.j3 F b_ aG aD C61_ u_ PZ va P_ vb Qa oB oC H179
def aw.l3931 (F:Nat) (b_:aaY) (aG:aa0) (aD:aaW) (C61_:abg):Nat->Nat->Nat->Nat->Nat->Nat->Nat->Int->Int->Int->Int->Int->Hp->OA
 | 0,_,_,_,_,_,_,_,_,_,_,_,_=>none
 | Qb+1,gV,lT,kA,vc,gW,lU,gX,gY,fU,gZ,fa,H149=>(bif (decide (fa<gZ)) then ((Hp.ldI H149 .i64 gW lU).bind λn198=>(Hp.ldI H149 .i64 gW (lU+1)).bind λn199=>(Hp.ldSl H149 gW (lU+2)).bind λs200=>(aD n198 n199 s200 fa fU H149).bind λr201=>((r201.1).asP).bind λp202=>(if ax H149 r201.2 then ((Hp.ldI r201.2 .i64 gV lT).bind λn203=>(Hp.ldI r201.2 .i64 gV (lT+1)).bind λn204=>(Hp.ldSl r201.2 gV (lT+2)).bind λs205=>(aD n203 n204 s205 fU fa r201.2).bind λr206=>((r206.1).asP).bind λp207=>(Hp.ldI r206.2 .i64 p207.1 p207.2).bind λn208=>(Hp.st r206.2 p202.1 p202.2 (.int .i64 n208)).bind λH209=>aw.l3931 F b_ aG aD C61_ Qb gV lT kA vc gW lU gX gY fU gZ (wrap .i64 (fa+1)) H209) else none)) else (aw.j4 F b_ aG aD C61_ gV lT kA vc gW lU gX gY H149))
termination_by structural n=>n
def aw.l61 (F:Nat) (b_:aaY) (aG:aa0) (aD:aaW) :Nat->Nat->Nat->Nat->Nat->Nat->Nat->Int->Int->Hp->OA
 | 0,_,_,_,_,_,_,_,_,_=>none
 | jC+1,fJ,vd,dp,jI,dY,oD,g_,fV,H44=>(bif (decide (fV<g_)) then ((Hp.ldI H44 .i64 fJ (vd+1)).bind λn132=>aw.l3931 F b_ aG aD (aw.l61 F b_ aG aD jC) F fJ vd dp jI dY oD g_ fV fV n132 0 H44) else ((Hp.ldI H44 .i64 dY oD).bind λn210=>(Hp.ldI H44 .i64 dY (oD+1)).bind λn211=>(Hp.ldSl H44 dY (oD+2)).bind λs212=>(Hp.st H44 dp jI (.int .i64 n210)).bind λH213=>(Hp.st H213 dp (jI+1) (.int .i64 n211)).bind λH214=>(Hp.st H214 dp (jI+1+1) (.sl s212)).bind λH215=>(Hp.ldI H215 .i64 dp jI).bind λn216=>(Hp.ldI H215 .i64 dp (jI+1)).bind λn217=>(Hp.ldSl H215 dp (jI+2)).bind λs218=>some ((.agg [(.int .i64 n216),(.int .i64 n217),(.sl s218)]),H215)))
termination_by structural n=>n
def aw.twX (b_:aaY) (aG:aa0) (aD:aaW) (aa:Int) (ac:Int) (ar:Sl) (H:Hp):OA:=(Hp.new H [(.int .i64 aa),(.int .i64 ac),(.sl ar)]).bind λH4=>(Hp.new H4 [.int .i64 0,.int .i64 0,.sl ⟨none,0,.ex 0⟩]).bind λH5=>(Hp.ldI H5 .i64 H.length 0).bind λn6=>(Hp.ldI H5 .i64 H.length (0+1)).bind λn7=>(Hp.ldSl H5 H.length (0+2)).bind λs8=>(b_ n6 n7 s8 H5).bind λr9=>((r9.1).asB).bind λb10=>(bif (!b10) then ((Hp.st r9.2 H4.length 0 (.int .i64 0)).bind λH11=>(Hp.st H11 H4.length (0+1) (.int .i64 0)).bind λH12=>(Hp.st H12 H4.length (0+1+1) (.sl (⟨none,0,.ex 0⟩:Sl))).bind λH13=>(Hp.ldI H13 .i64 H4.length 0).bind λn14=>(Hp.ldI H13 .i64 H4.length (0+1)).bind λn15=>(Hp.ldSl H13 H4.length (0+2)).bind λs16=>some ((.agg [(.int .i64 n14),(.int .i64 n15),(.sl s16)]),H13)) else ((Hp.ldI r9.2 .i64 H.length 1).bind λn17=>(Hp.ldI r9.2 .i64 H.length 0).bind λn18=>(aG n17 n18 r9.2).bind λr19=>((r19.1).asAgg 3).bind λl20=>(l20[0]?).bind λv21=>((v21).asI .i64).bind λn22=>(l20[1]?).bind λv23=>((v23).asI .i64).bind λn24=>(l20[2]?).bind λv25=>((v25).asSl).bind λs26=>(Hp.new r19.2 [.int .i64 0,.int .i64 0,.sl ⟨none,0,.ex 0⟩]).bind λH27=>(Hp.st H27 r19.2.length 0 (.int .i64 n22)).bind λH28=>(Hp.st H28 r19.2.length (0+1) (.int .i64 n24)).bind λH29=>(Hp.st H29 r19.2.length (0+1+1) (.sl s26)).bind λH30=>(Hp.ldI H30 .i64 H.length 0).bind λn31=>aw.l61 F b_ aG aD F H.length 0 H4.length 0 r19.2.length 0 n31 0 H30))
def aw.tw:=aw.twX F (bN.tw F) (bD.tw F) (bZ.tw F)
def aw.lh61 (b_:aaY) (aG:aa0) (aD:aaW) (ks:aa1) (n:Nat) (tm:Tm) (H:Hp):OA:=match ks,tm 1,tm 2,tm 3,tm 16,tm 17 with
 | [],(.ptr fJ vd),(.ptr dp jI),(.ptr dY oD),(.int .i64 g_),(.int .i64 fV)=>aw.l61 F b_ aG aD n fJ vd dp jI dY oD g_ fV H
 | _,_,_,_,_,_=>none
def aw.lh3931 (b_:aaY) (aG:aa0) (aD:aaW) (ks:aa1) (n:Nat) (tm:Tm) (H:Hp):OA:=match ks,tm 1,tm 2,tm 3,tm 4,tm 16,tm 17,tm 21,tm 22 with
 | [jC],(.ptr gV lT),(.ptr kA vc),(.ptr gW lU),(.int .i64 fU),(.int .i64 gX),(.int .i64 gY),(.int .i64 gZ),(.int .i64 fa)=>aw.l3931 F b_ aG aD (aw.l61 F b_ aG aD jC) n gV lT kA vc gW lU gX gY fU gZ fa H
 | _,_,_,_,_,_,_,_,_=>none
def aw.lh (b_:aaY) (aG:aa0) (aD:aaW) (p:Nat) (ks:aa1) (n:Nat) (tm:Tm) (H:Hp):OA:=bif p.beq 3931 then aw.lh3931 F b_ aG aD ks n tm H else (bif p.beq 61 then aw.lh61 F b_ aG aD ks n tm H else (none))
def aw.pn:Nat->List Nat:=cY [(10,[7,11])]
def aw.tb:Nat->List (List Nat):=cY [(10,[[],[],[],[0,1,2],[],[],[],[0,1,2,3,4,5,6],[0,1,2,3,4,5,6,7],[0,1,2,3,4,5,6,7,8],[0,1,2,3,4,5,6,7,8,9],[0,1,2,3,4,5,6,7,8,9,10]])]
def aw.cs (F:Nat) (b_:aaY) (aG:aa0) (aD:aaW):Cs:=[(76,mk3 b_),(74,mk5 aG),(75,mk6 aD)]
theorem aw.loops (b_:aaY) (aG:aa0) (aD:aaW):LO (bH (aw.cs F b_ aG aD)) aw.pn (aw.lh F b_ aG aD) F Try.f23:=
 (ae.rt (ae.rt (ae.rt (ae.lt (ae.rt (ae.block (ae.la (λn tm H r h=>by change aw.lh61 F b_ aG aD [] n tm H=_ at h;unfold aw.lh61 at h;split at h;have e:ck tm [(1,_),(2,_),(3,_),(16,_),(17,_)]:=⟨‹_›,‹_›,‹_›,‹_›,‹_›,trivial⟩;obtain _ | k61:=n;cases h;exact ⟨_,rfl,by rw [<- co e];exact Eq.trans (by kernel_rfl) h⟩;cases h) λk61=>(ae.rt (ae.rt (ae.lt (ae.block (ae.rt (ae.rt (ae.block (ae.la (λn tm H r h=>by change aw.lh3931 F b_ aG aD [k61] n tm H=_ at h;unfold aw.lh3931 at h;split at h;have e:ck tm [(1,_),(2,_),(3,_),(4,_),(16,_),(17,_),(21,_),(22,_)]:=⟨‹_›,‹_›,‹_›,‹_›,‹_›,‹_›,‹_›,‹_›,trivial⟩;cases (show [k61]=_ from ‹_›);obtain _ | k3931:=n;cases h;exact ⟨_,rfl,by rw [<- co e];exact Eq.trans (by kernel_rfl) h⟩;cases h) λk3931=>ae.no)))))))))))))))
theorem aw.eqX (b_:aaY) (aG:aa0) (aD:aaW) (aa:Int) (ac:Int) (ar:Sl) (H:Hp):EX (bH (aw.cs F b_ aG aD)) aw.pn (aw.lh F b_ aG aD) F Try.f23 [(.agg [(.int .i64 aa),(.int .i64 ac),(.sl ar)])] H=aw.twX F b_ aG aD aa ac ar H:=by kernel_rfl
theorem aw.k:Ok Try.prog 23 (mk3 (aw.tw F)):=by
 intro args H v H' h
 unfold mk3 at h
 split at h
 ·exact okT (TB:=aw.tb) Try.func23 (bF (bN.k F) (bF (bD.k F) (bF (bZ.k F) cO))) (aw.loops F (bN.tw F) (bD.tw F) (bZ.tw F)) ((aw.eqX F (bN.tw F) (bD.tw F) (bZ.tw F) _ _ _ H).trans h) (by kernel_rfl)
 ·cases h
def bE.l29 (F:Nat) :Nat->Sl->Sl->Int->Int->Hp->OA
 | 0,_,_,_,_,_=>none
 | cf+1,eG,jJ,hJ,fb,H9=>(bif (decide (fb<hJ)) then ((Sl.idx eG fb 1).bind λp14=>(Hp.ldI H9 .i64 p14.1 p14.2).bind λn15=>(Sl.idx jJ fb 1).bind λp16=>(Hp.ldI H9 .i64 p16.1 p16.2).bind λn17=>(bif (n15 != n17) then (some ((.bool false),H9)) else (bE.l29 F cf eG jJ hJ (wrap .i64 (fb+1)) H9))) else (some ((.bool true),H9)))
def bE.twX (aa:Sl) (aI:Sl) (H:Hp):OA:=(bif ((aa.n:Int) != (aI.n:Int)) then (some ((.bool false),H)) else (bE.l29 F F aa aI (aa.n:Int) 0 H))
def bE.tw:=bE.twX F
def bE.lh29 (ks:aa1) (n:Nat) (tm:Tm) (H:Hp):OA:=match ks,tm 0,tm 1,tm 12,tm 13 with
 | [],(.sl eG),(.sl jJ),(.int .i64 hJ),(.int .i64 fb)=>bE.l29 F n eG jJ hJ fb H
 | _,_,_,_,_=>none
def bE.lh (p:Nat) (ks:aa1) (n:Nat) (tm:Tm) (H:Hp):OA:=bif p.beq 29 then bE.lh29 F ks n tm H else (none)
def bE.tb:Nat->List (List Nat):=cY [(6,[[],[],[0,1],[0,1,2],[],[],[4,5],[4,5,6],[0,1,2,3,4,5,6,7]])]
def mk10 (g:abh) (args:aba) (H:Hp):OA:=match args with
 | [(.sl aa),(.sl aI)]=>g aa aI H
 | _=>none
theorem mk10_E (g:abh) (aa:Sl) (aI:Sl) (H:Hp):mk10 g [(.sl aa),(.sl aI)] H=g aa aI H:=rfl
theorem bE.loops:LO (bH []) bR (bE.lh F) F Try.f135:=
 (ae.rt (ae.rt (ae.lt (ae.rt (ae.block (ae.la (λn tm H r h=>by change bE.lh29 F [] n tm H=_ at h;unfold bE.lh29 at h;split at h;have e:ck tm [(0,_),(1,_),(12,_),(13,_)]:=⟨‹_›,‹_›,‹_›,‹_›,trivial⟩;obtain _ | k29:=n;cases h;exact ⟨_,rfl,by rw [<- co e];exact Eq.trans (by kernel_rfl) h⟩;cases h) λk29=>ae.no))))))
theorem bE.k:Ok Try.prog 135 (mk10 (bE.tw F)):=by
 intro args H v H' h
 unfold mk10 at h
 split at h
 ·exact okT (PN:=bR) (LH:=(bE.lh F)) (F:=F) (TB:=bE.tb) Try.func135 cO (bE.loops F) (Eq.trans (by kernel_rfl) h) (by kernel_rfl)
 ·cases h
def dj.twX (F:Nat) (oE:abh) (aa:Int) (ac:Int) (ar:Sl) (aC:Int) (cv:Int) (eH:Sl) (H:Hp):OA:=(Hp.new H [(.int .i64 aa),(.int .i64 ac),(.sl ar)]).bind λH7=>(Hp.new H7 [(.int .i64 aC),(.int .i64 cv),(.sl eH)]).bind λH8=>(Hp.ldI H8 .i64 H.length 0).bind λn9=>(Hp.ldI H8 .i64 H7.length 0).bind λn10=>(bif (n9==n10) then ((Hp.ldI H8 .i64 H.length 1).bind λn11=>(Hp.ldI H8 .i64 H7.length 1).bind λn12=>(bif (n11==n12) then ((Hp.ldSl H8 H.length 2).bind λs13=>(Hp.ldSl H8 H7.length 2).bind λs14=>(oE s13 s14 H8).bind λr15=>((r15.1).asB).bind λb16=>some ((.bool b16),r15.2)) else (some ((.bool false),H8)))) else (some ((.bool false),H8)))
def dj.tw:=dj.twX F (bE.tw F)
def dj.cs (F:Nat) (oE:abh):Cs:=[(135,mk10 oE)]
theorem dj.eqX (oE:abh) (aa:Int) (ac:Int) (ar:Sl) (aC:Int) (cv:Int) (eH:Sl) (H:Hp):EX (bH (dj.cs F oE)) bR lh0 F Try.f84 [(.agg [(.int .i64 aa),(.int .i64 ac),(.sl ar)]),(.agg [(.int .i64 aC),(.int .i64 cv),(.sl eH)])] H=dj.twX F oE aa ac ar aC cv eH H:=by kernel_rfl
theorem dj.k:Ok Try.prog 84 (mk7 (dj.tw F)):=by
 intro args H v H' h
 unfold mk7 at h
 split at h
 ·exact okT (TB:=bR) Try.func84 (bF (bE.k F) cO) ae.no ((dj.eqX F (bE.tw F) _ _ _ _ _ _ H).trans h) (by kernel_rfl)
 ·cases h
def cW.twX (F:Nat) (aa:Int) (ac:Int) (ar:Sl) (aC:Int) (H:Hp):OA:=(Hp.new H [(.int .i64 aa),(.int .i64 ac),(.sl ar)]).bind λH5=>(Hp.ldSl H5 H.length 2).bind λs6=>(Hp.ldI H5 .i64 H.length 1).bind λn7=>(Hp.ldI H5 .i64 H.length 1).bind λn8=>(Sl.cut s6 1 (wrap .i64 (aC * n7)) (wrap .i64 ((wrap .i64 (aC+1)) * n8))).bind λs9=>some ((.sl s9),H5)
def cW.tw:=cW.twX F
theorem cW.k:Ok Try.prog 128 (mk1 (cW.tw F)):=by
 intro args H v H' h
 unfold mk1 at h
 split at h
 ·exact ok0 Try.func128 (Eq.trans (by kernel_rfl) h) (by kernel_rfl) (by kernel_rfl)
 ·cases h
def cn.twX (F:Nat) (aa:Int) (H:Hp):OA:=(bif (decide (aa<0)) then (some ((.int .i64 (wrap .i64 (0 - aa))),H)) else (some ((.int .i64 aa),H)))
def cn.tw:=cn.twX F
theorem cn.k:Ok Try.prog 97 (mk8 (cn.tw F)):=by
 intro args H v H' h
 unfold mk8 at h
 split at h
 ·exact ok0 Try.func97 (Eq.trans (by kernel_rfl) h) (by kernel_rfl) (by kernel_rfl)
 ·cases h
def aB.j3 (F:Nat) (cC:aa4) (cD:aa2) (C29_:abm) (ve:Nat) (Qc:Nat) (oF:Int) (oG:Int) (oH:Int) (H139:Hp):OA:=C29_ ve Qc oF oG (wrap .i64 (oH+1)) H139
def aB.j4 (cC:aa4) (cD:aa2) (C29_:abm) (vf:Nat) (Qd:Nat) (ji:Int) (cR:Int) (oI:Int) (oJ:Int) (H121:Hp):OA:=(bif (decide ((wrap .i64 (ji * (if 1>(if 1000000001<cR then 1000000001 else cR) then 1 else (if 1000000001<cR then 1000000001 else cR))))>1000000000)) then (some ((.int .i64 (wrap .i64 (ji * (if 1>(if 1000000001<cR then 1000000001 else cR) then 1 else (if 1000000001<cR then 1000000001 else cR))))),H121)) else (aB.j3 F cC cD C29_ vf Qd (wrap .i64 (ji * (if 1>(if 1000000001<cR then 1000000001 else cR) then 1 else (if 1000000001<cR then 1000000001 else cR)))) oI oJ H121))
def aB.l7533 (F:Nat) (cC:aa4) (cD:aa2) (C29_:abm):Nat->Nat->Nat->Int->Int->Int->Int->Sl->Int->Int->Hp->OA
 | 0,_,_,_,_,_,_,_,_,_,_=>none
 | Qe+1,kB,vg,hK,hO,hU,h_,vh,ia,fW,H100=>(bif (decide (fW<ia)) then ((Sl.idx vh fW 1).bind λp140=>(Hp.ldI H100 .i64 p140.1 p140.2).bind λn141=>(cD n141 H100).bind λr142=>((r142.1).asI .i64).bind λn143=>aB.l7533 F cC cD C29_ Qe kB vg hK hO hU (wrap .i64 (h_+n143)) vh ia (wrap .i64 (fW+1)) r142.2) else (aB.j4 F cC cD C29_ kB vg hK h_ hO hU H100))
termination_by structural n=>n
def aB.l29 (F:Nat) (cC:aa4) (cD:aa2) :Nat->Nat->Nat->Int->Int->Int->Hp->OA
 | 0,_,_,_,_,_,_=>none
 | cf+1,eT,cb,cl,ib,fX,H15=>(bif (decide (fX<ib)) then ((Hp.ldI H15 .i64 eT cb).bind λn80=>(Hp.ldI H15 .i64 eT (cb+1)).bind λn81=>(Hp.ldSl H15 eT (cb+2)).bind λs82=>(cC n80 n81 s82 fX H15).bind λr83=>((r83.1).asSl).bind λs84=>aB.l7533 F cC cD (aB.l29 F cC cD cf) F eT cb cl ib fX 0 s84 (s84.n:Int) 0 r83.2) else (some ((.int .i64 cl),H15)))
termination_by structural n=>n
def aB.twX (cC:aa4) (cD:aa2) (aa:Int) (ac:Int) (ar:Sl) (H:Hp):OA:=(Hp.new H [(.int .i64 aa),(.int .i64 ac),(.sl ar)]).bind λH4=>(Hp.ldI H4 .i64 H.length 0).bind λn5=>aB.l29 F cC cD F H.length 0 1 n5 0 H4
def aB.tw:=aB.twX F (cW.tw F) (cn.tw F)
def aB.lh29 (cC:aa4) (cD:aa2) (ks:aa1) (n:Nat) (tm:Tm) (H:Hp):OA:=match ks,tm 1,tm 3,tm 9,tm 10 with
 | [],(.ptr eT cb),(.int .i64 cl),(.int .i64 ib),(.int .i64 fX)=>aB.l29 F cC cD n eT cb cl ib fX H
 | _,_,_,_,_=>none
def aB.lh7533 (cC:aa4) (cD:aa2) (ks:aa1) (n:Nat) (tm:Tm) (H:Hp):OA:=match ks,tm 1,tm 3,tm 5,tm 9,tm 10,tm 15,tm 16,tm 17 with
 | [cf],(.ptr kB vg),(.int .i64 hK),(.int .i64 h_),(.int .i64 hO),(.int .i64 hU),(.sl vh),(.int .i64 ia),(.int .i64 fW)=>aB.l7533 F cC cD (aB.l29 F cC cD cf) n kB vg hK hO hU h_ vh ia fW H
 | _,_,_,_,_,_,_,_,_=>none
def aB.lh (cC:aa4) (cD:aa2) (p:Nat) (ks:aa1) (n:Nat) (tm:Tm) (H:Hp):OA:=bif p.beq 7533 then aB.lh7533 F cC cD ks n tm H else (bif p.beq 29 then aB.lh29 F cC cD ks n tm H else (none))
def aB.cs (F:Nat) (cC:aa4) (cD:aa2):Cs:=[(128,mk1 cC),(97,mk8 cD)]
theorem aB.loops (cC:aa4) (cD:aa2):LO (bH (aB.cs F cC cD)) bR (aB.lh F cC cD) F Try.f77:=
 (ae.rt (ae.rt (ae.lt (ae.rt (ae.block (ae.la (λn tm H r h=>by change aB.lh29 F cC cD [] n tm H=_ at h;unfold aB.lh29 at h;split at h;have e:ck tm [(1,_),(3,_),(9,_),(10,_)]:=⟨‹_›,‹_›,‹_›,‹_›,trivial⟩;obtain _ | k29:=n;cases h;exact ⟨_,rfl,by rw [<- co e];exact Eq.trans (by kernel_rfl) h⟩;cases h) λk29=>(ae.rt (ae.rt (ae.lt (ae.block (ae.rt (ae.rt (ae.lt (ae.rt (ae.block (ae.la (λn tm H r h=>by change aB.lh7533 F cC cD [k29] n tm H=_ at h;unfold aB.lh7533 at h;split at h;have e:ck tm [(1,_),(3,_),(5,_),(9,_),(10,_),(15,_),(16,_),(17,_)]:=⟨‹_›,‹_›,‹_›,‹_›,‹_›,‹_›,‹_›,‹_›,trivial⟩;cases (show [k29]=_ from ‹_›);obtain _ | k7533:=n;cases h;exact ⟨_,rfl,by rw [<- co e];exact Eq.trans (by kernel_rfl) h⟩;cases h) λk7533=>ae.no))))))))))))))))
theorem aB.eqX (cC:aa4) (cD:aa2) (aa:Int) (ac:Int) (ar:Sl) (H:Hp):EX (bH (aB.cs F cC cD)) bR (aB.lh F cC cD) F Try.f77 [(.agg [(.int .i64 aa),(.int .i64 ac),(.sl ar)])] H=aB.twX F cC cD aa ac ar H:=by kernel_rfl
theorem aB.k:Ok Try.prog 77 (mk3 (aB.tw F)):=by
 intro args H v H' h
 unfold mk3 at h
 split at h
 ·exact okT (TB:=bR) Try.func77 (bF (cW.k F) (bF (cn.k F) cO)) (aB.loops F (cW.tw F) (cn.tw F)) ((aB.eqX F (cW.tw F) (cn.tw F) _ _ _ H).trans h) (by kernel_rfl)
 ·cases h
def af.j22 (F:Nat) (aG:aa0) (aD:aaW) (C253_:aa8) (vi:Nat) (Qf:Nat) (oK:Int) (Qg:Sl) (vj:Nat) (Qh:Nat) (oM:Int) (H1314:Hp):OA:=C253_ vi Qf oK Qg vj Qh (wrap .i64 (oM+1)) H1314
def af.j23 (aG:aa0) (aD:aaW) (C253_:aa8) (vk:Nat) (Qi:Nat) (kC:Int) (GQ:Sl) (lV:Nat) (vl:Nat) (gB:Int) (oN:Nat) (zJ:Nat) (oO:Int) (H1284:Hp):OA:=(if gB=0 then none else ((Sl.idx GQ (wrap .i64 (kC - gB)) 1).bind λp1285=>(Hp.st H1284 p1285.1 p1285.2 (.int .i64 (wrap .i64 (Int.tdiv (wrap .i64 (0 - oO)) gB)))).bind λH1286=>(Hp.ldI H1286 .i64 oN zJ).bind λn1287=>(Hp.ldI H1286 .i64 oN (zJ+1)).bind λn1288=>(Hp.ldSl H1286 oN (zJ+2)).bind λs1289=>(Hp.st H1286 lV vl (.int .i64 n1287)).bind λH1290=>(Hp.st H1290 lV (vl+1) (.int .i64 n1288)).bind λH1291=>(Hp.st H1291 lV (vl+1+1) (.sl s1289)).bind λH1292=>af.j22 F aG aD C253_ vk Qi kC GQ lV vl gB H1292))
def af.j26 (F:Nat) (aG:aa0) (aD:aaW) (C64861_:abc) (vm:Nat) (Qj:Nat) (oP:Int) (Qk:Sl) (vn:Nat) (Ql:Nat) (oQ:Int) (vo:Nat) (Qm:Nat) (oR:Int) (oS:Int) (oT:Int) (H1524:Hp):OA:=C64861_ vm Qj oP Qk vn Ql oQ vo Qm oR oS (wrap .i64 (oT+1)) H1524
def af.j27 (aG:aa0) (aD:aaW) (C64861_:abc) (vp:Nat) (Qn:Nat) (oU:Int) (Qo:Sl) (vq:Nat) (Qp:Nat) (oV:Int) (lW:Nat) (vr:Nat) (oW:Int) (kD:Int) (oX:Int) (oY:Int) (H1492:Hp):OA:=(Hp.ldI H1492 .i64 lW vr).bind λn1493=>(Hp.ldI H1492 .i64 lW (vr+1)).bind λn1494=>(Hp.ldSl H1492 lW (vr+2)).bind λs1495=>(aD n1493 n1494 s1495 kD kD H1492).bind λr1496=>((r1496.1).asP).bind λp1497=>(Hp.ldI r1496.2 .i64 p1497.1 p1497.2).bind λn1498=>af.j26 F aG aD C64861_ vp Qn oU Qo vq Qp oV lW vr (wrap .i64 (oW+n1498)) oX oY r1496.2
def af.j28 (F:Nat) (aG:aa0) (aD:aaW) (C8302261_:abn) (vt:Nat) (Qq:Nat) (oZ:Int) (Qr:Sl) (vu:Nat) (Qs:Nat) (o_:Int) (vv:Nat) (Qt:Nat) (pc:Int) (pd:Int) (pe:Int) (pf:Int) (pg:Int) (ph:Int) (H1632:Hp):OA:=C8302261_ vt Qq oZ Qr vu Qs o_ vv Qt pc pe pf pd pg (wrap .i64 (ph+1)) H1632
def af.j29 (aG:aa0) (aD:aaW) (C8302261_:abn) (vw:Nat) (Qu:Nat) (pi:Int) (Qv:Sl) (vx:Nat) (Qw:Nat) (pj:Int) (vy:Nat) (Qx:Nat) (pm:Int) (po:Int) (pu:Int) (pv:Int) (pw:Int) (pz:Int) (H1602:Hp):OA:=af.j28 F aG aD C8302261_ vw Qu pi Qv vx Qw pj vy Qx pm po pu pv pw pz H1602
def af.l531344731 (F:Nat) (aG:aa0) (aD:aaW) (C253_:aa8) (C64861_:abc) (C8302261_:abn):Nat->Nat->Nat->Int->Sl->Nat->Nat->Int->Nat->Nat->Int->Int->Int->Int->Int->Int->Int->Int->Int->Hp->OA
 | 0,_,_,_,_,_,_,_,_,_,_,_,_,_,_,_,_,_,_,_=>none
 | Qy+1,ic,lX,ig,vz,ii,lY,ij,ik,lZ,il,im,io,fc,ip,iq,fY,iu,fd,H1553=>(bif (decide (fd<iu)) then ((Hp.ldI H1553 .i64 ik lZ).bind λn1633=>(Hp.ldI H1553 .i64 ik (lZ+1)).bind λn1634=>(Hp.ldSl H1553 ik (lZ+2)).bind λs1635=>(aD n1633 n1634 s1635 fc fY H1553).bind λr1636=>((r1636.1).asP).bind λp1637=>(if ax H1553 r1636.2 then ((Hp.ldI r1636.2 .i64 p1637.1 p1637.2).bind λn1638=>(Hp.ldI r1636.2 .i64 ic lX).bind λn1639=>(Hp.ldI r1636.2 .i64 ic (lX+1)).bind λn1640=>(Hp.ldSl r1636.2 ic (lX+2)).bind λs1641=>(aD n1639 n1640 s1641 fc fd r1636.2).bind λr1642=>((r1642.1).asP).bind λp1643=>(if ax r1636.2 r1642.2 then ((Hp.ldI r1642.2 .i64 p1643.1 p1643.2).bind λn1644=>(Hp.ldI r1642.2 .i64 ii lY).bind λn1645=>(Hp.ldI r1642.2 .i64 ii (lY+1)).bind λn1646=>(Hp.ldSl r1642.2 ii (lY+2)).bind λs1647=>(aD n1645 n1646 s1647 fd fY r1642.2).bind λr1648=>((r1648.1).asP).bind λp1649=>(if ax r1642.2 r1648.2 then ((Hp.ldI r1648.2 .i64 p1649.1 p1649.2).bind λn1650=>(Hp.st r1648.2 p1637.1 p1637.2 (.int .i64 (wrap .i64 (n1638+(wrap .i64 (n1644 * n1650)))))).bind λH1651=>af.l531344731 F aG aD C253_ C64861_ C8302261_ Qy ic lX ig vz ii lY ij ik lZ il im io fc ip iq fY iu (wrap .i64 (fd+1)) H1651) else none)) else none)) else none)) else (af.j29 F aG aD C8302261_ ic lX ig vz ii lY ij ik lZ il fc im io ip iq H1553))
termination_by structural n=>n
def af.l8302261 (F:Nat) (aG:aa0) (aD:aaW) (C253_:aa8) (C64861_:abc):Nat->Nat->Nat->Int->Sl->Nat->Nat->Int->Nat->Nat->Int->Int->Int->Int->Int->Int->Hp->OA
 | 0,_,_,_,_,_,_,_,_,_,_,_,_,_,_,_,_=>none
 | zK+1,kE,vA,fZ,vB,kF,vC,iv,kG,vD,iw,iy,iz,iA,iB,f_,H1339=>(bif (decide (f_<iB)) then (af.l531344731 F aG aD C253_ C64861_ (af.l8302261 F aG aD C253_ C64861_ zK) F kE vA fZ vB kF vC iv kG vD iw iy iz iA iB f_ f_ fZ 0 H1339) else (af.j27 F aG aD C64861_ kE vA fZ vB kF vC iv kG vD iw iA iy iz H1339))
termination_by structural n=>n
def af.l64861 (F:Nat) (aG:aa0) (aD:aaW) (C253_:aa8):Nat->Nat->Nat->Int->Sl->Nat->Nat->Int->Nat->Nat->Int->Int->Int->Hp->OA
 | 0,_,_,_,_,_,_,_,_,_,_,_,_,_=>none
 | pA+1,kH,vE,ga,vF,kI,vG,iC,kJ,vH,iD,iE,gb,H925=>(bif (decide (gb<iE)) then (af.l8302261 F aG aD C253_ (af.l64861 F aG aD C253_ pA) F kH vE ga vF kI vG iC kJ vH iD iE gb gb ga 0 H925) else (af.j23 F aG aD C253_ kH vE ga vF kI vG iC kJ vH iD H925))
termination_by structural n=>n
def af.j30 (aG:aa0) (aD:aaW) (C253_:aa8) (vI:Nat) (Qz:Nat) (kK:Int) (QA:Sl) (vJ:Nat) (QB:Nat) (pB:Int) (vK:Nat) (QC:Nat) (pE:Int) (H904:Hp):OA:=af.l64861 F aG aD C253_ F vI Qz kK QA vJ QB pB vK QC pE kK 0 H904
def af.l32429 (F:Nat) (aG:aa0) (aD:aaW) (C253_:aa8):Nat->Nat->Nat->Int->Sl->Nat->Nat->Int->Nat->Nat->Int->Int->Int->Hp->OA
 | 0,_,_,_,_,_,_,_,_,_,_,_,_,_=>none
 | QD+1,kL,vL,gd,rB,iF,l_,gf,kM,vM,iG,iH,fe,H876=>(bif (decide (fe<iH)) then ((Hp.ldI H876 .i64 iF l_).bind λn1652=>(Hp.ldI H876 .i64 iF (l_+1)).bind λn1653=>(Hp.ldSl H876 iF (l_+2)).bind λs1654=>(aD n1652 n1653 s1654 fe fe H876).bind λr1655=>((r1655.1).asP).bind λp1656=>(if ax H876 r1655.2 then ((Hp.ldI r1655.2 .i64 p1656.1 p1656.2).bind λn1657=>(Sl.idx rB (wrap .i64 ((wrap .i64 (gd - gf))+1)) 1).bind λp1658=>(Hp.ldI r1655.2 .i64 p1658.1 p1658.2).bind λn1659=>(Hp.st r1655.2 p1656.1 p1656.2 (.int .i64 (wrap .i64 (n1657+n1659)))).bind λH1660=>af.l32429 F aG aD C253_ QD kL vL gd rB iF l_ gf kM vM iG iH (wrap .i64 (fe+1)) H1660) else none)) else (af.j30 F aG aD C253_ kL vL gd rB iF l_ gf kM vM iG H876))
termination_by structural n=>n
def af.l253 (F:Nat) (aG:aa0) (aD:aaW) :Nat->Nat->Nat->Int->Sl->Nat->Nat->Int->Hp->OA
 | 0,_,_,_,_,_,_,_,_=>none
 | dZ+1,ma,pF,eu,vN,mb,zL,iI,H32=>(bif (decide (iI<=eu)) then ((aG eu eu H32).bind λr847=>((r847.1).asAgg 3).bind λl848=>(l848[0]?).bind λv849=>((v849).asI .i64).bind λn850=>(l848[1]?).bind λv851=>((v851).asI .i64).bind λn852=>(l848[2]?).bind λv853=>((v853).asSl).bind λs854=>(Hp.new r847.2 [.int .i64 0,.int .i64 0,.sl ⟨none,0,.ex 0⟩]).bind λH855=>(Hp.st H855 r847.2.length 0 (.int .i64 n850)).bind λH856=>(Hp.st H856 r847.2.length (0+1) (.int .i64 n852)).bind λH857=>(Hp.st H857 r847.2.length (0+1+1) (.sl s854)).bind λH858=>af.l32429 F aG aD (af.l253 F aG aD dZ) F ma pF eu vN mb zL iI r847.2.length 0 0 eu 0 H858) else (some ((.sl vN),H32)))
termination_by structural n=>n
def af.twX (aG:aa0) (aD:aaW) (aa:Int) (ac:Int) (ar:Sl) (H:Hp):OA:=(Hp.new H [(.int .i64 aa),(.int .i64 ac),(.sl ar)]).bind λH4=>(Hp.ldI H4 .i64 H.length 0).bind λn5=>(Hp.mk H4 [.int .i64 0] 8 (wrap .i64 (n5+1)) (wrap .i64 (n5+1))).bind λm6=>(Sl.idx m6.1 n5 1).bind λp7=>(Hp.st m6.2 p7.1 p7.2 (.int .i64 1)).bind λH8=>(aG n5 n5 H8).bind λr9=>((r9.1).asAgg 3).bind λl10=>(l10[0]?).bind λv11=>((v11).asI .i64).bind λn12=>(l10[1]?).bind λv13=>((v13).asI .i64).bind λn14=>(l10[2]?).bind λv15=>((v15).asSl).bind λs16=>(Hp.new r9.2 [.int .i64 0,.int .i64 0,.sl ⟨none,0,.ex 0⟩]).bind λH17=>(Hp.st H17 r9.2.length 0 (.int .i64 n12)).bind λH18=>(Hp.st H18 r9.2.length (0+1) (.int .i64 n14)).bind λH19=>(Hp.st H19 r9.2.length (0+1+1) (.sl s16)).bind λH20=>af.l253 F aG aD F H.length 0 n5 m6.1 r9.2.length 0 1 H20
def af.tw:=af.twX F (bD.tw F) (bZ.tw F)
def af.lh253 (aG:aa0) (aD:aaW) (ks:aa1) (n:Nat) (tm:Tm) (H:Hp):OA:=match ks,tm 1,tm 3,tm 4,tm 5,tm 6 with
 | [],(.ptr ma pF),(.int .i64 eu),(.sl vN),(.ptr mb zL),(.int .i64 iI)=>af.l253 F aG aD n ma pF eu vN mb zL iI H
 | _,_,_,_,_,_=>none
def af.lh32429 (aG:aa0) (aD:aaW) (ks:aa1) (n:Nat) (tm:Tm) (H:Hp):OA:=match ks,tm 1,tm 3,tm 4,tm 5,tm 6,tm 7,tm 8,tm 32,tm 33 with
 | [dZ],(.ptr kL vL),(.int .i64 gd),(.sl rB),(.ptr iF l_),(.int .i64 gf),(.ptr kM vM),(.int .i64 iG),(.int .i64 iH),(.int .i64 fe)=>af.l32429 F aG aD (af.l253 F aG aD dZ) n kL vL gd rB iF l_ gf kM vM iG iH fe H
 | _,_,_,_,_,_,_,_,_,_=>none
def af.lh64861 (aG:aa0) (aD:aaW) (ks:aa1) (n:Nat) (tm:Tm) (H:Hp):OA:=match ks,tm 1,tm 3,tm 4,tm 5,tm 6,tm 7,tm 8,tm 52,tm 53 with
 | [dZ],(.ptr kH vE),(.int .i64 ga),(.sl vF),(.ptr kI vG),(.int .i64 iC),(.ptr kJ vH),(.int .i64 iD),(.int .i64 iE),(.int .i64 gb)=>af.l64861 F aG aD (af.l253 F aG aD dZ) n kH vE ga vF kI vG iC kJ vH iD iE gb H
 | _,_,_,_,_,_,_,_,_,_=>none
def af.lh8302261 (aG:aa0) (aD:aaW) (ks:aa1) (n:Nat) (tm:Tm) (H:Hp):OA:=match ks,tm 1,tm 3,tm 4,tm 5,tm 6,tm 7,tm 8,tm 10,tm 52,tm 53,tm 56,tm 57 with
 | [pA,dZ],(.ptr kE vA),(.int .i64 fZ),(.sl vB),(.ptr kF vC),(.int .i64 iv),(.ptr kG vD),(.int .i64 iw),(.int .i64 iA),(.int .i64 iy),(.int .i64 iz),(.int .i64 iB),(.int .i64 f_)=>af.l8302261 F aG aD (af.l253 F aG aD dZ) (af.l64861 F aG aD (af.l253 F aG aD dZ) pA) n kE vA fZ vB kF vC iv kG vD iw iy iz iA iB f_ H
 | _,_,_,_,_,_,_,_,_,_,_,_,_=>none
def af.lh531344731 (aG:aa0) (aD:aaW) (ks:aa1) (n:Nat) (tm:Tm) (H:Hp):OA:=match ks,tm 1,tm 3,tm 4,tm 5,tm 6,tm 7,tm 8,tm 10,tm 11,tm 52,tm 53,tm 56,tm 57,tm 60,tm 61 with
 | [zK,pA,dZ],(.ptr ic lX),(.int .i64 ig),(.sl vz),(.ptr ii lY),(.int .i64 ij),(.ptr ik lZ),(.int .i64 il),(.int .i64 fc),(.int .i64 fY),(.int .i64 im),(.int .i64 io),(.int .i64 ip),(.int .i64 iq),(.int .i64 iu),(.int .i64 fd)=>af.l531344731 F aG aD (af.l253 F aG aD dZ) (af.l64861 F aG aD (af.l253 F aG aD dZ) pA) (af.l8302261 F aG aD (af.l253 F aG aD dZ) (af.l64861 F aG aD (af.l253 F aG aD dZ) pA) zK) n ic lX ig vz ii lY ij ik lZ il im io fc ip iq fY iu fd H
 | _,_,_,_,_,_,_,_,_,_,_,_,_,_,_,_=>none
def af.lh (aG:aa0) (aD:aaW) (p:Nat) (ks:aa1) (n:Nat) (tm:Tm) (H:Hp):OA:=bif p.beq 531344731 then af.lh531344731 F aG aD ks n tm H else (bif p.beq 8302261 then af.lh8302261 F aG aD ks n tm H else (bif p.beq 64861 then af.lh64861 F aG aD ks n tm H else (bif p.beq 32429 then af.lh32429 F aG aD ks n tm H else (bif p.beq 253 then af.lh253 F aG aD ks n tm H else (none)))))
def af.pn:Nat->List Nat:=cY [(13,[15]),(24,[21])]
def af.tb:Nat->List (List Nat):=cY [(13,[[],[],[],[0,1,2],[0,1,2,3],[0,1,2,3,4],[],[],[],[7,8],[7,8,9],[6,7,8,9,10],[6,7,8,9,10,11],[0,1,2,3,4,5,6,7,8,9,10,11,12],[0,1,2,3,4,5,6,7,8,9,10,11,12,13],[0,1,2,3,4,5,6,7,8,9,10,11,12,13,14]]),(24,[[],[],[],[0,1,2],[0,1,2,3],[0,1,2,3,4],[],[],[],[0,1,2,3,6,7,8],[0,1,2,3,6,7,8,9],[0,1,2,3,6,7,8,9,10],[],[],[],[0,1,2,3,6,7,8,9,12,13,14],[0,1,2,3,6,7,8,9,12,13,14,15],[0,1,2,3,6,7,8,9,12,13,14,15,16],[0,1,2,3,6,7,8,9,10,11,12,13,14,15,16,17],[0,1,2,3,4,5,6,7,8,9,10,11,12,13,14,15,16,17,18],[0,1,2,3,4,5,6,7,8,9,10,11,12,13,14,15,16,17,18,19],[0,1,2,3,4,5,6,7,8,9,10,11,12,13,14,15,16,17,18,19,20]])]
def af.cs (F:Nat) (aG:aa0) (aD:aaW):Cs:=[(74,mk5 aG),(75,mk6 aD)]
theorem af.loops (aG:aa0) (aD:aaW):LO (bH (af.cs F aG aD)) af.pn (af.lh F aG aD) F Try.f137:=
 (ae.rt (ae.rt (ae.rt (ae.rt (ae.rt (ae.lt (ae.rt (ae.block (ae.la (λn tm H r h=>by change af.lh253 F aG aD [] n tm H=_ at h;unfold af.lh253 at h;split at h;have e:ck tm [(1,_),(3,_),(4,_),(5,_),(6,_)]:=⟨‹_›,‹_›,‹_›,‹_›,‹_›,trivial⟩;obtain _ | k253:=n;cases h;exact ⟨_,rfl,by rw [<- co e];exact Eq.trans (by kernel_rfl) h⟩;cases h) λk253=>(ae.rt (ae.lt (ae.block (ae.rt (ae.rt (ae.seq (ae.rt (ae.block (ae.la (λn tm H r h=>by change af.lh32429 F aG aD [k253] n tm H=_ at h;unfold af.lh32429 at h;split at h;have e:ck tm [(1,_),(3,_),(4,_),(5,_),(6,_),(7,_),(8,_),(32,_),(33,_)]:=⟨‹_›,‹_›,‹_›,‹_›,‹_›,‹_›,‹_›,‹_›,‹_›,trivial⟩;cases (show [k253]=_ from ‹_›);obtain _ | k32429:=n;cases h;exact ⟨_,rfl,by rw [<- co e];exact Eq.trans (by kernel_rfl) h⟩;cases h) λk32429=>ae.no))) (ae.lt (ae.rt (ae.block (ae.la (λn tm H r h=>by change af.lh64861 F aG aD [k253] n tm H=_ at h;unfold af.lh64861 at h;split at h;have e:ck tm [(1,_),(3,_),(4,_),(5,_),(6,_),(7,_),(8,_),(52,_),(53,_)]:=⟨‹_›,‹_›,‹_›,‹_›,‹_›,‹_›,‹_›,‹_›,‹_›,trivial⟩;cases (show [k253]=_ from ‹_›);obtain _ | k64861:=n;cases h;exact ⟨_,rfl,by rw [<- co e];exact Eq.trans (by kernel_rfl) h⟩;cases h) λk64861=>(ae.rt (ae.rt (ae.lt (ae.block (ae.rt (ae.lt (ae.rt (ae.block (ae.la (λn tm H r h=>by change af.lh8302261 F aG aD [k64861,k253] n tm H=_ at h;unfold af.lh8302261 at h;split at h;have e:ck tm [(1,_),(3,_),(4,_),(5,_),(6,_),(7,_),(8,_),(10,_),(52,_),(53,_),(56,_),(57,_)]:=⟨‹_›,‹_›,‹_›,‹_›,‹_›,‹_›,‹_›,‹_›,‹_›,‹_›,‹_›,‹_›,trivial⟩;cases (show [k64861,k253]=_ from ‹_›);obtain _ | k8302261:=n;cases h;exact ⟨_,rfl,by rw [<- co e];exact Eq.trans (by kernel_rfl) h⟩;cases h) λk8302261=>(ae.rt (ae.rt (ae.lt (ae.block (ae.rt (ae.rt (ae.block (ae.la (λn tm H r h=>by change af.lh531344731 F aG aD [k8302261,k64861,k253] n tm H=_ at h;unfold af.lh531344731 at h;split at h;have e:ck tm [(1,_),(3,_),(4,_),(5,_),(6,_),(7,_),(8,_),(10,_),(11,_),(52,_),(53,_),(56,_),(57,_),(60,_),(61,_)]:=⟨‹_›,‹_›,‹_›,‹_›,‹_›,‹_›,‹_›,‹_›,‹_›,‹_›,‹_›,‹_›,‹_›,‹_›,‹_›,trivial⟩;cases (show [k8302261,k64861,k253]=_ from ‹_›);obtain _ | k531344731:=n;cases h;exact ⟨_,rfl,by rw [<- co e];exact Eq.trans (by kernel_rfl) h⟩;cases h) λk531344731=>ae.no))))))))))))))))))))))))))))))))))))
theorem af.eqX (aG:aa0) (aD:aaW) (aa:Int) (ac:Int) (ar:Sl) (H:Hp):EX (bH (af.cs F aG aD)) af.pn (af.lh F aG aD) F Try.f137 [(.agg [(.int .i64 aa),(.int .i64 ac),(.sl ar)])] H=af.twX F aG aD aa ac ar H:=by kernel_rfl
theorem af.k:Ok Try.prog 137 (mk3 (af.tw F)):=by
 intro args H v H' h
 unfold mk3 at h
 split at h
 ·exact okT (TB:=af.tb) Try.func137 (bF (bD.k F) (bF (bZ.k F) cO)) (af.loops F (bD.tw F) (bZ.tw F)) ((af.eqX F (bD.tw F) (bZ.tw F) _ _ _ H).trans h) (by kernel_rfl)
 ·cases h
def cL.twX (F:Nat) (aa:Int) (H:Hp):OA:=(bif (decide (aa<0)) then (some ((.int .i64 (-1)),H)) else (some ((.int .i64 1),H)))
def cL.tw:=cL.twX F
theorem cL.k:Ok Try.prog 178 (mk8 (cL.tw F)):=by
 intro args H v H' h
 unfold mk8 at h
 split at h
 ·exact ok0 Try.func178 (Eq.trans (by kernel_rfl) h) (by kernel_rfl) (by kernel_rfl)
 ·cases h
def ay.j4 (F:Nat) (cw:aa2) (C29_:aaW) (pG:Int) (pH:Int) (QE:Sl) (pI:Int) (pJ:Int) (H65:Hp):OA:=C29_ pG pH QE pI (wrap .i64 (pJ+1)) H65
def ay.j5 (F:Nat) (cw:aa2) (C29_:aaW) (pK:Int) (pL:Int) (QF:Sl) (pN:Int) (pO:Int) (H93:Hp):OA:=C29_ pK pL QF pN (wrap .i64 (pO+1)) H93
def ay.j6 (cw:aa2) (C29_:aaW) (pP:Int) (pQ:Int) (QG:Sl) (pR:Int) (pS:Int) (H79:Hp):OA:=(cw pQ H79).bind λr80=>((r80.1).asI .i64).bind λn81=>ay.j5 F cw C29_ pP n81 QG pR pS r80.2
def ay.l29 (F:Nat) (cw:aa2) :Nat->Int->Int->Sl->Int->Int->Hp->OA
 | 0,_,_,_,_,_,_=>none
 | cf+1,bT,bU,mc,eA,dR,H9=>(bif (decide (dR<eA)) then ((Sl.idx mc dR 1).bind λp53=>(Hp.ldI H9 .i64 p53.1 p53.2).bind λn54=>(bif (n54==0) then (ay.j4 F cw (ay.l29 F cw cf) bT bU mc eA dR H9) else ((bif (bU != 0) then ((cw n54 H9).bind λr66=>((r66.1).asI .i64).bind λn67=>(bif (n67 != bU) then (ay.j6 F cw (ay.l29 F cw cf) (wrap .i64 (bT+1)) n54 mc eA dR r66.2) else (ay.j6 F cw (ay.l29 F cw cf) bT n54 mc eA dR r66.2))) else ((cw n54 H9).bind λr94=>((r94.1).asI .i64).bind λn95=>ay.j5 F cw (ay.l29 F cw cf) bT n95 mc eA dR r94.2))))) else (some ((.int .i64 bT),H9)))
def ay.twX (cw:aa2) (aa:Sl) (H:Hp):OA:=ay.l29 F cw F 0 0 aa (aa.n:Int) 0 H
def ay.tw:=ay.twX F (cL.tw F)
def ay.lh29 (cw:aa2) (ks:aa1) (n:Nat) (tm:Tm) (H:Hp):OA:=match ks,tm 3,tm 4,tm 7,tm 8,tm 9 with
 | [],(.int .i64 bT),(.int .i64 bU),(.sl mc),(.int .i64 eA),(.int .i64 dR)=>ay.l29 F cw n bT bU mc eA dR H
 | _,_,_,_,_,_=>none
def ay.lh (cw:aa2) (p:Nat) (ks:aa1) (n:Nat) (tm:Tm) (H:Hp):OA:=bif p.beq 29 then ay.lh29 F cw ks n tm H else (none)
def ay.cs (F:Nat) (cw:aa2):Cs:=[(178,mk8 cw)]
theorem ay.loops (cw:aa2):LO (bH (ay.cs F cw)) bR (ay.lh F cw) F Try.f138:=
 (ae.rt (ae.rt (ae.lt (ae.rt (ae.block (ae.la (λn tm H r h=>by change ay.lh29 F cw [] n tm H=_ at h;unfold ay.lh29 at h;split at h;have e:ck tm [(3,_),(4,_),(7,_),(8,_),(9,_)]:=⟨‹_›,‹_›,‹_›,‹_›,‹_›,trivial⟩;obtain _ | k29:=n;cases h;exact ⟨_,rfl,by rw [<- co e];exact Eq.trans (by kernel_rfl) h⟩;cases h) λk29=>ae.no))))))
theorem ay.eqX (cw:aa2) (aa:Sl) (H:Hp):EX (bH (ay.cs F cw)) bR (ay.lh F cw) F Try.f138 [(.sl aa)] H=ay.twX F cw aa H:=by kernel_rfl
theorem ay.k:Ok Try.prog 138 (mk2 (ay.tw F)):=by
 intro args H v H' h
 unfold mk2 at h
 split at h
 ·exact okT (TB:=bR) Try.func138 (bF (cL.k F) cO) (ay.loops F (cL.tw F)) ((ay.eqX F (cL.tw F) _ H).trans h) (by kernel_rfl)
 ·cases h
def dq.twX (F:Nat) (aa:Int) (H:Hp):OA:=some ((.int .i64 (wrap .i64 (1 - (wrap .i64 (2 * (Int.tmod aa 2)))))),H)
def dq.tw:=dq.twX F
theorem dq.k:Ok Try.prog 139 (mk8 (dq.tw F)):=by
 intro args H v H' h
 unfold mk8 at h
 split at h
 ·exact ok0 Try.func139 (Eq.trans (by kernel_rfl) h) (by kernel_rfl) (by kernel_rfl)
 ·cases h
def aT.j1 (F:Nat) (dK:aaY) (dE:aa3) (dL:aa2) (QH:Sl) (pT:Int) (H40:Hp):OA:=(dE QH H40).bind λr41=>((r41.1).asI .i64).bind λn42=>some ((.int .i64 (wrap .i64 (pT - n42))),r41.2)
def aT.l61 (F:Nat) (dK:aaY) (dE:aa3) (dL:aa2) :Nat->Sl->Int->Int->Int->Hp->OA
 | 0,_,_,_,_,_=>none
 | jC+1,pU,iJ,iK,cX,H22=>(bif (decide (cX<iK)) then ((Sl.idx pU cX 1).bind λp43=>(Hp.ldI H22 .i64 p43.1 p43.2).bind λn44=>(dL cX H22).bind λr45=>((r45.1).asI .i64).bind λn46=>(if ax H22 r45.2 then ((Sl.idx pU cX 1).bind λp47=>(Hp.st r45.2 p47.1 p47.2 (.int .i64 (wrap .i64 (n44 * n46)))).bind λH48=>aT.l61 F dK dE dL jC pU iJ iK (wrap .i64 (cX+1)) H48) else none)) else (aT.j1 F dK dE dL pU iJ H22))
def aT.twX (dK:aaY) (dE:aa3) (dL:aa2) (aa:Int) (ac:Int) (ar:Sl) (H:Hp):OA:=(Hp.new H [(.int .i64 aa),(.int .i64 ac),(.sl ar)]).bind λH4=>(Hp.ldI H4 .i64 H.length 0).bind λn5=>(Hp.ldI H4 .i64 H.length (0+1)).bind λn6=>(Hp.ldSl H4 H.length (0+2)).bind λs7=>(dK n5 n6 s7 H4).bind λr8=>((r8.1).asSl).bind λs9=>(dE s9 r8.2).bind λr10=>((r10.1).asI .i64).bind λn11=>aT.l61 F dK dE dL F s9 n11 (s9.n:Int) 0 r10.2
def aT.tw:=aT.twX F (af.tw F) (ay.tw F) (dq.tw F)
def aT.lh61 (dK:aaY) (dE:aa3) (dL:aa2) (ks:aa1) (n:Nat) (tm:Tm) (H:Hp):OA:=match ks,tm 3,tm 4,tm 11,tm 12 with
 | [],(.sl pU),(.int .i64 iJ),(.int .i64 iK),(.int .i64 cX)=>aT.l61 F dK dE dL n pU iJ iK cX H
 | _,_,_,_,_=>none
def aT.lh (dK:aaY) (dE:aa3) (dL:aa2) (p:Nat) (ks:aa1) (n:Nat) (tm:Tm) (H:Hp):OA:=bif p.beq 61 then aT.lh61 F dK dE dL ks n tm H else (none)
def aT.pn:Nat->List Nat:=cY [(6,[8])]
def aT.tb:Nat->List (List Nat):=cY [(6,[[],[],[0,1],[0,1,2],[],[4],[0,1,2,3,4,5],[0,1,2,3,4,5,6],[0,1,2,3,4,5,6,7]])]
def aT.cs (F:Nat) (dK:aaY) (dE:aa3) (dL:aa2):Cs:=[(137,mk3 dK),(138,mk2 dE),(139,mk8 dL)]
theorem aT.loops (dK:aaY) (dE:aa3) (dL:aa2):LO (bH (aT.cs F dK dE dL)) aT.pn (aT.lh F dK dE dL) F Try.f88:=
 (ae.rt (ae.rt (ae.rt (ae.lt (ae.rt (ae.block (ae.la (λn tm H r h=>by change aT.lh61 F dK dE dL [] n tm H=_ at h;unfold aT.lh61 at h;split at h;have e:ck tm [(3,_),(4,_),(11,_),(12,_)]:=⟨‹_›,‹_›,‹_›,‹_›,trivial⟩;obtain _ | k61:=n;cases h;exact ⟨_,rfl,by rw [<- co e];exact Eq.trans (by kernel_rfl) h⟩;cases h) λk61=>ae.no)))))))
theorem aT.eqX (dK:aaY) (dE:aa3) (dL:aa2) (aa:Int) (ac:Int) (ar:Sl) (H:Hp):EX (bH (aT.cs F dK dE dL)) aT.pn (aT.lh F dK dE dL) F Try.f88 [(.agg [(.int .i64 aa),(.int .i64 ac),(.sl ar)])] H=aT.twX F dK dE dL aa ac ar H:=by kernel_rfl
theorem aT.k:Ok Try.prog 88 (mk3 (aT.tw F)):=by
 intro args H v H' h
 unfold mk3 at h
 split at h
 ·exact okT (TB:=aT.tb) Try.func88 (bF (af.k F) (bF (ay.k F) (bF (dq.k F) cO))) (aT.loops F (af.tw F) (ay.tw F) (dq.tw F)) ((aT.eqX F (af.tw F) (ay.tw F) (dq.tw F) _ _ _ H).trans h) (by kernel_rfl)
 ·cases h
def cM.twX (F:Nat) (b_:aaY) (pV:aaY) (pW:abb) (pX:aaY) (pY:aaY) (aa:Int) (ac:Int) (ar:Sl) (H:Hp):OA:=(Hp.new H [(.int .i64 aa),(.int .i64 ac),(.sl ar)]).bind λH4=>(Hp.ldI H4 .i64 H.length 0).bind λn5=>(Hp.ldI H4 .i64 H.length (0+1)).bind λn6=>(Hp.ldSl H4 H.length (0+2)).bind λs7=>(b_ n5 n6 s7 H4).bind λr8=>((r8.1).asB).bind λb9=>(bif (!b9) then (some ((.tup [(.int .i64 0),(.int .i64 1)]),r8.2)) else ((Hp.ldI r8.2 .i64 H.length 0).bind λn10=>(Hp.ldI r8.2 .i64 H.length 1).bind λn11=>(bif (n10 != n11) then (some ((.tup [(.int .i64 0),(.int .i64 2)]),r8.2)) else ((Hp.ldI r8.2 .i64 H.length 0).bind λn12=>(Hp.ldI r8.2 .i64 H.length (0+1)).bind λn13=>(Hp.ldSl r8.2 H.length (0+2)).bind λs14=>(Hp.ldI r8.2 .i64 H.length 0).bind λn15=>(Hp.ldI r8.2 .i64 H.length (0+1)).bind λn16=>(Hp.ldSl r8.2 H.length (0+2)).bind λs17=>(pV n15 n16 s17 r8.2).bind λr18=>((r18.1).asAgg 3).bind λl19=>(l19[0]?).bind λv20=>((v20).asI .i64).bind λn21=>(l19[1]?).bind λv22=>((v22).asI .i64).bind λn23=>(l19[2]?).bind λv24=>((v24).asSl).bind λs25=>(if ax r8.2 r18.2 then ((pW n12 n13 s14 n21 n23 s25 r18.2).bind λr26=>((r26.1).asB).bind λb27=>(bif (!b27) then (some ((.tup [(.int .i64 0),(.int .i64 2)]),r26.2)) else ((Hp.ldI r26.2 .i64 H.length 0).bind λn28=>(bif (decide (n28>12)) then (some ((.tup [(.int .i64 0),(.int .i64 3)]),r26.2)) else ((Hp.ldI r26.2 .i64 H.length 0).bind λn29=>(Hp.ldI r26.2 .i64 H.length (0+1)).bind λn30=>(Hp.ldSl r26.2 H.length (0+2)).bind λs31=>(pX n29 n30 s31 r26.2).bind λr32=>((r32.1).asI .i64).bind λn33=>(bif (decide (n33>1000000000)) then (some ((.tup [(.int .i64 0),(.int .i64 3)]),r32.2)) else ((Hp.ldI r32.2 .i64 H.length 0).bind λn34=>(Hp.ldI r32.2 .i64 H.length (0+1)).bind λn35=>(Hp.ldSl r32.2 H.length (0+2)).bind λs36=>(pY n34 n35 s36 r32.2).bind λr37=>((r37.1).asI .i64).bind λn38=>some ((.tup [(.int .i64 n38),(.int .i64 0)]),r37.2)))))))) else none)))))
def cM.tw:=cM.twX F (bN.tw F) (aw.tw F) (dj.tw F) (aB.tw F) (aT.tw F)
def cM.pn:Nat->List Nat:=cY [(3,[9])]
def cM.tb:Nat->List (List Nat):=cY [(3,[[],[0],[],[2],[0,1,2,3],[0,1,2,3,4],[0,1,2,3,4,5],[0,1,2,3,4,5],[0,1,2,3,4,5,7],[0,1,2,3,4,5,6,7,8],[0,1,2,3,4,5,6,7,8,9],[0,1,2,3,4,5,6,7,8,9,10],[0,1,2,3,4,5,6,7,8,9,10,11]])]
def cM.cs (F:Nat) (b_:aaY) (pV:aaY) (pW:abb) (pX:aaY) (pY:aaY):Cs:=[(76,mk3 b_),(23,mk3 pV),(84,mk7 pW),(77,mk3 pX),(88,mk3 pY)]
theorem cM.eqX (b_:aaY) (pV:aaY) (pW:abb) (pX:aaY) (pY:aaY) (aa:Int) (ac:Int) (ar:Sl) (H:Hp):EX (bH (cM.cs F b_ pV pW pX pY)) cM.pn lh0 F Try.f34 [(.agg [(.int .i64 aa),(.int .i64 ac),(.sl ar)])] H=cM.twX F b_ pV pW pX pY aa ac ar H:=by kernel_rfl
theorem cM.k:Ok Try.prog 34 (mk3 (cM.tw F)):=by
 intro args H v H' h
 unfold mk3 at h
 split at h
 ·exact okT (TB:=cM.tb) Try.func34 (bF (bN.k F) (bF (aw.k F) (bF (dj.k F) (bF (aB.k F) (bF (aT.k F) cO))))) ae.no ((cM.eqX F (bN.tw F) (aw.tw F) (dj.tw F) (aB.tw F) (aT.tw F) _ _ _ H).trans h) (by kernel_rfl)
 ·cases h
def bB.l29 (F:Nat) :Nat->Sl->Sl->Int->Hp->OA
 | 0,_,_,_,_=>none
 | cf+1,eG,jJ,ff,H8=>(bif (decide (ff<(eG.n:Int))) then ((Sl.idx eG ff 1).bind λp13=>(Hp.ldI H8 .i64 p13.1 p13.2).bind λn14=>(Sl.idx jJ ff 1).bind λp15=>(Hp.ldI H8 .i64 p15.1 p15.2).bind λn16=>(bif (n14 != n16) then (some ((.bool false),H8)) else (bB.l29 F cf eG jJ (wrap .i64 (ff+1)) H8))) else (some ((.bool true),H8)))
def bB.twX (aa:Sl) (aI:Sl) (H:Hp):OA:=(bif ((aa.n:Int) != (aI.n:Int)) then (some ((.bool false),H)) else (bB.l29 F F aa aI 0 H))
def bB.tw:=bB.twX F
def bB.lh29 (ks:aa1) (n:Nat) (tm:Tm) (H:Hp):OA:=match ks,tm 0,tm 1,tm 5 with
 | [],(.sl eG),(.sl jJ),(.int .i64 ff)=>bB.l29 F n eG jJ ff H
 | _,_,_,_=>none
def bB.lh (p:Nat) (ks:aa1) (n:Nat) (tm:Tm) (H:Hp):OA:=bif p.beq 29 then bB.lh29 F ks n tm H else (none)
def bB.tb:Nat->List (List Nat):=cY [(6,[[],[],[0,1],[0,1,2],[],[],[4,5],[4,5,6],[0,1,2,3,4,5,6,7]])]
theorem bB.loops:LO (bH []) bR (bB.lh F) F Try.f50:=
 (ae.rt (ae.rt (ae.lt (ae.rt (ae.block (ae.la (λn tm H r h=>by change bB.lh29 F [] n tm H=_ at h;unfold bB.lh29 at h;split at h;have e:ck tm [(0,_),(1,_),(5,_)]:=⟨‹_›,‹_›,‹_›,trivial⟩;obtain _ | k29:=n;cases h;exact ⟨_,rfl,by rw [<- co e];exact Eq.trans (by kernel_rfl) h⟩;cases h) λk29=>ae.no))))))
theorem bB.k:Ok Try.prog 50 (mk10 (bB.tw F)):=by
 intro args H v H' h
 unfold mk10 at h
 split at h
 ·exact okT (PN:=bR) (LH:=(bB.lh F)) (F:=F) (TB:=bB.tb) Try.func50 cO (bB.loops F) (Eq.trans (by kernel_rfl) h) (by kernel_rfl)
 ·cases h
def dh.twX (F:Nat) (pZ:abh) (aa:Int) (ac:Int) (ar:Sl) (aC:Int) (cv:Int) (eH:Sl) (H:Hp):OA:=(Hp.new H [(.int .i64 aa),(.int .i64 ac),(.sl ar)]).bind λH7=>(Hp.new H7 [(.int .i64 aC),(.int .i64 cv),(.sl eH)]).bind λH8=>(Hp.ldI H8 .i64 H.length 0).bind λn9=>(Hp.ldI H8 .i64 H7.length 0).bind λn10=>(bif (n9 != n10) then (some ((.bool false),H8)) else ((Hp.ldI H8 .i64 H.length 1).bind λn11=>(Hp.ldI H8 .i64 H7.length 1).bind λn12=>(bif (n11 != n12) then (some ((.bool false),H8)) else ((Hp.ldSl H8 H.length 2).bind λs13=>(Hp.ldSl H8 H7.length 2).bind λs14=>(pZ s13 s14 H8).bind λr15=>((r15.1).asB).bind λb16=>(bif (!b16) then (some ((.bool false),r15.2)) else (some ((.bool true),r15.2)))))))
def dh.tw:=dh.twX F (bB.tw F)
def dh.cs (F:Nat) (pZ:abh):Cs:=[(50,mk10 pZ)]
theorem dh.eqX (pZ:abh) (aa:Int) (ac:Int) (ar:Sl) (aC:Int) (cv:Int) (eH:Sl) (H:Hp):EX (bH (dh.cs F pZ)) bR lh0 F Try.f38 [(.agg [(.int .i64 aa),(.int .i64 ac),(.sl ar)]),(.agg [(.int .i64 aC),(.int .i64 cv),(.sl eH)])] H=dh.twX F pZ aa ac ar aC cv eH H:=by kernel_rfl
theorem dh.k:Ok Try.prog 38 (mk7 (dh.tw F)):=by
 intro args H v H' h
 unfold mk7 at h
 split at h
 ·exact okT (TB:=bR) Try.func38 (bF (bB.k F) cO) ae.no ((dh.eqX F (bB.tw F) _ _ _ _ _ _ H).trans h) (by kernel_rfl)
 ·cases h
def cE.twX (F:Nat) (p_:aa4) (kN:aaY) (qa:aaY) (qb:aaY) (qc:abb) (aa:Int) (ac:Int) (ar:Sl) (H:Hp):OA:=(Hp.new H [(.int .i64 aa),(.int .i64 ac),(.sl ar)]).bind λH4=>(Hp.ldI H4 .i64 H.length 0).bind λn5=>(Hp.ldI H4 .i64 H.length (0+1)).bind λn6=>(Hp.ldSl H4 H.length (0+2)).bind λs7=>(p_ n5 n6 s7 1048576 H4).bind λr8=>((r8.1).asI .i64).bind λn9=>(bif (decide (n9<0)) then (some ((.bool true),r8.2)) else ((Hp.ldI r8.2 .i64 H.length 0).bind λn10=>(Hp.ldI r8.2 .i64 H.length (0+1)).bind λn11=>(Hp.ldSl r8.2 H.length (0+2)).bind λs12=>(kN n10 n11 s12 r8.2).bind λr13=>((r13.1).asAgg 3).bind λl14=>(l14[0]?).bind λv15=>((v15).asI .i64).bind λn16=>(l14[1]?).bind λv17=>((v17).asI .i64).bind λn18=>(l14[2]?).bind λv19=>((v19).asSl).bind λs20=>(qa n16 n18 s20 r13.2).bind λr21=>((r21.1).asTup 2).bind λl22=>(l22[0]?).bind λv23=>((v23).asI .i64).bind λn24=>(l22[1]?).bind λv25=>((v25).asI .i64).bind λn26=>(Hp.ldI r21.2 .i64 H.length 0).bind λn27=>(Hp.ldI r21.2 .i64 H.length (0+1)).bind λn28=>(Hp.ldSl r21.2 H.length (0+2)).bind λs29=>(kN n27 n28 s29 r21.2).bind λr30=>((r30.1).asAgg 3).bind λl31=>(l31[0]?).bind λv32=>((v32).asI .i64).bind λn33=>(l31[1]?).bind λv34=>((v34).asI .i64).bind λn35=>(l31[2]?).bind λv36=>((v36).asSl).bind λs37=>(Hp.new r30.2 [.int .i64 0,.int .i64 0,.sl ⟨none,0,.ex 0⟩]).bind λH38=>(Hp.st H38 r30.2.length 0 (.int .i64 n33)).bind λH39=>(Hp.st H39 r30.2.length (0+1) (.int .i64 n35)).bind λH40=>(Hp.st H40 r30.2.length (0+1+1) (.sl s37)).bind λH41=>(Hp.ldI H41 .i64 r30.2.length 0).bind λn42=>(Hp.ldI H41 .i64 r30.2.length (0+1)).bind λn43=>(Hp.ldSl H41 r30.2.length (0+2)).bind λs44=>(qb n42 n43 s44 H41).bind λr45=>((r45.1).asTup 2).bind λl46=>(l46[0]?).bind λv47=>((v47).asI .i64).bind λn48=>(l46[1]?).bind λv49=>((v49).asI .i64).bind λn50=>(bif (n48 != n24) then (some ((.bool false),r45.2)) else ((bif (n50 != n26) then (some ((.bool false),r45.2)) else ((Hp.ldI r45.2 .i64 r30.2.length 0).bind λn51=>(Hp.ldI r45.2 .i64 r30.2.length (0+1)).bind λn52=>(Hp.ldSl r45.2 r30.2.length (0+2)).bind λs53=>(Hp.ldI r45.2 .i64 H.length 0).bind λn54=>(Hp.ldI r45.2 .i64 H.length (0+1)).bind λn55=>(Hp.ldSl r45.2 H.length (0+2)).bind λs56=>(kN n54 n55 s56 r45.2).bind λr57=>((r57.1).asAgg 3).bind λl58=>(l58[0]?).bind λv59=>((v59).asI .i64).bind λn60=>(l58[1]?).bind λv61=>((v61).asI .i64).bind λn62=>(l58[2]?).bind λv63=>((v63).asSl).bind λs64=>(if ax r45.2 r57.2 then ((qc n51 n52 s53 n60 n62 s64 r57.2).bind λr65=>((r65.1).asB).bind λb66=>(bif (!b66) then (some ((.bool false),r65.2)) else (some ((.bool true),r65.2)))) else none)))))))
def cE.tw:=cE.twX F (df.tw F) (cG.tw F) (cK.tw F) (cM.tw F) (dh.tw F)
def cE.pn:Nat->List Nat:=cY [(10,[3])]
def cE.tb:Nat->List (List Nat):=cY [(10,[[],[],[1],[0,1,2],[0,1,2,3]])]
def cE.cs (F:Nat) (p_:aa4) (kN:aaY) (qa:aaY) (qb:aaY) (qc:abb):Cs:=[(36,mk1 p_),(37,mk3 kN),(35,mk3 qa),(34,mk3 qb),(38,mk7 qc)]
theorem cE.eqX (p_:aa4) (kN:aaY) (qa:aaY) (qb:aaY) (qc:abb) (aa:Int) (ac:Int) (ar:Sl) (H:Hp):EX (bH (cE.cs F p_ kN qa qb qc)) cE.pn lh0 F Try.f8 [(.agg [(.int .i64 aa),(.int .i64 ac),(.sl ar)])] H=cE.twX F p_ kN qa qb qc aa ac ar H:=by kernel_rfl
theorem cE.k:Ok Try.prog 8 (mk3 (cE.tw F)):=by
 intro args H v H' h
 unfold mk3 at h
 split at h
 ·exact okT (TB:=cE.tb) Try.func8 (bF (df.k F) (bF (cG.k F) (bF (cK.k F) (bF (cM.k F) (bF (dh.k F) cO))))) ae.no ((cE.eqX F (df.tw F) (cG.tw F) (cK.tw F) (cM.tw F) (dh.tw F) _ _ _ H).trans h) (by kernel_rfl)
 ·cases h
theorem cE.T {F:Nat} {aa:Int} {ac:Int} {ar:Sl} {H:Hp} {v:AV} {H':Hp} (h:cE.tw F aa ac ar H=some (v,H')):Go.AE.T Try.prog 8 [(.agg [(.int .i64 aa),(.int .i64 ac),(.sl ar)])] H v H':=cE.k F _ _ _ _ ((mk3_E (cE.tw F) aa ac ar H).trans h)
end
end Go.Proofs.Ytokekkacliomkaa.AE
