import Derived.Test.YthfinhmkgdmelaaT1
import Derived.Test.YthfinhmkgdmelaaTab1
import Derived.Test.YthfinhmkgdmelaaE2
set_option linter.unusedVariables false
set_option linter.unusedSimpArgs false
namespace Go.Proofs.Ythfinhmkgdmelaa.AE
open Go Go.AE Go.Proofs Go.RowKit Go.Maps
set_option linter.unusedVariables false
set_option maxHeartbeats 4000000
set_option maxRecDepth 100000
theorem aO.T {F:Nat} {aa:Sl} {af:Int} {H:Hp} {v:AV} {H':Hp} (h:aO.tw F aa af H = some (v,H')):Go.AE.T Try.prog 129 [(.sl aa),(.int .i64 af)] H v H':=
 Go.AE.T.of (Y:=tabs) (C:=mkOrc (aO.cs F (bits_Mul.tw F))) (PN:=aO.pn) (LH:=aO.lh F (bits_Mul.tw F)) (F:=F) (TB:=aO.tb) (fn:=Try.f129) (code:=aO.code) mixed tabs_ok (mkOrc_ok (aO.cs_ok F)) Try.func129 (by kernel_rfl) (by kernel_rfl) aO.ok (Nat.le_of_ble_eq_true (by kernel_rfl)) (aO.loops F (bits_Mul.tw F)) (Eq.trans (aO.eqX F (bits_Mul.tw F) aa af H) h)
theorem aO.mk_T {F:Nat} {args:List AV} {H:Hp} {v:AV} {H':Hp} (h:aO.mk (aO.tw F) args H = some (v,H')):Go.AE.T Try.prog 129 args H v H':=by
 unfold aO.mk at h
 split at h
 ·exact aO.T h
 ·cases h
noncomputable def aj.j7 (F:Nat) (aB:Sl→Int→Sl→Sl→Hp→OA) (bo:Sl→Int→Sl→Sl→Hp→OA) (aM:Sl→Int→Sl→Sl→Hp→OA) (cm:Sl→Int→Hp→OA) (bp:Sl→Hp→OA) (C509_:Sl→Sl→Int→Int→Hp→OA) (Xs:Sl) (Xt:Sl) (pi:Int) (pj:Int) (H363:Hp):OA:=C509_ Xs Xt pi (IntKind.i64.wrap (pj + 1)) H363
noncomputable def aj.j8 (F:Nat) (aB:Sl→Int→Sl→Sl→Hp→OA) (bo:Sl→Int→Sl→Sl→Hp→OA) (aM:Sl→Int→Sl→Sl→Hp→OA) (cm:Sl→Int→Hp→OA) (bp:Sl→Hp→OA) (C509_:Sl→Sl→Int→Int→Hp→OA) (Xu:Sl) (Xv:Sl) (pl:Int) (pm:Int) (H339:Hp):OA:=aj.j7 F aB bo aM cm bp C509_ Xu Xv pl pm H339
noncomputable def aj.j9 (F:Nat) (aB:Sl→Int→Sl→Sl→Hp→OA) (bo:Sl→Int→Sl→Sl→Hp→OA) (aM:Sl→Int→Sl→Sl→Hp→OA) (cm:Sl→Int→Hp→OA) (bp:Sl→Hp→OA) (C16301_:Sl→Sl→Int→Int→Int→Int→Hp→OA) (Xw:Sl) (Xx:Sl) (po:Int) (pp:Int) (pq:Int) (pr:Int) (H398:Hp):OA:=C16301_ Xw Xx po pp pq (IntKind.i64.wrap (pr + 1)) H398
noncomputable def aj.l16301 (F:Nat) (aB:Sl→Int→Sl→Sl→Hp→OA) (bo:Sl→Int→Sl→Sl→Hp→OA) (aM:Sl→Int→Sl→Sl→Hp→OA) (cm:Sl→Int→Hp→OA) (bp:Sl→Hp→OA) (C509_:Sl→Sl→Int→Int→Hp→OA):Nat→Sl→Sl→Int→Int→Int→Int→Hp→OA
 | 0,_,_,_,_,_,_,_=>none
 | IJ + 1,gJ,hB,eA,fm,fE,dp,H280=>(bif (decide (dp < fE)) then ((Sl.idx gJ dp 1).bind fun p364=>(Hp.ldI H280 .i64 p364.1 p364.2).bind fun n365=>(Sl.idx hB n365 1).bind fun p366=>(Hp.ldI H280 .i64 p366.1 p366.2).bind fun n367=>(bif (decide (n367 ≥ 0)) then ((Sl.idx gJ (IntKind.i64.wrap ((IntKind.i64.wrap (dp - (Int.tmod dp 4))) + (Int.tmod (IntKind.i64.wrap (dp + 1)) 4))) 1).bind fun p368=>(Hp.ldI H280 .i64 p368.1 p368.2).bind fun n369=>(Sl.idx hB n369 1).bind fun p370=>(Hp.st H280 p370.1 p370.2 (.int .i64 (IntKind.i64.wrap (1 - n367)))).bind fun H371=>aj.j9 F aB bo aM cm bp (aj.l16301 F aB bo aM cm bp C509_ IJ) gJ hB eA fm fE dp H371) else (aj.j9 F aB bo aM cm bp (aj.l16301 F aB bo aM cm bp C509_ IJ) gJ hB eA fm fE dp H280))) else (aj.j8 F aB bo aM cm bp C509_ gJ hB eA fm H280))
termination_by structural n=>n
noncomputable def aj.l509 (F:Nat) (aB:Sl→Int→Sl→Sl→Hp→OA) (bo:Sl→Int→Sl→Sl→Hp→OA) (aM:Sl→Int→Sl→Sl→Hp→OA) (cm:Sl→Int→Hp→OA) (bp:Sl→Hp→OA) :Nat→Sl→Sl→Int→Int→Hp→OA
 | 0,_,_,_,_,_=>none
 | cS + 1,ji,jE,gn,gK,H116=>(bif (decide (gK < gn)) then (aj.l16301 F aB bo aM cm bp (aj.l509 F aB bo aM cm bp cS) F ji jE gn gK (ji.n:Int) 0 H116) else (some ((.sl jE),H116)))
termination_by structural n=>n
noncomputable def aj.j10 (F:Nat) (aB:Sl→Int→Sl→Sl→Hp→OA) (bo:Sl→Int→Sl→Sl→Hp→OA) (aM:Sl→Int→Sl→Sl→Hp→OA) (cm:Sl→Int→Hp→OA) (bp:Sl→Hp→OA) (Xy:Sl) (IK:Sl) (H96:Hp):OA:=aj.l509 F aB bo aM cm bp F Xy IK (IK.n:Int) 0 H96
noncomputable def aj.j11 (F:Nat) (aB:Sl→Int→Sl→Sl→Hp→OA) (bo:Sl→Int→Sl→Sl→Hp→OA) (aM:Sl→Int→Sl→Sl→Hp→OA) (cm:Sl→Int→Hp→OA) (bp:Sl→Hp→OA) (C253_:Sl→Sl→Sl→Sl→Int→Int→Hp→OA) (Xz:Sl) (XA:Sl) (XB:Sl) (XC:Sl) (ps:Int) (pt:Int) (H429:Hp):OA:=C253_ Xz XA XB XC ps (IntKind.i64.wrap (pt + 1)) H429
noncomputable def aj.l253 (F:Nat) (aB:Sl→Int→Sl→Sl→Hp→OA) (bo:Sl→Int→Sl→Sl→Hp→OA) (aM:Sl→Int→Sl→Sl→Hp→OA) (cm:Sl→Int→Hp→OA) (bp:Sl→Hp→OA) :Nat→Sl→Sl→Sl→Sl→Int→Int→Hp→OA
 | 0,_,_,_,_,_,_,_=>none
 | qq + 1,hC,ib,iw,jj,fF,ec,H47=>(bif (decide (ec < fF)) then ((Sl.idx jj ec 1).bind fun p399=>(Hp.ldI H47 .i64 p399.1 p399.2).bind fun n400=>(Sl.idx iw n400 1).bind fun p401=>(Hp.ldB H47 p401.1 p401.2).bind fun b402=>(bif (!b402) then ((Sl.idx iw n400 1).bind fun p403=>(Hp.st H47 p403.1 p403.2 (.bool true)).bind fun H404=>(Sl.idx hC (IntKind.i64.wrap (4 * ec)) 1).bind fun p405=>(Hp.ldI H404 .i64 p405.1 p405.2).bind fun n406=>(Sl.idx ib n406 1).bind fun p407=>(Hp.st H404 p407.1 p407.2 (.int .i64 0)).bind fun H408=>aj.j11 F aB bo aM cm bp (aj.l253 F aB bo aM cm bp qq) hC ib iw jj fF ec H408) else (aj.j11 F aB bo aM cm bp (aj.l253 F aB bo aM cm bp qq) hC ib iw jj fF ec H47))) else (aj.j10 F aB bo aM cm bp hC ib H47))
termination_by structural n=>n
noncomputable def aj.twX (F:Nat) (aB:Sl→Int→Sl→Sl→Hp→OA) (bo:Sl→Int→Sl→Sl→Hp→OA) (aM:Sl→Int→Sl→Sl→Hp→OA) (cm:Sl→Int→Hp→OA) (bp:Sl→Hp→OA) (aa:Sl) (ab:Int) (ah:Sl) (av:Sl) (H:Hp):OA:=(Hp.new H [(.sl aa),(.int .i64 ab)]).bind fun H5=>(Hp.new H5 [(.sl ah),(.sl av)]).bind fun H6=>(Hp.ldSl H6 H.length 0).bind fun s7=>(Hp.ldI H6 .i64 H.length (0 + 1)).bind fun n8=>(Hp.ldSl H6 H5.length 0).bind fun s9=>(Hp.ldSl H6 H5.length (0 + 1)).bind fun s10=>(aB s7 n8 s9 s10 H6).bind fun r11=>((r11.1).asSl).bind fun s12=>(Hp.ldSl r11.2 H.length 0).bind fun s13=>(Hp.ldI r11.2 .i64 H.length (0 + 1)).bind fun n14=>(Hp.ldSl r11.2 H5.length 0).bind fun s15=>(Hp.ldSl r11.2 H5.length (0 + 1)).bind fun s16=>(bo s13 n14 s15 s16 r11.2).bind fun r17=>((r17.1).asSl).bind fun s18=>(Hp.new r17.2 [(.int .i64 (-1))]).bind fun H19=>(Hp.ldSl H19 H.length 0).bind fun s20=>(Hp.ldI H19 .i64 H.length (0 + 1)).bind fun n21=>(Hp.ldSl H19 H5.length 0).bind fun s22=>(Hp.ldSl H19 H5.length (0 + 1)).bind fun s23=>(aM s20 n21 s22 s23 H19).bind fun r24=>((r24.1).asSl).bind fun s25=>(cm (⟨some (r17.2.length,0),1,.ex 1⟩:Sl) (s25.n:Int) r24.2).bind fun r26=>((r26.1).asSl).bind fun s27=>(bp s18 r26.2).bind fun r28=>((r28.1).asI .i64).bind fun n29=>(Hp.mk r28.2 [.bool false] 1 n29 n29).bind fun m30=>aj.l253 F aB bo aM cm bp F s12 s27 m30.1 s18 (s18.n:Int) 0 m30.2
noncomputable def aj.tw (F:Nat) (aa:Sl) (ab:Int) (ah:Sl) (av:Sl) (H:Hp):OA:=aj.twX F (au.tw F) (aH.tw F) (aq.tw F) (aO.tw F) (bd.tw F) aa ab ah av H
noncomputable def aj.code:Go.Code:=(Try.f73.body).getD .skip
noncomputable def aj.lh253 (F:Nat) (aB:Sl→Int→Sl→Sl→Hp→OA) (bo:Sl→Int→Sl→Sl→Hp→OA) (aM:Sl→Int→Sl→Sl→Hp→OA) (cm:Sl→Int→Hp→OA) (bp:Sl→Hp→OA) (ks:List Nat) (n:Nat) (tm:Tm) (H:Hp):OA:=match ks,tm 5,tm 7,tm 8,tm 28,tm 29,tm 30 with
 | [],(.sl hC),(.sl ib),(.sl iw),(.sl jj),(.int .i64 fF),(.int .i64 ec)=>aj.l253 F aB bo aM cm bp n hC ib iw jj fF ec H
 | _,_,_,_,_,_,_=>none
theorem aj.lh253_inv {F:Nat} {aB:Sl→Int→Sl→Sl→Hp→OA} {bo:Sl→Int→Sl→Sl→Hp→OA} {aM:Sl→Int→Sl→Sl→Hp→OA} {cm:Sl→Int→Hp→OA} {bp:Sl→Hp→OA} {ks:List Nat} {n:Nat} {tm:Tm} {H:Hp} {r:AV×Hp} (h:aj.lh253 F aB bo aM cm bp ks n tm H = some r):∃ hC:Sl,∃ ib:Sl,∃ iw:Sl,∃ jj:Sl,∃ fF:Int,∃ ec:Int,ks = []∧tm 5 = (.sl hC)∧tm 7 = (.sl ib)∧tm 8 = (.sl iw)∧tm 28 = (.sl jj)∧tm 29 = (.int .i64 fF)∧tm 30 = (.int .i64 ec)∧aj.l253 F aB bo aM cm bp n hC ib iw jj fF ec H = some r:=by
 unfold aj.lh253 at h
 split at h
 ·exact ⟨_,_,_,_,_,_,rfl,by assumption,by assumption,by assumption,by assumption,by assumption,by assumption,h⟩
 ·cases h
noncomputable def aj.lh509 (F:Nat) (aB:Sl→Int→Sl→Sl→Hp→OA) (bo:Sl→Int→Sl→Sl→Hp→OA) (aM:Sl→Int→Sl→Sl→Hp→OA) (cm:Sl→Int→Hp→OA) (bp:Sl→Hp→OA) (ks:List Nat) (n:Nat) (tm:Tm) (H:Hp):OA:=match ks,tm 5,tm 7,tm 52,tm 53 with
 | [],(.sl ji),(.sl jE),(.int .i64 gn),(.int .i64 gK)=>aj.l509 F aB bo aM cm bp n ji jE gn gK H
 | _,_,_,_,_=>none
theorem aj.lh509_inv {F:Nat} {aB:Sl→Int→Sl→Sl→Hp→OA} {bo:Sl→Int→Sl→Sl→Hp→OA} {aM:Sl→Int→Sl→Sl→Hp→OA} {cm:Sl→Int→Hp→OA} {bp:Sl→Hp→OA} {ks:List Nat} {n:Nat} {tm:Tm} {H:Hp} {r:AV×Hp} (h:aj.lh509 F aB bo aM cm bp ks n tm H = some r):∃ ji:Sl,∃ jE:Sl,∃ gn:Int,∃ gK:Int,ks = []∧tm 5 = (.sl ji)∧tm 7 = (.sl jE)∧tm 52 = (.int .i64 gn)∧tm 53 = (.int .i64 gK)∧aj.l509 F aB bo aM cm bp n ji jE gn gK H = some r:=by
 unfold aj.lh509 at h
 split at h
 ·exact ⟨_,_,_,_,rfl,by assumption,by assumption,by assumption,by assumption,h⟩
 ·cases h
noncomputable def aj.lh16301 (F:Nat) (aB:Sl→Int→Sl→Sl→Hp→OA) (bo:Sl→Int→Sl→Sl→Hp→OA) (aM:Sl→Int→Sl→Sl→Hp→OA) (cm:Sl→Int→Hp→OA) (bp:Sl→Hp→OA) (ks:List Nat) (n:Nat) (tm:Tm) (H:Hp):OA:=match ks,tm 5,tm 7,tm 52,tm 53,tm 56,tm 57 with
 | [cS],(.sl gJ),(.sl hB),(.int .i64 eA),(.int .i64 fm),(.int .i64 fE),(.int .i64 dp)=>aj.l16301 F aB bo aM cm bp (aj.l509 F aB bo aM cm bp cS) n gJ hB eA fm fE dp H
 | _,_,_,_,_,_,_=>none
theorem aj.lh16301_inv {F:Nat} {aB:Sl→Int→Sl→Sl→Hp→OA} {bo:Sl→Int→Sl→Sl→Hp→OA} {aM:Sl→Int→Sl→Sl→Hp→OA} {cm:Sl→Int→Hp→OA} {bp:Sl→Hp→OA} {ks:List Nat} {n:Nat} {tm:Tm} {H:Hp} {r:AV×Hp} (h:aj.lh16301 F aB bo aM cm bp ks n tm H = some r):∃ cS:Nat,∃ gJ:Sl,∃ hB:Sl,∃ eA:Int,∃ fm:Int,∃ fE:Int,∃ dp:Int,ks = [cS]∧tm 5 = (.sl gJ)∧tm 7 = (.sl hB)∧tm 52 = (.int .i64 eA)∧tm 53 = (.int .i64 fm)∧tm 56 = (.int .i64 fE)∧tm 57 = (.int .i64 dp)∧aj.l16301 F aB bo aM cm bp (aj.l509 F aB bo aM cm bp cS) n gJ hB eA fm fE dp H = some r:=by
 unfold aj.lh16301 at h
 split at h
 ·exact ⟨_,_,_,_,_,_,_,rfl,by assumption,by assumption,by assumption,by assumption,by assumption,by assumption,h⟩
 ·cases h
noncomputable def aj.lh (F:Nat) (aB:Sl→Int→Sl→Sl→Hp→OA) (bo:Sl→Int→Sl→Sl→Hp→OA) (aM:Sl→Int→Sl→Sl→Hp→OA) (cm:Sl→Int→Hp→OA) (bp:Sl→Hp→OA) (p:Nat) (ks:List Nat) (n:Nat) (tm:Tm) (H:Hp):OA:=bif p.beq 16301 then aj.lh16301 F aB bo aM cm bp ks n tm H else (bif p.beq 509 then aj.lh509 F aB bo aM cm bp ks n tm H else (bif p.beq 253 then aj.lh253 F aB bo aM cm bp ks n tm H else (none)))
def aj.pn:Nat→List Nat:=fun i=>(([]:List (Nat×List Nat)).lookup i).getD []
def aj.tb:Nat→List (List Nat):=fun i=>(([]:List (Nat×List (List Nat))).lookup i).getD []
noncomputable def aj.mk (g:Sl→Int→Sl→Sl→Hp→OA) (args:List AV) (H:Hp):OA:=match args with
 | [(.agg [(.sl aa),(.int .i64 ab)]),(.agg [(.sl ah),(.sl av)])]=>g aa ab ah av H
 | _=>none
noncomputable def aj.cs (F:Nat) (aB:Sl→Int→Sl→Sl→Hp→OA) (bo:Sl→Int→Sl→Sl→Hp→OA) (aM:Sl→Int→Sl→Sl→Hp→OA) (cm:Sl→Int→Hp→OA) (bp:Sl→Hp→OA):List (FuncId×(List AV→Hp→OA)):=[(127,au.mk aB),(126,aH.mk bo),(103,aq.mk aM),(129,aO.mk cm),(120,bd.mk bp)]
theorem aj.loops (F:Nat) (aB:Sl→Int→Sl→Sl→Hp→OA) (bo:Sl→Int→Sl→Sl→Hp→OA) (aM:Sl→Int→Sl→Sl→Hp→OA) (cm:Sl→Int→Hp→OA) (bp:Sl→Hp→OA):LoopsOk tabs (mkOrc (aj.cs F aB bo aM cm bp)) aj.pn (aj.lh F aB bo aM cm bp) F [] 1 aj.code (fun tm H=>aresults tabs.ty H tm Try.f73.results.toList fun v=>some (v,H)) (fun _ _ _=>none) (fun tm H=>aresults tabs.ty H tm Try.f73.results.toList fun v=>some (v,H)):=by
 refine LoopsOk.seq ?_ ?_
 ·exact loops_none (by kernel_rfl)
 ·refine LoopsOk.seq ?_ ?_
  ·exact loops_none (by kernel_rfl)
  ·refine LoopsOk.seq ?_ ?_
   ·exact loops_none (by kernel_rfl)
   ·refine LoopsOk.seq ?_ ?_
    ·exact loops_none (by kernel_rfl)
    ·refine LoopsOk.seq ?_ ?_
     ·exact loops_none (by kernel_rfl)
     ·refine LoopsOk.seq ?_ ?_
      ·refine LoopsOk.seq ?_ ?_
       ·exact loops_none (by kernel_rfl)
       ·refine LoopsOk.block ?_
        refine LoopsOk.loop (fun tm H=>?_) (fun k253 tm H r h0=>?_) (fun k253=>?_)
        ·refine none_of fun r h0=>?_
         obtain ⟨hC,ib,iw,jj,fF,ec,hks,e5,e7,e8,e28,e29,e30,h⟩:=aj.lh253_inv (show aj.lh253 F aB bo aM cm bp [] 0 tm H = some r from h0)
         cases h
        ·obtain ⟨hC,ib,iw,jj,fF,ec,hks,e5,e7,e8,e28,e29,e30,h⟩:=aj.lh253_inv (show aj.lh253 F aB bo aM cm bp [] (k253 + 1) tm H = some r from h0)
         have q0:(Tm.put tm 5 (.sl hC)) = tm:=by exact Tm.put_same e5
         have q1:(Tm.put (Tm.put tm 5 (.sl hC)) 7 (.sl ib)) = tm:=by rw [q0]; exact Tm.put_same e7
         have q2:(Tm.put (Tm.put (Tm.put tm 5 (.sl hC)) 7 (.sl ib)) 8 (.sl iw)) = tm:=by rw [q1]; exact Tm.put_same e8
         have q3:(Tm.put (Tm.put (Tm.put (Tm.put tm 5 (.sl hC)) 7 (.sl ib)) 8 (.sl iw)) 28 (.sl jj)) = tm:=by rw [q2]; exact Tm.put_same e28
         have q4:(Tm.put (Tm.put (Tm.put (Tm.put (Tm.put tm 5 (.sl hC)) 7 (.sl ib)) 8 (.sl iw)) 28 (.sl jj)) 29 (.int .i64 fF)) = tm:=by rw [q3]; exact Tm.put_same e29
         have q5:(Tm.put (Tm.put (Tm.put (Tm.put (Tm.put (Tm.put tm 5 (.sl hC)) 7 (.sl ib)) 8 (.sl iw)) 28 (.sl jj)) 29 (.int .i64 fF)) 30 (.int .i64 ec)) = tm:=by rw [q4]; exact Tm.put_same e30
         rw [← q5]
         exact Eq.trans (by kernel_rfl) h
        ·exact loops_none (by kernel_rfl)
      ·refine LoopsOk.seq ?_ ?_
       ·refine LoopsOk.seq ?_ ?_
        ·exact loops_none (by kernel_rfl)
        ·refine LoopsOk.block ?_
         refine LoopsOk.loop (fun tm H=>?_) (fun k509 tm H r h0=>?_) (fun k509=>?_)
         ·refine none_of fun r h0=>?_
          obtain ⟨ji,jE,gn,gK,hks,e5,e7,e52,e53,h⟩:=aj.lh509_inv (show aj.lh509 F aB bo aM cm bp [] 0 tm H = some r from h0)
          cases h
         ·obtain ⟨ji,jE,gn,gK,hks,e5,e7,e52,e53,h⟩:=aj.lh509_inv (show aj.lh509 F aB bo aM cm bp [] (k509 + 1) tm H = some r from h0)
          have q0:(Tm.put tm 5 (.sl ji)) = tm:=by exact Tm.put_same e5
          have q1:(Tm.put (Tm.put tm 5 (.sl ji)) 7 (.sl jE)) = tm:=by rw [q0]; exact Tm.put_same e7
          have q2:(Tm.put (Tm.put (Tm.put tm 5 (.sl ji)) 7 (.sl jE)) 52 (.int .i64 gn)) = tm:=by rw [q1]; exact Tm.put_same e52
          have q3:(Tm.put (Tm.put (Tm.put (Tm.put tm 5 (.sl ji)) 7 (.sl jE)) 52 (.int .i64 gn)) 53 (.int .i64 gK)) = tm:=by rw [q2]; exact Tm.put_same e53
          rw [← q3]
          exact Eq.trans (by kernel_rfl) h
         ·refine LoopsOk.seq ?_ ?_
          ·exact loops_none (by kernel_rfl)
          ·refine LoopsOk.seq ?_ ?_
           ·exact loops_none (by kernel_rfl)
           ·refine LoopsOk.seq ?_ ?_
            ·refine LoopsOk.block ?_
             refine LoopsOk.seq ?_ ?_
             ·exact loops_none (by kernel_rfl)
             ·refine LoopsOk.block ?_
              refine LoopsOk.loop (fun tm H=>?_) (fun k16301 tm H r h0=>?_) (fun k16301=>?_)
              ·refine none_of fun r h0=>?_
               obtain ⟨cS,gJ,hB,eA,fm,fE,dp,hks,e5,e7,e52,e53,e56,e57,h⟩:=aj.lh16301_inv (show aj.lh16301 F aB bo aM cm bp [k509] 0 tm H = some r from h0)
               cases h
              ·obtain ⟨cS,gJ,hB,eA,fm,fE,dp,hks,e5,e7,e52,e53,e56,e57,h⟩:=aj.lh16301_inv (show aj.lh16301 F aB bo aM cm bp [k509] (k16301 + 1) tm H = some r from h0)
               obtain rfl:cS = k509:=by simpa [eq_comm] using hks
               have q0:(Tm.put tm 5 (.sl gJ)) = tm:=by exact Tm.put_same e5
               have q1:(Tm.put (Tm.put tm 5 (.sl gJ)) 7 (.sl hB)) = tm:=by rw [q0]; exact Tm.put_same e7
               have q2:(Tm.put (Tm.put (Tm.put tm 5 (.sl gJ)) 7 (.sl hB)) 52 (.int .i64 eA)) = tm:=by rw [q1]; exact Tm.put_same e52
               have q3:(Tm.put (Tm.put (Tm.put (Tm.put tm 5 (.sl gJ)) 7 (.sl hB)) 52 (.int .i64 eA)) 53 (.int .i64 fm)) = tm:=by rw [q2]; exact Tm.put_same e53
               have q4:(Tm.put (Tm.put (Tm.put (Tm.put (Tm.put tm 5 (.sl gJ)) 7 (.sl hB)) 52 (.int .i64 eA)) 53 (.int .i64 fm)) 56 (.int .i64 fE)) = tm:=by rw [q3]; exact Tm.put_same e56
               have q5:(Tm.put (Tm.put (Tm.put (Tm.put (Tm.put (Tm.put tm 5 (.sl gJ)) 7 (.sl hB)) 52 (.int .i64 eA)) 53 (.int .i64 fm)) 56 (.int .i64 fE)) 57 (.int .i64 dp)) = tm:=by rw [q4]; exact Tm.put_same e57
               rw [← q5]
               exact Eq.trans (by kernel_rfl) h
              ·exact loops_none (by kernel_rfl)
            ·exact loops_none (by kernel_rfl)
       ·exact loops_none (by kernel_rfl)
theorem aj.eqX (F:Nat) (aB:Sl→Int→Sl→Sl→Hp→OA) (bo:Sl→Int→Sl→Sl→Hp→OA) (aM:Sl→Int→Sl→Sl→Hp→OA) (cm:Sl→Int→Hp→OA) (bp:Sl→Hp→OA) (aa:Sl) (ab:Int) (ah:Sl) (av:Sl) (H:Hp):aCode tabs (mkOrc (aj.cs F aB bo aM cm bp)) aj.pn (aj.lh F aB bo aM cm bp) F [] 1 aj.code (argTm [(.agg [(.sl aa),(.int .i64 ab)]),(.agg [(.sl ah),(.sl av)])]) H (fun tm H=>aresults tabs.ty H tm Try.f73.results.toList fun v=>some (v,H)) (fun _ _ _=>none) (fun tm H=>aresults tabs.ty H tm Try.f73.results.toList fun v=>some (v,H)) = aj.twX F aB bo aM cm bp aa ab ah av H:=by kernel_rfl
theorem aj.cs_ok (F:Nat):∀ p ∈ aj.cs F (au.tw F) (aH.tw F) (aq.tw F) (aO.tw F) (bd.tw F),∀ args H v H',p.2 args H = some (v,H')→Go.AE.T Try.prog p.1 args H v H':=by
 intro p hp
 simp only [aj.cs,List.mem_cons,List.not_mem_nil,or_false] at hp
 rcases hp with rfl | rfl | rfl | rfl | rfl
 ·exact fun args H v H' h=>au.mk_T h
 ·exact fun args H v H' h=>aH.mk_T h
 ·exact fun args H v H' h=>aq.mk_T h
 ·exact fun args H v H' h=>aO.mk_T h
 ·exact fun args H v H' h=>bd.mk_T h
theorem aj.ok:codeOk aj.pn Try.f73.ntmps aj.tb aj.code = true:=by kernel_rfl
theorem aj.T {F:Nat} {aa:Sl} {ab:Int} {ah:Sl} {av:Sl} {H:Hp} {v:AV} {H':Hp} (h:aj.tw F aa ab ah av H = some (v,H')):Go.AE.T Try.prog 73 [(.agg [(.sl aa),(.int .i64 ab)]),(.agg [(.sl ah),(.sl av)])] H v H':=
 Go.AE.T.of (Y:=tabs) (C:=mkOrc (aj.cs F (au.tw F) (aH.tw F) (aq.tw F) (aO.tw F) (bd.tw F))) (PN:=aj.pn) (LH:=aj.lh F (au.tw F) (aH.tw F) (aq.tw F) (aO.tw F) (bd.tw F)) (F:=F) (TB:=aj.tb) (fn:=Try.f73) (code:=aj.code) mixed tabs_ok (mkOrc_ok (aj.cs_ok F)) Try.func73 (by kernel_rfl) (by kernel_rfl) aj.ok (Nat.le_of_ble_eq_true (by kernel_rfl)) (aj.loops F (au.tw F) (aH.tw F) (aq.tw F) (aO.tw F) (bd.tw F)) (Eq.trans (aj.eqX F (au.tw F) (aH.tw F) (aq.tw F) (aO.tw F) (bd.tw F) aa ab ah av H) h)
theorem aj.mk_T {F:Nat} {args:List AV} {H:Hp} {v:AV} {H':Hp} (h:aj.mk (aj.tw F) args H = some (v,H')):Go.AE.T Try.prog 73 args H v H':=by
 unfold aj.mk at h
 split at h
 ·exact aj.T h
 ·cases h
noncomputable def bw.twX (F:Nat) (aa:Int) (af:Int) (H:Hp):OA:=(Hp.new H [.int .i64 0,.int .i64 0,.sl ⟨none,0,.ex 0⟩]).bind fun H3=>(Hp.mk H3 [.int .i64 0] 8 (IntKind.i64.wrap (aa * af)) (IntKind.i64.wrap (aa * af))).bind fun m4=>(Hp.st m4.2 H.length 0 (.int .i64 aa)).bind fun H5=>(Hp.st H5 H.length (0 + 1) (.int .i64 af)).bind fun H6=>(Hp.st H6 H.length (0 + 1 + 1) (.sl m4.1)).bind fun H7=>(Hp.ldI H7 .i64 H.length 0).bind fun n8=>(Hp.ldI H7 .i64 H.length (0 + 1)).bind fun n9=>(Hp.ldSl H7 H.length (0 + 2)).bind fun s10=>some ((.agg [(.int .i64 n8),(.int .i64 n9),(.sl s10)]),H7)
noncomputable def bw.tw (F:Nat) (aa:Int) (af:Int) (H:Hp):OA:=bw.twX F aa af H
noncomputable def bw.code:Go.Code:=(Try.f133.body).getD .skip
noncomputable def bw.lh (F:Nat) (p:Nat) (ks:List Nat) (n:Nat) (tm:Tm) (H:Hp):OA:=none
def bw.pn:Nat→List Nat:=fun i=>(([]:List (Nat×List Nat)).lookup i).getD []
def bw.tb:Nat→List (List Nat):=fun i=>(([]:List (Nat×List (List Nat))).lookup i).getD []
noncomputable def bw.mk (g:Int→Int→Hp→OA) (args:List AV) (H:Hp):OA:=match args with
 | [(.int .i64 aa),(.int .i64 af)]=>g aa af H
 | _=>none
noncomputable def bw.cs (F:Nat):List (FuncId×(List AV→Hp→OA)):=[]
theorem bw.loops (F:Nat):LoopsOk tabs (mkOrc (bw.cs F)) bw.pn (bw.lh F) F [] 1 bw.code (fun tm H=>aresults tabs.ty H tm Try.f133.results.toList fun v=>some (v,H)) (fun _ _ _=>none) (fun tm H=>aresults tabs.ty H tm Try.f133.results.toList fun v=>some (v,H)):=by
 exact loops_none (by kernel_rfl)
theorem bw.eqX (F:Nat) (aa:Int) (af:Int) (H:Hp):aCode tabs (mkOrc (bw.cs F)) bw.pn (bw.lh F) F [] 1 bw.code (argTm [(.int .i64 aa),(.int .i64 af)]) H (fun tm H=>aresults tabs.ty H tm Try.f133.results.toList fun v=>some (v,H)) (fun _ _ _=>none) (fun tm H=>aresults tabs.ty H tm Try.f133.results.toList fun v=>some (v,H)) = bw.twX F aa af H:=by kernel_rfl
theorem bw.cs_ok (F:Nat):∀ p ∈ bw.cs F,∀ args H v H',p.2 args H = some (v,H')→Go.AE.T Try.prog p.1 args H v H':=by
 intro p hp
 exact absurd (show p ∈ [] from hp) List.not_mem_nil
theorem bw.ok:codeOk bw.pn Try.f133.ntmps bw.tb bw.code = true:=by kernel_rfl
theorem bw.T {F:Nat} {aa:Int} {af:Int} {H:Hp} {v:AV} {H':Hp} (h:bw.tw F aa af H = some (v,H')):Go.AE.T Try.prog 133 [(.int .i64 aa),(.int .i64 af)] H v H':=
 Go.AE.T.of (Y:=tabs) (C:=mkOrc (bw.cs F)) (PN:=bw.pn) (LH:=bw.lh F) (F:=F) (TB:=bw.tb) (fn:=Try.f133) (code:=bw.code) mixed tabs_ok (mkOrc_ok (bw.cs_ok F)) Try.func133 (by kernel_rfl) (by kernel_rfl) bw.ok (Nat.le_of_ble_eq_true (by kernel_rfl)) (bw.loops F) (Eq.trans (bw.eqX F aa af H) h)
theorem bw.mk_T {F:Nat} {args:List AV} {H:Hp} {v:AV} {H':Hp} (h:bw.mk (bw.tw F) args H = some (v,H')):Go.AE.T Try.prog 133 args H v H':=by
 unfold bw.mk at h
 split at h
 ·exact bw.T h
 ·cases h
noncomputable def cd.twX (F:Nat) (aa:Bool) (H:Hp):OA:=(bif aa then (some ((.int .i64 1),H)) else (some ((.int .i64 0),H)))
noncomputable def cd.tw (F:Nat) (aa:Bool) (H:Hp):OA:=cd.twX F aa H
noncomputable def cd.code:Go.Code:=(Try.f128.body).getD .skip
noncomputable def cd.lh (F:Nat) (p:Nat) (ks:List Nat) (n:Nat) (tm:Tm) (H:Hp):OA:=none
def cd.pn:Nat→List Nat:=fun i=>(([]:List (Nat×List Nat)).lookup i).getD []
def cd.tb:Nat→List (List Nat):=fun i=>(([]:List (Nat×List (List Nat))).lookup i).getD []
noncomputable def cd.mk (g:Bool→Hp→OA) (args:List AV) (H:Hp):OA:=match args with
 | [(.bool aa)]=>g aa H
 | _=>none
noncomputable def cd.cs (F:Nat):List (FuncId×(List AV→Hp→OA)):=[]
theorem cd.loops (F:Nat):LoopsOk tabs (mkOrc (cd.cs F)) cd.pn (cd.lh F) F [] 1 cd.code (fun tm H=>aresults tabs.ty H tm Try.f128.results.toList fun v=>some (v,H)) (fun _ _ _=>none) (fun tm H=>aresults tabs.ty H tm Try.f128.results.toList fun v=>some (v,H)):=by
 exact loops_none (by kernel_rfl)
theorem cd.eqX (F:Nat) (aa:Bool) (H:Hp):aCode tabs (mkOrc (cd.cs F)) cd.pn (cd.lh F) F [] 1 cd.code (argTm [(.bool aa)]) H (fun tm H=>aresults tabs.ty H tm Try.f128.results.toList fun v=>some (v,H)) (fun _ _ _=>none) (fun tm H=>aresults tabs.ty H tm Try.f128.results.toList fun v=>some (v,H)) = cd.twX F aa H:=by kernel_rfl
theorem cd.cs_ok (F:Nat):∀ p ∈ cd.cs F,∀ args H v H',p.2 args H = some (v,H')→Go.AE.T Try.prog p.1 args H v H':=by
 intro p hp
 exact absurd (show p ∈ [] from hp) List.not_mem_nil
theorem cd.ok:codeOk cd.pn Try.f128.ntmps cd.tb cd.code = true:=by kernel_rfl
theorem cd.T {F:Nat} {aa:Bool} {H:Hp} {v:AV} {H':Hp} (h:cd.tw F aa H = some (v,H')):Go.AE.T Try.prog 128 [(.bool aa)] H v H':=
 Go.AE.T.of (Y:=tabs) (C:=mkOrc (cd.cs F)) (PN:=cd.pn) (LH:=cd.lh F) (F:=F) (TB:=cd.tb) (fn:=Try.f128) (code:=cd.code) mixed tabs_ok (mkOrc_ok (cd.cs_ok F)) Try.func128 (by kernel_rfl) (by kernel_rfl) cd.ok (Nat.le_of_ble_eq_true (by kernel_rfl)) (cd.loops F) (Eq.trans (cd.eqX F aa H) h)
theorem cd.mk_T {F:Nat} {args:List AV} {H:Hp} {v:AV} {H':Hp} (h:cd.mk (cd.tw F) args H = some (v,H')):Go.AE.T Try.prog 128 args H v H':=by
 unfold cd.mk at h
 split at h
 ·exact cd.T h
 ·cases h
noncomputable def aR.l61 (F:Nat) (aB:Sl→Int→Sl→Sl→Hp→OA) (aV:Sl→Int→Sl→Sl→Hp→OA) (fo:Bool→Hp→OA) :Nat→Int→Sl→Sl→Sl→Int→Int→Hp→OA
 | 0,_,_,_,_,_,_,_=>none
 | bJ + 1,eB,cz,cF,jF,gp,fU,H36=>(bif (decide (fU < gp)) then ((Sl.idx cz (IntKind.i64.wrap ((IntKind.i64.wrap (4 * fU)) + 1)) 1).bind fun p46=>(Hp.ldI H36 .i64 p46.1 p46.2).bind fun n47=>(Sl.idx cF n47 1).bind fun p48=>(Hp.ldI H36 .i64 p48.1 p48.2).bind fun n49=>(fo (n49 == eB) H36).bind fun r50=>((r50.1).asI .i64).bind fun n51=>(Hp.new r50.2 [(.int .i64 (IntKind.i64.wrap ((IntKind.i64.wrap (2 * n51)) - 1)))]).bind fun H52=>(Sl.row H52 (⟨some (r50.2.length,0),1,.ex 1⟩:Sl) 1).bind fun xs54=>(Hp.app H52 1 8 jF (⟨some (r50.2.length,0),1,.ex 1⟩:Sl).n xs54).bind fun a53=>aR.l61 F aB aV fo bJ eB cz cF a53.1 gp (IntKind.i64.wrap (fU + 1)) a53.2) else (some ((.sl jF),H36)))
termination_by structural n=>n
noncomputable def aR.twX (F:Nat) (aB:Sl→Int→Sl→Sl→Hp→OA) (aV:Sl→Int→Sl→Sl→Hp→OA) (fo:Bool→Hp→OA) (aa:Sl) (ab:Int) (ah:Sl) (av:Sl) (bH:Int) (H:Hp):OA:=(Hp.new H [(.sl aa),(.int .i64 ab)]).bind fun H6=>(Hp.new H6 [(.sl ah),(.sl av)]).bind fun H7=>(Hp.ldSl H7 H.length 0).bind fun s8=>(Hp.ldI H7 .i64 H.length (0 + 1)).bind fun n9=>(Hp.ldSl H7 H6.length 0).bind fun s10=>(Hp.ldSl H7 H6.length (0 + 1)).bind fun s11=>(aB s8 n9 s10 s11 H7).bind fun r12=>((r12.1).asSl).bind fun s13=>(if Cons H7 r12.2 then ((Hp.ldSl r12.2 H.length 0).bind fun s14=>(Hp.ldI r12.2 .i64 H.length (0 + 1)).bind fun n15=>(Hp.ldSl r12.2 H6.length 0).bind fun s16=>(Hp.ldSl r12.2 H6.length (0 + 1)).bind fun s17=>(aV s14 n15 s16 s17 r12.2).bind fun r18=>((r18.1).asSl).bind fun s19=>(Hp.ldSl r18.2 H.length 0).bind fun s20=>aR.l61 F aB aV fo F bH s13 s19 (⟨none,0,.ex 0⟩:Sl) (s20.n:Int) 0 r18.2) else none)
noncomputable def aR.tw (F:Nat) (aa:Sl) (ab:Int) (ah:Sl) (av:Sl) (bH:Int) (H:Hp):OA:=aR.twX F (au.tw F) (aj.tw F) (cd.tw F) aa ab ah av bH H
noncomputable def aR.code:Go.Code:=(Try.f72.body).getD .skip
noncomputable def aR.lh61 (F:Nat) (aB:Sl→Int→Sl→Sl→Hp→OA) (aV:Sl→Int→Sl→Sl→Hp→OA) (fo:Bool→Hp→OA) (ks:List Nat) (n:Nat) (tm:Tm) (H:Hp):OA:=match ks,tm 2,tm 7,tm 8,tm 9,tm 19,tm 20 with
 | [],(.int .i64 eB),(.sl cz),(.sl cF),(.sl jF),(.int .i64 gp),(.int .i64 fU)=>aR.l61 F aB aV fo n eB cz cF jF gp fU H
 | _,_,_,_,_,_,_=>none
theorem aR.lh61_inv {F:Nat} {aB:Sl→Int→Sl→Sl→Hp→OA} {aV:Sl→Int→Sl→Sl→Hp→OA} {fo:Bool→Hp→OA} {ks:List Nat} {n:Nat} {tm:Tm} {H:Hp} {r:AV×Hp} (h:aR.lh61 F aB aV fo ks n tm H = some r):∃ eB:Int,∃ cz:Sl,∃ cF:Sl,∃ jF:Sl,∃ gp:Int,∃ fU:Int,ks = []∧tm 2 = (.int .i64 eB)∧tm 7 = (.sl cz)∧tm 8 = (.sl cF)∧tm 9 = (.sl jF)∧tm 19 = (.int .i64 gp)∧tm 20 = (.int .i64 fU)∧aR.l61 F aB aV fo n eB cz cF jF gp fU H = some r:=by
 unfold aR.lh61 at h
 split at h
 ·exact ⟨_,_,_,_,_,_,rfl,by assumption,by assumption,by assumption,by assumption,by assumption,by assumption,h⟩
 ·cases h
noncomputable def aR.lh (F:Nat) (aB:Sl→Int→Sl→Sl→Hp→OA) (aV:Sl→Int→Sl→Sl→Hp→OA) (fo:Bool→Hp→OA) (p:Nat) (ks:List Nat) (n:Nat) (tm:Tm) (H:Hp):OA:=bif p.beq 61 then aR.lh61 F aB aV fo ks n tm H else (none)
def aR.pn:Nat→List Nat:=fun i=>(([(1,[5])]:List (Nat×List Nat)).lookup i).getD []
def aR.tb:Nat→List (List Nat):=fun i=>(([(1,[[],[],[0,1],[],[],[0,1,2,3,4],[0,1,2,3,4,5],[0,1,2,3,4,5,6]])]:List (Nat×List (List Nat))).lookup i).getD []
noncomputable def aR.mk (g:Sl→Int→Sl→Sl→Int→Hp→OA) (args:List AV) (H:Hp):OA:=match args with
 | [(.agg [(.sl aa),(.int .i64 ab)]),(.agg [(.sl ah),(.sl av)]),(.int .i64 bH)]=>g aa ab ah av bH H
 | _=>none
noncomputable def aR.cs (F:Nat) (aB:Sl→Int→Sl→Sl→Hp→OA) (aV:Sl→Int→Sl→Sl→Hp→OA) (fo:Bool→Hp→OA):List (FuncId×(List AV→Hp→OA)):=[(127,au.mk aB),(73,aj.mk aV),(128,cd.mk fo)]
theorem aR.loops (F:Nat) (aB:Sl→Int→Sl→Sl→Hp→OA) (aV:Sl→Int→Sl→Sl→Hp→OA) (fo:Bool→Hp→OA):LoopsOk tabs (mkOrc (aR.cs F aB aV fo)) aR.pn (aR.lh F aB aV fo) F [] 1 aR.code (fun tm H=>aresults tabs.ty H tm Try.f72.results.toList fun v=>some (v,H)) (fun _ _ _=>none) (fun tm H=>aresults tabs.ty H tm Try.f72.results.toList fun v=>some (v,H)):=by
 refine LoopsOk.seq ?_ ?_
 ·exact loops_none (by kernel_rfl)
 ·refine LoopsOk.seq ?_ ?_
  ·exact loops_none (by kernel_rfl)
  ·refine LoopsOk.seq ?_ ?_
   ·exact loops_none (by kernel_rfl)
   ·refine LoopsOk.seq ?_ ?_
    ·refine LoopsOk.seq ?_ ?_
     ·exact loops_none (by kernel_rfl)
     ·refine LoopsOk.block ?_
      refine LoopsOk.loop (fun tm H=>?_) (fun k61 tm H r h0=>?_) (fun k61=>?_)
      ·refine none_of fun r h0=>?_
       obtain ⟨eB,cz,cF,jF,gp,fU,hks,e2,e7,e8,e9,e19,e20,h⟩:=aR.lh61_inv (show aR.lh61 F aB aV fo [] 0 tm H = some r from h0)
       cases h
      ·obtain ⟨eB,cz,cF,jF,gp,fU,hks,e2,e7,e8,e9,e19,e20,h⟩:=aR.lh61_inv (show aR.lh61 F aB aV fo [] (k61 + 1) tm H = some r from h0)
       have q0:(Tm.put tm 2 (.int .i64 eB)) = tm:=by exact Tm.put_same e2
       have q1:(Tm.put (Tm.put tm 2 (.int .i64 eB)) 7 (.sl cz)) = tm:=by rw [q0]; exact Tm.put_same e7
       have q2:(Tm.put (Tm.put (Tm.put tm 2 (.int .i64 eB)) 7 (.sl cz)) 8 (.sl cF)) = tm:=by rw [q1]; exact Tm.put_same e8
       have q3:(Tm.put (Tm.put (Tm.put (Tm.put tm 2 (.int .i64 eB)) 7 (.sl cz)) 8 (.sl cF)) 9 (.sl jF)) = tm:=by rw [q2]; exact Tm.put_same e9
       have q4:(Tm.put (Tm.put (Tm.put (Tm.put (Tm.put tm 2 (.int .i64 eB)) 7 (.sl cz)) 8 (.sl cF)) 9 (.sl jF)) 19 (.int .i64 gp)) = tm:=by rw [q3]; exact Tm.put_same e19
       have q5:(Tm.put (Tm.put (Tm.put (Tm.put (Tm.put (Tm.put tm 2 (.int .i64 eB)) 7 (.sl cz)) 8 (.sl cF)) 9 (.sl jF)) 19 (.int .i64 gp)) 20 (.int .i64 fU)) = tm:=by rw [q4]; exact Tm.put_same e20
       rw [← q5]
       exact Eq.trans (by kernel_rfl) h
      ·exact loops_none (by kernel_rfl)
    ·exact loops_none (by kernel_rfl)
theorem aR.eqX (F:Nat) (aB:Sl→Int→Sl→Sl→Hp→OA) (aV:Sl→Int→Sl→Sl→Hp→OA) (fo:Bool→Hp→OA) (aa:Sl) (ab:Int) (ah:Sl) (av:Sl) (bH:Int) (H:Hp):aCode tabs (mkOrc (aR.cs F aB aV fo)) aR.pn (aR.lh F aB aV fo) F [] 1 aR.code (argTm [(.agg [(.sl aa),(.int .i64 ab)]),(.agg [(.sl ah),(.sl av)]),(.int .i64 bH)]) H (fun tm H=>aresults tabs.ty H tm Try.f72.results.toList fun v=>some (v,H)) (fun _ _ _=>none) (fun tm H=>aresults tabs.ty H tm Try.f72.results.toList fun v=>some (v,H)) = aR.twX F aB aV fo aa ab ah av bH H:=by kernel_rfl
theorem aR.cs_ok (F:Nat):∀ p ∈ aR.cs F (au.tw F) (aj.tw F) (cd.tw F),∀ args H v H',p.2 args H = some (v,H')→Go.AE.T Try.prog p.1 args H v H':=by
 intro p hp
 simp only [aR.cs,List.mem_cons,List.not_mem_nil,or_false] at hp
 rcases hp with rfl | rfl | rfl
 ·exact fun args H v H' h=>au.mk_T h
 ·exact fun args H v H' h=>aj.mk_T h
 ·exact fun args H v H' h=>cd.mk_T h
theorem aR.ok:codeOk aR.pn Try.f72.ntmps aR.tb aR.code = true:=by kernel_rfl
theorem aR.T {F:Nat} {aa:Sl} {ab:Int} {ah:Sl} {av:Sl} {bH:Int} {H:Hp} {v:AV} {H':Hp} (h:aR.tw F aa ab ah av bH H = some (v,H')):Go.AE.T Try.prog 72 [(.agg [(.sl aa),(.int .i64 ab)]),(.agg [(.sl ah),(.sl av)]),(.int .i64 bH)] H v H':=
 Go.AE.T.of (Y:=tabs) (C:=mkOrc (aR.cs F (au.tw F) (aj.tw F) (cd.tw F))) (PN:=aR.pn) (LH:=aR.lh F (au.tw F) (aj.tw F) (cd.tw F)) (F:=F) (TB:=aR.tb) (fn:=Try.f72) (code:=aR.code) mixed tabs_ok (mkOrc_ok (aR.cs_ok F)) Try.func72 (by kernel_rfl) (by kernel_rfl) aR.ok (Nat.le_of_ble_eq_true (by kernel_rfl)) (aR.loops F (au.tw F) (aj.tw F) (cd.tw F)) (Eq.trans (aR.eqX F (au.tw F) (aj.tw F) (cd.tw F) aa ab ah av bH H) h)
theorem aR.mk_T {F:Nat} {args:List AV} {H:Hp} {v:AV} {H':Hp} (h:aR.mk (aR.tw F) args H = some (v,H')):Go.AE.T Try.prog 72 args H v H':=by
 unfold aR.mk at h
 split at h
 ·exact aR.T h
 ·cases h
noncomputable def bO.twX (F:Nat) (aa:Int) (ab:Int) (ay:Sl) (av:Int) (bH:Int) (H:Hp):OA:=(Hp.new H [(.int .i64 aa),(.int .i64 ab),(.sl ay)]).bind fun H6=>(Hp.ldSl H6 H.length 2).bind fun s7=>(Hp.ldI H6 .i64 H.length 1).bind fun n8=>(Sl.idx s7 (IntKind.i64.wrap ((IntKind.i64.wrap (av * n8)) + bH)) 1).bind fun p9=>some ((.ptr p9.1 p9.2),H6)
noncomputable def bO.tw (F:Nat) (aa:Int) (ab:Int) (ay:Sl) (av:Int) (bH:Int) (H:Hp):OA:=bO.twX F aa ab ay av bH H
noncomputable def bO.code:Go.Code:=(Try.f134.body).getD .skip
noncomputable def bO.lh (F:Nat) (p:Nat) (ks:List Nat) (n:Nat) (tm:Tm) (H:Hp):OA:=none
def bO.pn:Nat→List Nat:=fun i=>(([]:List (Nat×List Nat)).lookup i).getD []
def bO.tb:Nat→List (List Nat):=fun i=>(([]:List (Nat×List (List Nat))).lookup i).getD []
noncomputable def bO.mk (g:Int→Int→Sl→Int→Int→Hp→OA) (args:List AV) (H:Hp):OA:=match args with
 | [(.agg [(.int .i64 aa),(.int .i64 ab),(.sl ay)]),(.int .i64 av),(.int .i64 bH)]=>g aa ab ay av bH H
 | _=>none
noncomputable def bO.cs (F:Nat):List (FuncId×(List AV→Hp→OA)):=[]
theorem bO.loops (F:Nat):LoopsOk tabs (mkOrc (bO.cs F)) bO.pn (bO.lh F) F [] 1 bO.code (fun tm H=>aresults tabs.ty H tm Try.f134.results.toList fun v=>some (v,H)) (fun _ _ _=>none) (fun tm H=>aresults tabs.ty H tm Try.f134.results.toList fun v=>some (v,H)):=by
 exact loops_none (by kernel_rfl)
theorem bO.eqX (F:Nat) (aa:Int) (ab:Int) (ay:Sl) (av:Int) (bH:Int) (H:Hp):aCode tabs (mkOrc (bO.cs F)) bO.pn (bO.lh F) F [] 1 bO.code (argTm [(.agg [(.int .i64 aa),(.int .i64 ab),(.sl ay)]),(.int .i64 av),(.int .i64 bH)]) H (fun tm H=>aresults tabs.ty H tm Try.f134.results.toList fun v=>some (v,H)) (fun _ _ _=>none) (fun tm H=>aresults tabs.ty H tm Try.f134.results.toList fun v=>some (v,H)) = bO.twX F aa ab ay av bH H:=by kernel_rfl
theorem bO.cs_ok (F:Nat):∀ p ∈ bO.cs F,∀ args H v H',p.2 args H = some (v,H')→Go.AE.T Try.prog p.1 args H v H':=by
 intro p hp
 exact absurd (show p ∈ [] from hp) List.not_mem_nil
theorem bO.ok:codeOk bO.pn Try.f134.ntmps bO.tb bO.code = true:=by kernel_rfl
theorem bO.T {F:Nat} {aa:Int} {ab:Int} {ay:Sl} {av:Int} {bH:Int} {H:Hp} {v:AV} {H':Hp} (h:bO.tw F aa ab ay av bH H = some (v,H')):Go.AE.T Try.prog 134 [(.agg [(.int .i64 aa),(.int .i64 ab),(.sl ay)]),(.int .i64 av),(.int .i64 bH)] H v H':=
 Go.AE.T.of (Y:=tabs) (C:=mkOrc (bO.cs F)) (PN:=bO.pn) (LH:=bO.lh F) (F:=F) (TB:=bO.tb) (fn:=Try.f134) (code:=bO.code) mixed tabs_ok (mkOrc_ok (bO.cs_ok F)) Try.func134 (by kernel_rfl) (by kernel_rfl) bO.ok (Nat.le_of_ble_eq_true (by kernel_rfl)) (bO.loops F) (Eq.trans (bO.eqX F aa ab ay av bH H) h)
theorem bO.mk_T {F:Nat} {args:List AV} {H:Hp} {v:AV} {H':Hp} (h:bO.mk (bO.tw F) args H = some (v,H')):Go.AE.T Try.prog 134 args H v H':=by
 unfold bO.mk at h
 split at h
 ·exact bO.T h
 ·cases h
noncomputable def ag.j9 (F:Nat) (aB:Sl→Int→Sl→Sl→Hp→OA) (aV:Sl→Int→Sl→Sl→Hp→OA) (bB:Int→Int→Hp→OA) (bC:Sl→Int→Sl→Sl→Int→Hp→OA) (bx:Int→Int→Sl→Int→Int→Hp→OA) (C509_:Nat→Nat→Sl→Sl→Nat→Nat→Sl→Int→Int→Hp→OA) (wJ:Nat) (XD:Nat) (XE:Sl) (XF:Sl) (wK:Nat) (XG:Nat) (XH:Sl) (pu:Int) (pv:Int) (H561:Hp):OA:=C509_ wJ XD XE XF wK XG XH pu (IntKind.i64.wrap (pv + 1)) H561
noncomputable def ag.j11 (F:Nat) (aB:Sl→Int→Sl→Sl→Hp→OA) (aV:Sl→Int→Sl→Sl→Hp→OA) (bB:Int→Int→Hp→OA) (bC:Sl→Int→Sl→Sl→Int→Hp→OA) (bx:Int→Int→Sl→Int→Int→Hp→OA) (C509_:Nat→Nat→Sl→Sl→Nat→Nat→Sl→Int→Int→Hp→OA) (wL:Nat) (XI:Nat) (XJ:Sl) (XK:Sl) (wM:Nat) (XL:Nat) (XM:Sl) (pw:Int) (px:Int) (H781:Hp):OA:=C509_ wL XI XJ XK wM XL XM pw (IntKind.i64.wrap (px + 1)) H781
noncomputable def ag.j12 (F:Nat) (aB:Sl→Int→Sl→Sl→Hp→OA) (aV:Sl→Int→Sl→Sl→Hp→OA) (bB:Int→Int→Hp→OA) (bC:Sl→Int→Sl→Sl→Int→Hp→OA) (bx:Int→Int→Sl→Int→Int→Hp→OA) (C509_:Nat→Nat→Sl→Sl→Nat→Nat→Sl→Int→Int→Hp→OA) (wN:Nat) (XN:Nat) (XO:Sl) (XP:Sl) (wO:Nat) (XQ:Nat) (XR:Sl) (py:Int) (pz:Int) (H743:Hp):OA:=ag.j11 F aB aV bB bC bx C509_ wN XN XO XP wO XQ XR py pz H743
noncomputable def ag.j13 (F:Nat) (aB:Sl→Int→Sl→Sl→Hp→OA) (aV:Sl→Int→Sl→Sl→Hp→OA) (bB:Int→Int→Hp→OA) (bC:Sl→Int→Sl→Sl→Int→Hp→OA) (bx:Int→Int→Sl→Int→Int→Hp→OA) (C509_:Nat→Nat→Sl→Sl→Nat→Nat→Sl→Int→Int→Hp→OA) (pA:Nat) (Dv:Nat) (Dw:Sl) (Dx:Sl) (jG:Nat) (lp:Nat) (mC:Int) (kX:Int) (kY:Int) (Dy:Sl) (kZ:Int) (k_:Int) (H691:Hp):OA:=(bif (decide (kX ≥ 0)) then ((bif (decide (kY ≥ 0)) then ((Hp.ldI H691 .i64 jG lp).bind fun n692=>(Hp.ldI H691 .i64 jG (lp + 1)).bind fun n693=>(Hp.ldSl H691 jG (lp + 2)).bind fun s694=>(bx n692 n693 s694 kX kY H691).bind fun r695=>((r695.1).asP).bind fun p696=>(Hp.ldI r695.2 .i64 p696.1 p696.2).bind fun n697=>(Hp.st r695.2 p696.1 p696.2 (.int .i64 (IntKind.i64.wrap (n697 - mC)))).bind fun H698=>(Hp.ldI H698 .i64 jG lp).bind fun n699=>(Hp.ldI H698 .i64 jG (lp + 1)).bind fun n700=>(Hp.ldSl H698 jG (lp + 2)).bind fun s701=>(bx n699 n700 s701 kY kX H698).bind fun r702=>((r702.1).asP).bind fun p703=>(Hp.ldI r702.2 .i64 p703.1 p703.2).bind fun n704=>(Hp.st r702.2 p703.1 p703.2 (.int .i64 (IntKind.i64.wrap (n704 - mC)))).bind fun H705=>ag.j12 F aB aV bB bC bx C509_ pA Dv Dw Dx jG lp Dy kZ k_ H705) else (ag.j12 F aB aV bB bC bx C509_ pA Dv Dw Dx jG lp Dy kZ k_ H691))) else (ag.j11 F aB aV bB bC bx C509_ pA Dv Dw Dx jG lp Dy kZ k_ H691))
noncomputable def ag.j14 (F:Nat) (aB:Sl→Int→Sl→Sl→Hp→OA) (aV:Sl→Int→Sl→Sl→Hp→OA) (bB:Int→Int→Hp→OA) (bC:Sl→Int→Sl→Sl→Int→Hp→OA) (bx:Int→Int→Sl→Int→Int→Hp→OA) (C1043325_:Nat→Nat→Sl→Sl→Nat→Nat→Sl→Int→Int→Int→Int→Int→Sl→Int→Int→Hp→OA) (wP:Nat) (XS:Nat) (XT:Sl) (XU:Sl) (wQ:Nat) (XV:Nat) (pB:Int) (pD:Int) (pE:Int) (XW:Sl) (pF:Int) (pG:Int) (XX:Sl) (pH:Int) (pI:Int) (H837:Hp):OA:=C1043325_ wP XS XT XU wQ XV XW pF pG pB pD pE XX pH (IntKind.i64.wrap (pI + 1)) H837
noncomputable def ag.l1043325 (F:Nat) (aB:Sl→Int→Sl→Sl→Hp→OA) (aV:Sl→Int→Sl→Sl→Hp→OA) (bB:Int→Int→Hp→OA) (bC:Sl→Int→Sl→Sl→Int→Hp→OA) (bx:Int→Int→Sl→Int→Int→Hp→OA) (C509_:Nat→Nat→Sl→Sl→Nat→Nat→Sl→Int→Int→Hp→OA):Nat→Nat→Nat→Sl→Sl→Nat→Nat→Sl→Int→Int→Int→Int→Int→Sl→Int→Int→Hp→OA
 | 0,_,_,_,_,_,_,_,_,_,_,_,_,_,_,_,_=>none
 | IL + 1,dq,eC,fp,fG,dr,eD,ic,ed,eE,db,dz,dH,jk,fH,fq,H598=>(bif (decide (fq < fH)) then ((Sl.idx jk fq 2).bind fun p782=>(Hp.ldI H598 .i64 p782.1 p782.2).bind fun n783=>(Hp.ldI H598 .i64 p782.1 (p782.2 + 1)).bind fun n784=>(Hp.new H598 [.int .i64 0,.int .i64 0]).bind fun H785=>(Hp.st H785 H598.length 0 (.int .i64 n783)).bind fun H786=>(Hp.st H786 H598.length (0 + 1) (.int .i64 n784)).bind fun H787=>(Hp.ldI H787 .i64 H598.length 0).bind fun n788=>(bif (decide (n788 ≥ 0)) then ((Hp.ldI H787 .i64 dr eD).bind fun n789=>(Hp.ldI H787 .i64 dr (eD + 1)).bind fun n790=>(Hp.ldSl H787 dr (eD + 2)).bind fun s791=>(Hp.ldI H787 .i64 H598.length 0).bind fun n792=>(Hp.ldI H787 .i64 H598.length 1).bind fun n793=>(bx n789 n790 s791 n792 n793 H787).bind fun r794=>((r794.1).asP).bind fun p795=>(Hp.ldI r794.2 .i64 p795.1 p795.2).bind fun n796=>(Hp.st r794.2 p795.1 p795.2 (.int .i64 (IntKind.i64.wrap (n796 + db)))).bind fun H797=>ag.j14 F aB aV bB bC bx (ag.l1043325 F aB aV bB bC bx C509_ IL) dq eC fp fG dr eD db dz dH ic ed eE jk fH fq H797) else (ag.j14 F aB aV bB bC bx (ag.l1043325 F aB aV bB bC bx C509_ IL) dq eC fp fG dr eD db dz dH ic ed eE jk fH fq H787))) else (ag.j13 F aB aV bB bC bx C509_ dq eC fp fG dr eD db dz dH ic ed eE H598))
termination_by structural n=>n
noncomputable def ag.j15 (F:Nat) (aB:Sl→Int→Sl→Sl→Hp→OA) (aV:Sl→Int→Sl→Sl→Hp→OA) (bB:Int→Int→Hp→OA) (bC:Sl→Int→Sl→Sl→Int→Hp→OA) (bx:Int→Int→Sl→Int→Int→Hp→OA) (C509_:Nat→Nat→Sl→Sl→Nat→Nat→Sl→Int→Int→Hp→OA) (qz:Nat) (IM:Nat) (wR:Sl) (wS:Sl) (qA:Nat) (IN:Nat) (pJ:Int) (mD:Int) (IP:Sl) (mE:Int) (mF:Int) (H520:Hp):OA:=(Sl.idx wR mD 1).bind fun p521=>(Hp.ldI H520 .i64 p521.1 p521.2).bind fun n522=>(Sl.idx wS n522 1).bind fun p523=>(Hp.ldI H520 .i64 p523.1 p523.2).bind fun n524=>(Sl.idx wR (IntKind.i64.wrap (mD + 2)) 1).bind fun p525=>(Hp.ldI H520 .i64 p525.1 p525.2).bind fun n526=>(Sl.idx wS n526 1).bind fun p527=>(Hp.ldI H520 .i64 p527.1 p527.2).bind fun n528=>(bif (n524 == n528) then (ag.j9 F aB aV bB bC bx C509_ qz IM wR wS qA IN IP mE mF H520) else ((Hp.new H520 [(.int .i64 n524),(.int .i64 n524),(.int .i64 n528),(.int .i64 n528)]).bind fun H562=>ag.l1043325 F aB aV bB bC bx C509_ F qz IM wR wS qA IN IP mE mF pJ n524 n528 (⟨some (H520.length,0),2,.ex 2⟩:Sl) ((⟨some (H520.length,0),2,.ex 2⟩:Sl).n:Int) 0 H562))
noncomputable def ag.l509 (F:Nat) (aB:Sl→Int→Sl→Sl→Hp→OA) (aV:Sl→Int→Sl→Sl→Hp→OA) (bB:Int→Int→Hp→OA) (bC:Sl→Int→Sl→Sl→Int→Hp→OA) (bx:Int→Int→Sl→Int→Int→Hp→OA) :Nat→Nat→Nat→Sl→Sl→Nat→Nat→Sl→Int→Int→Hp→OA
 | 0,_,_,_,_,_,_,_,_,_,_=>none
 | cS + 1,dA,ft,iy,iS,fI,ie,jl,fJ,dI,H130=>(bif (decide (dI < fJ)) then ((Sl.idx jl dI 1).bind fun p489=>(Hp.ldI H130 .i64 p489.1 p489.2).bind fun n490=>(bif (decide (n490 < 0)) then (ag.j15 F aB aV bB bC bx (ag.l509 F aB aV bB bC bx cS) dA ft iy iS fI ie n490 (IntKind.i64.wrap ((IntKind.i64.wrap (4 * dI)) + 1)) jl fJ dI H130) else (ag.j15 F aB aV bB bC bx (ag.l509 F aB aV bB bC bx cS) dA ft iy iS fI ie n490 (IntKind.i64.wrap (4 * dI)) jl fJ dI H130))) else ((Hp.ldI H130 .i64 fI ie).bind fun n838=>(Hp.ldI H130 .i64 fI (ie + 1)).bind fun n839=>(Hp.ldSl H130 fI (ie + 2)).bind fun s840=>(Hp.st H130 dA ft (.int .i64 n838)).bind fun H841=>(Hp.st H841 dA (ft + 1) (.int .i64 n839)).bind fun H842=>(Hp.st H842 dA (ft + 1 + 1) (.sl s840)).bind fun H843=>(Hp.ldI H843 .i64 dA ft).bind fun n844=>(Hp.ldI H843 .i64 dA (ft + 1)).bind fun n845=>(Hp.ldSl H843 dA (ft + 2)).bind fun s846=>some ((.agg [(.int .i64 n844),(.int .i64 n845),(.sl s846)]),H843)))
termination_by structural n=>n
noncomputable def ag.j16 (F:Nat) (aB:Sl→Int→Sl→Sl→Hp→OA) (aV:Sl→Int→Sl→Sl→Hp→OA) (bB:Int→Int→Hp→OA) (bC:Sl→Int→Sl→Sl→Int→Hp→OA) (bx:Int→Int→Sl→Int→Int→Hp→OA) (pK:Int) (qB:Nat) (IQ:Nat) (qC:Nat) (IR:Nat) (wT:Nat) (XY:Nat) (XZ:Sl) (X_:Sl) (mG:Int) (H87:Hp):OA:=(bB mG mG H87).bind fun r88=>((r88.1).asAgg 3).bind fun l89=>(l89[0]?).bind fun v90=>((v90).asI .i64).bind fun n91=>(l89[1]?).bind fun v92=>((v92).asI .i64).bind fun n93=>(l89[2]?).bind fun v94=>((v94).asSl).bind fun s95=>(Hp.new r88.2 [.int .i64 0,.int .i64 0,.sl ⟨none,0,.ex 0⟩]).bind fun H96=>(Hp.st H96 r88.2.length 0 (.int .i64 n91)).bind fun H97=>(Hp.st H97 r88.2.length (0 + 1) (.int .i64 n93)).bind fun H98=>(Hp.st H98 r88.2.length (0 + 1 + 1) (.sl s95)).bind fun H99=>(Hp.ldSl H99 qB IQ).bind fun s100=>(Hp.ldI H99 .i64 qB (IQ + 1)).bind fun n101=>(Hp.ldSl H99 qC IR).bind fun s102=>(Hp.ldSl H99 qC (IR + 1)).bind fun s103=>(bC s100 n101 s102 s103 pK H99).bind fun r104=>((r104.1).asSl).bind fun s105=>ag.l509 F aB aV bB bC bx F wT XY XZ X_ r88.2.length 0 s105 (s105.n:Int) 0 r104.2
noncomputable def ag.j17 (F:Nat) (aB:Sl→Int→Sl→Sl→Hp→OA) (aV:Sl→Int→Sl→Sl→Hp→OA) (bB:Int→Int→Hp→OA) (bC:Sl→Int→Sl→Sl→Int→Hp→OA) (bx:Int→Int→Sl→Int→Int→Hp→OA) (C125_:Int→Nat→Nat→Nat→Nat→Nat→Nat→Sl→Sl→Int→Sl→Int→Int→Hp→OA) (pL:Int) (wU:Nat) (Ya:Nat) (wV:Nat) (Yb:Nat) (wW:Nat) (Yc:Nat) (Yd:Sl) (Ye:Sl) (pM:Int) (Yf:Sl) (pN:Int) (pO:Int) (H873:Hp):OA:=C125_ pL wU Ya wV Yb wW Yc Yd Ye pM Yf pN (IntKind.i64.wrap (pO + 1)) H873
noncomputable def ag.l125 (F:Nat) (aB:Sl→Int→Sl→Sl→Hp→OA) (aV:Sl→Int→Sl→Sl→Hp→OA) (bB:Int→Int→Hp→OA) (bC:Sl→Int→Sl→Sl→Int→Hp→OA) (bx:Int→Int→Sl→Int→Int→Hp→OA) :Nat→Int→Nat→Nat→Nat→Nat→Nat→Nat→Sl→Sl→Int→Sl→Int→Int→Hp→OA
 | 0,_,_,_,_,_,_,_,_,_,_,_,_,_,_=>none
 | ny + 1,cV,ee,gq,eF,gL,fu,hG,ig,ii,dR,jm,fK,ef,H40=>(bif (decide (ef < fK)) then ((Sl.idx jm ef 1).bind fun p847=>(Hp.ldI H40 .i64 p847.1 p847.2).bind fun n848=>(bif (n848 != cV) then ((Sl.idx ii ef 1).bind fun p849=>(Hp.st H40 p849.1 p849.2 (.int .i64 dR)).bind fun H850=>ag.j17 F aB aV bB bC bx (ag.l125 F aB aV bB bC bx ny) cV ee gq eF gL fu hG ig ii (IntKind.i64.wrap (dR + 1)) jm fK ef H850) else (ag.j17 F aB aV bB bC bx (ag.l125 F aB aV bB bC bx ny) cV ee gq eF gL fu hG ig ii dR jm fK ef H40))) else (ag.j16 F aB aV bB bC bx cV ee gq eF gL fu hG ig ii dR H40))
termination_by structural n=>n
noncomputable def ag.twX (F:Nat) (aB:Sl→Int→Sl→Sl→Hp→OA) (aV:Sl→Int→Sl→Sl→Hp→OA) (bB:Int→Int→Hp→OA) (bC:Sl→Int→Sl→Sl→Int→Hp→OA) (bx:Int→Int→Sl→Int→Int→Hp→OA) (aa:Sl) (ab:Int) (ah:Sl) (av:Sl) (bH:Int) (H:Hp):OA:=(Hp.new H [(.sl aa),(.int .i64 ab)]).bind fun H6=>(Hp.new H6 [(.sl ah),(.sl av)]).bind fun H7=>(Hp.new H7 [.int .i64 0,.int .i64 0,.sl ⟨none,0,.ex 0⟩]).bind fun H8=>(Hp.ldSl H8 H.length 0).bind fun s9=>(Hp.ldI H8 .i64 H.length (0 + 1)).bind fun n10=>(Hp.ldSl H8 H6.length 0).bind fun s11=>(Hp.ldSl H8 H6.length (0 + 1)).bind fun s12=>(aB s9 n10 s11 s12 H8).bind fun r13=>((r13.1).asSl).bind fun s14=>(if Cons H8 r13.2 then ((Hp.ldSl r13.2 H.length 0).bind fun s15=>(Hp.ldI r13.2 .i64 H.length (0 + 1)).bind fun n16=>(Hp.ldSl r13.2 H6.length 0).bind fun s17=>(Hp.ldSl r13.2 H6.length (0 + 1)).bind fun s18=>(aV s15 n16 s17 s18 r13.2).bind fun r19=>((r19.1).asSl).bind fun s20=>(Hp.mk r19.2 [.int .i64 0] 8 (s20.n:Int) (s20.n:Int)).bind fun m21=>ag.l125 F aB aV bB bC bx F bH H.length 0 H6.length 0 H7.length 0 s14 m21.1 (-1) s20 (s20.n:Int) 0 m21.2) else none)
noncomputable def ag.tw (F:Nat) (aa:Sl) (ab:Int) (ah:Sl) (av:Sl) (bH:Int) (H:Hp):OA:=ag.twX F (au.tw F) (aj.tw F) (bw.tw F) (aR.tw F) (bO.tw F) aa ab ah av bH H
noncomputable def ag.code:Go.Code:=(Try.f100.body).getD .skip
noncomputable def ag.lh125 (F:Nat) (aB:Sl→Int→Sl→Sl→Hp→OA) (aV:Sl→Int→Sl→Sl→Hp→OA) (bB:Int→Int→Hp→OA) (bC:Sl→Int→Sl→Sl→Int→Hp→OA) (bx:Int→Int→Sl→Int→Int→Hp→OA) (ks:List Nat) (n:Nat) (tm:Tm) (H:Hp):OA:=match ks,tm 2,tm 3,tm 4,tm 6,tm 7,tm 9,tm 10,tm 30,tm 31,tm 32 with
 | [],(.int .i64 cV),(.ptr ee gq),(.ptr eF gL),(.ptr fu hG),(.sl ig),(.sl ii),(.int .i64 dR),(.sl jm),(.int .i64 fK),(.int .i64 ef)=>ag.l125 F aB aV bB bC bx n cV ee gq eF gL fu hG ig ii dR jm fK ef H
 | _,_,_,_,_,_,_,_,_,_,_=>none
theorem ag.lh125_inv {F:Nat} {aB:Sl→Int→Sl→Sl→Hp→OA} {aV:Sl→Int→Sl→Sl→Hp→OA} {bB:Int→Int→Hp→OA} {bC:Sl→Int→Sl→Sl→Int→Hp→OA} {bx:Int→Int→Sl→Int→Int→Hp→OA} {ks:List Nat} {n:Nat} {tm:Tm} {H:Hp} {r:AV×Hp} (h:ag.lh125 F aB aV bB bC bx ks n tm H = some r):∃ cV:Int,∃ ee:Nat,∃ gq:Nat,∃ eF:Nat,∃ gL:Nat,∃ fu:Nat,∃ hG:Nat,∃ ig:Sl,∃ ii:Sl,∃ dR:Int,∃ jm:Sl,∃ fK:Int,∃ ef:Int,ks = []∧tm 2 = (.int .i64 cV)∧tm 3 = (.ptr ee gq)∧tm 4 = (.ptr eF gL)∧tm 6 = (.ptr fu hG)∧tm 7 = (.sl ig)∧tm 9 = (.sl ii)∧tm 10 = (.int .i64 dR)∧tm 30 = (.sl jm)∧tm 31 = (.int .i64 fK)∧tm 32 = (.int .i64 ef)∧ag.l125 F aB aV bB bC bx n cV ee gq eF gL fu hG ig ii dR jm fK ef H = some r:=by
 unfold ag.lh125 at h
 split at h
 ·exact ⟨_,_,_,_,_,_,_,_,_,_,_,_,_,rfl,by assumption,by assumption,by assumption,by assumption,by assumption,by assumption,by assumption,by assumption,by assumption,by assumption,h⟩
 ·cases h
noncomputable def ag.lh509 (F:Nat) (aB:Sl→Int→Sl→Sl→Hp→OA) (aV:Sl→Int→Sl→Sl→Hp→OA) (bB:Int→Int→Hp→OA) (bC:Sl→Int→Sl→Sl→Int→Hp→OA) (bx:Int→Int→Sl→Int→Int→Hp→OA) (ks:List Nat) (n:Nat) (tm:Tm) (H:Hp):OA:=match ks,tm 6,tm 7,tm 9,tm 13,tm 53,tm 54,tm 55 with
 | [],(.ptr dA ft),(.sl iy),(.sl iS),(.ptr fI ie),(.sl jl),(.int .i64 fJ),(.int .i64 dI)=>ag.l509 F aB aV bB bC bx n dA ft iy iS fI ie jl fJ dI H
 | _,_,_,_,_,_,_,_=>none
theorem ag.lh509_inv {F:Nat} {aB:Sl→Int→Sl→Sl→Hp→OA} {aV:Sl→Int→Sl→Sl→Hp→OA} {bB:Int→Int→Hp→OA} {bC:Sl→Int→Sl→Sl→Int→Hp→OA} {bx:Int→Int→Sl→Int→Int→Hp→OA} {ks:List Nat} {n:Nat} {tm:Tm} {H:Hp} {r:AV×Hp} (h:ag.lh509 F aB aV bB bC bx ks n tm H = some r):∃ dA:Nat,∃ ft:Nat,∃ iy:Sl,∃ iS:Sl,∃ fI:Nat,∃ ie:Nat,∃ jl:Sl,∃ fJ:Int,∃ dI:Int,ks = []∧tm 6 = (.ptr dA ft)∧tm 7 = (.sl iy)∧tm 9 = (.sl iS)∧tm 13 = (.ptr fI ie)∧tm 53 = (.sl jl)∧tm 54 = (.int .i64 fJ)∧tm 55 = (.int .i64 dI)∧ag.l509 F aB aV bB bC bx n dA ft iy iS fI ie jl fJ dI H = some r:=by
 unfold ag.lh509 at h
 split at h
 ·exact ⟨_,_,_,_,_,_,_,_,_,rfl,by assumption,by assumption,by assumption,by assumption,by assumption,by assumption,by assumption,h⟩
 ·cases h
noncomputable def ag.lh1043325 (F:Nat) (aB:Sl→Int→Sl→Sl→Hp→OA) (aV:Sl→Int→Sl→Sl→Hp→OA) (bB:Int→Int→Hp→OA) (bC:Sl→Int→Sl→Sl→Int→Hp→OA) (bx:Int→Int→Sl→Int→Int→Hp→OA) (ks:List Nat) (n:Nat) (tm:Tm) (H:Hp):OA:=match ks,tm 6,tm 7,tm 9,tm 13,tm 15,tm 17,tm 18,tm 53,tm 54,tm 55,tm 90,tm 91,tm 92 with
 | [cS],(.ptr dq eC),(.sl fp),(.sl fG),(.ptr dr eD),(.int .i64 db),(.int .i64 dz),(.int .i64 dH),(.sl ic),(.int .i64 ed),(.int .i64 eE),(.sl jk),(.int .i64 fH),(.int .i64 fq)=>ag.l1043325 F aB aV bB bC bx (ag.l509 F aB aV bB bC bx cS) n dq eC fp fG dr eD ic ed eE db dz dH jk fH fq H
 | _,_,_,_,_,_,_,_,_,_,_,_,_,_=>none
theorem ag.lh1043325_inv {F:Nat} {aB:Sl→Int→Sl→Sl→Hp→OA} {aV:Sl→Int→Sl→Sl→Hp→OA} {bB:Int→Int→Hp→OA} {bC:Sl→Int→Sl→Sl→Int→Hp→OA} {bx:Int→Int→Sl→Int→Int→Hp→OA} {ks:List Nat} {n:Nat} {tm:Tm} {H:Hp} {r:AV×Hp} (h:ag.lh1043325 F aB aV bB bC bx ks n tm H = some r):∃ cS:Nat,∃ dq:Nat,∃ eC:Nat,∃ fp:Sl,∃ fG:Sl,∃ dr:Nat,∃ eD:Nat,∃ db:Int,∃ dz:Int,∃ dH:Int,∃ ic:Sl,∃ ed:Int,∃ eE:Int,∃ jk:Sl,∃ fH:Int,∃ fq:Int,ks = [cS]∧tm 6 = (.ptr dq eC)∧tm 7 = (.sl fp)∧tm 9 = (.sl fG)∧tm 13 = (.ptr dr eD)∧tm 15 = (.int .i64 db)∧tm 17 = (.int .i64 dz)∧tm 18 = (.int .i64 dH)∧tm 53 = (.sl ic)∧tm 54 = (.int .i64 ed)∧tm 55 = (.int .i64 eE)∧tm 90 = (.sl jk)∧tm 91 = (.int .i64 fH)∧tm 92 = (.int .i64 fq)∧ag.l1043325 F aB aV bB bC bx (ag.l509 F aB aV bB bC bx cS) n dq eC fp fG dr eD ic ed eE db dz dH jk fH fq H = some r:=by
 unfold ag.lh1043325 at h
 split at h
 ·exact ⟨_,_,_,_,_,_,_,_,_,_,_,_,_,_,_,_,rfl,by assumption,by assumption,by assumption,by assumption,by assumption,by assumption,by assumption,by assumption,by assumption,by assumption,by assumption,by assumption,by assumption,h⟩
 ·cases h
noncomputable def ag.lh (F:Nat) (aB:Sl→Int→Sl→Sl→Hp→OA) (aV:Sl→Int→Sl→Sl→Hp→OA) (bB:Int→Int→Hp→OA) (bC:Sl→Int→Sl→Sl→Int→Hp→OA) (bx:Int→Int→Sl→Int→Int→Hp→OA) (p:Nat) (ks:List Nat) (n:Nat) (tm:Tm) (H:Hp):OA:=bif p.beq 1043325 then ag.lh1043325 F aB aV bB bC bx ks n tm H else (bif p.beq 509 then ag.lh509 F aB aV bB bC bx ks n tm H else (bif p.beq 125 then ag.lh125 F aB aV bB bC bx ks n tm H else (none)))
def ag.pn:Nat→List Nat:=fun i=>(([(1,[5]),(18,[])]:List (Nat×List Nat)).lookup i).getD []
def ag.tb:Nat→List (List Nat):=fun i=>(([(1,[[],[],[0,1],[],[],[0,1,2,3,4],[0,1,2,3,4,5],[0,1,2,3,4,5,6]]),(18,[[],[],[],[1,2],[1,2,3],[0,1,2,3,4],[0,1,2,3,4,5],[],[],[],[9],[8,9,10],[8,9,10,11],[7,8,9,10,11,12],[7,8,9,10,11,12,13],[0,1,2,3,4,5,6],[0,1,2,3,4,5,6,7,8,9,10,11,12,13,14,15]])]:List (Nat×List (List Nat))).lookup i).getD []
noncomputable def ag.mk (g:Sl→Int→Sl→Sl→Int→Hp→OA) (args:List AV) (H:Hp):OA:=match args with
 | [(.agg [(.sl aa),(.int .i64 ab)]),(.agg [(.sl ah),(.sl av)]),(.int .i64 bH)]=>g aa ab ah av bH H
 | _=>none
noncomputable def ag.cs (F:Nat) (aB:Sl→Int→Sl→Sl→Hp→OA) (aV:Sl→Int→Sl→Sl→Hp→OA) (bB:Int→Int→Hp→OA) (bC:Sl→Int→Sl→Sl→Int→Hp→OA) (bx:Int→Int→Sl→Int→Int→Hp→OA):List (FuncId×(List AV→Hp→OA)):=[(127,au.mk aB),(73,aj.mk aV),(133,bw.mk bB),(72,aR.mk bC),(134,bO.mk bx)]
theorem ag.loops (F:Nat) (aB:Sl→Int→Sl→Sl→Hp→OA) (aV:Sl→Int→Sl→Sl→Hp→OA) (bB:Int→Int→Hp→OA) (bC:Sl→Int→Sl→Sl→Int→Hp→OA) (bx:Int→Int→Sl→Int→Int→Hp→OA):LoopsOk tabs (mkOrc (ag.cs F aB aV bB bC bx)) ag.pn (ag.lh F aB aV bB bC bx) F [] 1 ag.code (fun tm H=>aresults tabs.ty H tm Try.f100.results.toList fun v=>some (v,H)) (fun _ _ _=>none) (fun tm H=>aresults tabs.ty H tm Try.f100.results.toList fun v=>some (v,H)):=by
 refine LoopsOk.seq ?_ ?_
 ·exact loops_none (by kernel_rfl)
 ·refine LoopsOk.seq ?_ ?_
  ·exact loops_none (by kernel_rfl)
  ·refine LoopsOk.seq ?_ ?_
   ·exact loops_none (by kernel_rfl)
   ·refine LoopsOk.seq ?_ ?_
    ·exact loops_none (by kernel_rfl)
    ·refine LoopsOk.seq ?_ ?_
     ·refine LoopsOk.seq ?_ ?_
      ·exact loops_none (by kernel_rfl)
      ·refine LoopsOk.block ?_
       refine LoopsOk.loop (fun tm H=>?_) (fun k125 tm H r h0=>?_) (fun k125=>?_)
       ·refine none_of fun r h0=>?_
        obtain ⟨cV,ee,gq,eF,gL,fu,hG,ig,ii,dR,jm,fK,ef,hks,e2,e3,e4,e6,e7,e9,e10,e30,e31,e32,h⟩:=ag.lh125_inv (show ag.lh125 F aB aV bB bC bx [] 0 tm H = some r from h0)
        cases h
       ·obtain ⟨cV,ee,gq,eF,gL,fu,hG,ig,ii,dR,jm,fK,ef,hks,e2,e3,e4,e6,e7,e9,e10,e30,e31,e32,h⟩:=ag.lh125_inv (show ag.lh125 F aB aV bB bC bx [] (k125 + 1) tm H = some r from h0)
        have q0:(Tm.put tm 2 (.int .i64 cV)) = tm:=by exact Tm.put_same e2
        have q1:(Tm.put (Tm.put tm 2 (.int .i64 cV)) 3 (.ptr ee gq)) = tm:=by rw [q0]; exact Tm.put_same e3
        have q2:(Tm.put (Tm.put (Tm.put tm 2 (.int .i64 cV)) 3 (.ptr ee gq)) 4 (.ptr eF gL)) = tm:=by rw [q1]; exact Tm.put_same e4
        have q3:(Tm.put (Tm.put (Tm.put (Tm.put tm 2 (.int .i64 cV)) 3 (.ptr ee gq)) 4 (.ptr eF gL)) 6 (.ptr fu hG)) = tm:=by rw [q2]; exact Tm.put_same e6
        have q4:(Tm.put (Tm.put (Tm.put (Tm.put (Tm.put tm 2 (.int .i64 cV)) 3 (.ptr ee gq)) 4 (.ptr eF gL)) 6 (.ptr fu hG)) 7 (.sl ig)) = tm:=by rw [q3]; exact Tm.put_same e7
        have q5:(Tm.put (Tm.put (Tm.put (Tm.put (Tm.put (Tm.put tm 2 (.int .i64 cV)) 3 (.ptr ee gq)) 4 (.ptr eF gL)) 6 (.ptr fu hG)) 7 (.sl ig)) 9 (.sl ii)) = tm:=by rw [q4]; exact Tm.put_same e9
        have q6:(Tm.put (Tm.put (Tm.put (Tm.put (Tm.put (Tm.put (Tm.put tm 2 (.int .i64 cV)) 3 (.ptr ee gq)) 4 (.ptr eF gL)) 6 (.ptr fu hG)) 7 (.sl ig)) 9 (.sl ii)) 10 (.int .i64 dR)) = tm:=by rw [q5]; exact Tm.put_same e10
        have q7:(Tm.put (Tm.put (Tm.put (Tm.put (Tm.put (Tm.put (Tm.put (Tm.put tm 2 (.int .i64 cV)) 3 (.ptr ee gq)) 4 (.ptr eF gL)) 6 (.ptr fu hG)) 7 (.sl ig)) 9 (.sl ii)) 10 (.int .i64 dR)) 30 (.sl jm)) = tm:=by rw [q6]; exact Tm.put_same e30
        have q8:(Tm.put (Tm.put (Tm.put (Tm.put (Tm.put (Tm.put (Tm.put (Tm.put (Tm.put tm 2 (.int .i64 cV)) 3 (.ptr ee gq)) 4 (.ptr eF gL)) 6 (.ptr fu hG)) 7 (.sl ig)) 9 (.sl ii)) 10 (.int .i64 dR)) 30 (.sl jm)) 31 (.int .i64 fK)) = tm:=by rw [q7]; exact Tm.put_same e31
        have q9:(Tm.put (Tm.put (Tm.put (Tm.put (Tm.put (Tm.put (Tm.put (Tm.put (Tm.put (Tm.put tm 2 (.int .i64 cV)) 3 (.ptr ee gq)) 4 (.ptr eF gL)) 6 (.ptr fu hG)) 7 (.sl ig)) 9 (.sl ii)) 10 (.int .i64 dR)) 30 (.sl jm)) 31 (.int .i64 fK)) 32 (.int .i64 ef)) = tm:=by rw [q8]; exact Tm.put_same e32
        rw [← q9]
        exact Eq.trans (by kernel_rfl) h
       ·exact loops_none (by kernel_rfl)
     ·refine LoopsOk.seq ?_ ?_
      ·exact loops_none (by kernel_rfl)
      ·refine LoopsOk.seq ?_ ?_
       ·refine LoopsOk.seq ?_ ?_
        ·exact loops_none (by kernel_rfl)
        ·refine LoopsOk.block ?_
         refine LoopsOk.loop (fun tm H=>?_) (fun k509 tm H r h0=>?_) (fun k509=>?_)
         ·refine none_of fun r h0=>?_
          obtain ⟨dA,ft,iy,iS,fI,ie,jl,fJ,dI,hks,e6,e7,e9,e13,e53,e54,e55,h⟩:=ag.lh509_inv (show ag.lh509 F aB aV bB bC bx [] 0 tm H = some r from h0)
          cases h
         ·obtain ⟨dA,ft,iy,iS,fI,ie,jl,fJ,dI,hks,e6,e7,e9,e13,e53,e54,e55,h⟩:=ag.lh509_inv (show ag.lh509 F aB aV bB bC bx [] (k509 + 1) tm H = some r from h0)
          have q0:(Tm.put tm 6 (.ptr dA ft)) = tm:=by exact Tm.put_same e6
          have q1:(Tm.put (Tm.put tm 6 (.ptr dA ft)) 7 (.sl iy)) = tm:=by rw [q0]; exact Tm.put_same e7
          have q2:(Tm.put (Tm.put (Tm.put tm 6 (.ptr dA ft)) 7 (.sl iy)) 9 (.sl iS)) = tm:=by rw [q1]; exact Tm.put_same e9
          have q3:(Tm.put (Tm.put (Tm.put (Tm.put tm 6 (.ptr dA ft)) 7 (.sl iy)) 9 (.sl iS)) 13 (.ptr fI ie)) = tm:=by rw [q2]; exact Tm.put_same e13
          have q4:(Tm.put (Tm.put (Tm.put (Tm.put (Tm.put tm 6 (.ptr dA ft)) 7 (.sl iy)) 9 (.sl iS)) 13 (.ptr fI ie)) 53 (.sl jl)) = tm:=by rw [q3]; exact Tm.put_same e53
          have q5:(Tm.put (Tm.put (Tm.put (Tm.put (Tm.put (Tm.put tm 6 (.ptr dA ft)) 7 (.sl iy)) 9 (.sl iS)) 13 (.ptr fI ie)) 53 (.sl jl)) 54 (.int .i64 fJ)) = tm:=by rw [q4]; exact Tm.put_same e54
          have q6:(Tm.put (Tm.put (Tm.put (Tm.put (Tm.put (Tm.put (Tm.put tm 6 (.ptr dA ft)) 7 (.sl iy)) 9 (.sl iS)) 13 (.ptr fI ie)) 53 (.sl jl)) 54 (.int .i64 fJ)) 55 (.int .i64 dI)) = tm:=by rw [q5]; exact Tm.put_same e55
          rw [← q6]
          exact Eq.trans (by kernel_rfl) h
         ·refine LoopsOk.seq ?_ ?_
          ·exact loops_none (by kernel_rfl)
          ·refine LoopsOk.seq ?_ ?_
           ·exact loops_none (by kernel_rfl)
           ·refine LoopsOk.seq ?_ ?_
            ·refine LoopsOk.block ?_
             refine LoopsOk.seq ?_ ?_
             ·exact loops_none (by kernel_rfl)
             ·refine LoopsOk.seq ?_ ?_
              ·exact loops_none (by kernel_rfl)
              ·refine LoopsOk.seq ?_ ?_
               ·exact loops_none (by kernel_rfl)
               ·refine LoopsOk.seq ?_ ?_
                ·exact loops_none (by kernel_rfl)
                ·refine LoopsOk.seq ?_ ?_
                 ·exact loops_none (by kernel_rfl)
                 ·refine LoopsOk.seq ?_ ?_
                  ·refine LoopsOk.seq ?_ ?_
                   ·exact loops_none (by kernel_rfl)
                   ·refine LoopsOk.block ?_
                    refine LoopsOk.loop (fun tm H=>?_) (fun k1043325 tm H r h0=>?_) (fun k1043325=>?_)
                    ·refine none_of fun r h0=>?_
                     obtain ⟨cS,dq,eC,fp,fG,dr,eD,db,dz,dH,ic,ed,eE,jk,fH,fq,hks,e6,e7,e9,e13,e15,e17,e18,e53,e54,e55,e90,e91,e92,h⟩:=ag.lh1043325_inv (show ag.lh1043325 F aB aV bB bC bx [k509] 0 tm H = some r from h0)
                     cases h
                    ·obtain ⟨cS,dq,eC,fp,fG,dr,eD,db,dz,dH,ic,ed,eE,jk,fH,fq,hks,e6,e7,e9,e13,e15,e17,e18,e53,e54,e55,e90,e91,e92,h⟩:=ag.lh1043325_inv (show ag.lh1043325 F aB aV bB bC bx [k509] (k1043325 + 1) tm H = some r from h0)
                     obtain rfl:cS = k509:=by simpa [eq_comm] using hks
                     have q0:(Tm.put tm 6 (.ptr dq eC)) = tm:=by exact Tm.put_same e6
                     have q1:(Tm.put (Tm.put tm 6 (.ptr dq eC)) 7 (.sl fp)) = tm:=by rw [q0]; exact Tm.put_same e7
                     have q2:(Tm.put (Tm.put (Tm.put tm 6 (.ptr dq eC)) 7 (.sl fp)) 9 (.sl fG)) = tm:=by rw [q1]; exact Tm.put_same e9
                     have q3:(Tm.put (Tm.put (Tm.put (Tm.put tm 6 (.ptr dq eC)) 7 (.sl fp)) 9 (.sl fG)) 13 (.ptr dr eD)) = tm:=by rw [q2]; exact Tm.put_same e13
                     have q4:(Tm.put (Tm.put (Tm.put (Tm.put (Tm.put tm 6 (.ptr dq eC)) 7 (.sl fp)) 9 (.sl fG)) 13 (.ptr dr eD)) 15 (.int .i64 db)) = tm:=by rw [q3]; exact Tm.put_same e15
                     have q5:(Tm.put (Tm.put (Tm.put (Tm.put (Tm.put (Tm.put tm 6 (.ptr dq eC)) 7 (.sl fp)) 9 (.sl fG)) 13 (.ptr dr eD)) 15 (.int .i64 db)) 17 (.int .i64 dz)) = tm:=by rw [q4]; exact Tm.put_same e17
                     have q6:(Tm.put (Tm.put (Tm.put (Tm.put (Tm.put (Tm.put (Tm.put tm 6 (.ptr dq eC)) 7 (.sl fp)) 9 (.sl fG)) 13 (.ptr dr eD)) 15 (.int .i64 db)) 17 (.int .i64 dz)) 18 (.int .i64 dH)) = tm:=by rw [q5]; exact Tm.put_same e18
                     have q7:(Tm.put (Tm.put (Tm.put (Tm.put (Tm.put (Tm.put (Tm.put (Tm.put tm 6 (.ptr dq eC)) 7 (.sl fp)) 9 (.sl fG)) 13 (.ptr dr eD)) 15 (.int .i64 db)) 17 (.int .i64 dz)) 18 (.int .i64 dH)) 53 (.sl ic)) = tm:=by rw [q6]; exact Tm.put_same e53
                     have q8:(Tm.put (Tm.put (Tm.put (Tm.put (Tm.put (Tm.put (Tm.put (Tm.put (Tm.put tm 6 (.ptr dq eC)) 7 (.sl fp)) 9 (.sl fG)) 13 (.ptr dr eD)) 15 (.int .i64 db)) 17 (.int .i64 dz)) 18 (.int .i64 dH)) 53 (.sl ic)) 54 (.int .i64 ed)) = tm:=by rw [q7]; exact Tm.put_same e54
                     have q9:(Tm.put (Tm.put (Tm.put (Tm.put (Tm.put (Tm.put (Tm.put (Tm.put (Tm.put (Tm.put tm 6 (.ptr dq eC)) 7 (.sl fp)) 9 (.sl fG)) 13 (.ptr dr eD)) 15 (.int .i64 db)) 17 (.int .i64 dz)) 18 (.int .i64 dH)) 53 (.sl ic)) 54 (.int .i64 ed)) 55 (.int .i64 eE)) = tm:=by rw [q8]; exact Tm.put_same e55
                     have q10:(Tm.put (Tm.put (Tm.put (Tm.put (Tm.put (Tm.put (Tm.put (Tm.put (Tm.put (Tm.put (Tm.put tm 6 (.ptr dq eC)) 7 (.sl fp)) 9 (.sl fG)) 13 (.ptr dr eD)) 15 (.int .i64 db)) 17 (.int .i64 dz)) 18 (.int .i64 dH)) 53 (.sl ic)) 54 (.int .i64 ed)) 55 (.int .i64 eE)) 90 (.sl jk)) = tm:=by rw [q9]; exact Tm.put_same e90
                     have q11:(Tm.put (Tm.put (Tm.put (Tm.put (Tm.put (Tm.put (Tm.put (Tm.put (Tm.put (Tm.put (Tm.put (Tm.put tm 6 (.ptr dq eC)) 7 (.sl fp)) 9 (.sl fG)) 13 (.ptr dr eD)) 15 (.int .i64 db)) 17 (.int .i64 dz)) 18 (.int .i64 dH)) 53 (.sl ic)) 54 (.int .i64 ed)) 55 (.int .i64 eE)) 90 (.sl jk)) 91 (.int .i64 fH)) = tm:=by rw [q10]; exact Tm.put_same e91
                     have q12:(Tm.put (Tm.put (Tm.put (Tm.put (Tm.put (Tm.put (Tm.put (Tm.put (Tm.put (Tm.put (Tm.put (Tm.put (Tm.put tm 6 (.ptr dq eC)) 7 (.sl fp)) 9 (.sl fG)) 13 (.ptr dr eD)) 15 (.int .i64 db)) 17 (.int .i64 dz)) 18 (.int .i64 dH)) 53 (.sl ic)) 54 (.int .i64 ed)) 55 (.int .i64 eE)) 90 (.sl jk)) 91 (.int .i64 fH)) 92 (.int .i64 fq)) = tm:=by rw [q11]; exact Tm.put_same e92
                     rw [← q12]
                     exact Eq.trans (by kernel_rfl) h
                    ·exact loops_none (by kernel_rfl)
                  ·exact loops_none (by kernel_rfl)
            ·exact loops_none (by kernel_rfl)
       ·exact loops_none (by kernel_rfl)
theorem ag.eqX (F:Nat) (aB:Sl→Int→Sl→Sl→Hp→OA) (aV:Sl→Int→Sl→Sl→Hp→OA) (bB:Int→Int→Hp→OA) (bC:Sl→Int→Sl→Sl→Int→Hp→OA) (bx:Int→Int→Sl→Int→Int→Hp→OA) (aa:Sl) (ab:Int) (ah:Sl) (av:Sl) (bH:Int) (H:Hp):aCode tabs (mkOrc (ag.cs F aB aV bB bC bx)) ag.pn (ag.lh F aB aV bB bC bx) F [] 1 ag.code (argTm [(.agg [(.sl aa),(.int .i64 ab)]),(.agg [(.sl ah),(.sl av)]),(.int .i64 bH)]) H (fun tm H=>aresults tabs.ty H tm Try.f100.results.toList fun v=>some (v,H)) (fun _ _ _=>none) (fun tm H=>aresults tabs.ty H tm Try.f100.results.toList fun v=>some (v,H)) = ag.twX F aB aV bB bC bx aa ab ah av bH H:=by kernel_rfl
theorem ag.cs_ok (F:Nat):∀ p ∈ ag.cs F (au.tw F) (aj.tw F) (bw.tw F) (aR.tw F) (bO.tw F),∀ args H v H',p.2 args H = some (v,H')→Go.AE.T Try.prog p.1 args H v H':=by
 intro p hp
 simp only [ag.cs,List.mem_cons,List.not_mem_nil,or_false] at hp
 rcases hp with rfl | rfl | rfl | rfl | rfl
 ·exact fun args H v H' h=>au.mk_T h
 ·exact fun args H v H' h=>aj.mk_T h
 ·exact fun args H v H' h=>bw.mk_T h
 ·exact fun args H v H' h=>aR.mk_T h
 ·exact fun args H v H' h=>bO.mk_T h
theorem ag.ok:codeOk ag.pn Try.f100.ntmps ag.tb ag.code = true:=by kernel_rfl
theorem ag.T {F:Nat} {aa:Sl} {ab:Int} {ah:Sl} {av:Sl} {bH:Int} {H:Hp} {v:AV} {H':Hp} (h:ag.tw F aa ab ah av bH H = some (v,H')):Go.AE.T Try.prog 100 [(.agg [(.sl aa),(.int .i64 ab)]),(.agg [(.sl ah),(.sl av)]),(.int .i64 bH)] H v H':=
 Go.AE.T.of (Y:=tabs) (C:=mkOrc (ag.cs F (au.tw F) (aj.tw F) (bw.tw F) (aR.tw F) (bO.tw F))) (PN:=ag.pn) (LH:=ag.lh F (au.tw F) (aj.tw F) (bw.tw F) (aR.tw F) (bO.tw F)) (F:=F) (TB:=ag.tb) (fn:=Try.f100) (code:=ag.code) mixed tabs_ok (mkOrc_ok (ag.cs_ok F)) Try.func100 (by kernel_rfl) (by kernel_rfl) ag.ok (Nat.le_of_ble_eq_true (by kernel_rfl)) (ag.loops F (au.tw F) (aj.tw F) (bw.tw F) (aR.tw F) (bO.tw F)) (Eq.trans (ag.eqX F (au.tw F) (aj.tw F) (bw.tw F) (aR.tw F) (bO.tw F) aa ab ah av bH H) h)
theorem ag.mk_T {F:Nat} {args:List AV} {H:Hp} {v:AV} {H':Hp} (h:ag.mk (ag.tw F) args H = some (v,H')):Go.AE.T Try.prog 100 args H v H':=by
 unfold ag.mk at h
 split at h
 ·exact ag.T h
 ·cases h
noncomputable def bP.twX (F:Nat) (kg:Sl→Int→Hp→OA) (kh:Int→Hp→OA) (ki:Sl→Int→Sl→Sl→Hp→OA) (kj:Sl→Int→Sl→Sl→Int→Hp→OA) (aa:Sl) (ab:Int) (ah:Int) (H:Hp):OA:=(Hp.new H [(.sl aa),(.int .i64 ab)]).bind fun H4=>(Hp.new H4 [.int .i64 0,.int .i64 0,.sl ⟨none,0,.ex 0⟩]).bind fun H5=>(Hp.ldSl H5 H.length 0).bind fun s6=>(Hp.ldI H5 .i64 H.length (0 + 1)).bind fun n7=>(kg s6 n7 H5).bind fun r8=>((r8.1).asTup 2).bind fun l9=>(l9[0]?).bind fun v10=>((v10).asAgg 2).bind fun l11=>(l11[0]?).bind fun v12=>((v12).asSl).bind fun s13=>(l11[1]?).bind fun v14=>((v14).asSl).bind fun s15=>(l9[1]?).bind fun v16=>((v16).asB).bind fun b17=>(Hp.new r8.2 [.sl ⟨none,0,.ex 0⟩,.sl ⟨none,0,.ex 0⟩]).bind fun H18=>(Hp.st H18 r8.2.length 0 (.sl s13)).bind fun H19=>(Hp.st H19 r8.2.length (0 + 1) (.sl s15)).bind fun H20=>(bif (!b17) then ((Hp.st H20 H4.length 0 (.int .i64 0)).bind fun H21=>(Hp.st H21 H4.length (0 + 1) (.int .i64 0)).bind fun H22=>(Hp.st H22 H4.length (0 + 1 + 1) (.sl (⟨none,0,.ex 0⟩:Sl))).bind fun H23=>(Hp.ldI H23 .i64 H4.length 0).bind fun n24=>(Hp.ldI H23 .i64 H4.length (0 + 1)).bind fun n25=>(Hp.ldSl H23 H4.length (0 + 2)).bind fun s26=>some ((.tup [(.agg [(.int .i64 n24),(.int .i64 n25),(.sl s26)]),(.int .i64 1)]),H23)) else ((kh ah H20).bind fun r27=>((r27.1).asB).bind fun b28=>(bif (!b28) then ((Hp.st r27.2 H4.length 0 (.int .i64 0)).bind fun H29=>(Hp.st H29 H4.length (0 + 1) (.int .i64 0)).bind fun H30=>(Hp.st H30 H4.length (0 + 1 + 1) (.sl (⟨none,0,.ex 0⟩:Sl))).bind fun H31=>(Hp.ldI H31 .i64 H4.length 0).bind fun n32=>(Hp.ldI H31 .i64 H4.length (0 + 1)).bind fun n33=>(Hp.ldSl H31 H4.length (0 + 2)).bind fun s34=>some ((.tup [(.agg [(.int .i64 n32),(.int .i64 n33),(.sl s34)]),(.int .i64 2)]),H31)) else ((Hp.ldSl r27.2 H.length 0).bind fun s35=>(Hp.ldI r27.2 .i64 H.length (0 + 1)).bind fun n36=>(Hp.ldSl r27.2 r8.2.length 0).bind fun s37=>(Hp.ldSl r27.2 r8.2.length (0 + 1)).bind fun s38=>(ki s35 n36 s37 s38 r27.2).bind fun r39=>((r39.1).asB).bind fun b40=>(bif (!b40) then ((Hp.st r39.2 H4.length 0 (.int .i64 0)).bind fun H41=>(Hp.st H41 H4.length (0 + 1) (.int .i64 0)).bind fun H42=>(Hp.st H42 H4.length (0 + 1 + 1) (.sl (⟨none,0,.ex 0⟩:Sl))).bind fun H43=>(Hp.ldI H43 .i64 H4.length 0).bind fun n44=>(Hp.ldI H43 .i64 H4.length (0 + 1)).bind fun n45=>(Hp.ldSl H43 H4.length (0 + 2)).bind fun s46=>some ((.tup [(.agg [(.int .i64 n44),(.int .i64 n45),(.sl s46)]),(.int .i64 5)]),H43)) else ((Hp.ldSl r39.2 H.length 0).bind fun s47=>(Hp.ldI r39.2 .i64 H.length (0 + 1)).bind fun n48=>(Hp.ldSl r39.2 r8.2.length 0).bind fun s49=>(Hp.ldSl r39.2 r8.2.length (0 + 1)).bind fun s50=>(kj s47 n48 s49 s50 ah r39.2).bind fun r51=>((r51.1).asAgg 3).bind fun l52=>(l52[0]?).bind fun v53=>((v53).asI .i64).bind fun n54=>(l52[1]?).bind fun v55=>((v55).asI .i64).bind fun n56=>(l52[2]?).bind fun v57=>((v57).asSl).bind fun s58=>(Hp.st r51.2 H4.length 0 (.int .i64 n54)).bind fun H59=>(Hp.st H59 H4.length (0 + 1) (.int .i64 n56)).bind fun H60=>(Hp.st H60 H4.length (0 + 1 + 1) (.sl s58)).bind fun H61=>(Hp.ldI H61 .i64 H4.length 0).bind fun n62=>(Hp.ldI H61 .i64 H4.length (0 + 1)).bind fun n63=>(Hp.ldSl H61 H4.length (0 + 2)).bind fun s64=>some ((.tup [(.agg [(.int .i64 n62),(.int .i64 n63),(.sl s64)]),(.int .i64 0)]),H61)))))))
noncomputable def bP.tw (F:Nat) (aa:Sl) (ab:Int) (ah:Int) (H:Hp):OA:=bP.twX F (bI.tw F) (b_.tw F) (cc.tw F) (ag.tw F) aa ab ah H
noncomputable def bP.code:Go.Code:=(Try.f46.body).getD .skip
noncomputable def bP.lh (F:Nat) (kg:Sl→Int→Hp→OA) (kh:Int→Hp→OA) (ki:Sl→Int→Sl→Sl→Hp→OA) (kj:Sl→Int→Sl→Sl→Int→Hp→OA) (p:Nat) (ks:List Nat) (n:Nat) (tm:Tm) (H:Hp):OA:=none
def bP.pn:Nat→List Nat:=fun i=>(([]:List (Nat×List Nat)).lookup i).getD []
def bP.tb:Nat→List (List Nat):=fun i=>(([]:List (Nat×List (List Nat))).lookup i).getD []
noncomputable def bP.mk (g:Sl→Int→Int→Hp→OA) (args:List AV) (H:Hp):OA:=match args with
 | [(.agg [(.sl aa),(.int .i64 ab)]),(.int .i64 ah)]=>g aa ab ah H
 | _=>none
noncomputable def bP.cs (F:Nat) (kg:Sl→Int→Hp→OA) (kh:Int→Hp→OA) (ki:Sl→Int→Sl→Sl→Hp→OA) (kj:Sl→Int→Sl→Sl→Int→Hp→OA):List (FuncId×(List AV→Hp→OA)):=[(69,bI.mk kg),(71,b_.mk kh),(99,cc.mk ki),(100,ag.mk kj)]
theorem bP.loops (F:Nat) (kg:Sl→Int→Hp→OA) (kh:Int→Hp→OA) (ki:Sl→Int→Sl→Sl→Hp→OA) (kj:Sl→Int→Sl→Sl→Int→Hp→OA):LoopsOk tabs (mkOrc (bP.cs F kg kh ki kj)) bP.pn (bP.lh F kg kh ki kj) F [] 1 bP.code (fun tm H=>aresults tabs.ty H tm Try.f46.results.toList fun v=>some (v,H)) (fun _ _ _=>none) (fun tm H=>aresults tabs.ty H tm Try.f46.results.toList fun v=>some (v,H)):=by
 exact loops_none (by kernel_rfl)
theorem bP.eqX (F:Nat) (kg:Sl→Int→Hp→OA) (kh:Int→Hp→OA) (ki:Sl→Int→Sl→Sl→Hp→OA) (kj:Sl→Int→Sl→Sl→Int→Hp→OA) (aa:Sl) (ab:Int) (ah:Int) (H:Hp):aCode tabs (mkOrc (bP.cs F kg kh ki kj)) bP.pn (bP.lh F kg kh ki kj) F [] 1 bP.code (argTm [(.agg [(.sl aa),(.int .i64 ab)]),(.int .i64 ah)]) H (fun tm H=>aresults tabs.ty H tm Try.f46.results.toList fun v=>some (v,H)) (fun _ _ _=>none) (fun tm H=>aresults tabs.ty H tm Try.f46.results.toList fun v=>some (v,H)) = bP.twX F kg kh ki kj aa ab ah H:=by kernel_rfl
theorem bP.cs_ok (F:Nat):∀ p ∈ bP.cs F (bI.tw F) (b_.tw F) (cc.tw F) (ag.tw F),∀ args H v H',p.2 args H = some (v,H')→Go.AE.T Try.prog p.1 args H v H':=by
 intro p hp
 simp only [bP.cs,List.mem_cons,List.not_mem_nil,or_false] at hp
 rcases hp with rfl | rfl | rfl | rfl
 ·exact fun args H v H' h=>bI.mk_T h
 ·exact fun args H v H' h=>b_.mk_T h
 ·exact fun args H v H' h=>cc.mk_T h
 ·exact fun args H v H' h=>ag.mk_T h
theorem bP.ok:codeOk bP.pn Try.f46.ntmps bP.tb bP.code = true:=by kernel_rfl
theorem bP.T {F:Nat} {aa:Sl} {ab:Int} {ah:Int} {H:Hp} {v:AV} {H':Hp} (h:bP.tw F aa ab ah H = some (v,H')):Go.AE.T Try.prog 46 [(.agg [(.sl aa),(.int .i64 ab)]),(.int .i64 ah)] H v H':=
 Go.AE.T.of (Y:=tabs) (C:=mkOrc (bP.cs F (bI.tw F) (b_.tw F) (cc.tw F) (ag.tw F))) (PN:=bP.pn) (LH:=bP.lh F (bI.tw F) (b_.tw F) (cc.tw F) (ag.tw F)) (F:=F) (TB:=bP.tb) (fn:=Try.f46) (code:=bP.code) mixed tabs_ok (mkOrc_ok (bP.cs_ok F)) Try.func46 (by kernel_rfl) (by kernel_rfl) bP.ok (Nat.le_of_ble_eq_true (by kernel_rfl)) (bP.loops F (bI.tw F) (b_.tw F) (cc.tw F) (ag.tw F)) (Eq.trans (bP.eqX F (bI.tw F) (b_.tw F) (cc.tw F) (ag.tw F) aa ab ah H) h)
theorem bP.mk_T {F:Nat} {args:List AV} {H:Hp} {v:AV} {H':Hp} (h:bP.mk (bP.tw F) args H = some (v,H')):Go.AE.T Try.prog 46 args H v H':=by
 unfold bP.mk at h
 split at h
 ·exact bP.T h
 ·cases h
noncomputable def bf.l29 (F:Nat) :Nat→Sl→Sl→Int→Hp→OA
 | 0,_,_,_,_=>none
 | fx + 1,bm,aT,cA,H8=>(bif (decide (cA < (bm.n:Int))) then ((Sl.idx bm cA 1).bind fun p13=>(Hp.ldI H8 .i64 p13.1 p13.2).bind fun n14=>(Sl.idx aT cA 1).bind fun p15=>(Hp.ldI H8 .i64 p15.1 p15.2).bind fun n16=>(bif (n14 != n16) then (some ((.bool false),H8)) else (bf.l29 F fx bm aT (IntKind.i64.wrap (cA + 1)) H8))) else (some ((.bool true),H8)))
termination_by structural n=>n
noncomputable def bf.twX (F:Nat) (aa:Sl) (af:Sl) (H:Hp):OA:=(bif ((aa.n:Int) != (af.n:Int)) then (some ((.bool false),H)) else (bf.l29 F F aa af 0 H))
noncomputable def bf.tw (F:Nat) (aa:Sl) (af:Sl) (H:Hp):OA:=bf.twX F aa af H
noncomputable def bf.code:Go.Code:=(Try.f19.body).getD .skip
noncomputable def bf.lh29 (F:Nat) (ks:List Nat) (n:Nat) (tm:Tm) (H:Hp):OA:=match ks,tm 0,tm 1,tm 5 with
 | [],(.sl bm),(.sl aT),(.int .i64 cA)=>bf.l29 F n bm aT cA H
 | _,_,_,_=>none
theorem bf.lh29_inv {F:Nat} {ks:List Nat} {n:Nat} {tm:Tm} {H:Hp} {r:AV×Hp} (h:bf.lh29 F ks n tm H = some r):∃ bm:Sl,∃ aT:Sl,∃ cA:Int,ks = []∧tm 0 = (.sl bm)∧tm 1 = (.sl aT)∧tm 5 = (.int .i64 cA)∧bf.l29 F n bm aT cA H = some r:=by
 unfold bf.lh29 at h
 split at h
 ·exact ⟨_,_,_,rfl,by assumption,by assumption,by assumption,h⟩
 ·cases h
noncomputable def bf.lh (F:Nat) (p:Nat) (ks:List Nat) (n:Nat) (tm:Tm) (H:Hp):OA:=bif p.beq 29 then bf.lh29 F ks n tm H else (none)
def bf.pn:Nat→List Nat:=fun i=>(([(6,[])]:List (Nat×List Nat)).lookup i).getD []
def bf.tb:Nat→List (List Nat):=fun i=>(([(6,[[],[],[0,1],[0,1,2],[],[],[4,5],[4,5,6],[0,1,2,3,4,5,6,7]])]:List (Nat×List (List Nat))).lookup i).getD []
noncomputable def bf.mk (g:Sl→Sl→Hp→OA) (args:List AV) (H:Hp):OA:=match args with
 | [(.sl aa),(.sl af)]=>g aa af H
 | _=>none
noncomputable def bf.cs (F:Nat):List (FuncId×(List AV→Hp→OA)):=[]
theorem bf.loops (F:Nat):LoopsOk tabs (mkOrc (bf.cs F)) bf.pn (bf.lh F) F [] 1 bf.code (fun tm H=>aresults tabs.ty H tm Try.f19.results.toList fun v=>some (v,H)) (fun _ _ _=>none) (fun tm H=>aresults tabs.ty H tm Try.f19.results.toList fun v=>some (v,H)):=by
 refine LoopsOk.seq ?_ ?_
 ·exact loops_none (by kernel_rfl)
 ·refine LoopsOk.seq ?_ ?_
  ·exact loops_none (by kernel_rfl)
  ·refine LoopsOk.seq ?_ ?_
   ·refine LoopsOk.seq ?_ ?_
    ·exact loops_none (by kernel_rfl)
    ·refine LoopsOk.block ?_
     refine LoopsOk.loop (fun tm H=>?_) (fun k29 tm H r h0=>?_) (fun k29=>?_)
     ·refine none_of fun r h0=>?_
      obtain ⟨bm,aT,cA,hks,e0,e1,e5,h⟩:=bf.lh29_inv (show bf.lh29 F [] 0 tm H = some r from h0)
      cases h
     ·obtain ⟨bm,aT,cA,hks,e0,e1,e5,h⟩:=bf.lh29_inv (show bf.lh29 F [] (k29 + 1) tm H = some r from h0)
      have q0:(Tm.put tm 0 (.sl bm)) = tm:=by exact Tm.put_same e0
      have q1:(Tm.put (Tm.put tm 0 (.sl bm)) 1 (.sl aT)) = tm:=by rw [q0]; exact Tm.put_same e1
      have q2:(Tm.put (Tm.put (Tm.put tm 0 (.sl bm)) 1 (.sl aT)) 5 (.int .i64 cA)) = tm:=by rw [q1]; exact Tm.put_same e5
      rw [← q2]
      exact Eq.trans (by kernel_rfl) h
     ·exact loops_none (by kernel_rfl)
   ·exact loops_none (by kernel_rfl)
theorem bf.eqX (F:Nat) (aa:Sl) (af:Sl) (H:Hp):aCode tabs (mkOrc (bf.cs F)) bf.pn (bf.lh F) F [] 1 bf.code (argTm [(.sl aa),(.sl af)]) H (fun tm H=>aresults tabs.ty H tm Try.f19.results.toList fun v=>some (v,H)) (fun _ _ _=>none) (fun tm H=>aresults tabs.ty H tm Try.f19.results.toList fun v=>some (v,H)) = bf.twX F aa af H:=by kernel_rfl
theorem bf.cs_ok (F:Nat):∀ p ∈ bf.cs F,∀ args H v H',p.2 args H = some (v,H')→Go.AE.T Try.prog p.1 args H v H':=by
 intro p hp
 exact absurd (show p ∈ [] from hp) List.not_mem_nil
theorem bf.ok:codeOk bf.pn Try.f19.ntmps bf.tb bf.code = true:=by kernel_rfl
theorem bf.T {F:Nat} {aa:Sl} {af:Sl} {H:Hp} {v:AV} {H':Hp} (h:bf.tw F aa af H = some (v,H')):Go.AE.T Try.prog 19 [(.sl aa),(.sl af)] H v H':=
 Go.AE.T.of (Y:=tabs) (C:=mkOrc (bf.cs F)) (PN:=bf.pn) (LH:=bf.lh F) (F:=F) (TB:=bf.tb) (fn:=Try.f19) (code:=bf.code) mixed tabs_ok (mkOrc_ok (bf.cs_ok F)) Try.func19 (by kernel_rfl) (by kernel_rfl) bf.ok (Nat.le_of_ble_eq_true (by kernel_rfl)) (bf.loops F) (Eq.trans (bf.eqX F aa af H) h)
theorem bf.mk_T {F:Nat} {args:List AV} {H:Hp} {v:AV} {H':Hp} (h:bf.mk (bf.tw F) args H = some (v,H')):Go.AE.T Try.prog 19 args H v H':=by
 unfold bf.mk at h
 split at h
 ·exact bf.T h
 ·cases h
noncomputable def bM.twX (F:Nat) (kk:Sl→Sl→Hp→OA) (aa:Int) (ab:Int) (ay:Sl) (av:Int) (hH:Int) (aX:Sl) (H:Hp):OA:=(Hp.new H [(.int .i64 aa),(.int .i64 ab),(.sl ay)]).bind fun H7=>(Hp.new H7 [(.int .i64 av),(.int .i64 hH),(.sl aX)]).bind fun H8=>(Hp.ldI H8 .i64 H.length 0).bind fun n9=>(Hp.ldI H8 .i64 H7.length 0).bind fun n10=>(bif (n9 != n10) then (some ((.bool false),H8)) else ((Hp.ldI H8 .i64 H.length 1).bind fun n11=>(Hp.ldI H8 .i64 H7.length 1).bind fun n12=>(bif (n11 != n12) then (some ((.bool false),H8)) else ((Hp.ldSl H8 H.length 2).bind fun s13=>(Hp.ldSl H8 H7.length 2).bind fun s14=>(kk s13 s14 H8).bind fun r15=>((r15.1).asB).bind fun b16=>(bif (!b16) then (some ((.bool false),r15.2)) else (some ((.bool true),r15.2)))))))
noncomputable def bM.tw (F:Nat) (aa:Int) (ab:Int) (ay:Sl) (av:Int) (hH:Int) (aX:Sl) (H:Hp):OA:=bM.twX F (bf.tw F) aa ab ay av hH aX H
noncomputable def bM.code:Go.Code:=(Try.f35.body).getD .skip
noncomputable def bM.lh (F:Nat) (kk:Sl→Sl→Hp→OA) (p:Nat) (ks:List Nat) (n:Nat) (tm:Tm) (H:Hp):OA:=none
def bM.pn:Nat→List Nat:=fun i=>(([]:List (Nat×List Nat)).lookup i).getD []
def bM.tb:Nat→List (List Nat):=fun i=>(([]:List (Nat×List (List Nat))).lookup i).getD []
noncomputable def bM.mk (g:Int→Int→Sl→Int→Int→Sl→Hp→OA) (args:List AV) (H:Hp):OA:=match args with
 | [(.agg [(.int .i64 aa),(.int .i64 ab),(.sl ay)]),(.agg [(.int .i64 av),(.int .i64 hH),(.sl aX)])]=>g aa ab ay av hH aX H
 | _=>none
noncomputable def bM.cs (F:Nat) (kk:Sl→Sl→Hp→OA):List (FuncId×(List AV→Hp→OA)):=[(19,bf.mk kk)]
theorem bM.loops (F:Nat) (kk:Sl→Sl→Hp→OA):LoopsOk tabs (mkOrc (bM.cs F kk)) bM.pn (bM.lh F kk) F [] 1 bM.code (fun tm H=>aresults tabs.ty H tm Try.f35.results.toList fun v=>some (v,H)) (fun _ _ _=>none) (fun tm H=>aresults tabs.ty H tm Try.f35.results.toList fun v=>some (v,H)):=by
 exact loops_none (by kernel_rfl)
theorem bM.eqX (F:Nat) (kk:Sl→Sl→Hp→OA) (aa:Int) (ab:Int) (ay:Sl) (av:Int) (hH:Int) (aX:Sl) (H:Hp):aCode tabs (mkOrc (bM.cs F kk)) bM.pn (bM.lh F kk) F [] 1 bM.code (argTm [(.agg [(.int .i64 aa),(.int .i64 ab),(.sl ay)]),(.agg [(.int .i64 av),(.int .i64 hH),(.sl aX)])]) H (fun tm H=>aresults tabs.ty H tm Try.f35.results.toList fun v=>some (v,H)) (fun _ _ _=>none) (fun tm H=>aresults tabs.ty H tm Try.f35.results.toList fun v=>some (v,H)) = bM.twX F kk aa ab ay av hH aX H:=by kernel_rfl
theorem bM.cs_ok (F:Nat):∀ p ∈ bM.cs F (bf.tw F),∀ args H v H',p.2 args H = some (v,H')→Go.AE.T Try.prog p.1 args H v H':=by
 intro p hp
 simp only [bM.cs,List.mem_cons,List.not_mem_nil,or_false] at hp
 subst hp
 exact fun args H v H' h=>bf.mk_T h
theorem bM.ok:codeOk bM.pn Try.f35.ntmps bM.tb bM.code = true:=by kernel_rfl
theorem bM.T {F:Nat} {aa:Int} {ab:Int} {ay:Sl} {av:Int} {hH:Int} {aX:Sl} {H:Hp} {v:AV} {H':Hp} (h:bM.tw F aa ab ay av hH aX H = some (v,H')):Go.AE.T Try.prog 35 [(.agg [(.int .i64 aa),(.int .i64 ab),(.sl ay)]),(.agg [(.int .i64 av),(.int .i64 hH),(.sl aX)])] H v H':=
 Go.AE.T.of (Y:=tabs) (C:=mkOrc (bM.cs F (bf.tw F))) (PN:=bM.pn) (LH:=bM.lh F (bf.tw F)) (F:=F) (TB:=bM.tb) (fn:=Try.f35) (code:=bM.code) mixed tabs_ok (mkOrc_ok (bM.cs_ok F)) Try.func35 (by kernel_rfl) (by kernel_rfl) bM.ok (Nat.le_of_ble_eq_true (by kernel_rfl)) (bM.loops F (bf.tw F)) (Eq.trans (bM.eqX F (bf.tw F) aa ab ay av hH aX H) h)
theorem bM.mk_T {F:Nat} {args:List AV} {H:Hp} {v:AV} {H':Hp} (h:bM.mk (bM.tw F) args H = some (v,H')):Go.AE.T Try.prog 35 args H v H':=by
 unfold bM.mk at h
 split at h
 ·exact bM.T h
 ·cases h
noncomputable def cf.twX (F:Nat) (aa:Int) (ab:Int) (ay:Int) (aJ:Int) (aG:Int) (aX:Int) (hI:Int) (hJ:Int) (hK:Int) (hL:Int) (H:Hp):OA:=(Hp.new H [(.int .i64 aa),(.int .i64 ab),(.int .i64 ay),(.int .i64 aJ),(.int .i64 aG)]).bind fun H11=>(Hp.new H11 [(.int .i64 aX),(.int .i64 hI),(.int .i64 hJ),(.int .i64 hK),(.int .i64 hL)]).bind fun H12=>(Hp.ldI H12 .i64 H.length 0).bind fun n13=>(Hp.ldI H12 .i64 H11.length 0).bind fun n14=>(bif (n13 != n14) then (some ((.bool false),H12)) else ((Hp.ldI H12 .i64 H.length 1).bind fun n15=>(Hp.ldI H12 .i64 H11.length 1).bind fun n16=>(bif (n15 != n16) then (some ((.bool false),H12)) else ((Hp.ldI H12 .i64 H.length 2).bind fun n17=>(Hp.ldI H12 .i64 H11.length 2).bind fun n18=>(bif (n17 != n18) then (some ((.bool false),H12)) else ((Hp.ldI H12 .i64 H.length 3).bind fun n19=>(Hp.ldI H12 .i64 H11.length 3).bind fun n20=>(bif (n19 != n20) then (some ((.bool false),H12)) else ((Hp.ldI H12 .i64 H.length 4).bind fun n21=>(Hp.ldI H12 .i64 H11.length 4).bind fun n22=>(bif (n21 != n22) then (some ((.bool false),H12)) else (some ((.bool true),H12)))))))))))
noncomputable def cf.tw (F:Nat) (aa:Int) (ab:Int) (ay:Int) (aJ:Int) (aG:Int) (aX:Int) (hI:Int) (hJ:Int) (hK:Int) (hL:Int) (H:Hp):OA:=cf.twX F aa ab ay aJ aG aX hI hJ hK hL H
noncomputable def cf.code:Go.Code:=(Try.f121.body).getD .skip
noncomputable def cf.lh (F:Nat) (p:Nat) (ks:List Nat) (n:Nat) (tm:Tm) (H:Hp):OA:=none
def cf.pn:Nat→List Nat:=fun i=>(([]:List (Nat×List Nat)).lookup i).getD []
def cf.tb:Nat→List (List Nat):=fun i=>(([]:List (Nat×List (List Nat))).lookup i).getD []
noncomputable def cf.mk (g:Int→Int→Int→Int→Int→Int→Int→Int→Int→Int→Hp→OA) (args:List AV) (H:Hp):OA:=match args with
 | [(.agg [(.int .i64 aa),(.int .i64 ab),(.int .i64 ay),(.int .i64 aJ),(.int .i64 aG)]),(.agg [(.int .i64 aX),(.int .i64 hI),(.int .i64 hJ),(.int .i64 hK),(.int .i64 hL)])]=>g aa ab ay aJ aG aX hI hJ hK hL H
 | _=>none
noncomputable def cf.cs (F:Nat):List (FuncId×(List AV→Hp→OA)):=[]
theorem cf.loops (F:Nat):LoopsOk tabs (mkOrc (cf.cs F)) cf.pn (cf.lh F) F [] 1 cf.code (fun tm H=>aresults tabs.ty H tm Try.f121.results.toList fun v=>some (v,H)) (fun _ _ _=>none) (fun tm H=>aresults tabs.ty H tm Try.f121.results.toList fun v=>some (v,H)):=by
 exact loops_none (by kernel_rfl)
theorem cf.eqX (F:Nat) (aa:Int) (ab:Int) (ay:Int) (aJ:Int) (aG:Int) (aX:Int) (hI:Int) (hJ:Int) (hK:Int) (hL:Int) (H:Hp):aCode tabs (mkOrc (cf.cs F)) cf.pn (cf.lh F) F [] 1 cf.code (argTm [(.agg [(.int .i64 aa),(.int .i64 ab),(.int .i64 ay),(.int .i64 aJ),(.int .i64 aG)]),(.agg [(.int .i64 aX),(.int .i64 hI),(.int .i64 hJ),(.int .i64 hK),(.int .i64 hL)])]) H (fun tm H=>aresults tabs.ty H tm Try.f121.results.toList fun v=>some (v,H)) (fun _ _ _=>none) (fun tm H=>aresults tabs.ty H tm Try.f121.results.toList fun v=>some (v,H)) = cf.twX F aa ab ay aJ aG aX hI hJ hK hL H:=by kernel_rfl
theorem cf.cs_ok (F:Nat):∀ p ∈ cf.cs F,∀ args H v H',p.2 args H = some (v,H')→Go.AE.T Try.prog p.1 args H v H':=by
 intro p hp
 exact absurd (show p ∈ [] from hp) List.not_mem_nil
theorem cf.ok:codeOk cf.pn Try.f121.ntmps cf.tb cf.code = true:=by kernel_rfl
theorem cf.T {F:Nat} {aa:Int} {ab:Int} {ay:Int} {aJ:Int} {aG:Int} {aX:Int} {hI:Int} {hJ:Int} {hK:Int} {hL:Int} {H:Hp} {v:AV} {H':Hp} (h:cf.tw F aa ab ay aJ aG aX hI hJ hK hL H = some (v,H')):Go.AE.T Try.prog 121 [(.agg [(.int .i64 aa),(.int .i64 ab),(.int .i64 ay),(.int .i64 aJ),(.int .i64 aG)]),(.agg [(.int .i64 aX),(.int .i64 hI),(.int .i64 hJ),(.int .i64 hK),(.int .i64 hL)])] H v H':=
 Go.AE.T.of (Y:=tabs) (C:=mkOrc (cf.cs F)) (PN:=cf.pn) (LH:=cf.lh F) (F:=F) (TB:=cf.tb) (fn:=Try.f121) (code:=cf.code) mixed tabs_ok (mkOrc_ok (cf.cs_ok F)) Try.func121 (by kernel_rfl) (by kernel_rfl) cf.ok (Nat.le_of_ble_eq_true (by kernel_rfl)) (cf.loops F) (Eq.trans (cf.eqX F aa ab ay aJ aG aX hI hJ hK hL H) h)
theorem cf.mk_T {F:Nat} {args:List AV} {H:Hp} {v:AV} {H':Hp} (h:cf.mk (cf.tw F) args H = some (v,H')):Go.AE.T Try.prog 121 args H v H':=by
 unfold cf.mk at h
 split at h
 ·exact cf.T h
 ·cases h
noncomputable def bg.l29 (F:Nat) (fv:Int→Int→Int→Int→Int→Int→Int→Int→Int→Int→Hp→OA) :Nat→Sl→Sl→Int→Hp→OA
 | 0,_,_,_,_=>none
 | fx + 1,bm,aT,cA,H8=>(bif (decide (cA < (bm.n:Int))) then ((Sl.idx bm cA 5).bind fun p23=>(Hp.ldI H8 .i64 p23.1 p23.2).bind fun n24=>(Hp.ldI H8 .i64 p23.1 (p23.2 + 1)).bind fun n25=>(Hp.ldI H8 .i64 p23.1 (p23.2 + 2)).bind fun n26=>(Hp.ldI H8 .i64 p23.1 (p23.2 + 3)).bind fun n27=>(Hp.ldI H8 .i64 p23.1 (p23.2 + 4)).bind fun n28=>(Sl.idx aT cA 5).bind fun p29=>(Hp.ldI H8 .i64 p29.1 p29.2).bind fun n30=>(Hp.ldI H8 .i64 p29.1 (p29.2 + 1)).bind fun n31=>(Hp.ldI H8 .i64 p29.1 (p29.2 + 2)).bind fun n32=>(Hp.ldI H8 .i64 p29.1 (p29.2 + 3)).bind fun n33=>(Hp.ldI H8 .i64 p29.1 (p29.2 + 4)).bind fun n34=>(fv n24 n25 n26 n27 n28 n30 n31 n32 n33 n34 H8).bind fun r35=>((r35.1).asB).bind fun b36=>(bif (!b36) then (some ((.bool false),r35.2)) else (bg.l29 F fv fx bm aT (IntKind.i64.wrap (cA + 1)) r35.2))) else (some ((.bool true),H8)))
termination_by structural n=>n
noncomputable def bg.twX (F:Nat) (fv:Int→Int→Int→Int→Int→Int→Int→Int→Int→Int→Hp→OA) (aa:Sl) (af:Sl) (H:Hp):OA:=(bif ((aa.n:Int) != (af.n:Int)) then (some ((.bool false),H)) else (bg.l29 F fv F aa af 0 H))
noncomputable def bg.tw (F:Nat) (aa:Sl) (af:Sl) (H:Hp):OA:=bg.twX F (cf.tw F) aa af H
noncomputable def bg.code:Go.Code:=(Try.f63.body).getD .skip
noncomputable def bg.lh29 (F:Nat) (fv:Int→Int→Int→Int→Int→Int→Int→Int→Int→Int→Hp→OA) (ks:List Nat) (n:Nat) (tm:Tm) (H:Hp):OA:=match ks,tm 0,tm 1,tm 5 with
 | [],(.sl bm),(.sl aT),(.int .i64 cA)=>bg.l29 F fv n bm aT cA H
 | _,_,_,_=>none
theorem bg.lh29_inv {F:Nat} {fv:Int→Int→Int→Int→Int→Int→Int→Int→Int→Int→Hp→OA} {ks:List Nat} {n:Nat} {tm:Tm} {H:Hp} {r:AV×Hp} (h:bg.lh29 F fv ks n tm H = some r):∃ bm:Sl,∃ aT:Sl,∃ cA:Int,ks = []∧tm 0 = (.sl bm)∧tm 1 = (.sl aT)∧tm 5 = (.int .i64 cA)∧bg.l29 F fv n bm aT cA H = some r:=by
 unfold bg.lh29 at h
 split at h
 ·exact ⟨_,_,_,rfl,by assumption,by assumption,by assumption,h⟩
 ·cases h
noncomputable def bg.lh (F:Nat) (fv:Int→Int→Int→Int→Int→Int→Int→Int→Int→Int→Hp→OA) (p:Nat) (ks:List Nat) (n:Nat) (tm:Tm) (H:Hp):OA:=bif p.beq 29 then bg.lh29 F fv ks n tm H else (none)
def bg.pn:Nat→List Nat:=fun i=>(([(6,[8])]:List (Nat×List Nat)).lookup i).getD []
def bg.tb:Nat→List (List Nat):=fun i=>(([(6,[[],[],[0,1],[0,1,2],[],[],[4,5],[4,5,6],[0,1,2,3,4,5,6,7],[0,1,2,3,4,5,6,7,8]])]:List (Nat×List (List Nat))).lookup i).getD []
noncomputable def bg.mk (g:Sl→Sl→Hp→OA) (args:List AV) (H:Hp):OA:=match args with
 | [(.sl aa),(.sl af)]=>g aa af H
 | _=>none
noncomputable def bg.cs (F:Nat) (fv:Int→Int→Int→Int→Int→Int→Int→Int→Int→Int→Hp→OA):List (FuncId×(List AV→Hp→OA)):=[(121,cf.mk fv)]
theorem bg.loops (F:Nat) (fv:Int→Int→Int→Int→Int→Int→Int→Int→Int→Int→Hp→OA):LoopsOk tabs (mkOrc (bg.cs F fv)) bg.pn (bg.lh F fv) F [] 1 bg.code (fun tm H=>aresults tabs.ty H tm Try.f63.results.toList fun v=>some (v,H)) (fun _ _ _=>none) (fun tm H=>aresults tabs.ty H tm Try.f63.results.toList fun v=>some (v,H)):=by
 refine LoopsOk.seq ?_ ?_
 ·exact loops_none (by kernel_rfl)
 ·refine LoopsOk.seq ?_ ?_
  ·exact loops_none (by kernel_rfl)
  ·refine LoopsOk.seq ?_ ?_
   ·refine LoopsOk.seq ?_ ?_
    ·exact loops_none (by kernel_rfl)
    ·refine LoopsOk.block ?_
     refine LoopsOk.loop (fun tm H=>?_) (fun k29 tm H r h0=>?_) (fun k29=>?_)
     ·refine none_of fun r h0=>?_
      obtain ⟨bm,aT,cA,hks,e0,e1,e5,h⟩:=bg.lh29_inv (show bg.lh29 F fv [] 0 tm H = some r from h0)
      cases h
     ·obtain ⟨bm,aT,cA,hks,e0,e1,e5,h⟩:=bg.lh29_inv (show bg.lh29 F fv [] (k29 + 1) tm H = some r from h0)
      have q0:(Tm.put tm 0 (.sl bm)) = tm:=by exact Tm.put_same e0
      have q1:(Tm.put (Tm.put tm 0 (.sl bm)) 1 (.sl aT)) = tm:=by rw [q0]; exact Tm.put_same e1
      have q2:(Tm.put (Tm.put (Tm.put tm 0 (.sl bm)) 1 (.sl aT)) 5 (.int .i64 cA)) = tm:=by rw [q1]; exact Tm.put_same e5
      rw [← q2]
      exact Eq.trans (by kernel_rfl) h
     ·exact loops_none (by kernel_rfl)
   ·exact loops_none (by kernel_rfl)
theorem bg.eqX (F:Nat) (fv:Int→Int→Int→Int→Int→Int→Int→Int→Int→Int→Hp→OA) (aa:Sl) (af:Sl) (H:Hp):aCode tabs (mkOrc (bg.cs F fv)) bg.pn (bg.lh F fv) F [] 1 bg.code (argTm [(.sl aa),(.sl af)]) H (fun tm H=>aresults tabs.ty H tm Try.f63.results.toList fun v=>some (v,H)) (fun _ _ _=>none) (fun tm H=>aresults tabs.ty H tm Try.f63.results.toList fun v=>some (v,H)) = bg.twX F fv aa af H:=by kernel_rfl
theorem bg.cs_ok (F:Nat):∀ p ∈ bg.cs F (cf.tw F),∀ args H v H',p.2 args H = some (v,H')→Go.AE.T Try.prog p.1 args H v H':=by
 intro p hp
 simp only [bg.cs,List.mem_cons,List.not_mem_nil,or_false] at hp
 subst hp
 exact fun args H v H' h=>cf.mk_T h
theorem bg.ok:codeOk bg.pn Try.f63.ntmps bg.tb bg.code = true:=by kernel_rfl
theorem bg.T {F:Nat} {aa:Sl} {af:Sl} {H:Hp} {v:AV} {H':Hp} (h:bg.tw F aa af H = some (v,H')):Go.AE.T Try.prog 63 [(.sl aa),(.sl af)] H v H':=
 Go.AE.T.of (Y:=tabs) (C:=mkOrc (bg.cs F (cf.tw F))) (PN:=bg.pn) (LH:=bg.lh F (cf.tw F)) (F:=F) (TB:=bg.tb) (fn:=Try.f63) (code:=bg.code) mixed tabs_ok (mkOrc_ok (bg.cs_ok F)) Try.func63 (by kernel_rfl) (by kernel_rfl) bg.ok (Nat.le_of_ble_eq_true (by kernel_rfl)) (bg.loops F (cf.tw F)) (Eq.trans (bg.eqX F (cf.tw F) aa af H) h)
theorem bg.mk_T {F:Nat} {args:List AV} {H:Hp} {v:AV} {H':Hp} (h:bg.mk (bg.tw F) args H = some (v,H')):Go.AE.T Try.prog 63 args H v H':=by
 unfold bg.mk at h
 split at h
 ·exact bg.T h
 ·cases h
noncomputable def bU.twX (F:Nat) (kl:Sl→Sl→Hp→OA) (aa:Sl) (ab:Int) (ah:Sl) (av:Int) (H:Hp):OA:=(Hp.new H [(.sl aa),(.int .i64 ab)]).bind fun H5=>(Hp.new H5 [(.sl ah),(.int .i64 av)]).bind fun H6=>(Hp.ldSl H6 H.length 0).bind fun s7=>(Hp.ldSl H6 H5.length 0).bind fun s8=>(kl s7 s8 H6).bind fun r9=>((r9.1).asB).bind fun b10=>(bif (!b10) then (some ((.bool false),r9.2)) else ((Hp.ldI r9.2 .i64 H.length 1).bind fun n11=>(Hp.ldI r9.2 .i64 H5.length 1).bind fun n12=>(bif (n11 != n12) then (some ((.bool false),r9.2)) else (some ((.bool true),r9.2)))))
noncomputable def bU.tw (F:Nat) (aa:Sl) (ab:Int) (ah:Sl) (av:Int) (H:Hp):OA:=bU.twX F (bg.tw F) aa ab ah av H
noncomputable def bU.code:Go.Code:=(Try.f20.body).getD .skip
noncomputable def bU.lh (F:Nat) (kl:Sl→Sl→Hp→OA) (p:Nat) (ks:List Nat) (n:Nat) (tm:Tm) (H:Hp):OA:=none
def bU.pn:Nat→List Nat:=fun i=>(([]:List (Nat×List Nat)).lookup i).getD []
def bU.tb:Nat→List (List Nat):=fun i=>(([]:List (Nat×List (List Nat))).lookup i).getD []
noncomputable def bU.mk (g:Sl→Int→Sl→Int→Hp→OA) (args:List AV) (H:Hp):OA:=match args with
 | [(.agg [(.sl aa),(.int .i64 ab)]),(.agg [(.sl ah),(.int .i64 av)])]=>g aa ab ah av H
 | _=>none
noncomputable def bU.cs (F:Nat) (kl:Sl→Sl→Hp→OA):List (FuncId×(List AV→Hp→OA)):=[(63,bg.mk kl)]
theorem bU.loops (F:Nat) (kl:Sl→Sl→Hp→OA):LoopsOk tabs (mkOrc (bU.cs F kl)) bU.pn (bU.lh F kl) F [] 1 bU.code (fun tm H=>aresults tabs.ty H tm Try.f20.results.toList fun v=>some (v,H)) (fun _ _ _=>none) (fun tm H=>aresults tabs.ty H tm Try.f20.results.toList fun v=>some (v,H)):=by
 exact loops_none (by kernel_rfl)
theorem bU.eqX (F:Nat) (kl:Sl→Sl→Hp→OA) (aa:Sl) (ab:Int) (ah:Sl) (av:Int) (H:Hp):aCode tabs (mkOrc (bU.cs F kl)) bU.pn (bU.lh F kl) F [] 1 bU.code (argTm [(.agg [(.sl aa),(.int .i64 ab)]),(.agg [(.sl ah),(.int .i64 av)])]) H (fun tm H=>aresults tabs.ty H tm Try.f20.results.toList fun v=>some (v,H)) (fun _ _ _=>none) (fun tm H=>aresults tabs.ty H tm Try.f20.results.toList fun v=>some (v,H)) = bU.twX F kl aa ab ah av H:=by kernel_rfl
theorem bU.cs_ok (F:Nat):∀ p ∈ bU.cs F (bg.tw F),∀ args H v H',p.2 args H = some (v,H')→Go.AE.T Try.prog p.1 args H v H':=by
 intro p hp
 simp only [bU.cs,List.mem_cons,List.not_mem_nil,or_false] at hp
 subst hp
 exact fun args H v H' h=>bg.mk_T h
theorem bU.ok:codeOk bU.pn Try.f20.ntmps bU.tb bU.code = true:=by kernel_rfl
theorem bU.T {F:Nat} {aa:Sl} {ab:Int} {ah:Sl} {av:Int} {H:Hp} {v:AV} {H':Hp} (h:bU.tw F aa ab ah av H = some (v,H')):Go.AE.T Try.prog 20 [(.agg [(.sl aa),(.int .i64 ab)]),(.agg [(.sl ah),(.int .i64 av)])] H v H':=
 Go.AE.T.of (Y:=tabs) (C:=mkOrc (bU.cs F (bg.tw F))) (PN:=bU.pn) (LH:=bU.lh F (bg.tw F)) (F:=F) (TB:=bU.tb) (fn:=Try.f20) (code:=bU.code) mixed tabs_ok (mkOrc_ok (bU.cs_ok F)) Try.func20 (by kernel_rfl) (by kernel_rfl) bU.ok (Nat.le_of_ble_eq_true (by kernel_rfl)) (bU.loops F (bg.tw F)) (Eq.trans (bU.eqX F (bg.tw F) aa ab ah av H) h)
theorem bU.mk_T {F:Nat} {args:List AV} {H:Hp} {v:AV} {H':Hp} (h:bU.mk (bU.tw F) args H = some (v,H')):Go.AE.T Try.prog 20 args H v H':=by
 unfold bU.mk at h
 split at h
 ·exact bU.T h
 ·cases h
noncomputable def bh.l13 (F:Nat) :Nat→Sl→Int→Int→Hp→OA
 | 0,_,_,_,_=>none
 | gU + 1,bm,aT,bD,H7=>(bif (decide (bD < (bm.n:Int))) then ((Sl.idx bm bD 5).bind fun p18=>(Hp.st H7 p18.1 p18.2 (.int .i64 aT)).bind fun H19=>(Sl.idx bm bD 5).bind fun p20=>(Hp.st H19 p20.1 (p20.2 + 1) (.int .i64 (IntKind.i64.wrap (aT + 1)))).bind fun H21=>(Sl.idx bm bD 5).bind fun p22=>(Hp.st H21 p22.1 (p22.2 + 2) (.int .i64 (IntKind.i64.wrap ((IntKind.i64.wrap (aT + 1)) + 1)))).bind fun H23=>(Sl.idx bm bD 5).bind fun p24=>(Hp.st H23 p24.1 (p24.2 + 3) (.int .i64 (IntKind.i64.wrap ((IntKind.i64.wrap ((IntKind.i64.wrap (aT + 1)) + 1)) + 1)))).bind fun H25=>(Sl.idx bm bD 5).bind fun p26=>(Hp.st H25 p26.1 (p26.2 + 4) (.int .i64 (IntKind.i64.wrap ((IntKind.i64.wrap ((IntKind.i64.wrap ((IntKind.i64.wrap (aT + 1)) + 1)) + 1)) + 1)))).bind fun H27=>bh.l13 F gU bm (IntKind.i64.wrap ((IntKind.i64.wrap ((IntKind.i64.wrap ((IntKind.i64.wrap ((IntKind.i64.wrap (aT + 1)) + 1)) + 1)) + 1)) + 1)) (IntKind.i64.wrap (bD + 1)) H27) else (some ((.int .i64 aT),H7)))
termination_by structural n=>n
noncomputable def bh.twX (F:Nat) (aa:Sl) (af:Int) (H:Hp):OA:=bh.l13 F F aa af 0 H
noncomputable def bh.tw (F:Nat) (aa:Sl) (af:Int) (H:Hp):OA:=bh.twX F aa af H
noncomputable def bh.code:Go.Code:=(Try.f64.body).getD .skip
noncomputable def bh.lh13 (F:Nat) (ks:List Nat) (n:Nat) (tm:Tm) (H:Hp):OA:=match ks,tm 0,tm 1,tm 5 with
 | [],(.sl bm),(.int .i64 aT),(.int .i64 bD)=>bh.l13 F n bm aT bD H
 | _,_,_,_=>none
theorem bh.lh13_inv {F:Nat} {ks:List Nat} {n:Nat} {tm:Tm} {H:Hp} {r:AV×Hp} (h:bh.lh13 F ks n tm H = some r):∃ bm:Sl,∃ aT:Int,∃ bD:Int,ks = []∧tm 0 = (.sl bm)∧tm 1 = (.int .i64 aT)∧tm 5 = (.int .i64 bD)∧bh.l13 F n bm aT bD H = some r:=by
 unfold bh.lh13 at h
 split at h
 ·exact ⟨_,_,_,rfl,by assumption,by assumption,by assumption,h⟩
 ·cases h
noncomputable def bh.lh (F:Nat) (p:Nat) (ks:List Nat) (n:Nat) (tm:Tm) (H:Hp):OA:=bif p.beq 13 then bh.lh13 F ks n tm H else (none)
def bh.pn:Nat→List Nat:=fun i=>(([]:List (Nat×List Nat)).lookup i).getD []
def bh.tb:Nat→List (List Nat):=fun i=>(([]:List (Nat×List (List Nat))).lookup i).getD []
noncomputable def bh.mk (g:Sl→Int→Hp→OA) (args:List AV) (H:Hp):OA:=match args with
 | [(.sl aa),(.int .i64 af)]=>g aa af H
 | _=>none
noncomputable def bh.cs (F:Nat):List (FuncId×(List AV→Hp→OA)):=[]
theorem bh.loops (F:Nat):LoopsOk tabs (mkOrc (bh.cs F)) bh.pn (bh.lh F) F [] 1 bh.code (fun tm H=>aresults tabs.ty H tm Try.f64.results.toList fun v=>some (v,H)) (fun _ _ _=>none) (fun tm H=>aresults tabs.ty H tm Try.f64.results.toList fun v=>some (v,H)):=by
 refine LoopsOk.seq ?_ ?_
 ·exact loops_none (by kernel_rfl)
 ·refine LoopsOk.seq ?_ ?_
  ·refine LoopsOk.seq ?_ ?_
   ·exact loops_none (by kernel_rfl)
   ·refine LoopsOk.block ?_
    refine LoopsOk.loop (fun tm H=>?_) (fun k13 tm H r h0=>?_) (fun k13=>?_)
    ·refine none_of fun r h0=>?_
     obtain ⟨bm,aT,bD,hks,e0,e1,e5,h⟩:=bh.lh13_inv (show bh.lh13 F [] 0 tm H = some r from h0)
     cases h
    ·obtain ⟨bm,aT,bD,hks,e0,e1,e5,h⟩:=bh.lh13_inv (show bh.lh13 F [] (k13 + 1) tm H = some r from h0)
     have q0:(Tm.put tm 0 (.sl bm)) = tm:=by exact Tm.put_same e0
     have q1:(Tm.put (Tm.put tm 0 (.sl bm)) 1 (.int .i64 aT)) = tm:=by rw [q0]; exact Tm.put_same e1
     have q2:(Tm.put (Tm.put (Tm.put tm 0 (.sl bm)) 1 (.int .i64 aT)) 5 (.int .i64 bD)) = tm:=by rw [q1]; exact Tm.put_same e5
     rw [← q2]
     exact Eq.trans (by kernel_rfl) h
    ·exact loops_none (by kernel_rfl)
  ·exact loops_none (by kernel_rfl)
theorem bh.eqX (F:Nat) (aa:Sl) (af:Int) (H:Hp):aCode tabs (mkOrc (bh.cs F)) bh.pn (bh.lh F) F [] 1 bh.code (argTm [(.sl aa),(.int .i64 af)]) H (fun tm H=>aresults tabs.ty H tm Try.f64.results.toList fun v=>some (v,H)) (fun _ _ _=>none) (fun tm H=>aresults tabs.ty H tm Try.f64.results.toList fun v=>some (v,H)) = bh.twX F aa af H:=by kernel_rfl
theorem bh.cs_ok (F:Nat):∀ p ∈ bh.cs F,∀ args H v H',p.2 args H = some (v,H')→Go.AE.T Try.prog p.1 args H v H':=by
 intro p hp
 exact absurd (show p ∈ [] from hp) List.not_mem_nil
theorem bh.ok:codeOk bh.pn Try.f64.ntmps bh.tb bh.code = true:=by kernel_rfl
theorem bh.T {F:Nat} {aa:Sl} {af:Int} {H:Hp} {v:AV} {H':Hp} (h:bh.tw F aa af H = some (v,H')):Go.AE.T Try.prog 64 [(.sl aa),(.int .i64 af)] H v H':=
 Go.AE.T.of (Y:=tabs) (C:=mkOrc (bh.cs F)) (PN:=bh.pn) (LH:=bh.lh F) (F:=F) (TB:=bh.tb) (fn:=Try.f64) (code:=bh.code) mixed tabs_ok (mkOrc_ok (bh.cs_ok F)) Try.func64 (by kernel_rfl) (by kernel_rfl) bh.ok (Nat.le_of_ble_eq_true (by kernel_rfl)) (bh.loops F) (Eq.trans (bh.eqX F aa af H) h)
theorem bh.mk_T {F:Nat} {args:List AV} {H:Hp} {v:AV} {H':Hp} (h:bh.mk (bh.tw F) args H = some (v,H')):Go.AE.T Try.prog 64 args H v H':=by
 unfold bh.mk at h
 split at h
 ·exact bh.T h
 ·cases h
noncomputable def bV.twX (F:Nat) (km:Sl→Int→Hp→OA) (aa:Sl) (ab:Int) (ah:Int) (H:Hp):OA:=(Hp.new H [(.sl aa),(.int .i64 ab)]).bind fun H4=>(Hp.ldSl H4 H.length 0).bind fun s5=>(km s5 ah H4).bind fun r6=>((r6.1).asI .i64).bind fun n7=>some ((.int .i64 n7),r6.2)
noncomputable def bV.tw (F:Nat) (aa:Sl) (ab:Int) (ah:Int) (H:Hp):OA:=bV.twX F (bh.tw F) aa ab ah H
noncomputable def bV.code:Go.Code:=(Try.f21.body).getD .skip
noncomputable def bV.lh (F:Nat) (km:Sl→Int→Hp→OA) (p:Nat) (ks:List Nat) (n:Nat) (tm:Tm) (H:Hp):OA:=none
def bV.pn:Nat→List Nat:=fun i=>(([]:List (Nat×List Nat)).lookup i).getD []
def bV.tb:Nat→List (List Nat):=fun i=>(([]:List (Nat×List (List Nat))).lookup i).getD []
noncomputable def bV.mk (g:Sl→Int→Int→Hp→OA) (args:List AV) (H:Hp):OA:=match args with
 | [(.agg [(.sl aa),(.int .i64 ab)]),(.int .i64 ah)]=>g aa ab ah H
 | _=>none
noncomputable def bV.cs (F:Nat) (km:Sl→Int→Hp→OA):List (FuncId×(List AV→Hp→OA)):=[(64,bh.mk km)]
theorem bV.loops (F:Nat) (km:Sl→Int→Hp→OA):LoopsOk tabs (mkOrc (bV.cs F km)) bV.pn (bV.lh F km) F [] 1 bV.code (fun tm H=>aresults tabs.ty H tm Try.f21.results.toList fun v=>some (v,H)) (fun _ _ _=>none) (fun tm H=>aresults tabs.ty H tm Try.f21.results.toList fun v=>some (v,H)):=by
 exact loops_none (by kernel_rfl)
theorem bV.eqX (F:Nat) (km:Sl→Int→Hp→OA) (aa:Sl) (ab:Int) (ah:Int) (H:Hp):aCode tabs (mkOrc (bV.cs F km)) bV.pn (bV.lh F km) F [] 1 bV.code (argTm [(.agg [(.sl aa),(.int .i64 ab)]),(.int .i64 ah)]) H (fun tm H=>aresults tabs.ty H tm Try.f21.results.toList fun v=>some (v,H)) (fun _ _ _=>none) (fun tm H=>aresults tabs.ty H tm Try.f21.results.toList fun v=>some (v,H)) = bV.twX F km aa ab ah H:=by kernel_rfl
theorem bV.cs_ok (F:Nat):∀ p ∈ bV.cs F (bh.tw F),∀ args H v H',p.2 args H = some (v,H')→Go.AE.T Try.prog p.1 args H v H':=by
 intro p hp
 simp only [bV.cs,List.mem_cons,List.not_mem_nil,or_false] at hp
 subst hp
 exact fun args H v H' h=>bh.mk_T h
theorem bV.ok:codeOk bV.pn Try.f21.ntmps bV.tb bV.code = true:=by kernel_rfl
theorem bV.T {F:Nat} {aa:Sl} {ab:Int} {ah:Int} {H:Hp} {v:AV} {H':Hp} (h:bV.tw F aa ab ah H = some (v,H')):Go.AE.T Try.prog 21 [(.agg [(.sl aa),(.int .i64 ab)]),(.int .i64 ah)] H v H':=
 Go.AE.T.of (Y:=tabs) (C:=mkOrc (bV.cs F (bh.tw F))) (PN:=bV.pn) (LH:=bV.lh F (bh.tw F)) (F:=F) (TB:=bV.tb) (fn:=Try.f21) (code:=bV.code) mixed tabs_ok (mkOrc_ok (bV.cs_ok F)) Try.func21 (by kernel_rfl) (by kernel_rfl) bV.ok (Nat.le_of_ble_eq_true (by kernel_rfl)) (bV.loops F (bh.tw F)) (Eq.trans (bV.eqX F (bh.tw F) aa ab ah H) h)
theorem bV.mk_T {F:Nat} {args:List AV} {H:Hp} {v:AV} {H':Hp} (h:bV.mk (bV.tw F) args H = some (v,H')):Go.AE.T Try.prog 21 args H v H':=by
 unfold bV.mk at h
 split at h
 ·exact bV.T h
 ·cases h
noncomputable def bi.l13 (F:Nat) :Nat→Sl→Int→Int→Hp→OA
 | 0,_,_,_,_=>none
 | gU + 1,bm,aT,bD,H7=>(bif (decide (bD < (bm.n:Int))) then ((Sl.idx bm bD 1).bind fun p10=>(Hp.st H7 p10.1 p10.2 (.int .i64 aT)).bind fun H11=>bi.l13 F gU bm (IntKind.i64.wrap (aT + 1)) (IntKind.i64.wrap (bD + 1)) H11) else (some ((.int .i64 aT),H7)))
termination_by structural n=>n
noncomputable def bi.twX (F:Nat) (aa:Sl) (af:Int) (H:Hp):OA:=bi.l13 F F aa af 0 H
noncomputable def bi.tw (F:Nat) (aa:Sl) (af:Int) (H:Hp):OA:=bi.twX F aa af H
noncomputable def bi.code:Go.Code:=(Try.f22.body).getD .skip
noncomputable def bi.lh13 (F:Nat) (ks:List Nat) (n:Nat) (tm:Tm) (H:Hp):OA:=match ks,tm 0,tm 1,tm 5 with
 | [],(.sl bm),(.int .i64 aT),(.int .i64 bD)=>bi.l13 F n bm aT bD H
 | _,_,_,_=>none
theorem bi.lh13_inv {F:Nat} {ks:List Nat} {n:Nat} {tm:Tm} {H:Hp} {r:AV×Hp} (h:bi.lh13 F ks n tm H = some r):∃ bm:Sl,∃ aT:Int,∃ bD:Int,ks = []∧tm 0 = (.sl bm)∧tm 1 = (.int .i64 aT)∧tm 5 = (.int .i64 bD)∧bi.l13 F n bm aT bD H = some r:=by
 unfold bi.lh13 at h
 split at h
 ·exact ⟨_,_,_,rfl,by assumption,by assumption,by assumption,h⟩
 ·cases h
noncomputable def bi.lh (F:Nat) (p:Nat) (ks:List Nat) (n:Nat) (tm:Tm) (H:Hp):OA:=bif p.beq 13 then bi.lh13 F ks n tm H else (none)
def bi.pn:Nat→List Nat:=fun i=>(([]:List (Nat×List Nat)).lookup i).getD []
def bi.tb:Nat→List (List Nat):=fun i=>(([]:List (Nat×List (List Nat))).lookup i).getD []
noncomputable def bi.mk (g:Sl→Int→Hp→OA) (args:List AV) (H:Hp):OA:=match args with
 | [(.sl aa),(.int .i64 af)]=>g aa af H
 | _=>none
noncomputable def bi.cs (F:Nat):List (FuncId×(List AV→Hp→OA)):=[]
theorem bi.loops (F:Nat):LoopsOk tabs (mkOrc (bi.cs F)) bi.pn (bi.lh F) F [] 1 bi.code (fun tm H=>aresults tabs.ty H tm Try.f22.results.toList fun v=>some (v,H)) (fun _ _ _=>none) (fun tm H=>aresults tabs.ty H tm Try.f22.results.toList fun v=>some (v,H)):=by
 refine LoopsOk.seq ?_ ?_
 ·exact loops_none (by kernel_rfl)
 ·refine LoopsOk.seq ?_ ?_
  ·refine LoopsOk.seq ?_ ?_
   ·exact loops_none (by kernel_rfl)
   ·refine LoopsOk.block ?_
    refine LoopsOk.loop (fun tm H=>?_) (fun k13 tm H r h0=>?_) (fun k13=>?_)
    ·refine none_of fun r h0=>?_
     obtain ⟨bm,aT,bD,hks,e0,e1,e5,h⟩:=bi.lh13_inv (show bi.lh13 F [] 0 tm H = some r from h0)
     cases h
    ·obtain ⟨bm,aT,bD,hks,e0,e1,e5,h⟩:=bi.lh13_inv (show bi.lh13 F [] (k13 + 1) tm H = some r from h0)
     have q0:(Tm.put tm 0 (.sl bm)) = tm:=by exact Tm.put_same e0
     have q1:(Tm.put (Tm.put tm 0 (.sl bm)) 1 (.int .i64 aT)) = tm:=by rw [q0]; exact Tm.put_same e1
     have q2:(Tm.put (Tm.put (Tm.put tm 0 (.sl bm)) 1 (.int .i64 aT)) 5 (.int .i64 bD)) = tm:=by rw [q1]; exact Tm.put_same e5
     rw [← q2]
     exact Eq.trans (by kernel_rfl) h
    ·exact loops_none (by kernel_rfl)
  ·exact loops_none (by kernel_rfl)
theorem bi.eqX (F:Nat) (aa:Sl) (af:Int) (H:Hp):aCode tabs (mkOrc (bi.cs F)) bi.pn (bi.lh F) F [] 1 bi.code (argTm [(.sl aa),(.int .i64 af)]) H (fun tm H=>aresults tabs.ty H tm Try.f22.results.toList fun v=>some (v,H)) (fun _ _ _=>none) (fun tm H=>aresults tabs.ty H tm Try.f22.results.toList fun v=>some (v,H)) = bi.twX F aa af H:=by kernel_rfl
theorem bi.cs_ok (F:Nat):∀ p ∈ bi.cs F,∀ args H v H',p.2 args H = some (v,H')→Go.AE.T Try.prog p.1 args H v H':=by
 intro p hp
 exact absurd (show p ∈ [] from hp) List.not_mem_nil
theorem bi.ok:codeOk bi.pn Try.f22.ntmps bi.tb bi.code = true:=by kernel_rfl
theorem bi.T {F:Nat} {aa:Sl} {af:Int} {H:Hp} {v:AV} {H':Hp} (h:bi.tw F aa af H = some (v,H')):Go.AE.T Try.prog 22 [(.sl aa),(.int .i64 af)] H v H':=
 Go.AE.T.of (Y:=tabs) (C:=mkOrc (bi.cs F)) (PN:=bi.pn) (LH:=bi.lh F) (F:=F) (TB:=bi.tb) (fn:=Try.f22) (code:=bi.code) mixed tabs_ok (mkOrc_ok (bi.cs_ok F)) Try.func22 (by kernel_rfl) (by kernel_rfl) bi.ok (Nat.le_of_ble_eq_true (by kernel_rfl)) (bi.loops F) (Eq.trans (bi.eqX F aa af H) h)
theorem bi.mk_T {F:Nat} {args:List AV} {H:Hp} {v:AV} {H':Hp} (h:bi.mk (bi.tw F) args H = some (v,H')):Go.AE.T Try.prog 22 args H v H':=by
 unfold bi.mk at h
 split at h
 ·exact bi.T h
 ·cases h
noncomputable def cg.twX (F:Nat) (kn:Sl→Int→Hp→OA) (aa:Int) (ab:Int) (ay:Sl) (av:Int) (H:Hp):OA:=(Hp.new H [(.int .i64 aa),(.int .i64 ab),(.sl ay)]).bind fun H5=>(Hp.ldSl H5 H.length 2).bind fun s6=>(kn s6 av H5).bind fun r7=>((r7.1).asI .i64).bind fun n8=>some ((.int .i64 n8),r7.2)
noncomputable def cg.tw (F:Nat) (aa:Int) (ab:Int) (ay:Sl) (av:Int) (H:Hp):OA:=cg.twX F (bi.tw F) aa ab ay av H
noncomputable def cg.code:Go.Code:=(Try.f36.body).getD .skip
noncomputable def cg.lh (F:Nat) (kn:Sl→Int→Hp→OA) (p:Nat) (ks:List Nat) (n:Nat) (tm:Tm) (H:Hp):OA:=none
def cg.pn:Nat→List Nat:=fun i=>(([]:List (Nat×List Nat)).lookup i).getD []
def cg.tb:Nat→List (List Nat):=fun i=>(([]:List (Nat×List (List Nat))).lookup i).getD []
noncomputable def cg.mk (g:Int→Int→Sl→Int→Hp→OA) (args:List AV) (H:Hp):OA:=match args with
 | [(.agg [(.int .i64 aa),(.int .i64 ab),(.sl ay)]),(.int .i64 av)]=>g aa ab ay av H
 | _=>none
noncomputable def cg.cs (F:Nat) (kn:Sl→Int→Hp→OA):List (FuncId×(List AV→Hp→OA)):=[(22,bi.mk kn)]
theorem cg.loops (F:Nat) (kn:Sl→Int→Hp→OA):LoopsOk tabs (mkOrc (cg.cs F kn)) cg.pn (cg.lh F kn) F [] 1 cg.code (fun tm H=>aresults tabs.ty H tm Try.f36.results.toList fun v=>some (v,H)) (fun _ _ _=>none) (fun tm H=>aresults tabs.ty H tm Try.f36.results.toList fun v=>some (v,H)):=by
 exact loops_none (by kernel_rfl)
theorem cg.eqX (F:Nat) (kn:Sl→Int→Hp→OA) (aa:Int) (ab:Int) (ay:Sl) (av:Int) (H:Hp):aCode tabs (mkOrc (cg.cs F kn)) cg.pn (cg.lh F kn) F [] 1 cg.code (argTm [(.agg [(.int .i64 aa),(.int .i64 ab),(.sl ay)]),(.int .i64 av)]) H (fun tm H=>aresults tabs.ty H tm Try.f36.results.toList fun v=>some (v,H)) (fun _ _ _=>none) (fun tm H=>aresults tabs.ty H tm Try.f36.results.toList fun v=>some (v,H)) = cg.twX F kn aa ab ay av H:=by kernel_rfl
theorem cg.cs_ok (F:Nat):∀ p ∈ cg.cs F (bi.tw F),∀ args H v H',p.2 args H = some (v,H')→Go.AE.T Try.prog p.1 args H v H':=by
 intro p hp
 simp only [cg.cs,List.mem_cons,List.not_mem_nil,or_false] at hp
 subst hp
 exact fun args H v H' h=>bi.mk_T h
theorem cg.ok:codeOk cg.pn Try.f36.ntmps cg.tb cg.code = true:=by kernel_rfl
theorem cg.T {F:Nat} {aa:Int} {ab:Int} {ay:Sl} {av:Int} {H:Hp} {v:AV} {H':Hp} (h:cg.tw F aa ab ay av H = some (v,H')):Go.AE.T Try.prog 36 [(.agg [(.int .i64 aa),(.int .i64 ab),(.sl ay)]),(.int .i64 av)] H v H':=
 Go.AE.T.of (Y:=tabs) (C:=mkOrc (cg.cs F (bi.tw F))) (PN:=cg.pn) (LH:=cg.lh F (bi.tw F)) (F:=F) (TB:=cg.tb) (fn:=Try.f36) (code:=cg.code) mixed tabs_ok (mkOrc_ok (cg.cs_ok F)) Try.func36 (by kernel_rfl) (by kernel_rfl) cg.ok (Nat.le_of_ble_eq_true (by kernel_rfl)) (cg.loops F (bi.tw F)) (Eq.trans (cg.eqX F (bi.tw F) aa ab ay av H) h)
theorem cg.mk_T {F:Nat} {args:List AV} {H:Hp} {v:AV} {H':Hp} (h:cg.mk (cg.tw F) args H = some (v,H')):Go.AE.T Try.prog 36 args H v H':=by
 unfold cg.mk at h
 split at h
 ·exact cg.T h
 ·cases h
noncomputable def a_.l13 (F:Nat) :Nat→Sl→Int→Int→Hp→OA
 | 0,_,_,_,_=>none
 | gU + 1,bm,aT,bD,H7=>(bif (decide (bD < (bm.n:Int))) then ((Sl.idx bm bD 1).bind fun p10=>(Hp.ldI H7 .i64 p10.1 p10.2).bind fun n11=>(bif (n11 != aT) then (some ((.int .i64 (-1)),H7)) else (a_.l13 F gU bm (IntKind.i64.wrap (aT + 1)) (IntKind.i64.wrap (bD + 1)) H7))) else (some ((.int .i64 aT),H7)))
termination_by structural n=>n
noncomputable def a_.twX (F:Nat) (aa:Sl) (af:Int) (H:Hp):OA:=a_.l13 F F aa af 0 H
noncomputable def a_.tw (F:Nat) (aa:Sl) (af:Int) (H:Hp):OA:=a_.twX F aa af H
noncomputable def a_.code:Go.Code:=(Try.f23.body).getD .skip
noncomputable def a_.lh13 (F:Nat) (ks:List Nat) (n:Nat) (tm:Tm) (H:Hp):OA:=match ks,tm 0,tm 1,tm 5 with
 | [],(.sl bm),(.int .i64 aT),(.int .i64 bD)=>a_.l13 F n bm aT bD H
 | _,_,_,_=>none
theorem a_.lh13_inv {F:Nat} {ks:List Nat} {n:Nat} {tm:Tm} {H:Hp} {r:AV×Hp} (h:a_.lh13 F ks n tm H = some r):∃ bm:Sl,∃ aT:Int,∃ bD:Int,ks = []∧tm 0 = (.sl bm)∧tm 1 = (.int .i64 aT)∧tm 5 = (.int .i64 bD)∧a_.l13 F n bm aT bD H = some r:=by
 unfold a_.lh13 at h
 split at h
 ·exact ⟨_,_,_,rfl,by assumption,by assumption,by assumption,h⟩
 ·cases h
noncomputable def a_.lh (F:Nat) (p:Nat) (ks:List Nat) (n:Nat) (tm:Tm) (H:Hp):OA:=bif p.beq 13 then a_.lh13 F ks n tm H else (none)
def a_.pn:Nat→List Nat:=fun i=>(([]:List (Nat×List Nat)).lookup i).getD []
def a_.tb:Nat→List (List Nat):=fun i=>(([]:List (Nat×List (List Nat))).lookup i).getD []
noncomputable def a_.mk (g:Sl→Int→Hp→OA) (args:List AV) (H:Hp):OA:=match args with
 | [(.sl aa),(.int .i64 af)]=>g aa af H
 | _=>none
noncomputable def a_.cs (F:Nat):List (FuncId×(List AV→Hp→OA)):=[]
theorem a_.loops (F:Nat):LoopsOk tabs (mkOrc (a_.cs F)) a_.pn (a_.lh F) F [] 1 a_.code (fun tm H=>aresults tabs.ty H tm Try.f23.results.toList fun v=>some (v,H)) (fun _ _ _=>none) (fun tm H=>aresults tabs.ty H tm Try.f23.results.toList fun v=>some (v,H)):=by
 refine LoopsOk.seq ?_ ?_
 ·exact loops_none (by kernel_rfl)
 ·refine LoopsOk.seq ?_ ?_
  ·refine LoopsOk.seq ?_ ?_
   ·exact loops_none (by kernel_rfl)
   ·refine LoopsOk.block ?_
    refine LoopsOk.loop (fun tm H=>?_) (fun k13 tm H r h0=>?_) (fun k13=>?_)
    ·refine none_of fun r h0=>?_
     obtain ⟨bm,aT,bD,hks,e0,e1,e5,h⟩:=a_.lh13_inv (show a_.lh13 F [] 0 tm H = some r from h0)
     cases h
    ·obtain ⟨bm,aT,bD,hks,e0,e1,e5,h⟩:=a_.lh13_inv (show a_.lh13 F [] (k13 + 1) tm H = some r from h0)
     have q0:(Tm.put tm 0 (.sl bm)) = tm:=by exact Tm.put_same e0
     have q1:(Tm.put (Tm.put tm 0 (.sl bm)) 1 (.int .i64 aT)) = tm:=by rw [q0]; exact Tm.put_same e1
     have q2:(Tm.put (Tm.put (Tm.put tm 0 (.sl bm)) 1 (.int .i64 aT)) 5 (.int .i64 bD)) = tm:=by rw [q1]; exact Tm.put_same e5
     rw [← q2]
     exact Eq.trans (by kernel_rfl) h
    ·exact loops_none (by kernel_rfl)
  ·exact loops_none (by kernel_rfl)
theorem a_.eqX (F:Nat) (aa:Sl) (af:Int) (H:Hp):aCode tabs (mkOrc (a_.cs F)) a_.pn (a_.lh F) F [] 1 a_.code (argTm [(.sl aa),(.int .i64 af)]) H (fun tm H=>aresults tabs.ty H tm Try.f23.results.toList fun v=>some (v,H)) (fun _ _ _=>none) (fun tm H=>aresults tabs.ty H tm Try.f23.results.toList fun v=>some (v,H)) = a_.twX F aa af H:=by kernel_rfl
theorem a_.cs_ok (F:Nat):∀ p ∈ a_.cs F,∀ args H v H',p.2 args H = some (v,H')→Go.AE.T Try.prog p.1 args H v H':=by
 intro p hp
 exact absurd (show p ∈ [] from hp) List.not_mem_nil
theorem a_.ok:codeOk a_.pn Try.f23.ntmps a_.tb a_.code = true:=by kernel_rfl
theorem a_.T {F:Nat} {aa:Sl} {af:Int} {H:Hp} {v:AV} {H':Hp} (h:a_.tw F aa af H = some (v,H')):Go.AE.T Try.prog 23 [(.sl aa),(.int .i64 af)] H v H':=
 Go.AE.T.of (Y:=tabs) (C:=mkOrc (a_.cs F)) (PN:=a_.pn) (LH:=a_.lh F) (F:=F) (TB:=a_.tb) (fn:=Try.f23) (code:=a_.code) mixed tabs_ok (mkOrc_ok (a_.cs_ok F)) Try.func23 (by kernel_rfl) (by kernel_rfl) a_.ok (Nat.le_of_ble_eq_true (by kernel_rfl)) (a_.loops F) (Eq.trans (a_.eqX F aa af H) h)
theorem a_.mk_T {F:Nat} {args:List AV} {H:Hp} {v:AV} {H':Hp} (h:a_.mk (a_.tw F) args H = some (v,H')):Go.AE.T Try.prog 23 args H v H':=by
 unfold a_.mk at h
 split at h
 ·exact a_.T h
 ·cases h
noncomputable def bR.twX (F:Nat) (ko:Sl→Int→Hp→OA) (aa:Int) (ab:Int) (ay:Sl) (av:Int) (H:Hp):OA:=(Hp.new H [(.int .i64 aa),(.int .i64 ab),(.sl ay)]).bind fun H5=>(Hp.ldSl H5 H.length 2).bind fun s6=>(ko s6 av H5).bind fun r7=>((r7.1).asI .i64).bind fun n8=>(bif (decide (n8 < 0)) then (some ((.int .i64 (-1)),r7.2)) else (some ((.int .i64 n8),r7.2)))
noncomputable def bR.tw (F:Nat) (aa:Int) (ab:Int) (ay:Sl) (av:Int) (H:Hp):OA:=bR.twX F (a_.tw F) aa ab ay av H
noncomputable def bR.code:Go.Code:=(Try.f37.body).getD .skip
noncomputable def bR.lh (F:Nat) (ko:Sl→Int→Hp→OA) (p:Nat) (ks:List Nat) (n:Nat) (tm:Tm) (H:Hp):OA:=none
def bR.pn:Nat→List Nat:=fun i=>(([]:List (Nat×List Nat)).lookup i).getD []
def bR.tb:Nat→List (List Nat):=fun i=>(([]:List (Nat×List (List Nat))).lookup i).getD []
noncomputable def bR.mk (g:Int→Int→Sl→Int→Hp→OA) (args:List AV) (H:Hp):OA:=match args with
 | [(.agg [(.int .i64 aa),(.int .i64 ab),(.sl ay)]),(.int .i64 av)]=>g aa ab ay av H
 | _=>none
noncomputable def bR.cs (F:Nat) (ko:Sl→Int→Hp→OA):List (FuncId×(List AV→Hp→OA)):=[(23,a_.mk ko)]
theorem bR.loops (F:Nat) (ko:Sl→Int→Hp→OA):LoopsOk tabs (mkOrc (bR.cs F ko)) bR.pn (bR.lh F ko) F [] 1 bR.code (fun tm H=>aresults tabs.ty H tm Try.f37.results.toList fun v=>some (v,H)) (fun _ _ _=>none) (fun tm H=>aresults tabs.ty H tm Try.f37.results.toList fun v=>some (v,H)):=by
 exact loops_none (by kernel_rfl)
theorem bR.eqX (F:Nat) (ko:Sl→Int→Hp→OA) (aa:Int) (ab:Int) (ay:Sl) (av:Int) (H:Hp):aCode tabs (mkOrc (bR.cs F ko)) bR.pn (bR.lh F ko) F [] 1 bR.code (argTm [(.agg [(.int .i64 aa),(.int .i64 ab),(.sl ay)]),(.int .i64 av)]) H (fun tm H=>aresults tabs.ty H tm Try.f37.results.toList fun v=>some (v,H)) (fun _ _ _=>none) (fun tm H=>aresults tabs.ty H tm Try.f37.results.toList fun v=>some (v,H)) = bR.twX F ko aa ab ay av H:=by kernel_rfl
theorem bR.cs_ok (F:Nat):∀ p ∈ bR.cs F (a_.tw F),∀ args H v H',p.2 args H = some (v,H')→Go.AE.T Try.prog p.1 args H v H':=by
 intro p hp
 simp only [bR.cs,List.mem_cons,List.not_mem_nil,or_false] at hp
 subst hp
 exact fun args H v H' h=>a_.mk_T h
theorem bR.ok:codeOk bR.pn Try.f37.ntmps bR.tb bR.code = true:=by kernel_rfl
theorem bR.T {F:Nat} {aa:Int} {ab:Int} {ay:Sl} {av:Int} {H:Hp} {v:AV} {H':Hp} (h:bR.tw F aa ab ay av H = some (v,H')):Go.AE.T Try.prog 37 [(.agg [(.int .i64 aa),(.int .i64 ab),(.sl ay)]),(.int .i64 av)] H v H':=
 Go.AE.T.of (Y:=tabs) (C:=mkOrc (bR.cs F (a_.tw F))) (PN:=bR.pn) (LH:=bR.lh F (a_.tw F)) (F:=F) (TB:=bR.tb) (fn:=Try.f37) (code:=bR.code) mixed tabs_ok (mkOrc_ok (bR.cs_ok F)) Try.func37 (by kernel_rfl) (by kernel_rfl) bR.ok (Nat.le_of_ble_eq_true (by kernel_rfl)) (bR.loops F (a_.tw F)) (Eq.trans (bR.eqX F (a_.tw F) aa ab ay av H) h)
theorem bR.mk_T {F:Nat} {args:List AV} {H:Hp} {v:AV} {H':Hp} (h:bR.mk (bR.tw F) args H = some (v,H')):Go.AE.T Try.prog 37 args H v H':=by
 unfold bR.mk at h
 split at h
 ·exact bR.T h
 ·cases h
noncomputable def cq.twX (F:Nat) (kp:Sl→Int→Int→Hp→OA) (iT:Sl→Int→Hp→OA) (kq:Sl→Int→Int→Hp→OA) (jH:Sl→Int→Int→Hp→OA) (jn:Int→Int→Sl→Int→Int→Sl→Hp→OA) (kr:Sl→Int→Sl→Int→Hp→OA) (kt:Sl→Int→Int→Hp→OA) (ku:Int→Int→Sl→Int→Hp→OA) (jI:Int→Int→Sl→Int→Hp→OA) (aa:Sl) (ab:Int) (ah:Int) (H:Hp):OA:=(Hp.new H [(.sl aa),(.int .i64 ab)]).bind fun H4=>(Hp.ldSl H4 H.length 0).bind fun s5=>(Hp.ldI H4 .i64 H.length (0 + 1)).bind fun n6=>(kp s5 n6 1048576 H4).bind fun r7=>((r7.1).asI .i64).bind fun n8=>(bif (decide (n8 < 0)) then (some ((.bool true),r7.2)) else ((Hp.ldSl r7.2 H.length 0).bind fun s9=>(Hp.ldI r7.2 .i64 H.length (0 + 1)).bind fun n10=>(iT s9 n10 r7.2).bind fun r11=>((r11.1).asAgg 2).bind fun l12=>(l12[0]?).bind fun v13=>((v13).asSl).bind fun s14=>(l12[1]?).bind fun v15=>((v15).asI .i64).bind fun n16=>(kq s14 n16 ah r11.2).bind fun r17=>((r17.1).asTup 2).bind fun l18=>(l18[0]?).bind fun v19=>((v19).asAgg 3).bind fun l20=>(l20[0]?).bind fun v21=>((v21).asI .i64).bind fun n22=>(l20[1]?).bind fun v23=>((v23).asI .i64).bind fun n24=>(l20[2]?).bind fun v25=>((v25).asSl).bind fun s26=>(l18[1]?).bind fun v27=>((v27).asI .i64).bind fun n28=>(Hp.new r17.2 [.int .i64 0,.int .i64 0,.sl ⟨none,0,.ex 0⟩]).bind fun H29=>(Hp.st H29 r17.2.length 0 (.int .i64 n22)).bind fun H30=>(Hp.st H30 r17.2.length (0 + 1) (.int .i64 n24)).bind fun H31=>(Hp.st H31 r17.2.length (0 + 1 + 1) (.sl s26)).bind fun H32=>(Hp.ldSl H32 H.length 0).bind fun s33=>(Hp.ldI H32 .i64 H.length (0 + 1)).bind fun n34=>(iT s33 n34 H32).bind fun r35=>((r35.1).asAgg 2).bind fun l36=>(l36[0]?).bind fun v37=>((v37).asSl).bind fun s38=>(l36[1]?).bind fun v39=>((v39).asI .i64).bind fun n40=>(Hp.new r35.2 [.sl ⟨none,0,.ex 0⟩,.int .i64 0]).bind fun H41=>(Hp.st H41 r35.2.length 0 (.sl s38)).bind fun H42=>(Hp.st H42 r35.2.length (0 + 1) (.int .i64 n40)).bind fun H43=>(Hp.ldSl H43 r35.2.length 0).bind fun s44=>(Hp.ldI H43 .i64 r35.2.length (0 + 1)).bind fun n45=>(jH s44 n45 ah H43).bind fun r46=>((r46.1).asTup 2).bind fun l47=>(l47[0]?).bind fun v48=>((v48).asAgg 3).bind fun l49=>(l49[0]?).bind fun v50=>((v50).asI .i64).bind fun n51=>(l49[1]?).bind fun v52=>((v52).asI .i64).bind fun n53=>(l49[2]?).bind fun v54=>((v54).asSl).bind fun s55=>(l47[1]?).bind fun v56=>((v56).asI .i64).bind fun n57=>(Hp.new r46.2 [.int .i64 0,.int .i64 0,.sl ⟨none,0,.ex 0⟩]).bind fun H58=>(Hp.st H58 r46.2.length 0 (.int .i64 n51)).bind fun H59=>(Hp.st H59 r46.2.length (0 + 1) (.int .i64 n53)).bind fun H60=>(Hp.st H60 r46.2.length (0 + 1 + 1) (.sl s55)).bind fun H61=>(Hp.ldI H61 .i64 r46.2.length 0).bind fun n62=>(Hp.ldI H61 .i64 r46.2.length (0 + 1)).bind fun n63=>(Hp.ldSl H61 r46.2.length (0 + 2)).bind fun s64=>(Hp.ldI H61 .i64 r17.2.length 0).bind fun n65=>(Hp.ldI H61 .i64 r17.2.length (0 + 1)).bind fun n66=>(Hp.ldSl H61 r17.2.length (0 + 2)).bind fun s67=>(jn n62 n63 s64 n65 n66 s67 H61).bind fun r68=>((r68.1).asB).bind fun b69=>(bif (!b69) then (some ((.bool false),r68.2)) else ((bif (n57 != n28) then (some ((.bool false),r68.2)) else ((Hp.ldSl r68.2 r35.2.length 0).bind fun s70=>(Hp.ldI r68.2 .i64 r35.2.length (0 + 1)).bind fun n71=>(Hp.ldSl r68.2 H.length 0).bind fun s72=>(Hp.ldI r68.2 .i64 H.length (0 + 1)).bind fun n73=>(iT s72 n73 r68.2).bind fun r74=>((r74.1).asAgg 2).bind fun l75=>(l75[0]?).bind fun v76=>((v76).asSl).bind fun s77=>(l75[1]?).bind fun v78=>((v78).asI .i64).bind fun n79=>(if Cons r68.2 r74.2 then ((kr s70 n71 s77 n79 r74.2).bind fun r80=>((r80.1).asB).bind fun b81=>(bif (!b81) then (some ((.bool false),r80.2)) else ((Hp.ldSl r80.2 r35.2.length 0).bind fun s82=>(Hp.ldI r80.2 .i64 r35.2.length (0 + 1)).bind fun n83=>(kt s82 n83 1 r80.2).bind fun r84=>((r84.1).asI .i64).bind fun n85=>(bif (decide (n85 < 0)) then (some ((.bool false),r84.2)) else ((Hp.ldI r84.2 .i64 r46.2.length 0).bind fun n86=>(Hp.ldI r84.2 .i64 r46.2.length (0 + 1)).bind fun n87=>(Hp.ldSl r84.2 r46.2.length (0 + 2)).bind fun s88=>(Hp.ldI r84.2 .i64 r17.2.length 0).bind fun n89=>(Hp.ldI r84.2 .i64 r17.2.length (0 + 1)).bind fun n90=>(Hp.ldSl r84.2 r17.2.length (0 + 2)).bind fun s91=>(jn n86 n87 s88 n89 n90 s91 r84.2).bind fun r92=>((r92.1).asB).bind fun b93=>(bif (!b93) then (some ((.bool false),r92.2)) else ((bif (n57 != n28) then (some ((.bool false),r92.2)) else ((Hp.ldI r92.2 .i64 r46.2.length 0).bind fun n94=>(Hp.ldI r92.2 .i64 r46.2.length (0 + 1)).bind fun n95=>(Hp.ldSl r92.2 r46.2.length (0 + 2)).bind fun s96=>(ku n94 n95 s96 1 r92.2).bind fun r97=>((r97.1).asI .i64).bind fun n98=>(Hp.ldI r97.2 .i64 r46.2.length 0).bind fun n99=>(Hp.ldI r97.2 .i64 r46.2.length (0 + 1)).bind fun n100=>(Hp.ldSl r97.2 r46.2.length (0 + 2)).bind fun s101=>(jI n99 n100 s101 1 r97.2).bind fun r102=>((r102.1).asI .i64).bind fun n103=>(bif (decide (n103 < 0)) then (some ((.bool false),r102.2)) else ((bif (n103 != n98) then (some ((.bool false),r102.2)) else ((Hp.ldSl r102.2 H.length 0).bind fun s104=>(Hp.ldI r102.2 .i64 H.length (0 + 1)).bind fun n105=>(iT s104 n105 r102.2).bind fun r106=>((r106.1).asAgg 2).bind fun l107=>(l107[0]?).bind fun v108=>((v108).asSl).bind fun s109=>(l107[1]?).bind fun v110=>((v110).asI .i64).bind fun n111=>(jH s109 n111 ah r106.2).bind fun r112=>((r112.1).asTup 2).bind fun l113=>(l113[0]?).bind fun v114=>((v114).asAgg 3).bind fun l115=>(l115[0]?).bind fun v116=>((v116).asI .i64).bind fun n117=>(l115[1]?).bind fun v118=>((v118).asI .i64).bind fun n119=>(l115[2]?).bind fun v120=>((v120).asSl).bind fun s121=>(l113[1]?).bind fun v122=>((v122).asI .i64).bind fun n123=>(Hp.new r112.2 [.int .i64 0,.int .i64 0,.sl ⟨none,0,.ex 0⟩]).bind fun H124=>(Hp.st H124 r112.2.length 0 (.int .i64 n117)).bind fun H125=>(Hp.st H125 r112.2.length (0 + 1) (.int .i64 n119)).bind fun H126=>(Hp.st H126 r112.2.length (0 + 1 + 1) (.sl s121)).bind fun H127=>(Hp.ldI H127 .i64 r112.2.length 0).bind fun n128=>(Hp.ldI H127 .i64 r112.2.length (0 + 1)).bind fun n129=>(Hp.ldSl H127 r112.2.length (0 + 2)).bind fun s130=>(Hp.ldI H127 .i64 r17.2.length 0).bind fun n131=>(Hp.ldI H127 .i64 r17.2.length (0 + 1)).bind fun n132=>(Hp.ldSl H127 r17.2.length (0 + 2)).bind fun s133=>(jn n128 n129 s130 n131 n132 s133 H127).bind fun r134=>((r134.1).asB).bind fun b135=>(bif (!b135) then (some ((.bool false),r134.2)) else ((bif (n123 != n28) then (some ((.bool false),r134.2)) else ((Hp.ldI r134.2 .i64 r46.2.length 0).bind fun n136=>(Hp.ldI r134.2 .i64 r46.2.length (0 + 1)).bind fun n137=>(Hp.ldSl r134.2 r46.2.length (0 + 2)).bind fun s138=>(jI n136 n137 s138 1 r134.2).bind fun r139=>((r139.1).asI .i64).bind fun n140=>(bif (decide (n140 < 0)) then (some ((.bool false),r139.2)) else ((bif (n140 != n98) then (some ((.bool false),r139.2)) else (some ((.bool true),r139.2)))))))))))))))))))))) else none)))))))
noncomputable def cq.tw (F:Nat) (aa:Sl) (ab:Int) (ah:Int) (H:Hp):OA:=cq.twX F (bN.tw F) (bE.tw F) (bS.tw F) (bP.tw F) (bM.tw F) (bU.tw F) (bV.tw F) (cg.tw F) (bR.tw F) aa ab ah H
noncomputable def cq.code:Go.Code:=(Try.f11.body).getD .skip
noncomputable def cq.lh (F:Nat) (kp:Sl→Int→Int→Hp→OA) (iT:Sl→Int→Hp→OA) (kq:Sl→Int→Int→Hp→OA) (jH:Sl→Int→Int→Hp→OA) (jn:Int→Int→Sl→Int→Int→Sl→Hp→OA) (kr:Sl→Int→Sl→Int→Hp→OA) (kt:Sl→Int→Int→Hp→OA) (ku:Int→Int→Sl→Int→Hp→OA) (jI:Int→Int→Sl→Int→Hp→OA) (p:Nat) (ks:List Nat) (n:Nat) (tm:Tm) (H:Hp):OA:=none
def cq.pn:Nat→List Nat:=fun i=>(([(10,[3])]:List (Nat×List Nat)).lookup i).getD []
def cq.tb:Nat→List (List Nat):=fun i=>(([(10,[[],[],[1],[0,1,2],[0,1,2,3]])]:List (Nat×List (List Nat))).lookup i).getD []
noncomputable def cq.mk (g:Sl→Int→Int→Hp→OA) (args:List AV) (H:Hp):OA:=match args with
 | [(.agg [(.sl aa),(.int .i64 ab)]),(.int .i64 ah)]=>g aa ab ah H
 | _=>none
noncomputable def cq.cs (F:Nat) (kp:Sl→Int→Int→Hp→OA) (iT:Sl→Int→Hp→OA) (kq:Sl→Int→Int→Hp→OA) (jH:Sl→Int→Int→Hp→OA) (jn:Int→Int→Sl→Int→Int→Sl→Hp→OA) (kr:Sl→Int→Sl→Int→Hp→OA) (kt:Sl→Int→Int→Hp→OA) (ku:Int→Int→Sl→Int→Hp→OA) (jI:Int→Int→Sl→Int→Hp→OA):List (FuncId×(List AV→Hp→OA)):=[(15,bN.mk kp),(17,bE.mk iT),(45,bS.mk kq),(46,bP.mk jH),(35,bM.mk jn),(20,bU.mk kr),(21,bV.mk kt),(36,cg.mk ku),(37,bR.mk jI)]
theorem cq.loops (F:Nat) (kp:Sl→Int→Int→Hp→OA) (iT:Sl→Int→Hp→OA) (kq:Sl→Int→Int→Hp→OA) (jH:Sl→Int→Int→Hp→OA) (jn:Int→Int→Sl→Int→Int→Sl→Hp→OA) (kr:Sl→Int→Sl→Int→Hp→OA) (kt:Sl→Int→Int→Hp→OA) (ku:Int→Int→Sl→Int→Hp→OA) (jI:Int→Int→Sl→Int→Hp→OA):LoopsOk tabs (mkOrc (cq.cs F kp iT kq jH jn kr kt ku jI)) cq.pn (cq.lh F kp iT kq jH jn kr kt ku jI) F [] 1 cq.code (fun tm H=>aresults tabs.ty H tm Try.f11.results.toList fun v=>some (v,H)) (fun _ _ _=>none) (fun tm H=>aresults tabs.ty H tm Try.f11.results.toList fun v=>some (v,H)):=by
 exact loops_none (by kernel_rfl)
theorem cq.eqX (F:Nat) (kp:Sl→Int→Int→Hp→OA) (iT:Sl→Int→Hp→OA) (kq:Sl→Int→Int→Hp→OA) (jH:Sl→Int→Int→Hp→OA) (jn:Int→Int→Sl→Int→Int→Sl→Hp→OA) (kr:Sl→Int→Sl→Int→Hp→OA) (kt:Sl→Int→Int→Hp→OA) (ku:Int→Int→Sl→Int→Hp→OA) (jI:Int→Int→Sl→Int→Hp→OA) (aa:Sl) (ab:Int) (ah:Int) (H:Hp):aCode tabs (mkOrc (cq.cs F kp iT kq jH jn kr kt ku jI)) cq.pn (cq.lh F kp iT kq jH jn kr kt ku jI) F [] 1 cq.code (argTm [(.agg [(.sl aa),(.int .i64 ab)]),(.int .i64 ah)]) H (fun tm H=>aresults tabs.ty H tm Try.f11.results.toList fun v=>some (v,H)) (fun _ _ _=>none) (fun tm H=>aresults tabs.ty H tm Try.f11.results.toList fun v=>some (v,H)) = cq.twX F kp iT kq jH jn kr kt ku jI aa ab ah H:=by kernel_rfl
theorem cq.cs_ok (F:Nat):∀ p ∈ cq.cs F (bN.tw F) (bE.tw F) (bS.tw F) (bP.tw F) (bM.tw F) (bU.tw F) (bV.tw F) (cg.tw F) (bR.tw F),∀ args H v H',p.2 args H = some (v,H')→Go.AE.T Try.prog p.1 args H v H':=by
 intro p hp
 simp only [cq.cs,List.mem_cons,List.not_mem_nil,or_false] at hp
 rcases hp with rfl | rfl | rfl | rfl | rfl | rfl | rfl | rfl | rfl
 ·exact fun args H v H' h=>bN.mk_T h
 ·exact fun args H v H' h=>bE.mk_T h
 ·exact fun args H v H' h=>bS.mk_T h
 ·exact fun args H v H' h=>bP.mk_T h
 ·exact fun args H v H' h=>bM.mk_T h
 ·exact fun args H v H' h=>bU.mk_T h
 ·exact fun args H v H' h=>bV.mk_T h
 ·exact fun args H v H' h=>cg.mk_T h
 ·exact fun args H v H' h=>bR.mk_T h
theorem cq.ok:codeOk cq.pn Try.f11.ntmps cq.tb cq.code = true:=by kernel_rfl
theorem cq.T {F:Nat} {aa:Sl} {ab:Int} {ah:Int} {H:Hp} {v:AV} {H':Hp} (h:cq.tw F aa ab ah H = some (v,H')):Go.AE.T Try.prog 11 [(.agg [(.sl aa),(.int .i64 ab)]),(.int .i64 ah)] H v H':=
 Go.AE.T.of (Y:=tabs) (C:=mkOrc (cq.cs F (bN.tw F) (bE.tw F) (bS.tw F) (bP.tw F) (bM.tw F) (bU.tw F) (bV.tw F) (cg.tw F) (bR.tw F))) (PN:=cq.pn) (LH:=cq.lh F (bN.tw F) (bE.tw F) (bS.tw F) (bP.tw F) (bM.tw F) (bU.tw F) (bV.tw F) (cg.tw F) (bR.tw F)) (F:=F) (TB:=cq.tb) (fn:=Try.f11) (code:=cq.code) mixed tabs_ok (mkOrc_ok (cq.cs_ok F)) Try.func11 (by kernel_rfl) (by kernel_rfl) cq.ok (Nat.le_of_ble_eq_true (by kernel_rfl)) (cq.loops F (bN.tw F) (bE.tw F) (bS.tw F) (bP.tw F) (bM.tw F) (bU.tw F) (bV.tw F) (cg.tw F) (bR.tw F)) (Eq.trans (cq.eqX F (bN.tw F) (bE.tw F) (bS.tw F) (bP.tw F) (bM.tw F) (bU.tw F) (bV.tw F) (cg.tw F) (bR.tw F) aa ab ah H) h)
theorem cq.mk_T {F:Nat} {args:List AV} {H:Hp} {v:AV} {H':Hp} (h:cq.mk (cq.tw F) args H = some (v,H')):Go.AE.T Try.prog 11 args H v H':=by
 unfold cq.mk at h
 split at h
 ·exact cq.T h
 ·cases h
end Go.Proofs.Ythfinhmkgdmelaa.AE
