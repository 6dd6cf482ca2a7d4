import Derived.Test.YthfinhmkgdmelaaT1
import Derived.Test.YthfinhmkgdmelaaTab1
import Derived.Test.YthfinhmkgdmelaaE2
set_option linter.unusedVariables false
set_option linter.unusedSimpArgs false
namespace Go.Proofs.Ythfinhmkgdmelaa.AE
open Go Go.AE Go.Proofs Go.RowKit Go.Maps
set_option linter.unusedVariables false
set_option maxHeartbeats 4000000
set_option maxRecDepth 100000
noncomputable def az.l1021 (F:Nat) (cD:Sl→Int→Hp→OA) (bI:Int→Int→Int→Hp→OA) (cE:Sl→Int→Sl→Sl→Hp→OA) (cF:Sl→Int→Hp→OA) (cG:Sl→Int→Hp→OA) (bX:Sl→Hp→OA) :Nat→Int→Nat→Nat→Sl→Sl→Int→Sl→Sl→Int→Int→Hp→OA
 | 0,_,_,_,_,_,_,_,_,_,_,_=>none
 | wL + 1,cN,ev,fQ,gk,gA,ew,gR,iv,fl,ey,H60=>(bif (decide (ey < fl)) then ((Sl.idx iv ey 1).bind fun p124=>(Hp.ldI H60 .i64 p124.1 p124.2).bind fun n125=>(Sl.idx gA ey 1).bind fun p126=>(Hp.ldI H60 .i64 p126.1 p126.2).bind fun n127=>(if cN = 0 then none else ((Sl.idx gR n125 1).bind fun p128=>(Hp.st H60 p128.1 p128.2 (.int .i64 (Int.tmod n127 cN))).bind fun H129=>az.l1021 F cD bI cE cF cG bX wL cN ev fQ gk gA ew gR iv fl (IntKind.i64.wrap (ey + 1)) H129))) else (az.j1 F cD bI cE cF cG bX cN ev fQ gk ew gR H60))
termination_by structural n=>n
noncomputable def az.twX (F:Nat) (cD:Sl→Int→Hp→OA) (bI:Int→Int→Int→Hp→OA) (cE:Sl→Int→Sl→Sl→Hp→OA) (cF:Sl→Int→Hp→OA) (cG:Sl→Int→Hp→OA) (bX:Sl→Hp→OA) (aa:Sl) (ab:Int) (af:Int) (H:Hp):OA:=(Hp.new H [(.sl aa),(.int .i64 ab)]).bind fun H4=>(Hp.ldSl H4 H.length 0).bind fun s5=>(Hp.ldI H4 .i64 H.length (0 + 1)).bind fun n6=>(cD s5 n6 H4).bind fun r7=>((r7.1).asTup 2).bind fun l8=>(l8[0]?).bind fun v9=>((v9).asAgg 2).bind fun l10=>(l10[0]?).bind fun v11=>((v11).asSl).bind fun s12=>(l10[1]?).bind fun v13=>((v13).asSl).bind fun s14=>(l8[1]?).bind fun v15=>((v15).asB).bind fun b16=>(Hp.new r7.2 [.sl ⟨none,0,.ex 0⟩,.sl ⟨none,0,.ex 0⟩]).bind fun H17=>(Hp.st H17 r7.2.length 0 (.sl s12)).bind fun H18=>(Hp.st H18 r7.2.length (0 + 1) (.sl s14)).bind fun H19=>(bif (!b16) then (some ((.tup [(.sl (⟨none,0,.ex 0⟩:Sl)),(.int .i64 1)]),H19)) else ((bI af 1 1000000000000 H19).bind fun r20=>((r20.1).asB).bind fun b21=>(bif (!b21) then (some ((.tup [(.sl (⟨none,0,.ex 0⟩:Sl)),(.int .i64 2)]),r20.2)) else ((Hp.ldSl r20.2 H.length 0).bind fun s22=>(Hp.ldI r20.2 .i64 H.length (0 + 1)).bind fun n23=>(Hp.ldSl r20.2 r7.2.length 0).bind fun s24=>(Hp.ldSl r20.2 r7.2.length (0 + 1)).bind fun s25=>(cE s22 n23 s24 s25 r20.2).bind fun r26=>((r26.1).asSl).bind fun s27=>(Hp.ldSl r26.2 r7.2.length 1).bind fun s28=>(cF s27 (s28.n:Int) r26.2).bind fun r29=>((r29.1).asSl).bind fun s30=>(Hp.ldSl r29.2 H.length 0).bind fun s31=>(Hp.ldI r29.2 .i64 H.length (0 + 1)).bind fun n32=>(cG s31 n32 r29.2).bind fun r33=>((r33.1).asTup 2).bind fun l34=>(l34[0]?).bind fun v35=>((v35).asSl).bind fun s36=>(l34[1]?).bind fun v37=>((v37).asI .i64).bind fun n38=>(Hp.mk r33.2 [.int .i64 0] 8 n38 n38).bind fun m39=>az.l1021 F cD bI cE cF cG bX F af H.length 0 s27 s30 n38 m39.1 s36 (s36.n:Int) 0 m39.2))))
noncomputable def az.tw (F:Nat) (aa:Sl) (ab:Int) (af:Int) (H:Hp):OA:=az.twX F (bm.tw F) (bc.tw F) (ak.tw F) (ar.tw F) (aF.tw F) (bj.tw F) aa ab af H
noncomputable def az.code:Go.Code:=(Try.f39.body).getD .skip
noncomputable def az.lh1021 (F:Nat) (cD:Sl→Int→Hp→OA) (bI:Int→Int→Int→Hp→OA) (cE:Sl→Int→Sl→Sl→Hp→OA) (cF:Sl→Int→Hp→OA) (cG:Sl→Int→Hp→OA) (bX:Sl→Hp→OA) (ks:List Nat) (n:Nat) (tm:Tm) (H:Hp):OA:=match ks,tm 1,tm 2,tm 8,tm 9,tm 11,tm 12,tm 43,tm 44,tm 45 with
 | [],(.int .i64 cN),(.ptr ev fQ),(.sl gk),(.sl gA),(.int .i64 ew),(.sl gR),(.sl iv),(.int .i64 fl),(.int .i64 ey)=>az.l1021 F cD bI cE cF cG bX n cN ev fQ gk gA ew gR iv fl ey H
 | _,_,_,_,_,_,_,_,_,_=>none
theorem az.lh1021_inv {F:Nat} {cD:Sl→Int→Hp→OA} {bI:Int→Int→Int→Hp→OA} {cE:Sl→Int→Sl→Sl→Hp→OA} {cF:Sl→Int→Hp→OA} {cG:Sl→Int→Hp→OA} {bX:Sl→Hp→OA} {ks:List Nat} {n:Nat} {tm:Tm} {H:Hp} {r:AV×Hp} (h:az.lh1021 F cD bI cE cF cG bX ks n tm H = some r):∃ cN:Int,∃ ev:Nat,∃ fQ:Nat,∃ gk:Sl,∃ gA:Sl,∃ ew:Int,∃ gR:Sl,∃ iv:Sl,∃ fl:Int,∃ ey:Int,ks = []∧tm 1 = (.int .i64 cN)∧tm 2 = (.ptr ev fQ)∧tm 8 = (.sl gk)∧tm 9 = (.sl gA)∧tm 11 = (.int .i64 ew)∧tm 12 = (.sl gR)∧tm 43 = (.sl iv)∧tm 44 = (.int .i64 fl)∧tm 45 = (.int .i64 ey)∧az.l1021 F cD bI cE cF cG bX n cN ev fQ gk gA ew gR iv fl ey H = some r:=by
 unfold az.lh1021 at h
 split at h
 ·exact ⟨_,_,_,_,_,_,_,_,_,_,rfl,by assumption,by assumption,by assumption,by assumption,by assumption,by assumption,by assumption,by assumption,by assumption,h⟩
 ·cases h
noncomputable def az.lh2045 (F:Nat) (cD:Sl→Int→Hp→OA) (bI:Int→Int→Int→Hp→OA) (cE:Sl→Int→Sl→Sl→Hp→OA) (cF:Sl→Int→Hp→OA) (cG:Sl→Int→Hp→OA) (bX:Sl→Hp→OA) (ks:List Nat) (n:Nat) (tm:Tm) (H:Hp):OA:=match ks,tm 1,tm 2,tm 8,tm 11,tm 12,tm 61,tm 62 with
 | [],(.int .i64 dp),(.ptr eU gz),(.sl gQ),(.int .i64 eI),(.sl hT),(.int .i64 fk),(.int .i64 eu)=>az.l2045 F cD bI cE cF cG bX n dp eU gz gQ eI hT fk eu H
 | _,_,_,_,_,_,_,_=>none
theorem az.lh2045_inv {F:Nat} {cD:Sl→Int→Hp→OA} {bI:Int→Int→Int→Hp→OA} {cE:Sl→Int→Sl→Sl→Hp→OA} {cF:Sl→Int→Hp→OA} {cG:Sl→Int→Hp→OA} {bX:Sl→Hp→OA} {ks:List Nat} {n:Nat} {tm:Tm} {H:Hp} {r:AV×Hp} (h:az.lh2045 F cD bI cE cF cG bX ks n tm H = some r):∃ dp:Int,∃ eU:Nat,∃ gz:Nat,∃ gQ:Sl,∃ eI:Int,∃ hT:Sl,∃ fk:Int,∃ eu:Int,ks = []∧tm 1 = (.int .i64 dp)∧tm 2 = (.ptr eU gz)∧tm 8 = (.sl gQ)∧tm 11 = (.int .i64 eI)∧tm 12 = (.sl hT)∧tm 61 = (.int .i64 fk)∧tm 62 = (.int .i64 eu)∧az.l2045 F cD bI cE cF cG bX n dp eU gz gQ eI hT fk eu H = some r:=by
 unfold az.lh2045 at h
 split at h
 ·exact ⟨_,_,_,_,_,_,_,_,rfl,by assumption,by assumption,by assumption,by assumption,by assumption,by assumption,by assumption,h⟩
 ·cases h
noncomputable def az.lh (F:Nat) (cD:Sl→Int→Hp→OA) (bI:Int→Int→Int→Hp→OA) (cE:Sl→Int→Sl→Sl→Hp→OA) (cF:Sl→Int→Hp→OA) (cG:Sl→Int→Hp→OA) (bX:Sl→Hp→OA) (p:Nat) (ks:List Nat) (n:Nat) (tm:Tm) (H:Hp):OA:=bif p.beq 2045 then az.lh2045 F cD bI cE cF cG bX ks n tm H else (bif p.beq 1021 then az.lh1021 F cD bI cE cF cG bX ks n tm H else (none))
def az.pn:Nat→List Nat:=fun i=>(([(18,[14])]:List (Nat×List Nat)).lookup i).getD []
def az.tb:Nat→List (List Nat):=fun i=>(([(18,[[],[],[],[2],[1,2,3],[],[1,2,3,4,5],[],[7],[],[7,8,9],[],[7,8,9,10,11],[0,1,2,3,4,5,6,7,8,9,10,11,12],[0,1,2,3,4,5,6,7,8,9,10,11,12,13]])]:List (Nat×List (List Nat))).lookup i).getD []
noncomputable def az.mk (g:Sl→Int→Int→Hp→OA) (args:List AV) (H:Hp):OA:=match args with
 | [(.agg [(.sl aa),(.int .i64 ab)]),(.int .i64 af)]=>g aa ab af H
 | _=>none
noncomputable def az.cs (F:Nat) (cD:Sl→Int→Hp→OA) (bI:Int→Int→Int→Hp→OA) (cE:Sl→Int→Sl→Sl→Hp→OA) (cF:Sl→Int→Hp→OA) (cG:Sl→Int→Hp→OA) (bX:Sl→Hp→OA):List (FuncId×(List AV→Hp→OA)):=[(69,bm.mk cD),(81,bc.mk bI),(87,ak.mk cE),(88,ar.mk cF),(62,aF.mk cG),(89,bj.mk bX)]
theorem az.loops (F:Nat) (cD:Sl→Int→Hp→OA) (bI:Int→Int→Int→Hp→OA) (cE:Sl→Int→Sl→Sl→Hp→OA) (cF:Sl→Int→Hp→OA) (cG:Sl→Int→Hp→OA) (bX:Sl→Hp→OA):LoopsOk tabs (mkOrc (az.cs F cD bI cE cF cG bX)) az.pn (az.lh F cD bI cE cF cG bX) F [] 1 az.code (fun tm H=>aresults tabs.ty H tm Try.f39.results.toList fun v=>some (v,H)) (fun _ _ _=>none) (fun tm H=>aresults tabs.ty H tm Try.f39.results.toList fun v=>some (v,H)):=by
 refine LoopsOk.seq ?_ ?_
 ·exact loops_none (by kernel_rfl)
 ·refine LoopsOk.seq ?_ ?_
  ·exact loops_none (by kernel_rfl)
  ·refine LoopsOk.seq ?_ ?_
   ·exact loops_none (by kernel_rfl)
   ·refine LoopsOk.seq ?_ ?_
    ·exact loops_none (by kernel_rfl)
    ·refine LoopsOk.seq ?_ ?_
     ·exact loops_none (by kernel_rfl)
     ·refine LoopsOk.seq ?_ ?_
      ·exact loops_none (by kernel_rfl)
      ·refine LoopsOk.seq ?_ ?_
       ·exact loops_none (by kernel_rfl)
       ·refine LoopsOk.seq ?_ ?_
        ·refine LoopsOk.seq ?_ ?_
         ·exact loops_none (by kernel_rfl)
         ·refine LoopsOk.block ?_
          refine LoopsOk.loop (fun tm H=>?_) (fun k1021 tm H r h0=>?_) (fun k1021=>?_)
          ·refine none_of fun r h0=>?_
           obtain ⟨cN,ev,fQ,gk,gA,ew,gR,iv,fl,ey,hks,e1,e2,e8,e9,e11,e12,e43,e44,e45,h⟩:=az.lh1021_inv (show az.lh1021 F cD bI cE cF cG bX [] 0 tm H = some r from h0)
           cases h
          ·obtain ⟨cN,ev,fQ,gk,gA,ew,gR,iv,fl,ey,hks,e1,e2,e8,e9,e11,e12,e43,e44,e45,h⟩:=az.lh1021_inv (show az.lh1021 F cD bI cE cF cG bX [] (k1021 + 1) tm H = some r from h0)
           have q0:(Tm.put tm 1 (.int .i64 cN)) = tm:=by exact Tm.put_same e1
           have q1:(Tm.put (Tm.put tm 1 (.int .i64 cN)) 2 (.ptr ev fQ)) = tm:=by rw [q0]; exact Tm.put_same e2
           have q2:(Tm.put (Tm.put (Tm.put tm 1 (.int .i64 cN)) 2 (.ptr ev fQ)) 8 (.sl gk)) = tm:=by rw [q1]; exact Tm.put_same e8
           have q3:(Tm.put (Tm.put (Tm.put (Tm.put tm 1 (.int .i64 cN)) 2 (.ptr ev fQ)) 8 (.sl gk)) 9 (.sl gA)) = tm:=by rw [q2]; exact Tm.put_same e9
           have q4:(Tm.put (Tm.put (Tm.put (Tm.put (Tm.put tm 1 (.int .i64 cN)) 2 (.ptr ev fQ)) 8 (.sl gk)) 9 (.sl gA)) 11 (.int .i64 ew)) = tm:=by rw [q3]; exact Tm.put_same e11
           have q5:(Tm.put (Tm.put (Tm.put (Tm.put (Tm.put (Tm.put tm 1 (.int .i64 cN)) 2 (.ptr ev fQ)) 8 (.sl gk)) 9 (.sl gA)) 11 (.int .i64 ew)) 12 (.sl gR)) = tm:=by rw [q4]; exact Tm.put_same e12
           have q6:(Tm.put (Tm.put (Tm.put (Tm.put (Tm.put (Tm.put (Tm.put tm 1 (.int .i64 cN)) 2 (.ptr ev fQ)) 8 (.sl gk)) 9 (.sl gA)) 11 (.int .i64 ew)) 12 (.sl gR)) 43 (.sl iv)) = tm:=by rw [q5]; exact Tm.put_same e43
           have q7:(Tm.put (Tm.put (Tm.put (Tm.put (Tm.put (Tm.put (Tm.put (Tm.put tm 1 (.int .i64 cN)) 2 (.ptr ev fQ)) 8 (.sl gk)) 9 (.sl gA)) 11 (.int .i64 ew)) 12 (.sl gR)) 43 (.sl iv)) 44 (.int .i64 fl)) = tm:=by rw [q6]; exact Tm.put_same e44
           have q8:(Tm.put (Tm.put (Tm.put (Tm.put (Tm.put (Tm.put (Tm.put (Tm.put (Tm.put tm 1 (.int .i64 cN)) 2 (.ptr ev fQ)) 8 (.sl gk)) 9 (.sl gA)) 11 (.int .i64 ew)) 12 (.sl gR)) 43 (.sl iv)) 44 (.int .i64 fl)) 45 (.int .i64 ey)) = tm:=by rw [q7]; exact Tm.put_same e45
           rw [← q8]
           exact Eq.trans (by kernel_rfl) h
          ·exact loops_none (by kernel_rfl)
        ·refine LoopsOk.seq ?_ ?_
         ·refine LoopsOk.seq ?_ ?_
          ·exact loops_none (by kernel_rfl)
          ·refine LoopsOk.block ?_
           refine LoopsOk.loop (fun tm H=>?_) (fun k2045 tm H r h0=>?_) (fun k2045=>?_)
           ·refine none_of fun r h0=>?_
            obtain ⟨dp,eU,gz,gQ,eI,hT,fk,eu,hks,e1,e2,e8,e11,e12,e61,e62,h⟩:=az.lh2045_inv (show az.lh2045 F cD bI cE cF cG bX [] 0 tm H = some r from h0)
            cases h
           ·obtain ⟨dp,eU,gz,gQ,eI,hT,fk,eu,hks,e1,e2,e8,e11,e12,e61,e62,h⟩:=az.lh2045_inv (show az.lh2045 F cD bI cE cF cG bX [] (k2045 + 1) tm H = some r from h0)
            have q0:(Tm.put tm 1 (.int .i64 dp)) = tm:=by exact Tm.put_same e1
            have q1:(Tm.put (Tm.put tm 1 (.int .i64 dp)) 2 (.ptr eU gz)) = tm:=by rw [q0]; exact Tm.put_same e2
            have q2:(Tm.put (Tm.put (Tm.put tm 1 (.int .i64 dp)) 2 (.ptr eU gz)) 8 (.sl gQ)) = tm:=by rw [q1]; exact Tm.put_same e8
            have q3:(Tm.put (Tm.put (Tm.put (Tm.put tm 1 (.int .i64 dp)) 2 (.ptr eU gz)) 8 (.sl gQ)) 11 (.int .i64 eI)) = tm:=by rw [q2]; exact Tm.put_same e11
            have q4:(Tm.put (Tm.put (Tm.put (Tm.put (Tm.put tm 1 (.int .i64 dp)) 2 (.ptr eU gz)) 8 (.sl gQ)) 11 (.int .i64 eI)) 12 (.sl hT)) = tm:=by rw [q3]; exact Tm.put_same e12
            have q5:(Tm.put (Tm.put (Tm.put (Tm.put (Tm.put (Tm.put tm 1 (.int .i64 dp)) 2 (.ptr eU gz)) 8 (.sl gQ)) 11 (.int .i64 eI)) 12 (.sl hT)) 61 (.int .i64 fk)) = tm:=by rw [q4]; exact Tm.put_same e61
            have q6:(Tm.put (Tm.put (Tm.put (Tm.put (Tm.put (Tm.put (Tm.put tm 1 (.int .i64 dp)) 2 (.ptr eU gz)) 8 (.sl gQ)) 11 (.int .i64 eI)) 12 (.sl hT)) 61 (.int .i64 fk)) 62 (.int .i64 eu)) = tm:=by rw [q5]; exact Tm.put_same e62
            rw [← q6]
            exact Eq.trans (by kernel_rfl) h
           ·exact loops_none (by kernel_rfl)
         ·exact loops_none (by kernel_rfl)
theorem az.eqX (F:Nat) (cD:Sl→Int→Hp→OA) (bI:Int→Int→Int→Hp→OA) (cE:Sl→Int→Sl→Sl→Hp→OA) (cF:Sl→Int→Hp→OA) (cG:Sl→Int→Hp→OA) (bX:Sl→Hp→OA) (aa:Sl) (ab:Int) (af:Int) (H:Hp):aCode tabs (mkOrc (az.cs F cD bI cE cF cG bX)) az.pn (az.lh F cD bI cE cF cG bX) F [] 1 az.code (argTm [(.agg [(.sl aa),(.int .i64 ab)]),(.int .i64 af)]) H (fun tm H=>aresults tabs.ty H tm Try.f39.results.toList fun v=>some (v,H)) (fun _ _ _=>none) (fun tm H=>aresults tabs.ty H tm Try.f39.results.toList fun v=>some (v,H)) = az.twX F cD bI cE cF cG bX aa ab af H:=by kernel_rfl
theorem az.cs_ok (F:Nat):∀ p ∈ az.cs F (bm.tw F) (bc.tw F) (ak.tw F) (ar.tw F) (aF.tw F) (bj.tw F),∀ args H v H',p.2 args H = some (v,H')→Go.AE.T Try.prog p.1 args H v H':=by
 intro p hp
 simp only [az.cs,List.mem_cons,List.not_mem_nil,or_false] at hp
 rcases hp with rfl | rfl | rfl | rfl | rfl | rfl
 ·exact fun args H v H' h=>bm.mk_T h
 ·exact fun args H v H' h=>bc.mk_T h
 ·exact fun args H v H' h=>ak.mk_T h
 ·exact fun args H v H' h=>ar.mk_T h
 ·exact fun args H v H' h=>aF.mk_T h
 ·exact fun args H v H' h=>bj.mk_T h
theorem az.ok:codeOk az.pn Try.f39.ntmps az.tb az.code = true:=by kernel_rfl
theorem az.T {F:Nat} {aa:Sl} {ab:Int} {af:Int} {H:Hp} {v:AV} {H':Hp} (h:az.tw F aa ab af H = some (v,H')):Go.AE.T Try.prog 39 [(.agg [(.sl aa),(.int .i64 ab)]),(.int .i64 af)] H v H':=
 Go.AE.T.of (Y:=tabs) (C:=mkOrc (az.cs F (bm.tw F) (bc.tw F) (ak.tw F) (ar.tw F) (aF.tw F) (bj.tw F))) (PN:=az.pn) (LH:=az.lh F (bm.tw F) (bc.tw F) (ak.tw F) (ar.tw F) (aF.tw F) (bj.tw F)) (F:=F) (TB:=az.tb) (fn:=Try.f39) (code:=az.code) mixed tabs_ok (mkOrc_ok (az.cs_ok F)) Try.func39 (by kernel_rfl) (by kernel_rfl) az.ok (Nat.le_of_ble_eq_true (by kernel_rfl)) (az.loops F (bm.tw F) (bc.tw F) (ak.tw F) (ar.tw F) (aF.tw F) (bj.tw F)) (Eq.trans (az.eqX F (bm.tw F) (bc.tw F) (ak.tw F) (ar.tw F) (aF.tw F) (bj.tw F) aa ab af H) h)
theorem az.mk_T {F:Nat} {args:List AV} {H:Hp} {v:AV} {H':Hp} (h:az.mk (az.tw F) args H = some (v,H')):Go.AE.T Try.prog 39 args H v H':=by
 unfold az.mk at h
 split at h
 ·exact az.T h
 ·cases h
noncomputable def aO.l29 (F:Nat) :Nat→Sl→Sl→Int→Hp→OA
 | 0,_,_,_,_=>none
 | dr + 1,a_,aN,bK,H8=>(bif (decide (bK < (a_.n:Int))) then ((Sl.idx a_ bK 1).bind fun p13=>(Hp.ldI H8 .i64 p13.1 p13.2).bind fun n14=>(Sl.idx aN bK 1).bind fun p15=>(Hp.ldI H8 .i64 p15.1 p15.2).bind fun n16=>(bif (n14 != n16) then (some ((.bool false),H8)) else (aO.l29 F dr a_ aN (IntKind.i64.wrap (bK + 1)) H8))) else (some ((.bool true),H8)))
termination_by structural n=>n
noncomputable def aO.twX (F:Nat) (aa:Sl) (ae:Sl) (H:Hp):OA:=(bif ((aa.n:Int) != (ae.n:Int)) then (some ((.bool false),H)) else (aO.l29 F F aa ae 0 H))
noncomputable def aO.tw (F:Nat) (aa:Sl) (ae:Sl) (H:Hp):OA:=aO.twX F aa ae H
noncomputable def aO.code:Go.Code:=(Try.f19.body).getD .skip
noncomputable def aO.lh29 (F:Nat) (ks:List Nat) (n:Nat) (tm:Tm) (H:Hp):OA:=match ks,tm 0,tm 1,tm 5 with
 | [],(.sl a_),(.sl aN),(.int .i64 bK)=>aO.l29 F n a_ aN bK H
 | _,_,_,_=>none
theorem aO.lh29_inv {F:Nat} {ks:List Nat} {n:Nat} {tm:Tm} {H:Hp} {r:AV×Hp} (h:aO.lh29 F ks n tm H = some r):∃ a_:Sl,∃ aN:Sl,∃ bK:Int,ks = []∧tm 0 = (.sl a_)∧tm 1 = (.sl aN)∧tm 5 = (.int .i64 bK)∧aO.l29 F n a_ aN bK H = some r:=by
 unfold aO.lh29 at h
 split at h
 ·exact ⟨_,_,_,rfl,by assumption,by assumption,by assumption,h⟩
 ·cases h
noncomputable def aO.lh (F:Nat) (p:Nat) (ks:List Nat) (n:Nat) (tm:Tm) (H:Hp):OA:=bif p.beq 29 then aO.lh29 F ks n tm H else (none)
def aO.pn:Nat→List Nat:=fun i=>(([(6,[])]:List (Nat×List Nat)).lookup i).getD []
def aO.tb:Nat→List (List Nat):=fun i=>(([(6,[[],[],[0,1],[0,1,2],[],[],[4,5],[4,5,6],[0,1,2,3,4,5,6,7]])]:List (Nat×List (List Nat))).lookup i).getD []
noncomputable def aO.mk (g:Sl→Sl→Hp→OA) (args:List AV) (H:Hp):OA:=match args with
 | [(.sl aa),(.sl ae)]=>g aa ae H
 | _=>none
noncomputable def aO.cs (F:Nat):List (FuncId×(List AV→Hp→OA)):=[]
theorem aO.loops (F:Nat):LoopsOk tabs (mkOrc (aO.cs F)) aO.pn (aO.lh F) F [] 1 aO.code (fun tm H=>aresults tabs.ty H tm Try.f19.results.toList fun v=>some (v,H)) (fun _ _ _=>none) (fun tm H=>aresults tabs.ty H tm Try.f19.results.toList fun v=>some (v,H)):=by
 refine LoopsOk.seq ?_ ?_
 ·exact loops_none (by kernel_rfl)
 ·refine LoopsOk.seq ?_ ?_
  ·exact loops_none (by kernel_rfl)
  ·refine LoopsOk.seq ?_ ?_
   ·refine LoopsOk.seq ?_ ?_
    ·exact loops_none (by kernel_rfl)
    ·refine LoopsOk.block ?_
     refine LoopsOk.loop (fun tm H=>?_) (fun k29 tm H r h0=>?_) (fun k29=>?_)
     ·refine none_of fun r h0=>?_
      obtain ⟨a_,aN,bK,hks,e0,e1,e5,h⟩:=aO.lh29_inv (show aO.lh29 F [] 0 tm H = some r from h0)
      cases h
     ·obtain ⟨a_,aN,bK,hks,e0,e1,e5,h⟩:=aO.lh29_inv (show aO.lh29 F [] (k29 + 1) tm H = some r from h0)
      have q0:(Tm.put tm 0 (.sl a_)) = tm:=by exact Tm.put_same e0
      have q1:(Tm.put (Tm.put tm 0 (.sl a_)) 1 (.sl aN)) = tm:=by rw [q0]; exact Tm.put_same e1
      have q2:(Tm.put (Tm.put (Tm.put tm 0 (.sl a_)) 1 (.sl aN)) 5 (.int .i64 bK)) = tm:=by rw [q1]; exact Tm.put_same e5
      rw [← q2]
      exact Eq.trans (by kernel_rfl) h
     ·exact loops_none (by kernel_rfl)
   ·exact loops_none (by kernel_rfl)
theorem aO.eqX (F:Nat) (aa:Sl) (ae:Sl) (H:Hp):aCode tabs (mkOrc (aO.cs F)) aO.pn (aO.lh F) F [] 1 aO.code (argTm [(.sl aa),(.sl ae)]) H (fun tm H=>aresults tabs.ty H tm Try.f19.results.toList fun v=>some (v,H)) (fun _ _ _=>none) (fun tm H=>aresults tabs.ty H tm Try.f19.results.toList fun v=>some (v,H)) = aO.twX F aa ae H:=by kernel_rfl
theorem aO.cs_ok (F:Nat):∀ p ∈ aO.cs F,∀ args H v H',p.2 args H = some (v,H')→Go.AE.T Try.prog p.1 args H v H':=by
 intro p hp
 exact absurd (show p ∈ [] from hp) List.not_mem_nil
theorem aO.ok:codeOk aO.pn Try.f19.ntmps aO.tb aO.code = true:=by kernel_rfl
theorem aO.T {F:Nat} {aa:Sl} {ae:Sl} {H:Hp} {v:AV} {H':Hp} (h:aO.tw F aa ae H = some (v,H')):Go.AE.T Try.prog 19 [(.sl aa),(.sl ae)] H v H':=
 Go.AE.T.of (Y:=tabs) (C:=mkOrc (aO.cs F)) (PN:=aO.pn) (LH:=aO.lh F) (F:=F) (TB:=aO.tb) (fn:=Try.f19) (code:=aO.code) mixed tabs_ok (mkOrc_ok (aO.cs_ok F)) Try.func19 (by kernel_rfl) (by kernel_rfl) aO.ok (Nat.le_of_ble_eq_true (by kernel_rfl)) (aO.loops F) (Eq.trans (aO.eqX F aa ae H) h)
theorem aO.mk_T {F:Nat} {args:List AV} {H:Hp} {v:AV} {H':Hp} (h:aO.mk (aO.tw F) args H = some (v,H')):Go.AE.T Try.prog 19 args H v H':=by
 unfold aO.mk at h
 split at h
 ·exact aO.T h
 ·cases h
noncomputable def bD.twX (F:Nat) (aa:Int) (ab:Int) (aC:Int) (aD:Int) (aA:Int) (bh:Int) (fR:Int) (fS:Int) (fT:Int) (fU:Int) (H:Hp):OA:=(Hp.new H [(.int .i64 aa),(.int .i64 ab),(.int .i64 aC),(.int .i64 aD),(.int .i64 aA)]).bind fun H11=>(Hp.new H11 [(.int .i64 bh),(.int .i64 fR),(.int .i64 fS),(.int .i64 fT),(.int .i64 fU)]).bind fun H12=>(Hp.ldI H12 .i64 H.length 0).bind fun n13=>(Hp.ldI H12 .i64 H11.length 0).bind fun n14=>(bif (n13 != n14) then (some ((.bool false),H12)) else ((Hp.ldI H12 .i64 H.length 1).bind fun n15=>(Hp.ldI H12 .i64 H11.length 1).bind fun n16=>(bif (n15 != n16) then (some ((.bool false),H12)) else ((Hp.ldI H12 .i64 H.length 2).bind fun n17=>(Hp.ldI H12 .i64 H11.length 2).bind fun n18=>(bif (n17 != n18) then (some ((.bool false),H12)) else ((Hp.ldI H12 .i64 H.length 3).bind fun n19=>(Hp.ldI H12 .i64 H11.length 3).bind fun n20=>(bif (n19 != n20) then (some ((.bool false),H12)) else ((Hp.ldI H12 .i64 H.length 4).bind fun n21=>(Hp.ldI H12 .i64 H11.length 4).bind fun n22=>(bif (n21 != n22) then (some ((.bool false),H12)) else (some ((.bool true),H12)))))))))))
noncomputable def bD.tw (F:Nat) (aa:Int) (ab:Int) (aC:Int) (aD:Int) (aA:Int) (bh:Int) (fR:Int) (fS:Int) (fT:Int) (fU:Int) (H:Hp):OA:=bD.twX F aa ab aC aD aA bh fR fS fT fU H
noncomputable def bD.code:Go.Code:=(Try.f121.body).getD .skip
noncomputable def bD.lh (F:Nat) (p:Nat) (ks:List Nat) (n:Nat) (tm:Tm) (H:Hp):OA:=none
def bD.pn:Nat→List Nat:=fun i=>(([]:List (Nat×List Nat)).lookup i).getD []
def bD.tb:Nat→List (List Nat):=fun i=>(([]:List (Nat×List (List Nat))).lookup i).getD []
noncomputable def bD.mk (g:Int→Int→Int→Int→Int→Int→Int→Int→Int→Int→Hp→OA) (args:List AV) (H:Hp):OA:=match args with
 | [(.agg [(.int .i64 aa),(.int .i64 ab),(.int .i64 aC),(.int .i64 aD),(.int .i64 aA)]),(.agg [(.int .i64 bh),(.int .i64 fR),(.int .i64 fS),(.int .i64 fT),(.int .i64 fU)])]=>g aa ab aC aD aA bh fR fS fT fU H
 | _=>none
noncomputable def bD.cs (F:Nat):List (FuncId×(List AV→Hp→OA)):=[]
theorem bD.loops (F:Nat):LoopsOk tabs (mkOrc (bD.cs F)) bD.pn (bD.lh F) F [] 1 bD.code (fun tm H=>aresults tabs.ty H tm Try.f121.results.toList fun v=>some (v,H)) (fun _ _ _=>none) (fun tm H=>aresults tabs.ty H tm Try.f121.results.toList fun v=>some (v,H)):=by
 exact loops_none (by kernel_rfl)
theorem bD.eqX (F:Nat) (aa:Int) (ab:Int) (aC:Int) (aD:Int) (aA:Int) (bh:Int) (fR:Int) (fS:Int) (fT:Int) (fU:Int) (H:Hp):aCode tabs (mkOrc (bD.cs F)) bD.pn (bD.lh F) F [] 1 bD.code (argTm [(.agg [(.int .i64 aa),(.int .i64 ab),(.int .i64 aC),(.int .i64 aD),(.int .i64 aA)]),(.agg [(.int .i64 bh),(.int .i64 fR),(.int .i64 fS),(.int .i64 fT),(.int .i64 fU)])]) H (fun tm H=>aresults tabs.ty H tm Try.f121.results.toList fun v=>some (v,H)) (fun _ _ _=>none) (fun tm H=>aresults tabs.ty H tm Try.f121.results.toList fun v=>some (v,H)) = bD.twX F aa ab aC aD aA bh fR fS fT fU H:=by kernel_rfl
theorem bD.cs_ok (F:Nat):∀ p ∈ bD.cs F,∀ args H v H',p.2 args H = some (v,H')→Go.AE.T Try.prog p.1 args H v H':=by
 intro p hp
 exact absurd (show p ∈ [] from hp) List.not_mem_nil
theorem bD.ok:codeOk bD.pn Try.f121.ntmps bD.tb bD.code = true:=by kernel_rfl
theorem bD.T {F:Nat} {aa:Int} {ab:Int} {aC:Int} {aD:Int} {aA:Int} {bh:Int} {fR:Int} {fS:Int} {fT:Int} {fU:Int} {H:Hp} {v:AV} {H':Hp} (h:bD.tw F aa ab aC aD aA bh fR fS fT fU H = some (v,H')):Go.AE.T Try.prog 121 [(.agg [(.int .i64 aa),(.int .i64 ab),(.int .i64 aC),(.int .i64 aD),(.int .i64 aA)]),(.agg [(.int .i64 bh),(.int .i64 fR),(.int .i64 fS),(.int .i64 fT),(.int .i64 fU)])] H v H':=
 Go.AE.T.of (Y:=tabs) (C:=mkOrc (bD.cs F)) (PN:=bD.pn) (LH:=bD.lh F) (F:=F) (TB:=bD.tb) (fn:=Try.f121) (code:=bD.code) mixed tabs_ok (mkOrc_ok (bD.cs_ok F)) Try.func121 (by kernel_rfl) (by kernel_rfl) bD.ok (Nat.le_of_ble_eq_true (by kernel_rfl)) (bD.loops F) (Eq.trans (bD.eqX F aa ab aC aD aA bh fR fS fT fU H) h)
theorem bD.mk_T {F:Nat} {args:List AV} {H:Hp} {v:AV} {H':Hp} (h:bD.mk (bD.tw F) args H = some (v,H')):Go.AE.T Try.prog 121 args H v H':=by
 unfold bD.mk at h
 split at h
 ·exact bD.T h
 ·cases h
noncomputable def aU.l29 (F:Nat) (ez:Int→Int→Int→Int→Int→Int→Int→Int→Int→Int→Hp→OA) :Nat→Sl→Sl→Int→Hp→OA
 | 0,_,_,_,_=>none
 | dr + 1,a_,aN,bK,H8=>(bif (decide (bK < (a_.n:Int))) then ((Sl.idx a_ bK 5).bind fun p23=>(Hp.ldI H8 .i64 p23.1 p23.2).bind fun n24=>(Hp.ldI H8 .i64 p23.1 (p23.2 + 1)).bind fun n25=>(Hp.ldI H8 .i64 p23.1 (p23.2 + 2)).bind fun n26=>(Hp.ldI H8 .i64 p23.1 (p23.2 + 3)).bind fun n27=>(Hp.ldI H8 .i64 p23.1 (p23.2 + 4)).bind fun n28=>(Sl.idx aN bK 5).bind fun p29=>(Hp.ldI H8 .i64 p29.1 p29.2).bind fun n30=>(Hp.ldI H8 .i64 p29.1 (p29.2 + 1)).bind fun n31=>(Hp.ldI H8 .i64 p29.1 (p29.2 + 2)).bind fun n32=>(Hp.ldI H8 .i64 p29.1 (p29.2 + 3)).bind fun n33=>(Hp.ldI H8 .i64 p29.1 (p29.2 + 4)).bind fun n34=>(ez n24 n25 n26 n27 n28 n30 n31 n32 n33 n34 H8).bind fun r35=>((r35.1).asB).bind fun b36=>(bif (!b36) then (some ((.bool false),r35.2)) else (aU.l29 F ez dr a_ aN (IntKind.i64.wrap (bK + 1)) r35.2))) else (some ((.bool true),H8)))
termination_by structural n=>n
noncomputable def aU.twX (F:Nat) (ez:Int→Int→Int→Int→Int→Int→Int→Int→Int→Int→Hp→OA) (aa:Sl) (ae:Sl) (H:Hp):OA:=(bif ((aa.n:Int) != (ae.n:Int)) then (some ((.bool false),H)) else (aU.l29 F ez F aa ae 0 H))
noncomputable def aU.tw (F:Nat) (aa:Sl) (ae:Sl) (H:Hp):OA:=aU.twX F (bD.tw F) aa ae H
noncomputable def aU.code:Go.Code:=(Try.f63.body).getD .skip
noncomputable def aU.lh29 (F:Nat) (ez:Int→Int→Int→Int→Int→Int→Int→Int→Int→Int→Hp→OA) (ks:List Nat) (n:Nat) (tm:Tm) (H:Hp):OA:=match ks,tm 0,tm 1,tm 5 with
 | [],(.sl a_),(.sl aN),(.int .i64 bK)=>aU.l29 F ez n a_ aN bK H
 | _,_,_,_=>none
theorem aU.lh29_inv {F:Nat} {ez:Int→Int→Int→Int→Int→Int→Int→Int→Int→Int→Hp→OA} {ks:List Nat} {n:Nat} {tm:Tm} {H:Hp} {r:AV×Hp} (h:aU.lh29 F ez ks n tm H = some r):∃ a_:Sl,∃ aN:Sl,∃ bK:Int,ks = []∧tm 0 = (.sl a_)∧tm 1 = (.sl aN)∧tm 5 = (.int .i64 bK)∧aU.l29 F ez n a_ aN bK H = some r:=by
 unfold aU.lh29 at h
 split at h
 ·exact ⟨_,_,_,rfl,by assumption,by assumption,by assumption,h⟩
 ·cases h
noncomputable def aU.lh (F:Nat) (ez:Int→Int→Int→Int→Int→Int→Int→Int→Int→Int→Hp→OA) (p:Nat) (ks:List Nat) (n:Nat) (tm:Tm) (H:Hp):OA:=bif p.beq 29 then aU.lh29 F ez ks n tm H else (none)
def aU.pn:Nat→List Nat:=fun i=>(([(6,[8])]:List (Nat×List Nat)).lookup i).getD []
def aU.tb:Nat→List (List Nat):=fun i=>(([(6,[[],[],[0,1],[0,1,2],[],[],[4,5],[4,5,6],[0,1,2,3,4,5,6,7],[0,1,2,3,4,5,6,7,8]])]:List (Nat×List (List Nat))).lookup i).getD []
noncomputable def aU.mk (g:Sl→Sl→Hp→OA) (args:List AV) (H:Hp):OA:=match args with
 | [(.sl aa),(.sl ae)]=>g aa ae H
 | _=>none
noncomputable def aU.cs (F:Nat) (ez:Int→Int→Int→Int→Int→Int→Int→Int→Int→Int→Hp→OA):List (FuncId×(List AV→Hp→OA)):=[(121,bD.mk ez)]
theorem aU.loops (F:Nat) (ez:Int→Int→Int→Int→Int→Int→Int→Int→Int→Int→Hp→OA):LoopsOk tabs (mkOrc (aU.cs F ez)) aU.pn (aU.lh F ez) F [] 1 aU.code (fun tm H=>aresults tabs.ty H tm Try.f63.results.toList fun v=>some (v,H)) (fun _ _ _=>none) (fun tm H=>aresults tabs.ty H tm Try.f63.results.toList fun v=>some (v,H)):=by
 refine LoopsOk.seq ?_ ?_
 ·exact loops_none (by kernel_rfl)
 ·refine LoopsOk.seq ?_ ?_
  ·exact loops_none (by kernel_rfl)
  ·refine LoopsOk.seq ?_ ?_
   ·refine LoopsOk.seq ?_ ?_
    ·exact loops_none (by kernel_rfl)
    ·refine LoopsOk.block ?_
     refine LoopsOk.loop (fun tm H=>?_) (fun k29 tm H r h0=>?_) (fun k29=>?_)
     ·refine none_of fun r h0=>?_
      obtain ⟨a_,aN,bK,hks,e0,e1,e5,h⟩:=aU.lh29_inv (show aU.lh29 F ez [] 0 tm H = some r from h0)
      cases h
     ·obtain ⟨a_,aN,bK,hks,e0,e1,e5,h⟩:=aU.lh29_inv (show aU.lh29 F ez [] (k29 + 1) tm H = some r from h0)
      have q0:(Tm.put tm 0 (.sl a_)) = tm:=by exact Tm.put_same e0
      have q1:(Tm.put (Tm.put tm 0 (.sl a_)) 1 (.sl aN)) = tm:=by rw [q0]; exact Tm.put_same e1
      have q2:(Tm.put (Tm.put (Tm.put tm 0 (.sl a_)) 1 (.sl aN)) 5 (.int .i64 bK)) = tm:=by rw [q1]; exact Tm.put_same e5
      rw [← q2]
      exact Eq.trans (by kernel_rfl) h
     ·exact loops_none (by kernel_rfl)
   ·exact loops_none (by kernel_rfl)
theorem aU.eqX (F:Nat) (ez:Int→Int→Int→Int→Int→Int→Int→Int→Int→Int→Hp→OA) (aa:Sl) (ae:Sl) (H:Hp):aCode tabs (mkOrc (aU.cs F ez)) aU.pn (aU.lh F ez) F [] 1 aU.code (argTm [(.sl aa),(.sl ae)]) H (fun tm H=>aresults tabs.ty H tm Try.f63.results.toList fun v=>some (v,H)) (fun _ _ _=>none) (fun tm H=>aresults tabs.ty H tm Try.f63.results.toList fun v=>some (v,H)) = aU.twX F ez aa ae H:=by kernel_rfl
theorem aU.cs_ok (F:Nat):∀ p ∈ aU.cs F (bD.tw F),∀ args H v H',p.2 args H = some (v,H')→Go.AE.T Try.prog p.1 args H v H':=by
 intro p hp
 simp only [aU.cs,List.mem_cons,List.not_mem_nil,or_false] at hp
 subst hp
 exact fun args H v H' h=>bD.mk_T h
theorem aU.ok:codeOk aU.pn Try.f63.ntmps aU.tb aU.code = true:=by kernel_rfl
theorem aU.T {F:Nat} {aa:Sl} {ae:Sl} {H:Hp} {v:AV} {H':Hp} (h:aU.tw F aa ae H = some (v,H')):Go.AE.T Try.prog 63 [(.sl aa),(.sl ae)] H v H':=
 Go.AE.T.of (Y:=tabs) (C:=mkOrc (aU.cs F (bD.tw F))) (PN:=aU.pn) (LH:=aU.lh F (bD.tw F)) (F:=F) (TB:=aU.tb) (fn:=Try.f63) (code:=aU.code) mixed tabs_ok (mkOrc_ok (aU.cs_ok F)) Try.func63 (by kernel_rfl) (by kernel_rfl) aU.ok (Nat.le_of_ble_eq_true (by kernel_rfl)) (aU.loops F (bD.tw F)) (Eq.trans (aU.eqX F (bD.tw F) aa ae H) h)
theorem aU.mk_T {F:Nat} {args:List AV} {H:Hp} {v:AV} {H':Hp} (h:aU.mk (aU.tw F) args H = some (v,H')):Go.AE.T Try.prog 63 args H v H':=by
 unfold aU.mk at h
 split at h
 ·exact aU.T h
 ·cases h
noncomputable def bx.twX (F:Nat) (iU:Sl→Sl→Hp→OA) (aa:Sl) (ab:Int) (af:Sl) (bf:Int) (H:Hp):OA:=(Hp.new H [(.sl aa),(.int .i64 ab)]).bind fun H5=>(Hp.new H5 [(.sl af),(.int .i64 bf)]).bind fun H6=>(Hp.ldSl H6 H.length 0).bind fun s7=>(Hp.ldSl H6 H5.length 0).bind fun s8=>(iU s7 s8 H6).bind fun r9=>((r9.1).asB).bind fun b10=>(bif (!b10) then (some ((.bool false),r9.2)) else ((Hp.ldI r9.2 .i64 H.length 1).bind fun n11=>(Hp.ldI r9.2 .i64 H5.length 1).bind fun n12=>(bif (n11 != n12) then (some ((.bool false),r9.2)) else (some ((.bool true),r9.2)))))
noncomputable def bx.tw (F:Nat) (aa:Sl) (ab:Int) (af:Sl) (bf:Int) (H:Hp):OA:=bx.twX F (aU.tw F) aa ab af bf H
noncomputable def bx.code:Go.Code:=(Try.f20.body).getD .skip
noncomputable def bx.lh (F:Nat) (iU:Sl→Sl→Hp→OA) (p:Nat) (ks:List Nat) (n:Nat) (tm:Tm) (H:Hp):OA:=none
def bx.pn:Nat→List Nat:=fun i=>(([]:List (Nat×List Nat)).lookup i).getD []
def bx.tb:Nat→List (List Nat):=fun i=>(([]:List (Nat×List (List Nat))).lookup i).getD []
noncomputable def bx.mk (g:Sl→Int→Sl→Int→Hp→OA) (args:List AV) (H:Hp):OA:=match args with
 | [(.agg [(.sl aa),(.int .i64 ab)]),(.agg [(.sl af),(.int .i64 bf)])]=>g aa ab af bf H
 | _=>none
noncomputable def bx.cs (F:Nat) (iU:Sl→Sl→Hp→OA):List (FuncId×(List AV→Hp→OA)):=[(63,aU.mk iU)]
theorem bx.loops (F:Nat) (iU:Sl→Sl→Hp→OA):LoopsOk tabs (mkOrc (bx.cs F iU)) bx.pn (bx.lh F iU) F [] 1 bx.code (fun tm H=>aresults tabs.ty H tm Try.f20.results.toList fun v=>some (v,H)) (fun _ _ _=>none) (fun tm H=>aresults tabs.ty H tm Try.f20.results.toList fun v=>some (v,H)):=by
 exact loops_none (by kernel_rfl)
theorem bx.eqX (F:Nat) (iU:Sl→Sl→Hp→OA) (aa:Sl) (ab:Int) (af:Sl) (bf:Int) (H:Hp):aCode tabs (mkOrc (bx.cs F iU)) bx.pn (bx.lh F iU) F [] 1 bx.code (argTm [(.agg [(.sl aa),(.int .i64 ab)]),(.agg [(.sl af),(.int .i64 bf)])]) H (fun tm H=>aresults tabs.ty H tm Try.f20.results.toList fun v=>some (v,H)) (fun _ _ _=>none) (fun tm H=>aresults tabs.ty H tm Try.f20.results.toList fun v=>some (v,H)) = bx.twX F iU aa ab af bf H:=by kernel_rfl
theorem bx.cs_ok (F:Nat):∀ p ∈ bx.cs F (aU.tw F),∀ args H v H',p.2 args H = some (v,H')→Go.AE.T Try.prog p.1 args H v H':=by
 intro p hp
 simp only [bx.cs,List.mem_cons,List.not_mem_nil,or_false] at hp
 subst hp
 exact fun args H v H' h=>aU.mk_T h
theorem bx.ok:codeOk bx.pn Try.f20.ntmps bx.tb bx.code = true:=by kernel_rfl
theorem bx.T {F:Nat} {aa:Sl} {ab:Int} {af:Sl} {bf:Int} {H:Hp} {v:AV} {H':Hp} (h:bx.tw F aa ab af bf H = some (v,H')):Go.AE.T Try.prog 20 [(.agg [(.sl aa),(.int .i64 ab)]),(.agg [(.sl af),(.int .i64 bf)])] H v H':=
 Go.AE.T.of (Y:=tabs) (C:=mkOrc (bx.cs F (aU.tw F))) (PN:=bx.pn) (LH:=bx.lh F (aU.tw F)) (F:=F) (TB:=bx.tb) (fn:=Try.f20) (code:=bx.code) mixed tabs_ok (mkOrc_ok (bx.cs_ok F)) Try.func20 (by kernel_rfl) (by kernel_rfl) bx.ok (Nat.le_of_ble_eq_true (by kernel_rfl)) (bx.loops F (aU.tw F)) (Eq.trans (bx.eqX F (aU.tw F) aa ab af bf H) h)
theorem bx.mk_T {F:Nat} {args:List AV} {H:Hp} {v:AV} {H':Hp} (h:bx.mk (bx.tw F) args H = some (v,H')):Go.AE.T Try.prog 20 args H v H':=by
 unfold bx.mk at h
 split at h
 ·exact bx.T h
 ·cases h
noncomputable def aV.l13 (F:Nat) :Nat→Sl→Int→Int→Hp→OA
 | 0,_,_,_,_=>none
 | fN + 1,a_,aN,bo,H7=>(bif (decide (bo < (a_.n:Int))) then ((Sl.idx a_ bo 5).bind fun p18=>(Hp.st H7 p18.1 p18.2 (.int .i64 aN)).bind fun H19=>(Sl.idx a_ bo 5).bind fun p20=>(Hp.st H19 p20.1 (p20.2 + 1) (.int .i64 (IntKind.i64.wrap (aN + 1)))).bind fun H21=>(Sl.idx a_ bo 5).bind fun p22=>(Hp.st H21 p22.1 (p22.2 + 2) (.int .i64 (IntKind.i64.wrap ((IntKind.i64.wrap (aN + 1)) + 1)))).bind fun H23=>(Sl.idx a_ bo 5).bind fun p24=>(Hp.st H23 p24.1 (p24.2 + 3) (.int .i64 (IntKind.i64.wrap ((IntKind.i64.wrap ((IntKind.i64.wrap (aN + 1)) + 1)) + 1)))).bind fun H25=>(Sl.idx a_ bo 5).bind fun p26=>(Hp.st H25 p26.1 (p26.2 + 4) (.int .i64 (IntKind.i64.wrap ((IntKind.i64.wrap ((IntKind.i64.wrap ((IntKind.i64.wrap (aN + 1)) + 1)) + 1)) + 1)))).bind fun H27=>aV.l13 F fN a_ (IntKind.i64.wrap ((IntKind.i64.wrap ((IntKind.i64.wrap ((IntKind.i64.wrap ((IntKind.i64.wrap (aN + 1)) + 1)) + 1)) + 1)) + 1)) (IntKind.i64.wrap (bo + 1)) H27) else (some ((.int .i64 aN),H7)))
termination_by structural n=>n
noncomputable def aV.twX (F:Nat) (aa:Sl) (ae:Int) (H:Hp):OA:=aV.l13 F F aa ae 0 H
noncomputable def aV.tw (F:Nat) (aa:Sl) (ae:Int) (H:Hp):OA:=aV.twX F aa ae H
noncomputable def aV.code:Go.Code:=(Try.f64.body).getD .skip
noncomputable def aV.lh13 (F:Nat) (ks:List Nat) (n:Nat) (tm:Tm) (H:Hp):OA:=match ks,tm 0,tm 1,tm 5 with
 | [],(.sl a_),(.int .i64 aN),(.int .i64 bo)=>aV.l13 F n a_ aN bo H
 | _,_,_,_=>none
theorem aV.lh13_inv {F:Nat} {ks:List Nat} {n:Nat} {tm:Tm} {H:Hp} {r:AV×Hp} (h:aV.lh13 F ks n tm H = some r):∃ a_:Sl,∃ aN:Int,∃ bo:Int,ks = []∧tm 0 = (.sl a_)∧tm 1 = (.int .i64 aN)∧tm 5 = (.int .i64 bo)∧aV.l13 F n a_ aN bo H = some r:=by
 unfold aV.lh13 at h
 split at h
 ·exact ⟨_,_,_,rfl,by assumption,by assumption,by assumption,h⟩
 ·cases h
noncomputable def aV.lh (F:Nat) (p:Nat) (ks:List Nat) (n:Nat) (tm:Tm) (H:Hp):OA:=bif p.beq 13 then aV.lh13 F ks n tm H else (none)
def aV.pn:Nat→List Nat:=fun i=>(([]:List (Nat×List Nat)).lookup i).getD []
def aV.tb:Nat→List (List Nat):=fun i=>(([]:List (Nat×List (List Nat))).lookup i).getD []
noncomputable def aV.mk (g:Sl→Int→Hp→OA) (args:List AV) (H:Hp):OA:=match args with
 | [(.sl aa),(.int .i64 ae)]=>g aa ae H
 | _=>none
noncomputable def aV.cs (F:Nat):List (FuncId×(List AV→Hp→OA)):=[]
theorem aV.loops (F:Nat):LoopsOk tabs (mkOrc (aV.cs F)) aV.pn (aV.lh F) F [] 1 aV.code (fun tm H=>aresults tabs.ty H tm Try.f64.results.toList fun v=>some (v,H)) (fun _ _ _=>none) (fun tm H=>aresults tabs.ty H tm Try.f64.results.toList fun v=>some (v,H)):=by
 refine LoopsOk.seq ?_ ?_
 ·exact loops_none (by kernel_rfl)
 ·refine LoopsOk.seq ?_ ?_
  ·refine LoopsOk.seq ?_ ?_
   ·exact loops_none (by kernel_rfl)
   ·refine LoopsOk.block ?_
    refine LoopsOk.loop (fun tm H=>?_) (fun k13 tm H r h0=>?_) (fun k13=>?_)
    ·refine none_of fun r h0=>?_
     obtain ⟨a_,aN,bo,hks,e0,e1,e5,h⟩:=aV.lh13_inv (show aV.lh13 F [] 0 tm H = some r from h0)
     cases h
    ·obtain ⟨a_,aN,bo,hks,e0,e1,e5,h⟩:=aV.lh13_inv (show aV.lh13 F [] (k13 + 1) tm H = some r from h0)
     have q0:(Tm.put tm 0 (.sl a_)) = tm:=by exact Tm.put_same e0
     have q1:(Tm.put (Tm.put tm 0 (.sl a_)) 1 (.int .i64 aN)) = tm:=by rw [q0]; exact Tm.put_same e1
     have q2:(Tm.put (Tm.put (Tm.put tm 0 (.sl a_)) 1 (.int .i64 aN)) 5 (.int .i64 bo)) = tm:=by rw [q1]; exact Tm.put_same e5
     rw [← q2]
     exact Eq.trans (by kernel_rfl) h
    ·exact loops_none (by kernel_rfl)
  ·exact loops_none (by kernel_rfl)
theorem aV.eqX (F:Nat) (aa:Sl) (ae:Int) (H:Hp):aCode tabs (mkOrc (aV.cs F)) aV.pn (aV.lh F) F [] 1 aV.code (argTm [(.sl aa),(.int .i64 ae)]) H (fun tm H=>aresults tabs.ty H tm Try.f64.results.toList fun v=>some (v,H)) (fun _ _ _=>none) (fun tm H=>aresults tabs.ty H tm Try.f64.results.toList fun v=>some (v,H)) = aV.twX F aa ae H:=by kernel_rfl
theorem aV.cs_ok (F:Nat):∀ p ∈ aV.cs F,∀ args H v H',p.2 args H = some (v,H')→Go.AE.T Try.prog p.1 args H v H':=by
 intro p hp
 exact absurd (show p ∈ [] from hp) List.not_mem_nil
theorem aV.ok:codeOk aV.pn Try.f64.ntmps aV.tb aV.code = true:=by kernel_rfl
theorem aV.T {F:Nat} {aa:Sl} {ae:Int} {H:Hp} {v:AV} {H':Hp} (h:aV.tw F aa ae H = some (v,H')):Go.AE.T Try.prog 64 [(.sl aa),(.int .i64 ae)] H v H':=
 Go.AE.T.of (Y:=tabs) (C:=mkOrc (aV.cs F)) (PN:=aV.pn) (LH:=aV.lh F) (F:=F) (TB:=aV.tb) (fn:=Try.f64) (code:=aV.code) mixed tabs_ok (mkOrc_ok (aV.cs_ok F)) Try.func64 (by kernel_rfl) (by kernel_rfl) aV.ok (Nat.le_of_ble_eq_true (by kernel_rfl)) (aV.loops F) (Eq.trans (aV.eqX F aa ae H) h)
theorem aV.mk_T {F:Nat} {args:List AV} {H:Hp} {v:AV} {H':Hp} (h:aV.mk (aV.tw F) args H = some (v,H')):Go.AE.T Try.prog 64 args H v H':=by
 unfold aV.mk at h
 split at h
 ·exact aV.T h
 ·cases h
noncomputable def bz.twX (F:Nat) (iV:Sl→Int→Hp→OA) (aa:Sl) (ab:Int) (af:Int) (H:Hp):OA:=(Hp.new H [(.sl aa),(.int .i64 ab)]).bind fun H4=>(Hp.ldSl H4 H.length 0).bind fun s5=>(iV s5 af H4).bind fun r6=>((r6.1).asI .i64).bind fun n7=>some ((.int .i64 n7),r6.2)
noncomputable def bz.tw (F:Nat) (aa:Sl) (ab:Int) (af:Int) (H:Hp):OA:=bz.twX F (aV.tw F) aa ab af H
noncomputable def bz.code:Go.Code:=(Try.f21.body).getD .skip
noncomputable def bz.lh (F:Nat) (iV:Sl→Int→Hp→OA) (p:Nat) (ks:List Nat) (n:Nat) (tm:Tm) (H:Hp):OA:=none
def bz.pn:Nat→List Nat:=fun i=>(([]:List (Nat×List Nat)).lookup i).getD []
def bz.tb:Nat→List (List Nat):=fun i=>(([]:List (Nat×List (List Nat))).lookup i).getD []
noncomputable def bz.mk (g:Sl→Int→Int→Hp→OA) (args:List AV) (H:Hp):OA:=match args with
 | [(.agg [(.sl aa),(.int .i64 ab)]),(.int .i64 af)]=>g aa ab af H
 | _=>none
noncomputable def bz.cs (F:Nat) (iV:Sl→Int→Hp→OA):List (FuncId×(List AV→Hp→OA)):=[(64,aV.mk iV)]
theorem bz.loops (F:Nat) (iV:Sl→Int→Hp→OA):LoopsOk tabs (mkOrc (bz.cs F iV)) bz.pn (bz.lh F iV) F [] 1 bz.code (fun tm H=>aresults tabs.ty H tm Try.f21.results.toList fun v=>some (v,H)) (fun _ _ _=>none) (fun tm H=>aresults tabs.ty H tm Try.f21.results.toList fun v=>some (v,H)):=by
 exact loops_none (by kernel_rfl)
theorem bz.eqX (F:Nat) (iV:Sl→Int→Hp→OA) (aa:Sl) (ab:Int) (af:Int) (H:Hp):aCode tabs (mkOrc (bz.cs F iV)) bz.pn (bz.lh F iV) F [] 1 bz.code (argTm [(.agg [(.sl aa),(.int .i64 ab)]),(.int .i64 af)]) H (fun tm H=>aresults tabs.ty H tm Try.f21.results.toList fun v=>some (v,H)) (fun _ _ _=>none) (fun tm H=>aresults tabs.ty H tm Try.f21.results.toList fun v=>some (v,H)) = bz.twX F iV aa ab af H:=by kernel_rfl
theorem bz.cs_ok (F:Nat):∀ p ∈ bz.cs F (aV.tw F),∀ args H v H',p.2 args H = some (v,H')→Go.AE.T Try.prog p.1 args H v H':=by
 intro p hp
 simp only [bz.cs,List.mem_cons,List.not_mem_nil,or_false] at hp
 subst hp
 exact fun args H v H' h=>aV.mk_T h
theorem bz.ok:codeOk bz.pn Try.f21.ntmps bz.tb bz.code = true:=by kernel_rfl
theorem bz.T {F:Nat} {aa:Sl} {ab:Int} {af:Int} {H:Hp} {v:AV} {H':Hp} (h:bz.tw F aa ab af H = some (v,H')):Go.AE.T Try.prog 21 [(.agg [(.sl aa),(.int .i64 ab)]),(.int .i64 af)] H v H':=
 Go.AE.T.of (Y:=tabs) (C:=mkOrc (bz.cs F (aV.tw F))) (PN:=bz.pn) (LH:=bz.lh F (aV.tw F)) (F:=F) (TB:=bz.tb) (fn:=Try.f21) (code:=bz.code) mixed tabs_ok (mkOrc_ok (bz.cs_ok F)) Try.func21 (by kernel_rfl) (by kernel_rfl) bz.ok (Nat.le_of_ble_eq_true (by kernel_rfl)) (bz.loops F (aV.tw F)) (Eq.trans (bz.eqX F (aV.tw F) aa ab af H) h)
theorem bz.mk_T {F:Nat} {args:List AV} {H:Hp} {v:AV} {H':Hp} (h:bz.mk (bz.tw F) args H = some (v,H')):Go.AE.T Try.prog 21 args H v H':=by
 unfold bz.mk at h
 split at h
 ·exact bz.T h
 ·cases h
noncomputable def aW.l13 (F:Nat) :Nat→Sl→Int→Int→Hp→OA
 | 0,_,_,_,_=>none
 | fN + 1,a_,aN,bo,H7=>(bif (decide (bo < (a_.n:Int))) then ((Sl.idx a_ bo 1).bind fun p10=>(Hp.st H7 p10.1 p10.2 (.int .i64 aN)).bind fun H11=>aW.l13 F fN a_ (IntKind.i64.wrap (aN + 1)) (IntKind.i64.wrap (bo + 1)) H11) else (some ((.int .i64 aN),H7)))
termination_by structural n=>n
noncomputable def aW.twX (F:Nat) (aa:Sl) (ae:Int) (H:Hp):OA:=aW.l13 F F aa ae 0 H
noncomputable def aW.tw (F:Nat) (aa:Sl) (ae:Int) (H:Hp):OA:=aW.twX F aa ae H
noncomputable def aW.code:Go.Code:=(Try.f22.body).getD .skip
noncomputable def aW.lh13 (F:Nat) (ks:List Nat) (n:Nat) (tm:Tm) (H:Hp):OA:=match ks,tm 0,tm 1,tm 5 with
 | [],(.sl a_),(.int .i64 aN),(.int .i64 bo)=>aW.l13 F n a_ aN bo H
 | _,_,_,_=>none
theorem aW.lh13_inv {F:Nat} {ks:List Nat} {n:Nat} {tm:Tm} {H:Hp} {r:AV×Hp} (h:aW.lh13 F ks n tm H = some r):∃ a_:Sl,∃ aN:Int,∃ bo:Int,ks = []∧tm 0 = (.sl a_)∧tm 1 = (.int .i64 aN)∧tm 5 = (.int .i64 bo)∧aW.l13 F n a_ aN bo H = some r:=by
 unfold aW.lh13 at h
 split at h
 ·exact ⟨_,_,_,rfl,by assumption,by assumption,by assumption,h⟩
 ·cases h
noncomputable def aW.lh (F:Nat) (p:Nat) (ks:List Nat) (n:Nat) (tm:Tm) (H:Hp):OA:=bif p.beq 13 then aW.lh13 F ks n tm H else (none)
def aW.pn:Nat→List Nat:=fun i=>(([]:List (Nat×List Nat)).lookup i).getD []
def aW.tb:Nat→List (List Nat):=fun i=>(([]:List (Nat×List (List Nat))).lookup i).getD []
noncomputable def aW.mk (g:Sl→Int→Hp→OA) (args:List AV) (H:Hp):OA:=match args with
 | [(.sl aa),(.int .i64 ae)]=>g aa ae H
 | _=>none
noncomputable def aW.cs (F:Nat):List (FuncId×(List AV→Hp→OA)):=[]
theorem aW.loops (F:Nat):LoopsOk tabs (mkOrc (aW.cs F)) aW.pn (aW.lh F) F [] 1 aW.code (fun tm H=>aresults tabs.ty H tm Try.f22.results.toList fun v=>some (v,H)) (fun _ _ _=>none) (fun tm H=>aresults tabs.ty H tm Try.f22.results.toList fun v=>some (v,H)):=by
 refine LoopsOk.seq ?_ ?_
 ·exact loops_none (by kernel_rfl)
 ·refine LoopsOk.seq ?_ ?_
  ·refine LoopsOk.seq ?_ ?_
   ·exact loops_none (by kernel_rfl)
   ·refine LoopsOk.block ?_
    refine LoopsOk.loop (fun tm H=>?_) (fun k13 tm H r h0=>?_) (fun k13=>?_)
    ·refine none_of fun r h0=>?_
     obtain ⟨a_,aN,bo,hks,e0,e1,e5,h⟩:=aW.lh13_inv (show aW.lh13 F [] 0 tm H = some r from h0)
     cases h
    ·obtain ⟨a_,aN,bo,hks,e0,e1,e5,h⟩:=aW.lh13_inv (show aW.lh13 F [] (k13 + 1) tm H = some r from h0)
     have q0:(Tm.put tm 0 (.sl a_)) = tm:=by exact Tm.put_same e0
     have q1:(Tm.put (Tm.put tm 0 (.sl a_)) 1 (.int .i64 aN)) = tm:=by rw [q0]; exact Tm.put_same e1
     have q2:(Tm.put (Tm.put (Tm.put tm 0 (.sl a_)) 1 (.int .i64 aN)) 5 (.int .i64 bo)) = tm:=by rw [q1]; exact Tm.put_same e5
     rw [← q2]
     exact Eq.trans (by kernel_rfl) h
    ·exact loops_none (by kernel_rfl)
  ·exact loops_none (by kernel_rfl)
theorem aW.eqX (F:Nat) (aa:Sl) (ae:Int) (H:Hp):aCode tabs (mkOrc (aW.cs F)) aW.pn (aW.lh F) F [] 1 aW.code (argTm [(.sl aa),(.int .i64 ae)]) H (fun tm H=>aresults tabs.ty H tm Try.f22.results.toList fun v=>some (v,H)) (fun _ _ _=>none) (fun tm H=>aresults tabs.ty H tm Try.f22.results.toList fun v=>some (v,H)) = aW.twX F aa ae H:=by kernel_rfl
theorem aW.cs_ok (F:Nat):∀ p ∈ aW.cs F,∀ args H v H',p.2 args H = some (v,H')→Go.AE.T Try.prog p.1 args H v H':=by
 intro p hp
 exact absurd (show p ∈ [] from hp) List.not_mem_nil
theorem aW.ok:codeOk aW.pn Try.f22.ntmps aW.tb aW.code = true:=by kernel_rfl
theorem aW.T {F:Nat} {aa:Sl} {ae:Int} {H:Hp} {v:AV} {H':Hp} (h:aW.tw F aa ae H = some (v,H')):Go.AE.T Try.prog 22 [(.sl aa),(.int .i64 ae)] H v H':=
 Go.AE.T.of (Y:=tabs) (C:=mkOrc (aW.cs F)) (PN:=aW.pn) (LH:=aW.lh F) (F:=F) (TB:=aW.tb) (fn:=Try.f22) (code:=aW.code) mixed tabs_ok (mkOrc_ok (aW.cs_ok F)) Try.func22 (by kernel_rfl) (by kernel_rfl) aW.ok (Nat.le_of_ble_eq_true (by kernel_rfl)) (aW.loops F) (Eq.trans (aW.eqX F aa ae H) h)
theorem aW.mk_T {F:Nat} {args:List AV} {H:Hp} {v:AV} {H':Hp} (h:aW.mk (aW.tw F) args H = some (v,H')):Go.AE.T Try.prog 22 args H v H':=by
 unfold aW.mk at h
 split at h
 ·exact aW.T h
 ·cases h
noncomputable def aP.l13 (F:Nat) :Nat→Sl→Int→Int→Hp→OA
 | 0,_,_,_,_=>none
 | fN + 1,a_,aN,bo,H7=>(bif (decide (bo < (a_.n:Int))) then ((Sl.idx a_ bo 1).bind fun p10=>(Hp.ldI H7 .i64 p10.1 p10.2).bind fun n11=>(bif (n11 != aN) then (some ((.int .i64 (-1)),H7)) else (aP.l13 F fN a_ (IntKind.i64.wrap (aN + 1)) (IntKind.i64.wrap (bo + 1)) H7))) else (some ((.int .i64 aN),H7)))
termination_by structural n=>n
noncomputable def aP.twX (F:Nat) (aa:Sl) (ae:Int) (H:Hp):OA:=aP.l13 F F aa ae 0 H
noncomputable def aP.tw (F:Nat) (aa:Sl) (ae:Int) (H:Hp):OA:=aP.twX F aa ae H
noncomputable def aP.code:Go.Code:=(Try.f23.body).getD .skip
noncomputable def aP.lh13 (F:Nat) (ks:List Nat) (n:Nat) (tm:Tm) (H:Hp):OA:=match ks,tm 0,tm 1,tm 5 with
 | [],(.sl a_),(.int .i64 aN),(.int .i64 bo)=>aP.l13 F n a_ aN bo H
 | _,_,_,_=>none
theorem aP.lh13_inv {F:Nat} {ks:List Nat} {n:Nat} {tm:Tm} {H:Hp} {r:AV×Hp} (h:aP.lh13 F ks n tm H = some r):∃ a_:Sl,∃ aN:Int,∃ bo:Int,ks = []∧tm 0 = (.sl a_)∧tm 1 = (.int .i64 aN)∧tm 5 = (.int .i64 bo)∧aP.l13 F n a_ aN bo H = some r:=by
 unfold aP.lh13 at h
 split at h
 ·exact ⟨_,_,_,rfl,by assumption,by assumption,by assumption,h⟩
 ·cases h
noncomputable def aP.lh (F:Nat) (p:Nat) (ks:List Nat) (n:Nat) (tm:Tm) (H:Hp):OA:=bif p.beq 13 then aP.lh13 F ks n tm H else (none)
def aP.pn:Nat→List Nat:=fun i=>(([]:List (Nat×List Nat)).lookup i).getD []
def aP.tb:Nat→List (List Nat):=fun i=>(([]:List (Nat×List (List Nat))).lookup i).getD []
noncomputable def aP.mk (g:Sl→Int→Hp→OA) (args:List AV) (H:Hp):OA:=match args with
 | [(.sl aa),(.int .i64 ae)]=>g aa ae H
 | _=>none
noncomputable def aP.cs (F:Nat):List (FuncId×(List AV→Hp→OA)):=[]
theorem aP.loops (F:Nat):LoopsOk tabs (mkOrc (aP.cs F)) aP.pn (aP.lh F) F [] 1 aP.code (fun tm H=>aresults tabs.ty H tm Try.f23.results.toList fun v=>some (v,H)) (fun _ _ _=>none) (fun tm H=>aresults tabs.ty H tm Try.f23.results.toList fun v=>some (v,H)):=by
 refine LoopsOk.seq ?_ ?_
 ·exact loops_none (by kernel_rfl)
 ·refine LoopsOk.seq ?_ ?_
  ·refine LoopsOk.seq ?_ ?_
   ·exact loops_none (by kernel_rfl)
   ·refine LoopsOk.block ?_
    refine LoopsOk.loop (fun tm H=>?_) (fun k13 tm H r h0=>?_) (fun k13=>?_)
    ·refine none_of fun r h0=>?_
     obtain ⟨a_,aN,bo,hks,e0,e1,e5,h⟩:=aP.lh13_inv (show aP.lh13 F [] 0 tm H = some r from h0)
     cases h
    ·obtain ⟨a_,aN,bo,hks,e0,e1,e5,h⟩:=aP.lh13_inv (show aP.lh13 F [] (k13 + 1) tm H = some r from h0)
     have q0:(Tm.put tm 0 (.sl a_)) = tm:=by exact Tm.put_same e0
     have q1:(Tm.put (Tm.put tm 0 (.sl a_)) 1 (.int .i64 aN)) = tm:=by rw [q0]; exact Tm.put_same e1
     have q2:(Tm.put (Tm.put (Tm.put tm 0 (.sl a_)) 1 (.int .i64 aN)) 5 (.int .i64 bo)) = tm:=by rw [q1]; exact Tm.put_same e5
     rw [← q2]
     exact Eq.trans (by kernel_rfl) h
    ·exact loops_none (by kernel_rfl)
  ·exact loops_none (by kernel_rfl)
theorem aP.eqX (F:Nat) (aa:Sl) (ae:Int) (H:Hp):aCode tabs (mkOrc (aP.cs F)) aP.pn (aP.lh F) F [] 1 aP.code (argTm [(.sl aa),(.int .i64 ae)]) H (fun tm H=>aresults tabs.ty H tm Try.f23.results.toList fun v=>some (v,H)) (fun _ _ _=>none) (fun tm H=>aresults tabs.ty H tm Try.f23.results.toList fun v=>some (v,H)) = aP.twX F aa ae H:=by kernel_rfl
theorem aP.cs_ok (F:Nat):∀ p ∈ aP.cs F,∀ args H v H',p.2 args H = some (v,H')→Go.AE.T Try.prog p.1 args H v H':=by
 intro p hp
 exact absurd (show p ∈ [] from hp) List.not_mem_nil
theorem aP.ok:codeOk aP.pn Try.f23.ntmps aP.tb aP.code = true:=by kernel_rfl
theorem aP.T {F:Nat} {aa:Sl} {ae:Int} {H:Hp} {v:AV} {H':Hp} (h:aP.tw F aa ae H = some (v,H')):Go.AE.T Try.prog 23 [(.sl aa),(.int .i64 ae)] H v H':=
 Go.AE.T.of (Y:=tabs) (C:=mkOrc (aP.cs F)) (PN:=aP.pn) (LH:=aP.lh F) (F:=F) (TB:=aP.tb) (fn:=Try.f23) (code:=aP.code) mixed tabs_ok (mkOrc_ok (aP.cs_ok F)) Try.func23 (by kernel_rfl) (by kernel_rfl) aP.ok (Nat.le_of_ble_eq_true (by kernel_rfl)) (aP.loops F) (Eq.trans (aP.eqX F aa ae H) h)
theorem aP.mk_T {F:Nat} {args:List AV} {H:Hp} {v:AV} {H':Hp} (h:aP.mk (aP.tw F) args H = some (v,H')):Go.AE.T Try.prog 23 args H v H':=by
 unfold aP.mk at h
 split at h
 ·exact aP.T h
 ·cases h
noncomputable def bL.twX (F:Nat) (iW:Sl→Int→Int→Hp→OA) (gS:Sl→Int→Hp→OA) (iX:Sl→Int→Int→Hp→OA) (iw:Sl→Int→Int→Hp→OA) (hU:Sl→Sl→Hp→OA) (iY:Sl→Int→Sl→Int→Hp→OA) (iZ:Sl→Int→Int→Hp→OA) (i_:Sl→Int→Hp→OA) (iy:Sl→Int→Hp→OA) (aa:Sl) (ab:Int) (af:Int) (H:Hp):OA:=(Hp.new H [(.sl aa),(.int .i64 ab)]).bind fun H4=>(Hp.ldSl H4 H.length 0).bind fun s5=>(Hp.ldI H4 .i64 H.length (0 + 1)).bind fun n6=>(iW s5 n6 1048576 H4).bind fun r7=>((r7.1).asI .i64).bind fun n8=>(bif (decide (n8 < 0)) then (some ((.bool true),r7.2)) else ((Hp.ldSl r7.2 H.length 0).bind fun s9=>(Hp.ldI r7.2 .i64 H.length (0 + 1)).bind fun n10=>(gS s9 n10 r7.2).bind fun r11=>((r11.1).asAgg 2).bind fun l12=>(l12[0]?).bind fun v13=>((v13).asSl).bind fun s14=>(l12[1]?).bind fun v15=>((v15).asI .i64).bind fun n16=>(iX s14 n16 af r11.2).bind fun r17=>((r17.1).asTup 2).bind fun l18=>(l18[0]?).bind fun v19=>((v19).asSl).bind fun s20=>(l18[1]?).bind fun v21=>((v21).asI .i64).bind fun n22=>(Hp.ldSl r17.2 H.length 0).bind fun s23=>(Hp.ldI r17.2 .i64 H.length (0 + 1)).bind fun n24=>(gS s23 n24 r17.2).bind fun r25=>((r25.1).asAgg 2).bind fun l26=>(l26[0]?).bind fun v27=>((v27).asSl).bind fun s28=>(l26[1]?).bind fun v29=>((v29).asI .i64).bind fun n30=>(Hp.new r25.2 [.sl ⟨none,0,.ex 0⟩,.int .i64 0]).bind fun H31=>(Hp.st H31 r25.2.length 0 (.sl s28)).bind fun H32=>(Hp.st H32 r25.2.length (0 + 1) (.int .i64 n30)).bind fun H33=>(Hp.ldSl H33 r25.2.length 0).bind fun s34=>(Hp.ldI H33 .i64 r25.2.length (0 + 1)).bind fun n35=>(iw s34 n35 af H33).bind fun r36=>((r36.1).asTup 2).bind fun l37=>(l37[0]?).bind fun v38=>((v38).asSl).bind fun s39=>(l37[1]?).bind fun v40=>((v40).asI .i64).bind fun n41=>(hU s39 s20 r36.2).bind fun r42=>((r42.1).asB).bind fun b43=>(bif (!b43) then (some ((.bool false),r42.2)) else ((bif (n41 != n22) then (some ((.bool false),r42.2)) else ((Hp.ldSl r42.2 r25.2.length 0).bind fun s44=>(Hp.ldI r42.2 .i64 r25.2.length (0 + 1)).bind fun n45=>(Hp.ldSl r42.2 H.length 0).bind fun s46=>(Hp.ldI r42.2 .i64 H.length (0 + 1)).bind fun n47=>(gS s46 n47 r42.2).bind fun r48=>((r48.1).asAgg 2).bind fun l49=>(l49[0]?).bind fun v50=>((v50).asSl).bind fun s51=>(l49[1]?).bind fun v52=>((v52).asI .i64).bind fun n53=>(if Cons r42.2 r48.2 then ((iY s44 n45 s51 n53 r48.2).bind fun r54=>((r54.1).asB).bind fun b55=>(bif (!b55) then (some ((.bool false),r54.2)) else ((Hp.ldSl r54.2 r25.2.length 0).bind fun s56=>(Hp.ldI r54.2 .i64 r25.2.length (0 + 1)).bind fun n57=>(iZ s56 n57 1 r54.2).bind fun r58=>((r58.1).asI .i64).bind fun n59=>(bif (decide (n59 < 0)) then (some ((.bool false),r58.2)) else ((hU s39 s20 r58.2).bind fun r60=>((r60.1).asB).bind fun b61=>(bif (!b61) then (some ((.bool false),r60.2)) else ((bif (n41 != n22) then (some ((.bool false),r60.2)) else ((i_ s39 1 r60.2).bind fun r62=>((r62.1).asI .i64).bind fun n63=>(iy s39 1 r62.2).bind fun r64=>((r64.1).asI .i64).bind fun n65=>(bif (decide (n65 < 0)) then (some ((.bool false),r64.2)) else ((bif (n65 != n63) then (some ((.bool false),r64.2)) else ((Hp.ldSl r64.2 H.length 0).bind fun s66=>(Hp.ldI r64.2 .i64 H.length (0 + 1)).bind fun n67=>(gS s66 n67 r64.2).bind fun r68=>((r68.1).asAgg 2).bind fun l69=>(l69[0]?).bind fun v70=>((v70).asSl).bind fun s71=>(l69[1]?).bind fun v72=>((v72).asI .i64).bind fun n73=>(iw s71 n73 af r68.2).bind fun r74=>((r74.1).asTup 2).bind fun l75=>(l75[0]?).bind fun v76=>((v76).asSl).bind fun s77=>(l75[1]?).bind fun v78=>((v78).asI .i64).bind fun n79=>(hU s77 s20 r74.2).bind fun r80=>((r80.1).asB).bind fun b81=>(bif (!b81) then (some ((.bool false),r80.2)) else ((bif (n79 != n22) then (some ((.bool false),r80.2)) else ((iy s39 1 r80.2).bind fun r82=>((r82.1).asI .i64).bind fun n83=>(bif (decide (n83 < 0)) then (some ((.bool false),r82.2)) else ((bif (n83 != n63) then (some ((.bool false),r82.2)) else (some ((.bool true),r82.2)))))))))))))))))))))) else none)))))))
noncomputable def bL.tw (F:Nat) (aa:Sl) (ab:Int) (af:Int) (H:Hp):OA:=bL.twX F (bv.tw F) (bp.tw F) (ai.tw F) (az.tw F) (aO.tw F) (bx.tw F) (bz.tw F) (aW.tw F) (aP.tw F) aa ab af H
noncomputable def bL.code:Go.Code:=(Try.f9.body).getD .skip
noncomputable def bL.lh (F:Nat) (iW:Sl→Int→Int→Hp→OA) (gS:Sl→Int→Hp→OA) (iX:Sl→Int→Int→Hp→OA) (iw:Sl→Int→Int→Hp→OA) (hU:Sl→Sl→Hp→OA) (iY:Sl→Int→Sl→Int→Hp→OA) (iZ:Sl→Int→Int→Hp→OA) (i_:Sl→Int→Hp→OA) (iy:Sl→Int→Hp→OA) (p:Nat) (ks:List Nat) (n:Nat) (tm:Tm) (H:Hp):OA:=none
def bL.pn:Nat→List Nat:=fun i=>(([(10,[3])]:List (Nat×List Nat)).lookup i).getD []
def bL.tb:Nat→List (List Nat):=fun i=>(([(10,[[],[],[1],[0,1,2],[0,1,2,3]])]:List (Nat×List (List Nat))).lookup i).getD []
noncomputable def bL.mk (g:Sl→Int→Int→Hp→OA) (args:List AV) (H:Hp):OA:=match args with
 | [(.agg [(.sl aa),(.int .i64 ab)]),(.int .i64 af)]=>g aa ab af H
 | _=>none
noncomputable def bL.cs (F:Nat) (iW:Sl→Int→Int→Hp→OA) (gS:Sl→Int→Hp→OA) (iX:Sl→Int→Int→Hp→OA) (iw:Sl→Int→Int→Hp→OA) (hU:Sl→Sl→Hp→OA) (iY:Sl→Int→Sl→Int→Hp→OA) (iZ:Sl→Int→Int→Hp→OA) (i_:Sl→Int→Hp→OA) (iy:Sl→Int→Hp→OA):List (FuncId×(List AV→Hp→OA)):=[(15,bv.mk iW),(17,bp.mk gS),(38,ai.mk iX),(39,az.mk iw),(19,aO.mk hU),(20,bx.mk iY),(21,bz.mk iZ),(22,aW.mk i_),(23,aP.mk iy)]
theorem bL.loops (F:Nat) (iW:Sl→Int→Int→Hp→OA) (gS:Sl→Int→Hp→OA) (iX:Sl→Int→Int→Hp→OA) (iw:Sl→Int→Int→Hp→OA) (hU:Sl→Sl→Hp→OA) (iY:Sl→Int→Sl→Int→Hp→OA) (iZ:Sl→Int→Int→Hp→OA) (i_:Sl→Int→Hp→OA) (iy:Sl→Int→Hp→OA):LoopsOk tabs (mkOrc (bL.cs F iW gS iX iw hU iY iZ i_ iy)) bL.pn (bL.lh F iW gS iX iw hU iY iZ i_ iy) F [] 1 bL.code (fun tm H=>aresults tabs.ty H tm Try.f9.results.toList fun v=>some (v,H)) (fun _ _ _=>none) (fun tm H=>aresults tabs.ty H tm Try.f9.results.toList fun v=>some (v,H)):=by
 exact loops_none (by kernel_rfl)
theorem bL.eqX (F:Nat) (iW:Sl→Int→Int→Hp→OA) (gS:Sl→Int→Hp→OA) (iX:Sl→Int→Int→Hp→OA) (iw:Sl→Int→Int→Hp→OA) (hU:Sl→Sl→Hp→OA) (iY:Sl→Int→Sl→Int→Hp→OA) (iZ:Sl→Int→Int→Hp→OA) (i_:Sl→Int→Hp→OA) (iy:Sl→Int→Hp→OA) (aa:Sl) (ab:Int) (af:Int) (H:Hp):aCode tabs (mkOrc (bL.cs F iW gS iX iw hU iY iZ i_ iy)) bL.pn (bL.lh F iW gS iX iw hU iY iZ i_ iy) F [] 1 bL.code (argTm [(.agg [(.sl aa),(.int .i64 ab)]),(.int .i64 af)]) H (fun tm H=>aresults tabs.ty H tm Try.f9.results.toList fun v=>some (v,H)) (fun _ _ _=>none) (fun tm H=>aresults tabs.ty H tm Try.f9.results.toList fun v=>some (v,H)) = bL.twX F iW gS iX iw hU iY iZ i_ iy aa ab af H:=by kernel_rfl
theorem bL.cs_ok (F:Nat):∀ p ∈ bL.cs F (bv.tw F) (bp.tw F) (ai.tw F) (az.tw F) (aO.tw F) (bx.tw F) (bz.tw F) (aW.tw F) (aP.tw F),∀ args H v H',p.2 args H = some (v,H')→Go.AE.T Try.prog p.1 args H v H':=by
 intro p hp
 simp only [bL.cs,List.mem_cons,List.not_mem_nil,or_false] at hp
 rcases hp with rfl | rfl | rfl | rfl | rfl | rfl | rfl | rfl | rfl
 ·exact fun args H v H' h=>bv.mk_T h
 ·exact fun args H v H' h=>bp.mk_T h
 ·exact fun args H v H' h=>ai.mk_T h
 ·exact fun args H v H' h=>az.mk_T h
 ·exact fun args H v H' h=>aO.mk_T h
 ·exact fun args H v H' h=>bx.mk_T h
 ·exact fun args H v H' h=>bz.mk_T h
 ·exact fun args H v H' h=>aW.mk_T h
 ·exact fun args H v H' h=>aP.mk_T h
theorem bL.ok:codeOk bL.pn Try.f9.ntmps bL.tb bL.code = true:=by kernel_rfl
theorem bL.T {F:Nat} {aa:Sl} {ab:Int} {af:Int} {H:Hp} {v:AV} {H':Hp} (h:bL.tw F aa ab af H = some (v,H')):Go.AE.T Try.prog 9 [(.agg [(.sl aa),(.int .i64 ab)]),(.int .i64 af)] H v H':=
 Go.AE.T.of (Y:=tabs) (C:=mkOrc (bL.cs F (bv.tw F) (bp.tw F) (ai.tw F) (az.tw F) (aO.tw F) (bx.tw F) (bz.tw F) (aW.tw F) (aP.tw F))) (PN:=bL.pn) (LH:=bL.lh F (bv.tw F) (bp.tw F) (ai.tw F) (az.tw F) (aO.tw F) (bx.tw F) (bz.tw F) (aW.tw F) (aP.tw F)) (F:=F) (TB:=bL.tb) (fn:=Try.f9) (code:=bL.code) mixed tabs_ok (mkOrc_ok (bL.cs_ok F)) Try.func9 (by kernel_rfl) (by kernel_rfl) bL.ok (Nat.le_of_ble_eq_true (by kernel_rfl)) (bL.loops F (bv.tw F) (bp.tw F) (ai.tw F) (az.tw F) (aO.tw F) (bx.tw F) (bz.tw F) (aW.tw F) (aP.tw F)) (Eq.trans (bL.eqX F (bv.tw F) (bp.tw F) (ai.tw F) (az.tw F) (aO.tw F) (bx.tw F) (bz.tw F) (aW.tw F) (aP.tw F) aa ab af H) h)
theorem bL.mk_T {F:Nat} {args:List AV} {H:Hp} {v:AV} {H':Hp} (h:bL.mk (bL.tw F) args H = some (v,H')):Go.AE.T Try.prog 9 args H v H':=by
 unfold bL.mk at h
 split at h
 ·exact bL.T h
 ·cases h
end Go.Proofs.Ythfinhmkgdmelaa.AE
