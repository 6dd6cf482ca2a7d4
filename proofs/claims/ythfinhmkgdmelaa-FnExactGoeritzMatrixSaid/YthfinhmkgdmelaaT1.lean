import Derived.Test.YthfinhmkgdmelaaTab1
import Derived.Test.YthfinhmkgdmelaaE2
set_option linter.unusedVariables false
set_option linter.unusedSimpArgs false
namespace Go.Proofs.Ythfinhmkgdmelaa.AE
open Go Go.AE Go.Proofs Go.RowKit Go.Maps
set_option linter.unusedVariables false
set_option maxHeartbeats 4000000
set_option maxRecDepth 100000
noncomputable def bW.twX (F:Nat) (aa:Sl) (af:Int) (H:Hp):OA:=(bif (decide ((IntKind.i64.wrap (af - (aa.n:Int))) < 0)) then (some ((.int .i64 (-1)),H)) else (some ((.int .i64 (IntKind.i64.wrap (af - (aa.n:Int)))),H)))
noncomputable def bW.tw (F:Nat) (aa:Sl) (af:Int) (H:Hp):OA:=bW.twX F aa af H
noncomputable def bW.code:Go.Code:=(Try.f58.body).getD .skip
noncomputable def bW.lh (F:Nat) (p:Nat) (ks:List Nat) (n:Nat) (tm:Tm) (H:Hp):OA:=none
def bW.pn:Nat→List Nat:=fun i=>(([]:List (Nat×List Nat)).lookup i).getD []
def bW.tb:Nat→List (List Nat):=fun i=>(([]:List (Nat×List (List Nat))).lookup i).getD []
noncomputable def bW.mk (g:Sl→Int→Hp→OA) (args:List AV) (H:Hp):OA:=match args with
 | [(.sl aa),(.int .i64 af)]=>g aa af H
 | _=>none
noncomputable def bW.cs (F:Nat):List (FuncId×(List AV→Hp→OA)):=[]
theorem bW.loops (F:Nat):LoopsOk tabs (mkOrc (bW.cs F)) bW.pn (bW.lh F) F [] 1 bW.code (fun tm H=>aresults tabs.ty H tm Try.f58.results.toList fun v=>some (v,H)) (fun _ _ _=>none) (fun tm H=>aresults tabs.ty H tm Try.f58.results.toList fun v=>some (v,H)):=by
 exact loops_none (by kernel_rfl)
theorem bW.eqX (F:Nat) (aa:Sl) (af:Int) (H:Hp):aCode tabs (mkOrc (bW.cs F)) bW.pn (bW.lh F) F [] 1 bW.code (argTm [(.sl aa),(.int .i64 af)]) H (fun tm H=>aresults tabs.ty H tm Try.f58.results.toList fun v=>some (v,H)) (fun _ _ _=>none) (fun tm H=>aresults tabs.ty H tm Try.f58.results.toList fun v=>some (v,H)) = bW.twX F aa af H:=by kernel_rfl
theorem bW.cs_ok (F:Nat):∀ p ∈ bW.cs F,∀ args H v H',p.2 args H = some (v,H')→Go.AE.T Try.prog p.1 args H v H':=by
 intro p hp
 exact absurd (show p ∈ [] from hp) List.not_mem_nil
theorem bW.ok:codeOk bW.pn Try.f58.ntmps bW.tb bW.code = true:=by kernel_rfl
theorem bW.T {F:Nat} {aa:Sl} {af:Int} {H:Hp} {v:AV} {H':Hp} (h:bW.tw F aa af H = some (v,H')):Go.AE.T Try.prog 58 [(.sl aa),(.int .i64 af)] H v H':=
 Go.AE.T.of (Y:=tabs) (C:=mkOrc (bW.cs F)) (PN:=bW.pn) (LH:=bW.lh F) (F:=F) (TB:=bW.tb) (fn:=Try.f58) (code:=bW.code) mixed tabs_ok (mkOrc_ok (bW.cs_ok F)) Try.func58 (by kernel_rfl) (by kernel_rfl) bW.ok (Nat.le_of_ble_eq_true (by kernel_rfl)) (bW.loops F) (Eq.trans (bW.eqX F aa af H) h)
theorem bW.mk_T {F:Nat} {args:List AV} {H:Hp} {v:AV} {H':Hp} (h:bW.mk (bW.tw F) args H = some (v,H')):Go.AE.T Try.prog 58 args H v H':=by
 unfold bW.mk at h
 split at h
 ·exact bW.T h
 ·cases h
noncomputable def bN.twX (F:Nat) (jR:Sl→Int→Hp→OA) (aa:Sl) (ab:Int) (ah:Int) (H:Hp):OA:=(Hp.new H [(.sl aa),(.int .i64 ab)]).bind fun H4=>(Hp.ldSl H4 H.length 0).bind fun s5=>(jR s5 ah H4).bind fun r6=>((r6.1).asI .i64).bind fun n7=>(bif (decide (n7 < 0)) then (some ((.int .i64 (-1)),r6.2)) else (some ((.int .i64 n7),r6.2)))
noncomputable def bN.tw (F:Nat) (aa:Sl) (ab:Int) (ah:Int) (H:Hp):OA:=bN.twX F (bW.tw F) aa ab ah H
noncomputable def bN.code:Go.Code:=(Try.f15.body).getD .skip
noncomputable def bN.lh (F:Nat) (jR:Sl→Int→Hp→OA) (p:Nat) (ks:List Nat) (n:Nat) (tm:Tm) (H:Hp):OA:=none
def bN.pn:Nat→List Nat:=fun i=>(([]:List (Nat×List Nat)).lookup i).getD []
def bN.tb:Nat→List (List Nat):=fun i=>(([]:List (Nat×List (List Nat))).lookup i).getD []
noncomputable def bN.mk (g:Sl→Int→Int→Hp→OA) (args:List AV) (H:Hp):OA:=match args with
 | [(.agg [(.sl aa),(.int .i64 ab)]),(.int .i64 ah)]=>g aa ab ah H
 | _=>none
noncomputable def bN.cs (F:Nat) (jR:Sl→Int→Hp→OA):List (FuncId×(List AV→Hp→OA)):=[(58,bW.mk jR)]
theorem bN.loops (F:Nat) (jR:Sl→Int→Hp→OA):LoopsOk tabs (mkOrc (bN.cs F jR)) bN.pn (bN.lh F jR) F [] 1 bN.code (fun tm H=>aresults tabs.ty H tm Try.f15.results.toList fun v=>some (v,H)) (fun _ _ _=>none) (fun tm H=>aresults tabs.ty H tm Try.f15.results.toList fun v=>some (v,H)):=by
 exact loops_none (by kernel_rfl)
theorem bN.eqX (F:Nat) (jR:Sl→Int→Hp→OA) (aa:Sl) (ab:Int) (ah:Int) (H:Hp):aCode tabs (mkOrc (bN.cs F jR)) bN.pn (bN.lh F jR) F [] 1 bN.code (argTm [(.agg [(.sl aa),(.int .i64 ab)]),(.int .i64 ah)]) H (fun tm H=>aresults tabs.ty H tm Try.f15.results.toList fun v=>some (v,H)) (fun _ _ _=>none) (fun tm H=>aresults tabs.ty H tm Try.f15.results.toList fun v=>some (v,H)) = bN.twX F jR aa ab ah H:=by kernel_rfl
theorem bN.cs_ok (F:Nat):∀ p ∈ bN.cs F (bW.tw F),∀ args H v H',p.2 args H = some (v,H')→Go.AE.T Try.prog p.1 args H v H':=by
 intro p hp
 simp only [bN.cs,List.mem_cons,List.not_mem_nil,or_false] at hp
 subst hp
 exact fun args H v H' h=>bW.mk_T h
theorem bN.ok:codeOk bN.pn Try.f15.ntmps bN.tb bN.code = true:=by kernel_rfl
theorem bN.T {F:Nat} {aa:Sl} {ab:Int} {ah:Int} {H:Hp} {v:AV} {H':Hp} (h:bN.tw F aa ab ah H = some (v,H')):Go.AE.T Try.prog 15 [(.agg [(.sl aa),(.int .i64 ab)]),(.int .i64 ah)] H v H':=
 Go.AE.T.of (Y:=tabs) (C:=mkOrc (bN.cs F (bW.tw F))) (PN:=bN.pn) (LH:=bN.lh F (bW.tw F)) (F:=F) (TB:=bN.tb) (fn:=Try.f15) (code:=bN.code) mixed tabs_ok (mkOrc_ok (bN.cs_ok F)) Try.func15 (by kernel_rfl) (by kernel_rfl) bN.ok (Nat.le_of_ble_eq_true (by kernel_rfl)) (bN.loops F (bW.tw F)) (Eq.trans (bN.eqX F (bW.tw F) aa ab ah H) h)
theorem bN.mk_T {F:Nat} {args:List AV} {H:Hp} {v:AV} {H':Hp} (h:bN.mk (bN.tw F) args H = some (v,H')):Go.AE.T Try.prog 15 args H v H':=by
 unfold bN.mk at h
 split at h
 ·exact bN.T h
 ·cases h
noncomputable def bX.twX (F:Nat) (aa:Int) (ab:Int) (ay:Int) (aJ:Int) (aG:Int) (H:Hp):OA:=(Hp.new H [(.int .i64 aa),(.int .i64 ab),(.int .i64 ay),(.int .i64 aJ),(.int .i64 aG)]).bind fun H6=>(Hp.new H6 [.int .i64 0,.int .i64 0,.int .i64 0,.int .i64 0,.int .i64 0]).bind fun H7=>(Hp.new H7 [.int .i64 0,.int .i64 0,.int .i64 0,.int .i64 0,.int .i64 0]).bind fun H8=>(Hp.ldI H8 .i64 H.length 0).bind fun n9=>(Hp.st H8 H7.length 0 (.int .i64 n9)).bind fun H10=>(Hp.ldI H10 .i64 H.length 1).bind fun n11=>(Hp.st H10 H7.length 1 (.int .i64 n11)).bind fun H12=>(Hp.ldI H12 .i64 H.length 2).bind fun n13=>(Hp.st H12 H7.length 2 (.int .i64 n13)).bind fun H14=>(Hp.ldI H14 .i64 H.length 3).bind fun n15=>(Hp.st H14 H7.length 3 (.int .i64 n15)).bind fun H16=>(Hp.ldI H16 .i64 H.length 4).bind fun n17=>(Hp.st H16 H7.length 4 (.int .i64 n17)).bind fun H18=>(Hp.ldI H18 .i64 H7.length 0).bind fun n19=>(Hp.ldI H18 .i64 H7.length (0 + 1)).bind fun n20=>(Hp.ldI H18 .i64 H7.length (0 + 2)).bind fun n21=>(Hp.ldI H18 .i64 H7.length (0 + 3)).bind fun n22=>(Hp.ldI H18 .i64 H7.length (0 + 4)).bind fun n23=>(Hp.st H18 H6.length 0 (.int .i64 n19)).bind fun H24=>(Hp.st H24 H6.length (0 + 1) (.int .i64 n20)).bind fun H25=>(Hp.st H25 H6.length (0 + 1 + 1) (.int .i64 n21)).bind fun H26=>(Hp.st H26 H6.length (0 + 1 + 1 + 1) (.int .i64 n22)).bind fun H27=>(Hp.st H27 H6.length (0 + 1 + 1 + 1 + 1) (.int .i64 n23)).bind fun H28=>(Hp.ldI H28 .i64 H6.length 0).bind fun n29=>(Hp.ldI H28 .i64 H6.length (0 + 1)).bind fun n30=>(Hp.ldI H28 .i64 H6.length (0 + 2)).bind fun n31=>(Hp.ldI H28 .i64 H6.length (0 + 3)).bind fun n32=>(Hp.ldI H28 .i64 H6.length (0 + 4)).bind fun n33=>some ((.agg [(.int .i64 n29),(.int .i64 n30),(.int .i64 n31),(.int .i64 n32),(.int .i64 n33)]),H28)
noncomputable def bX.tw (F:Nat) (aa:Int) (ab:Int) (ay:Int) (aJ:Int) (aG:Int) (H:Hp):OA:=bX.twX F aa ab ay aJ aG H
noncomputable def bX.code:Go.Code:=(Try.f115.body).getD .skip
noncomputable def bX.lh (F:Nat) (p:Nat) (ks:List Nat) (n:Nat) (tm:Tm) (H:Hp):OA:=none
def bX.pn:Nat→List Nat:=fun i=>(([]:List (Nat×List Nat)).lookup i).getD []
def bX.tb:Nat→List (List Nat):=fun i=>(([]:List (Nat×List (List Nat))).lookup i).getD []
noncomputable def bX.mk (g:Int→Int→Int→Int→Int→Hp→OA) (args:List AV) (H:Hp):OA:=match args with
 | [(.agg [(.int .i64 aa),(.int .i64 ab),(.int .i64 ay),(.int .i64 aJ),(.int .i64 aG)])]=>g aa ab ay aJ aG H
 | _=>none
noncomputable def bX.cs (F:Nat):List (FuncId×(List AV→Hp→OA)):=[]
theorem bX.loops (F:Nat):LoopsOk tabs (mkOrc (bX.cs F)) bX.pn (bX.lh F) F [] 1 bX.code (fun tm H=>aresults tabs.ty H tm Try.f115.results.toList fun v=>some (v,H)) (fun _ _ _=>none) (fun tm H=>aresults tabs.ty H tm Try.f115.results.toList fun v=>some (v,H)):=by
 exact loops_none (by kernel_rfl)
theorem bX.eqX (F:Nat) (aa:Int) (ab:Int) (ay:Int) (aJ:Int) (aG:Int) (H:Hp):aCode tabs (mkOrc (bX.cs F)) bX.pn (bX.lh F) F [] 1 bX.code (argTm [(.agg [(.int .i64 aa),(.int .i64 ab),(.int .i64 ay),(.int .i64 aJ),(.int .i64 aG)])]) H (fun tm H=>aresults tabs.ty H tm Try.f115.results.toList fun v=>some (v,H)) (fun _ _ _=>none) (fun tm H=>aresults tabs.ty H tm Try.f115.results.toList fun v=>some (v,H)) = bX.twX F aa ab ay aJ aG H:=by kernel_rfl
theorem bX.cs_ok (F:Nat):∀ p ∈ bX.cs F,∀ args H v H',p.2 args H = some (v,H')→Go.AE.T Try.prog p.1 args H v H':=by
 intro p hp
 exact absurd (show p ∈ [] from hp) List.not_mem_nil
theorem bX.ok:codeOk bX.pn Try.f115.ntmps bX.tb bX.code = true:=by kernel_rfl
theorem bX.T {F:Nat} {aa:Int} {ab:Int} {ay:Int} {aJ:Int} {aG:Int} {H:Hp} {v:AV} {H':Hp} (h:bX.tw F aa ab ay aJ aG H = some (v,H')):Go.AE.T Try.prog 115 [(.agg [(.int .i64 aa),(.int .i64 ab),(.int .i64 ay),(.int .i64 aJ),(.int .i64 aG)])] H v H':=
 Go.AE.T.of (Y:=tabs) (C:=mkOrc (bX.cs F)) (PN:=bX.pn) (LH:=bX.lh F) (F:=F) (TB:=bX.tb) (fn:=Try.f115) (code:=bX.code) mixed tabs_ok (mkOrc_ok (bX.cs_ok F)) Try.func115 (by kernel_rfl) (by kernel_rfl) bX.ok (Nat.le_of_ble_eq_true (by kernel_rfl)) (bX.loops F) (Eq.trans (bX.eqX F aa ab ay aJ aG H) h)
theorem bX.mk_T {F:Nat} {args:List AV} {H:Hp} {v:AV} {H':Hp} (h:bX.mk (bX.tw F) args H = some (v,H')):Go.AE.T Try.prog 115 args H v H':=by
 unfold bX.mk at h
 split at h
 ·exact bX.T h
 ·cases h
noncomputable def ba.l29 (F:Nat) (eN:Int→Int→Int→Int→Int→Hp→OA) :Nat→Sl→Sl→Int→Hp→OA
 | 0,_,_,_,_=>none
 | fx + 1,bm,jw,eO,H7=>(bif (decide (eO < (bm.n:Int))) then ((Sl.idx bm eO 5).bind fun p32=>(Hp.ldI H7 .i64 p32.1 p32.2).bind fun n33=>(Hp.ldI H7 .i64 p32.1 (p32.2 + 1)).bind fun n34=>(Hp.ldI H7 .i64 p32.1 (p32.2 + 2)).bind fun n35=>(Hp.ldI H7 .i64 p32.1 (p32.2 + 3)).bind fun n36=>(Hp.ldI H7 .i64 p32.1 (p32.2 + 4)).bind fun n37=>(eN n33 n34 n35 n36 n37 H7).bind fun r38=>((r38.1).asAgg 5).bind fun l39=>(l39[0]?).bind fun v40=>((v40).asI .i64).bind fun n41=>(l39[1]?).bind fun v42=>((v42).asI .i64).bind fun n43=>(l39[2]?).bind fun v44=>((v44).asI .i64).bind fun n45=>(l39[3]?).bind fun v46=>((v46).asI .i64).bind fun n47=>(l39[4]?).bind fun v48=>((v48).asI .i64).bind fun n49=>(Sl.idx jw eO 5).bind fun p50=>(Hp.st r38.2 p50.1 p50.2 (.int .i64 n41)).bind fun H51=>(Hp.st H51 p50.1 (p50.2 + 1) (.int .i64 n43)).bind fun H52=>(Hp.st H52 p50.1 (p50.2 + 1 + 1) (.int .i64 n45)).bind fun H53=>(Hp.st H53 p50.1 (p50.2 + 1 + 1 + 1) (.int .i64 n47)).bind fun H54=>(Hp.st H54 p50.1 (p50.2 + 1 + 1 + 1 + 1) (.int .i64 n49)).bind fun H55=>ba.l29 F eN fx bm jw (IntKind.i64.wrap (eO + 1)) H55) else (some ((.sl jw),H7)))
termination_by structural n=>n
noncomputable def ba.twX (F:Nat) (eN:Int→Int→Int→Int→Int→Hp→OA) (aa:Sl) (H:Hp):OA:=(Hp.mk H [.int .i64 0,.int .i64 0,.int .i64 0,.int .i64 0,.int .i64 0] 40 (aa.n:Int) (aa.n:Int)).bind fun m2=>ba.l29 F eN F aa m2.1 0 m2.2
noncomputable def ba.tw (F:Nat) (aa:Sl) (H:Hp):OA:=ba.twX F (bX.tw F) aa H
noncomputable def ba.code:Go.Code:=(Try.f60.body).getD .skip
noncomputable def ba.lh29 (F:Nat) (eN:Int→Int→Int→Int→Int→Hp→OA) (ks:List Nat) (n:Nat) (tm:Tm) (H:Hp):OA:=match ks,tm 0,tm 3,tm 4 with
 | [],(.sl bm),(.sl jw),(.int .i64 eO)=>ba.l29 F eN n bm jw eO H
 | _,_,_,_=>none
theorem ba.lh29_inv {F:Nat} {eN:Int→Int→Int→Int→Int→Hp→OA} {ks:List Nat} {n:Nat} {tm:Tm} {H:Hp} {r:AV×Hp} (h:ba.lh29 F eN ks n tm H = some r):∃ bm:Sl,∃ jw:Sl,∃ eO:Int,ks = []∧tm 0 = (.sl bm)∧tm 3 = (.sl jw)∧tm 4 = (.int .i64 eO)∧ba.l29 F eN n bm jw eO H = some r:=by
 unfold ba.lh29 at h
 split at h
 ·exact ⟨_,_,_,rfl,by assumption,by assumption,by assumption,h⟩
 ·cases h
noncomputable def ba.lh (F:Nat) (eN:Int→Int→Int→Int→Int→Hp→OA) (p:Nat) (ks:List Nat) (n:Nat) (tm:Tm) (H:Hp):OA:=bif p.beq 29 then ba.lh29 F eN ks n tm H else (none)
def ba.pn:Nat→List Nat:=fun i=>(([]:List (Nat×List Nat)).lookup i).getD []
def ba.tb:Nat→List (List Nat):=fun i=>(([]:List (Nat×List (List Nat))).lookup i).getD []
noncomputable def ba.mk (g:Sl→Hp→OA) (args:List AV) (H:Hp):OA:=match args with
 | [(.sl aa)]=>g aa H
 | _=>none
noncomputable def ba.cs (F:Nat) (eN:Int→Int→Int→Int→Int→Hp→OA):List (FuncId×(List AV→Hp→OA)):=[(115,bX.mk eN)]
theorem ba.loops (F:Nat) (eN:Int→Int→Int→Int→Int→Hp→OA):LoopsOk tabs (mkOrc (ba.cs F eN)) ba.pn (ba.lh F eN) F [] 1 ba.code (fun tm H=>aresults tabs.ty H tm Try.f60.results.toList fun v=>some (v,H)) (fun _ _ _=>none) (fun tm H=>aresults tabs.ty H tm Try.f60.results.toList fun v=>some (v,H)):=by
 refine LoopsOk.seq ?_ ?_
 ·exact loops_none (by kernel_rfl)
 ·refine LoopsOk.seq ?_ ?_
  ·exact loops_none (by kernel_rfl)
  ·refine LoopsOk.seq ?_ ?_
   ·refine LoopsOk.seq ?_ ?_
    ·exact loops_none (by kernel_rfl)
    ·refine LoopsOk.block ?_
     refine LoopsOk.loop (fun tm H=>?_) (fun k29 tm H r h0=>?_) (fun k29=>?_)
     ·refine none_of fun r h0=>?_
      obtain ⟨bm,jw,eO,hks,e0,e3,e4,h⟩:=ba.lh29_inv (show ba.lh29 F eN [] 0 tm H = some r from h0)
      cases h
     ·obtain ⟨bm,jw,eO,hks,e0,e3,e4,h⟩:=ba.lh29_inv (show ba.lh29 F eN [] (k29 + 1) tm H = some r from h0)
      have q0:(Tm.put tm 0 (.sl bm)) = tm:=by exact Tm.put_same e0
      have q1:(Tm.put (Tm.put tm 0 (.sl bm)) 3 (.sl jw)) = tm:=by rw [q0]; exact Tm.put_same e3
      have q2:(Tm.put (Tm.put (Tm.put tm 0 (.sl bm)) 3 (.sl jw)) 4 (.int .i64 eO)) = tm:=by rw [q1]; exact Tm.put_same e4
      rw [← q2]
      exact Eq.trans (by kernel_rfl) h
     ·exact loops_none (by kernel_rfl)
   ·exact loops_none (by kernel_rfl)
theorem ba.eqX (F:Nat) (eN:Int→Int→Int→Int→Int→Hp→OA) (aa:Sl) (H:Hp):aCode tabs (mkOrc (ba.cs F eN)) ba.pn (ba.lh F eN) F [] 1 ba.code (argTm [(.sl aa)]) H (fun tm H=>aresults tabs.ty H tm Try.f60.results.toList fun v=>some (v,H)) (fun _ _ _=>none) (fun tm H=>aresults tabs.ty H tm Try.f60.results.toList fun v=>some (v,H)) = ba.twX F eN aa H:=by kernel_rfl
theorem ba.cs_ok (F:Nat):∀ p ∈ ba.cs F (bX.tw F),∀ args H v H',p.2 args H = some (v,H')→Go.AE.T Try.prog p.1 args H v H':=by
 intro p hp
 simp only [ba.cs,List.mem_cons,List.not_mem_nil,or_false] at hp
 subst hp
 exact fun args H v H' h=>bX.mk_T h
theorem ba.ok:codeOk ba.pn Try.f60.ntmps ba.tb ba.code = true:=by kernel_rfl
theorem ba.T {F:Nat} {aa:Sl} {H:Hp} {v:AV} {H':Hp} (h:ba.tw F aa H = some (v,H')):Go.AE.T Try.prog 60 [(.sl aa)] H v H':=
 Go.AE.T.of (Y:=tabs) (C:=mkOrc (ba.cs F (bX.tw F))) (PN:=ba.pn) (LH:=ba.lh F (bX.tw F)) (F:=F) (TB:=ba.tb) (fn:=Try.f60) (code:=ba.code) mixed tabs_ok (mkOrc_ok (ba.cs_ok F)) Try.func60 (by kernel_rfl) (by kernel_rfl) ba.ok (Nat.le_of_ble_eq_true (by kernel_rfl)) (ba.loops F (bX.tw F)) (Eq.trans (ba.eqX F (bX.tw F) aa H) h)
theorem ba.mk_T {F:Nat} {args:List AV} {H:Hp} {v:AV} {H':Hp} (h:ba.mk (ba.tw F) args H = some (v,H')):Go.AE.T Try.prog 60 args H v H':=by
 unfold ba.mk at h
 split at h
 ·exact ba.T h
 ·cases h
noncomputable def bE.twX (F:Nat) (jS:Sl→Hp→OA) (aa:Sl) (ab:Int) (H:Hp):OA:=(Hp.new H [(.sl aa),(.int .i64 ab)]).bind fun H3=>(Hp.new H3 [.sl ⟨none,0,.ex 0⟩,.int .i64 0]).bind fun H4=>(Hp.new H4 [.sl ⟨none,0,.ex 0⟩,.int .i64 0]).bind fun H5=>(Hp.ldSl H5 H.length 0).bind fun s6=>(jS s6 H5).bind fun r7=>((r7.1).asSl).bind fun s8=>(Hp.st r7.2 H4.length 0 (.sl s8)).bind fun H9=>(Hp.ldI H9 .i64 H.length 1).bind fun n10=>(Hp.st H9 H4.length 1 (.int .i64 n10)).bind fun H11=>(Hp.ldSl H11 H4.length 0).bind fun s12=>(Hp.ldI H11 .i64 H4.length (0 + 1)).bind fun n13=>(Hp.st H11 H3.length 0 (.sl s12)).bind fun H14=>(Hp.st H14 H3.length (0 + 1) (.int .i64 n13)).bind fun H15=>(Hp.ldSl H15 H3.length 0).bind fun s16=>(Hp.ldI H15 .i64 H3.length (0 + 1)).bind fun n17=>some ((.agg [(.sl s16),(.int .i64 n17)]),H15)
noncomputable def bE.tw (F:Nat) (aa:Sl) (ab:Int) (H:Hp):OA:=bE.twX F (ba.tw F) aa ab H
noncomputable def bE.code:Go.Code:=(Try.f17.body).getD .skip
noncomputable def bE.lh (F:Nat) (jS:Sl→Hp→OA) (p:Nat) (ks:List Nat) (n:Nat) (tm:Tm) (H:Hp):OA:=none
def bE.pn:Nat→List Nat:=fun i=>(([]:List (Nat×List Nat)).lookup i).getD []
def bE.tb:Nat→List (List Nat):=fun i=>(([]:List (Nat×List (List Nat))).lookup i).getD []
noncomputable def bE.mk (g:Sl→Int→Hp→OA) (args:List AV) (H:Hp):OA:=match args with
 | [(.agg [(.sl aa),(.int .i64 ab)])]=>g aa ab H
 | _=>none
noncomputable def bE.cs (F:Nat) (jS:Sl→Hp→OA):List (FuncId×(List AV→Hp→OA)):=[(60,ba.mk jS)]
theorem bE.loops (F:Nat) (jS:Sl→Hp→OA):LoopsOk tabs (mkOrc (bE.cs F jS)) bE.pn (bE.lh F jS) F [] 1 bE.code (fun tm H=>aresults tabs.ty H tm Try.f17.results.toList fun v=>some (v,H)) (fun _ _ _=>none) (fun tm H=>aresults tabs.ty H tm Try.f17.results.toList fun v=>some (v,H)):=by
 exact loops_none (by kernel_rfl)
theorem bE.eqX (F:Nat) (jS:Sl→Hp→OA) (aa:Sl) (ab:Int) (H:Hp):aCode tabs (mkOrc (bE.cs F jS)) bE.pn (bE.lh F jS) F [] 1 bE.code (argTm [(.agg [(.sl aa),(.int .i64 ab)])]) H (fun tm H=>aresults tabs.ty H tm Try.f17.results.toList fun v=>some (v,H)) (fun _ _ _=>none) (fun tm H=>aresults tabs.ty H tm Try.f17.results.toList fun v=>some (v,H)) = bE.twX F jS aa ab H:=by kernel_rfl
theorem bE.cs_ok (F:Nat):∀ p ∈ bE.cs F (ba.tw F),∀ args H v H',p.2 args H = some (v,H')→Go.AE.T Try.prog p.1 args H v H':=by
 intro p hp
 simp only [bE.cs,List.mem_cons,List.not_mem_nil,or_false] at hp
 subst hp
 exact fun args H v H' h=>ba.mk_T h
theorem bE.ok:codeOk bE.pn Try.f17.ntmps bE.tb bE.code = true:=by kernel_rfl
theorem bE.T {F:Nat} {aa:Sl} {ab:Int} {H:Hp} {v:AV} {H':Hp} (h:bE.tw F aa ab H = some (v,H')):Go.AE.T Try.prog 17 [(.agg [(.sl aa),(.int .i64 ab)])] H v H':=
 Go.AE.T.of (Y:=tabs) (C:=mkOrc (bE.cs F (ba.tw F))) (PN:=bE.pn) (LH:=bE.lh F (ba.tw F)) (F:=F) (TB:=bE.tb) (fn:=Try.f17) (code:=bE.code) mixed tabs_ok (mkOrc_ok (bE.cs_ok F)) Try.func17 (by kernel_rfl) (by kernel_rfl) bE.ok (Nat.le_of_ble_eq_true (by kernel_rfl)) (bE.loops F (ba.tw F)) (Eq.trans (bE.eqX F (ba.tw F) aa ab H) h)
theorem bE.mk_T {F:Nat} {args:List AV} {H:Hp} {v:AV} {H':Hp} (h:bE.mk (bE.tw F) args H = some (v,H')):Go.AE.T Try.prog 17 args H v H':=by
 unfold bE.mk at h
 split at h
 ·exact bE.T h
 ·cases h
noncomputable def bn.twX (F:Nat) (aa:Int) (af:Int) (bz:Int) (H:Hp):OA:=(bif (decide (aa ≥ af)) then (some ((.bool (decide (aa ≤ bz))),H)) else (some ((.bool false),H)))
noncomputable def bn.tw (F:Nat) (aa:Int) (af:Int) (bz:Int) (H:Hp):OA:=bn.twX F aa af bz H
noncomputable def bn.code:Go.Code:=(Try.f65.body).getD .skip
noncomputable def bn.lh (F:Nat) (p:Nat) (ks:List Nat) (n:Nat) (tm:Tm) (H:Hp):OA:=none
def bn.pn:Nat→List Nat:=fun i=>(([]:List (Nat×List Nat)).lookup i).getD []
def bn.tb:Nat→List (List Nat):=fun i=>(([]:List (Nat×List (List Nat))).lookup i).getD []
noncomputable def bn.mk (g:Int→Int→Int→Hp→OA) (args:List AV) (H:Hp):OA:=match args with
 | [(.int .i64 aa),(.int .i64 af),(.int .i64 bz)]=>g aa af bz H
 | _=>none
noncomputable def bn.cs (F:Nat):List (FuncId×(List AV→Hp→OA)):=[]
theorem bn.loops (F:Nat):LoopsOk tabs (mkOrc (bn.cs F)) bn.pn (bn.lh F) F [] 1 bn.code (fun tm H=>aresults tabs.ty H tm Try.f65.results.toList fun v=>some (v,H)) (fun _ _ _=>none) (fun tm H=>aresults tabs.ty H tm Try.f65.results.toList fun v=>some (v,H)):=by
 exact loops_none (by kernel_rfl)
theorem bn.eqX (F:Nat) (aa:Int) (af:Int) (bz:Int) (H:Hp):aCode tabs (mkOrc (bn.cs F)) bn.pn (bn.lh F) F [] 1 bn.code (argTm [(.int .i64 aa),(.int .i64 af),(.int .i64 bz)]) H (fun tm H=>aresults tabs.ty H tm Try.f65.results.toList fun v=>some (v,H)) (fun _ _ _=>none) (fun tm H=>aresults tabs.ty H tm Try.f65.results.toList fun v=>some (v,H)) = bn.twX F aa af bz H:=by kernel_rfl
theorem bn.cs_ok (F:Nat):∀ p ∈ bn.cs F,∀ args H v H',p.2 args H = some (v,H')→Go.AE.T Try.prog p.1 args H v H':=by
 intro p hp
 exact absurd (show p ∈ [] from hp) List.not_mem_nil
theorem bn.ok:codeOk bn.pn Try.f65.ntmps bn.tb bn.code = true:=by kernel_rfl
theorem bn.T {F:Nat} {aa:Int} {af:Int} {bz:Int} {H:Hp} {v:AV} {H':Hp} (h:bn.tw F aa af bz H = some (v,H')):Go.AE.T Try.prog 65 [(.int .i64 aa),(.int .i64 af),(.int .i64 bz)] H v H':=
 Go.AE.T.of (Y:=tabs) (C:=mkOrc (bn.cs F)) (PN:=bn.pn) (LH:=bn.lh F) (F:=F) (TB:=bn.tb) (fn:=Try.f65) (code:=bn.code) mixed tabs_ok (mkOrc_ok (bn.cs_ok F)) Try.func65 (by kernel_rfl) (by kernel_rfl) bn.ok (Nat.le_of_ble_eq_true (by kernel_rfl)) (bn.loops F) (Eq.trans (bn.eqX F aa af bz H) h)
theorem bn.mk_T {F:Nat} {args:List AV} {H:Hp} {v:AV} {H':Hp} (h:bn.mk (bn.tw F) args H = some (v,H')):Go.AE.T Try.prog 65 args H v H':=by
 unfold bn.mk at h
 split at h
 ·exact bn.T h
 ·cases h
noncomputable def bj.twX (F:Nat) (aa:Int) (ab:Int) (ay:Int) (aJ:Int) (aG:Int) (aX:Int) (H:Hp):OA:=(Hp.new H [(.int .i64 aa),(.int .i64 ab),(.int .i64 ay),(.int .i64 aJ),(.int .i64 aG)]).bind fun H7=>(Hp.ldI H7 .i64 H.length 0).bind fun n8=>(Hp.ldI H7 .i64 H.length 1).bind fun n9=>(Hp.ldI H7 .i64 H.length 2).bind fun n10=>(Hp.ldI H7 .i64 H.length 3).bind fun n11=>(Hp.new H7 [(.int .i64 n8),(.int .i64 n9),(.int .i64 n10),(.int .i64 n11)]).bind fun H12=>(Sl.idx (⟨some (H7.length,0),4,.ex 4⟩:Sl) aX 1).bind fun p13=>(Hp.ldI H12 .i64 p13.1 p13.2).bind fun n14=>some ((.int .i64 n14),H12)
noncomputable def bj.tw (F:Nat) (aa:Int) (ab:Int) (ay:Int) (aJ:Int) (aG:Int) (aX:Int) (H:Hp):OA:=bj.twX F aa ab ay aJ aG aX H
noncomputable def bj.code:Go.Code:=(Try.f140.body).getD .skip
noncomputable def bj.lh (F:Nat) (p:Nat) (ks:List Nat) (n:Nat) (tm:Tm) (H:Hp):OA:=none
def bj.pn:Nat→List Nat:=fun i=>(([]:List (Nat×List Nat)).lookup i).getD []
def bj.tb:Nat→List (List Nat):=fun i=>(([]:List (Nat×List (List Nat))).lookup i).getD []
noncomputable def bj.mk (g:Int→Int→Int→Int→Int→Int→Hp→OA) (args:List AV) (H:Hp):OA:=match args with
 | [(.agg [(.int .i64 aa),(.int .i64 ab),(.int .i64 ay),(.int .i64 aJ),(.int .i64 aG)]),(.int .i64 aX)]=>g aa ab ay aJ aG aX H
 | _=>none
noncomputable def bj.cs (F:Nat):List (FuncId×(List AV→Hp→OA)):=[]
theorem bj.loops (F:Nat):LoopsOk tabs (mkOrc (bj.cs F)) bj.pn (bj.lh F) F [] 1 bj.code (fun tm H=>aresults tabs.ty H tm Try.f140.results.toList fun v=>some (v,H)) (fun _ _ _=>none) (fun tm H=>aresults tabs.ty H tm Try.f140.results.toList fun v=>some (v,H)):=by
 exact loops_none (by kernel_rfl)
theorem bj.eqX (F:Nat) (aa:Int) (ab:Int) (ay:Int) (aJ:Int) (aG:Int) (aX:Int) (H:Hp):aCode tabs (mkOrc (bj.cs F)) bj.pn (bj.lh F) F [] 1 bj.code (argTm [(.agg [(.int .i64 aa),(.int .i64 ab),(.int .i64 ay),(.int .i64 aJ),(.int .i64 aG)]),(.int .i64 aX)]) H (fun tm H=>aresults tabs.ty H tm Try.f140.results.toList fun v=>some (v,H)) (fun _ _ _=>none) (fun tm H=>aresults tabs.ty H tm Try.f140.results.toList fun v=>some (v,H)) = bj.twX F aa ab ay aJ aG aX H:=by kernel_rfl
theorem bj.cs_ok (F:Nat):∀ p ∈ bj.cs F,∀ args H v H',p.2 args H = some (v,H')→Go.AE.T Try.prog p.1 args H v H':=by
 intro p hp
 exact absurd (show p ∈ [] from hp) List.not_mem_nil
theorem bj.ok:codeOk bj.pn Try.f140.ntmps bj.tb bj.code = true:=by kernel_rfl
theorem bj.T {F:Nat} {aa:Int} {ab:Int} {ay:Int} {aJ:Int} {aG:Int} {aX:Int} {H:Hp} {v:AV} {H':Hp} (h:bj.tw F aa ab ay aJ aG aX H = some (v,H')):Go.AE.T Try.prog 140 [(.agg [(.int .i64 aa),(.int .i64 ab),(.int .i64 ay),(.int .i64 aJ),(.int .i64 aG)]),(.int .i64 aX)] H v H':=
 Go.AE.T.of (Y:=tabs) (C:=mkOrc (bj.cs F)) (PN:=bj.pn) (LH:=bj.lh F) (F:=F) (TB:=bj.tb) (fn:=Try.f140) (code:=bj.code) mixed tabs_ok (mkOrc_ok (bj.cs_ok F)) Try.func140 (by kernel_rfl) (by kernel_rfl) bj.ok (Nat.le_of_ble_eq_true (by kernel_rfl)) (bj.loops F) (Eq.trans (bj.eqX F aa ab ay aJ aG aX H) h)
theorem bj.mk_T {F:Nat} {args:List AV} {H:Hp} {v:AV} {H':Hp} (h:bj.mk (bj.tw F) args H = some (v,H')):Go.AE.T Try.prog 140 args H v H':=by
 unfold bj.mk at h
 split at h
 ·exact bj.T h
 ·cases h
noncomputable def bk.twX (F:Nat) (aa:Int) (ab:Int) (ay:Int) (aJ:Int) (aG:Int) (aX:Int) (H:Hp):OA:=(Hp.new H [(.int .i64 aa),(.int .i64 ab),(.int .i64 ay),(.int .i64 aJ),(.int .i64 aG)]).bind fun H7=>(bif (aX == 0) then (some ((.bool true),H7)) else ((bif (aX == 3) then ((Hp.ldI H7 .i64 H.length 4).bind fun n8=>(bif (n8 == 1) then (some ((.bool true),H7)) else ((bif (aX == 1) then ((Hp.ldI H7 .i64 H.length 4).bind fun n9=>some ((.bool (n9 == (-1))),H7)) else (some ((.bool false),H7)))))) else ((bif (aX == 1) then ((Hp.ldI H7 .i64 H.length 4).bind fun n10=>some ((.bool (n10 == (-1))),H7)) else (some ((.bool false),H7)))))))
noncomputable def bk.tw (F:Nat) (aa:Int) (ab:Int) (ay:Int) (aJ:Int) (aG:Int) (aX:Int) (H:Hp):OA:=bk.twX F aa ab ay aJ aG aX H
noncomputable def bk.code:Go.Code:=(Try.f141.body).getD .skip
noncomputable def bk.lh (F:Nat) (p:Nat) (ks:List Nat) (n:Nat) (tm:Tm) (H:Hp):OA:=none
def bk.pn:Nat→List Nat:=fun i=>(([]:List (Nat×List Nat)).lookup i).getD []
def bk.tb:Nat→List (List Nat):=fun i=>(([]:List (Nat×List (List Nat))).lookup i).getD []
noncomputable def bk.mk (g:Int→Int→Int→Int→Int→Int→Hp→OA) (args:List AV) (H:Hp):OA:=match args with
 | [(.agg [(.int .i64 aa),(.int .i64 ab),(.int .i64 ay),(.int .i64 aJ),(.int .i64 aG)]),(.int .i64 aX)]=>g aa ab ay aJ aG aX H
 | _=>none
noncomputable def bk.cs (F:Nat):List (FuncId×(List AV→Hp→OA)):=[]
theorem bk.loops (F:Nat):LoopsOk tabs (mkOrc (bk.cs F)) bk.pn (bk.lh F) F [] 1 bk.code (fun tm H=>aresults tabs.ty H tm Try.f141.results.toList fun v=>some (v,H)) (fun _ _ _=>none) (fun tm H=>aresults tabs.ty H tm Try.f141.results.toList fun v=>some (v,H)):=by
 exact loops_none (by kernel_rfl)
theorem bk.eqX (F:Nat) (aa:Int) (ab:Int) (ay:Int) (aJ:Int) (aG:Int) (aX:Int) (H:Hp):aCode tabs (mkOrc (bk.cs F)) bk.pn (bk.lh F) F [] 1 bk.code (argTm [(.agg [(.int .i64 aa),(.int .i64 ab),(.int .i64 ay),(.int .i64 aJ),(.int .i64 aG)]),(.int .i64 aX)]) H (fun tm H=>aresults tabs.ty H tm Try.f141.results.toList fun v=>some (v,H)) (fun _ _ _=>none) (fun tm H=>aresults tabs.ty H tm Try.f141.results.toList fun v=>some (v,H)) = bk.twX F aa ab ay aJ aG aX H:=by kernel_rfl
theorem bk.cs_ok (F:Nat):∀ p ∈ bk.cs F,∀ args H v H',p.2 args H = some (v,H')→Go.AE.T Try.prog p.1 args H v H':=by
 intro p hp
 exact absurd (show p ∈ [] from hp) List.not_mem_nil
theorem bk.ok:codeOk bk.pn Try.f141.ntmps bk.tb bk.code = true:=by kernel_rfl
theorem bk.T {F:Nat} {aa:Int} {ab:Int} {ay:Int} {aJ:Int} {aG:Int} {aX:Int} {H:Hp} {v:AV} {H':Hp} (h:bk.tw F aa ab ay aJ aG aX H = some (v,H')):Go.AE.T Try.prog 141 [(.agg [(.int .i64 aa),(.int .i64 ab),(.int .i64 ay),(.int .i64 aJ),(.int .i64 aG)]),(.int .i64 aX)] H v H':=
 Go.AE.T.of (Y:=tabs) (C:=mkOrc (bk.cs F)) (PN:=bk.pn) (LH:=bk.lh F) (F:=F) (TB:=bk.tb) (fn:=Try.f141) (code:=bk.code) mixed tabs_ok (mkOrc_ok (bk.cs_ok F)) Try.func141 (by kernel_rfl) (by kernel_rfl) bk.ok (Nat.le_of_ble_eq_true (by kernel_rfl)) (bk.loops F) (Eq.trans (bk.eqX F aa ab ay aJ aG aX H) h)
theorem bk.mk_T {F:Nat} {args:List AV} {H:Hp} {v:AV} {H':Hp} (h:bk.mk (bk.tw F) args H = some (v,H')):Go.AE.T Try.prog 141 args H v H':=by
 unfold bk.mk at h
 split at h
 ·exact bk.T h
 ·cases h
noncomputable def aC.l3927 (F:Nat) (bb:Int→Int→Int→Int→Int→Int→Hp→OA) (bY:Int→Int→Int→Hp→OA) (bc:Int→Int→Int→Int→Int→Int→Hp→OA) (C61_:Nat→Nat→Int→Sl→Sl→Int→Hp→OA):Nat→Nat→Nat→Int→Sl→Sl→Int→Nat→Nat→Int→Hp→OA
 | 0,_,_,_,_,_,_,_,_,_,_=>none
 | Is + 1,eP,gS,dv,gT,hQ,cO,dB,fy,dS,H126=>(bif (decide (dS < 4)) then ((Hp.ldI H126 .i64 dB fy).bind fun n151=>(Hp.ldI H126 .i64 dB (fy + 1)).bind fun n152=>(Hp.ldI H126 .i64 dB (fy + 2)).bind fun n153=>(Hp.ldI H126 .i64 dB (fy + 3)).bind fun n154=>(Hp.ldI H126 .i64 dB (fy + 4)).bind fun n155=>(bb n151 n152 n153 n154 n155 dS H126).bind fun r156=>((r156.1).asI .i64).bind fun n157=>(bY n157 0 (IntKind.i64.wrap (dv - 1)) r156.2).bind fun r158=>((r158.1).asB).bind fun b159=>(bif (!b159) then (some ((.bool false),r158.2)) else ((Hp.ldI r158.2 .i64 dB fy).bind fun n160=>(Hp.ldI r158.2 .i64 dB (fy + 1)).bind fun n161=>(Hp.ldI r158.2 .i64 dB (fy + 2)).bind fun n162=>(Hp.ldI r158.2 .i64 dB (fy + 3)).bind fun n163=>(Hp.ldI r158.2 .i64 dB (fy + 4)).bind fun n164=>(bc n160 n161 n162 n163 n164 dS r158.2).bind fun r165=>((r165.1).asB).bind fun b166=>(bif b166 then ((Sl.idx gT n157 1).bind fun p167=>(Hp.ldB r165.2 p167.1 p167.2).bind fun b168=>(bif b168 then (some ((.bool false),r165.2)) else ((Sl.idx gT n157 1).bind fun p169=>(Hp.st r165.2 p169.1 p169.2 (.bool true)).bind fun H170=>aC.l3927 F bb bY bc C61_ Is eP gS dv gT hQ cO dB fy (IntKind.i64.wrap (dS + 1)) H170))) else ((Sl.idx hQ n157 1).bind fun p171=>(Hp.ldB r165.2 p171.1 p171.2).bind fun b172=>(bif b172 then (some ((.bool false),r165.2)) else ((Sl.idx hQ n157 1).bind fun p173=>(Hp.st r165.2 p173.1 p173.2 (.bool true)).bind fun H174=>aC.l3927 F bb bY bc C61_ Is eP gS dv gT hQ cO dB fy (IntKind.i64.wrap (dS + 1)) H174))))))) else (C61_ eP gS dv gT hQ (IntKind.i64.wrap (cO + 1)) H126))
termination_by structural n=>n
noncomputable def aC.l61 (F:Nat) (bb:Int→Int→Int→Int→Int→Int→Hp→OA) (bY:Int→Int→Int→Hp→OA) (bc:Int→Int→Int→Int→Int→Int→Hp→OA) :Nat→Nat→Nat→Int→Sl→Sl→Int→Hp→OA
 | 0,_,_,_,_,_,_,_=>none
 | bJ + 1,cD,cY,cL,dC,cK,eQ,H16=>(Hp.ldSl H16 cD cY).bind fun s96=>(bif (decide (eQ < (s96.n:Int))) then ((Hp.ldSl H16 cD cY).bind fun s97=>(Sl.idx s97 eQ 5).bind fun p98=>(Hp.ldI H16 .i64 p98.1 p98.2).bind fun n99=>(Hp.ldI H16 .i64 p98.1 (p98.2 + 1)).bind fun n100=>(Hp.ldI H16 .i64 p98.1 (p98.2 + 2)).bind fun n101=>(Hp.ldI H16 .i64 p98.1 (p98.2 + 3)).bind fun n102=>(Hp.ldI H16 .i64 p98.1 (p98.2 + 4)).bind fun n103=>(Hp.new H16 [.int .i64 0,.int .i64 0,.int .i64 0,.int .i64 0,.int .i64 0]).bind fun H104=>(Hp.st H104 H16.length 0 (.int .i64 n99)).bind fun H105=>(Hp.st H105 H16.length (0 + 1) (.int .i64 n100)).bind fun H106=>(Hp.st H106 H16.length (0 + 1 + 1) (.int .i64 n101)).bind fun H107=>(Hp.st H107 H16.length (0 + 1 + 1 + 1) (.int .i64 n102)).bind fun H108=>(Hp.st H108 H16.length (0 + 1 + 1 + 1 + 1) (.int .i64 n103)).bind fun H109=>(Hp.ldI H109 .i64 H16.length 4).bind fun n110=>(bif (n110 != 1) then ((Hp.ldI H109 .i64 H16.length 4).bind fun n111=>(bif (n111 != (-1)) then (some ((.bool false),H109)) else (aC.l3927 F bb bY bc (aC.l61 F bb bY bc bJ) F cD cY cL dC cK eQ H16.length 0 0 H109))) else (aC.l3927 F bb bY bc (aC.l61 F bb bY bc bJ) F cD cY cL dC cK eQ H16.length 0 0 H109))) else (some ((.bool true),H16)))
termination_by structural n=>n
noncomputable def aC.twX (F:Nat) (bb:Int→Int→Int→Int→Int→Int→Hp→OA) (bY:Int→Int→Int→Hp→OA) (bc:Int→Int→Int→Int→Int→Int→Hp→OA) (aa:Sl) (ab:Int) (H:Hp):OA:=(Hp.new H [(.sl aa),(.int .i64 ab)]).bind fun H3=>(Hp.ldSl H3 H.length 0).bind fun s4=>(Hp.mk H3 [.bool false] 1 (IntKind.i64.wrap (2 * (s4.n:Int))) (IntKind.i64.wrap (2 * (s4.n:Int)))).bind fun m5=>(Hp.mk m5.2 [.bool false] 1 (IntKind.i64.wrap (2 * (s4.n:Int))) (IntKind.i64.wrap (2 * (s4.n:Int)))).bind fun m6=>aC.l61 F bb bY bc F H.length 0 (IntKind.i64.wrap (2 * (s4.n:Int))) m5.1 m6.1 0 m6.2
noncomputable def aC.tw (F:Nat) (aa:Sl) (ab:Int) (H:Hp):OA:=aC.twX F (bj.tw F) (bn.tw F) (bk.tw F) aa ab H
noncomputable def aC.code:Go.Code:=(Try.f104.body).getD .skip
noncomputable def aC.lh61 (F:Nat) (bb:Int→Int→Int→Int→Int→Int→Hp→OA) (bY:Int→Int→Int→Hp→OA) (bc:Int→Int→Int→Int→Int→Int→Hp→OA) (ks:List Nat) (n:Nat) (tm:Tm) (H:Hp):OA:=match ks,tm 1,tm 3,tm 4,tm 5,tm 6 with
 | [],(.ptr cD cY),(.int .i64 cL),(.sl dC),(.sl cK),(.int .i64 eQ)=>aC.l61 F bb bY bc n cD cY cL dC cK eQ H
 | _,_,_,_,_,_=>none
theorem aC.lh61_inv {F:Nat} {bb:Int→Int→Int→Int→Int→Int→Hp→OA} {bY:Int→Int→Int→Hp→OA} {bc:Int→Int→Int→Int→Int→Int→Hp→OA} {ks:List Nat} {n:Nat} {tm:Tm} {H:Hp} {r:AV×Hp} (h:aC.lh61 F bb bY bc ks n tm H = some r):∃ cD:Nat,∃ cY:Nat,∃ cL:Int,∃ dC:Sl,∃ cK:Sl,∃ eQ:Int,ks = []∧tm 1 = (.ptr cD cY)∧tm 3 = (.int .i64 cL)∧tm 4 = (.sl dC)∧tm 5 = (.sl cK)∧tm 6 = (.int .i64 eQ)∧aC.l61 F bb bY bc n cD cY cL dC cK eQ H = some r:=by
 unfold aC.lh61 at h
 split at h
 ·exact ⟨_,_,_,_,_,_,rfl,by assumption,by assumption,by assumption,by assumption,by assumption,h⟩
 ·cases h
noncomputable def aC.lh3927 (F:Nat) (bb:Int→Int→Int→Int→Int→Int→Hp→OA) (bY:Int→Int→Int→Hp→OA) (bc:Int→Int→Int→Int→Int→Int→Hp→OA) (ks:List Nat) (n:Nat) (tm:Tm) (H:Hp):OA:=match ks,tm 1,tm 3,tm 4,tm 5,tm 6,tm 7,tm 8 with
 | [bJ],(.ptr eP gS),(.int .i64 dv),(.sl gT),(.sl hQ),(.int .i64 cO),(.ptr dB fy),(.int .i64 dS)=>aC.l3927 F bb bY bc (aC.l61 F bb bY bc bJ) n eP gS dv gT hQ cO dB fy dS H
 | _,_,_,_,_,_,_,_=>none
theorem aC.lh3927_inv {F:Nat} {bb:Int→Int→Int→Int→Int→Int→Hp→OA} {bY:Int→Int→Int→Hp→OA} {bc:Int→Int→Int→Int→Int→Int→Hp→OA} {ks:List Nat} {n:Nat} {tm:Tm} {H:Hp} {r:AV×Hp} (h:aC.lh3927 F bb bY bc ks n tm H = some r):∃ bJ:Nat,∃ eP:Nat,∃ gS:Nat,∃ dv:Int,∃ gT:Sl,∃ hQ:Sl,∃ cO:Int,∃ dB:Nat,∃ fy:Nat,∃ dS:Int,ks = [bJ]∧tm 1 = (.ptr eP gS)∧tm 3 = (.int .i64 dv)∧tm 4 = (.sl gT)∧tm 5 = (.sl hQ)∧tm 6 = (.int .i64 cO)∧tm 7 = (.ptr dB fy)∧tm 8 = (.int .i64 dS)∧aC.l3927 F bb bY bc (aC.l61 F bb bY bc bJ) n eP gS dv gT hQ cO dB fy dS H = some r:=by
 unfold aC.lh3927 at h
 split at h
 ·exact ⟨_,_,_,_,_,_,_,_,_,_,rfl,by assumption,by assumption,by assumption,by assumption,by assumption,by assumption,by assumption,h⟩
 ·cases h
noncomputable def aC.lh (F:Nat) (bb:Int→Int→Int→Int→Int→Int→Hp→OA) (bY:Int→Int→Int→Hp→OA) (bc:Int→Int→Int→Int→Int→Int→Hp→OA) (p:Nat) (ks:List Nat) (n:Nat) (tm:Tm) (H:Hp):OA:=bif p.beq 3927 then aC.lh3927 F bb bY bc ks n tm H else (bif p.beq 61 then aC.lh61 F bb bY bc ks n tm H else (none))
def aC.pn:Nat→List Nat:=fun i=>(([(2,[])]:List (Nat×List Nat)).lookup i).getD []
def aC.tb:Nat→List (List Nat):=fun i=>(([(2,[[],[0],[],[2],[0,1],[0,1,2,3,4]])]:List (Nat×List (List Nat))).lookup i).getD []
noncomputable def aC.mk (g:Sl→Int→Hp→OA) (args:List AV) (H:Hp):OA:=match args with
 | [(.agg [(.sl aa),(.int .i64 ab)])]=>g aa ab H
 | _=>none
noncomputable def aC.cs (F:Nat) (bb:Int→Int→Int→Int→Int→Int→Hp→OA) (bY:Int→Int→Int→Hp→OA) (bc:Int→Int→Int→Int→Int→Int→Hp→OA):List (FuncId×(List AV→Hp→OA)):=[(140,bj.mk bb),(65,bn.mk bY),(141,bk.mk bc)]
theorem aC.loops (F:Nat) (bb:Int→Int→Int→Int→Int→Int→Hp→OA) (bY:Int→Int→Int→Hp→OA) (bc:Int→Int→Int→Int→Int→Int→Hp→OA):LoopsOk tabs (mkOrc (aC.cs F bb bY bc)) aC.pn (aC.lh F bb bY bc) F [] 1 aC.code (fun tm H=>aresults tabs.ty H tm Try.f104.results.toList fun v=>some (v,H)) (fun _ _ _=>none) (fun tm H=>aresults tabs.ty H tm Try.f104.results.toList fun v=>some (v,H)):=by
 refine LoopsOk.seq ?_ ?_
 ·exact loops_none (by kernel_rfl)
 ·refine LoopsOk.seq ?_ ?_
  ·exact loops_none (by kernel_rfl)
  ·refine LoopsOk.seq ?_ ?_
   ·exact loops_none (by kernel_rfl)
   ·refine LoopsOk.seq ?_ ?_
    ·refine LoopsOk.seq ?_ ?_
     ·exact loops_none (by kernel_rfl)
     ·refine LoopsOk.block ?_
      refine LoopsOk.loop (fun tm H=>?_) (fun k61 tm H r h0=>?_) (fun k61=>?_)
      ·refine none_of fun r h0=>?_
       obtain ⟨cD,cY,cL,dC,cK,eQ,hks,e1,e3,e4,e5,e6,h⟩:=aC.lh61_inv (show aC.lh61 F bb bY bc [] 0 tm H = some r from h0)
       cases h
      ·obtain ⟨cD,cY,cL,dC,cK,eQ,hks,e1,e3,e4,e5,e6,h⟩:=aC.lh61_inv (show aC.lh61 F bb bY bc [] (k61 + 1) tm H = some r from h0)
       have q0:(Tm.put tm 1 (.ptr cD cY)) = tm:=by exact Tm.put_same e1
       have q1:(Tm.put (Tm.put tm 1 (.ptr cD cY)) 3 (.int .i64 cL)) = tm:=by rw [q0]; exact Tm.put_same e3
       have q2:(Tm.put (Tm.put (Tm.put tm 1 (.ptr cD cY)) 3 (.int .i64 cL)) 4 (.sl dC)) = tm:=by rw [q1]; exact Tm.put_same e4
       have q3:(Tm.put (Tm.put (Tm.put (Tm.put tm 1 (.ptr cD cY)) 3 (.int .i64 cL)) 4 (.sl dC)) 5 (.sl cK)) = tm:=by rw [q2]; exact Tm.put_same e5
       have q4:(Tm.put (Tm.put (Tm.put (Tm.put (Tm.put tm 1 (.ptr cD cY)) 3 (.int .i64 cL)) 4 (.sl dC)) 5 (.sl cK)) 6 (.int .i64 eQ)) = tm:=by rw [q3]; exact Tm.put_same e6
       rw [← q4]
       exact Eq.trans (by kernel_rfl) h
      ·refine LoopsOk.seq ?_ ?_
       ·exact loops_none (by kernel_rfl)
       ·refine LoopsOk.seq ?_ ?_
        ·refine LoopsOk.block ?_
         refine LoopsOk.seq ?_ ?_
         ·exact loops_none (by kernel_rfl)
         ·refine LoopsOk.seq ?_ ?_
          ·exact loops_none (by kernel_rfl)
          ·refine LoopsOk.seq ?_ ?_
           ·exact loops_none (by kernel_rfl)
           ·refine LoopsOk.block ?_
            refine LoopsOk.loop (fun tm H=>?_) (fun k3927 tm H r h0=>?_) (fun k3927=>?_)
            ·refine none_of fun r h0=>?_
             obtain ⟨bJ,eP,gS,dv,gT,hQ,cO,dB,fy,dS,hks,e1,e3,e4,e5,e6,e7,e8,h⟩:=aC.lh3927_inv (show aC.lh3927 F bb bY bc [k61] 0 tm H = some r from h0)
             cases h
            ·obtain ⟨bJ,eP,gS,dv,gT,hQ,cO,dB,fy,dS,hks,e1,e3,e4,e5,e6,e7,e8,h⟩:=aC.lh3927_inv (show aC.lh3927 F bb bY bc [k61] (k3927 + 1) tm H = some r from h0)
             obtain rfl:bJ = k61:=by simpa [eq_comm] using hks
             have q0:(Tm.put tm 1 (.ptr eP gS)) = tm:=by exact Tm.put_same e1
             have q1:(Tm.put (Tm.put tm 1 (.ptr eP gS)) 3 (.int .i64 dv)) = tm:=by rw [q0]; exact Tm.put_same e3
             have q2:(Tm.put (Tm.put (Tm.put tm 1 (.ptr eP gS)) 3 (.int .i64 dv)) 4 (.sl gT)) = tm:=by rw [q1]; exact Tm.put_same e4
             have q3:(Tm.put (Tm.put (Tm.put (Tm.put tm 1 (.ptr eP gS)) 3 (.int .i64 dv)) 4 (.sl gT)) 5 (.sl hQ)) = tm:=by rw [q2]; exact Tm.put_same e5
             have q4:(Tm.put (Tm.put (Tm.put (Tm.put (Tm.put tm 1 (.ptr eP gS)) 3 (.int .i64 dv)) 4 (.sl gT)) 5 (.sl hQ)) 6 (.int .i64 cO)) = tm:=by rw [q3]; exact Tm.put_same e6
             have q5:(Tm.put (Tm.put (Tm.put (Tm.put (Tm.put (Tm.put tm 1 (.ptr eP gS)) 3 (.int .i64 dv)) 4 (.sl gT)) 5 (.sl hQ)) 6 (.int .i64 cO)) 7 (.ptr dB fy)) = tm:=by rw [q4]; exact Tm.put_same e7
             have q6:(Tm.put (Tm.put (Tm.put (Tm.put (Tm.put (Tm.put (Tm.put tm 1 (.ptr eP gS)) 3 (.int .i64 dv)) 4 (.sl gT)) 5 (.sl hQ)) 6 (.int .i64 cO)) 7 (.ptr dB fy)) 8 (.int .i64 dS)) = tm:=by rw [q5]; exact Tm.put_same e8
             rw [← q6]
             exact Eq.trans (by kernel_rfl) h
            ·exact loops_none (by kernel_rfl)
        ·exact loops_none (by kernel_rfl)
    ·exact loops_none (by kernel_rfl)
theorem aC.eqX (F:Nat) (bb:Int→Int→Int→Int→Int→Int→Hp→OA) (bY:Int→Int→Int→Hp→OA) (bc:Int→Int→Int→Int→Int→Int→Hp→OA) (aa:Sl) (ab:Int) (H:Hp):aCode tabs (mkOrc (aC.cs F bb bY bc)) aC.pn (aC.lh F bb bY bc) F [] 1 aC.code (argTm [(.agg [(.sl aa),(.int .i64 ab)])]) H (fun tm H=>aresults tabs.ty H tm Try.f104.results.toList fun v=>some (v,H)) (fun _ _ _=>none) (fun tm H=>aresults tabs.ty H tm Try.f104.results.toList fun v=>some (v,H)) = aC.twX F bb bY bc aa ab H:=by kernel_rfl
theorem aC.cs_ok (F:Nat):∀ p ∈ aC.cs F (bj.tw F) (bn.tw F) (bk.tw F),∀ args H v H',p.2 args H = some (v,H')→Go.AE.T Try.prog p.1 args H v H':=by
 intro p hp
 simp only [aC.cs,List.mem_cons,List.not_mem_nil,or_false] at hp
 rcases hp with rfl | rfl | rfl
 ·exact fun args H v H' h=>bj.mk_T h
 ·exact fun args H v H' h=>bn.mk_T h
 ·exact fun args H v H' h=>bk.mk_T h
theorem aC.ok:codeOk aC.pn Try.f104.ntmps aC.tb aC.code = true:=by kernel_rfl
theorem aC.T {F:Nat} {aa:Sl} {ab:Int} {H:Hp} {v:AV} {H':Hp} (h:aC.tw F aa ab H = some (v,H')):Go.AE.T Try.prog 104 [(.agg [(.sl aa),(.int .i64 ab)])] H v H':=
 Go.AE.T.of (Y:=tabs) (C:=mkOrc (aC.cs F (bj.tw F) (bn.tw F) (bk.tw F))) (PN:=aC.pn) (LH:=aC.lh F (bj.tw F) (bn.tw F) (bk.tw F)) (F:=F) (TB:=aC.tb) (fn:=Try.f104) (code:=aC.code) mixed tabs_ok (mkOrc_ok (aC.cs_ok F)) Try.func104 (by kernel_rfl) (by kernel_rfl) aC.ok (Nat.le_of_ble_eq_true (by kernel_rfl)) (aC.loops F (bj.tw F) (bn.tw F) (bk.tw F)) (Eq.trans (aC.eqX F (bj.tw F) (bn.tw F) (bk.tw F) aa ab H) h)
theorem aC.mk_T {F:Nat} {args:List AV} {H:Hp} {v:AV} {H':Hp} (h:aC.mk (aC.tw F) args H = some (v,H')):Go.AE.T Try.prog 104 args H v H':=by
 unfold aC.mk at h
 split at h
 ·exact aC.T h
 ·cases h
noncomputable def ax.j3 (F:Nat) (bb:Int→Int→Int→Int→Int→Int→Hp→OA) (bc:Int→Int→Int→Int→Int→Int→Hp→OA) (C13_:Int→Bool→Nat→Nat→Int→Hp→OA) (mo:Int) (nV:Bool) (nW:Nat) (VI:Nat) (nX:Int) (H147:Hp):OA:=C13_ mo nV nW VI (IntKind.i64.wrap (nX + 1)) H147
noncomputable def ax.j4 (F:Nat) (bb:Int→Int→Int→Int→Int→Int→Hp→OA) (bc:Int→Int→Int→Int→Int→Int→Hp→OA) (C13_:Int→Bool→Nat→Nat→Int→Hp→OA) (nY:Int) (nZ:Bool) (wg:Nat) (VJ:Nat) (n_:Int) (H134:Hp):OA:=ax.j3 F bb bc C13_ nY nZ wg VJ n_ H134
noncomputable def ax.l213 (F:Nat) (bb:Int→Int→Int→Int→Int→Int→Hp→OA) (bc:Int→Int→Int→Int→Int→Int→Hp→OA) (C13_:Int→Bool→Nat→Nat→Int→Hp→OA):Nat→Int→Bool→Nat→Nat→Int→Int→Hp→OA
 | 0,_,_,_,_,_,_,_=>none
 | It + 1,dD,dN,fL,im,dw,dE,H103=>(bif (decide (dE < 4)) then ((Hp.ldSl H103 fL im).bind fun s148=>(Sl.idx s148 dw 5).bind fun p149=>(Hp.ldI H103 .i64 p149.1 p149.2).bind fun n150=>(Hp.ldI H103 .i64 p149.1 (p149.2 + 1)).bind fun n151=>(Hp.ldI H103 .i64 p149.1 (p149.2 + 2)).bind fun n152=>(Hp.ldI H103 .i64 p149.1 (p149.2 + 3)).bind fun n153=>(Hp.ldI H103 .i64 p149.1 (p149.2 + 4)).bind fun n154=>(bb n150 n151 n152 n153 n154 dE H103).bind fun r155=>((r155.1).asI .i64).bind fun n156=>(bif (n156 == dD) then ((Hp.ldSl r155.2 fL im).bind fun s157=>(Sl.idx s157 dw 5).bind fun p158=>(Hp.ldI r155.2 .i64 p158.1 p158.2).bind fun n159=>(Hp.ldI r155.2 .i64 p158.1 (p158.2 + 1)).bind fun n160=>(Hp.ldI r155.2 .i64 p158.1 (p158.2 + 2)).bind fun n161=>(Hp.ldI r155.2 .i64 p158.1 (p158.2 + 3)).bind fun n162=>(Hp.ldI r155.2 .i64 p158.1 (p158.2 + 4)).bind fun n163=>(bc n159 n160 n161 n162 n163 dE r155.2).bind fun r164=>((r164.1).asB).bind fun b165=>(bif (b165 == dN) then (some ((.tup [(.int .i64 dw),(.int .i64 dE)]),r164.2)) else (ax.l213 F bb bc C13_ It dD dN fL im dw (IntKind.i64.wrap (dE + 1)) r164.2))) else (ax.l213 F bb bc C13_ It dD dN fL im dw (IntKind.i64.wrap (dE + 1)) r155.2))) else (ax.j4 F bb bc C13_ dD dN fL im dw H103))
termination_by structural n=>n
noncomputable def ax.l13 (F:Nat) (bb:Int→Int→Int→Int→Int→Int→Hp→OA) (bc:Int→Int→Int→Int→Int→Int→Hp→OA) :Nat→Int→Bool→Nat→Nat→Int→Hp→OA
 | 0,_,_,_,_,_,_=>none
 | gU + 1,cQ,gy,de,cR,gz,H15=>(Hp.ldSl H15 de cR).bind fun s91=>(bif (decide (gz < (s91.n:Int))) then (ax.l213 F bb bc (ax.l13 F bb bc gU) F cQ gy de cR gz 0 H15) else (some ((.tup [(.int .i64 (-1)),(.int .i64 (-1))]),H15)))
termination_by structural n=>n
noncomputable def ax.twX (F:Nat) (bb:Int→Int→Int→Int→Int→Int→Hp→OA) (bc:Int→Int→Int→Int→Int→Int→Hp→OA) (aa:Sl) (ab:Int) (ah:Int) (gV:Bool) (H:Hp):OA:=(Hp.new H [(.sl aa),(.int .i64 ab)]).bind fun H5=>ax.l13 F bb bc F ah gV H.length 0 0 H5
noncomputable def ax.tw (F:Nat) (aa:Sl) (ab:Int) (ah:Int) (gV:Bool) (H:Hp):OA:=ax.twX F (bj.tw F) (bk.tw F) aa ab ah gV H
noncomputable def ax.code:Go.Code:=(Try.f152.body).getD .skip
noncomputable def ax.lh13 (F:Nat) (bb:Int→Int→Int→Int→Int→Int→Hp→OA) (bc:Int→Int→Int→Int→Int→Int→Hp→OA) (ks:List Nat) (n:Nat) (tm:Tm) (H:Hp):OA:=match ks,tm 1,tm 2,tm 3,tm 8 with
 | [],(.int .i64 cQ),(.bool gy),(.ptr de cR),(.int .i64 gz)=>ax.l13 F bb bc n cQ gy de cR gz H
 | _,_,_,_,_=>none
theorem ax.lh13_inv {F:Nat} {bb:Int→Int→Int→Int→Int→Int→Hp→OA} {bc:Int→Int→Int→Int→Int→Int→Hp→OA} {ks:List Nat} {n:Nat} {tm:Tm} {H:Hp} {r:AV×Hp} (h:ax.lh13 F bb bc ks n tm H = some r):∃ cQ:Int,∃ gy:Bool,∃ de:Nat,∃ cR:Nat,∃ gz:Int,ks = []∧tm 1 = (.int .i64 cQ)∧tm 2 = (.bool gy)∧tm 3 = (.ptr de cR)∧tm 8 = (.int .i64 gz)∧ax.l13 F bb bc n cQ gy de cR gz H = some r:=by
 unfold ax.lh13 at h
 split at h
 ·exact ⟨_,_,_,_,_,rfl,by assumption,by assumption,by assumption,by assumption,h⟩
 ·cases h
noncomputable def ax.lh213 (F:Nat) (bb:Int→Int→Int→Int→Int→Int→Hp→OA) (bc:Int→Int→Int→Int→Int→Int→Hp→OA) (ks:List Nat) (n:Nat) (tm:Tm) (H:Hp):OA:=match ks,tm 1,tm 2,tm 3,tm 8,tm 9 with
 | [gU],(.int .i64 dD),(.bool dN),(.ptr fL im),(.int .i64 dw),(.int .i64 dE)=>ax.l213 F bb bc (ax.l13 F bb bc gU) n dD dN fL im dw dE H
 | _,_,_,_,_,_=>none
theorem ax.lh213_inv {F:Nat} {bb:Int→Int→Int→Int→Int→Int→Hp→OA} {bc:Int→Int→Int→Int→Int→Int→Hp→OA} {ks:List Nat} {n:Nat} {tm:Tm} {H:Hp} {r:AV×Hp} (h:ax.lh213 F bb bc ks n tm H = some r):∃ gU:Nat,∃ dD:Int,∃ dN:Bool,∃ fL:Nat,∃ im:Nat,∃ dw:Int,∃ dE:Int,ks = [gU]∧tm 1 = (.int .i64 dD)∧tm 2 = (.bool dN)∧tm 3 = (.ptr fL im)∧tm 8 = (.int .i64 dw)∧tm 9 = (.int .i64 dE)∧ax.l213 F bb bc (ax.l13 F bb bc gU) n dD dN fL im dw dE H = some r:=by
 unfold ax.lh213 at h
 split at h
 ·exact ⟨_,_,_,_,_,_,_,rfl,by assumption,by assumption,by assumption,by assumption,by assumption,h⟩
 ·cases h
noncomputable def ax.lh (F:Nat) (bb:Int→Int→Int→Int→Int→Int→Hp→OA) (bc:Int→Int→Int→Int→Int→Int→Hp→OA) (p:Nat) (ks:List Nat) (n:Nat) (tm:Tm) (H:Hp):OA:=bif p.beq 213 then ax.lh213 F bb bc ks n tm H else (bif p.beq 13 then ax.lh13 F bb bc ks n tm H else (none))
def ax.pn:Nat→List Nat:=fun i=>(([]:List (Nat×List Nat)).lookup i).getD []
def ax.tb:Nat→List (List Nat):=fun i=>(([]:List (Nat×List (List Nat))).lookup i).getD []
noncomputable def ax.mk (g:Sl→Int→Int→Bool→Hp→OA) (args:List AV) (H:Hp):OA:=match args with
 | [(.agg [(.sl aa),(.int .i64 ab)]),(.int .i64 ah),(.bool gV)]=>g aa ab ah gV H
 | _=>none
noncomputable def ax.cs (F:Nat) (bb:Int→Int→Int→Int→Int→Int→Hp→OA) (bc:Int→Int→Int→Int→Int→Int→Hp→OA):List (FuncId×(List AV→Hp→OA)):=[(140,bj.mk bb),(141,bk.mk bc)]
theorem ax.loops (F:Nat) (bb:Int→Int→Int→Int→Int→Int→Hp→OA) (bc:Int→Int→Int→Int→Int→Int→Hp→OA):LoopsOk tabs (mkOrc (ax.cs F bb bc)) ax.pn (ax.lh F bb bc) F [] 1 ax.code (fun tm H=>aresults tabs.ty H tm Try.f152.results.toList fun v=>some (v,H)) (fun _ _ _=>none) (fun tm H=>aresults tabs.ty H tm Try.f152.results.toList fun v=>some (v,H)):=by
 refine LoopsOk.seq ?_ ?_
 ·exact loops_none (by kernel_rfl)
 ·refine LoopsOk.seq ?_ ?_
  ·refine LoopsOk.seq ?_ ?_
   ·exact loops_none (by kernel_rfl)
   ·refine LoopsOk.block ?_
    refine LoopsOk.loop (fun tm H=>?_) (fun k13 tm H r h0=>?_) (fun k13=>?_)
    ·refine none_of fun r h0=>?_
     obtain ⟨cQ,gy,de,cR,gz,hks,e1,e2,e3,e8,h⟩:=ax.lh13_inv (show ax.lh13 F bb bc [] 0 tm H = some r from h0)
     cases h
    ·obtain ⟨cQ,gy,de,cR,gz,hks,e1,e2,e3,e8,h⟩:=ax.lh13_inv (show ax.lh13 F bb bc [] (k13 + 1) tm H = some r from h0)
     have q0:(Tm.put tm 1 (.int .i64 cQ)) = tm:=by exact Tm.put_same e1
     have q1:(Tm.put (Tm.put tm 1 (.int .i64 cQ)) 2 (.bool gy)) = tm:=by rw [q0]; exact Tm.put_same e2
     have q2:(Tm.put (Tm.put (Tm.put tm 1 (.int .i64 cQ)) 2 (.bool gy)) 3 (.ptr de cR)) = tm:=by rw [q1]; exact Tm.put_same e3
     have q3:(Tm.put (Tm.put (Tm.put (Tm.put tm 1 (.int .i64 cQ)) 2 (.bool gy)) 3 (.ptr de cR)) 8 (.int .i64 gz)) = tm:=by rw [q2]; exact Tm.put_same e8
     rw [← q3]
     exact Eq.trans (by kernel_rfl) h
    ·refine LoopsOk.seq ?_ ?_
     ·exact loops_none (by kernel_rfl)
     ·refine LoopsOk.seq ?_ ?_
      ·refine LoopsOk.block ?_
       refine LoopsOk.seq ?_ ?_
       ·exact loops_none (by kernel_rfl)
       ·refine LoopsOk.block ?_
        refine LoopsOk.loop (fun tm H=>?_) (fun k213 tm H r h0=>?_) (fun k213=>?_)
        ·refine none_of fun r h0=>?_
         obtain ⟨gU,dD,dN,fL,im,dw,dE,hks,e1,e2,e3,e8,e9,h⟩:=ax.lh213_inv (show ax.lh213 F bb bc [k13] 0 tm H = some r from h0)
         cases h
        ·obtain ⟨gU,dD,dN,fL,im,dw,dE,hks,e1,e2,e3,e8,e9,h⟩:=ax.lh213_inv (show ax.lh213 F bb bc [k13] (k213 + 1) tm H = some r from h0)
         obtain rfl:gU = k13:=by simpa [eq_comm] using hks
         have q0:(Tm.put tm 1 (.int .i64 dD)) = tm:=by exact Tm.put_same e1
         have q1:(Tm.put (Tm.put tm 1 (.int .i64 dD)) 2 (.bool dN)) = tm:=by rw [q0]; exact Tm.put_same e2
         have q2:(Tm.put (Tm.put (Tm.put tm 1 (.int .i64 dD)) 2 (.bool dN)) 3 (.ptr fL im)) = tm:=by rw [q1]; exact Tm.put_same e3
         have q3:(Tm.put (Tm.put (Tm.put (Tm.put tm 1 (.int .i64 dD)) 2 (.bool dN)) 3 (.ptr fL im)) 8 (.int .i64 dw)) = tm:=by rw [q2]; exact Tm.put_same e8
         have q4:(Tm.put (Tm.put (Tm.put (Tm.put (Tm.put tm 1 (.int .i64 dD)) 2 (.bool dN)) 3 (.ptr fL im)) 8 (.int .i64 dw)) 9 (.int .i64 dE)) = tm:=by rw [q3]; exact Tm.put_same e9
         rw [← q4]
         exact Eq.trans (by kernel_rfl) h
        ·exact loops_none (by kernel_rfl)
      ·exact loops_none (by kernel_rfl)
  ·exact loops_none (by kernel_rfl)
theorem ax.eqX (F:Nat) (bb:Int→Int→Int→Int→Int→Int→Hp→OA) (bc:Int→Int→Int→Int→Int→Int→Hp→OA) (aa:Sl) (ab:Int) (ah:Int) (gV:Bool) (H:Hp):aCode tabs (mkOrc (ax.cs F bb bc)) ax.pn (ax.lh F bb bc) F [] 1 ax.code (argTm [(.agg [(.sl aa),(.int .i64 ab)]),(.int .i64 ah),(.bool gV)]) H (fun tm H=>aresults tabs.ty H tm Try.f152.results.toList fun v=>some (v,H)) (fun _ _ _=>none) (fun tm H=>aresults tabs.ty H tm Try.f152.results.toList fun v=>some (v,H)) = ax.twX F bb bc aa ab ah gV H:=by kernel_rfl
theorem ax.cs_ok (F:Nat):∀ p ∈ ax.cs F (bj.tw F) (bk.tw F),∀ args H v H',p.2 args H = some (v,H')→Go.AE.T Try.prog p.1 args H v H':=by
 intro p hp
 simp only [ax.cs,List.mem_cons,List.not_mem_nil,or_false] at hp
 rcases hp with rfl | rfl
 ·exact fun args H v H' h=>bj.mk_T h
 ·exact fun args H v H' h=>bk.mk_T h
theorem ax.ok:codeOk ax.pn Try.f152.ntmps ax.tb ax.code = true:=by kernel_rfl
theorem ax.T {F:Nat} {aa:Sl} {ab:Int} {ah:Int} {gV:Bool} {H:Hp} {v:AV} {H':Hp} (h:ax.tw F aa ab ah gV H = some (v,H')):Go.AE.T Try.prog 152 [(.agg [(.sl aa),(.int .i64 ab)]),(.int .i64 ah),(.bool gV)] H v H':=
 Go.AE.T.of (Y:=tabs) (C:=mkOrc (ax.cs F (bj.tw F) (bk.tw F))) (PN:=ax.pn) (LH:=ax.lh F (bj.tw F) (bk.tw F)) (F:=F) (TB:=ax.tb) (fn:=Try.f152) (code:=ax.code) mixed tabs_ok (mkOrc_ok (ax.cs_ok F)) Try.func152 (by kernel_rfl) (by kernel_rfl) ax.ok (Nat.le_of_ble_eq_true (by kernel_rfl)) (ax.loops F (bj.tw F) (bk.tw F)) (Eq.trans (ax.eqX F (bj.tw F) (bk.tw F) aa ab ah gV H) h)
theorem ax.mk_T {F:Nat} {args:List AV} {H:Hp} {v:AV} {H':Hp} (h:ax.mk (ax.tw F) args H = some (v,H')):Go.AE.T Try.prog 152 args H v H':=by
 unfold ax.mk at h
 split at h
 ·exact ax.T h
 ·cases h
noncomputable def bK.twX (F:Nat) (bb:Int→Int→Int→Int→Int→Int→Hp→OA) (bc:Int→Int→Int→Int→Int→Int→Hp→OA) (bF:Sl→Int→Int→Bool→Hp→OA) (aa:Sl) (ab:Int) (ah:Int) (H:Hp):OA:=(Hp.new H [(.sl aa),(.int .i64 ab)]).bind fun H4=>(Hp.ldSl H4 H.length 0).bind fun s5=>(Sl.idx s5 (IntKind.i64.wrap (Int.tdiv ah 4)) 5).bind fun p6=>(Hp.ldI H4 .i64 p6.1 p6.2).bind fun n7=>(Hp.ldI H4 .i64 p6.1 (p6.2 + 1)).bind fun n8=>(Hp.ldI H4 .i64 p6.1 (p6.2 + 2)).bind fun n9=>(Hp.ldI H4 .i64 p6.1 (p6.2 + 3)).bind fun n10=>(Hp.ldI H4 .i64 p6.1 (p6.2 + 4)).bind fun n11=>(Hp.new H4 [.int .i64 0,.int .i64 0,.int .i64 0,.int .i64 0,.int .i64 0]).bind fun H12=>(Hp.st H12 H4.length 0 (.int .i64 n7)).bind fun H13=>(Hp.st H13 H4.length (0 + 1) (.int .i64 n8)).bind fun H14=>(Hp.st H14 H4.length (0 + 1 + 1) (.int .i64 n9)).bind fun H15=>(Hp.st H15 H4.length (0 + 1 + 1 + 1) (.int .i64 n10)).bind fun H16=>(Hp.st H16 H4.length (0 + 1 + 1 + 1 + 1) (.int .i64 n11)).bind fun H17=>(Hp.ldSl H17 H.length 0).bind fun s18=>(Hp.ldI H17 .i64 H.length (0 + 1)).bind fun n19=>(Hp.ldI H17 .i64 H4.length 0).bind fun n20=>(Hp.ldI H17 .i64 H4.length (0 + 1)).bind fun n21=>(Hp.ldI H17 .i64 H4.length (0 + 2)).bind fun n22=>(Hp.ldI H17 .i64 H4.length (0 + 3)).bind fun n23=>(Hp.ldI H17 .i64 H4.length (0 + 4)).bind fun n24=>(bb n20 n21 n22 n23 n24 (Int.tmod (IntKind.i64.wrap ((Int.tmod ah 4) + 1)) 4) H17).bind fun r25=>((r25.1).asI .i64).bind fun n26=>(if Cons H17 r25.2 then ((Hp.ldI r25.2 .i64 H4.length 0).bind fun n27=>(Hp.ldI r25.2 .i64 H4.length (0 + 1)).bind fun n28=>(Hp.ldI r25.2 .i64 H4.length (0 + 2)).bind fun n29=>(Hp.ldI r25.2 .i64 H4.length (0 + 3)).bind fun n30=>(Hp.ldI r25.2 .i64 H4.length (0 + 4)).bind fun n31=>(bc n27 n28 n29 n30 n31 (Int.tmod (IntKind.i64.wrap ((Int.tmod ah 4) + 1)) 4) r25.2).bind fun r32=>((r32.1).asB).bind fun b33=>(if Cons r25.2 r32.2 then ((bF s18 n19 n26 (!b33) r32.2).bind fun r34=>((r34.1).asTup 2).bind fun l35=>(l35[0]?).bind fun v36=>((v36).asI .i64).bind fun n37=>(l35[1]?).bind fun v38=>((v38).asI .i64).bind fun n39=>some ((.int .i64 (IntKind.i64.wrap ((IntKind.i64.wrap (4 * n37)) + n39))),r34.2)) else none)) else none)
noncomputable def bK.tw (F:Nat) (aa:Sl) (ab:Int) (ah:Int) (H:Hp):OA:=bK.twX F (bj.tw F) (bk.tw F) (ax.tw F) aa ab ah H
noncomputable def bK.code:Go.Code:=(Try.f142.body).getD .skip
noncomputable def bK.lh (F:Nat) (bb:Int→Int→Int→Int→Int→Int→Hp→OA) (bc:Int→Int→Int→Int→Int→Int→Hp→OA) (bF:Sl→Int→Int→Bool→Hp→OA) (p:Nat) (ks:List Nat) (n:Nat) (tm:Tm) (H:Hp):OA:=none
def bK.pn:Nat→List Nat:=fun i=>(([(3,[8])]:List (Nat×List Nat)).lookup i).getD []
def bK.tb:Nat→List (List Nat):=fun i=>(([(3,[[],[],[],[1,2],[],[],[1,2,3,4,5],[1,2,3,4,5,6],[0,1,2,3,4,5,6,7],[0,1,2,3,4,5,6,7,8],[0,1,2,3,4,5,6,7,8,9],[0,1,2,3,4,5,6,7,8,9],[0,1,2,3,4,5,6,7,8,9,10],[0,1,2,3,4,5,6,7,8,9,10,11,12]])]:List (Nat×List (List Nat))).lookup i).getD []
noncomputable def bK.mk (g:Sl→Int→Int→Hp→OA) (args:List AV) (H:Hp):OA:=match args with
 | [(.agg [(.sl aa),(.int .i64 ab)]),(.int .i64 ah)]=>g aa ab ah H
 | _=>none
noncomputable def bK.cs (F:Nat) (bb:Int→Int→Int→Int→Int→Int→Hp→OA) (bc:Int→Int→Int→Int→Int→Int→Hp→OA) (bF:Sl→Int→Int→Bool→Hp→OA):List (FuncId×(List AV→Hp→OA)):=[(140,bj.mk bb),(141,bk.mk bc),(152,ax.mk bF)]
theorem bK.loops (F:Nat) (bb:Int→Int→Int→Int→Int→Int→Hp→OA) (bc:Int→Int→Int→Int→Int→Int→Hp→OA) (bF:Sl→Int→Int→Bool→Hp→OA):LoopsOk tabs (mkOrc (bK.cs F bb bc bF)) bK.pn (bK.lh F bb bc bF) F [] 1 bK.code (fun tm H=>aresults tabs.ty H tm Try.f142.results.toList fun v=>some (v,H)) (fun _ _ _=>none) (fun tm H=>aresults tabs.ty H tm Try.f142.results.toList fun v=>some (v,H)):=by
 exact loops_none (by kernel_rfl)
theorem bK.eqX (F:Nat) (bb:Int→Int→Int→Int→Int→Int→Hp→OA) (bc:Int→Int→Int→Int→Int→Int→Hp→OA) (bF:Sl→Int→Int→Bool→Hp→OA) (aa:Sl) (ab:Int) (ah:Int) (H:Hp):aCode tabs (mkOrc (bK.cs F bb bc bF)) bK.pn (bK.lh F bb bc bF) F [] 1 bK.code (argTm [(.agg [(.sl aa),(.int .i64 ab)]),(.int .i64 ah)]) H (fun tm H=>aresults tabs.ty H tm Try.f142.results.toList fun v=>some (v,H)) (fun _ _ _=>none) (fun tm H=>aresults tabs.ty H tm Try.f142.results.toList fun v=>some (v,H)) = bK.twX F bb bc bF aa ab ah H:=by kernel_rfl
theorem bK.cs_ok (F:Nat):∀ p ∈ bK.cs F (bj.tw F) (bk.tw F) (ax.tw F),∀ args H v H',p.2 args H = some (v,H')→Go.AE.T Try.prog p.1 args H v H':=by
 intro p hp
 simp only [bK.cs,List.mem_cons,List.not_mem_nil,or_false] at hp
 rcases hp with rfl | rfl | rfl
 ·exact fun args H v H' h=>bj.mk_T h
 ·exact fun args H v H' h=>bk.mk_T h
 ·exact fun args H v H' h=>ax.mk_T h
theorem bK.ok:codeOk bK.pn Try.f142.ntmps bK.tb bK.code = true:=by kernel_rfl
theorem bK.T {F:Nat} {aa:Sl} {ab:Int} {ah:Int} {H:Hp} {v:AV} {H':Hp} (h:bK.tw F aa ab ah H = some (v,H')):Go.AE.T Try.prog 142 [(.agg [(.sl aa),(.int .i64 ab)]),(.int .i64 ah)] H v H':=
 Go.AE.T.of (Y:=tabs) (C:=mkOrc (bK.cs F (bj.tw F) (bk.tw F) (ax.tw F))) (PN:=bK.pn) (LH:=bK.lh F (bj.tw F) (bk.tw F) (ax.tw F)) (F:=F) (TB:=bK.tb) (fn:=Try.f142) (code:=bK.code) mixed tabs_ok (mkOrc_ok (bK.cs_ok F)) Try.func142 (by kernel_rfl) (by kernel_rfl) bK.ok (Nat.le_of_ble_eq_true (by kernel_rfl)) (bK.loops F (bj.tw F) (bk.tw F) (ax.tw F)) (Eq.trans (bK.eqX F (bj.tw F) (bk.tw F) (ax.tw F) aa ab ah H) h)
theorem bK.mk_T {F:Nat} {args:List AV} {H:Hp} {v:AV} {H':Hp} (h:bK.mk (bK.tw F) args H = some (v,H')):Go.AE.T Try.prog 142 args H v H':=by
 unfold bK.mk at h
 split at h
 ·exact bK.T h
 ·cases h
noncomputable def ao.j4 (F:Nat) (cB:Sl→Int→Int→Hp→OA) (C61_:Nat→Nat→Sl→Sl→Int→Hp→OA) (wh:Nat) (VK:Nat) (VL:Sl) (VM:Sl) (oa:Int) (H108:Hp):OA:=C61_ wh VK VL VM (IntKind.i64.wrap (oa + 1)) H108
noncomputable def ao.j5 (F:Nat) (cB:Sl→Int→Int→Hp→OA) (C61_:Nat→Nat→Sl→Sl→Int→Hp→OA) (wi:Nat) (VN:Nat) (VO:Sl) (VP:Sl) (ob:Int) (H164:Hp):OA:=C61_ wi VN VO VP (IntKind.i64.wrap (ob + 1)) H164
noncomputable def ao.j6 (F:Nat) (cB:Sl→Int→Int→Hp→OA) (C61_:Nat→Nat→Sl→Sl→Int→Hp→OA) (wj:Nat) (mo:Nat) (nW:Sl) (VQ:Sl) (oc:Int) (VR:Sl) (H147:Hp):OA:=(Hp.new H147 [(.sl VR)]).bind fun H148=>(Sl.row H148 (⟨some (H147.length,0),1,.ex 1⟩:Sl) 1).bind fun xs150=>(Hp.app H148 1 24 nW (⟨some (H147.length,0),1,.ex 1⟩:Sl).n xs150).bind fun a149=>ao.j5 F cB C61_ wj mo a149.1 VQ oc a149.2
noncomputable def ao.l7853 (F:Nat) (cB:Sl→Int→Int→Hp→OA) (C61_:Nat→Nat→Sl→Sl→Int→Hp→OA):Nat→Nat→Nat→Sl→Sl→Int→Sl→Int→Hp→OA
 | 0,_,_,_,_,_,_,_,_=>none
 | VS + 1,eR,gW,iC,io,fM,cO,dU,H122=>(Sl.idx io dU 1).bind fun p165=>(Hp.ldB H122 p165.1 p165.2).bind fun b166=>(bif (!b166) then ((Sl.idx io dU 1).bind fun p167=>(Hp.st H122 p167.1 p167.2 (.bool true)).bind fun H168=>(Hp.new H168 [(.int .i64 dU)]).bind fun H169=>(Sl.row H169 (⟨some (H168.length,0),1,.ex 1⟩:Sl) 1).bind fun xs171=>(Hp.app H169 1 8 cO (⟨some (H168.length,0),1,.ex 1⟩:Sl).n xs171).bind fun a170=>(Hp.ldSl a170.2 eR gW).bind fun s172=>(Hp.ldI a170.2 .i64 eR (gW + 1)).bind fun n173=>(cB s172 n173 dU a170.2).bind fun r174=>((r174.1).asI .i64).bind fun n175=>ao.l7853 F cB C61_ VS eR gW iC io fM a170.1 n175 r174.2) else (ao.j6 F cB C61_ eR gW iC io fM cO H122))
termination_by structural n=>n
noncomputable def ao.l61 (F:Nat) (cB:Sl→Int→Int→Hp→OA) :Nat→Nat→Nat→Sl→Sl→Int→Hp→OA
 | 0,_,_,_,_,_,_=>none
 | bJ + 1,cD,cY,cL,dC,cK,H15=>(bif (decide (cK < (dC.n:Int))) then ((Sl.idx dC cK 1).bind fun p96=>(Hp.ldB H15 p96.1 p96.2).bind fun b97=>(bif b97 then (ao.j4 F cB (ao.l61 F cB bJ) cD cY cL dC cK H15) else ((Hp.new H15 []).bind fun H109=>ao.l7853 F cB (ao.l61 F cB bJ) F cD cY cL dC cK (⟨some (H15.length,0),0,.ex 0⟩:Sl) cK H109))) else (some ((.sl cL),H15)))
termination_by structural n=>n
noncomputable def ao.twX (F:Nat) (cB:Sl→Int→Int→Hp→OA) (aa:Sl) (ab:Int) (H:Hp):OA:=(Hp.new H [(.sl aa),(.int .i64 ab)]).bind fun H3=>(Hp.new H3 []).bind fun H4=>(Hp.ldSl H4 H.length 0).bind fun s5=>(Hp.mk H4 [.bool false] 1 (IntKind.i64.wrap (4 * (s5.n:Int))) (IntKind.i64.wrap (4 * (s5.n:Int)))).bind fun m6=>ao.l61 F cB F H.length 0 (⟨some (H3.length,0),0,.ex 0⟩:Sl) m6.1 0 m6.2
noncomputable def ao.tw (F:Nat) (aa:Sl) (ab:Int) (H:Hp):OA:=ao.twX F (bK.tw F) aa ab H
noncomputable def ao.code:Go.Code:=(Try.f105.body).getD .skip
noncomputable def ao.lh61 (F:Nat) (cB:Sl→Int→Int→Hp→OA) (ks:List Nat) (n:Nat) (tm:Tm) (H:Hp):OA:=match ks,tm 1,tm 3,tm 4,tm 5 with
 | [],(.ptr cD cY),(.sl cL),(.sl dC),(.int .i64 cK)=>ao.l61 F cB n cD cY cL dC cK H
 | _,_,_,_,_=>none
theorem ao.lh61_inv {F:Nat} {cB:Sl→Int→Int→Hp→OA} {ks:List Nat} {n:Nat} {tm:Tm} {H:Hp} {r:AV×Hp} (h:ao.lh61 F cB ks n tm H = some r):∃ cD:Nat,∃ cY:Nat,∃ cL:Sl,∃ dC:Sl,∃ cK:Int,ks = []∧tm 1 = (.ptr cD cY)∧tm 3 = (.sl cL)∧tm 4 = (.sl dC)∧tm 5 = (.int .i64 cK)∧ao.l61 F cB n cD cY cL dC cK H = some r:=by
 unfold ao.lh61 at h
 split at h
 ·exact ⟨_,_,_,_,_,rfl,by assumption,by assumption,by assumption,by assumption,h⟩
 ·cases h
noncomputable def ao.lh7853 (F:Nat) (cB:Sl→Int→Int→Hp→OA) (ks:List Nat) (n:Nat) (tm:Tm) (H:Hp):OA:=match ks,tm 1,tm 3,tm 4,tm 5,tm 6,tm 7 with
 | [bJ],(.ptr eR gW),(.sl iC),(.sl io),(.int .i64 fM),(.sl cO),(.int .i64 dU)=>ao.l7853 F cB (ao.l61 F cB bJ) n eR gW iC io fM cO dU H
 | _,_,_,_,_,_,_=>none
theorem ao.lh7853_inv {F:Nat} {cB:Sl→Int→Int→Hp→OA} {ks:List Nat} {n:Nat} {tm:Tm} {H:Hp} {r:AV×Hp} (h:ao.lh7853 F cB ks n tm H = some r):∃ bJ:Nat,∃ eR:Nat,∃ gW:Nat,∃ iC:Sl,∃ io:Sl,∃ fM:Int,∃ cO:Sl,∃ dU:Int,ks = [bJ]∧tm 1 = (.ptr eR gW)∧tm 3 = (.sl iC)∧tm 4 = (.sl io)∧tm 5 = (.int .i64 fM)∧tm 6 = (.sl cO)∧tm 7 = (.int .i64 dU)∧ao.l7853 F cB (ao.l61 F cB bJ) n eR gW iC io fM cO dU H = some r:=by
 unfold ao.lh7853 at h
 split at h
 ·exact ⟨_,_,_,_,_,_,_,_,rfl,by assumption,by assumption,by assumption,by assumption,by assumption,by assumption,h⟩
 ·cases h
noncomputable def ao.lh (F:Nat) (cB:Sl→Int→Int→Hp→OA) (p:Nat) (ks:List Nat) (n:Nat) (tm:Tm) (H:Hp):OA:=bif p.beq 7853 then ao.lh7853 F cB ks n tm H else (bif p.beq 61 then ao.lh61 F cB ks n tm H else (none))
def ao.pn:Nat→List Nat:=fun i=>(([]:List (Nat×List Nat)).lookup i).getD []
def ao.tb:Nat→List (List Nat):=fun i=>(([]:List (Nat×List (List Nat))).lookup i).getD []
noncomputable def ao.mk (g:Sl→Int→Hp→OA) (args:List AV) (H:Hp):OA:=match args with
 | [(.agg [(.sl aa),(.int .i64 ab)])]=>g aa ab H
 | _=>none
noncomputable def ao.cs (F:Nat) (cB:Sl→Int→Int→Hp→OA):List (FuncId×(List AV→Hp→OA)):=[(142,bK.mk cB)]
theorem ao.loops (F:Nat) (cB:Sl→Int→Int→Hp→OA):LoopsOk tabs (mkOrc (ao.cs F cB)) ao.pn (ao.lh F cB) F [] 1 ao.code (fun tm H=>aresults tabs.ty H tm Try.f105.results.toList fun v=>some (v,H)) (fun _ _ _=>none) (fun tm H=>aresults tabs.ty H tm Try.f105.results.toList fun v=>some (v,H)):=by
 refine LoopsOk.seq ?_ ?_
 ·exact loops_none (by kernel_rfl)
 ·refine LoopsOk.seq ?_ ?_
  ·exact loops_none (by kernel_rfl)
  ·refine LoopsOk.seq ?_ ?_
   ·exact loops_none (by kernel_rfl)
   ·refine LoopsOk.seq ?_ ?_
    ·refine LoopsOk.seq ?_ ?_
     ·exact loops_none (by kernel_rfl)
     ·refine LoopsOk.block ?_
      refine LoopsOk.loop (fun tm H=>?_) (fun k61 tm H r h0=>?_) (fun k61=>?_)
      ·refine none_of fun r h0=>?_
       obtain ⟨cD,cY,cL,dC,cK,hks,e1,e3,e4,e5,h⟩:=ao.lh61_inv (show ao.lh61 F cB [] 0 tm H = some r from h0)
       cases h
      ·obtain ⟨cD,cY,cL,dC,cK,hks,e1,e3,e4,e5,h⟩:=ao.lh61_inv (show ao.lh61 F cB [] (k61 + 1) tm H = some r from h0)
       have q0:(Tm.put tm 1 (.ptr cD cY)) = tm:=by exact Tm.put_same e1
       have q1:(Tm.put (Tm.put tm 1 (.ptr cD cY)) 3 (.sl cL)) = tm:=by rw [q0]; exact Tm.put_same e3
       have q2:(Tm.put (Tm.put (Tm.put tm 1 (.ptr cD cY)) 3 (.sl cL)) 4 (.sl dC)) = tm:=by rw [q1]; exact Tm.put_same e4
       have q3:(Tm.put (Tm.put (Tm.put (Tm.put tm 1 (.ptr cD cY)) 3 (.sl cL)) 4 (.sl dC)) 5 (.int .i64 cK)) = tm:=by rw [q2]; exact Tm.put_same e5
       rw [← q3]
       exact Eq.trans (by kernel_rfl) h
      ·refine LoopsOk.seq ?_ ?_
       ·exact loops_none (by kernel_rfl)
       ·refine LoopsOk.seq ?_ ?_
        ·refine LoopsOk.block ?_
         refine LoopsOk.seq ?_ ?_
         ·exact loops_none (by kernel_rfl)
         ·refine LoopsOk.seq ?_ ?_
          ·exact loops_none (by kernel_rfl)
          ·refine LoopsOk.seq ?_ ?_
           ·refine LoopsOk.seq ?_ ?_
            ·exact loops_none (by kernel_rfl)
            ·refine LoopsOk.block ?_
             refine LoopsOk.loop (fun tm H=>?_) (fun k7853 tm H r h0=>?_) (fun k7853=>?_)
             ·refine none_of fun r h0=>?_
              obtain ⟨bJ,eR,gW,iC,io,fM,cO,dU,hks,e1,e3,e4,e5,e6,e7,h⟩:=ao.lh7853_inv (show ao.lh7853 F cB [k61] 0 tm H = some r from h0)
              cases h
             ·obtain ⟨bJ,eR,gW,iC,io,fM,cO,dU,hks,e1,e3,e4,e5,e6,e7,h⟩:=ao.lh7853_inv (show ao.lh7853 F cB [k61] (k7853 + 1) tm H = some r from h0)
              obtain rfl:bJ = k61:=by simpa [eq_comm] using hks
              have q0:(Tm.put tm 1 (.ptr eR gW)) = tm:=by exact Tm.put_same e1
              have q1:(Tm.put (Tm.put tm 1 (.ptr eR gW)) 3 (.sl iC)) = tm:=by rw [q0]; exact Tm.put_same e3
              have q2:(Tm.put (Tm.put (Tm.put tm 1 (.ptr eR gW)) 3 (.sl iC)) 4 (.sl io)) = tm:=by rw [q1]; exact Tm.put_same e4
              have q3:(Tm.put (Tm.put (Tm.put (Tm.put tm 1 (.ptr eR gW)) 3 (.sl iC)) 4 (.sl io)) 5 (.int .i64 fM)) = tm:=by rw [q2]; exact Tm.put_same e5
              have q4:(Tm.put (Tm.put (Tm.put (Tm.put (Tm.put tm 1 (.ptr eR gW)) 3 (.sl iC)) 4 (.sl io)) 5 (.int .i64 fM)) 6 (.sl cO)) = tm:=by rw [q3]; exact Tm.put_same e6
              have q5:(Tm.put (Tm.put (Tm.put (Tm.put (Tm.put (Tm.put tm 1 (.ptr eR gW)) 3 (.sl iC)) 4 (.sl io)) 5 (.int .i64 fM)) 6 (.sl cO)) 7 (.int .i64 dU)) = tm:=by rw [q4]; exact Tm.put_same e7
              rw [← q5]
              exact Eq.trans (by kernel_rfl) h
             ·exact loops_none (by kernel_rfl)
           ·exact loops_none (by kernel_rfl)
        ·exact loops_none (by kernel_rfl)
    ·exact loops_none (by kernel_rfl)
theorem ao.eqX (F:Nat) (cB:Sl→Int→Int→Hp→OA) (aa:Sl) (ab:Int) (H:Hp):aCode tabs (mkOrc (ao.cs F cB)) ao.pn (ao.lh F cB) F [] 1 ao.code (argTm [(.agg [(.sl aa),(.int .i64 ab)])]) H (fun tm H=>aresults tabs.ty H tm Try.f105.results.toList fun v=>some (v,H)) (fun _ _ _=>none) (fun tm H=>aresults tabs.ty H tm Try.f105.results.toList fun v=>some (v,H)) = ao.twX F cB aa ab H:=by kernel_rfl
theorem ao.cs_ok (F:Nat):∀ p ∈ ao.cs F (bK.tw F),∀ args H v H',p.2 args H = some (v,H')→Go.AE.T Try.prog p.1 args H v H':=by
 intro p hp
 simp only [ao.cs,List.mem_cons,List.not_mem_nil,or_false] at hp
 subst hp
 exact fun args H v H' h=>bK.mk_T h
theorem ao.ok:codeOk ao.pn Try.f105.ntmps ao.tb ao.code = true:=by kernel_rfl
theorem ao.T {F:Nat} {aa:Sl} {ab:Int} {H:Hp} {v:AV} {H':Hp} (h:ao.tw F aa ab H = some (v,H')):Go.AE.T Try.prog 105 [(.agg [(.sl aa),(.int .i64 ab)])] H v H':=
 Go.AE.T.of (Y:=tabs) (C:=mkOrc (ao.cs F (bK.tw F))) (PN:=ao.pn) (LH:=ao.lh F (bK.tw F)) (F:=F) (TB:=ao.tb) (fn:=Try.f105) (code:=ao.code) mixed tabs_ok (mkOrc_ok (ao.cs_ok F)) Try.func105 (by kernel_rfl) (by kernel_rfl) ao.ok (Nat.le_of_ble_eq_true (by kernel_rfl)) (ao.loops F (bK.tw F)) (Eq.trans (ao.eqX F (bK.tw F) aa ab H) h)
theorem ao.mk_T {F:Nat} {args:List AV} {H:Hp} {v:AV} {H':Hp} (h:ao.mk (ao.tw F) args H = some (v,H')):Go.AE.T Try.prog 105 args H v H':=by
 unfold ao.mk at h
 split at h
 ·exact ao.T h
 ·cases h
noncomputable def ak.j6 (F:Nat) (bF:Sl→Int→Int→Bool→Hp→OA) (C61_:Nat→Nat→Sl→Int→Hp→OA) (wl:Nat) (VT:Nat) (VU:Sl) (od:Int) (H243:Hp):OA:=C61_ wl VT VU (IntKind.i64.wrap (od + 1)) H243
noncomputable def ak.j7 (F:Nat) (bF:Sl→Int→Int→Bool→Hp→OA) (C61_:Nat→Nat→Sl→Int→Hp→OA) (wm:Nat) (VV:Nat) (oe:Sl) (mp:Int) (H226:Hp):OA:=ak.j6 F bF C61_ wm VV oe mp H226
noncomputable def ak.j8 (F:Nat) (bF:Sl→Int→Int→Bool→Hp→OA) (C7855_:Nat→Nat→Sl→Int→Int→Int→Int→Hp→OA) (wo:Nat) (VW:Nat) (VX:Sl) (og:Int) (oh:Int) (oi:Int) (oj:Int) (H265:Hp):OA:=C7855_ wo VW VX og oh oi (IntKind.i64.wrap (oj + 1)) H265
noncomputable def ak.l7855 (F:Nat) (bF:Sl→Int→Int→Bool→Hp→OA) (C61_:Nat→Nat→Sl→Int→Hp→OA):Nat→Nat→Nat→Sl→Int→Int→Int→Int→Hp→OA
 | 0,_,_,_,_,_,_,_,_=>none
 | Iu + 1,fz,hT,gA,ek,df,dx,dV,H187=>(bif (decide (dV < (gA.n:Int))) then ((Sl.idx gA dV 1).bind fun p244=>(Hp.ldI H187 .i64 p244.1 p244.2).bind fun n245=>(bif (n245 == (if dx > df then dx else df)) then ((Sl.idx gA dV 1).bind fun p246=>(Hp.st H187 p246.1 p246.2 (.int .i64 (if dx < df then dx else df))).bind fun H247=>ak.j8 F bF (ak.l7855 F bF C61_ Iu) fz hT gA ek df dx dV H247) else (ak.j8 F bF (ak.l7855 F bF C61_ Iu) fz hT gA ek df dx dV H187))) else (ak.j7 F bF C61_ fz hT gA ek H187))
termination_by structural n=>n
noncomputable def ak.l61 (F:Nat) (bF:Sl→Int→Int→Bool→Hp→OA) :Nat→Nat→Nat→Sl→Int→Hp→OA
 | 0,_,_,_,_,_=>none
 | bJ + 1,fA,hU,iX,eS,H35=>(Hp.ldSl H35 fA hU).bind fun s151=>(bif (decide (eS < (IntKind.i64.wrap (2 * (s151.n:Int))))) then ((Hp.ldSl H35 fA hU).bind fun s152=>(Hp.ldI H35 .i64 fA (hU + 1)).bind fun n153=>(bF s152 n153 eS true H35).bind fun r154=>((r154.1).asTup 2).bind fun l155=>(l155[0]?).bind fun v156=>((v156).asI .i64).bind fun n157=>(l155[1]?).bind fun v158=>((v158).asI .i64).bind fun n159=>(Hp.ldSl r154.2 fA hU).bind fun s160=>(Hp.ldI r154.2 .i64 fA (hU + 1)).bind fun n161=>(bF s160 n161 eS false r154.2).bind fun r162=>((r162.1).asTup 2).bind fun l163=>(l163[0]?).bind fun v164=>((v164).asI .i64).bind fun n165=>(l163[1]?).bind fun v166=>((v166).asI .i64).bind fun n167=>(Sl.idx iX n157 1).bind fun p168=>(Hp.ldI r162.2 .i64 p168.1 p168.2).bind fun n169=>(Sl.idx iX n165 1).bind fun p170=>(Hp.ldI r162.2 .i64 p170.1 p170.2).bind fun n171=>ak.l7855 F bF (ak.l61 F bF bJ) F fA hU iX eS n169 n171 0 r162.2) else (some ((.sl iX),H35)))
termination_by structural n=>n
noncomputable def ak.j9 (F:Nat) (bF:Sl→Int→Int→Bool→Hp→OA) (wp:Nat) (VY:Nat) (VZ:Sl) (H25:Hp):OA:=ak.l61 F bF F wp VY VZ 0 H25
noncomputable def ak.l29 (F:Nat) (bF:Sl→Int→Int→Bool→Hp→OA) :Nat→Nat→Nat→Sl→Int→Hp→OA
 | 0,_,_,_,_,_=>none
 | fx + 1,gB,cQ,de,eT,H12=>(Hp.ldSl H12 gB cQ).bind fun s266=>(bif (decide (eT < (s266.n:Int))) then ((Hp.new H12 [(.int .i64 eT)]).bind fun H267=>(Sl.row H267 (⟨some (H12.length,0),1,.ex 1⟩:Sl) 1).bind fun xs269=>(Hp.app H267 1 8 de (⟨some (H12.length,0),1,.ex 1⟩:Sl).n xs269).bind fun a268=>ak.l29 F bF fx gB cQ a268.1 (IntKind.i64.wrap (eT + 1)) a268.2) else (ak.j9 F bF gB cQ de H12))
termination_by structural n=>n
noncomputable def ak.twX (F:Nat) (bF:Sl→Int→Int→Bool→Hp→OA) (aa:Sl) (ab:Int) (H:Hp):OA:=(Hp.new H [(.sl aa),(.int .i64 ab)]).bind fun H3=>(Hp.new H3 []).bind fun H4=>ak.l29 F bF F H.length 0 (⟨some (H3.length,0),0,.ex 0⟩:Sl) 0 H4
noncomputable def ak.tw (F:Nat) (aa:Sl) (ab:Int) (H:Hp):OA:=ak.twX F (ax.tw F) aa ab H
noncomputable def ak.code:Go.Code:=(Try.f122.body).getD .skip
noncomputable def ak.lh29 (F:Nat) (bF:Sl→Int→Int→Bool→Hp→OA) (ks:List Nat) (n:Nat) (tm:Tm) (H:Hp):OA:=match ks,tm 1,tm 3,tm 4 with
 | [],(.ptr gB cQ),(.sl de),(.int .i64 eT)=>ak.l29 F bF n gB cQ de eT H
 | _,_,_,_=>none
theorem ak.lh29_inv {F:Nat} {bF:Sl→Int→Int→Bool→Hp→OA} {ks:List Nat} {n:Nat} {tm:Tm} {H:Hp} {r:AV×Hp} (h:ak.lh29 F bF ks n tm H = some r):∃ gB:Nat,∃ cQ:Nat,∃ de:Sl,∃ eT:Int,ks = []∧tm 1 = (.ptr gB cQ)∧tm 3 = (.sl de)∧tm 4 = (.int .i64 eT)∧ak.l29 F bF n gB cQ de eT H = some r:=by
 unfold ak.lh29 at h
 split at h
 ·exact ⟨_,_,_,_,rfl,by assumption,by assumption,by assumption,h⟩
 ·cases h
noncomputable def ak.lh61 (F:Nat) (bF:Sl→Int→Int→Bool→Hp→OA) (ks:List Nat) (n:Nat) (tm:Tm) (H:Hp):OA:=match ks,tm 1,tm 3,tm 5 with
 | [],(.ptr fA hU),(.sl iX),(.int .i64 eS)=>ak.l61 F bF n fA hU iX eS H
 | _,_,_,_=>none
theorem ak.lh61_inv {F:Nat} {bF:Sl→Int→Int→Bool→Hp→OA} {ks:List Nat} {n:Nat} {tm:Tm} {H:Hp} {r:AV×Hp} (h:ak.lh61 F bF ks n tm H = some r):∃ fA:Nat,∃ hU:Nat,∃ iX:Sl,∃ eS:Int,ks = []∧tm 1 = (.ptr fA hU)∧tm 3 = (.sl iX)∧tm 5 = (.int .i64 eS)∧ak.l61 F bF n fA hU iX eS H = some r:=by
 unfold ak.lh61 at h
 split at h
 ·exact ⟨_,_,_,_,rfl,by assumption,by assumption,by assumption,h⟩
 ·cases h
noncomputable def ak.lh7855 (F:Nat) (bF:Sl→Int→Int→Bool→Hp→OA) (ks:List Nat) (n:Nat) (tm:Tm) (H:Hp):OA:=match ks,tm 1,tm 3,tm 5,tm 10,tm 11,tm 12 with
 | [bJ],(.ptr fz hT),(.sl gA),(.int .i64 ek),(.int .i64 df),(.int .i64 dx),(.int .i64 dV)=>ak.l7855 F bF (ak.l61 F bF bJ) n fz hT gA ek df dx dV H
 | _,_,_,_,_,_,_=>none
theorem ak.lh7855_inv {F:Nat} {bF:Sl→Int→Int→Bool→Hp→OA} {ks:List Nat} {n:Nat} {tm:Tm} {H:Hp} {r:AV×Hp} (h:ak.lh7855 F bF ks n tm H = some r):∃ bJ:Nat,∃ fz:Nat,∃ hT:Nat,∃ gA:Sl,∃ ek:Int,∃ df:Int,∃ dx:Int,∃ dV:Int,ks = [bJ]∧tm 1 = (.ptr fz hT)∧tm 3 = (.sl gA)∧tm 5 = (.int .i64 ek)∧tm 10 = (.int .i64 df)∧tm 11 = (.int .i64 dx)∧tm 12 = (.int .i64 dV)∧ak.l7855 F bF (ak.l61 F bF bJ) n fz hT gA ek df dx dV H = some r:=by
 unfold ak.lh7855 at h
 split at h
 ·exact ⟨_,_,_,_,_,_,_,_,rfl,by assumption,by assumption,by assumption,by assumption,by assumption,by assumption,h⟩
 ·cases h
noncomputable def ak.lh (F:Nat) (bF:Sl→Int→Int→Bool→Hp→OA) (p:Nat) (ks:List Nat) (n:Nat) (tm:Tm) (H:Hp):OA:=bif p.beq 7855 then ak.lh7855 F bF ks n tm H else (bif p.beq 61 then ak.lh61 F bF ks n tm H else (bif p.beq 29 then ak.lh29 F bF ks n tm H else (none)))
def ak.pn:Nat→List Nat:=fun i=>(([(11,[])]:List (Nat×List Nat)).lookup i).getD []
def ak.tb:Nat→List (List Nat):=fun i=>(([(11,[[],[],[0,1],[0,1,2],[],[],[4,5],[4,5,6],[0,1,2,3],[0,1,2,3,4,5,6,7,8]])]:List (Nat×List (List Nat))).lookup i).getD []
noncomputable def ak.mk (g:Sl→Int→Hp→OA) (args:List AV) (H:Hp):OA:=match args with
 | [(.agg [(.sl aa),(.int .i64 ab)])]=>g aa ab H
 | _=>none
noncomputable def ak.cs (F:Nat) (bF:Sl→Int→Int→Bool→Hp→OA):List (FuncId×(List AV→Hp→OA)):=[(152,ax.mk bF)]
theorem ak.loops (F:Nat) (bF:Sl→Int→Int→Bool→Hp→OA):LoopsOk tabs (mkOrc (ak.cs F bF)) ak.pn (ak.lh F bF) F [] 1 ak.code (fun tm H=>aresults tabs.ty H tm Try.f122.results.toList fun v=>some (v,H)) (fun _ _ _=>none) (fun tm H=>aresults tabs.ty H tm Try.f122.results.toList fun v=>some (v,H)):=by
 refine LoopsOk.seq ?_ ?_
 ·exact loops_none (by kernel_rfl)
 ·refine LoopsOk.seq ?_ ?_
  ·exact loops_none (by kernel_rfl)
  ·refine LoopsOk.seq ?_ ?_
   ·refine LoopsOk.seq ?_ ?_
    ·exact loops_none (by kernel_rfl)
    ·refine LoopsOk.block ?_
     refine LoopsOk.loop (fun tm H=>?_) (fun k29 tm H r h0=>?_) (fun k29=>?_)
     ·refine none_of fun r h0=>?_
      obtain ⟨gB,cQ,de,eT,hks,e1,e3,e4,h⟩:=ak.lh29_inv (show ak.lh29 F bF [] 0 tm H = some r from h0)
      cases h
     ·obtain ⟨gB,cQ,de,eT,hks,e1,e3,e4,h⟩:=ak.lh29_inv (show ak.lh29 F bF [] (k29 + 1) tm H = some r from h0)
      have q0:(Tm.put tm 1 (.ptr gB cQ)) = tm:=by exact Tm.put_same e1
      have q1:(Tm.put (Tm.put tm 1 (.ptr gB cQ)) 3 (.sl de)) = tm:=by rw [q0]; exact Tm.put_same e3
      have q2:(Tm.put (Tm.put (Tm.put tm 1 (.ptr gB cQ)) 3 (.sl de)) 4 (.int .i64 eT)) = tm:=by rw [q1]; exact Tm.put_same e4
      rw [← q2]
      exact Eq.trans (by kernel_rfl) h
     ·exact loops_none (by kernel_rfl)
   ·refine LoopsOk.seq ?_ ?_
    ·refine LoopsOk.seq ?_ ?_
     ·exact loops_none (by kernel_rfl)
     ·refine LoopsOk.block ?_
      refine LoopsOk.loop (fun tm H=>?_) (fun k61 tm H r h0=>?_) (fun k61=>?_)
      ·refine none_of fun r h0=>?_
       obtain ⟨fA,hU,iX,eS,hks,e1,e3,e5,h⟩:=ak.lh61_inv (show ak.lh61 F bF [] 0 tm H = some r from h0)
       cases h
      ·obtain ⟨fA,hU,iX,eS,hks,e1,e3,e5,h⟩:=ak.lh61_inv (show ak.lh61 F bF [] (k61 + 1) tm H = some r from h0)
       have q0:(Tm.put tm 1 (.ptr fA hU)) = tm:=by exact Tm.put_same e1
       have q1:(Tm.put (Tm.put tm 1 (.ptr fA hU)) 3 (.sl iX)) = tm:=by rw [q0]; exact Tm.put_same e3
       have q2:(Tm.put (Tm.put (Tm.put tm 1 (.ptr fA hU)) 3 (.sl iX)) 5 (.int .i64 eS)) = tm:=by rw [q1]; exact Tm.put_same e5
       rw [← q2]
       exact Eq.trans (by kernel_rfl) h
      ·refine LoopsOk.seq ?_ ?_
       ·exact loops_none (by kernel_rfl)
       ·refine LoopsOk.seq ?_ ?_
        ·refine LoopsOk.block ?_
         refine LoopsOk.seq ?_ ?_
         ·exact loops_none (by kernel_rfl)
         ·refine LoopsOk.seq ?_ ?_
          ·exact loops_none (by kernel_rfl)
          ·refine LoopsOk.seq ?_ ?_
           ·exact loops_none (by kernel_rfl)
           ·refine LoopsOk.seq ?_ ?_
            ·exact loops_none (by kernel_rfl)
            ·refine LoopsOk.block ?_
             refine LoopsOk.loop (fun tm H=>?_) (fun k7855 tm H r h0=>?_) (fun k7855=>?_)
             ·refine none_of fun r h0=>?_
              obtain ⟨bJ,fz,hT,gA,ek,df,dx,dV,hks,e1,e3,e5,e10,e11,e12,h⟩:=ak.lh7855_inv (show ak.lh7855 F bF [k61] 0 tm H = some r from h0)
              cases h
             ·obtain ⟨bJ,fz,hT,gA,ek,df,dx,dV,hks,e1,e3,e5,e10,e11,e12,h⟩:=ak.lh7855_inv (show ak.lh7855 F bF [k61] (k7855 + 1) tm H = some r from h0)
              obtain rfl:bJ = k61:=by simpa [eq_comm] using hks
              have q0:(Tm.put tm 1 (.ptr fz hT)) = tm:=by exact Tm.put_same e1
              have q1:(Tm.put (Tm.put tm 1 (.ptr fz hT)) 3 (.sl gA)) = tm:=by rw [q0]; exact Tm.put_same e3
              have q2:(Tm.put (Tm.put (Tm.put tm 1 (.ptr fz hT)) 3 (.sl gA)) 5 (.int .i64 ek)) = tm:=by rw [q1]; exact Tm.put_same e5
              have q3:(Tm.put (Tm.put (Tm.put (Tm.put tm 1 (.ptr fz hT)) 3 (.sl gA)) 5 (.int .i64 ek)) 10 (.int .i64 df)) = tm:=by rw [q2]; exact Tm.put_same e10
              have q4:(Tm.put (Tm.put (Tm.put (Tm.put (Tm.put tm 1 (.ptr fz hT)) 3 (.sl gA)) 5 (.int .i64 ek)) 10 (.int .i64 df)) 11 (.int .i64 dx)) = tm:=by rw [q3]; exact Tm.put_same e11
              have q5:(Tm.put (Tm.put (Tm.put (Tm.put (Tm.put (Tm.put tm 1 (.ptr fz hT)) 3 (.sl gA)) 5 (.int .i64 ek)) 10 (.int .i64 df)) 11 (.int .i64 dx)) 12 (.int .i64 dV)) = tm:=by rw [q4]; exact Tm.put_same e12
              rw [← q5]
              exact Eq.trans (by kernel_rfl) h
             ·exact loops_none (by kernel_rfl)
        ·exact loops_none (by kernel_rfl)
    ·exact loops_none (by kernel_rfl)
theorem ak.eqX (F:Nat) (bF:Sl→Int→Int→Bool→Hp→OA) (aa:Sl) (ab:Int) (H:Hp):aCode tabs (mkOrc (ak.cs F bF)) ak.pn (ak.lh F bF) F [] 1 ak.code (argTm [(.agg [(.sl aa),(.int .i64 ab)])]) H (fun tm H=>aresults tabs.ty H tm Try.f122.results.toList fun v=>some (v,H)) (fun _ _ _=>none) (fun tm H=>aresults tabs.ty H tm Try.f122.results.toList fun v=>some (v,H)) = ak.twX F bF aa ab H:=by kernel_rfl
theorem ak.cs_ok (F:Nat):∀ p ∈ ak.cs F (ax.tw F),∀ args H v H',p.2 args H = some (v,H')→Go.AE.T Try.prog p.1 args H v H':=by
 intro p hp
 simp only [ak.cs,List.mem_cons,List.not_mem_nil,or_false] at hp
 subst hp
 exact fun args H v H' h=>ax.mk_T h
theorem ak.ok:codeOk ak.pn Try.f122.ntmps ak.tb ak.code = true:=by kernel_rfl
theorem ak.T {F:Nat} {aa:Sl} {ab:Int} {H:Hp} {v:AV} {H':Hp} (h:ak.tw F aa ab H = some (v,H')):Go.AE.T Try.prog 122 [(.agg [(.sl aa),(.int .i64 ab)])] H v H':=
 Go.AE.T.of (Y:=tabs) (C:=mkOrc (ak.cs F (ax.tw F))) (PN:=ak.pn) (LH:=ak.lh F (ax.tw F)) (F:=F) (TB:=ak.tb) (fn:=Try.f122) (code:=ak.code) mixed tabs_ok (mkOrc_ok (ak.cs_ok F)) Try.func122 (by kernel_rfl) (by kernel_rfl) ak.ok (Nat.le_of_ble_eq_true (by kernel_rfl)) (ak.loops F (ax.tw F)) (Eq.trans (ak.eqX F (ax.tw F) aa ab H) h)
theorem ak.mk_T {F:Nat} {args:List AV} {H:Hp} {v:AV} {H':Hp} (h:ak.mk (ak.tw F) args H = some (v,H')):Go.AE.T Try.prog 122 args H v H':=by
 unfold ak.mk at h
 split at h
 ·exact ak.T h
 ·cases h
noncomputable def aI.j2 (F:Nat) (aL:Sl→Int→Hp→OA) (C61_:Int→Sl→Int→Hp→OA) (ol:Int) (V_:Sl) (om:Int) (H42:Hp):OA:=C61_ ol V_ (IntKind.i64.wrap (om + 1)) H42
noncomputable def aI.l61 (F:Nat) (aL:Sl→Int→Hp→OA) :Nat→Int→Sl→Int→Hp→OA
 | 0,_,_,_,_=>none
 | bJ + 1,eU,iY,dW,H16=>(bif (decide (dW < (iY.n:Int))) then ((Sl.idx iY dW 1).bind fun p30=>(Hp.ldI H16 .i64 p30.1 p30.2).bind fun n31=>(bif (n31 == dW) then (aI.j2 F aL (aI.l61 F aL bJ) (IntKind.i64.wrap (eU + 1)) iY dW H16) else (aI.j2 F aL (aI.l61 F aL bJ) eU iY dW H16))) else (some ((.int .i64 eU),H16)))
termination_by structural n=>n
noncomputable def aI.twX (F:Nat) (aL:Sl→Int→Hp→OA) (aa:Sl) (ab:Int) (H:Hp):OA:=(Hp.new H [(.sl aa),(.int .i64 ab)]).bind fun H3=>(Hp.ldSl H3 H.length 0).bind fun s4=>(Hp.ldI H3 .i64 H.length (0 + 1)).bind fun n5=>(aL s4 n5 H3).bind fun r6=>((r6.1).asSl).bind fun s7=>aI.l61 F aL F 0 s7 0 r6.2
noncomputable def aI.tw (F:Nat) (aa:Sl) (ab:Int) (H:Hp):OA:=aI.twX F (ak.tw F) aa ab H
noncomputable def aI.code:Go.Code:=(Try.f97.body).getD .skip
noncomputable def aI.lh61 (F:Nat) (aL:Sl→Int→Hp→OA) (ks:List Nat) (n:Nat) (tm:Tm) (H:Hp):OA:=match ks,tm 3,tm 4,tm 5 with
 | [],(.int .i64 eU),(.sl iY),(.int .i64 dW)=>aI.l61 F aL n eU iY dW H
 | _,_,_,_=>none
theorem aI.lh61_inv {F:Nat} {aL:Sl→Int→Hp→OA} {ks:List Nat} {n:Nat} {tm:Tm} {H:Hp} {r:AV×Hp} (h:aI.lh61 F aL ks n tm H = some r):∃ eU:Int,∃ iY:Sl,∃ dW:Int,ks = []∧tm 3 = (.int .i64 eU)∧tm 4 = (.sl iY)∧tm 5 = (.int .i64 dW)∧aI.l61 F aL n eU iY dW H = some r:=by
 unfold aI.lh61 at h
 split at h
 ·exact ⟨_,_,_,rfl,by assumption,by assumption,by assumption,h⟩
 ·cases h
noncomputable def aI.lh (F:Nat) (aL:Sl→Int→Hp→OA) (p:Nat) (ks:List Nat) (n:Nat) (tm:Tm) (H:Hp):OA:=bif p.beq 61 then aI.lh61 F aL ks n tm H else (none)
def aI.pn:Nat→List Nat:=fun i=>(([]:List (Nat×List Nat)).lookup i).getD []
def aI.tb:Nat→List (List Nat):=fun i=>(([]:List (Nat×List (List Nat))).lookup i).getD []
noncomputable def aI.mk (g:Sl→Int→Hp→OA) (args:List AV) (H:Hp):OA:=match args with
 | [(.agg [(.sl aa),(.int .i64 ab)])]=>g aa ab H
 | _=>none
noncomputable def aI.cs (F:Nat) (aL:Sl→Int→Hp→OA):List (FuncId×(List AV→Hp→OA)):=[(122,ak.mk aL)]
theorem aI.loops (F:Nat) (aL:Sl→Int→Hp→OA):LoopsOk tabs (mkOrc (aI.cs F aL)) aI.pn (aI.lh F aL) F [] 1 aI.code (fun tm H=>aresults tabs.ty H tm Try.f97.results.toList fun v=>some (v,H)) (fun _ _ _=>none) (fun tm H=>aresults tabs.ty H tm Try.f97.results.toList fun v=>some (v,H)):=by
 refine LoopsOk.seq ?_ ?_
 ·exact loops_none (by kernel_rfl)
 ·refine LoopsOk.seq ?_ ?_
  ·exact loops_none (by kernel_rfl)
  ·refine LoopsOk.seq ?_ ?_
   ·exact loops_none (by kernel_rfl)
   ·refine LoopsOk.seq ?_ ?_
    ·refine LoopsOk.seq ?_ ?_
     ·exact loops_none (by kernel_rfl)
     ·refine LoopsOk.block ?_
      refine LoopsOk.loop (fun tm H=>?_) (fun k61 tm H r h0=>?_) (fun k61=>?_)
      ·refine none_of fun r h0=>?_
       obtain ⟨eU,iY,dW,hks,e3,e4,e5,h⟩:=aI.lh61_inv (show aI.lh61 F aL [] 0 tm H = some r from h0)
       cases h
      ·obtain ⟨eU,iY,dW,hks,e3,e4,e5,h⟩:=aI.lh61_inv (show aI.lh61 F aL [] (k61 + 1) tm H = some r from h0)
       have q0:(Tm.put tm 3 (.int .i64 eU)) = tm:=by exact Tm.put_same e3
       have q1:(Tm.put (Tm.put tm 3 (.int .i64 eU)) 4 (.sl iY)) = tm:=by rw [q0]; exact Tm.put_same e4
       have q2:(Tm.put (Tm.put (Tm.put tm 3 (.int .i64 eU)) 4 (.sl iY)) 5 (.int .i64 dW)) = tm:=by rw [q1]; exact Tm.put_same e5
       rw [← q2]
       exact Eq.trans (by kernel_rfl) h
      ·exact loops_none (by kernel_rfl)
    ·exact loops_none (by kernel_rfl)
theorem aI.eqX (F:Nat) (aL:Sl→Int→Hp→OA) (aa:Sl) (ab:Int) (H:Hp):aCode tabs (mkOrc (aI.cs F aL)) aI.pn (aI.lh F aL) F [] 1 aI.code (argTm [(.agg [(.sl aa),(.int .i64 ab)])]) H (fun tm H=>aresults tabs.ty H tm Try.f97.results.toList fun v=>some (v,H)) (fun _ _ _=>none) (fun tm H=>aresults tabs.ty H tm Try.f97.results.toList fun v=>some (v,H)) = aI.twX F aL aa ab H:=by kernel_rfl
theorem aI.cs_ok (F:Nat):∀ p ∈ aI.cs F (ak.tw F),∀ args H v H',p.2 args H = some (v,H')→Go.AE.T Try.prog p.1 args H v H':=by
 intro p hp
 simp only [aI.cs,List.mem_cons,List.not_mem_nil,or_false] at hp
 subst hp
 exact fun args H v H' h=>ak.mk_T h
theorem aI.ok:codeOk aI.pn Try.f97.ntmps aI.tb aI.code = true:=by kernel_rfl
theorem aI.T {F:Nat} {aa:Sl} {ab:Int} {H:Hp} {v:AV} {H':Hp} (h:aI.tw F aa ab H = some (v,H')):Go.AE.T Try.prog 97 [(.agg [(.sl aa),(.int .i64 ab)])] H v H':=
 Go.AE.T.of (Y:=tabs) (C:=mkOrc (aI.cs F (ak.tw F))) (PN:=aI.pn) (LH:=aI.lh F (ak.tw F)) (F:=F) (TB:=aI.tb) (fn:=Try.f97) (code:=aI.code) mixed tabs_ok (mkOrc_ok (aI.cs_ok F)) Try.func97 (by kernel_rfl) (by kernel_rfl) aI.ok (Nat.le_of_ble_eq_true (by kernel_rfl)) (aI.loops F (ak.tw F)) (Eq.trans (aI.eqX F (ak.tw F) aa ab H) h)
theorem aI.mk_T {F:Nat} {args:List AV} {H:Hp} {v:AV} {H':Hp} (h:aI.mk (aI.tw F) args H = some (v,H')):Go.AE.T Try.prog 97 args H v H':=by
 unfold aI.mk at h
 split at h
 ·exact aI.T h
 ·cases h
noncomputable def bQ.twX (F:Nat) (bY:Int→Int→Int→Hp→OA) (jT:Sl→Int→Hp→OA) (aE:Sl→Int→Hp→OA) (eo:Sl→Int→Hp→OA) (aa:Sl) (ab:Int) (H:Hp):OA:=(Hp.new H [(.sl aa),(.int .i64 ab)]).bind fun H3=>(Hp.ldSl H3 H.length 0).bind fun s4=>(bif (decide ((s4.n:Int) > 10)) then (some ((.bool false),H3)) else ((Hp.ldI H3 .i64 H.length 1).bind fun n5=>(bY n5 0 8 H3).bind fun r6=>((r6.1).asB).bind fun b7=>(bif (!b7) then (some ((.bool false),r6.2)) else ((Hp.ldSl r6.2 H.length 0).bind fun s8=>(Hp.ldI r6.2 .i64 H.length (0 + 1)).bind fun n9=>(jT s8 n9 r6.2).bind fun r10=>((r10.1).asB).bind fun b11=>(bif (!b11) then (some ((.bool false),r10.2)) else ((Hp.ldSl r10.2 H.length 0).bind fun s12=>(Hp.ldI r10.2 .i64 H.length (0 + 1)).bind fun n13=>(aE s12 n13 r10.2).bind fun r14=>((r14.1).asSl).bind fun s15=>(if Cons r10.2 r14.2 then ((Hp.ldSl r14.2 H.length 0).bind fun s16=>(Hp.ldSl r14.2 H.length 0).bind fun s17=>(Hp.ldI r14.2 .i64 H.length (0 + 1)).bind fun n18=>(eo s17 n18 r14.2).bind fun r19=>((r19.1).asI .i64).bind fun n20=>(if Cons r14.2 r19.2 then (some ((.bool ((s15.n:Int) == (IntKind.i64.wrap ((s16.n:Int) + (IntKind.i64.wrap (2 * n20)))))),r19.2)) else none)) else none)))))))
noncomputable def bQ.tw (F:Nat) (aa:Sl) (ab:Int) (H:Hp):OA:=bQ.twX F (bn.tw F) (aC.tw F) (ao.tw F) (aI.tw F) aa ab H
noncomputable def bQ.code:Go.Code:=(Try.f50.body).getD .skip
noncomputable def bQ.lh (F:Nat) (bY:Int→Int→Int→Hp→OA) (jT:Sl→Int→Hp→OA) (aE:Sl→Int→Hp→OA) (eo:Sl→Int→Hp→OA) (p:Nat) (ks:List Nat) (n:Nat) (tm:Tm) (H:Hp):OA:=none
def bQ.pn:Nat→List Nat:=fun i=>(([(3,[])]:List (Nat×List Nat)).lookup i).getD []
def bQ.tb:Nat→List (List Nat):=fun i=>(([(3,[[],[0],[0,1],[],[3],[3,4],[],[0,1,6],[0,1,6,7],[0,1,3,4,5,6,7,8],[0,1,2,3,4,5,6,7,8,9],[0,1,2,3,4,5,6,7,8,9,10]])]:List (Nat×List (List Nat))).lookup i).getD []
noncomputable def bQ.mk (g:Sl→Int→Hp→OA) (args:List AV) (H:Hp):OA:=match args with
 | [(.agg [(.sl aa),(.int .i64 ab)])]=>g aa ab H
 | _=>none
noncomputable def bQ.cs (F:Nat) (bY:Int→Int→Int→Hp→OA) (jT:Sl→Int→Hp→OA) (aE:Sl→Int→Hp→OA) (eo:Sl→Int→Hp→OA):List (FuncId×(List AV→Hp→OA)):=[(65,bn.mk bY),(104,aC.mk jT),(105,ao.mk aE),(97,aI.mk eo)]
theorem bQ.loops (F:Nat) (bY:Int→Int→Int→Hp→OA) (jT:Sl→Int→Hp→OA) (aE:Sl→Int→Hp→OA) (eo:Sl→Int→Hp→OA):LoopsOk tabs (mkOrc (bQ.cs F bY jT aE eo)) bQ.pn (bQ.lh F bY jT aE eo) F [] 1 bQ.code (fun tm H=>aresults tabs.ty H tm Try.f50.results.toList fun v=>some (v,H)) (fun _ _ _=>none) (fun tm H=>aresults tabs.ty H tm Try.f50.results.toList fun v=>some (v,H)):=by
 exact loops_none (by kernel_rfl)
theorem bQ.eqX (F:Nat) (bY:Int→Int→Int→Hp→OA) (jT:Sl→Int→Hp→OA) (aE:Sl→Int→Hp→OA) (eo:Sl→Int→Hp→OA) (aa:Sl) (ab:Int) (H:Hp):aCode tabs (mkOrc (bQ.cs F bY jT aE eo)) bQ.pn (bQ.lh F bY jT aE eo) F [] 1 bQ.code (argTm [(.agg [(.sl aa),(.int .i64 ab)])]) H (fun tm H=>aresults tabs.ty H tm Try.f50.results.toList fun v=>some (v,H)) (fun _ _ _=>none) (fun tm H=>aresults tabs.ty H tm Try.f50.results.toList fun v=>some (v,H)) = bQ.twX F bY jT aE eo aa ab H:=by kernel_rfl
theorem bQ.cs_ok (F:Nat):∀ p ∈ bQ.cs F (bn.tw F) (aC.tw F) (ao.tw F) (aI.tw F),∀ args H v H',p.2 args H = some (v,H')→Go.AE.T Try.prog p.1 args H v H':=by
 intro p hp
 simp only [bQ.cs,List.mem_cons,List.not_mem_nil,or_false] at hp
 rcases hp with rfl | rfl | rfl | rfl
 ·exact fun args H v H' h=>bn.mk_T h
 ·exact fun args H v H' h=>aC.mk_T h
 ·exact fun args H v H' h=>ao.mk_T h
 ·exact fun args H v H' h=>aI.mk_T h
theorem bQ.ok:codeOk bQ.pn Try.f50.ntmps bQ.tb bQ.code = true:=by kernel_rfl
theorem bQ.T {F:Nat} {aa:Sl} {ab:Int} {H:Hp} {v:AV} {H':Hp} (h:bQ.tw F aa ab H = some (v,H')):Go.AE.T Try.prog 50 [(.agg [(.sl aa),(.int .i64 ab)])] H v H':=
 Go.AE.T.of (Y:=tabs) (C:=mkOrc (bQ.cs F (bn.tw F) (aC.tw F) (ao.tw F) (aI.tw F))) (PN:=bQ.pn) (LH:=bQ.lh F (bn.tw F) (aC.tw F) (ao.tw F) (aI.tw F)) (F:=F) (TB:=bQ.tb) (fn:=Try.f50) (code:=bQ.code) mixed tabs_ok (mkOrc_ok (bQ.cs_ok F)) Try.func50 (by kernel_rfl) (by kernel_rfl) bQ.ok (Nat.le_of_ble_eq_true (by kernel_rfl)) (bQ.loops F (bn.tw F) (aC.tw F) (ao.tw F) (aI.tw F)) (Eq.trans (bQ.eqX F (bn.tw F) (aC.tw F) (ao.tw F) (aI.tw F) aa ab H) h)
theorem bQ.mk_T {F:Nat} {args:List AV} {H:Hp} {v:AV} {H':Hp} (h:bQ.mk (bQ.tw F) args H = some (v,H')):Go.AE.T Try.prog 50 args H v H':=by
 unfold bQ.mk at h
 split at h
 ·exact bQ.T h
 ·cases h
noncomputable def aw.j3 (F:Nat) (aE:Sl→Int→Hp→OA) (C61_:Sl→Sl→Int→Hp→OA) (Wa:Sl) (Wb:Sl) (oo:Int) (H112:Hp):OA:=C61_ Wa Wb (IntKind.i64.wrap (oo + 1)) H112
noncomputable def aw.j4 (F:Nat) (aE:Sl→Int→Hp→OA) (C61_:Sl→Sl→Int→Hp→OA) (Wc:Sl) (Wd:Sl) (oq:Int) (H100:Hp):OA:=aw.j3 F aE C61_ Wc Wd oq H100
noncomputable def aw.l981 (F:Nat) (aE:Sl→Int→Hp→OA) (C61_:Sl→Sl→Int→Hp→OA):Nat→Sl→Sl→Int→Int→Hp→OA
 | 0,_,_,_,_,_=>none
 | We + 1,iD,iE,dO,fN,H80=>(Sl.idx iE dO 1).bind fun p113=>(Hp.ldSl H80 p113.1 p113.2).bind fun s114=>(bif (decide (fN < (s114.n:Int))) then ((Sl.idx iE dO 1).bind fun p115=>(Hp.ldSl H80 p115.1 p115.2).bind fun s116=>(Sl.idx s116 fN 1).bind fun p117=>(Hp.ldI H80 .i64 p117.1 p117.2).bind fun n118=>(Sl.idx iD n118 1).bind fun p119=>(Hp.st H80 p119.1 p119.2 (.int .i64 dO)).bind fun H120=>aw.l981 F aE C61_ We iD iE dO (IntKind.i64.wrap (fN + 1)) H120) else (aw.j4 F aE C61_ iD iE dO H80))
termination_by structural n=>n
noncomputable def aw.l61 (F:Nat) (aE:Sl→Int→Hp→OA) :Nat→Sl→Sl→Int→Hp→OA
 | 0,_,_,_,_=>none
 | bJ + 1,cU,jU,gC,H18=>(bif (decide (gC < (jU.n:Int))) then (aw.l981 F aE (aw.l61 F aE bJ) F cU jU gC 0 H18) else (some ((.sl cU),H18)))
termination_by structural n=>n
noncomputable def aw.twX (F:Nat) (aE:Sl→Int→Hp→OA) (aa:Sl) (ab:Int) (H:Hp):OA:=(Hp.new H [(.sl aa),(.int .i64 ab)]).bind fun H3=>(Hp.ldSl H3 H.length 0).bind fun s4=>(Hp.mk H3 [.int .i64 0] 8 (IntKind.i64.wrap (4 * (s4.n:Int))) (IntKind.i64.wrap (4 * (s4.n:Int)))).bind fun m5=>(Hp.ldSl m5.2 H.length 0).bind fun s6=>(Hp.ldI m5.2 .i64 H.length (0 + 1)).bind fun n7=>(aE s6 n7 m5.2).bind fun r8=>((r8.1).asSl).bind fun s9=>aw.l61 F aE F m5.1 s9 0 r8.2
noncomputable def aw.tw (F:Nat) (aa:Sl) (ab:Int) (H:Hp):OA:=aw.twX F (ao.tw F) aa ab H
noncomputable def aw.code:Go.Code:=(Try.f67.body).getD .skip
noncomputable def aw.lh61 (F:Nat) (aE:Sl→Int→Hp→OA) (ks:List Nat) (n:Nat) (tm:Tm) (H:Hp):OA:=match ks,tm 3,tm 4,tm 5 with
 | [],(.sl cU),(.sl jU),(.int .i64 gC)=>aw.l61 F aE n cU jU gC H
 | _,_,_,_=>none
theorem aw.lh61_inv {F:Nat} {aE:Sl→Int→Hp→OA} {ks:List Nat} {n:Nat} {tm:Tm} {H:Hp} {r:AV×Hp} (h:aw.lh61 F aE ks n tm H = some r):∃ cU:Sl,∃ jU:Sl,∃ gC:Int,ks = []∧tm 3 = (.sl cU)∧tm 4 = (.sl jU)∧tm 5 = (.int .i64 gC)∧aw.l61 F aE n cU jU gC H = some r:=by
 unfold aw.lh61 at h
 split at h
 ·exact ⟨_,_,_,rfl,by assumption,by assumption,by assumption,h⟩
 ·cases h
noncomputable def aw.lh981 (F:Nat) (aE:Sl→Int→Hp→OA) (ks:List Nat) (n:Nat) (tm:Tm) (H:Hp):OA:=match ks,tm 3,tm 4,tm 5,tm 6 with
 | [bJ],(.sl iD),(.sl iE),(.int .i64 dO),(.int .i64 fN)=>aw.l981 F aE (aw.l61 F aE bJ) n iD iE dO fN H
 | _,_,_,_,_=>none
theorem aw.lh981_inv {F:Nat} {aE:Sl→Int→Hp→OA} {ks:List Nat} {n:Nat} {tm:Tm} {H:Hp} {r:AV×Hp} (h:aw.lh981 F aE ks n tm H = some r):∃ bJ:Nat,∃ iD:Sl,∃ iE:Sl,∃ dO:Int,∃ fN:Int,ks = [bJ]∧tm 3 = (.sl iD)∧tm 4 = (.sl iE)∧tm 5 = (.int .i64 dO)∧tm 6 = (.int .i64 fN)∧aw.l981 F aE (aw.l61 F aE bJ) n iD iE dO fN H = some r:=by
 unfold aw.lh981 at h
 split at h
 ·exact ⟨_,_,_,_,_,rfl,by assumption,by assumption,by assumption,by assumption,h⟩
 ·cases h
noncomputable def aw.lh (F:Nat) (aE:Sl→Int→Hp→OA) (p:Nat) (ks:List Nat) (n:Nat) (tm:Tm) (H:Hp):OA:=bif p.beq 981 then aw.lh981 F aE ks n tm H else (bif p.beq 61 then aw.lh61 F aE ks n tm H else (none))
def aw.pn:Nat→List Nat:=fun i=>(([]:List (Nat×List Nat)).lookup i).getD []
def aw.tb:Nat→List (List Nat):=fun i=>(([]:List (Nat×List (List Nat))).lookup i).getD []
noncomputable def aw.mk (g:Sl→Int→Hp→OA) (args:List AV) (H:Hp):OA:=match args with
 | [(.agg [(.sl aa),(.int .i64 ab)])]=>g aa ab H
 | _=>none
noncomputable def aw.cs (F:Nat) (aE:Sl→Int→Hp→OA):List (FuncId×(List AV→Hp→OA)):=[(105,ao.mk aE)]
theorem aw.loops (F:Nat) (aE:Sl→Int→Hp→OA):LoopsOk tabs (mkOrc (aw.cs F aE)) aw.pn (aw.lh F aE) F [] 1 aw.code (fun tm H=>aresults tabs.ty H tm Try.f67.results.toList fun v=>some (v,H)) (fun _ _ _=>none) (fun tm H=>aresults tabs.ty H tm Try.f67.results.toList fun v=>some (v,H)):=by
 refine LoopsOk.seq ?_ ?_
 ·exact loops_none (by kernel_rfl)
 ·refine LoopsOk.seq ?_ ?_
  ·exact loops_none (by kernel_rfl)
  ·refine LoopsOk.seq ?_ ?_
   ·exact loops_none (by kernel_rfl)
   ·refine LoopsOk.seq ?_ ?_
    ·refine LoopsOk.seq ?_ ?_
     ·exact loops_none (by kernel_rfl)
     ·refine LoopsOk.block ?_
      refine LoopsOk.loop (fun tm H=>?_) (fun k61 tm H r h0=>?_) (fun k61=>?_)
      ·refine none_of fun r h0=>?_
       obtain ⟨cU,jU,gC,hks,e3,e4,e5,h⟩:=aw.lh61_inv (show aw.lh61 F aE [] 0 tm H = some r from h0)
       cases h
      ·obtain ⟨cU,jU,gC,hks,e3,e4,e5,h⟩:=aw.lh61_inv (show aw.lh61 F aE [] (k61 + 1) tm H = some r from h0)
       have q0:(Tm.put tm 3 (.sl cU)) = tm:=by exact Tm.put_same e3
       have q1:(Tm.put (Tm.put tm 3 (.sl cU)) 4 (.sl jU)) = tm:=by rw [q0]; exact Tm.put_same e4
       have q2:(Tm.put (Tm.put (Tm.put tm 3 (.sl cU)) 4 (.sl jU)) 5 (.int .i64 gC)) = tm:=by rw [q1]; exact Tm.put_same e5
       rw [← q2]
       exact Eq.trans (by kernel_rfl) h
      ·refine LoopsOk.seq ?_ ?_
       ·exact loops_none (by kernel_rfl)
       ·refine LoopsOk.seq ?_ ?_
        ·refine LoopsOk.block ?_
         refine LoopsOk.seq ?_ ?_
         ·exact loops_none (by kernel_rfl)
         ·refine LoopsOk.block ?_
          refine LoopsOk.loop (fun tm H=>?_) (fun k981 tm H r h0=>?_) (fun k981=>?_)
          ·refine none_of fun r h0=>?_
           obtain ⟨bJ,iD,iE,dO,fN,hks,e3,e4,e5,e6,h⟩:=aw.lh981_inv (show aw.lh981 F aE [k61] 0 tm H = some r from h0)
           cases h
          ·obtain ⟨bJ,iD,iE,dO,fN,hks,e3,e4,e5,e6,h⟩:=aw.lh981_inv (show aw.lh981 F aE [k61] (k981 + 1) tm H = some r from h0)
           obtain rfl:bJ = k61:=by simpa [eq_comm] using hks
           have q0:(Tm.put tm 3 (.sl iD)) = tm:=by exact Tm.put_same e3
           have q1:(Tm.put (Tm.put tm 3 (.sl iD)) 4 (.sl iE)) = tm:=by rw [q0]; exact Tm.put_same e4
           have q2:(Tm.put (Tm.put (Tm.put tm 3 (.sl iD)) 4 (.sl iE)) 5 (.int .i64 dO)) = tm:=by rw [q1]; exact Tm.put_same e5
           have q3:(Tm.put (Tm.put (Tm.put (Tm.put tm 3 (.sl iD)) 4 (.sl iE)) 5 (.int .i64 dO)) 6 (.int .i64 fN)) = tm:=by rw [q2]; exact Tm.put_same e6
           rw [← q3]
           exact Eq.trans (by kernel_rfl) h
          ·exact loops_none (by kernel_rfl)
        ·exact loops_none (by kernel_rfl)
    ·exact loops_none (by kernel_rfl)
theorem aw.eqX (F:Nat) (aE:Sl→Int→Hp→OA) (aa:Sl) (ab:Int) (H:Hp):aCode tabs (mkOrc (aw.cs F aE)) aw.pn (aw.lh F aE) F [] 1 aw.code (argTm [(.agg [(.sl aa),(.int .i64 ab)])]) H (fun tm H=>aresults tabs.ty H tm Try.f67.results.toList fun v=>some (v,H)) (fun _ _ _=>none) (fun tm H=>aresults tabs.ty H tm Try.f67.results.toList fun v=>some (v,H)) = aw.twX F aE aa ab H:=by kernel_rfl
theorem aw.cs_ok (F:Nat):∀ p ∈ aw.cs F (ao.tw F),∀ args H v H',p.2 args H = some (v,H')→Go.AE.T Try.prog p.1 args H v H':=by
 intro p hp
 simp only [aw.cs,List.mem_cons,List.not_mem_nil,or_false] at hp
 subst hp
 exact fun args H v H' h=>ao.mk_T h
theorem aw.ok:codeOk aw.pn Try.f67.ntmps aw.tb aw.code = true:=by kernel_rfl
theorem aw.T {F:Nat} {aa:Sl} {ab:Int} {H:Hp} {v:AV} {H':Hp} (h:aw.tw F aa ab H = some (v,H')):Go.AE.T Try.prog 67 [(.agg [(.sl aa),(.int .i64 ab)])] H v H':=
 Go.AE.T.of (Y:=tabs) (C:=mkOrc (aw.cs F (ao.tw F))) (PN:=aw.pn) (LH:=aw.lh F (ao.tw F)) (F:=F) (TB:=aw.tb) (fn:=Try.f67) (code:=aw.code) mixed tabs_ok (mkOrc_ok (aw.cs_ok F)) Try.func67 (by kernel_rfl) (by kernel_rfl) aw.ok (Nat.le_of_ble_eq_true (by kernel_rfl)) (aw.loops F (ao.tw F)) (Eq.trans (aw.eqX F (ao.tw F) aa ab H) h)
theorem aw.mk_T {F:Nat} {args:List AV} {H:Hp} {v:AV} {H':Hp} (h:aw.mk (aw.tw F) args H = some (v,H')):Go.AE.T Try.prog 67 args H v H':=by
 unfold aw.mk at h
 split at h
 ·exact aw.T h
 ·cases h
noncomputable def ac.j20 (F:Nat) (aD:Sl→Int→Hp→OA) (aL:Sl→Int→Hp→OA) (aE:Sl→Int→Hp→OA) (C509_:Sl→Sl→Bool→Hp→OA) (Wf:Sl) (Wg:Sl) (ot:Bool) (H630:Hp):OA:=C509_ Wf Wg ot H630
noncomputable def ac.j21 (F:Nat) (aD:Sl→Int→Hp→OA) (aL:Sl→Int→Hp→OA) (aE:Sl→Int→Hp→OA) (C509_:Sl→Sl→Bool→Hp→OA) (Wh:Sl) (Wi:Sl) (ou:Bool) (H613:Hp):OA:=ac.j20 F aD aL aE C509_ Wh Wi ou H613
noncomputable def ac.j22 (F:Nat) (aD:Sl→Int→Hp→OA) (aL:Sl→Int→Hp→OA) (aE:Sl→Int→Hp→OA) (C8151_:Sl→Sl→Bool→Int→Hp→OA) (Wj:Sl) (Wk:Sl) (ov:Bool) (ox:Int) (H696:Hp):OA:=C8151_ Wj Wk ov (IntKind.i64.wrap (ox + 1)) H696
noncomputable def ac.j23 (F:Nat) (aD:Sl→Int→Hp→OA) (aL:Sl→Int→Hp→OA) (aE:Sl→Int→Hp→OA) (C8151_:Sl→Sl→Bool→Int→Hp→OA) (Wl:Sl) (Wm:Sl) (oy:Bool) (oz:Int) (H716:Hp):OA:=C8151_ Wl Wm oy (IntKind.i64.wrap (oz + 1)) H716
noncomputable def ac.j24 (F:Nat) (aD:Sl→Int→Hp→OA) (aL:Sl→Int→Hp→OA) (aE:Sl→Int→Hp→OA) (C8151_:Sl→Sl→Bool→Int→Hp→OA) (qo:Sl) (nx:Sl) (mq:Bool) (iF:Int) (mr:Int) (H663:Hp):OA:=(Sl.idx nx mr 1).bind fun p664=>(Hp.ldI H663 .i64 p664.1 p664.2).bind fun n665=>(bif (decide (n665 ≥ 0)) then ((Sl.idx qo iF 1).bind fun p666=>(Hp.ldI H663 .i64 p666.1 p666.2).bind fun n667=>(Sl.idx nx n667 1).bind fun p668=>(Hp.ldI H663 .i64 p668.1 p668.2).bind fun n669=>(bif (decide (n669 < 0)) then ((Sl.idx qo iF 1).bind fun p670=>(Hp.ldI H663 .i64 p670.1 p670.2).bind fun n671=>(Sl.idx nx mr 1).bind fun p672=>(Hp.ldI H663 .i64 p672.1 p672.2).bind fun n673=>(Sl.idx nx n671 1).bind fun p674=>(Hp.st H663 p674.1 p674.2 (.int .i64 (IntKind.i64.wrap (1 - n673)))).bind fun H675=>ac.j22 F aD aL aE C8151_ qo nx true iF H675) else (ac.j23 F aD aL aE C8151_ qo nx mq iF H663))) else (C8151_ qo nx mq (IntKind.i64.wrap (iF + 1)) H663))
noncomputable def ac.j25 (F:Nat) (aD:Sl→Int→Hp→OA) (aL:Sl→Int→Hp→OA) (aE:Sl→Int→Hp→OA) (C8151_:Sl→Sl→Bool→Int→Hp→OA) (Wn:Sl) (Wo:Sl) (oA:Bool) (oB:Int) (H749:Hp):OA:=C8151_ Wn Wo oA (IntKind.i64.wrap (oB + 1)) H749
noncomputable def ac.j26 (F:Nat) (aD:Sl→Int→Hp→OA) (aL:Sl→Int→Hp→OA) (aE:Sl→Int→Hp→OA) (C8151_:Sl→Sl→Bool→Int→Hp→OA) (Wp:Sl) (Wq:Sl) (oC:Bool) (oD:Int) (H769:Hp):OA:=C8151_ Wp Wq oC (IntKind.i64.wrap (oD + 1)) H769
noncomputable def ac.l8151 (F:Nat) (aD:Sl→Int→Hp→OA) (aL:Sl→Int→Hp→OA) (aE:Sl→Int→Hp→OA) (C509_:Sl→Sl→Bool→Hp→OA):Nat→Sl→Sl→Bool→Int→Hp→OA
 | 0,_,_,_,_,_=>none
 | qp + 1,ep,dX,es,cG,H457=>(bif (decide (cG < (ep.n:Int))) then ((Sl.idx ep (IntKind.i64.wrap ((IntKind.i64.wrap ((IntKind.i64.wrap (Int.tdiv cG 4)) * 4)) + (Int.tmod (IntKind.i64.wrap (cG + 1)) 4))) 1).bind fun p631=>(Hp.ldI H457 .i64 p631.1 p631.2).bind fun n632=>(Sl.idx ep cG 1).bind fun p633=>(Hp.ldI H457 .i64 p633.1 p633.2).bind fun n634=>(Sl.idx dX n634 1).bind fun p635=>(Hp.ldI H457 .i64 p635.1 p635.2).bind fun n636=>(bif (decide (n636 ≥ 0)) then ((Sl.idx dX n632 1).bind fun p637=>(Hp.ldI H457 .i64 p637.1 p637.2).bind fun n638=>(bif (decide (n638 < 0)) then ((Sl.idx ep cG 1).bind fun p639=>(Hp.ldI H457 .i64 p639.1 p639.2).bind fun n640=>(Sl.idx dX n640 1).bind fun p641=>(Hp.ldI H457 .i64 p641.1 p641.2).bind fun n642=>(Sl.idx dX n632 1).bind fun p643=>(Hp.st H457 p643.1 p643.2 (.int .i64 (IntKind.i64.wrap (1 - n642)))).bind fun H644=>ac.j24 F aD aL aE (ac.l8151 F aD aL aE C509_ qp) ep dX true cG n632 H644) else (ac.j24 F aD aL aE (ac.l8151 F aD aL aE C509_ qp) ep dX es cG n632 H457))) else ((Sl.idx dX n632 1).bind fun p717=>(Hp.ldI H457 .i64 p717.1 p717.2).bind fun n718=>(bif (decide (n718 ≥ 0)) then ((Sl.idx ep cG 1).bind fun p719=>(Hp.ldI H457 .i64 p719.1 p719.2).bind fun n720=>(Sl.idx dX n720 1).bind fun p721=>(Hp.ldI H457 .i64 p721.1 p721.2).bind fun n722=>(bif (decide (n722 < 0)) then ((Sl.idx ep cG 1).bind fun p723=>(Hp.ldI H457 .i64 p723.1 p723.2).bind fun n724=>(Sl.idx dX n632 1).bind fun p725=>(Hp.ldI H457 .i64 p725.1 p725.2).bind fun n726=>(Sl.idx dX n724 1).bind fun p727=>(Hp.st H457 p727.1 p727.2 (.int .i64 (IntKind.i64.wrap (1 - n726)))).bind fun H728=>ac.j25 F aD aL aE (ac.l8151 F aD aL aE C509_ qp) ep dX true cG H728) else (ac.j26 F aD aL aE (ac.l8151 F aD aL aE C509_ qp) ep dX es cG H457))) else (ac.l8151 F aD aL aE C509_ qp ep dX es (IntKind.i64.wrap (cG + 1)) H457))))) else (ac.j21 F aD aL aE C509_ ep dX es H457))
termination_by structural n=>n
noncomputable def ac.l509 (F:Nat) (aD:Sl→Int→Hp→OA) (aL:Sl→Int→Hp→OA) (aE:Sl→Int→Hp→OA) :Nat→Sl→Sl→Bool→Hp→OA
 | 0,_,_,_,_=>none
 | cS + 1,jV,jW,hX,H113=>(bif hX then (ac.l8151 F aD aL aE (ac.l509 F aD aL aE cS) F jV jW false 0 H113) else (some ((.sl jW),H113)))
termination_by structural n=>n
noncomputable def ac.j27 (F:Nat) (aD:Sl→Int→Hp→OA) (aL:Sl→Int→Hp→OA) (aE:Sl→Int→Hp→OA) (Wr:Sl) (Ws:Sl) (H99:Hp):OA:=ac.l509 F aD aL aE F Wr Ws true H99
noncomputable def ac.j28 (F:Nat) (aD:Sl→Int→Hp→OA) (aL:Sl→Int→Hp→OA) (aE:Sl→Int→Hp→OA) (C253_:Sl→Sl→Sl→Int→Hp→OA) (Wt:Sl) (Wu:Sl) (Wv:Sl) (oE:Int) (H790:Hp):OA:=C253_ Wt Wu Wv (IntKind.i64.wrap (oE + 1)) H790
noncomputable def ac.j29 (F:Nat) (aD:Sl→Int→Hp→OA) (aL:Sl→Int→Hp→OA) (aE:Sl→Int→Hp→OA) (C253_:Sl→Sl→Sl→Int→Hp→OA) (Ww:Sl) (Wx:Sl) (Wy:Sl) (oF:Int) (H804:Hp):OA:=C253_ Ww Wx Wy (IntKind.i64.wrap (oF + 1)) H804
noncomputable def ac.l253 (F:Nat) (aD:Sl→Int→Hp→OA) (aL:Sl→Int→Hp→OA) (aE:Sl→Int→Hp→OA) :Nat→Sl→Sl→Sl→Int→Hp→OA
 | 0,_,_,_,_,_=>none
 | qq + 1,ip,iG,iZ,dG,H51=>(bif (decide (dG < (iG.n:Int))) then ((Sl.idx iG dG 1).bind fun p770=>(Hp.ldI H51 .i64 p770.1 p770.2).bind fun n771=>(bif (n771 == dG) then ((Sl.idx ip (IntKind.i64.wrap (4 * dG)) 1).bind fun p772=>(Hp.ldI H51 .i64 p772.1 p772.2).bind fun n773=>(Sl.idx iZ n773 1).bind fun p774=>(Hp.st H51 p774.1 p774.2 (.int .i64 0)).bind fun H775=>ac.j28 F aD aL aE (ac.l253 F aD aL aE qq) ip iG iZ dG H775) else (ac.j29 F aD aL aE (ac.l253 F aD aL aE qq) ip iG iZ dG H51))) else (ac.j27 F aD aL aE ip iZ H51))
termination_by structural n=>n
noncomputable def ac.j30 (F:Nat) (aD:Sl→Int→Hp→OA) (aL:Sl→Int→Hp→OA) (aE:Sl→Int→Hp→OA) (Wz:Sl) (WA:Sl) (WB:Sl) (H39:Hp):OA:=ac.l253 F aD aL aE F Wz WA WB 0 H39
noncomputable def ac.l125 (F:Nat) (aD:Sl→Int→Hp→OA) (aL:Sl→Int→Hp→OA) (aE:Sl→Int→Hp→OA) :Nat→Sl→Sl→Sl→Int→Hp→OA
 | 0,_,_,_,_,_=>none
 | ny + 1,i_,jx,cv,fO,H26=>(bif (decide (fO < (cv.n:Int))) then ((Sl.idx cv fO 1).bind fun p805=>(Hp.st H26 p805.1 p805.2 (.int .i64 (-1))).bind fun H806=>ac.l125 F aD aL aE ny i_ jx cv (IntKind.i64.wrap (fO + 1)) H806) else (ac.j30 F aD aL aE i_ jx cv H26))
termination_by structural n=>n
noncomputable def ac.twX (F:Nat) (aD:Sl→Int→Hp→OA) (aL:Sl→Int→Hp→OA) (aE:Sl→Int→Hp→OA) (aa:Sl) (ab:Int) (H:Hp):OA:=(Hp.new H [(.sl aa),(.int .i64 ab)]).bind fun H3=>(Hp.ldSl H3 H.length 0).bind fun s4=>(Hp.ldI H3 .i64 H.length (0 + 1)).bind fun n5=>(aD s4 n5 H3).bind fun r6=>((r6.1).asSl).bind fun s7=>(Hp.ldSl r6.2 H.length 0).bind fun s8=>(Hp.ldI r6.2 .i64 H.length (0 + 1)).bind fun n9=>(aL s8 n9 r6.2).bind fun r10=>((r10.1).asSl).bind fun s11=>(Hp.ldSl r10.2 H.length 0).bind fun s12=>(Hp.ldI r10.2 .i64 H.length (0 + 1)).bind fun n13=>(aE s12 n13 r10.2).bind fun r14=>((r14.1).asSl).bind fun s15=>(Hp.mk r14.2 [.int .i64 0] 8 (s15.n:Int) (s15.n:Int)).bind fun m16=>ac.l125 F aD aL aE F s7 s11 m16.1 0 m16.2
noncomputable def ac.tw (F:Nat) (aa:Sl) (ab:Int) (H:Hp):OA:=ac.twX F (aw.tw F) (ak.tw F) (ao.tw F) aa ab H
noncomputable def ac.code:Go.Code:=(Try.f68.body).getD .skip
noncomputable def ac.lh125 (F:Nat) (aD:Sl→Int→Hp→OA) (aL:Sl→Int→Hp→OA) (aE:Sl→Int→Hp→OA) (ks:List Nat) (n:Nat) (tm:Tm) (H:Hp):OA:=match ks,tm 3,tm 4,tm 5,tm 6 with
 | [],(.sl i_),(.sl jx),(.sl cv),(.int .i64 fO)=>ac.l125 F aD aL aE n i_ jx cv fO H
 | _,_,_,_,_=>none
theorem ac.lh125_inv {F:Nat} {aD:Sl→Int→Hp→OA} {aL:Sl→Int→Hp→OA} {aE:Sl→Int→Hp→OA} {ks:List Nat} {n:Nat} {tm:Tm} {H:Hp} {r:AV×Hp} (h:ac.lh125 F aD aL aE ks n tm H = some r):∃ i_:Sl,∃ jx:Sl,∃ cv:Sl,∃ fO:Int,ks = []∧tm 3 = (.sl i_)∧tm 4 = (.sl jx)∧tm 5 = (.sl cv)∧tm 6 = (.int .i64 fO)∧ac.l125 F aD aL aE n i_ jx cv fO H = some r:=by
 unfold ac.lh125 at h
 split at h
 ·exact ⟨_,_,_,_,rfl,by assumption,by assumption,by assumption,by assumption,h⟩
 ·cases h
noncomputable def ac.lh253 (F:Nat) (aD:Sl→Int→Hp→OA) (aL:Sl→Int→Hp→OA) (aE:Sl→Int→Hp→OA) (ks:List Nat) (n:Nat) (tm:Tm) (H:Hp):OA:=match ks,tm 3,tm 4,tm 5,tm 7 with
 | [],(.sl ip),(.sl iG),(.sl iZ),(.int .i64 dG)=>ac.l253 F aD aL aE n ip iG iZ dG H
 | _,_,_,_,_=>none
theorem ac.lh253_inv {F:Nat} {aD:Sl→Int→Hp→OA} {aL:Sl→Int→Hp→OA} {aE:Sl→Int→Hp→OA} {ks:List Nat} {n:Nat} {tm:Tm} {H:Hp} {r:AV×Hp} (h:ac.lh253 F aD aL aE ks n tm H = some r):∃ ip:Sl,∃ iG:Sl,∃ iZ:Sl,∃ dG:Int,ks = []∧tm 3 = (.sl ip)∧tm 4 = (.sl iG)∧tm 5 = (.sl iZ)∧tm 7 = (.int .i64 dG)∧ac.l253 F aD aL aE n ip iG iZ dG H = some r:=by
 unfold ac.lh253 at h
 split at h
 ·exact ⟨_,_,_,_,rfl,by assumption,by assumption,by assumption,by assumption,h⟩
 ·cases h
noncomputable def ac.lh509 (F:Nat) (aD:Sl→Int→Hp→OA) (aL:Sl→Int→Hp→OA) (aE:Sl→Int→Hp→OA) (ks:List Nat) (n:Nat) (tm:Tm) (H:Hp):OA:=match ks,tm 3,tm 5,tm 9 with
 | [],(.sl jV),(.sl jW),(.bool hX)=>ac.l509 F aD aL aE n jV jW hX H
 | _,_,_,_=>none
theorem ac.lh509_inv {F:Nat} {aD:Sl→Int→Hp→OA} {aL:Sl→Int→Hp→OA} {aE:Sl→Int→Hp→OA} {ks:List Nat} {n:Nat} {tm:Tm} {H:Hp} {r:AV×Hp} (h:ac.lh509 F aD aL aE ks n tm H = some r):∃ jV:Sl,∃ jW:Sl,∃ hX:Bool,ks = []∧tm 3 = (.sl jV)∧tm 5 = (.sl jW)∧tm 9 = (.bool hX)∧ac.l509 F aD aL aE n jV jW hX H = some r:=by
 unfold ac.lh509 at h
 split at h
 ·exact ⟨_,_,_,rfl,by assumption,by assumption,by assumption,h⟩
 ·cases h
noncomputable def ac.lh8151 (F:Nat) (aD:Sl→Int→Hp→OA) (aL:Sl→Int→Hp→OA) (aE:Sl→Int→Hp→OA) (ks:List Nat) (n:Nat) (tm:Tm) (H:Hp):OA:=match ks,tm 3,tm 5,tm 9,tm 10 with
 | [cS],(.sl ep),(.sl dX),(.bool es),(.int .i64 cG)=>ac.l8151 F aD aL aE (ac.l509 F aD aL aE cS) n ep dX es cG H
 | _,_,_,_,_=>none
theorem ac.lh8151_inv {F:Nat} {aD:Sl→Int→Hp→OA} {aL:Sl→Int→Hp→OA} {aE:Sl→Int→Hp→OA} {ks:List Nat} {n:Nat} {tm:Tm} {H:Hp} {r:AV×Hp} (h:ac.lh8151 F aD aL aE ks n tm H = some r):∃ cS:Nat,∃ ep:Sl,∃ dX:Sl,∃ es:Bool,∃ cG:Int,ks = [cS]∧tm 3 = (.sl ep)∧tm 5 = (.sl dX)∧tm 9 = (.bool es)∧tm 10 = (.int .i64 cG)∧ac.l8151 F aD aL aE (ac.l509 F aD aL aE cS) n ep dX es cG H = some r:=by
 unfold ac.lh8151 at h
 split at h
 ·exact ⟨_,_,_,_,_,rfl,by assumption,by assumption,by assumption,by assumption,h⟩
 ·cases h
noncomputable def ac.lh (F:Nat) (aD:Sl→Int→Hp→OA) (aL:Sl→Int→Hp→OA) (aE:Sl→Int→Hp→OA) (p:Nat) (ks:List Nat) (n:Nat) (tm:Tm) (H:Hp):OA:=bif p.beq 8151 then ac.lh8151 F aD aL aE ks n tm H else (bif p.beq 509 then ac.lh509 F aD aL aE ks n tm H else (bif p.beq 253 then ac.lh253 F aD aL aE ks n tm H else (bif p.beq 125 then ac.lh125 F aD aL aE ks n tm H else (none))))
def ac.pn:Nat→List Nat:=fun i=>(([]:List (Nat×List Nat)).lookup i).getD []
def ac.tb:Nat→List (List Nat):=fun i=>(([]:List (Nat×List (List Nat))).lookup i).getD []
noncomputable def ac.mk (g:Sl→Int→Hp→OA) (args:List AV) (H:Hp):OA:=match args with
 | [(.agg [(.sl aa),(.int .i64 ab)])]=>g aa ab H
 | _=>none
noncomputable def ac.cs (F:Nat) (aD:Sl→Int→Hp→OA) (aL:Sl→Int→Hp→OA) (aE:Sl→Int→Hp→OA):List (FuncId×(List AV→Hp→OA)):=[(67,aw.mk aD),(122,ak.mk aL),(105,ao.mk aE)]
theorem ac.loops (F:Nat) (aD:Sl→Int→Hp→OA) (aL:Sl→Int→Hp→OA) (aE:Sl→Int→Hp→OA):LoopsOk tabs (mkOrc (ac.cs F aD aL aE)) ac.pn (ac.lh F aD aL aE) F [] 1 ac.code (fun tm H=>aresults tabs.ty H tm Try.f68.results.toList fun v=>some (v,H)) (fun _ _ _=>none) (fun tm H=>aresults tabs.ty H tm Try.f68.results.toList fun v=>some (v,H)):=by
 refine LoopsOk.seq ?_ ?_
 ·exact loops_none (by kernel_rfl)
 ·refine LoopsOk.seq ?_ ?_
  ·exact loops_none (by kernel_rfl)
  ·refine LoopsOk.seq ?_ ?_
   ·exact loops_none (by kernel_rfl)
   ·refine LoopsOk.seq ?_ ?_
    ·exact loops_none (by kernel_rfl)
    ·refine LoopsOk.seq ?_ ?_
     ·refine LoopsOk.seq ?_ ?_
      ·exact loops_none (by kernel_rfl)
      ·refine LoopsOk.block ?_
       refine LoopsOk.loop (fun tm H=>?_) (fun k125 tm H r h0=>?_) (fun k125=>?_)
       ·refine none_of fun r h0=>?_
        obtain ⟨i_,jx,cv,fO,hks,e3,e4,e5,e6,h⟩:=ac.lh125_inv (show ac.lh125 F aD aL aE [] 0 tm H = some r from h0)
        cases h
       ·obtain ⟨i_,jx,cv,fO,hks,e3,e4,e5,e6,h⟩:=ac.lh125_inv (show ac.lh125 F aD aL aE [] (k125 + 1) tm H = some r from h0)
        have q0:(Tm.put tm 3 (.sl i_)) = tm:=by exact Tm.put_same e3
        have q1:(Tm.put (Tm.put tm 3 (.sl i_)) 4 (.sl jx)) = tm:=by rw [q0]; exact Tm.put_same e4
        have q2:(Tm.put (Tm.put (Tm.put tm 3 (.sl i_)) 4 (.sl jx)) 5 (.sl cv)) = tm:=by rw [q1]; exact Tm.put_same e5
        have q3:(Tm.put (Tm.put (Tm.put (Tm.put tm 3 (.sl i_)) 4 (.sl jx)) 5 (.sl cv)) 6 (.int .i64 fO)) = tm:=by rw [q2]; exact Tm.put_same e6
        rw [← q3]
        exact Eq.trans (by kernel_rfl) h
       ·exact loops_none (by kernel_rfl)
     ·refine LoopsOk.seq ?_ ?_
      ·refine LoopsOk.seq ?_ ?_
       ·exact loops_none (by kernel_rfl)
       ·refine LoopsOk.block ?_
        refine LoopsOk.loop (fun tm H=>?_) (fun k253 tm H r h0=>?_) (fun k253=>?_)
        ·refine none_of fun r h0=>?_
         obtain ⟨ip,iG,iZ,dG,hks,e3,e4,e5,e7,h⟩:=ac.lh253_inv (show ac.lh253 F aD aL aE [] 0 tm H = some r from h0)
         cases h
        ·obtain ⟨ip,iG,iZ,dG,hks,e3,e4,e5,e7,h⟩:=ac.lh253_inv (show ac.lh253 F aD aL aE [] (k253 + 1) tm H = some r from h0)
         have q0:(Tm.put tm 3 (.sl ip)) = tm:=by exact Tm.put_same e3
         have q1:(Tm.put (Tm.put tm 3 (.sl ip)) 4 (.sl iG)) = tm:=by rw [q0]; exact Tm.put_same e4
         have q2:(Tm.put (Tm.put (Tm.put tm 3 (.sl ip)) 4 (.sl iG)) 5 (.sl iZ)) = tm:=by rw [q1]; exact Tm.put_same e5
         have q3:(Tm.put (Tm.put (Tm.put (Tm.put tm 3 (.sl ip)) 4 (.sl iG)) 5 (.sl iZ)) 7 (.int .i64 dG)) = tm:=by rw [q2]; exact Tm.put_same e7
         rw [← q3]
         exact Eq.trans (by kernel_rfl) h
        ·exact loops_none (by kernel_rfl)
      ·refine LoopsOk.seq ?_ ?_
       ·refine LoopsOk.seq ?_ ?_
        ·exact loops_none (by kernel_rfl)
        ·refine LoopsOk.block ?_
         refine LoopsOk.loop (fun tm H=>?_) (fun k509 tm H r h0=>?_) (fun k509=>?_)
         ·refine none_of fun r h0=>?_
          obtain ⟨jV,jW,hX,hks,e3,e5,e9,h⟩:=ac.lh509_inv (show ac.lh509 F aD aL aE [] 0 tm H = some r from h0)
          cases h
         ·obtain ⟨jV,jW,hX,hks,e3,e5,e9,h⟩:=ac.lh509_inv (show ac.lh509 F aD aL aE [] (k509 + 1) tm H = some r from h0)
          have q0:(Tm.put tm 3 (.sl jV)) = tm:=by exact Tm.put_same e3
          have q1:(Tm.put (Tm.put tm 3 (.sl jV)) 5 (.sl jW)) = tm:=by rw [q0]; exact Tm.put_same e5
          have q2:(Tm.put (Tm.put (Tm.put tm 3 (.sl jV)) 5 (.sl jW)) 9 (.bool hX)) = tm:=by rw [q1]; exact Tm.put_same e9
          rw [← q2]
          exact Eq.trans (by kernel_rfl) h
         ·refine LoopsOk.seq ?_ ?_
          ·exact loops_none (by kernel_rfl)
          ·refine LoopsOk.block ?_
           refine LoopsOk.seq ?_ ?_
           ·exact loops_none (by kernel_rfl)
           ·refine LoopsOk.seq ?_ ?_
            ·exact loops_none (by kernel_rfl)
            ·refine LoopsOk.block ?_
             refine LoopsOk.loop (fun tm H=>?_) (fun k8151 tm H r h0=>?_) (fun k8151=>?_)
             ·refine none_of fun r h0=>?_
              obtain ⟨cS,ep,dX,es,cG,hks,e3,e5,e9,e10,h⟩:=ac.lh8151_inv (show ac.lh8151 F aD aL aE [k509] 0 tm H = some r from h0)
              cases h
             ·obtain ⟨cS,ep,dX,es,cG,hks,e3,e5,e9,e10,h⟩:=ac.lh8151_inv (show ac.lh8151 F aD aL aE [k509] (k8151 + 1) tm H = some r from h0)
              obtain rfl:cS = k509:=by simpa [eq_comm] using hks
              have q0:(Tm.put tm 3 (.sl ep)) = tm:=by exact Tm.put_same e3
              have q1:(Tm.put (Tm.put tm 3 (.sl ep)) 5 (.sl dX)) = tm:=by rw [q0]; exact Tm.put_same e5
              have q2:(Tm.put (Tm.put (Tm.put tm 3 (.sl ep)) 5 (.sl dX)) 9 (.bool es)) = tm:=by rw [q1]; exact Tm.put_same e9
              have q3:(Tm.put (Tm.put (Tm.put (Tm.put tm 3 (.sl ep)) 5 (.sl dX)) 9 (.bool es)) 10 (.int .i64 cG)) = tm:=by rw [q2]; exact Tm.put_same e10
              rw [← q3]
              exact Eq.trans (by kernel_rfl) h
             ·exact loops_none (by kernel_rfl)
       ·exact loops_none (by kernel_rfl)
theorem ac.eqX (F:Nat) (aD:Sl→Int→Hp→OA) (aL:Sl→Int→Hp→OA) (aE:Sl→Int→Hp→OA) (aa:Sl) (ab:Int) (H:Hp):aCode tabs (mkOrc (ac.cs F aD aL aE)) ac.pn (ac.lh F aD aL aE) F [] 1 ac.code (argTm [(.agg [(.sl aa),(.int .i64 ab)])]) H (fun tm H=>aresults tabs.ty H tm Try.f68.results.toList fun v=>some (v,H)) (fun _ _ _=>none) (fun tm H=>aresults tabs.ty H tm Try.f68.results.toList fun v=>some (v,H)) = ac.twX F aD aL aE aa ab H:=by kernel_rfl
theorem ac.cs_ok (F:Nat):∀ p ∈ ac.cs F (aw.tw F) (ak.tw F) (ao.tw F),∀ args H v H',p.2 args H = some (v,H')→Go.AE.T Try.prog p.1 args H v H':=by
 intro p hp
 simp only [ac.cs,List.mem_cons,List.not_mem_nil,or_false] at hp
 rcases hp with rfl | rfl | rfl
 ·exact fun args H v H' h=>aw.mk_T h
 ·exact fun args H v H' h=>ak.mk_T h
 ·exact fun args H v H' h=>ao.mk_T h
theorem ac.ok:codeOk ac.pn Try.f68.ntmps ac.tb ac.code = true:=by kernel_rfl
theorem ac.T {F:Nat} {aa:Sl} {ab:Int} {H:Hp} {v:AV} {H':Hp} (h:ac.tw F aa ab H = some (v,H')):Go.AE.T Try.prog 68 [(.agg [(.sl aa),(.int .i64 ab)])] H v H':=
 Go.AE.T.of (Y:=tabs) (C:=mkOrc (ac.cs F (aw.tw F) (ak.tw F) (ao.tw F))) (PN:=ac.pn) (LH:=ac.lh F (aw.tw F) (ak.tw F) (ao.tw F)) (F:=F) (TB:=ac.tb) (fn:=Try.f68) (code:=ac.code) mixed tabs_ok (mkOrc_ok (ac.cs_ok F)) Try.func68 (by kernel_rfl) (by kernel_rfl) ac.ok (Nat.le_of_ble_eq_true (by kernel_rfl)) (ac.loops F (aw.tw F) (ak.tw F) (ao.tw F)) (Eq.trans (ac.eqX F (aw.tw F) (ak.tw F) (ao.tw F) aa ab H) h)
theorem ac.mk_T {F:Nat} {args:List AV} {H:Hp} {v:AV} {H':Hp} (h:ac.mk (ac.tw F) args H = some (v,H')):Go.AE.T Try.prog 68 args H v H':=by
 unfold ac.mk at h
 split at h
 ·exact ac.T h
 ·cases h
noncomputable def bA.twX (F:Nat) (aa:Int) (af:Int) (H:Hp):OA:=(Hp.new H [.int .i64 0,.int .i64 0,.sl ⟨none,0,.ex 0⟩]).bind fun H3=>(Hp.mk H3 [.int .i64 0] 8 (IntKind.i64.wrap (aa * af)) (IntKind.i64.wrap (aa * af))).bind fun m4=>(Hp.st m4.2 H.length 0 (.int .i64 aa)).bind fun H5=>(Hp.st H5 H.length (0 + 1) (.int .i64 af)).bind fun H6=>(Hp.st H6 H.length (0 + 1 + 1) (.sl m4.1)).bind fun H7=>(Hp.ldI H7 .i64 H.length 0).bind fun n8=>(Hp.ldI H7 .i64 H.length (0 + 1)).bind fun n9=>(Hp.ldSl H7 H.length (0 + 2)).bind fun s10=>some ((.agg [(.int .i64 n8),(.int .i64 n9),(.sl s10)]),H7)
noncomputable def bA.tw (F:Nat) (aa:Int) (af:Int) (H:Hp):OA:=bA.twX F aa af H
noncomputable def bA.code:Go.Code:=(Try.f130.body).getD .skip
noncomputable def bA.lh (F:Nat) (p:Nat) (ks:List Nat) (n:Nat) (tm:Tm) (H:Hp):OA:=none
def bA.pn:Nat→List Nat:=fun i=>(([]:List (Nat×List Nat)).lookup i).getD []
def bA.tb:Nat→List (List Nat):=fun i=>(([]:List (Nat×List (List Nat))).lookup i).getD []
noncomputable def bA.mk (g:Int→Int→Hp→OA) (args:List AV) (H:Hp):OA:=match args with
 | [(.int .i64 aa),(.int .i64 af)]=>g aa af H
 | _=>none
noncomputable def bA.cs (F:Nat):List (FuncId×(List AV→Hp→OA)):=[]
theorem bA.loops (F:Nat):LoopsOk tabs (mkOrc (bA.cs F)) bA.pn (bA.lh F) F [] 1 bA.code (fun tm H=>aresults tabs.ty H tm Try.f130.results.toList fun v=>some (v,H)) (fun _ _ _=>none) (fun tm H=>aresults tabs.ty H tm Try.f130.results.toList fun v=>some (v,H)):=by
 exact loops_none (by kernel_rfl)
theorem bA.eqX (F:Nat) (aa:Int) (af:Int) (H:Hp):aCode tabs (mkOrc (bA.cs F)) bA.pn (bA.lh F) F [] 1 bA.code (argTm [(.int .i64 aa),(.int .i64 af)]) H (fun tm H=>aresults tabs.ty H tm Try.f130.results.toList fun v=>some (v,H)) (fun _ _ _=>none) (fun tm H=>aresults tabs.ty H tm Try.f130.results.toList fun v=>some (v,H)) = bA.twX F aa af H:=by kernel_rfl
theorem bA.cs_ok (F:Nat):∀ p ∈ bA.cs F,∀ args H v H',p.2 args H = some (v,H')→Go.AE.T Try.prog p.1 args H v H':=by
 intro p hp
 exact absurd (show p ∈ [] from hp) List.not_mem_nil
theorem bA.ok:codeOk bA.pn Try.f130.ntmps bA.tb bA.code = true:=by kernel_rfl
theorem bA.T {F:Nat} {aa:Int} {af:Int} {H:Hp} {v:AV} {H':Hp} (h:bA.tw F aa af H = some (v,H')):Go.AE.T Try.prog 130 [(.int .i64 aa),(.int .i64 af)] H v H':=
 Go.AE.T.of (Y:=tabs) (C:=mkOrc (bA.cs F)) (PN:=bA.pn) (LH:=bA.lh F) (F:=F) (TB:=bA.tb) (fn:=Try.f130) (code:=bA.code) mixed tabs_ok (mkOrc_ok (bA.cs_ok F)) Try.func130 (by kernel_rfl) (by kernel_rfl) bA.ok (Nat.le_of_ble_eq_true (by kernel_rfl)) (bA.loops F) (Eq.trans (bA.eqX F aa af H) h)
theorem bA.mk_T {F:Nat} {args:List AV} {H:Hp} {v:AV} {H':Hp} (h:bA.mk (bA.tw F) args H = some (v,H')):Go.AE.T Try.prog 130 args H v H':=by
 unfold bA.mk at h
 split at h
 ·exact bA.T h
 ·cases h
noncomputable def bu.twX (F:Nat) (aa:Sl) (af:Sl) (bz:Int) (gX:Int) (H:Hp):OA:=(Sl.idx aa (IntKind.i64.wrap ((IntKind.i64.wrap (4 * bz)) + 1)) 1).bind fun p5=>(Hp.ldI H .i64 p5.1 p5.2).bind fun n6=>(Sl.idx af n6 1).bind fun p7=>(Hp.ldI H .i64 p7.1 p7.2).bind fun n8=>(bif (n8 == gX) then (some ((.int .i64 1),H)) else (some ((.int .i64 (-1)),H)))
noncomputable def bu.tw (F:Nat) (aa:Sl) (af:Sl) (bz:Int) (gX:Int) (H:Hp):OA:=bu.twX F aa af bz gX H
noncomputable def bu.code:Go.Code:=(Try.f66.body).getD .skip
noncomputable def bu.lh (F:Nat) (p:Nat) (ks:List Nat) (n:Nat) (tm:Tm) (H:Hp):OA:=none
def bu.pn:Nat→List Nat:=fun i=>(([]:List (Nat×List Nat)).lookup i).getD []
def bu.tb:Nat→List (List Nat):=fun i=>(([]:List (Nat×List (List Nat))).lookup i).getD []
noncomputable def bu.mk (g:Sl→Sl→Int→Int→Hp→OA) (args:List AV) (H:Hp):OA:=match args with
 | [(.sl aa),(.sl af),(.int .i64 bz),(.int .i64 gX)]=>g aa af bz gX H
 | _=>none
noncomputable def bu.cs (F:Nat):List (FuncId×(List AV→Hp→OA)):=[]
theorem bu.loops (F:Nat):LoopsOk tabs (mkOrc (bu.cs F)) bu.pn (bu.lh F) F [] 1 bu.code (fun tm H=>aresults tabs.ty H tm Try.f66.results.toList fun v=>some (v,H)) (fun _ _ _=>none) (fun tm H=>aresults tabs.ty H tm Try.f66.results.toList fun v=>some (v,H)):=by
 exact loops_none (by kernel_rfl)
theorem bu.eqX (F:Nat) (aa:Sl) (af:Sl) (bz:Int) (gX:Int) (H:Hp):aCode tabs (mkOrc (bu.cs F)) bu.pn (bu.lh F) F [] 1 bu.code (argTm [(.sl aa),(.sl af),(.int .i64 bz),(.int .i64 gX)]) H (fun tm H=>aresults tabs.ty H tm Try.f66.results.toList fun v=>some (v,H)) (fun _ _ _=>none) (fun tm H=>aresults tabs.ty H tm Try.f66.results.toList fun v=>some (v,H)) = bu.twX F aa af bz gX H:=by kernel_rfl
theorem bu.cs_ok (F:Nat):∀ p ∈ bu.cs F,∀ args H v H',p.2 args H = some (v,H')→Go.AE.T Try.prog p.1 args H v H':=by
 intro p hp
 exact absurd (show p ∈ [] from hp) List.not_mem_nil
theorem bu.ok:codeOk bu.pn Try.f66.ntmps bu.tb bu.code = true:=by kernel_rfl
theorem bu.T {F:Nat} {aa:Sl} {af:Sl} {bz:Int} {gX:Int} {H:Hp} {v:AV} {H':Hp} (h:bu.tw F aa af bz gX H = some (v,H')):Go.AE.T Try.prog 66 [(.sl aa),(.sl af),(.int .i64 bz),(.int .i64 gX)] H v H':=
 Go.AE.T.of (Y:=tabs) (C:=mkOrc (bu.cs F)) (PN:=bu.pn) (LH:=bu.lh F) (F:=F) (TB:=bu.tb) (fn:=Try.f66) (code:=bu.code) mixed tabs_ok (mkOrc_ok (bu.cs_ok F)) Try.func66 (by kernel_rfl) (by kernel_rfl) bu.ok (Nat.le_of_ble_eq_true (by kernel_rfl)) (bu.loops F) (Eq.trans (bu.eqX F aa af bz gX H) h)
theorem bu.mk_T {F:Nat} {args:List AV} {H:Hp} {v:AV} {H':Hp} (h:bu.mk (bu.tw F) args H = some (v,H')):Go.AE.T Try.prog 66 args H v H':=by
 unfold bu.mk at h
 split at h
 ·exact bu.T h
 ·cases h
noncomputable def ai.j8 (F:Nat) (aD:Sl→Int→Hp→OA) (cn:Sl→Int→Hp→OA) (co:Int→Int→Hp→OA) (cp:Sl→Sl→Int→Int→Hp→OA) (C509_:Int→Nat→Nat→Nat→Nat→Sl→Sl→Sl→Int→Nat→Nat→Int→Hp→OA) (oG:Int) (wq:Nat) (WC:Nat) (wt:Nat) (WD:Nat) (WE:Sl) (WF:Sl) (WG:Sl) (oH:Int) (wu:Nat) (WH:Nat) (oI:Int) (H351:Hp):OA:=C509_ oG wq WC wt WD WE WF WG oH wu WH (IntKind.i64.wrap (oI + 1)) H351
noncomputable def ai.j9 (F:Nat) (aD:Sl→Int→Hp→OA) (cn:Sl→Int→Hp→OA) (co:Int→Int→Hp→OA) (cp:Sl→Sl→Int→Int→Hp→OA) (C509_:Int→Nat→Nat→Nat→Nat→Sl→Sl→Sl→Int→Nat→Nat→Int→Hp→OA) (oJ:Int) (wv:Nat) (WI:Nat) (ww:Nat) (WJ:Nat) (WK:Sl) (WL:Sl) (WM:Sl) (oK:Int) (wx:Nat) (WN:Nat) (oL:Int) (H480:Hp):OA:=C509_ oJ wv WI ww WJ WK WL WM oK wx WN (IntKind.i64.wrap (oL + 1)) H480
noncomputable def ai.j10 (F:Nat) (aD:Sl→Int→Hp→OA) (cn:Sl→Int→Hp→OA) (co:Int→Int→Hp→OA) (cp:Sl→Sl→Int→Int→Hp→OA) (C509_:Int→Nat→Nat→Nat→Nat→Sl→Sl→Sl→Int→Nat→Nat→Int→Hp→OA) (oM:Int) (wy:Nat) (WO:Nat) (wz:Nat) (WP:Nat) (WQ:Sl) (WR:Sl) (WS:Sl) (oN:Int) (wA:Nat) (WT:Nat) (oO:Int) (H453:Hp):OA:=ai.j9 F aD cn co cp C509_ oM wy WO wz WP WQ WR WS oN wA WT oO H453
noncomputable def ai.j11 (F:Nat) (aD:Sl→Int→Hp→OA) (cn:Sl→Int→Hp→OA) (co:Int→Int→Hp→OA) (cp:Sl→Sl→Int→Int→Hp→OA) (C509_:Int→Nat→Nat→Nat→Nat→Sl→Sl→Sl→Int→Nat→Nat→Int→Hp→OA) (kQ:Int) (oP:Nat) (Dl:Nat) (oQ:Nat) (Dm:Nat) (Dn:Sl) (Do:Sl) (Dp:Sl) (gD:Int) (kR:Nat) (nz:Nat) (kS:Int) (ms:Int) (iH:Int) (iI:Int) (H414:Hp):OA:=(bif (decide (iH ≥ 0)) then ((bif (decide (iI ≥ 0)) then ((Hp.ldSl H414 kR (nz + 2)).bind fun s415=>(Hp.ldSl H414 kR (nz + 2)).bind fun s416=>(Sl.idx s416 (IntKind.i64.wrap ((IntKind.i64.wrap (iH * gD)) + iI)) 1).bind fun p417=>(Hp.ldI H414 .i64 p417.1 p417.2).bind fun n418=>(Sl.idx s415 (IntKind.i64.wrap ((IntKind.i64.wrap (iH * gD)) + iI)) 1).bind fun p419=>(Hp.st H414 p419.1 p419.2 (.int .i64 (IntKind.i64.wrap (n418 - ms)))).bind fun H420=>(Hp.ldSl H420 kR (nz + 2)).bind fun s421=>(Hp.ldSl H420 kR (nz + 2)).bind fun s422=>(Sl.idx s422 (IntKind.i64.wrap ((IntKind.i64.wrap (iI * gD)) + iH)) 1).bind fun p423=>(Hp.ldI H420 .i64 p423.1 p423.2).bind fun n424=>(Sl.idx s421 (IntKind.i64.wrap ((IntKind.i64.wrap (iI * gD)) + iH)) 1).bind fun p425=>(Hp.st H420 p425.1 p425.2 (.int .i64 (IntKind.i64.wrap (n424 - ms)))).bind fun H426=>ai.j10 F aD cn co cp C509_ kQ oP Dl oQ Dm Dn Do Dp gD kR nz kS H426) else (ai.j10 F aD cn co cp C509_ kQ oP Dl oQ Dm Dn Do Dp gD kR nz kS H414))) else (ai.j9 F aD cn co cp C509_ kQ oP Dl oQ Dm Dn Do Dp gD kR nz kS H414))
noncomputable def ai.j12 (F:Nat) (aD:Sl→Int→Hp→OA) (cn:Sl→Int→Hp→OA) (co:Int→Int→Hp→OA) (cp:Sl→Sl→Int→Int→Hp→OA) (C509_:Int→Nat→Nat→Nat→Nat→Sl→Sl→Sl→Int→Nat→Nat→Int→Hp→OA) (mu:Int) (qr:Nat) (Iv:Nat) (qs:Nat) (Iw:Nat) (Ix:Sl) (Iy:Sl) (Iz:Sl) (jy:Int) (nA:Nat) (wB:Nat) (mv:Int) (kT:Int) (mw:Int) (gE:Int) (H382:Hp):OA:=(bif (decide (gE ≥ 0)) then ((Hp.ldSl H382 nA (wB + 2)).bind fun s383=>(Hp.ldSl H382 nA (wB + 2)).bind fun s384=>(Sl.idx s384 (IntKind.i64.wrap ((IntKind.i64.wrap (gE * jy)) + gE)) 1).bind fun p385=>(Hp.ldI H382 .i64 p385.1 p385.2).bind fun n386=>(Sl.idx s383 (IntKind.i64.wrap ((IntKind.i64.wrap (gE * jy)) + gE)) 1).bind fun p387=>(Hp.st H382 p387.1 p387.2 (.int .i64 (IntKind.i64.wrap (n386 + kT)))).bind fun H388=>ai.j11 F aD cn co cp C509_ mu qr Iv qs Iw Ix Iy Iz jy nA wB mv kT mw gE H388) else (ai.j11 F aD cn co cp C509_ mu qr Iv qs Iw Ix Iy Iz jy nA wB mv kT mw gE H382))
noncomputable def ai.j13 (F:Nat) (aD:Sl→Int→Hp→OA) (cn:Sl→Int→Hp→OA) (co:Int→Int→Hp→OA) (cp:Sl→Sl→Int→Int→Hp→OA) (C509_:Int→Nat→Nat→Nat→Nat→Sl→Sl→Sl→Int→Nat→Nat→Int→Hp→OA) (kU:Int) (oR:Nat) (Dq:Nat) (oS:Nat) (Dr:Nat) (qt:Sl) (Ds:Sl) (qu:Sl) (iJ:Int) (mx:Nat) (qv:Nat) (iK:Int) (kV:Int) (mz:Int) (H319:Hp):OA:=(Sl.idx qt (IntKind.i64.wrap ((IntKind.i64.wrap (4 * iK)) + mz)) 1).bind fun p320=>(Hp.ldI H319 .i64 p320.1 p320.2).bind fun n321=>(Sl.idx qu n321 1).bind fun p322=>(Hp.ldI H319 .i64 p322.1 p322.2).bind fun n323=>(Sl.idx qt (IntKind.i64.wrap ((IntKind.i64.wrap ((IntKind.i64.wrap (4 * iK)) + mz)) + 2)) 1).bind fun p324=>(Hp.ldI H319 .i64 p324.1 p324.2).bind fun n325=>(Sl.idx qu n325 1).bind fun p326=>(Hp.ldI H319 .i64 p326.1 p326.2).bind fun n327=>(bif (n323 == n327) then (ai.j8 F aD cn co cp C509_ kU oR Dq oS Dr qt Ds qu iJ mx qv iK H319) else ((bif (decide (n323 ≥ 0)) then ((Hp.ldSl H319 mx (qv + 2)).bind fun s352=>(Hp.ldSl H319 mx (qv + 2)).bind fun s353=>(Sl.idx s353 (IntKind.i64.wrap ((IntKind.i64.wrap (n323 * iJ)) + n323)) 1).bind fun p354=>(Hp.ldI H319 .i64 p354.1 p354.2).bind fun n355=>(Sl.idx s352 (IntKind.i64.wrap ((IntKind.i64.wrap (n323 * iJ)) + n323)) 1).bind fun p356=>(Hp.st H319 p356.1 p356.2 (.int .i64 (IntKind.i64.wrap (n355 + kV)))).bind fun H357=>ai.j12 F aD cn co cp C509_ kU oR Dq oS Dr qt Ds qu iJ mx qv iK kV n323 n327 H357) else (ai.j12 F aD cn co cp C509_ kU oR Dq oS Dr qt Ds qu iJ mx qv iK kV n323 n327 H319))))
noncomputable def ai.l509 (F:Nat) (aD:Sl→Int→Hp→OA) (cn:Sl→Int→Hp→OA) (co:Int→Int→Hp→OA) (cp:Sl→Sl→Int→Int→Hp→OA) :Nat→Int→Nat→Nat→Nat→Nat→Sl→Sl→Sl→Int→Nat→Nat→Int→Hp→OA
 | 0,_,_,_,_,_,_,_,_,_,_,_,_,_=>none
 | cS + 1,cZ,et,gF,dy,eV,gY,hY,ja,fP,fZ,iL,dY,H93=>(Hp.ldSl H93 et gF).bind fun s292=>(bif (decide (dY < (s292.n:Int))) then ((cp gY hY dY cZ H93).bind fun r293=>((r293.1).asI .i64).bind fun n294=>(Sl.idx gY (IntKind.i64.wrap (4 * dY)) 1).bind fun p295=>(Hp.ldI r293.2 .i64 p295.1 p295.2).bind fun n296=>(Sl.idx hY n296 1).bind fun p297=>(Hp.ldI r293.2 .i64 p297.1 p297.2).bind fun n298=>(bif (n298 == cZ) then (ai.j13 F aD cn co cp (ai.l509 F aD cn co cp cS) cZ et gF dy eV gY hY ja fP fZ iL dY n294 1 r293.2) else (ai.j13 F aD cn co cp (ai.l509 F aD cn co cp cS) cZ et gF dy eV gY hY ja fP fZ iL dY n294 0 r293.2))) else ((Hp.ldI H93 .i64 fZ iL).bind fun n481=>(Hp.ldI H93 .i64 fZ (iL + 1)).bind fun n482=>(Hp.ldSl H93 fZ (iL + 2)).bind fun s483=>(Hp.st H93 dy eV (.int .i64 n481)).bind fun H484=>(Hp.st H484 dy (eV + 1) (.int .i64 n482)).bind fun H485=>(Hp.st H485 dy (eV + 1 + 1) (.sl s483)).bind fun H486=>(Hp.ldI H486 .i64 dy eV).bind fun n487=>(Hp.ldI H486 .i64 dy (eV + 1)).bind fun n488=>(Hp.ldSl H486 dy (eV + 2)).bind fun s489=>some ((.agg [(.int .i64 n487),(.int .i64 n488),(.sl s489)]),H486)))
termination_by structural n=>n
noncomputable def ai.j14 (F:Nat) (aD:Sl→Int→Hp→OA) (cn:Sl→Int→Hp→OA) (co:Int→Int→Hp→OA) (cp:Sl→Sl→Int→Int→Hp→OA) (oT:Int) (wC:Nat) (WU:Nat) (wD:Nat) (WV:Nat) (WW:Sl) (WX:Sl) (WY:Sl) (kW:Int) (H64:Hp):OA:=(co kW kW H64).bind fun r65=>((r65.1).asAgg 3).bind fun l66=>(l66[0]?).bind fun v67=>((v67).asI .i64).bind fun n68=>(l66[1]?).bind fun v69=>((v69).asI .i64).bind fun n70=>(l66[2]?).bind fun v71=>((v71).asSl).bind fun s72=>(Hp.new r65.2 [.int .i64 0,.int .i64 0,.sl ⟨none,0,.ex 0⟩]).bind fun H73=>(Hp.st H73 r65.2.length 0 (.int .i64 n68)).bind fun H74=>(Hp.st H74 r65.2.length (0 + 1) (.int .i64 n70)).bind fun H75=>(Hp.st H75 r65.2.length (0 + 1 + 1) (.sl s72)).bind fun H76=>ai.l509 F aD cn co cp F oT wC WU wD WV WW WX WY kW r65.2.length 0 0 H76
noncomputable def ai.j15 (F:Nat) (aD:Sl→Int→Hp→OA) (cn:Sl→Int→Hp→OA) (co:Int→Int→Hp→OA) (cp:Sl→Sl→Int→Int→Hp→OA) (C125_:Int→Nat→Nat→Nat→Nat→Sl→Sl→Sl→Int→Int→Hp→OA) (oU:Int) (wE:Nat) (WZ:Nat) (wF:Nat) (W_:Nat) (Xa:Sl) (Xb:Sl) (Xc:Sl) (oV:Int) (oW:Int) (H509:Hp):OA:=C125_ oU wE WZ wF W_ Xa Xb Xc oV (IntKind.i64.wrap (oW + 1)) H509
noncomputable def ai.l125 (F:Nat) (aD:Sl→Int→Hp→OA) (cn:Sl→Int→Hp→OA) (co:Int→Int→Hp→OA) (cp:Sl→Sl→Int→Int→Hp→OA) :Nat→Int→Nat→Nat→Nat→Nat→Sl→Sl→Sl→Int→Int→Hp→OA
 | 0,_,_,_,_,_,_,_,_,_,_,_=>none
 | ny + 1,dc,eW,gZ,fB,hZ,c_,h_,jb,dP,eX,H27=>(bif (decide (eX < (h_.n:Int))) then ((Sl.idx h_ eX 1).bind fun p490=>(Hp.ldI H27 .i64 p490.1 p490.2).bind fun n491=>(bif (n491 == dc) then ((Hp.new H27 [(.int .i64 (-2))]).bind fun H492=>(Sl.row H492 (⟨some (H27.length,0),1,.ex 1⟩:Sl) 1).bind fun xs494=>(Hp.app H492 1 8 jb (⟨some (H27.length,0),1,.ex 1⟩:Sl).n xs494).bind fun a493=>ai.j15 F aD cn co cp (ai.l125 F aD cn co cp ny) dc eW gZ fB hZ c_ h_ a493.1 dP eX a493.2) else ((Hp.new H27 [(.int .i64 dP)]).bind fun H510=>(Sl.row H510 (⟨some (H27.length,0),1,.ex 1⟩:Sl) 1).bind fun xs512=>(Hp.app H510 1 8 jb (⟨some (H27.length,0),1,.ex 1⟩:Sl).n xs512).bind fun a511=>ai.j15 F aD cn co cp (ai.l125 F aD cn co cp ny) dc eW gZ fB hZ c_ h_ a511.1 (IntKind.i64.wrap (dP + 1)) eX a511.2))) else (ai.j14 F aD cn co cp dc eW gZ fB hZ c_ h_ jb dP H27))
termination_by structural n=>n
noncomputable def ai.twX (F:Nat) (aD:Sl→Int→Hp→OA) (cn:Sl→Int→Hp→OA) (co:Int→Int→Hp→OA) (cp:Sl→Sl→Int→Int→Hp→OA) (aa:Sl) (ab:Int) (ah:Int) (H:Hp):OA:=(Hp.new H [(.sl aa),(.int .i64 ab)]).bind fun H4=>(Hp.new H4 [.int .i64 0,.int .i64 0,.sl ⟨none,0,.ex 0⟩]).bind fun H5=>(Hp.ldSl H5 H.length 0).bind fun s6=>(Hp.ldI H5 .i64 H.length (0 + 1)).bind fun n7=>(aD s6 n7 H5).bind fun r8=>((r8.1).asSl).bind fun s9=>(if Cons H5 r8.2 then ((Hp.ldSl r8.2 H.length 0).bind fun s10=>(Hp.ldI r8.2 .i64 H.length (0 + 1)).bind fun n11=>(cn s10 n11 r8.2).bind fun r12=>((r12.1).asSl).bind fun s13=>(Hp.new r12.2 []).bind fun H14=>ai.l125 F aD cn co cp F ah H.length 0 H4.length 0 s9 s13 (⟨some (r12.2.length,0),0,.ex 0⟩:Sl) (-1) 0 H14) else none)
noncomputable def ai.tw (F:Nat) (aa:Sl) (ab:Int) (ah:Int) (H:Hp):OA:=ai.twX F (aw.tw F) (ac.tw F) (bA.tw F) (bu.tw F) aa ab ah H
noncomputable def ai.code:Go.Code:=(Try.f98.body).getD .skip
noncomputable def ai.lh125 (F:Nat) (aD:Sl→Int→Hp→OA) (cn:Sl→Int→Hp→OA) (co:Int→Int→Hp→OA) (cp:Sl→Sl→Int→Int→Hp→OA) (ks:List Nat) (n:Nat) (tm:Tm) (H:Hp):OA:=match ks,tm 1,tm 2,tm 4,tm 5,tm 6,tm 7,tm 8,tm 9 with
 | [],(.int .i64 dc),(.ptr eW gZ),(.ptr fB hZ),(.sl c_),(.sl h_),(.sl jb),(.int .i64 dP),(.int .i64 eX)=>ai.l125 F aD cn co cp n dc eW gZ fB hZ c_ h_ jb dP eX H
 | _,_,_,_,_,_,_,_,_=>none
theorem ai.lh125_inv {F:Nat} {aD:Sl→Int→Hp→OA} {cn:Sl→Int→Hp→OA} {co:Int→Int→Hp→OA} {cp:Sl→Sl→Int→Int→Hp→OA} {ks:List Nat} {n:Nat} {tm:Tm} {H:Hp} {r:AV×Hp} (h:ai.lh125 F aD cn co cp ks n tm H = some r):∃ dc:Int,∃ eW:Nat,∃ gZ:Nat,∃ fB:Nat,∃ hZ:Nat,∃ c_:Sl,∃ h_:Sl,∃ jb:Sl,∃ dP:Int,∃ eX:Int,ks = []∧tm 1 = (.int .i64 dc)∧tm 2 = (.ptr eW gZ)∧tm 4 = (.ptr fB hZ)∧tm 5 = (.sl c_)∧tm 6 = (.sl h_)∧tm 7 = (.sl jb)∧tm 8 = (.int .i64 dP)∧tm 9 = (.int .i64 eX)∧ai.l125 F aD cn co cp n dc eW gZ fB hZ c_ h_ jb dP eX H = some r:=by
 unfold ai.lh125 at h
 split at h
 ·exact ⟨_,_,_,_,_,_,_,_,_,_,rfl,by assumption,by assumption,by assumption,by assumption,by assumption,by assumption,by assumption,by assumption,h⟩
 ·cases h
noncomputable def ai.lh509 (F:Nat) (aD:Sl→Int→Hp→OA) (cn:Sl→Int→Hp→OA) (co:Int→Int→Hp→OA) (cp:Sl→Sl→Int→Int→Hp→OA) (ks:List Nat) (n:Nat) (tm:Tm) (H:Hp):OA:=match ks,tm 1,tm 2,tm 4,tm 5,tm 6,tm 7,tm 8,tm 10,tm 11 with
 | [],(.int .i64 cZ),(.ptr et gF),(.ptr dy eV),(.sl gY),(.sl hY),(.sl ja),(.int .i64 fP),(.ptr fZ iL),(.int .i64 dY)=>ai.l509 F aD cn co cp n cZ et gF dy eV gY hY ja fP fZ iL dY H
 | _,_,_,_,_,_,_,_,_,_=>none
theorem ai.lh509_inv {F:Nat} {aD:Sl→Int→Hp→OA} {cn:Sl→Int→Hp→OA} {co:Int→Int→Hp→OA} {cp:Sl→Sl→Int→Int→Hp→OA} {ks:List Nat} {n:Nat} {tm:Tm} {H:Hp} {r:AV×Hp} (h:ai.lh509 F aD cn co cp ks n tm H = some r):∃ cZ:Int,∃ et:Nat,∃ gF:Nat,∃ dy:Nat,∃ eV:Nat,∃ gY:Sl,∃ hY:Sl,∃ ja:Sl,∃ fP:Int,∃ fZ:Nat,∃ iL:Nat,∃ dY:Int,ks = []∧tm 1 = (.int .i64 cZ)∧tm 2 = (.ptr et gF)∧tm 4 = (.ptr dy eV)∧tm 5 = (.sl gY)∧tm 6 = (.sl hY)∧tm 7 = (.sl ja)∧tm 8 = (.int .i64 fP)∧tm 10 = (.ptr fZ iL)∧tm 11 = (.int .i64 dY)∧ai.l509 F aD cn co cp n cZ et gF dy eV gY hY ja fP fZ iL dY H = some r:=by
 unfold ai.lh509 at h
 split at h
 ·exact ⟨_,_,_,_,_,_,_,_,_,_,_,_,rfl,by assumption,by assumption,by assumption,by assumption,by assumption,by assumption,by assumption,by assumption,by assumption,h⟩
 ·cases h
noncomputable def ai.lh (F:Nat) (aD:Sl→Int→Hp→OA) (cn:Sl→Int→Hp→OA) (co:Int→Int→Hp→OA) (cp:Sl→Sl→Int→Int→Hp→OA) (p:Nat) (ks:List Nat) (n:Nat) (tm:Tm) (H:Hp):OA:=bif p.beq 509 then ai.lh509 F aD cn co cp ks n tm H else (bif p.beq 125 then ai.lh125 F aD cn co cp ks n tm H else (none))
def ai.pn:Nat→List Nat:=fun i=>(([(1,[3]),(19,[]),(22,[19]),(24,[19]),(26,[19]),(27,[19])]:List (Nat×List Nat)).lookup i).getD []
def ai.tb:Nat→List (List Nat):=fun i=>(([(1,[[],[0],[],[0,1,2],[0,1,2,3],[0,1,2,3,4]]),(19,[[],[],[],[2],[],[2,3,4],[1,2,3,4,5],[1,2,3,4,5,6],[0,1,2,3,4,5,6,7],[0,1,2,3,4,5,6,7,8],[],[],[],[12],[],[12,13,14],[12,13,14,15],[11,12,13,14,15,16],[11,12,13,14,15,16,17],[10,11,12,13,14,15,16,17,18],[10,11,12,13,14,15,16,17,18,19],[0,1,2,3,4,5,6,7,8,9],[0,1,2,3,4,5,6,7,8,9,10,11,12,13,14,15,16,17,18,19,20,21]]),(22,[[],[0],[],[],[2,3],[],[2,3,4,5],[],[7],[],[],[9,10],[],[9,10,11,12],[7,8,9,10,11,12,13],[7,8,9,10,11,12,13,14],[],[7,8,9,10,11,12,13,14,15,16],[0,1,2,3,4,5,6,7,8,9,10,11,12,13,14,15,16,17],[0,1,2,3,4,5,6,7,8,9,10,11,12,13,14,15,16,17,18]]),(24,[[],[0],[],[],[2,3],[],[2,3,4,5],[],[7],[],[],[9,10],[],[9,10,11,12],[7,8,9,10,11,12,13],[7,8,9,10,11,12,13,14],[],[7,8,9,10,11,12,13,14,15,16],[0,1,2,3,4,5,6,7,8,9,10,11,12,13,14,15,16,17],[0,1,2,3,4,5,6,7,8,9,10,11,12,13,14,15,16,17,18]]),(26,[[],[0],[],[],[2,3],[],[2,3,4,5],[],[7],[],[],[9,10],[],[9,10,11,12],[7,8,9,10,11,12,13],[7,8,9,10,11,12,13,14],[],[7,8,9,10,11,12,13,14,15,16],[0,1,2,3,4,5,6,7,8,9,10,11,12,13,14,15,16,17],[0,1,2,3,4,5,6,7,8,9,10,11,12,13,14,15,16,17,18]]),(27,[[],[0],[],[],[2,3],[],[2,3,4,5],[],[7],[],[],[9,10],[],[9,10,11,12],[7,8,9,10,11,12,13],[7,8,9,10,11,12,13,14],[],[7,8,9,10,11,12,13,14,15,16],[0,1,2,3,4,5,6,7,8,9,10,11,12,13,14,15,16,17],[0,1,2,3,4,5,6,7,8,9,10,11,12,13,14,15,16,17,18]])]:List (Nat×List (List Nat))).lookup i).getD []
noncomputable def ai.mk (g:Sl→Int→Int→Hp→OA) (args:List AV) (H:Hp):OA:=match args with
 | [(.agg [(.sl aa),(.int .i64 ab)]),(.int .i64 ah)]=>g aa ab ah H
 | _=>none
noncomputable def ai.cs (F:Nat) (aD:Sl→Int→Hp→OA) (cn:Sl→Int→Hp→OA) (co:Int→Int→Hp→OA) (cp:Sl→Sl→Int→Int→Hp→OA):List (FuncId×(List AV→Hp→OA)):=[(67,aw.mk aD),(68,ac.mk cn),(130,bA.mk co),(66,bu.mk cp)]
theorem ai.loops (F:Nat) (aD:Sl→Int→Hp→OA) (cn:Sl→Int→Hp→OA) (co:Int→Int→Hp→OA) (cp:Sl→Sl→Int→Int→Hp→OA):LoopsOk tabs (mkOrc (ai.cs F aD cn co cp)) ai.pn (ai.lh F aD cn co cp) F [] 1 ai.code (fun tm H=>aresults tabs.ty H tm Try.f98.results.toList fun v=>some (v,H)) (fun _ _ _=>none) (fun tm H=>aresults tabs.ty H tm Try.f98.results.toList fun v=>some (v,H)):=by
 refine LoopsOk.seq ?_ ?_
 ·exact loops_none (by kernel_rfl)
 ·refine LoopsOk.seq ?_ ?_
  ·exact loops_none (by kernel_rfl)
  ·refine LoopsOk.seq ?_ ?_
   ·exact loops_none (by kernel_rfl)
   ·refine LoopsOk.seq ?_ ?_
    ·exact loops_none (by kernel_rfl)
    ·refine LoopsOk.seq ?_ ?_
     ·refine LoopsOk.seq ?_ ?_
      ·exact loops_none (by kernel_rfl)
      ·refine LoopsOk.block ?_
       refine LoopsOk.loop (fun tm H=>?_) (fun k125 tm H r h0=>?_) (fun k125=>?_)
       ·refine none_of fun r h0=>?_
        obtain ⟨dc,eW,gZ,fB,hZ,c_,h_,jb,dP,eX,hks,e1,e2,e4,e5,e6,e7,e8,e9,h⟩:=ai.lh125_inv (show ai.lh125 F aD cn co cp [] 0 tm H = some r from h0)
        cases h
       ·obtain ⟨dc,eW,gZ,fB,hZ,c_,h_,jb,dP,eX,hks,e1,e2,e4,e5,e6,e7,e8,e9,h⟩:=ai.lh125_inv (show ai.lh125 F aD cn co cp [] (k125 + 1) tm H = some r from h0)
        have q0:(Tm.put tm 1 (.int .i64 dc)) = tm:=by exact Tm.put_same e1
        have q1:(Tm.put (Tm.put tm 1 (.int .i64 dc)) 2 (.ptr eW gZ)) = tm:=by rw [q0]; exact Tm.put_same e2
        have q2:(Tm.put (Tm.put (Tm.put tm 1 (.int .i64 dc)) 2 (.ptr eW gZ)) 4 (.ptr fB hZ)) = tm:=by rw [q1]; exact Tm.put_same e4
        have q3:(Tm.put (Tm.put (Tm.put (Tm.put tm 1 (.int .i64 dc)) 2 (.ptr eW gZ)) 4 (.ptr fB hZ)) 5 (.sl c_)) = tm:=by rw [q2]; exact Tm.put_same e5
        have q4:(Tm.put (Tm.put (Tm.put (Tm.put (Tm.put tm 1 (.int .i64 dc)) 2 (.ptr eW gZ)) 4 (.ptr fB hZ)) 5 (.sl c_)) 6 (.sl h_)) = tm:=by rw [q3]; exact Tm.put_same e6
        have q5:(Tm.put (Tm.put (Tm.put (Tm.put (Tm.put (Tm.put tm 1 (.int .i64 dc)) 2 (.ptr eW gZ)) 4 (.ptr fB hZ)) 5 (.sl c_)) 6 (.sl h_)) 7 (.sl jb)) = tm:=by rw [q4]; exact Tm.put_same e7
        have q6:(Tm.put (Tm.put (Tm.put (Tm.put (Tm.put (Tm.put (Tm.put tm 1 (.int .i64 dc)) 2 (.ptr eW gZ)) 4 (.ptr fB hZ)) 5 (.sl c_)) 6 (.sl h_)) 7 (.sl jb)) 8 (.int .i64 dP)) = tm:=by rw [q5]; exact Tm.put_same e8
        have q7:(Tm.put (Tm.put (Tm.put (Tm.put (Tm.put (Tm.put (Tm.put (Tm.put tm 1 (.int .i64 dc)) 2 (.ptr eW gZ)) 4 (.ptr fB hZ)) 5 (.sl c_)) 6 (.sl h_)) 7 (.sl jb)) 8 (.int .i64 dP)) 9 (.int .i64 eX)) = tm:=by rw [q6]; exact Tm.put_same e9
        rw [← q7]
        exact Eq.trans (by kernel_rfl) h
       ·exact loops_none (by kernel_rfl)
     ·refine LoopsOk.seq ?_ ?_
      ·exact loops_none (by kernel_rfl)
      ·refine LoopsOk.seq ?_ ?_
       ·refine LoopsOk.seq ?_ ?_
        ·exact loops_none (by kernel_rfl)
        ·refine LoopsOk.block ?_
         refine LoopsOk.loop (fun tm H=>?_) (fun k509 tm H r h0=>?_) (fun k509=>?_)
         ·refine none_of fun r h0=>?_
          obtain ⟨cZ,et,gF,dy,eV,gY,hY,ja,fP,fZ,iL,dY,hks,e1,e2,e4,e5,e6,e7,e8,e10,e11,h⟩:=ai.lh509_inv (show ai.lh509 F aD cn co cp [] 0 tm H = some r from h0)
          cases h
         ·obtain ⟨cZ,et,gF,dy,eV,gY,hY,ja,fP,fZ,iL,dY,hks,e1,e2,e4,e5,e6,e7,e8,e10,e11,h⟩:=ai.lh509_inv (show ai.lh509 F aD cn co cp [] (k509 + 1) tm H = some r from h0)
          have q0:(Tm.put tm 1 (.int .i64 cZ)) = tm:=by exact Tm.put_same e1
          have q1:(Tm.put (Tm.put tm 1 (.int .i64 cZ)) 2 (.ptr et gF)) = tm:=by rw [q0]; exact Tm.put_same e2
          have q2:(Tm.put (Tm.put (Tm.put tm 1 (.int .i64 cZ)) 2 (.ptr et gF)) 4 (.ptr dy eV)) = tm:=by rw [q1]; exact Tm.put_same e4
          have q3:(Tm.put (Tm.put (Tm.put (Tm.put tm 1 (.int .i64 cZ)) 2 (.ptr et gF)) 4 (.ptr dy eV)) 5 (.sl gY)) = tm:=by rw [q2]; exact Tm.put_same e5
          have q4:(Tm.put (Tm.put (Tm.put (Tm.put (Tm.put tm 1 (.int .i64 cZ)) 2 (.ptr et gF)) 4 (.ptr dy eV)) 5 (.sl gY)) 6 (.sl hY)) = tm:=by rw [q3]; exact Tm.put_same e6
          have q5:(Tm.put (Tm.put (Tm.put (Tm.put (Tm.put (Tm.put tm 1 (.int .i64 cZ)) 2 (.ptr et gF)) 4 (.ptr dy eV)) 5 (.sl gY)) 6 (.sl hY)) 7 (.sl ja)) = tm:=by rw [q4]; exact Tm.put_same e7
          have q6:(Tm.put (Tm.put (Tm.put (Tm.put (Tm.put (Tm.put (Tm.put tm 1 (.int .i64 cZ)) 2 (.ptr et gF)) 4 (.ptr dy eV)) 5 (.sl gY)) 6 (.sl hY)) 7 (.sl ja)) 8 (.int .i64 fP)) = tm:=by rw [q5]; exact Tm.put_same e8
          have q7:(Tm.put (Tm.put (Tm.put (Tm.put (Tm.put (Tm.put (Tm.put (Tm.put tm 1 (.int .i64 cZ)) 2 (.ptr et gF)) 4 (.ptr dy eV)) 5 (.sl gY)) 6 (.sl hY)) 7 (.sl ja)) 8 (.int .i64 fP)) 10 (.ptr fZ iL)) = tm:=by rw [q6]; exact Tm.put_same e10
          have q8:(Tm.put (Tm.put (Tm.put (Tm.put (Tm.put (Tm.put (Tm.put (Tm.put (Tm.put tm 1 (.int .i64 cZ)) 2 (.ptr et gF)) 4 (.ptr dy eV)) 5 (.sl gY)) 6 (.sl hY)) 7 (.sl ja)) 8 (.int .i64 fP)) 10 (.ptr fZ iL)) 11 (.int .i64 dY)) = tm:=by rw [q7]; exact Tm.put_same e11
          rw [← q8]
          exact Eq.trans (by kernel_rfl) h
         ·exact loops_none (by kernel_rfl)
       ·exact loops_none (by kernel_rfl)
theorem ai.eqX (F:Nat) (aD:Sl→Int→Hp→OA) (cn:Sl→Int→Hp→OA) (co:Int→Int→Hp→OA) (cp:Sl→Sl→Int→Int→Hp→OA) (aa:Sl) (ab:Int) (ah:Int) (H:Hp):aCode tabs (mkOrc (ai.cs F aD cn co cp)) ai.pn (ai.lh F aD cn co cp) F [] 1 ai.code (argTm [(.agg [(.sl aa),(.int .i64 ab)]),(.int .i64 ah)]) H (fun tm H=>aresults tabs.ty H tm Try.f98.results.toList fun v=>some (v,H)) (fun _ _ _=>none) (fun tm H=>aresults tabs.ty H tm Try.f98.results.toList fun v=>some (v,H)) = ai.twX F aD cn co cp aa ab ah H:=by kernel_rfl
theorem ai.cs_ok (F:Nat):∀ p ∈ ai.cs F (aw.tw F) (ac.tw F) (bA.tw F) (bu.tw F),∀ args H v H',p.2 args H = some (v,H')→Go.AE.T Try.prog p.1 args H v H':=by
 intro p hp
 simp only [ai.cs,List.mem_cons,List.not_mem_nil,or_false] at hp
 rcases hp with rfl | rfl | rfl | rfl
 ·exact fun args H v H' h=>aw.mk_T h
 ·exact fun args H v H' h=>ac.mk_T h
 ·exact fun args H v H' h=>bA.mk_T h
 ·exact fun args H v H' h=>bu.mk_T h
theorem ai.ok:codeOk ai.pn Try.f98.ntmps ai.tb ai.code = true:=by kernel_rfl
theorem ai.T {F:Nat} {aa:Sl} {ab:Int} {ah:Int} {H:Hp} {v:AV} {H':Hp} (h:ai.tw F aa ab ah H = some (v,H')):Go.AE.T Try.prog 98 [(.agg [(.sl aa),(.int .i64 ab)]),(.int .i64 ah)] H v H':=
 Go.AE.T.of (Y:=tabs) (C:=mkOrc (ai.cs F (aw.tw F) (ac.tw F) (bA.tw F) (bu.tw F))) (PN:=ai.pn) (LH:=ai.lh F (aw.tw F) (ac.tw F) (bA.tw F) (bu.tw F)) (F:=F) (TB:=ai.tb) (fn:=Try.f98) (code:=ai.code) mixed tabs_ok (mkOrc_ok (ai.cs_ok F)) Try.func98 (by kernel_rfl) (by kernel_rfl) ai.ok (Nat.le_of_ble_eq_true (by kernel_rfl)) (ai.loops F (aw.tw F) (ac.tw F) (bA.tw F) (bu.tw F)) (Eq.trans (ai.eqX F (aw.tw F) (ac.tw F) (bA.tw F) (bu.tw F) aa ab ah H) h)
theorem ai.mk_T {F:Nat} {args:List AV} {H:Hp} {v:AV} {H':Hp} (h:ai.mk (ai.tw F) args H = some (v,H')):Go.AE.T Try.prog 98 args H v H':=by
 unfold ai.mk at h
 split at h
 ·exact ai.T h
 ·cases h
noncomputable def bS.twX (F:Nat) (jX:Sl→Int→Hp→OA) (bY:Int→Int→Int→Hp→OA) (eo:Sl→Int→Hp→OA) (jY:Sl→Int→Int→Hp→OA) (aa:Sl) (ab:Int) (ah:Int) (H:Hp):OA:=(Hp.new H [(.sl aa),(.int .i64 ab)]).bind fun H4=>(Hp.new H4 [.int .i64 0,.int .i64 0,.sl ⟨none,0,.ex 0⟩]).bind fun H5=>(Hp.ldSl H5 H.length 0).bind fun s6=>(Hp.ldI H5 .i64 H.length (0 + 1)).bind fun n7=>(jX s6 n7 H5).bind fun r8=>((r8.1).asB).bind fun b9=>(bif (!b9) then ((Hp.st r8.2 H4.length 0 (.int .i64 0)).bind fun H10=>(Hp.st H10 H4.length (0 + 1) (.int .i64 0)).bind fun H11=>(Hp.st H11 H4.length (0 + 1 + 1) (.sl (⟨none,0,.ex 0⟩:Sl))).bind fun H12=>(Hp.ldI H12 .i64 H4.length 0).bind fun n13=>(Hp.ldI H12 .i64 H4.length (0 + 1)).bind fun n14=>(Hp.ldSl H12 H4.length (0 + 2)).bind fun s15=>some ((.tup [(.agg [(.int .i64 n13),(.int .i64 n14),(.sl s15)]),(.int .i64 1)]),H12)) else ((bY ah 0 1 r8.2).bind fun r16=>((r16.1).asB).bind fun b17=>(bif (!b17) then ((Hp.st r16.2 H4.length 0 (.int .i64 0)).bind fun H18=>(Hp.st H18 H4.length (0 + 1) (.int .i64 0)).bind fun H19=>(Hp.st H19 H4.length (0 + 1 + 1) (.sl (⟨none,0,.ex 0⟩:Sl))).bind fun H20=>(Hp.ldI H20 .i64 H4.length 0).bind fun n21=>(Hp.ldI H20 .i64 H4.length (0 + 1)).bind fun n22=>(Hp.ldSl H20 H4.length (0 + 2)).bind fun s23=>some ((.tup [(.agg [(.int .i64 n21),(.int .i64 n22),(.sl s23)]),(.int .i64 2)]),H20)) else ((Hp.ldSl r16.2 H.length 0).bind fun s24=>(Hp.ldI r16.2 .i64 H.length (0 + 1)).bind fun n25=>(eo s24 n25 r16.2).bind fun r26=>((r26.1).asI .i64).bind fun n27=>(bif (n27 != 1) then ((Hp.st r26.2 H4.length 0 (.int .i64 0)).bind fun H28=>(Hp.st H28 H4.length (0 + 1) (.int .i64 0)).bind fun H29=>(Hp.st H29 H4.length (0 + 1 + 1) (.sl (⟨none,0,.ex 0⟩:Sl))).bind fun H30=>(Hp.ldI H30 .i64 H4.length 0).bind fun n31=>(Hp.ldI H30 .i64 H4.length (0 + 1)).bind fun n32=>(Hp.ldSl H30 H4.length (0 + 2)).bind fun s33=>some ((.tup [(.agg [(.int .i64 n31),(.int .i64 n32),(.sl s33)]),(.int .i64 5)]),H30)) else ((Hp.ldI r26.2 .i64 H.length 1).bind fun n34=>(bif (decide (n34 > 0)) then ((Hp.st r26.2 H4.length 0 (.int .i64 0)).bind fun H35=>(Hp.st H35 H4.length (0 + 1) (.int .i64 0)).bind fun H36=>(Hp.st H36 H4.length (0 + 1 + 1) (.sl (⟨none,0,.ex 0⟩:Sl))).bind fun H37=>(Hp.ldI H37 .i64 H4.length 0).bind fun n38=>(Hp.ldI H37 .i64 H4.length (0 + 1)).bind fun n39=>(Hp.ldSl H37 H4.length (0 + 2)).bind fun s40=>some ((.tup [(.agg [(.int .i64 n38),(.int .i64 n39),(.sl s40)]),(.int .i64 5)]),H37)) else ((Hp.ldSl r26.2 H.length 0).bind fun s41=>(Hp.ldI r26.2 .i64 H.length (0 + 1)).bind fun n42=>(jY s41 n42 ah r26.2).bind fun r43=>((r43.1).asAgg 3).bind fun l44=>(l44[0]?).bind fun v45=>((v45).asI .i64).bind fun n46=>(l44[1]?).bind fun v47=>((v47).asI .i64).bind fun n48=>(l44[2]?).bind fun v49=>((v49).asSl).bind fun s50=>(Hp.st r43.2 H4.length 0 (.int .i64 n46)).bind fun H51=>(Hp.st H51 H4.length (0 + 1) (.int .i64 n48)).bind fun H52=>(Hp.st H52 H4.length (0 + 1 + 1) (.sl s50)).bind fun H53=>(Hp.ldI H53 .i64 H4.length 0).bind fun n54=>(Hp.ldI H53 .i64 H4.length (0 + 1)).bind fun n55=>(Hp.ldSl H53 H4.length (0 + 2)).bind fun s56=>some ((.tup [(.agg [(.int .i64 n54),(.int .i64 n55),(.sl s56)]),(.int .i64 0)]),H53)))))))))
noncomputable def bS.tw (F:Nat) (aa:Sl) (ab:Int) (ah:Int) (H:Hp):OA:=bS.twX F (bQ.tw F) (bn.tw F) (aI.tw F) (ai.tw F) aa ab ah H
noncomputable def bS.code:Go.Code:=(Try.f45.body).getD .skip
noncomputable def bS.lh (F:Nat) (jX:Sl→Int→Hp→OA) (bY:Int→Int→Int→Hp→OA) (eo:Sl→Int→Hp→OA) (jY:Sl→Int→Int→Hp→OA) (p:Nat) (ks:List Nat) (n:Nat) (tm:Tm) (H:Hp):OA:=none
def bS.pn:Nat→List Nat:=fun i=>(([]:List (Nat×List Nat)).lookup i).getD []
def bS.tb:Nat→List (List Nat):=fun i=>(([]:List (Nat×List (List Nat))).lookup i).getD []
noncomputable def bS.mk (g:Sl→Int→Int→Hp→OA) (args:List AV) (H:Hp):OA:=match args with
 | [(.agg [(.sl aa),(.int .i64 ab)]),(.int .i64 ah)]=>g aa ab ah H
 | _=>none
noncomputable def bS.cs (F:Nat) (jX:Sl→Int→Hp→OA) (bY:Int→Int→Int→Hp→OA) (eo:Sl→Int→Hp→OA) (jY:Sl→Int→Int→Hp→OA):List (FuncId×(List AV→Hp→OA)):=[(50,bQ.mk jX),(65,bn.mk bY),(97,aI.mk eo),(98,ai.mk jY)]
theorem bS.loops (F:Nat) (jX:Sl→Int→Hp→OA) (bY:Int→Int→Int→Hp→OA) (eo:Sl→Int→Hp→OA) (jY:Sl→Int→Int→Hp→OA):LoopsOk tabs (mkOrc (bS.cs F jX bY eo jY)) bS.pn (bS.lh F jX bY eo jY) F [] 1 bS.code (fun tm H=>aresults tabs.ty H tm Try.f45.results.toList fun v=>some (v,H)) (fun _ _ _=>none) (fun tm H=>aresults tabs.ty H tm Try.f45.results.toList fun v=>some (v,H)):=by
 exact loops_none (by kernel_rfl)
theorem bS.eqX (F:Nat) (jX:Sl→Int→Hp→OA) (bY:Int→Int→Int→Hp→OA) (eo:Sl→Int→Hp→OA) (jY:Sl→Int→Int→Hp→OA) (aa:Sl) (ab:Int) (ah:Int) (H:Hp):aCode tabs (mkOrc (bS.cs F jX bY eo jY)) bS.pn (bS.lh F jX bY eo jY) F [] 1 bS.code (argTm [(.agg [(.sl aa),(.int .i64 ab)]),(.int .i64 ah)]) H (fun tm H=>aresults tabs.ty H tm Try.f45.results.toList fun v=>some (v,H)) (fun _ _ _=>none) (fun tm H=>aresults tabs.ty H tm Try.f45.results.toList fun v=>some (v,H)) = bS.twX F jX bY eo jY aa ab ah H:=by kernel_rfl
theorem bS.cs_ok (F:Nat):∀ p ∈ bS.cs F (bQ.tw F) (bn.tw F) (aI.tw F) (ai.tw F),∀ args H v H',p.2 args H = some (v,H')→Go.AE.T Try.prog p.1 args H v H':=by
 intro p hp
 simp only [bS.cs,List.mem_cons,List.not_mem_nil,or_false] at hp
 rcases hp with rfl | rfl | rfl | rfl
 ·exact fun args H v H' h=>bQ.mk_T h
 ·exact fun args H v H' h=>bn.mk_T h
 ·exact fun args H v H' h=>aI.mk_T h
 ·exact fun args H v H' h=>ai.mk_T h
theorem bS.ok:codeOk bS.pn Try.f45.ntmps bS.tb bS.code = true:=by kernel_rfl
theorem bS.T {F:Nat} {aa:Sl} {ab:Int} {ah:Int} {H:Hp} {v:AV} {H':Hp} (h:bS.tw F aa ab ah H = some (v,H')):Go.AE.T Try.prog 45 [(.agg [(.sl aa),(.int .i64 ab)]),(.int .i64 ah)] H v H':=
 Go.AE.T.of (Y:=tabs) (C:=mkOrc (bS.cs F (bQ.tw F) (bn.tw F) (aI.tw F) (ai.tw F))) (PN:=bS.pn) (LH:=bS.lh F (bQ.tw F) (bn.tw F) (aI.tw F) (ai.tw F)) (F:=F) (TB:=bS.tb) (fn:=Try.f45) (code:=bS.code) mixed tabs_ok (mkOrc_ok (bS.cs_ok F)) Try.func45 (by kernel_rfl) (by kernel_rfl) bS.ok (Nat.le_of_ble_eq_true (by kernel_rfl)) (bS.loops F (bQ.tw F) (bn.tw F) (aI.tw F) (ai.tw F)) (Eq.trans (bS.eqX F (bQ.tw F) (bn.tw F) (aI.tw F) (ai.tw F) aa ab ah H) h)
theorem bS.mk_T {F:Nat} {args:List AV} {H:Hp} {v:AV} {H':Hp} (h:bS.mk (bS.tw F) args H = some (v,H')):Go.AE.T Try.prog 45 args H v H':=by
 unfold bS.mk at h
 split at h
 ·exact bS.T h
 ·cases h
noncomputable def bq.twX (F:Nat) (aa:Sl) (H:Hp):OA:=some ((.int .i64 (aa.n:Int)),H)
noncomputable def bq.tw (F:Nat) (aa:Sl) (H:Hp):OA:=bq.twX F aa H
noncomputable def bq.code:Go.Code:=(Try.f117.body).getD .skip
noncomputable def bq.lh (F:Nat) (p:Nat) (ks:List Nat) (n:Nat) (tm:Tm) (H:Hp):OA:=none
def bq.pn:Nat→List Nat:=fun i=>(([]:List (Nat×List Nat)).lookup i).getD []
def bq.tb:Nat→List (List Nat):=fun i=>(([]:List (Nat×List (List Nat))).lookup i).getD []
noncomputable def bq.mk (g:Sl→Hp→OA) (args:List AV) (H:Hp):OA:=match args with
 | [(.sl aa)]=>g aa H
 | _=>none
noncomputable def bq.cs (F:Nat):List (FuncId×(List AV→Hp→OA)):=[]
theorem bq.loops (F:Nat):LoopsOk tabs (mkOrc (bq.cs F)) bq.pn (bq.lh F) F [] 1 bq.code (fun tm H=>aresults tabs.ty H tm Try.f117.results.toList fun v=>some (v,H)) (fun _ _ _=>none) (fun tm H=>aresults tabs.ty H tm Try.f117.results.toList fun v=>some (v,H)):=by
 exact loops_none (by kernel_rfl)
theorem bq.eqX (F:Nat) (aa:Sl) (H:Hp):aCode tabs (mkOrc (bq.cs F)) bq.pn (bq.lh F) F [] 1 bq.code (argTm [(.sl aa)]) H (fun tm H=>aresults tabs.ty H tm Try.f117.results.toList fun v=>some (v,H)) (fun _ _ _=>none) (fun tm H=>aresults tabs.ty H tm Try.f117.results.toList fun v=>some (v,H)) = bq.twX F aa H:=by kernel_rfl
theorem bq.cs_ok (F:Nat):∀ p ∈ bq.cs F,∀ args H v H',p.2 args H = some (v,H')→Go.AE.T Try.prog p.1 args H v H':=by
 intro p hp
 exact absurd (show p ∈ [] from hp) List.not_mem_nil
theorem bq.ok:codeOk bq.pn Try.f117.ntmps bq.tb bq.code = true:=by kernel_rfl
theorem bq.T {F:Nat} {aa:Sl} {H:Hp} {v:AV} {H':Hp} (h:bq.tw F aa H = some (v,H')):Go.AE.T Try.prog 117 [(.sl aa)] H v H':=
 Go.AE.T.of (Y:=tabs) (C:=mkOrc (bq.cs F)) (PN:=bq.pn) (LH:=bq.lh F) (F:=F) (TB:=bq.tb) (fn:=Try.f117) (code:=bq.code) mixed tabs_ok (mkOrc_ok (bq.cs_ok F)) Try.func117 (by kernel_rfl) (by kernel_rfl) bq.ok (Nat.le_of_ble_eq_true (by kernel_rfl)) (bq.loops F) (Eq.trans (bq.eqX F aa H) h)
theorem bq.mk_T {F:Nat} {args:List AV} {H:Hp} {v:AV} {H':Hp} (h:bq.mk (bq.tw F) args H = some (v,H')):Go.AE.T Try.prog 117 args H v H':=by
 unfold bq.mk at h
 split at h
 ·exact bq.T h
 ·cases h
noncomputable def bv.twX (F:Nat) (aa:Int) (af:Int) (bz:Int) (H:Hp):OA:=(bif (decide (af ≤ aa)) then (some ((.bool (decide (aa ≤ bz))),H)) else (some ((.bool false),H)))
noncomputable def bv.tw (F:Nat) (aa:Int) (af:Int) (bz:Int) (H:Hp):OA:=bv.twX F aa af bz H
noncomputable def bv.code:Go.Code:=(Try.f81.body).getD .skip
noncomputable def bv.lh (F:Nat) (p:Nat) (ks:List Nat) (n:Nat) (tm:Tm) (H:Hp):OA:=none
def bv.pn:Nat→List Nat:=fun i=>(([]:List (Nat×List Nat)).lookup i).getD []
def bv.tb:Nat→List (List Nat):=fun i=>(([]:List (Nat×List (List Nat))).lookup i).getD []
noncomputable def bv.mk (g:Int→Int→Int→Hp→OA) (args:List AV) (H:Hp):OA:=match args with
 | [(.int .i64 aa),(.int .i64 af),(.int .i64 bz)]=>g aa af bz H
 | _=>none
noncomputable def bv.cs (F:Nat):List (FuncId×(List AV→Hp→OA)):=[]
theorem bv.loops (F:Nat):LoopsOk tabs (mkOrc (bv.cs F)) bv.pn (bv.lh F) F [] 1 bv.code (fun tm H=>aresults tabs.ty H tm Try.f81.results.toList fun v=>some (v,H)) (fun _ _ _=>none) (fun tm H=>aresults tabs.ty H tm Try.f81.results.toList fun v=>some (v,H)):=by
 exact loops_none (by kernel_rfl)
theorem bv.eqX (F:Nat) (aa:Int) (af:Int) (bz:Int) (H:Hp):aCode tabs (mkOrc (bv.cs F)) bv.pn (bv.lh F) F [] 1 bv.code (argTm [(.int .i64 aa),(.int .i64 af),(.int .i64 bz)]) H (fun tm H=>aresults tabs.ty H tm Try.f81.results.toList fun v=>some (v,H)) (fun _ _ _=>none) (fun tm H=>aresults tabs.ty H tm Try.f81.results.toList fun v=>some (v,H)) = bv.twX F aa af bz H:=by kernel_rfl
theorem bv.cs_ok (F:Nat):∀ p ∈ bv.cs F,∀ args H v H',p.2 args H = some (v,H')→Go.AE.T Try.prog p.1 args H v H':=by
 intro p hp
 exact absurd (show p ∈ [] from hp) List.not_mem_nil
theorem bv.ok:codeOk bv.pn Try.f81.ntmps bv.tb bv.code = true:=by kernel_rfl
theorem bv.T {F:Nat} {aa:Int} {af:Int} {bz:Int} {H:Hp} {v:AV} {H':Hp} (h:bv.tw F aa af bz H = some (v,H')):Go.AE.T Try.prog 81 [(.int .i64 aa),(.int .i64 af),(.int .i64 bz)] H v H':=
 Go.AE.T.of (Y:=tabs) (C:=mkOrc (bv.cs F)) (PN:=bv.pn) (LH:=bv.lh F) (F:=F) (TB:=bv.tb) (fn:=Try.f81) (code:=bv.code) mixed tabs_ok (mkOrc_ok (bv.cs_ok F)) Try.func81 (by kernel_rfl) (by kernel_rfl) bv.ok (Nat.le_of_ble_eq_true (by kernel_rfl)) (bv.loops F) (Eq.trans (bv.eqX F aa af bz H) h)
theorem bv.mk_T {F:Nat} {args:List AV} {H:Hp} {v:AV} {H':Hp} (h:bv.mk (bv.tw F) args H = some (v,H')):Go.AE.T Try.prog 81 args H v H':=by
 unfold bv.mk at h
 split at h
 ·exact bv.T h
 ·cases h
noncomputable def bZ.twX (F:Nat) (aa:Int) (ab:Int) (ay:Int) (aJ:Int) (aG:Int) (H:Hp):OA:=(Hp.new H [(.int .i64 aa),(.int .i64 ab),(.int .i64 ay),(.int .i64 aJ),(.int .i64 aG)]).bind fun H6=>(Hp.ldI H6 .i64 H.length 4).bind fun n7=>(bif (n7 != 1) then ((Hp.ldI H6 .i64 H.length 4).bind fun n8=>some ((.bool (n8 != (-1))),H6)) else (some ((.bool false),H6)))
noncomputable def bZ.tw (F:Nat) (aa:Int) (ab:Int) (ay:Int) (aJ:Int) (aG:Int) (H:Hp):OA:=bZ.twX F aa ab ay aJ aG H
noncomputable def bZ.code:Go.Code:=(Try.f124.body).getD .skip
noncomputable def bZ.lh (F:Nat) (p:Nat) (ks:List Nat) (n:Nat) (tm:Tm) (H:Hp):OA:=none
def bZ.pn:Nat→List Nat:=fun i=>(([]:List (Nat×List Nat)).lookup i).getD []
def bZ.tb:Nat→List (List Nat):=fun i=>(([]:List (Nat×List (List Nat))).lookup i).getD []
noncomputable def bZ.mk (g:Int→Int→Int→Int→Int→Hp→OA) (args:List AV) (H:Hp):OA:=match args with
 | [(.agg [(.int .i64 aa),(.int .i64 ab),(.int .i64 ay),(.int .i64 aJ),(.int .i64 aG)])]=>g aa ab ay aJ aG H
 | _=>none
noncomputable def bZ.cs (F:Nat):List (FuncId×(List AV→Hp→OA)):=[]
theorem bZ.loops (F:Nat):LoopsOk tabs (mkOrc (bZ.cs F)) bZ.pn (bZ.lh F) F [] 1 bZ.code (fun tm H=>aresults tabs.ty H tm Try.f124.results.toList fun v=>some (v,H)) (fun _ _ _=>none) (fun tm H=>aresults tabs.ty H tm Try.f124.results.toList fun v=>some (v,H)):=by
 exact loops_none (by kernel_rfl)
theorem bZ.eqX (F:Nat) (aa:Int) (ab:Int) (ay:Int) (aJ:Int) (aG:Int) (H:Hp):aCode tabs (mkOrc (bZ.cs F)) bZ.pn (bZ.lh F) F [] 1 bZ.code (argTm [(.agg [(.int .i64 aa),(.int .i64 ab),(.int .i64 ay),(.int .i64 aJ),(.int .i64 aG)])]) H (fun tm H=>aresults tabs.ty H tm Try.f124.results.toList fun v=>some (v,H)) (fun _ _ _=>none) (fun tm H=>aresults tabs.ty H tm Try.f124.results.toList fun v=>some (v,H)) = bZ.twX F aa ab ay aJ aG H:=by kernel_rfl
theorem bZ.cs_ok (F:Nat):∀ p ∈ bZ.cs F,∀ args H v H',p.2 args H = some (v,H')→Go.AE.T Try.prog p.1 args H v H':=by
 intro p hp
 exact absurd (show p ∈ [] from hp) List.not_mem_nil
theorem bZ.ok:codeOk bZ.pn Try.f124.ntmps bZ.tb bZ.code = true:=by kernel_rfl
theorem bZ.T {F:Nat} {aa:Int} {ab:Int} {ay:Int} {aJ:Int} {aG:Int} {H:Hp} {v:AV} {H':Hp} (h:bZ.tw F aa ab ay aJ aG H = some (v,H')):Go.AE.T Try.prog 124 [(.agg [(.int .i64 aa),(.int .i64 ab),(.int .i64 ay),(.int .i64 aJ),(.int .i64 aG)])] H v H':=
 Go.AE.T.of (Y:=tabs) (C:=mkOrc (bZ.cs F)) (PN:=bZ.pn) (LH:=bZ.lh F) (F:=F) (TB:=bZ.tb) (fn:=Try.f124) (code:=bZ.code) mixed tabs_ok (mkOrc_ok (bZ.cs_ok F)) Try.func124 (by kernel_rfl) (by kernel_rfl) bZ.ok (Nat.le_of_ble_eq_true (by kernel_rfl)) (bZ.loops F) (Eq.trans (bZ.eqX F aa ab ay aJ aG H) h)
theorem bZ.mk_T {F:Nat} {args:List AV} {H:Hp} {v:AV} {H':Hp} (h:bZ.mk (bZ.tw F) args H = some (v,H')):Go.AE.T Try.prog 124 args H v H':=by
 unfold bZ.mk at h
 split at h
 ·exact bZ.T h
 ·cases h
noncomputable def aY.l13 (F:Nat) (eY:Int→Int→Int→Int→Int→Hp→OA) :Nat→Sl→Int→Int→Hp→OA
 | 0,_,_,_,_=>none
 | gU + 1,jc,f_,eZ,H6=>(bif (decide (eZ < f_)) then ((Sl.idx jc eZ 5).bind fun p15=>(Hp.ldI H6 .i64 p15.1 p15.2).bind fun n16=>(Hp.ldI H6 .i64 p15.1 (p15.2 + 1)).bind fun n17=>(Hp.ldI H6 .i64 p15.1 (p15.2 + 2)).bind fun n18=>(Hp.ldI H6 .i64 p15.1 (p15.2 + 3)).bind fun n19=>(Hp.ldI H6 .i64 p15.1 (p15.2 + 4)).bind fun n20=>(eY n16 n17 n18 n19 n20 H6).bind fun r21=>((r21.1).asB).bind fun b22=>(bif b22 then (some ((.int .i64 eZ),r21.2)) else (aY.l13 F eY gU jc f_ (IntKind.i64.wrap (eZ + 1)) r21.2))) else (some ((.int .i64 (-1)),H6)))
termination_by structural n=>n
noncomputable def aY.twX (F:Nat) (eY:Int→Int→Int→Int→Int→Hp→OA) (aa:Sl) (H:Hp):OA:=aY.l13 F eY F aa (aa.n:Int) 0 H
noncomputable def aY.tw (F:Nat) (aa:Sl) (H:Hp):OA:=aY.twX F (bZ.tw F) aa H
noncomputable def aY.code:Go.Code:=(Try.f153.body).getD .skip
noncomputable def aY.lh13 (F:Nat) (eY:Int→Int→Int→Int→Int→Hp→OA) (ks:List Nat) (n:Nat) (tm:Tm) (H:Hp):OA:=match ks,tm 0,tm 1,tm 7,tm 8 with
 | [],(.sl jc),(.fn 124 []),(.int .i64 f_),(.int .i64 eZ)=>aY.l13 F eY n jc f_ eZ H
 | _,_,_,_,_=>none
theorem aY.lh13_inv {F:Nat} {eY:Int→Int→Int→Int→Int→Hp→OA} {ks:List Nat} {n:Nat} {tm:Tm} {H:Hp} {r:AV×Hp} (h:aY.lh13 F eY ks n tm H = some r):∃ jc:Sl,∃ f_:Int,∃ eZ:Int,ks = []∧tm 0 = (.sl jc)∧tm 1 = (.fn 124 [])∧tm 7 = (.int .i64 f_)∧tm 8 = (.int .i64 eZ)∧aY.l13 F eY n jc f_ eZ H = some r:=by
 unfold aY.lh13 at h
 split at h
 ·exact ⟨_,_,_,rfl,by assumption,by assumption,by assumption,by assumption,h⟩
 ·cases h
noncomputable def aY.lh (F:Nat) (eY:Int→Int→Int→Int→Int→Hp→OA) (p:Nat) (ks:List Nat) (n:Nat) (tm:Tm) (H:Hp):OA:=bif p.beq 13 then aY.lh13 F eY ks n tm H else (none)
def aY.pn:Nat→List Nat:=fun i=>(([]:List (Nat×List Nat)).lookup i).getD []
def aY.tb:Nat→List (List Nat):=fun i=>(([]:List (Nat×List (List Nat))).lookup i).getD []
noncomputable def aY.mk (g:Sl→Hp→OA) (args:List AV) (H:Hp):OA:=match args with
 | [(.sl aa),(.fn 124 [])]=>g aa H
 | _=>none
noncomputable def aY.cs (F:Nat) (eY:Int→Int→Int→Int→Int→Hp→OA):List (FuncId×(List AV→Hp→OA)):=[(124,bZ.mk eY)]
theorem aY.loops (F:Nat) (eY:Int→Int→Int→Int→Int→Hp→OA):LoopsOk tabs (mkOrc (aY.cs F eY)) aY.pn (aY.lh F eY) F [] 1 aY.code (fun tm H=>aresults tabs.ty H tm Try.f153.results.toList fun v=>some (v,H)) (fun _ _ _=>none) (fun tm H=>aresults tabs.ty H tm Try.f153.results.toList fun v=>some (v,H)):=by
 refine LoopsOk.seq ?_ ?_
 ·exact loops_none (by kernel_rfl)
 ·refine LoopsOk.seq ?_ ?_
  ·refine LoopsOk.seq ?_ ?_
   ·exact loops_none (by kernel_rfl)
   ·refine LoopsOk.block ?_
    refine LoopsOk.loop (fun tm H=>?_) (fun k13 tm H r h0=>?_) (fun k13=>?_)
    ·refine none_of fun r h0=>?_
     obtain ⟨jc,f_,eZ,hks,e0,e1,e7,e8,h⟩:=aY.lh13_inv (show aY.lh13 F eY [] 0 tm H = some r from h0)
     cases h
    ·obtain ⟨jc,f_,eZ,hks,e0,e1,e7,e8,h⟩:=aY.lh13_inv (show aY.lh13 F eY [] (k13 + 1) tm H = some r from h0)
     have q0:(Tm.put tm 0 (.sl jc)) = tm:=by exact Tm.put_same e0
     have q1:(Tm.put (Tm.put tm 0 (.sl jc)) 1 (.fn 124 [])) = tm:=by rw [q0]; exact Tm.put_same e1
     have q2:(Tm.put (Tm.put (Tm.put tm 0 (.sl jc)) 1 (.fn 124 [])) 7 (.int .i64 f_)) = tm:=by rw [q1]; exact Tm.put_same e7
     have q3:(Tm.put (Tm.put (Tm.put (Tm.put tm 0 (.sl jc)) 1 (.fn 124 [])) 7 (.int .i64 f_)) 8 (.int .i64 eZ)) = tm:=by rw [q2]; exact Tm.put_same e8
     rw [← q3]
     exact Eq.trans (by kernel_rfl) h
    ·exact loops_none (by kernel_rfl)
  ·exact loops_none (by kernel_rfl)
theorem aY.eqX (F:Nat) (eY:Int→Int→Int→Int→Int→Hp→OA) (aa:Sl) (H:Hp):aCode tabs (mkOrc (aY.cs F eY)) aY.pn (aY.lh F eY) F [] 1 aY.code (argTm [(.sl aa),(.fn 124 [])]) H (fun tm H=>aresults tabs.ty H tm Try.f153.results.toList fun v=>some (v,H)) (fun _ _ _=>none) (fun tm H=>aresults tabs.ty H tm Try.f153.results.toList fun v=>some (v,H)) = aY.twX F eY aa H:=by kernel_rfl
theorem aY.cs_ok (F:Nat):∀ p ∈ aY.cs F (bZ.tw F),∀ args H v H',p.2 args H = some (v,H')→Go.AE.T Try.prog p.1 args H v H':=by
 intro p hp
 simp only [aY.cs,List.mem_cons,List.not_mem_nil,or_false] at hp
 subst hp
 exact fun args H v H' h=>bZ.mk_T h
theorem aY.ok:codeOk aY.pn Try.f153.ntmps aY.tb aY.code = true:=by kernel_rfl
theorem aY.T {F:Nat} {aa:Sl} {H:Hp} {v:AV} {H':Hp} (h:aY.tw F aa H = some (v,H')):Go.AE.T Try.prog 153 [(.sl aa),(.fn 124 [])] H v H':=
 Go.AE.T.of (Y:=tabs) (C:=mkOrc (aY.cs F (bZ.tw F))) (PN:=aY.pn) (LH:=aY.lh F (bZ.tw F)) (F:=F) (TB:=aY.tb) (fn:=Try.f153) (code:=aY.code) mixed tabs_ok (mkOrc_ok (aY.cs_ok F)) Try.func153 (by kernel_rfl) (by kernel_rfl) aY.ok (Nat.le_of_ble_eq_true (by kernel_rfl)) (aY.loops F (bZ.tw F)) (Eq.trans (aY.eqX F (bZ.tw F) aa H) h)
theorem aY.mk_T {F:Nat} {args:List AV} {H:Hp} {v:AV} {H':Hp} (h:aY.mk (aY.tw F) args H = some (v,H')):Go.AE.T Try.prog 153 args H v H':=by
 unfold aY.mk at h
 split at h
 ·exact aY.T h
 ·cases h
noncomputable def bT.twX (F:Nat) (jZ:Sl→Hp→OA) (aa:Sl) (H:Hp):OA:=(jZ aa H).bind fun r2=>((r2.1).asI .i64).bind fun n3=>some ((.bool (decide (n3 ≥ 0))),r2.2)
noncomputable def bT.tw (F:Nat) (aa:Sl) (H:Hp):OA:=bT.twX F (aY.tw F) aa H
noncomputable def bT.code:Go.Code:=(Try.f123.body).getD .skip
noncomputable def bT.lh (F:Nat) (jZ:Sl→Hp→OA) (p:Nat) (ks:List Nat) (n:Nat) (tm:Tm) (H:Hp):OA:=none
def bT.pn:Nat→List Nat:=fun i=>(([]:List (Nat×List Nat)).lookup i).getD []
def bT.tb:Nat→List (List Nat):=fun i=>(([]:List (Nat×List (List Nat))).lookup i).getD []
noncomputable def bT.mk (g:Sl→Hp→OA) (args:List AV) (H:Hp):OA:=match args with
 | [(.sl aa),(.fn 124 [])]=>g aa H
 | _=>none
noncomputable def bT.cs (F:Nat) (jZ:Sl→Hp→OA):List (FuncId×(List AV→Hp→OA)):=[(153,aY.mk jZ)]
theorem bT.loops (F:Nat) (jZ:Sl→Hp→OA):LoopsOk tabs (mkOrc (bT.cs F jZ)) bT.pn (bT.lh F jZ) F [] 1 bT.code (fun tm H=>aresults tabs.ty H tm Try.f123.results.toList fun v=>some (v,H)) (fun _ _ _=>none) (fun tm H=>aresults tabs.ty H tm Try.f123.results.toList fun v=>some (v,H)):=by
 exact loops_none (by kernel_rfl)
theorem bT.eqX (F:Nat) (jZ:Sl→Hp→OA) (aa:Sl) (H:Hp):aCode tabs (mkOrc (bT.cs F jZ)) bT.pn (bT.lh F jZ) F [] 1 bT.code (argTm [(.sl aa),(.fn 124 [])]) H (fun tm H=>aresults tabs.ty H tm Try.f123.results.toList fun v=>some (v,H)) (fun _ _ _=>none) (fun tm H=>aresults tabs.ty H tm Try.f123.results.toList fun v=>some (v,H)) = bT.twX F jZ aa H:=by kernel_rfl
theorem bT.cs_ok (F:Nat):∀ p ∈ bT.cs F (aY.tw F),∀ args H v H',p.2 args H = some (v,H')→Go.AE.T Try.prog p.1 args H v H':=by
 intro p hp
 simp only [bT.cs,List.mem_cons,List.not_mem_nil,or_false] at hp
 subst hp
 exact fun args H v H' h=>aY.mk_T h
theorem bT.ok:codeOk bT.pn Try.f123.ntmps bT.tb bT.code = true:=by kernel_rfl
theorem bT.T {F:Nat} {aa:Sl} {H:Hp} {v:AV} {H':Hp} (h:bT.tw F aa H = some (v,H')):Go.AE.T Try.prog 123 [(.sl aa),(.fn 124 [])] H v H':=
 Go.AE.T.of (Y:=tabs) (C:=mkOrc (bT.cs F (aY.tw F))) (PN:=bT.pn) (LH:=bT.lh F (aY.tw F)) (F:=F) (TB:=bT.tb) (fn:=Try.f123) (code:=bT.code) mixed tabs_ok (mkOrc_ok (bT.cs_ok F)) Try.func123 (by kernel_rfl) (by kernel_rfl) bT.ok (Nat.le_of_ble_eq_true (by kernel_rfl)) (bT.loops F (aY.tw F)) (Eq.trans (bT.eqX F (aY.tw F) aa H) h)
theorem bT.mk_T {F:Nat} {args:List AV} {H:Hp} {v:AV} {H':Hp} (h:bT.mk (bT.tw F) args H = some (v,H')):Go.AE.T Try.prog 123 args H v H':=by
 unfold bT.mk at h
 split at h
 ·exact bT.T h
 ·cases h
noncomputable def bits_Mul64.twX (F:Nat) (aa:Int) (af:Int) (H:Hp):OA:=some ((.tup [(.int .u64 (IntKind.u64.wrap ((IntKind.u64.wrap ((IntKind.u64.wrap ((Int.fdiv aa (2 ^ (min (32:Int).toNat (IntKind.u64).bits))) * (Int.fdiv af (2 ^ (min (32:Int).toNat (IntKind.u64).bits))))) + (Int.fdiv (IntKind.u64.wrap ((IntKind.u64.wrap ((Int.fdiv aa (2 ^ (min (32:Int).toNat (IntKind.u64).bits))) * (Go.bits .and .u64 af 4294967295))) + (Int.fdiv (IntKind.u64.wrap ((Go.bits .and .u64 aa 4294967295) * (Go.bits .and .u64 af 4294967295))) (2 ^ (min (32:Int).toNat (IntKind.u64).bits))))) (2 ^ (min (32:Int).toNat (IntKind.u64).bits))))) + (Int.fdiv (IntKind.u64.wrap ((Go.bits .and .u64 (IntKind.u64.wrap ((IntKind.u64.wrap ((Int.fdiv aa (2 ^ (min (32:Int).toNat (IntKind.u64).bits))) * (Go.bits .and .u64 af 4294967295))) + (Int.fdiv (IntKind.u64.wrap ((Go.bits .and .u64 aa 4294967295) * (Go.bits .and .u64 af 4294967295))) (2 ^ (min (32:Int).toNat (IntKind.u64).bits))))) 4294967295) + (IntKind.u64.wrap ((Go.bits .and .u64 aa 4294967295) * (Int.fdiv af (2 ^ (min (32:Int).toNat (IntKind.u64).bits))))))) (2 ^ (min (32:Int).toNat (IntKind.u64).bits)))))),(.int .u64 (IntKind.u64.wrap (aa * af)))]),H)
noncomputable def bits_Mul64.tw (F:Nat) (aa:Int) (af:Int) (H:Hp):OA:=bits_Mul64.twX F aa af H
noncomputable def bits_Mul64.code:Go.Code:=(Try.f172.body).getD .skip
noncomputable def bits_Mul64.lh (F:Nat) (p:Nat) (ks:List Nat) (n:Nat) (tm:Tm) (H:Hp):OA:=none
def bits_Mul64.pn:Nat→List Nat:=fun i=>(([]:List (Nat×List Nat)).lookup i).getD []
def bits_Mul64.tb:Nat→List (List Nat):=fun i=>(([]:List (Nat×List (List Nat))).lookup i).getD []
noncomputable def bits_Mul64.mk (g:Int→Int→Hp→OA) (args:List AV) (H:Hp):OA:=match args with
 | [(.int .u64 aa),(.int .u64 af)]=>g aa af H
 | _=>none
noncomputable def bits_Mul64.cs (F:Nat):List (FuncId×(List AV→Hp→OA)):=[]
theorem bits_Mul64.loops (F:Nat):LoopsOk tabs (mkOrc (bits_Mul64.cs F)) bits_Mul64.pn (bits_Mul64.lh F) F [] 1 bits_Mul64.code (fun tm H=>aresults tabs.ty H tm Try.f172.results.toList fun v=>some (v,H)) (fun _ _ _=>none) (fun tm H=>aresults tabs.ty H tm Try.f172.results.toList fun v=>some (v,H)):=by
 exact loops_none (by kernel_rfl)
theorem bits_Mul64.eqX (F:Nat) (aa:Int) (af:Int) (H:Hp):aCode tabs (mkOrc (bits_Mul64.cs F)) bits_Mul64.pn (bits_Mul64.lh F) F [] 1 bits_Mul64.code (argTm [(.int .u64 aa),(.int .u64 af)]) H (fun tm H=>aresults tabs.ty H tm Try.f172.results.toList fun v=>some (v,H)) (fun _ _ _=>none) (fun tm H=>aresults tabs.ty H tm Try.f172.results.toList fun v=>some (v,H)) = bits_Mul64.twX F aa af H:=by kernel_rfl
theorem bits_Mul64.cs_ok (F:Nat):∀ p ∈ bits_Mul64.cs F,∀ args H v H',p.2 args H = some (v,H')→Go.AE.T Try.prog p.1 args H v H':=by
 intro p hp
 exact absurd (show p ∈ [] from hp) List.not_mem_nil
theorem bits_Mul64.ok:codeOk bits_Mul64.pn Try.f172.ntmps bits_Mul64.tb bits_Mul64.code = true:=by kernel_rfl
theorem bits_Mul64.T {F:Nat} {aa:Int} {af:Int} {H:Hp} {v:AV} {H':Hp} (h:bits_Mul64.tw F aa af H = some (v,H')):Go.AE.T Try.prog 172 [(.int .u64 aa),(.int .u64 af)] H v H':=
 Go.AE.T.of (Y:=tabs) (C:=mkOrc (bits_Mul64.cs F)) (PN:=bits_Mul64.pn) (LH:=bits_Mul64.lh F) (F:=F) (TB:=bits_Mul64.tb) (fn:=Try.f172) (code:=bits_Mul64.code) mixed tabs_ok (mkOrc_ok (bits_Mul64.cs_ok F)) Try.func172 (by kernel_rfl) (by kernel_rfl) bits_Mul64.ok (Nat.le_of_ble_eq_true (by kernel_rfl)) (bits_Mul64.loops F) (Eq.trans (bits_Mul64.eqX F aa af H) h)
theorem bits_Mul64.mk_T {F:Nat} {args:List AV} {H:Hp} {v:AV} {H':Hp} (h:bits_Mul64.mk (bits_Mul64.tw F) args H = some (v,H')):Go.AE.T Try.prog 172 args H v H':=by
 unfold bits_Mul64.mk at h
 split at h
 ·exact bits_Mul64.T h
 ·cases h
noncomputable def bits_Mul.twX (F:Nat) (g_bits_Mul64:Int→Int→Hp→OA) (aa:Int) (af:Int) (H:Hp):OA:=(g_bits_Mul64 aa af H).bind fun r3=>((r3.1).asTup 2).bind fun l4=>(l4[0]?).bind fun v5=>((v5).asI .u64).bind fun n6=>(l4[1]?).bind fun v7=>((v7).asI .u64).bind fun n8=>some ((.tup [(.int .u64 n6),(.int .u64 n8)]),r3.2)
noncomputable def bits_Mul.tw (F:Nat) (aa:Int) (af:Int) (H:Hp):OA:=bits_Mul.twX F (bits_Mul64.tw F) aa af H
noncomputable def bits_Mul.code:Go.Code:=(Try.f158.body).getD .skip
noncomputable def bits_Mul.lh (F:Nat) (g_bits_Mul64:Int→Int→Hp→OA) (p:Nat) (ks:List Nat) (n:Nat) (tm:Tm) (H:Hp):OA:=none
def bits_Mul.pn:Nat→List Nat:=fun i=>(([]:List (Nat×List Nat)).lookup i).getD []
def bits_Mul.tb:Nat→List (List Nat):=fun i=>(([]:List (Nat×List (List Nat))).lookup i).getD []
noncomputable def bits_Mul.mk (g:Int→Int→Hp→OA) (args:List AV) (H:Hp):OA:=match args with
 | [(.int .u64 aa),(.int .u64 af)]=>g aa af H
 | _=>none
noncomputable def bits_Mul.cs (F:Nat) (g_bits_Mul64:Int→Int→Hp→OA):List (FuncId×(List AV→Hp→OA)):=[(172,bits_Mul64.mk g_bits_Mul64)]
theorem bits_Mul.loops (F:Nat) (g_bits_Mul64:Int→Int→Hp→OA):LoopsOk tabs (mkOrc (bits_Mul.cs F g_bits_Mul64)) bits_Mul.pn (bits_Mul.lh F g_bits_Mul64) F [] 1 bits_Mul.code (fun tm H=>aresults tabs.ty H tm Try.f158.results.toList fun v=>some (v,H)) (fun _ _ _=>none) (fun tm H=>aresults tabs.ty H tm Try.f158.results.toList fun v=>some (v,H)):=by
 exact loops_none (by kernel_rfl)
theorem bits_Mul.eqX (F:Nat) (g_bits_Mul64:Int→Int→Hp→OA) (aa:Int) (af:Int) (H:Hp):aCode tabs (mkOrc (bits_Mul.cs F g_bits_Mul64)) bits_Mul.pn (bits_Mul.lh F g_bits_Mul64) F [] 1 bits_Mul.code (argTm [(.int .u64 aa),(.int .u64 af)]) H (fun tm H=>aresults tabs.ty H tm Try.f158.results.toList fun v=>some (v,H)) (fun _ _ _=>none) (fun tm H=>aresults tabs.ty H tm Try.f158.results.toList fun v=>some (v,H)) = bits_Mul.twX F g_bits_Mul64 aa af H:=by kernel_rfl
theorem bits_Mul.cs_ok (F:Nat):∀ p ∈ bits_Mul.cs F (bits_Mul64.tw F),∀ args H v H',p.2 args H = some (v,H')→Go.AE.T Try.prog p.1 args H v H':=by
 intro p hp
 simp only [bits_Mul.cs,List.mem_cons,List.not_mem_nil,or_false] at hp
 subst hp
 exact fun args H v H' h=>bits_Mul64.mk_T h
theorem bits_Mul.ok:codeOk bits_Mul.pn Try.f158.ntmps bits_Mul.tb bits_Mul.code = true:=by kernel_rfl
theorem bits_Mul.T {F:Nat} {aa:Int} {af:Int} {H:Hp} {v:AV} {H':Hp} (h:bits_Mul.tw F aa af H = some (v,H')):Go.AE.T Try.prog 158 [(.int .u64 aa),(.int .u64 af)] H v H':=
 Go.AE.T.of (Y:=tabs) (C:=mkOrc (bits_Mul.cs F (bits_Mul64.tw F))) (PN:=bits_Mul.pn) (LH:=bits_Mul.lh F (bits_Mul64.tw F)) (F:=F) (TB:=bits_Mul.tb) (fn:=Try.f158) (code:=bits_Mul.code) mixed tabs_ok (mkOrc_ok (bits_Mul.cs_ok F)) Try.func158 (by kernel_rfl) (by kernel_rfl) bits_Mul.ok (Nat.le_of_ble_eq_true (by kernel_rfl)) (bits_Mul.loops F (bits_Mul64.tw F)) (Eq.trans (bits_Mul.eqX F (bits_Mul64.tw F) aa af H) h)
theorem bits_Mul.mk_T {F:Nat} {args:List AV} {H:Hp} {v:AV} {H':Hp} (h:bits_Mul.mk (bits_Mul.tw F) args H = some (v,H')):Go.AE.T Try.prog 158 args H v H':=by
 unfold bits_Mul.mk at h
 split at h
 ·exact bits_Mul.T h
 ·cases h
noncomputable def aP.l254 (F:Nat) (g_bits_Mul:Int→Int→Hp→OA) :Nat→Sl→Int→Hp→OA
 | 0,_,_,_=>none
 | Dt + 1,cz,cF,H33=>(bif (decide (cF < (cz.n:Int))) then ((Sl.cut cz 2 cF (cz.n:Int)).bind fun s37=>(Sl.cut cz 2 0 cF).bind fun s38=>(Hp.cpy H33 2 s37 s38).bind fun c39=>aP.l254 F g_bits_Mul Dt cz (IntKind.i64.wrap (cF + (c39.1:Int))) c39.2) else (some ((.sl cz),H33)))
termination_by structural n=>n
noncomputable def aP.j1 (F:Nat) (g_bits_Mul:Int→Int→Hp→OA) (Du:Sl) (iq:Int) (H21:Hp):OA:=(Hp.mk H21 [.int .i64 0,.int .i64 0] 16 (IntKind.i64.wrap iq) (IntKind.i64.wrap iq)).bind fun m22=>(Hp.cpy m22.2 2 m22.1 Du).bind fun c23=>aP.l254 F g_bits_Mul F m22.1 (c23.1:Int) c23.2
noncomputable def aP.j2 (F:Nat) (g_bits_Mul:Int→Int→Hp→OA) (qw:Sl) (jd:Int) (H7:Hp):OA:=(g_bits_Mul (IntKind.u64.wrap (qw.n:Int)) (IntKind.u64.wrap jd) H7).bind fun r8=>((r8.1).asTup 2).bind fun l9=>(l9[0]?).bind fun v10=>((v10).asI .u64).bind fun n11=>(l9[1]?).bind fun v12=>((v12).asI .u64).bind fun n13=>(bif (decide (n11 > 0)) then (none) else ((bif (decide (n13 > 9223372036854775807)) then (none) else (aP.j1 F g_bits_Mul qw n13 r8.2))))
noncomputable def aP.twX (F:Nat) (g_bits_Mul:Int→Int→Hp→OA) (aa:Sl) (af:Int) (H:Hp):OA:=(bif (decide (af < 0)) then (none) else (aP.j2 F g_bits_Mul aa af H))
noncomputable def aP.tw (F:Nat) (aa:Sl) (af:Int) (H:Hp):OA:=aP.twX F (bits_Mul.tw F) aa af H
noncomputable def aP.code:Go.Code:=(Try.f154.body).getD .skip
noncomputable def aP.lh254 (F:Nat) (g_bits_Mul:Int→Int→Hp→OA) (ks:List Nat) (n:Nat) (tm:Tm) (H:Hp):OA:=match ks,tm 7,tm 8 with
 | [],(.sl cz),(.int .i64 cF)=>aP.l254 F g_bits_Mul n cz cF H
 | _,_,_=>none
theorem aP.lh254_inv {F:Nat} {g_bits_Mul:Int→Int→Hp→OA} {ks:List Nat} {n:Nat} {tm:Tm} {H:Hp} {r:AV×Hp} (h:aP.lh254 F g_bits_Mul ks n tm H = some r):∃ cz:Sl,∃ cF:Int,ks = []∧tm 7 = (.sl cz)∧tm 8 = (.int .i64 cF)∧aP.l254 F g_bits_Mul n cz cF H = some r:=by
 unfold aP.lh254 at h
 split at h
 ·exact ⟨_,_,rfl,by assumption,by assumption,h⟩
 ·cases h
noncomputable def aP.lh (F:Nat) (g_bits_Mul:Int→Int→Hp→OA) (p:Nat) (ks:List Nat) (n:Nat) (tm:Tm) (H:Hp):OA:=bif p.beq 254 then aP.lh254 F g_bits_Mul ks n tm H else (none)
def aP.pn:Nat→List Nat:=fun i=>(([(9,[7])]:List (Nat×List Nat)).lookup i).getD []
def aP.tb:Nat→List (List Nat):=fun i=>(([(9,[[],[],[],[1,2],[],[],[4,5],[1,2,3,4,5,6],[0,1,2,3,4,5,6,7],[0,1,2,3,4,5,6,7,8]])]:List (Nat×List (List Nat))).lookup i).getD []
noncomputable def aP.mk (g:Sl→Int→Hp→OA) (args:List AV) (H:Hp):OA:=match args with
 | [(.sl aa),(.int .i64 af)]=>g aa af H
 | _=>none
noncomputable def aP.cs (F:Nat) (g_bits_Mul:Int→Int→Hp→OA):List (FuncId×(List AV→Hp→OA)):=[(158,bits_Mul.mk g_bits_Mul)]
theorem aP.loops (F:Nat) (g_bits_Mul:Int→Int→Hp→OA):LoopsOk tabs (mkOrc (aP.cs F g_bits_Mul)) aP.pn (aP.lh F g_bits_Mul) F [] 1 aP.code (fun tm H=>aresults tabs.ty H tm Try.f154.results.toList fun v=>some (v,H)) (fun _ _ _=>none) (fun tm H=>aresults tabs.ty H tm Try.f154.results.toList fun v=>some (v,H)):=by
 refine LoopsOk.seq ?_ ?_
 ·exact loops_none (by kernel_rfl)
 ·refine LoopsOk.seq ?_ ?_
  ·exact loops_none (by kernel_rfl)
  ·refine LoopsOk.seq ?_ ?_
   ·exact loops_none (by kernel_rfl)
   ·refine LoopsOk.seq ?_ ?_
    ·exact loops_none (by kernel_rfl)
    ·refine LoopsOk.seq ?_ ?_
     ·exact loops_none (by kernel_rfl)
     ·refine LoopsOk.seq ?_ ?_
      ·exact loops_none (by kernel_rfl)
      ·refine LoopsOk.seq ?_ ?_
       ·refine LoopsOk.block ?_
        refine LoopsOk.loop (fun tm H=>?_) (fun k254 tm H r h0=>?_) (fun k254=>?_)
        ·refine none_of fun r h0=>?_
         obtain ⟨cz,cF,hks,e7,e8,h⟩:=aP.lh254_inv (show aP.lh254 F g_bits_Mul [] 0 tm H = some r from h0)
         cases h
        ·obtain ⟨cz,cF,hks,e7,e8,h⟩:=aP.lh254_inv (show aP.lh254 F g_bits_Mul [] (k254 + 1) tm H = some r from h0)
         have q0:(Tm.put tm 7 (.sl cz)) = tm:=by exact Tm.put_same e7
         have q1:(Tm.put (Tm.put tm 7 (.sl cz)) 8 (.int .i64 cF)) = tm:=by rw [q0]; exact Tm.put_same e8
         rw [← q1]
         exact Eq.trans (by kernel_rfl) h
        ·exact loops_none (by kernel_rfl)
       ·exact loops_none (by kernel_rfl)
theorem aP.eqX (F:Nat) (g_bits_Mul:Int→Int→Hp→OA) (aa:Sl) (af:Int) (H:Hp):aCode tabs (mkOrc (aP.cs F g_bits_Mul)) aP.pn (aP.lh F g_bits_Mul) F [] 1 aP.code (argTm [(.sl aa),(.int .i64 af)]) H (fun tm H=>aresults tabs.ty H tm Try.f154.results.toList fun v=>some (v,H)) (fun _ _ _=>none) (fun tm H=>aresults tabs.ty H tm Try.f154.results.toList fun v=>some (v,H)) = aP.twX F g_bits_Mul aa af H:=by kernel_rfl
theorem aP.cs_ok (F:Nat):∀ p ∈ aP.cs F (bits_Mul.tw F),∀ args H v H',p.2 args H = some (v,H')→Go.AE.T Try.prog p.1 args H v H':=by
 intro p hp
 simp only [aP.cs,List.mem_cons,List.not_mem_nil,or_false] at hp
 subst hp
 exact fun args H v H' h=>bits_Mul.mk_T h
theorem aP.ok:codeOk aP.pn Try.f154.ntmps aP.tb aP.code = true:=by kernel_rfl
theorem aP.T {F:Nat} {aa:Sl} {af:Int} {H:Hp} {v:AV} {H':Hp} (h:aP.tw F aa af H = some (v,H')):Go.AE.T Try.prog 154 [(.sl aa),(.int .i64 af)] H v H':=
 Go.AE.T.of (Y:=tabs) (C:=mkOrc (aP.cs F (bits_Mul.tw F))) (PN:=aP.pn) (LH:=aP.lh F (bits_Mul.tw F)) (F:=F) (TB:=aP.tb) (fn:=Try.f154) (code:=aP.code) mixed tabs_ok (mkOrc_ok (aP.cs_ok F)) Try.func154 (by kernel_rfl) (by kernel_rfl) aP.ok (Nat.le_of_ble_eq_true (by kernel_rfl)) (aP.loops F (bits_Mul.tw F)) (Eq.trans (aP.eqX F (bits_Mul.tw F) aa af H) h)
theorem aP.mk_T {F:Nat} {args:List AV} {H:Hp} {v:AV} {H':Hp} (h:aP.mk (aP.tw F) args H = some (v,H')):Go.AE.T Try.prog 154 args H v H':=by
 unfold aP.mk at h
 split at h
 ·exact aP.T h
 ·cases h
noncomputable def bs.twX (F:Nat) (aa:Int) (ab:Int) (ay:Int) (aJ:Int) (aG:Int) (H:Hp):OA:=(Hp.new H [(.int .i64 aa),(.int .i64 ab),(.int .i64 ay),(.int .i64 aJ),(.int .i64 aG)]).bind fun H6=>(Hp.new H6 [.int .i64 0,.int .i64 0,.int .i64 0,.int .i64 0]).bind fun H7=>(Hp.ldI H7 .i64 H.length 0).bind fun n8=>(Hp.ldI H7 .i64 H.length 1).bind fun n9=>(Hp.ldI H7 .i64 H.length 2).bind fun n10=>(Hp.ldI H7 .i64 H.length 3).bind fun n11=>(Hp.st H7 H6.length 0 (.int .i64 n8)).bind fun H12=>(Hp.st H12 H6.length (0 + 1) (.int .i64 n9)).bind fun H13=>(Hp.st H13 H6.length (0 + 1 + 1) (.int .i64 n10)).bind fun H14=>(Hp.st H14 H6.length (0 + 1 + 1 + 1) (.int .i64 n11)).bind fun H15=>(Hp.ldI H15 .i64 H6.length 0).bind fun n16=>(Hp.ldI H15 .i64 H6.length (0 + 1)).bind fun n17=>(Hp.ldI H15 .i64 H6.length (0 + 2)).bind fun n18=>(Hp.ldI H15 .i64 H6.length (0 + 3)).bind fun n19=>some ((.agg [(.int .i64 n16),(.int .i64 n17),(.int .i64 n18),(.int .i64 n19)]),H15)
noncomputable def bs.tw (F:Nat) (aa:Int) (ab:Int) (ay:Int) (aJ:Int) (aG:Int) (H:Hp):OA:=bs.twX F aa ab ay aJ aG H
noncomputable def bs.code:Go.Code:=(Try.f155.body).getD .skip
noncomputable def bs.lh (F:Nat) (p:Nat) (ks:List Nat) (n:Nat) (tm:Tm) (H:Hp):OA:=none
def bs.pn:Nat→List Nat:=fun i=>(([]:List (Nat×List Nat)).lookup i).getD []
def bs.tb:Nat→List (List Nat):=fun i=>(([]:List (Nat×List (List Nat))).lookup i).getD []
noncomputable def bs.mk (g:Int→Int→Int→Int→Int→Hp→OA) (args:List AV) (H:Hp):OA:=match args with
 | [(.agg [(.int .i64 aa),(.int .i64 ab),(.int .i64 ay),(.int .i64 aJ),(.int .i64 aG)])]=>g aa ab ay aJ aG H
 | _=>none
noncomputable def bs.cs (F:Nat):List (FuncId×(List AV→Hp→OA)):=[]
theorem bs.loops (F:Nat):LoopsOk tabs (mkOrc (bs.cs F)) bs.pn (bs.lh F) F [] 1 bs.code (fun tm H=>aresults tabs.ty H tm Try.f155.results.toList fun v=>some (v,H)) (fun _ _ _=>none) (fun tm H=>aresults tabs.ty H tm Try.f155.results.toList fun v=>some (v,H)):=by
 exact loops_none (by kernel_rfl)
theorem bs.eqX (F:Nat) (aa:Int) (ab:Int) (ay:Int) (aJ:Int) (aG:Int) (H:Hp):aCode tabs (mkOrc (bs.cs F)) bs.pn (bs.lh F) F [] 1 bs.code (argTm [(.agg [(.int .i64 aa),(.int .i64 ab),(.int .i64 ay),(.int .i64 aJ),(.int .i64 aG)])]) H (fun tm H=>aresults tabs.ty H tm Try.f155.results.toList fun v=>some (v,H)) (fun _ _ _=>none) (fun tm H=>aresults tabs.ty H tm Try.f155.results.toList fun v=>some (v,H)) = bs.twX F aa ab ay aJ aG H:=by kernel_rfl
theorem bs.cs_ok (F:Nat):∀ p ∈ bs.cs F,∀ args H v H',p.2 args H = some (v,H')→Go.AE.T Try.prog p.1 args H v H':=by
 intro p hp
 exact absurd (show p ∈ [] from hp) List.not_mem_nil
theorem bs.ok:codeOk bs.pn Try.f155.ntmps bs.tb bs.code = true:=by kernel_rfl
theorem bs.T {F:Nat} {aa:Int} {ab:Int} {ay:Int} {aJ:Int} {aG:Int} {H:Hp} {v:AV} {H':Hp} (h:bs.tw F aa ab ay aJ aG H = some (v,H')):Go.AE.T Try.prog 155 [(.agg [(.int .i64 aa),(.int .i64 ab),(.int .i64 ay),(.int .i64 aJ),(.int .i64 aG)])] H v H':=
 Go.AE.T.of (Y:=tabs) (C:=mkOrc (bs.cs F)) (PN:=bs.pn) (LH:=bs.lh F) (F:=F) (TB:=bs.tb) (fn:=Try.f155) (code:=bs.code) mixed tabs_ok (mkOrc_ok (bs.cs_ok F)) Try.func155 (by kernel_rfl) (by kernel_rfl) bs.ok (Nat.le_of_ble_eq_true (by kernel_rfl)) (bs.loops F) (Eq.trans (bs.eqX F aa ab ay aJ aG H) h)
theorem bs.mk_T {F:Nat} {args:List AV} {H:Hp} {v:AV} {H':Hp} (h:bs.mk (bs.tw F) args H = some (v,H')):Go.AE.T Try.prog 155 args H v H':=by
 unfold bs.mk at h
 split at h
 ·exact bs.T h
 ·cases h
noncomputable def bt.twX (F:Nat) (aa:Int) (ab:Int) (ay:Int) (aJ:Int) (aG:Int) (aX:Int) (H:Hp):OA:=(Hp.new H [(.int .i64 aa),(.int .i64 ab),(.int .i64 ay),(.int .i64 aJ),(.int .i64 aG)]).bind fun H7=>(bif (aX == 0) then (some ((.bool true),H7)) else ((Hp.ldI H7 .i64 H.length 4).bind fun n8=>some ((.bool (aX == (IntKind.i64.wrap (2 + n8)))),H7)))
noncomputable def bt.tw (F:Nat) (aa:Int) (ab:Int) (ay:Int) (aJ:Int) (aG:Int) (aX:Int) (H:Hp):OA:=bt.twX F aa ab ay aJ aG aX H
noncomputable def bt.code:Go.Code:=(Try.f156.body).getD .skip
noncomputable def bt.lh (F:Nat) (p:Nat) (ks:List Nat) (n:Nat) (tm:Tm) (H:Hp):OA:=none
def bt.pn:Nat→List Nat:=fun i=>(([]:List (Nat×List Nat)).lookup i).getD []
def bt.tb:Nat→List (List Nat):=fun i=>(([]:List (Nat×List (List Nat))).lookup i).getD []
noncomputable def bt.mk (g:Int→Int→Int→Int→Int→Int→Hp→OA) (args:List AV) (H:Hp):OA:=match args with
 | [(.agg [(.int .i64 aa),(.int .i64 ab),(.int .i64 ay),(.int .i64 aJ),(.int .i64 aG)]),(.int .i64 aX)]=>g aa ab ay aJ aG aX H
 | _=>none
noncomputable def bt.cs (F:Nat):List (FuncId×(List AV→Hp→OA)):=[]
theorem bt.loops (F:Nat):LoopsOk tabs (mkOrc (bt.cs F)) bt.pn (bt.lh F) F [] 1 bt.code (fun tm H=>aresults tabs.ty H tm Try.f156.results.toList fun v=>some (v,H)) (fun _ _ _=>none) (fun tm H=>aresults tabs.ty H tm Try.f156.results.toList fun v=>some (v,H)):=by
 exact loops_none (by kernel_rfl)
theorem bt.eqX (F:Nat) (aa:Int) (ab:Int) (ay:Int) (aJ:Int) (aG:Int) (aX:Int) (H:Hp):aCode tabs (mkOrc (bt.cs F)) bt.pn (bt.lh F) F [] 1 bt.code (argTm [(.agg [(.int .i64 aa),(.int .i64 ab),(.int .i64 ay),(.int .i64 aJ),(.int .i64 aG)]),(.int .i64 aX)]) H (fun tm H=>aresults tabs.ty H tm Try.f156.results.toList fun v=>some (v,H)) (fun _ _ _=>none) (fun tm H=>aresults tabs.ty H tm Try.f156.results.toList fun v=>some (v,H)) = bt.twX F aa ab ay aJ aG aX H:=by kernel_rfl
theorem bt.cs_ok (F:Nat):∀ p ∈ bt.cs F,∀ args H v H',p.2 args H = some (v,H')→Go.AE.T Try.prog p.1 args H v H':=by
 intro p hp
 exact absurd (show p ∈ [] from hp) List.not_mem_nil
theorem bt.ok:codeOk bt.pn Try.f156.ntmps bt.tb bt.code = true:=by kernel_rfl
theorem bt.T {F:Nat} {aa:Int} {ab:Int} {ay:Int} {aJ:Int} {aG:Int} {aX:Int} {H:Hp} {v:AV} {H':Hp} (h:bt.tw F aa ab ay aJ aG aX H = some (v,H')):Go.AE.T Try.prog 156 [(.agg [(.int .i64 aa),(.int .i64 ab),(.int .i64 ay),(.int .i64 aJ),(.int .i64 aG)]),(.int .i64 aX)] H v H':=
 Go.AE.T.of (Y:=tabs) (C:=mkOrc (bt.cs F)) (PN:=bt.pn) (LH:=bt.lh F) (F:=F) (TB:=bt.tb) (fn:=Try.f156) (code:=bt.code) mixed tabs_ok (mkOrc_ok (bt.cs_ok F)) Try.func156 (by kernel_rfl) (by kernel_rfl) bt.ok (Nat.le_of_ble_eq_true (by kernel_rfl)) (bt.loops F) (Eq.trans (bt.eqX F aa ab ay aJ aG aX H) h)
theorem bt.mk_T {F:Nat} {args:List AV} {H:Hp} {v:AV} {H':Hp} (h:bt.mk (bt.tw F) args H = some (v,H')):Go.AE.T Try.prog 156 args H v H':=by
 unfold bt.mk at h
 split at h
 ·exact bt.T h
 ·cases h
noncomputable def cj.twX (F:Nat) (aa:Sl) (H:Hp):OA:=some ((.int .i64 (aa.n:Int)),H)
noncomputable def cj.tw (F:Nat) (aa:Sl) (H:Hp):OA:=cj.twX F aa H
noncomputable def cj.code:Go.Code:=(Try.f170.body).getD .skip
noncomputable def cj.lh (F:Nat) (p:Nat) (ks:List Nat) (n:Nat) (tm:Tm) (H:Hp):OA:=none
def cj.pn:Nat→List Nat:=fun i=>(([]:List (Nat×List Nat)).lookup i).getD []
def cj.tb:Nat→List (List Nat):=fun i=>(([]:List (Nat×List (List Nat))).lookup i).getD []
noncomputable def cj.mk (g:Sl→Hp→OA) (args:List AV) (H:Hp):OA:=match args with
 | [(.sl aa)]=>g aa H
 | _=>none
noncomputable def cj.cs (F:Nat):List (FuncId×(List AV→Hp→OA)):=[]
theorem cj.loops (F:Nat):LoopsOk tabs (mkOrc (cj.cs F)) cj.pn (cj.lh F) F [] 1 cj.code (fun tm H=>aresults tabs.ty H tm Try.f170.results.toList fun v=>some (v,H)) (fun _ _ _=>none) (fun tm H=>aresults tabs.ty H tm Try.f170.results.toList fun v=>some (v,H)):=by
 exact loops_none (by kernel_rfl)
theorem cj.eqX (F:Nat) (aa:Sl) (H:Hp):aCode tabs (mkOrc (cj.cs F)) cj.pn (cj.lh F) F [] 1 cj.code (argTm [(.sl aa)]) H (fun tm H=>aresults tabs.ty H tm Try.f170.results.toList fun v=>some (v,H)) (fun _ _ _=>none) (fun tm H=>aresults tabs.ty H tm Try.f170.results.toList fun v=>some (v,H)) = cj.twX F aa H:=by kernel_rfl
theorem cj.cs_ok (F:Nat):∀ p ∈ cj.cs F,∀ args H v H',p.2 args H = some (v,H')→Go.AE.T Try.prog p.1 args H v H':=by
 intro p hp
 exact absurd (show p ∈ [] from hp) List.not_mem_nil
theorem cj.ok:codeOk cj.pn Try.f170.ntmps cj.tb cj.code = true:=by kernel_rfl
theorem cj.T {F:Nat} {aa:Sl} {H:Hp} {v:AV} {H':Hp} (h:cj.tw F aa H = some (v,H')):Go.AE.T Try.prog 170 [(.sl aa)] H v H':=
 Go.AE.T.of (Y:=tabs) (C:=mkOrc (cj.cs F)) (PN:=cj.pn) (LH:=cj.lh F) (F:=F) (TB:=cj.tb) (fn:=Try.f170) (code:=cj.code) mixed tabs_ok (mkOrc_ok (cj.cs_ok F)) Try.func170 (by kernel_rfl) (by kernel_rfl) cj.ok (Nat.le_of_ble_eq_true (by kernel_rfl)) (cj.loops F) (Eq.trans (cj.eqX F aa H) h)
theorem cj.mk_T {F:Nat} {args:List AV} {H:Hp} {v:AV} {H':Hp} (h:cj.mk (cj.tw F) args H = some (v,H')):Go.AE.T Try.prog 170 args H v H':=by
 unfold cj.mk at h
 split at h
 ·exact cj.T h
 ·cases h
noncomputable def bL.twX (F:Nat) (j_:Sl→Hp→OA) (ev:Int→Int→Int→Hp→OA) (aa:Sl) (af:Int) (H:Hp):OA:=(j_ aa H).bind fun r3=>((r3.1).asI .i64).bind fun n4=>(ev af 0 (IntKind.i64.wrap (n4 - 1)) r3.2).bind fun r5=>((r5.1).asB).bind fun b6=>some ((.bool b6),r5.2)
noncomputable def bL.tw (F:Nat) (aa:Sl) (af:Int) (H:Hp):OA:=bL.twX F (cj.tw F) (bv.tw F) aa af H
noncomputable def bL.code:Go.Code:=(Try.f157.body).getD .skip
noncomputable def bL.lh (F:Nat) (j_:Sl→Hp→OA) (ev:Int→Int→Int→Hp→OA) (p:Nat) (ks:List Nat) (n:Nat) (tm:Tm) (H:Hp):OA:=none
def bL.pn:Nat→List Nat:=fun i=>(([]:List (Nat×List Nat)).lookup i).getD []
def bL.tb:Nat→List (List Nat):=fun i=>(([]:List (Nat×List (List Nat))).lookup i).getD []
noncomputable def bL.mk (g:Sl→Int→Hp→OA) (args:List AV) (H:Hp):OA:=match args with
 | [(.sl aa),(.int .i64 af)]=>g aa af H
 | _=>none
noncomputable def bL.cs (F:Nat) (j_:Sl→Hp→OA) (ev:Int→Int→Int→Hp→OA):List (FuncId×(List AV→Hp→OA)):=[(170,cj.mk j_),(81,bv.mk ev)]
theorem bL.loops (F:Nat) (j_:Sl→Hp→OA) (ev:Int→Int→Int→Hp→OA):LoopsOk tabs (mkOrc (bL.cs F j_ ev)) bL.pn (bL.lh F j_ ev) F [] 1 bL.code (fun tm H=>aresults tabs.ty H tm Try.f157.results.toList fun v=>some (v,H)) (fun _ _ _=>none) (fun tm H=>aresults tabs.ty H tm Try.f157.results.toList fun v=>some (v,H)):=by
 exact loops_none (by kernel_rfl)
theorem bL.eqX (F:Nat) (j_:Sl→Hp→OA) (ev:Int→Int→Int→Hp→OA) (aa:Sl) (af:Int) (H:Hp):aCode tabs (mkOrc (bL.cs F j_ ev)) bL.pn (bL.lh F j_ ev) F [] 1 bL.code (argTm [(.sl aa),(.int .i64 af)]) H (fun tm H=>aresults tabs.ty H tm Try.f157.results.toList fun v=>some (v,H)) (fun _ _ _=>none) (fun tm H=>aresults tabs.ty H tm Try.f157.results.toList fun v=>some (v,H)) = bL.twX F j_ ev aa af H:=by kernel_rfl
theorem bL.cs_ok (F:Nat):∀ p ∈ bL.cs F (cj.tw F) (bv.tw F),∀ args H v H',p.2 args H = some (v,H')→Go.AE.T Try.prog p.1 args H v H':=by
 intro p hp
 simp only [bL.cs,List.mem_cons,List.not_mem_nil,or_false] at hp
 rcases hp with rfl | rfl
 ·exact fun args H v H' h=>cj.mk_T h
 ·exact fun args H v H' h=>bv.mk_T h
theorem bL.ok:codeOk bL.pn Try.f157.ntmps bL.tb bL.code = true:=by kernel_rfl
theorem bL.T {F:Nat} {aa:Sl} {af:Int} {H:Hp} {v:AV} {H':Hp} (h:bL.tw F aa af H = some (v,H')):Go.AE.T Try.prog 157 [(.sl aa),(.int .i64 af)] H v H':=
 Go.AE.T.of (Y:=tabs) (C:=mkOrc (bL.cs F (cj.tw F) (bv.tw F))) (PN:=bL.pn) (LH:=bL.lh F (cj.tw F) (bv.tw F)) (F:=F) (TB:=bL.tb) (fn:=Try.f157) (code:=bL.code) mixed tabs_ok (mkOrc_ok (bL.cs_ok F)) Try.func157 (by kernel_rfl) (by kernel_rfl) bL.ok (Nat.le_of_ble_eq_true (by kernel_rfl)) (bL.loops F (cj.tw F) (bv.tw F)) (Eq.trans (bL.eqX F (cj.tw F) (bv.tw F) aa af H) h)
theorem bL.mk_T {F:Nat} {args:List AV} {H:Hp} {v:AV} {H':Hp} (h:bL.mk (bL.tw F) args H = some (v,H')):Go.AE.T Try.prog 157 args H v H':=by
 unfold bL.mk at h
 split at h
 ·exact bL.T h
 ·cases h
noncomputable def aF.l3931 (F:Nat) (cI:Sl→Int→Hp→OA) (ct:Int→Int→Int→Int→Int→Hp→OA) (cu:Int→Int→Int→Int→Int→Int→Hp→OA) (cJ:Sl→Int→Hp→OA) (C61_:Nat→Nat→Nat→Nat→Sl→Int→Int→Hp→OA):Nat→Nat→Nat→Nat→Nat→Sl→Int→Int→Nat→Nat→Int→Int→Int→Int→Int→Int→Hp→OA
 | 0,_,_,_,_,_,_,_,_,_,_,_,_,_,_,_,_=>none
 | IA + 1,cE,cM,cT,dg,ir,ew,e_,dQ,fQ,dh,di,dj,dk,dl,cH,H233=>(bif (decide (cH < 4)) then ((if 0 ≤ cH∧cH < (4:Int) then (([(.int .i64 di),(.int .i64 dj),(.int .i64 dk),(.int .i64 dl)]:List AV)[(cH:Int).toNat * 1]?).bind fun v283=>((v283).asI .i64).bind fun n284=>(Hp.ldSl H233 cT dg).bind fun s285=>(Hp.ldI H233 .i64 dQ fQ).bind fun n286=>(Hp.ldI H233 .i64 dQ (fQ + 1)).bind fun n287=>(Hp.ldI H233 .i64 dQ (fQ + 2)).bind fun n288=>(Hp.ldI H233 .i64 dQ (fQ + 3)).bind fun n289=>(Hp.ldI H233 .i64 dQ (fQ + 4)).bind fun n290=>(cu n286 n287 n288 n289 n290 cH H233).bind fun r291=>((r291.1).asB).bind fun b292=>(bif b292 then ((Hp.ldSl r291.2 cT (dg + 1)).bind fun s293=>(cJ s293 n284 r291.2).bind fun r294=>((r294.1).asB).bind fun b295=>(bif (!b295) then ((Hp.ldSl r294.2 cT dg).bind fun s296=>(Hp.ldSl r294.2 cT (dg + 1)).bind fun s297=>(Hp.st r294.2 cE cM (.sl s296)).bind fun H298=>(Hp.st H298 cE (cM + 1) (.sl s297)).bind fun H299=>(Hp.ldSl H299 cE cM).bind fun s300=>(Hp.ldSl H299 cE (cM + 1)).bind fun s301=>some ((.tup [(.agg [(.sl s300),(.sl s301)]),(.bool false)]),H299)) else ((Sl.idx s293 n284 2).bind fun p302=>(Hp.ldI r294.2 .i64 p302.1 p302.2).bind fun n303=>(bif (decide (n303 ≥ 0)) then ((Hp.ldSl r294.2 cT dg).bind fun s304=>(Hp.ldSl r294.2 cT (dg + 1)).bind fun s305=>(Hp.st r294.2 cE cM (.sl s304)).bind fun H306=>(Hp.st H306 cE (cM + 1) (.sl s305)).bind fun H307=>(Hp.ldSl H307 cE cM).bind fun s308=>(Hp.ldSl H307 cE (cM + 1)).bind fun s309=>some ((.tup [(.agg [(.sl s308),(.sl s309)]),(.bool false)]),H307)) else ((Sl.idx s293 n284 2).bind fun p310=>(Hp.st r294.2 p310.1 p310.2 (.int .i64 dh)).bind fun H311=>(Hp.st H311 p310.1 (p310.2 + 1) (.int .i64 cH)).bind fun H312=>aF.l3931 F cI ct cu cJ C61_ IA cE cM cT dg ir ew e_ dQ fQ dh di dj dk dl (IntKind.i64.wrap (cH + 1)) H312))))) else ((cJ s285 n284 r291.2).bind fun r313=>((r313.1).asB).bind fun b314=>(bif (!b314) then ((Hp.ldSl r313.2 cT dg).bind fun s315=>(Hp.ldSl r313.2 cT (dg + 1)).bind fun s316=>(Hp.st r313.2 cE cM (.sl s315)).bind fun H317=>(Hp.st H317 cE (cM + 1) (.sl s316)).bind fun H318=>(Hp.ldSl H318 cE cM).bind fun s319=>(Hp.ldSl H318 cE (cM + 1)).bind fun s320=>some ((.tup [(.agg [(.sl s319),(.sl s320)]),(.bool false)]),H318)) else ((Sl.idx s285 n284 2).bind fun p321=>(Hp.ldI r313.2 .i64 p321.1 p321.2).bind fun n322=>(bif (decide (n322 ≥ 0)) then ((Hp.ldSl r313.2 cT dg).bind fun s323=>(Hp.ldSl r313.2 cT (dg + 1)).bind fun s324=>(Hp.st r313.2 cE cM (.sl s323)).bind fun H325=>(Hp.st H325 cE (cM + 1) (.sl s324)).bind fun H326=>(Hp.ldSl H326 cE cM).bind fun s327=>(Hp.ldSl H326 cE (cM + 1)).bind fun s328=>some ((.tup [(.agg [(.sl s327),(.sl s328)]),(.bool false)]),H326)) else ((Sl.idx s285 n284 2).bind fun p329=>(Hp.st r313.2 p329.1 p329.2 (.int .i64 dh)).bind fun H330=>(Hp.st H330 p329.1 (p329.2 + 1) (.int .i64 cH)).bind fun H331=>aF.l3931 F cI ct cu cJ C61_ IA cE cM cT dg ir ew e_ dQ fQ dh di dj dk dl (IntKind.i64.wrap (cH + 1)) H331)))))) else none)) else (C61_ cE cM cT dg ir ew (IntKind.i64.wrap (e_ + 1)) H233))
termination_by structural n=>n
noncomputable def aF.l61 (F:Nat) (cI:Sl→Int→Hp→OA) (ct:Int→Int→Int→Int→Int→Hp→OA) (cu:Int→Int→Int→Int→Int→Int→Hp→OA) (cJ:Sl→Int→Hp→OA) :Nat→Nat→Nat→Nat→Nat→Sl→Int→Int→Hp→OA
 | 0,_,_,_,_,_,_,_,_=>none
 | bJ + 1,fa,g_,cv,iM,jz,ga,fb,H29=>(bif (decide (fb < ga)) then ((Sl.idx jz fb 5).bind fun p184=>(Hp.ldI H29 .i64 p184.1 p184.2).bind fun n185=>(Hp.ldI H29 .i64 p184.1 (p184.2 + 1)).bind fun n186=>(Hp.ldI H29 .i64 p184.1 (p184.2 + 2)).bind fun n187=>(Hp.ldI H29 .i64 p184.1 (p184.2 + 3)).bind fun n188=>(Hp.ldI H29 .i64 p184.1 (p184.2 + 4)).bind fun n189=>(Hp.new H29 [.int .i64 0,.int .i64 0,.int .i64 0,.int .i64 0,.int .i64 0]).bind fun H190=>(Hp.st H190 H29.length 0 (.int .i64 n185)).bind fun H191=>(Hp.st H191 H29.length (0 + 1) (.int .i64 n186)).bind fun H192=>(Hp.st H192 H29.length (0 + 1 + 1) (.int .i64 n187)).bind fun H193=>(Hp.st H193 H29.length (0 + 1 + 1 + 1) (.int .i64 n188)).bind fun H194=>(Hp.st H194 H29.length (0 + 1 + 1 + 1 + 1) (.int .i64 n189)).bind fun H195=>(Hp.ldI H195 .i64 H29.length 0).bind fun n196=>(Hp.ldI H195 .i64 H29.length (0 + 1)).bind fun n197=>(Hp.ldI H195 .i64 H29.length (0 + 2)).bind fun n198=>(Hp.ldI H195 .i64 H29.length (0 + 3)).bind fun n199=>(Hp.ldI H195 .i64 H29.length (0 + 4)).bind fun n200=>(ct n196 n197 n198 n199 n200 H195).bind fun r201=>((r201.1).asAgg 4).bind fun l202=>(l202[0]?).bind fun v203=>((v203).asI .i64).bind fun n204=>(l202[1]?).bind fun v205=>((v205).asI .i64).bind fun n206=>(l202[2]?).bind fun v207=>((v207).asI .i64).bind fun n208=>(l202[3]?).bind fun v209=>((v209).asI .i64).bind fun n210=>aF.l3931 F cI ct cu cJ (aF.l61 F cI ct cu cJ bJ) F fa g_ cv iM jz ga fb H29.length 0 fb n204 n206 n208 n210 0 r201.2) else ((Hp.ldSl H29 cv iM).bind fun s332=>(Hp.ldSl H29 cv (iM + 1)).bind fun s333=>(Hp.st H29 fa g_ (.sl s332)).bind fun H334=>(Hp.st H334 fa (g_ + 1) (.sl s333)).bind fun H335=>(Hp.ldSl H335 fa g_).bind fun s336=>(Hp.ldSl H335 fa (g_ + 1)).bind fun s337=>some ((.tup [(.agg [(.sl s336),(.sl s337)]),(.bool true)]),H335)))
termination_by structural n=>n
noncomputable def aF.twX (F:Nat) (cI:Sl→Int→Hp→OA) (ct:Int→Int→Int→Int→Int→Hp→OA) (cu:Int→Int→Int→Int→Int→Int→Hp→OA) (cJ:Sl→Int→Hp→OA) (aa:Sl) (ab:Int) (H:Hp):OA:=(Hp.new H [(.sl aa),(.int .i64 ab)]).bind fun H3=>(Hp.new H3 [.sl ⟨none,0,.ex 0⟩,.sl ⟨none,0,.ex 0⟩]).bind fun H4=>(Hp.ldSl H4 H.length 0).bind fun s5=>(Hp.new H4 [(.int .i64 (-1)),(.int .i64 0)]).bind fun H6=>(cI (⟨some (H4.length,0),1,.ex 1⟩:Sl) (IntKind.i64.wrap (2 * (s5.n:Int))) H6).bind fun r7=>((r7.1).asSl).bind fun s8=>(Hp.new r7.2 [(.int .i64 (-1)),(.int .i64 0)]).bind fun H9=>(cI (⟨some (r7.2.length,0),1,.ex 1⟩:Sl) (IntKind.i64.wrap (2 * (s5.n:Int))) H9).bind fun r10=>((r10.1).asSl).bind fun s11=>(Hp.new r10.2 [.sl ⟨none,0,.ex 0⟩,.sl ⟨none,0,.ex 0⟩]).bind fun H12=>(Hp.st H12 r10.2.length 0 (.sl s8)).bind fun H13=>(Hp.st H13 r10.2.length (0 + 1) (.sl s11)).bind fun H14=>(Hp.ldSl H14 H.length 0).bind fun s15=>aF.l61 F cI ct cu cJ F H3.length 0 r10.2.length 0 s15 (s15.n:Int) 0 H14
noncomputable def aF.tw (F:Nat) (aa:Sl) (ab:Int) (H:Hp):OA:=aF.twX F (aP.tw F) (bs.tw F) (bt.tw F) (bL.tw F) aa ab H
noncomputable def aF.code:Go.Code:=(Try.f125.body).getD .skip
noncomputable def aF.lh61 (F:Nat) (cI:Sl→Int→Hp→OA) (ct:Int→Int→Int→Int→Int→Hp→OA) (cu:Int→Int→Int→Int→Int→Int→Hp→OA) (cJ:Sl→Int→Hp→OA) (ks:List Nat) (n:Nat) (tm:Tm) (H:Hp):OA:=match ks,tm 2,tm 5,tm 25,tm 26,tm 27 with
 | [],(.ptr fa g_),(.ptr cv iM),(.sl jz),(.int .i64 ga),(.int .i64 fb)=>aF.l61 F cI ct cu cJ n fa g_ cv iM jz ga fb H
 | _,_,_,_,_,_=>none
theorem aF.lh61_inv {F:Nat} {cI:Sl→Int→Hp→OA} {ct:Int→Int→Int→Int→Int→Hp→OA} {cu:Int→Int→Int→Int→Int→Int→Hp→OA} {cJ:Sl→Int→Hp→OA} {ks:List Nat} {n:Nat} {tm:Tm} {H:Hp} {r:AV×Hp} (h:aF.lh61 F cI ct cu cJ ks n tm H = some r):∃ fa:Nat,∃ g_:Nat,∃ cv:Nat,∃ iM:Nat,∃ jz:Sl,∃ ga:Int,∃ fb:Int,ks = []∧tm 2 = (.ptr fa g_)∧tm 5 = (.ptr cv iM)∧tm 25 = (.sl jz)∧tm 26 = (.int .i64 ga)∧tm 27 = (.int .i64 fb)∧aF.l61 F cI ct cu cJ n fa g_ cv iM jz ga fb H = some r:=by
 unfold aF.lh61 at h
 split at h
 ·exact ⟨_,_,_,_,_,_,_,rfl,by assumption,by assumption,by assumption,by assumption,by assumption,h⟩
 ·cases h
noncomputable def aF.lh3931 (F:Nat) (cI:Sl→Int→Hp→OA) (ct:Int→Int→Int→Int→Int→Hp→OA) (cu:Int→Int→Int→Int→Int→Int→Hp→OA) (cJ:Sl→Int→Hp→OA) (ks:List Nat) (n:Nat) (tm:Tm) (H:Hp):OA:=match ks,tm 2,tm 5,tm 6,tm 7,tm 25,tm 26,tm 27,tm 33,tm 34 with
 | [bJ],(.ptr cE cM),(.ptr cT dg),(.int .i64 dh),(.ptr dQ fQ),(.sl ir),(.int .i64 ew),(.int .i64 e_),(.agg [(.int .i64 di),(.int .i64 dj),(.int .i64 dk),(.int .i64 dl)]),(.int .i64 cH)=>aF.l3931 F cI ct cu cJ (aF.l61 F cI ct cu cJ bJ) n cE cM cT dg ir ew e_ dQ fQ dh di dj dk dl cH H
 | _,_,_,_,_,_,_,_,_,_=>none
theorem aF.lh3931_inv {F:Nat} {cI:Sl→Int→Hp→OA} {ct:Int→Int→Int→Int→Int→Hp→OA} {cu:Int→Int→Int→Int→Int→Int→Hp→OA} {cJ:Sl→Int→Hp→OA} {ks:List Nat} {n:Nat} {tm:Tm} {H:Hp} {r:AV×Hp} (h:aF.lh3931 F cI ct cu cJ ks n tm H = some r):∃ bJ:Nat,∃ cE:Nat,∃ cM:Nat,∃ cT:Nat,∃ dg:Nat,∃ dh:Int,∃ dQ:Nat,∃ fQ:Nat,∃ ir:Sl,∃ ew:Int,∃ e_:Int,∃ di:Int,∃ dj:Int,∃ dk:Int,∃ dl:Int,∃ cH:Int,ks = [bJ]∧tm 2 = (.ptr cE cM)∧tm 5 = (.ptr cT dg)∧tm 6 = (.int .i64 dh)∧tm 7 = (.ptr dQ fQ)∧tm 25 = (.sl ir)∧tm 26 = (.int .i64 ew)∧tm 27 = (.int .i64 e_)∧tm 33 = (.agg [(.int .i64 di),(.int .i64 dj),(.int .i64 dk),(.int .i64 dl)])∧tm 34 = (.int .i64 cH)∧aF.l3931 F cI ct cu cJ (aF.l61 F cI ct cu cJ bJ) n cE cM cT dg ir ew e_ dQ fQ dh di dj dk dl cH H = some r:=by
 unfold aF.lh3931 at h
 split at h
 ·exact ⟨_,_,_,_,_,_,_,_,_,_,_,_,_,_,_,_,rfl,by assumption,by assumption,by assumption,by assumption,by assumption,by assumption,by assumption,by assumption,by assumption,h⟩
 ·cases h
noncomputable def aF.lh (F:Nat) (cI:Sl→Int→Hp→OA) (ct:Int→Int→Int→Int→Int→Hp→OA) (cu:Int→Int→Int→Int→Int→Int→Hp→OA) (cJ:Sl→Int→Hp→OA) (p:Nat) (ks:List Nat) (n:Nat) (tm:Tm) (H:Hp):OA:=bif p.beq 3931 then aF.lh3931 F cI ct cu cJ ks n tm H else (bif p.beq 61 then aF.lh61 F cI ct cu cJ ks n tm H else (none))
def aF.pn:Nat→List Nat:=fun i=>(([]:List (Nat×List Nat)).lookup i).getD []
def aF.tb:Nat→List (List Nat):=fun i=>(([]:List (Nat×List (List Nat))).lookup i).getD []
noncomputable def aF.mk (g:Sl→Int→Hp→OA) (args:List AV) (H:Hp):OA:=match args with
 | [(.agg [(.sl aa),(.int .i64 ab)])]=>g aa ab H
 | _=>none
noncomputable def aF.cs (F:Nat) (cI:Sl→Int→Hp→OA) (ct:Int→Int→Int→Int→Int→Hp→OA) (cu:Int→Int→Int→Int→Int→Int→Hp→OA) (cJ:Sl→Int→Hp→OA):List (FuncId×(List AV→Hp→OA)):=[(154,aP.mk cI),(155,bs.mk ct),(156,bt.mk cu),(157,bL.mk cJ)]
theorem aF.loops (F:Nat) (cI:Sl→Int→Hp→OA) (ct:Int→Int→Int→Int→Int→Hp→OA) (cu:Int→Int→Int→Int→Int→Int→Hp→OA) (cJ:Sl→Int→Hp→OA):LoopsOk tabs (mkOrc (aF.cs F cI ct cu cJ)) aF.pn (aF.lh F cI ct cu cJ) F [] 1 aF.code (fun tm H=>aresults tabs.ty H tm Try.f125.results.toList fun v=>some (v,H)) (fun _ _ _=>none) (fun tm H=>aresults tabs.ty H tm Try.f125.results.toList fun v=>some (v,H)):=by
 refine LoopsOk.seq ?_ ?_
 ·exact loops_none (by kernel_rfl)
 ·refine LoopsOk.seq ?_ ?_
  ·exact loops_none (by kernel_rfl)
  ·refine LoopsOk.seq ?_ ?_
   ·exact loops_none (by kernel_rfl)
   ·refine LoopsOk.seq ?_ ?_
    ·refine LoopsOk.seq ?_ ?_
     ·exact loops_none (by kernel_rfl)
     ·refine LoopsOk.block ?_
      refine LoopsOk.loop (fun tm H=>?_) (fun k61 tm H r h0=>?_) (fun k61=>?_)
      ·refine none_of fun r h0=>?_
       obtain ⟨fa,g_,cv,iM,jz,ga,fb,hks,e2,e5,e25,e26,e27,h⟩:=aF.lh61_inv (show aF.lh61 F cI ct cu cJ [] 0 tm H = some r from h0)
       cases h
      ·obtain ⟨fa,g_,cv,iM,jz,ga,fb,hks,e2,e5,e25,e26,e27,h⟩:=aF.lh61_inv (show aF.lh61 F cI ct cu cJ [] (k61 + 1) tm H = some r from h0)
       have q0:(Tm.put tm 2 (.ptr fa g_)) = tm:=by exact Tm.put_same e2
       have q1:(Tm.put (Tm.put tm 2 (.ptr fa g_)) 5 (.ptr cv iM)) = tm:=by rw [q0]; exact Tm.put_same e5
       have q2:(Tm.put (Tm.put (Tm.put tm 2 (.ptr fa g_)) 5 (.ptr cv iM)) 25 (.sl jz)) = tm:=by rw [q1]; exact Tm.put_same e25
       have q3:(Tm.put (Tm.put (Tm.put (Tm.put tm 2 (.ptr fa g_)) 5 (.ptr cv iM)) 25 (.sl jz)) 26 (.int .i64 ga)) = tm:=by rw [q2]; exact Tm.put_same e26
       have q4:(Tm.put (Tm.put (Tm.put (Tm.put (Tm.put tm 2 (.ptr fa g_)) 5 (.ptr cv iM)) 25 (.sl jz)) 26 (.int .i64 ga)) 27 (.int .i64 fb)) = tm:=by rw [q3]; exact Tm.put_same e27
       rw [← q4]
       exact Eq.trans (by kernel_rfl) h
      ·refine LoopsOk.seq ?_ ?_
       ·exact loops_none (by kernel_rfl)
       ·refine LoopsOk.seq ?_ ?_
        ·exact loops_none (by kernel_rfl)
        ·refine LoopsOk.seq ?_ ?_
         ·refine LoopsOk.block ?_
          refine LoopsOk.seq ?_ ?_
          ·exact loops_none (by kernel_rfl)
          ·refine LoopsOk.seq ?_ ?_
           ·exact loops_none (by kernel_rfl)
           ·refine LoopsOk.block ?_
            refine LoopsOk.loop (fun tm H=>?_) (fun k3931 tm H r h0=>?_) (fun k3931=>?_)
            ·refine none_of fun r h0=>?_
             obtain ⟨bJ,cE,cM,cT,dg,dh,dQ,fQ,ir,ew,e_,di,dj,dk,dl,cH,hks,e2,e5,e6,e7,e25,e26,e27,e33,e34,h⟩:=aF.lh3931_inv (show aF.lh3931 F cI ct cu cJ [k61] 0 tm H = some r from h0)
             cases h
            ·obtain ⟨bJ,cE,cM,cT,dg,dh,dQ,fQ,ir,ew,e_,di,dj,dk,dl,cH,hks,e2,e5,e6,e7,e25,e26,e27,e33,e34,h⟩:=aF.lh3931_inv (show aF.lh3931 F cI ct cu cJ [k61] (k3931 + 1) tm H = some r from h0)
             obtain rfl:bJ = k61:=by simpa [eq_comm] using hks
             have q0:(Tm.put tm 2 (.ptr cE cM)) = tm:=by exact Tm.put_same e2
             have q1:(Tm.put (Tm.put tm 2 (.ptr cE cM)) 5 (.ptr cT dg)) = tm:=by rw [q0]; exact Tm.put_same e5
             have q2:(Tm.put (Tm.put (Tm.put tm 2 (.ptr cE cM)) 5 (.ptr cT dg)) 6 (.int .i64 dh)) = tm:=by rw [q1]; exact Tm.put_same e6
             have q3:(Tm.put (Tm.put (Tm.put (Tm.put tm 2 (.ptr cE cM)) 5 (.ptr cT dg)) 6 (.int .i64 dh)) 7 (.ptr dQ fQ)) = tm:=by rw [q2]; exact Tm.put_same e7
             have q4:(Tm.put (Tm.put (Tm.put (Tm.put (Tm.put tm 2 (.ptr cE cM)) 5 (.ptr cT dg)) 6 (.int .i64 dh)) 7 (.ptr dQ fQ)) 25 (.sl ir)) = tm:=by rw [q3]; exact Tm.put_same e25
             have q5:(Tm.put (Tm.put (Tm.put (Tm.put (Tm.put (Tm.put tm 2 (.ptr cE cM)) 5 (.ptr cT dg)) 6 (.int .i64 dh)) 7 (.ptr dQ fQ)) 25 (.sl ir)) 26 (.int .i64 ew)) = tm:=by rw [q4]; exact Tm.put_same e26
             have q6:(Tm.put (Tm.put (Tm.put (Tm.put (Tm.put (Tm.put (Tm.put tm 2 (.ptr cE cM)) 5 (.ptr cT dg)) 6 (.int .i64 dh)) 7 (.ptr dQ fQ)) 25 (.sl ir)) 26 (.int .i64 ew)) 27 (.int .i64 e_)) = tm:=by rw [q5]; exact Tm.put_same e27
             have q7:(Tm.put (Tm.put (Tm.put (Tm.put (Tm.put (Tm.put (Tm.put (Tm.put tm 2 (.ptr cE cM)) 5 (.ptr cT dg)) 6 (.int .i64 dh)) 7 (.ptr dQ fQ)) 25 (.sl ir)) 26 (.int .i64 ew)) 27 (.int .i64 e_)) 33 (.agg [(.int .i64 di),(.int .i64 dj),(.int .i64 dk),(.int .i64 dl)])) = tm:=by rw [q6]; exact Tm.put_same e33
             have q8:(Tm.put (Tm.put (Tm.put (Tm.put (Tm.put (Tm.put (Tm.put (Tm.put (Tm.put tm 2 (.ptr cE cM)) 5 (.ptr cT dg)) 6 (.int .i64 dh)) 7 (.ptr dQ fQ)) 25 (.sl ir)) 26 (.int .i64 ew)) 27 (.int .i64 e_)) 33 (.agg [(.int .i64 di),(.int .i64 dj),(.int .i64 dk),(.int .i64 dl)])) 34 (.int .i64 cH)) = tm:=by rw [q7]; exact Tm.put_same e34
             rw [← q8]
             exact Eq.trans (by kernel_rfl) h
            ·exact loops_none (by kernel_rfl)
         ·exact loops_none (by kernel_rfl)
    ·exact loops_none (by kernel_rfl)
theorem aF.eqX (F:Nat) (cI:Sl→Int→Hp→OA) (ct:Int→Int→Int→Int→Int→Hp→OA) (cu:Int→Int→Int→Int→Int→Int→Hp→OA) (cJ:Sl→Int→Hp→OA) (aa:Sl) (ab:Int) (H:Hp):aCode tabs (mkOrc (aF.cs F cI ct cu cJ)) aF.pn (aF.lh F cI ct cu cJ) F [] 1 aF.code (argTm [(.agg [(.sl aa),(.int .i64 ab)])]) H (fun tm H=>aresults tabs.ty H tm Try.f125.results.toList fun v=>some (v,H)) (fun _ _ _=>none) (fun tm H=>aresults tabs.ty H tm Try.f125.results.toList fun v=>some (v,H)) = aF.twX F cI ct cu cJ aa ab H:=by kernel_rfl
theorem aF.cs_ok (F:Nat):∀ p ∈ aF.cs F (aP.tw F) (bs.tw F) (bt.tw F) (bL.tw F),∀ args H v H',p.2 args H = some (v,H')→Go.AE.T Try.prog p.1 args H v H':=by
 intro p hp
 simp only [aF.cs,List.mem_cons,List.not_mem_nil,or_false] at hp
 rcases hp with rfl | rfl | rfl | rfl
 ·exact fun args H v H' h=>aP.mk_T h
 ·exact fun args H v H' h=>bs.mk_T h
 ·exact fun args H v H' h=>bt.mk_T h
 ·exact fun args H v H' h=>bL.mk_T h
theorem aF.ok:codeOk aF.pn Try.f125.ntmps aF.tb aF.code = true:=by kernel_rfl
theorem aF.T {F:Nat} {aa:Sl} {ab:Int} {H:Hp} {v:AV} {H':Hp} (h:aF.tw F aa ab H = some (v,H')):Go.AE.T Try.prog 125 [(.agg [(.sl aa),(.int .i64 ab)])] H v H':=
 Go.AE.T.of (Y:=tabs) (C:=mkOrc (aF.cs F (aP.tw F) (bs.tw F) (bt.tw F) (bL.tw F))) (PN:=aF.pn) (LH:=aF.lh F (aP.tw F) (bs.tw F) (bt.tw F) (bL.tw F)) (F:=F) (TB:=aF.tb) (fn:=Try.f125) (code:=aF.code) mixed tabs_ok (mkOrc_ok (aF.cs_ok F)) Try.func125 (by kernel_rfl) (by kernel_rfl) aF.ok (Nat.le_of_ble_eq_true (by kernel_rfl)) (aF.loops F (aP.tw F) (bs.tw F) (bt.tw F) (bL.tw F)) (Eq.trans (aF.eqX F (aP.tw F) (bs.tw F) (bt.tw F) (bL.tw F) aa ab H) h)
theorem aF.mk_T {F:Nat} {args:List AV} {H:Hp} {v:AV} {H':Hp} (h:aF.mk (aF.tw F) args H = some (v,H')):Go.AE.T Try.prog 125 args H v H':=by
 unfold aF.mk at h
 split at h
 ·exact aF.T h
 ·cases h
noncomputable def bG.twX (F:Nat) (ct:Int→Int→Int→Int→Int→Hp→OA) (cu:Int→Int→Int→Int→Int→Int→Hp→OA) (aa:Sl) (ab:Int) (ah:Sl) (av:Sl) (bH:Int) (fd:Int) (H:Hp):OA:=(Hp.new H [(.sl aa),(.int .i64 ab)]).bind fun H7=>(Hp.new H7 [(.sl ah),(.sl av)]).bind fun H8=>(Hp.new H8 [(.int .i64 bH),(.int .i64 fd)]).bind fun H9=>(Hp.new H9 [.int .i64 0,.int .i64 0]).bind fun H10=>(Hp.ldSl H10 H.length 0).bind fun s11=>(Hp.ldI H10 .i64 H8.length 0).bind fun n12=>(Sl.idx s11 n12 5).bind fun p13=>(Hp.ldI H10 .i64 p13.1 p13.2).bind fun n14=>(Hp.ldI H10 .i64 p13.1 (p13.2 + 1)).bind fun n15=>(Hp.ldI H10 .i64 p13.1 (p13.2 + 2)).bind fun n16=>(Hp.ldI H10 .i64 p13.1 (p13.2 + 3)).bind fun n17=>(Hp.ldI H10 .i64 p13.1 (p13.2 + 4)).bind fun n18=>(Hp.new H10 [.int .i64 0,.int .i64 0,.int .i64 0,.int .i64 0,.int .i64 0]).bind fun H19=>(Hp.st H19 H10.length 0 (.int .i64 n14)).bind fun H20=>(Hp.st H20 H10.length (0 + 1) (.int .i64 n15)).bind fun H21=>(Hp.st H21 H10.length (0 + 1 + 1) (.int .i64 n16)).bind fun H22=>(Hp.st H22 H10.length (0 + 1 + 1 + 1) (.int .i64 n17)).bind fun H23=>(Hp.st H23 H10.length (0 + 1 + 1 + 1 + 1) (.int .i64 n18)).bind fun H24=>(Hp.ldI H24 .i64 H10.length 0).bind fun n25=>(Hp.ldI H24 .i64 H10.length (0 + 1)).bind fun n26=>(Hp.ldI H24 .i64 H10.length (0 + 2)).bind fun n27=>(Hp.ldI H24 .i64 H10.length (0 + 3)).bind fun n28=>(Hp.ldI H24 .i64 H10.length (0 + 4)).bind fun n29=>(ct n25 n26 n27 n28 n29 H24).bind fun r30=>((r30.1).asAgg 4).bind fun l31=>(l31[0]?).bind fun v32=>((v32).asI .i64).bind fun n33=>(l31[1]?).bind fun v34=>((v34).asI .i64).bind fun n35=>(l31[2]?).bind fun v36=>((v36).asI .i64).bind fun n37=>(l31[3]?).bind fun v38=>((v38).asI .i64).bind fun n39=>(if Cons H24 r30.2 then ((Hp.ldI r30.2 .i64 H8.length 1).bind fun n40=>(if 0 ≤ n40∧n40 < (4:Int) then (([(.int .i64 n33),(.int .i64 n35),(.int .i64 n37),(.int .i64 n39)]:List AV)[(n40:Int).toNat * 1]?).bind fun v41=>((v41).asI .i64).bind fun n42=>(Hp.ldI r30.2 .i64 H10.length 0).bind fun n43=>(Hp.ldI r30.2 .i64 H10.length (0 + 1)).bind fun n44=>(Hp.ldI r30.2 .i64 H10.length (0 + 2)).bind fun n45=>(Hp.ldI r30.2 .i64 H10.length (0 + 3)).bind fun n46=>(Hp.ldI r30.2 .i64 H10.length (0 + 4)).bind fun n47=>(Hp.ldI r30.2 .i64 H8.length 1).bind fun n48=>(cu n43 n44 n45 n46 n47 n48 r30.2).bind fun r49=>((r49.1).asB).bind fun b50=>(bif b50 then ((Hp.ldSl r49.2 H7.length 0).bind fun s51=>(Sl.idx s51 n42 2).bind fun p52=>(Hp.ldI r49.2 .i64 p52.1 p52.2).bind fun n53=>(Hp.ldI r49.2 .i64 p52.1 (p52.2 + 1)).bind fun n54=>(Hp.st r49.2 H9.length 0 (.int .i64 n53)).bind fun H55=>(Hp.st H55 H9.length (0 + 1) (.int .i64 n54)).bind fun H56=>(Hp.ldI H56 .i64 H9.length 0).bind fun n57=>(Hp.ldI H56 .i64 H9.length (0 + 1)).bind fun n58=>some ((.agg [(.int .i64 n57),(.int .i64 n58)]),H56)) else ((Hp.ldSl r49.2 H7.length 1).bind fun s59=>(Sl.idx s59 n42 2).bind fun p60=>(Hp.ldI r49.2 .i64 p60.1 p60.2).bind fun n61=>(Hp.ldI r49.2 .i64 p60.1 (p60.2 + 1)).bind fun n62=>(Hp.st r49.2 H9.length 0 (.int .i64 n61)).bind fun H63=>(Hp.st H63 H9.length (0 + 1) (.int .i64 n62)).bind fun H64=>(Hp.ldI H64 .i64 H9.length 0).bind fun n65=>(Hp.ldI H64 .i64 H9.length (0 + 1)).bind fun n66=>some ((.agg [(.int .i64 n65),(.int .i64 n66)]),H64))) else none)) else none)
noncomputable def bG.tw (F:Nat) (aa:Sl) (ab:Int) (ah:Sl) (av:Sl) (bH:Int) (fd:Int) (H:Hp):OA:=bG.twX F (bs.tw F) (bt.tw F) aa ab ah av bH fd H
noncomputable def bG.code:Go.Code:=(Try.f139.body).getD .skip
noncomputable def bG.lh (F:Nat) (ct:Int→Int→Int→Int→Int→Hp→OA) (cu:Int→Int→Int→Int→Int→Int→Hp→OA) (p:Nat) (ks:List Nat) (n:Nat) (tm:Tm) (H:Hp):OA:=none
def bG.pn:Nat→List Nat:=fun i=>(([(2,[])]:List (Nat×List Nat)).lookup i).getD []
def bG.tb:Nat→List (List Nat):=fun i=>(([(2,[[],[0],[],[2],[0,1,2,3],[0,1,2,3,4]])]:List (Nat×List (List Nat))).lookup i).getD []
noncomputable def bG.mk (g:Sl→Int→Sl→Sl→Int→Int→Hp→OA) (args:List AV) (H:Hp):OA:=match args with
 | [(.agg [(.sl aa),(.int .i64 ab)]),(.agg [(.sl ah),(.sl av)]),(.agg [(.int .i64 bH),(.int .i64 fd)])]=>g aa ab ah av bH fd H
 | _=>none
noncomputable def bG.cs (F:Nat) (ct:Int→Int→Int→Int→Int→Hp→OA) (cu:Int→Int→Int→Int→Int→Int→Hp→OA):List (FuncId×(List AV→Hp→OA)):=[(155,bs.mk ct),(156,bt.mk cu)]
theorem bG.loops (F:Nat) (ct:Int→Int→Int→Int→Int→Hp→OA) (cu:Int→Int→Int→Int→Int→Int→Hp→OA):LoopsOk tabs (mkOrc (bG.cs F ct cu)) bG.pn (bG.lh F ct cu) F [] 1 bG.code (fun tm H=>aresults tabs.ty H tm Try.f139.results.toList fun v=>some (v,H)) (fun _ _ _=>none) (fun tm H=>aresults tabs.ty H tm Try.f139.results.toList fun v=>some (v,H)):=by
 exact loops_none (by kernel_rfl)
theorem bG.eqX (F:Nat) (ct:Int→Int→Int→Int→Int→Hp→OA) (cu:Int→Int→Int→Int→Int→Int→Hp→OA) (aa:Sl) (ab:Int) (ah:Sl) (av:Sl) (bH:Int) (fd:Int) (H:Hp):aCode tabs (mkOrc (bG.cs F ct cu)) bG.pn (bG.lh F ct cu) F [] 1 bG.code (argTm [(.agg [(.sl aa),(.int .i64 ab)]),(.agg [(.sl ah),(.sl av)]),(.agg [(.int .i64 bH),(.int .i64 fd)])]) H (fun tm H=>aresults tabs.ty H tm Try.f139.results.toList fun v=>some (v,H)) (fun _ _ _=>none) (fun tm H=>aresults tabs.ty H tm Try.f139.results.toList fun v=>some (v,H)) = bG.twX F ct cu aa ab ah av bH fd H:=by kernel_rfl
theorem bG.cs_ok (F:Nat):∀ p ∈ bG.cs F (bs.tw F) (bt.tw F),∀ args H v H',p.2 args H = some (v,H')→Go.AE.T Try.prog p.1 args H v H':=by
 intro p hp
 simp only [bG.cs,List.mem_cons,List.not_mem_nil,or_false] at hp
 rcases hp with rfl | rfl
 ·exact fun args H v H' h=>bs.mk_T h
 ·exact fun args H v H' h=>bt.mk_T h
theorem bG.ok:codeOk bG.pn Try.f139.ntmps bG.tb bG.code = true:=by kernel_rfl
theorem bG.T {F:Nat} {aa:Sl} {ab:Int} {ah:Sl} {av:Sl} {bH:Int} {fd:Int} {H:Hp} {v:AV} {H':Hp} (h:bG.tw F aa ab ah av bH fd H = some (v,H')):Go.AE.T Try.prog 139 [(.agg [(.sl aa),(.int .i64 ab)]),(.agg [(.sl ah),(.sl av)]),(.agg [(.int .i64 bH),(.int .i64 fd)])] H v H':=
 Go.AE.T.of (Y:=tabs) (C:=mkOrc (bG.cs F (bs.tw F) (bt.tw F))) (PN:=bG.pn) (LH:=bG.lh F (bs.tw F) (bt.tw F)) (F:=F) (TB:=bG.tb) (fn:=Try.f139) (code:=bG.code) mixed tabs_ok (mkOrc_ok (bG.cs_ok F)) Try.func139 (by kernel_rfl) (by kernel_rfl) bG.ok (Nat.le_of_ble_eq_true (by kernel_rfl)) (bG.loops F (bs.tw F) (bt.tw F)) (Eq.trans (bG.eqX F (bs.tw F) (bt.tw F) aa ab ah av bH fd H) h)
theorem bG.mk_T {F:Nat} {args:List AV} {H:Hp} {v:AV} {H':Hp} (h:bG.mk (bG.tw F) args H = some (v,H')):Go.AE.T Try.prog 139 args H v H':=by
 unfold bG.mk at h
 split at h
 ·exact bG.T h
 ·cases h
noncomputable def aq.j4 (F:Nat) (cC:Sl→Int→Sl→Sl→Int→Int→Hp→OA) (C61_:Nat→Nat→Nat→Nat→Sl→Sl→Int→Int→Hp→OA) (wG:Nat) (Xd:Nat) (wH:Nat) (Xe:Nat) (Xf:Sl) (Xg:Sl) (oX:Int) (oY:Int) (H248:Hp):OA:=C61_ wG Xd wH Xe Xf Xg oX (IntKind.i64.wrap (oY + 1)) H248
noncomputable def aq.j5 (F:Nat) (cC:Sl→Int→Sl→Sl→Int→Int→Hp→OA) (C61_:Nat→Nat→Nat→Nat→Sl→Sl→Int→Int→Hp→OA) (wI:Nat) (Xh:Nat) (oe:Nat) (Xi:Nat) (mp:Sl) (Xj:Sl) (oZ:Int) (o_:Int) (H228:Hp):OA:=aq.j4 F cC C61_ wI Xh oe Xi mp Xj oZ o_ H228
noncomputable def aq.j6 (F:Nat) (cC:Sl→Int→Sl→Sl→Int→Int→Hp→OA) (C61_:Nat→Nat→Nat→Nat→Sl→Sl→Int→Int→Hp→OA) (qx:Nat) (IB:Nat) (qy:Nat) (ID:Nat) (IE:Sl) (IF:Sl) (IG:Sl) (mA:Int) (mB:Int) (H205:Hp):OA:=(bif (decide ((IG.n:Int) > 0)) then ((Hp.new H205 [(.sl IG)]).bind fun H206=>(Sl.row H206 (⟨some (H205.length,0),1,.ex 1⟩:Sl) 1).bind fun xs208=>(Hp.app H206 1 24 IE (⟨some (H205.length,0),1,.ex 1⟩:Sl).n xs208).bind fun a207=>aq.j5 F cC C61_ qx IB qy ID a207.1 IF mA mB a207.2) else (aq.j5 F cC C61_ qx IB qy ID IE IF mA mB H205))
noncomputable def aq.l15725 (F:Nat) (cC:Sl→Int→Sl→Sl→Int→Int→Hp→OA) (C61_:Nat→Nat→Nat→Nat→Sl→Sl→Int→Int→Hp→OA):Nat→Nat→Nat→Nat→Nat→Sl→Sl→Int→Int→Sl→Int→Hp→OA
 | 0,_,_,_,_,_,_,_,_,_,_,_=>none
 | Xk + 1,dZ,gb,ey,gG,iu,ia,gc,gH,je,dm,H164=>(Sl.idx ia dm 1).bind fun p249=>(Hp.ldB H164 p249.1 p249.2).bind fun b250=>(bif (!b250) then ((Sl.idx ia dm 1).bind fun p251=>(Hp.st H164 p251.1 p251.2 (.bool true)).bind fun H252=>(Hp.new H252 [(.int .i64 dm)]).bind fun H253=>(Sl.row H253 (⟨some (H252.length,0),1,.ex 1⟩:Sl) 1).bind fun xs255=>(Hp.app H253 1 8 je (⟨some (H252.length,0),1,.ex 1⟩:Sl).n xs255).bind fun a254=>(Hp.ldSl a254.2 dZ gb).bind fun s256=>(Hp.ldI a254.2 .i64 dZ (gb + 1)).bind fun n257=>(Hp.ldSl a254.2 ey gG).bind fun s258=>(Hp.ldSl a254.2 ey (gG + 1)).bind fun s259=>(cC s256 n257 s258 s259 (IntKind.i64.wrap (Int.tdiv dm 4)) (Int.tmod (IntKind.i64.wrap (dm + 1)) 4) a254.2).bind fun r260=>((r260.1).asAgg 2).bind fun l261=>(l261[0]?).bind fun v262=>((v262).asI .i64).bind fun n263=>(l261[1]?).bind fun v264=>((v264).asI .i64).bind fun n265=>(Hp.new r260.2 [.int .i64 0,.int .i64 0]).bind fun H266=>(Hp.st H266 r260.2.length 0 (.int .i64 n263)).bind fun H267=>(Hp.st H267 r260.2.length (0 + 1) (.int .i64 n265)).bind fun H268=>(Hp.ldI H268 .i64 r260.2.length 0).bind fun n269=>(Hp.ldI H268 .i64 r260.2.length 1).bind fun n270=>aq.l15725 F cC C61_ Xk dZ gb ey gG iu ia gc gH a254.1 (IntKind.i64.wrap ((IntKind.i64.wrap (4 * n269)) + n270)) H268) else (aq.j6 F cC C61_ dZ gb ey gG iu ia je gc gH H164))
termination_by structural n=>n
noncomputable def aq.l61 (F:Nat) (cC:Sl→Int→Sl→Sl→Int→Int→Hp→OA) :Nat→Nat→Nat→Nat→Nat→Sl→Sl→Int→Int→Hp→OA
 | 0,_,_,_,_,_,_,_,_,_=>none
 | bJ + 1,gd,iO,cU,jf,jg,ka,gf,fR,H22=>(bif (decide (fR < gf)) then (aq.l15725 F cC (aq.l61 F cC bJ) F gd iO cU jf jg ka gf fR (⟨none,0,.ex 0⟩:Sl) fR H22) else (some ((.sl jg),H22)))
termination_by structural n=>n
noncomputable def aq.twX (F:Nat) (cC:Sl→Int→Sl→Sl→Int→Int→Hp→OA) (aa:Sl) (ab:Int) (ah:Sl) (av:Sl) (H:Hp):OA:=(Hp.new H [(.sl aa),(.int .i64 ab)]).bind fun H5=>(Hp.new H5 [(.sl ah),(.sl av)]).bind fun H6=>(Hp.ldSl H6 H.length 0).bind fun s7=>(Hp.mk H6 [.bool false] 1 (IntKind.i64.wrap (4 * (s7.n:Int))) (IntKind.i64.wrap (4 * (s7.n:Int)))).bind fun m8=>aq.l61 F cC F H.length 0 H5.length 0 (⟨none,0,.ex 0⟩:Sl) m8.1 (m8.1.n:Int) 0 m8.2
noncomputable def aq.tw (F:Nat) (aa:Sl) (ab:Int) (ah:Sl) (av:Sl) (H:Hp):OA:=aq.twX F (bG.tw F) aa ab ah av H
noncomputable def aq.code:Go.Code:=(Try.f103.body).getD .skip
noncomputable def aq.lh61 (F:Nat) (cC:Sl→Int→Sl→Sl→Int→Int→Hp→OA) (ks:List Nat) (n:Nat) (tm:Tm) (H:Hp):OA:=match ks,tm 2,tm 3,tm 5,tm 6,tm 17,tm 18 with
 | [],(.ptr gd iO),(.ptr cU jf),(.sl jg),(.sl ka),(.int .i64 gf),(.int .i64 fR)=>aq.l61 F cC n gd iO cU jf jg ka gf fR H
 | _,_,_,_,_,_,_=>none
theorem aq.lh61_inv {F:Nat} {cC:Sl→Int→Sl→Sl→Int→Int→Hp→OA} {ks:List Nat} {n:Nat} {tm:Tm} {H:Hp} {r:AV×Hp} (h:aq.lh61 F cC ks n tm H = some r):∃ gd:Nat,∃ iO:Nat,∃ cU:Nat,∃ jf:Nat,∃ jg:Sl,∃ ka:Sl,∃ gf:Int,∃ fR:Int,ks = []∧tm 2 = (.ptr gd iO)∧tm 3 = (.ptr cU jf)∧tm 5 = (.sl jg)∧tm 6 = (.sl ka)∧tm 17 = (.int .i64 gf)∧tm 18 = (.int .i64 fR)∧aq.l61 F cC n gd iO cU jf jg ka gf fR H = some r:=by
 unfold aq.lh61 at h
 split at h
 ·exact ⟨_,_,_,_,_,_,_,_,rfl,by assumption,by assumption,by assumption,by assumption,by assumption,by assumption,h⟩
 ·cases h
noncomputable def aq.lh15725 (F:Nat) (cC:Sl→Int→Sl→Sl→Int→Int→Hp→OA) (ks:List Nat) (n:Nat) (tm:Tm) (H:Hp):OA:=match ks,tm 2,tm 3,tm 5,tm 6,tm 8,tm 9,tm 17,tm 18 with
 | [bJ],(.ptr dZ gb),(.ptr ey gG),(.sl iu),(.sl ia),(.sl je),(.int .i64 dm),(.int .i64 gc),(.int .i64 gH)=>aq.l15725 F cC (aq.l61 F cC bJ) n dZ gb ey gG iu ia gc gH je dm H
 | _,_,_,_,_,_,_,_,_=>none
theorem aq.lh15725_inv {F:Nat} {cC:Sl→Int→Sl→Sl→Int→Int→Hp→OA} {ks:List Nat} {n:Nat} {tm:Tm} {H:Hp} {r:AV×Hp} (h:aq.lh15725 F cC ks n tm H = some r):∃ bJ:Nat,∃ dZ:Nat,∃ gb:Nat,∃ ey:Nat,∃ gG:Nat,∃ iu:Sl,∃ ia:Sl,∃ je:Sl,∃ dm:Int,∃ gc:Int,∃ gH:Int,ks = [bJ]∧tm 2 = (.ptr dZ gb)∧tm 3 = (.ptr ey gG)∧tm 5 = (.sl iu)∧tm 6 = (.sl ia)∧tm 8 = (.sl je)∧tm 9 = (.int .i64 dm)∧tm 17 = (.int .i64 gc)∧tm 18 = (.int .i64 gH)∧aq.l15725 F cC (aq.l61 F cC bJ) n dZ gb ey gG iu ia gc gH je dm H = some r:=by
 unfold aq.lh15725 at h
 split at h
 ·exact ⟨_,_,_,_,_,_,_,_,_,_,_,rfl,by assumption,by assumption,by assumption,by assumption,by assumption,by assumption,by assumption,by assumption,h⟩
 ·cases h
noncomputable def aq.lh (F:Nat) (cC:Sl→Int→Sl→Sl→Int→Int→Hp→OA) (p:Nat) (ks:List Nat) (n:Nat) (tm:Tm) (H:Hp):OA:=bif p.beq 15725 then aq.lh15725 F cC ks n tm H else (bif p.beq 61 then aq.lh61 F cC ks n tm H else (none))
def aq.pn:Nat→List Nat:=fun i=>(([]:List (Nat×List Nat)).lookup i).getD []
def aq.tb:Nat→List (List Nat):=fun i=>(([]:List (Nat×List (List Nat))).lookup i).getD []
noncomputable def aq.mk (g:Sl→Int→Sl→Sl→Hp→OA) (args:List AV) (H:Hp):OA:=match args with
 | [(.agg [(.sl aa),(.int .i64 ab)]),(.agg [(.sl ah),(.sl av)])]=>g aa ab ah av H
 | _=>none
noncomputable def aq.cs (F:Nat) (cC:Sl→Int→Sl→Sl→Int→Int→Hp→OA):List (FuncId×(List AV→Hp→OA)):=[(139,bG.mk cC)]
theorem aq.loops (F:Nat) (cC:Sl→Int→Sl→Sl→Int→Int→Hp→OA):LoopsOk tabs (mkOrc (aq.cs F cC)) aq.pn (aq.lh F cC) F [] 1 aq.code (fun tm H=>aresults tabs.ty H tm Try.f103.results.toList fun v=>some (v,H)) (fun _ _ _=>none) (fun tm H=>aresults tabs.ty H tm Try.f103.results.toList fun v=>some (v,H)):=by
 refine LoopsOk.seq ?_ ?_
 ·exact loops_none (by kernel_rfl)
 ·refine LoopsOk.seq ?_ ?_
  ·exact loops_none (by kernel_rfl)
  ·refine LoopsOk.seq ?_ ?_
   ·exact loops_none (by kernel_rfl)
   ·refine LoopsOk.seq ?_ ?_
    ·refine LoopsOk.seq ?_ ?_
     ·exact loops_none (by kernel_rfl)
     ·refine LoopsOk.block ?_
      refine LoopsOk.loop (fun tm H=>?_) (fun k61 tm H r h0=>?_) (fun k61=>?_)
      ·refine none_of fun r h0=>?_
       obtain ⟨gd,iO,cU,jf,jg,ka,gf,fR,hks,e2,e3,e5,e6,e17,e18,h⟩:=aq.lh61_inv (show aq.lh61 F cC [] 0 tm H = some r from h0)
       cases h
      ·obtain ⟨gd,iO,cU,jf,jg,ka,gf,fR,hks,e2,e3,e5,e6,e17,e18,h⟩:=aq.lh61_inv (show aq.lh61 F cC [] (k61 + 1) tm H = some r from h0)
       have q0:(Tm.put tm 2 (.ptr gd iO)) = tm:=by exact Tm.put_same e2
       have q1:(Tm.put (Tm.put tm 2 (.ptr gd iO)) 3 (.ptr cU jf)) = tm:=by rw [q0]; exact Tm.put_same e3
       have q2:(Tm.put (Tm.put (Tm.put tm 2 (.ptr gd iO)) 3 (.ptr cU jf)) 5 (.sl jg)) = tm:=by rw [q1]; exact Tm.put_same e5
       have q3:(Tm.put (Tm.put (Tm.put (Tm.put tm 2 (.ptr gd iO)) 3 (.ptr cU jf)) 5 (.sl jg)) 6 (.sl ka)) = tm:=by rw [q2]; exact Tm.put_same e6
       have q4:(Tm.put (Tm.put (Tm.put (Tm.put (Tm.put tm 2 (.ptr gd iO)) 3 (.ptr cU jf)) 5 (.sl jg)) 6 (.sl ka)) 17 (.int .i64 gf)) = tm:=by rw [q3]; exact Tm.put_same e17
       have q5:(Tm.put (Tm.put (Tm.put (Tm.put (Tm.put (Tm.put tm 2 (.ptr gd iO)) 3 (.ptr cU jf)) 5 (.sl jg)) 6 (.sl ka)) 17 (.int .i64 gf)) 18 (.int .i64 fR)) = tm:=by rw [q4]; exact Tm.put_same e18
       rw [← q5]
       exact Eq.trans (by kernel_rfl) h
      ·refine LoopsOk.seq ?_ ?_
       ·exact loops_none (by kernel_rfl)
       ·refine LoopsOk.seq ?_ ?_
        ·exact loops_none (by kernel_rfl)
        ·refine LoopsOk.seq ?_ ?_
         ·refine LoopsOk.block ?_
          refine LoopsOk.seq ?_ ?_
          ·exact loops_none (by kernel_rfl)
          ·refine LoopsOk.seq ?_ ?_
           ·exact loops_none (by kernel_rfl)
           ·refine LoopsOk.seq ?_ ?_
            ·refine LoopsOk.seq ?_ ?_
             ·exact loops_none (by kernel_rfl)
             ·refine LoopsOk.block ?_
              refine LoopsOk.loop (fun tm H=>?_) (fun k15725 tm H r h0=>?_) (fun k15725=>?_)
              ·refine none_of fun r h0=>?_
               obtain ⟨bJ,dZ,gb,ey,gG,iu,ia,je,dm,gc,gH,hks,e2,e3,e5,e6,e8,e9,e17,e18,h⟩:=aq.lh15725_inv (show aq.lh15725 F cC [k61] 0 tm H = some r from h0)
               cases h
              ·obtain ⟨bJ,dZ,gb,ey,gG,iu,ia,je,dm,gc,gH,hks,e2,e3,e5,e6,e8,e9,e17,e18,h⟩:=aq.lh15725_inv (show aq.lh15725 F cC [k61] (k15725 + 1) tm H = some r from h0)
               obtain rfl:bJ = k61:=by simpa [eq_comm] using hks
               have q0:(Tm.put tm 2 (.ptr dZ gb)) = tm:=by exact Tm.put_same e2
               have q1:(Tm.put (Tm.put tm 2 (.ptr dZ gb)) 3 (.ptr ey gG)) = tm:=by rw [q0]; exact Tm.put_same e3
               have q2:(Tm.put (Tm.put (Tm.put tm 2 (.ptr dZ gb)) 3 (.ptr ey gG)) 5 (.sl iu)) = tm:=by rw [q1]; exact Tm.put_same e5
               have q3:(Tm.put (Tm.put (Tm.put (Tm.put tm 2 (.ptr dZ gb)) 3 (.ptr ey gG)) 5 (.sl iu)) 6 (.sl ia)) = tm:=by rw [q2]; exact Tm.put_same e6
               have q4:(Tm.put (Tm.put (Tm.put (Tm.put (Tm.put tm 2 (.ptr dZ gb)) 3 (.ptr ey gG)) 5 (.sl iu)) 6 (.sl ia)) 8 (.sl je)) = tm:=by rw [q3]; exact Tm.put_same e8
               have q5:(Tm.put (Tm.put (Tm.put (Tm.put (Tm.put (Tm.put tm 2 (.ptr dZ gb)) 3 (.ptr ey gG)) 5 (.sl iu)) 6 (.sl ia)) 8 (.sl je)) 9 (.int .i64 dm)) = tm:=by rw [q4]; exact Tm.put_same e9
               have q6:(Tm.put (Tm.put (Tm.put (Tm.put (Tm.put (Tm.put (Tm.put tm 2 (.ptr dZ gb)) 3 (.ptr ey gG)) 5 (.sl iu)) 6 (.sl ia)) 8 (.sl je)) 9 (.int .i64 dm)) 17 (.int .i64 gc)) = tm:=by rw [q5]; exact Tm.put_same e17
               have q7:(Tm.put (Tm.put (Tm.put (Tm.put (Tm.put (Tm.put (Tm.put (Tm.put tm 2 (.ptr dZ gb)) 3 (.ptr ey gG)) 5 (.sl iu)) 6 (.sl ia)) 8 (.sl je)) 9 (.int .i64 dm)) 17 (.int .i64 gc)) 18 (.int .i64 gH)) = tm:=by rw [q6]; exact Tm.put_same e18
               rw [← q7]
               exact Eq.trans (by kernel_rfl) h
              ·exact loops_none (by kernel_rfl)
            ·exact loops_none (by kernel_rfl)
         ·exact loops_none (by kernel_rfl)
    ·exact loops_none (by kernel_rfl)
theorem aq.eqX (F:Nat) (cC:Sl→Int→Sl→Sl→Int→Int→Hp→OA) (aa:Sl) (ab:Int) (ah:Sl) (av:Sl) (H:Hp):aCode tabs (mkOrc (aq.cs F cC)) aq.pn (aq.lh F cC) F [] 1 aq.code (argTm [(.agg [(.sl aa),(.int .i64 ab)]),(.agg [(.sl ah),(.sl av)])]) H (fun tm H=>aresults tabs.ty H tm Try.f103.results.toList fun v=>some (v,H)) (fun _ _ _=>none) (fun tm H=>aresults tabs.ty H tm Try.f103.results.toList fun v=>some (v,H)) = aq.twX F cC aa ab ah av H:=by kernel_rfl
theorem aq.cs_ok (F:Nat):∀ p ∈ aq.cs F (bG.tw F),∀ args H v H',p.2 args H = some (v,H')→Go.AE.T Try.prog p.1 args H v H':=by
 intro p hp
 simp only [aq.cs,List.mem_cons,List.not_mem_nil,or_false] at hp
 subst hp
 exact fun args H v H' h=>bG.mk_T h
theorem aq.ok:codeOk aq.pn Try.f103.ntmps aq.tb aq.code = true:=by kernel_rfl
theorem aq.T {F:Nat} {aa:Sl} {ab:Int} {ah:Sl} {av:Sl} {H:Hp} {v:AV} {H':Hp} (h:aq.tw F aa ab ah av H = some (v,H')):Go.AE.T Try.prog 103 [(.agg [(.sl aa),(.int .i64 ab)]),(.agg [(.sl ah),(.sl av)])] H v H':=
 Go.AE.T.of (Y:=tabs) (C:=mkOrc (aq.cs F (bG.tw F))) (PN:=aq.pn) (LH:=aq.lh F (bG.tw F)) (F:=F) (TB:=aq.tb) (fn:=Try.f103) (code:=aq.code) mixed tabs_ok (mkOrc_ok (aq.cs_ok F)) Try.func103 (by kernel_rfl) (by kernel_rfl) aq.ok (Nat.le_of_ble_eq_true (by kernel_rfl)) (aq.loops F (bG.tw F)) (Eq.trans (aq.eqX F (bG.tw F) aa ab ah av H) h)
theorem aq.mk_T {F:Nat} {args:List AV} {H:Hp} {v:AV} {H':Hp} (h:aq.mk (aq.tw F) args H = some (v,H')):Go.AE.T Try.prog 103 args H v H':=by
 unfold aq.mk at h
 split at h
 ·exact aq.T h
 ·cases h
noncomputable def ck.twX (F:Nat) (aa:Sl) (H:Hp):OA:=some ((.int .i64 (aa.n:Int)),H)
noncomputable def ck.tw (F:Nat) (aa:Sl) (H:Hp):OA:=ck.twX F aa H
noncomputable def ck.code:Go.Code:=(Try.f89.body).getD .skip
noncomputable def ck.lh (F:Nat) (p:Nat) (ks:List Nat) (n:Nat) (tm:Tm) (H:Hp):OA:=none
def ck.pn:Nat→List Nat:=fun i=>(([]:List (Nat×List Nat)).lookup i).getD []
def ck.tb:Nat→List (List Nat):=fun i=>(([]:List (Nat×List (List Nat))).lookup i).getD []
noncomputable def ck.mk (g:Sl→Hp→OA) (args:List AV) (H:Hp):OA:=match args with
 | [(.sl aa)]=>g aa H
 | _=>none
noncomputable def ck.cs (F:Nat):List (FuncId×(List AV→Hp→OA)):=[]
theorem ck.loops (F:Nat):LoopsOk tabs (mkOrc (ck.cs F)) ck.pn (ck.lh F) F [] 1 ck.code (fun tm H=>aresults tabs.ty H tm Try.f89.results.toList fun v=>some (v,H)) (fun _ _ _=>none) (fun tm H=>aresults tabs.ty H tm Try.f89.results.toList fun v=>some (v,H)):=by
 exact loops_none (by kernel_rfl)
theorem ck.eqX (F:Nat) (aa:Sl) (H:Hp):aCode tabs (mkOrc (ck.cs F)) ck.pn (ck.lh F) F [] 1 ck.code (argTm [(.sl aa)]) H (fun tm H=>aresults tabs.ty H tm Try.f89.results.toList fun v=>some (v,H)) (fun _ _ _=>none) (fun tm H=>aresults tabs.ty H tm Try.f89.results.toList fun v=>some (v,H)) = ck.twX F aa H:=by kernel_rfl
theorem ck.cs_ok (F:Nat):∀ p ∈ ck.cs F,∀ args H v H',p.2 args H = some (v,H')→Go.AE.T Try.prog p.1 args H v H':=by
 intro p hp
 exact absurd (show p ∈ [] from hp) List.not_mem_nil
theorem ck.ok:codeOk ck.pn Try.f89.ntmps ck.tb ck.code = true:=by kernel_rfl
theorem ck.T {F:Nat} {aa:Sl} {H:Hp} {v:AV} {H':Hp} (h:ck.tw F aa H = some (v,H')):Go.AE.T Try.prog 89 [(.sl aa)] H v H':=
 Go.AE.T.of (Y:=tabs) (C:=mkOrc (ck.cs F)) (PN:=ck.pn) (LH:=ck.lh F) (F:=F) (TB:=ck.tb) (fn:=Try.f89) (code:=ck.code) mixed tabs_ok (mkOrc_ok (ck.cs_ok F)) Try.func89 (by kernel_rfl) (by kernel_rfl) ck.ok (Nat.le_of_ble_eq_true (by kernel_rfl)) (ck.loops F) (Eq.trans (ck.eqX F aa H) h)
theorem ck.mk_T {F:Nat} {args:List AV} {H:Hp} {v:AV} {H':Hp} (h:ck.mk (ck.tw F) args H = some (v,H')):Go.AE.T Try.prog 89 args H v H':=by
 unfold ck.mk at h
 split at h
 ·exact ck.T h
 ·cases h
noncomputable def aZ.l29 (F:Nat) :Nat→Sl→Int→Int→Hp→OA
 | 0,_,_,_,_=>none
 | fx + 1,jA,gh,fe,H7=>(bif (decide (fe < gh)) then ((Hp.new H7 [(.int .i64 fe)]).bind fun H11=>(Sl.row H11 (⟨some (H7.length,0),1,.ex 1⟩:Sl) 1).bind fun xs13=>(Hp.app H11 1 8 jA (⟨some (H7.length,0),1,.ex 1⟩:Sl).n xs13).bind fun a12=>aZ.l29 F fx a12.1 gh (IntKind.i64.wrap (fe + 1)) a12.2) else (some ((.sl jA),H7)))
termination_by structural n=>n
noncomputable def aZ.twX (F:Nat) (aa:Int) (H:Hp):OA:=aZ.l29 F F (⟨none,0,.ex 0⟩:Sl) aa 0 H
noncomputable def aZ.tw (F:Nat) (aa:Int) (H:Hp):OA:=aZ.twX F aa H
noncomputable def aZ.code:Go.Code:=(Try.f116.body).getD .skip
noncomputable def aZ.lh29 (F:Nat) (ks:List Nat) (n:Nat) (tm:Tm) (H:Hp):OA:=match ks,tm 3,tm 5,tm 6 with
 | [],(.sl jA),(.int .i64 gh),(.int .i64 fe)=>aZ.l29 F n jA gh fe H
 | _,_,_,_=>none
theorem aZ.lh29_inv {F:Nat} {ks:List Nat} {n:Nat} {tm:Tm} {H:Hp} {r:AV×Hp} (h:aZ.lh29 F ks n tm H = some r):∃ jA:Sl,∃ gh:Int,∃ fe:Int,ks = []∧tm 3 = (.sl jA)∧tm 5 = (.int .i64 gh)∧tm 6 = (.int .i64 fe)∧aZ.l29 F n jA gh fe H = some r:=by
 unfold aZ.lh29 at h
 split at h
 ·exact ⟨_,_,_,rfl,by assumption,by assumption,by assumption,h⟩
 ·cases h
noncomputable def aZ.lh (F:Nat) (p:Nat) (ks:List Nat) (n:Nat) (tm:Tm) (H:Hp):OA:=bif p.beq 29 then aZ.lh29 F ks n tm H else (none)
def aZ.pn:Nat→List Nat:=fun i=>(([]:List (Nat×List Nat)).lookup i).getD []
def aZ.tb:Nat→List (List Nat):=fun i=>(([]:List (Nat×List (List Nat))).lookup i).getD []
noncomputable def aZ.mk (g:Int→Hp→OA) (args:List AV) (H:Hp):OA:=match args with
 | [(.int .i64 aa)]=>g aa H
 | _=>none
noncomputable def aZ.cs (F:Nat):List (FuncId×(List AV→Hp→OA)):=[]
theorem aZ.loops (F:Nat):LoopsOk tabs (mkOrc (aZ.cs F)) aZ.pn (aZ.lh F) F [] 1 aZ.code (fun tm H=>aresults tabs.ty H tm Try.f116.results.toList fun v=>some (v,H)) (fun _ _ _=>none) (fun tm H=>aresults tabs.ty H tm Try.f116.results.toList fun v=>some (v,H)):=by
 refine LoopsOk.seq ?_ ?_
 ·exact loops_none (by kernel_rfl)
 ·refine LoopsOk.seq ?_ ?_
  ·exact loops_none (by kernel_rfl)
  ·refine LoopsOk.seq ?_ ?_
   ·refine LoopsOk.seq ?_ ?_
    ·exact loops_none (by kernel_rfl)
    ·refine LoopsOk.block ?_
     refine LoopsOk.loop (fun tm H=>?_) (fun k29 tm H r h0=>?_) (fun k29=>?_)
     ·refine none_of fun r h0=>?_
      obtain ⟨jA,gh,fe,hks,e3,e5,e6,h⟩:=aZ.lh29_inv (show aZ.lh29 F [] 0 tm H = some r from h0)
      cases h
     ·obtain ⟨jA,gh,fe,hks,e3,e5,e6,h⟩:=aZ.lh29_inv (show aZ.lh29 F [] (k29 + 1) tm H = some r from h0)
      have q0:(Tm.put tm 3 (.sl jA)) = tm:=by exact Tm.put_same e3
      have q1:(Tm.put (Tm.put tm 3 (.sl jA)) 5 (.int .i64 gh)) = tm:=by rw [q0]; exact Tm.put_same e5
      have q2:(Tm.put (Tm.put (Tm.put tm 3 (.sl jA)) 5 (.int .i64 gh)) 6 (.int .i64 fe)) = tm:=by rw [q1]; exact Tm.put_same e6
      rw [← q2]
      exact Eq.trans (by kernel_rfl) h
     ·exact loops_none (by kernel_rfl)
   ·exact loops_none (by kernel_rfl)
theorem aZ.eqX (F:Nat) (aa:Int) (H:Hp):aCode tabs (mkOrc (aZ.cs F)) aZ.pn (aZ.lh F) F [] 1 aZ.code (argTm [(.int .i64 aa)]) H (fun tm H=>aresults tabs.ty H tm Try.f116.results.toList fun v=>some (v,H)) (fun _ _ _=>none) (fun tm H=>aresults tabs.ty H tm Try.f116.results.toList fun v=>some (v,H)) = aZ.twX F aa H:=by kernel_rfl
theorem aZ.cs_ok (F:Nat):∀ p ∈ aZ.cs F,∀ args H v H',p.2 args H = some (v,H')→Go.AE.T Try.prog p.1 args H v H':=by
 intro p hp
 exact absurd (show p ∈ [] from hp) List.not_mem_nil
theorem aZ.ok:codeOk aZ.pn Try.f116.ntmps aZ.tb aZ.code = true:=by kernel_rfl
theorem aZ.T {F:Nat} {aa:Int} {H:Hp} {v:AV} {H':Hp} (h:aZ.tw F aa H = some (v,H')):Go.AE.T Try.prog 116 [(.int .i64 aa)] H v H':=
 Go.AE.T.of (Y:=tabs) (C:=mkOrc (aZ.cs F)) (PN:=aZ.pn) (LH:=aZ.lh F) (F:=F) (TB:=aZ.tb) (fn:=Try.f116) (code:=aZ.code) mixed tabs_ok (mkOrc_ok (aZ.cs_ok F)) Try.func116 (by kernel_rfl) (by kernel_rfl) aZ.ok (Nat.le_of_ble_eq_true (by kernel_rfl)) (aZ.loops F) (Eq.trans (aZ.eqX F aa H) h)
theorem aZ.mk_T {F:Nat} {args:List AV} {H:Hp} {v:AV} {H':Hp} (h:aZ.mk (aZ.tw F) args H = some (v,H')):Go.AE.T Try.prog 116 args H v H':=by
 unfold aZ.mk at h
 split at h
 ·exact aZ.T h
 ·cases h
noncomputable def aN.j2 (F:Nat) (C7_:Sl→Int→Int→Sl→Int→Int→Hp→OA) (Xl:Sl) (pa:Int) (pb:Int) (Xm:Sl) (pc:Int) (pd:Int) (H50:Hp):OA:=C7_ Xl pa pb Xm pc (IntKind.i64.wrap (pd + 1)) H50
noncomputable def aN.l7 (F:Nat) :Nat→Sl→Int→Int→Sl→Int→Int→Hp→OA
 | 0,_,_,_,_,_,_,_=>none
 | IH + 1,da,d_,ez,jh,fC,ea,H16=>(bif (decide (ea < fC)) then ((Sl.idx jh ea 1).bind fun p34=>(Hp.ldI H16 .i64 p34.1 p34.2).bind fun n35=>(bif (n35 == d_) then ((Sl.idx da ea 1).bind fun p36=>(Hp.st H16 p36.1 p36.2 (.int .i64 ez)).bind fun H37=>aN.j2 F (aN.l7 F IH) da d_ ez jh fC ea H37) else (aN.j2 F (aN.l7 F IH) da d_ ez jh fC ea H16))) else (some ((.tup []),H16)))
termination_by structural n=>n
noncomputable def aN.twX (F:Nat) (aa:Sl) (af:Int) (bz:Int) (H:Hp):OA:=(Sl.idx aa bz 1).bind fun p4=>(Hp.ldI H .i64 p4.1 p4.2).bind fun n5=>(Sl.idx aa af 1).bind fun p6=>(Hp.ldI H .i64 p6.1 p6.2).bind fun n7=>aN.l7 F F aa n5 n7 aa (aa.n:Int) 0 H
noncomputable def aN.tw (F:Nat) (aa:Sl) (af:Int) (bz:Int) (H:Hp):OA:=aN.twX F aa af bz H
noncomputable def aN.code:Go.Code:=(Try.f118.body).getD .skip
noncomputable def aN.lh7 (F:Nat) (ks:List Nat) (n:Nat) (tm:Tm) (H:Hp):OA:=match ks,tm 0,tm 6,tm 7,tm 18,tm 19,tm 20 with
 | [],(.sl da),(.int .i64 d_),(.int .i64 ez),(.sl jh),(.int .i64 fC),(.int .i64 ea)=>aN.l7 F n da d_ ez jh fC ea H
 | _,_,_,_,_,_,_=>none
theorem aN.lh7_inv {F:Nat} {ks:List Nat} {n:Nat} {tm:Tm} {H:Hp} {r:AV×Hp} (h:aN.lh7 F ks n tm H = some r):∃ da:Sl,∃ d_:Int,∃ ez:Int,∃ jh:Sl,∃ fC:Int,∃ ea:Int,ks = []∧tm 0 = (.sl da)∧tm 6 = (.int .i64 d_)∧tm 7 = (.int .i64 ez)∧tm 18 = (.sl jh)∧tm 19 = (.int .i64 fC)∧tm 20 = (.int .i64 ea)∧aN.l7 F n da d_ ez jh fC ea H = some r:=by
 unfold aN.lh7 at h
 split at h
 ·exact ⟨_,_,_,_,_,_,rfl,by assumption,by assumption,by assumption,by assumption,by assumption,by assumption,h⟩
 ·cases h
noncomputable def aN.lh (F:Nat) (p:Nat) (ks:List Nat) (n:Nat) (tm:Tm) (H:Hp):OA:=bif p.beq 7 then aN.lh7 F ks n tm H else (none)
def aN.pn:Nat→List Nat:=fun i=>(([(0,[])]:List (Nat×List Nat)).lookup i).getD []
def aN.tb:Nat→List (List Nat):=fun i=>(([(0,[[],[],[0,1],[0,1,2],[],[],[4,5],[4,5,6],[0,1,2,3],[0,1,2,3,4,5,6,7,8]])]:List (Nat×List (List Nat))).lookup i).getD []
noncomputable def aN.mk (g:Sl→Int→Int→Hp→OA) (args:List AV) (H:Hp):OA:=match args with
 | [(.sl aa),(.int .i64 af),(.int .i64 bz)]=>g aa af bz H
 | _=>none
noncomputable def aN.cs (F:Nat):List (FuncId×(List AV→Hp→OA)):=[]
theorem aN.loops (F:Nat):LoopsOk tabs (mkOrc (aN.cs F)) aN.pn (aN.lh F) F [] 1 aN.code (fun tm H=>aresults tabs.ty H tm Try.f118.results.toList fun v=>some (v,H)) (fun _ _ _=>none) (fun tm H=>aresults tabs.ty H tm Try.f118.results.toList fun v=>some (v,H)):=by
 refine LoopsOk.seq ?_ ?_
 ·exact loops_none (by kernel_rfl)
 ·refine LoopsOk.seq ?_ ?_
  ·exact loops_none (by kernel_rfl)
  ·refine LoopsOk.block ?_
   refine LoopsOk.loop (fun tm H=>?_) (fun k7 tm H r h0=>?_) (fun k7=>?_)
   ·refine none_of fun r h0=>?_
    obtain ⟨da,d_,ez,jh,fC,ea,hks,e0,e6,e7,e18,e19,e20,h⟩:=aN.lh7_inv (show aN.lh7 F [] 0 tm H = some r from h0)
    cases h
   ·obtain ⟨da,d_,ez,jh,fC,ea,hks,e0,e6,e7,e18,e19,e20,h⟩:=aN.lh7_inv (show aN.lh7 F [] (k7 + 1) tm H = some r from h0)
    have q0:(Tm.put tm 0 (.sl da)) = tm:=by exact Tm.put_same e0
    have q1:(Tm.put (Tm.put tm 0 (.sl da)) 6 (.int .i64 d_)) = tm:=by rw [q0]; exact Tm.put_same e6
    have q2:(Tm.put (Tm.put (Tm.put tm 0 (.sl da)) 6 (.int .i64 d_)) 7 (.int .i64 ez)) = tm:=by rw [q1]; exact Tm.put_same e7
    have q3:(Tm.put (Tm.put (Tm.put (Tm.put tm 0 (.sl da)) 6 (.int .i64 d_)) 7 (.int .i64 ez)) 18 (.sl jh)) = tm:=by rw [q2]; exact Tm.put_same e18
    have q4:(Tm.put (Tm.put (Tm.put (Tm.put (Tm.put tm 0 (.sl da)) 6 (.int .i64 d_)) 7 (.int .i64 ez)) 18 (.sl jh)) 19 (.int .i64 fC)) = tm:=by rw [q3]; exact Tm.put_same e19
    have q5:(Tm.put (Tm.put (Tm.put (Tm.put (Tm.put (Tm.put tm 0 (.sl da)) 6 (.int .i64 d_)) 7 (.int .i64 ez)) 18 (.sl jh)) 19 (.int .i64 fC)) 20 (.int .i64 ea)) = tm:=by rw [q4]; exact Tm.put_same e20
    rw [← q5]
    exact Eq.trans (by kernel_rfl) h
   ·exact loops_none (by kernel_rfl)
theorem aN.eqX (F:Nat) (aa:Sl) (af:Int) (bz:Int) (H:Hp):aCode tabs (mkOrc (aN.cs F)) aN.pn (aN.lh F) F [] 1 aN.code (argTm [(.sl aa),(.int .i64 af),(.int .i64 bz)]) H (fun tm H=>aresults tabs.ty H tm Try.f118.results.toList fun v=>some (v,H)) (fun _ _ _=>none) (fun tm H=>aresults tabs.ty H tm Try.f118.results.toList fun v=>some (v,H)) = aN.twX F aa af bz H:=by kernel_rfl
theorem aN.cs_ok (F:Nat):∀ p ∈ aN.cs F,∀ args H v H',p.2 args H = some (v,H')→Go.AE.T Try.prog p.1 args H v H':=by
 intro p hp
 exact absurd (show p ∈ [] from hp) List.not_mem_nil
theorem aN.ok:codeOk aN.pn Try.f118.ntmps aN.tb aN.code = true:=by kernel_rfl
theorem aN.T {F:Nat} {aa:Sl} {af:Int} {bz:Int} {H:Hp} {v:AV} {H':Hp} (h:aN.tw F aa af bz H = some (v,H')):Go.AE.T Try.prog 118 [(.sl aa),(.int .i64 af),(.int .i64 bz)] H v H':=
 Go.AE.T.of (Y:=tabs) (C:=mkOrc (aN.cs F)) (PN:=aN.pn) (LH:=aN.lh F) (F:=F) (TB:=aN.tb) (fn:=Try.f118) (code:=aN.code) mixed tabs_ok (mkOrc_ok (aN.cs_ok F)) Try.func118 (by kernel_rfl) (by kernel_rfl) aN.ok (Nat.le_of_ble_eq_true (by kernel_rfl)) (aN.loops F) (Eq.trans (aN.eqX F aa af bz H) h)
theorem aN.mk_T {F:Nat} {args:List AV} {H:Hp} {v:AV} {H':Hp} (h:aN.mk (aN.tw F) args H = some (v,H')):Go.AE.T Try.prog 118 args H v H':=by
 unfold aN.mk at h
 split at h
 ·exact aN.T h
 ·cases h
theorem nm_law:Keyed Try.prog 2:=int_keyed Try.underlying2
theorem nm_zero (w:World):(zeroValue 2).run Try.prog w = .ok (.int .i64 0) w:=by kernel_rfl
theorem nm_info:(Try.prog.info? 2).map (fun i=>(i.zero,i.size,i.bytes)) = some (some (.int .i64 0),1,8):=by kernel_rfl
theorem nm_none (a:Option Addr) (cap:Nat) (w:World):Calls Try.prog 119 #[.slice a 0 cap] w fun e w'=>e = .returned (.slice none 0 0)∧Below w.heap.size w w':=by
 have hmm:=@run_makeMap Try.prog
 go_enter Try.func119,Try.ntmps119
 go_wp2
 refine wp_loop_rounds 1 ?_
 rw [rounds_succ]
 go_wp2
 go_ret
 exact ⟨rfl,(Below.refl _ _).alloc (Nat.le_refl _) _⟩
theorem nm_any (b off len cap:Nat) (zs:List Int) (w:World) (hreach:len ≤ 4294967296) (hz:len ≤ zs.length) (hb:b < w.heap.size)
  (hc:∀ j,j < zs.length→w.cell? ⟨b,off + j,none⟩ = some (.int .i64 (zs.getD j 0))) (hwz:∀ n ∈ zs,(Lit.int .i64 n).wf = true) :
  Calls Try.prog 119 #[.slice (some ⟨b,off,none⟩) len cap] w fun e w'=>∃ v,e = .returned v∧w'.ownsRow (w.heap.size + 1) 2 1 v len ((nst zs len).2.map (Value.int .i64))∧Below w.heap.size w w':=by
 have hmm:=@run_makeMap Try.prog
 obtain ⟨i0,hi,hz0,hz1,hz2⟩:=info_parts nm_info
 go_enter Try.func119,Try.ntmps119
 go_wp2
 go_loopw [4,12] (fun v i wr=>∃ (k:Nat) (D:DataW Unit),k ≤ len∧i = .int .i64 k∧wr.ownsMap Try.prog 2 (plainElem Try.prog 2) w.heap.size k D∧ND D (nst zs k).1 ∧
   wr.ownsRow (w.heap.size + 1) 2 1 v k ((nst zs k).2.map (Value.int .i64))∧Below w.heap.size w wr∧w.heap.size + 1 ≤ wr.heap.size)
  (fun _ i _=>len - (intOf i).toNat)
 case atStart=>exact ⟨0,.map [],Nat.zero_le _,rfl,World.ownsMap_made _ _ _ _,ND.nil,World.ownsRow_nil _ _ _ _,(Below.refl _ _).alloc (Nat.le_refl _) _,by simp⟩
 case round=>
  obtain ⟨k,D,hk,rfl,hown,hD,hrow,hnx,hws⟩:=hrel
  obtain ⟨x,hx⟩:∃ x,x = zs.getD k 0:=⟨_,rfl⟩
  have hwx:(Lit.int .i64 x).wf = true:=by rw [hx]; exact wf_gd hwz k
  have hcx:k < len→wr.cell? ⟨b,off + k,none⟩ = some (.int .i64 x):=fun _=>by rw [hx]; exact (hnx.cell (by exact hb)).trans (hc k (by omega))
  have hkey:keyOf Try.prog 2 (.int .i64 x) = some (.int .i64 x):=keyOf_int_mk Try.underlying2 hwx
  have hl1:=nst_len1 zs k
  have hs1:Maps.size D ≤ k:=by rw [hD.size]; exact hl1
  have hht:=hown.tidy nm_law
  have n1:nst zs (k + 1) = (bif (nst zs k).1.contains x then (nst zs k).1 else (nst zs k).1 ++ [x],(nst zs k).2 ++ [(((bif (nst zs k).1.contains x then (nst zs k).1 else (nst zs k).1 ++ [x]).idxOf x:Nat):Int)]):=by rw [hx]; rfl
  clear hx
  go_wp2_with (first
   | (at_lookup; first
     | (refine wpList_lookup_own_ok_int _ rfl _ _ 157 rfl 2 2 .i64 nm_law Try.underlying157 Try.underlying2 (nm_zero _) w.heap.size k _ rfl hown _ _ rfl hkey ?_; intro c hat hwc)
     | (refine wpList_lookup_own_int _ rfl _ _ 157 rfl 2 2 .i64 nm_law Try.underlying157 Try.underlying2 (nm_zero _) w.heap.size (k + 1) _ rfl hown1 _ _ rfl hkey ?_; intro c2 hat2 hwc2)
     | (refine wpList_lookup_own_int _ rfl _ _ 157 rfl 2 2 .i64 nm_law Try.underlying157 Try.underlying2 (nm_zero _) w.heap.size k _ rfl hown _ _ rfl hkey ?_; intro c2 hat2 hwc2))
   | (at_len; refine wpList_len_own _ rfl _ 157 rfl 2 2 Try.underlying157 _ w.heap.size k _ rfl hown ?_)
   | (at_mapUpdate; refine wpList_mapUpdate_own _ rfl _ _ _ 157 rfl 2 2 nm_law Try.underlying157 (plainElem Try.prog 2) w.heap.size k _ rfl hown (by unfold maxLen; omega) _ _ _ rfl rfl hkey _ [] (plainElem_int Try.underlying2 (WalkArith.wf_i64 (by omega))) ?_; intro w1 hown1 hgrow1)
   | (at_builtin; first
     | (refine wpList_append_own _ rfl _ _ 26 rfl (w.heap.size + 1) 2 i0 (.int .i64 0) 1 8 Try.underlying26 hi hz0 hz1 hz2 rfl (by decide) _ _ _ rfl ((hrow.kept hgrow1 (Or.inr (rowNe hrow (Nat.lt_succ_self _)).symm)).alloc _) ⟨w1.heap.size,0,none⟩ 1 1 [.int .i64 c2] rfl rfl (cell_one_new _ _ _) (ints_oneCell .i64 [c2]) (by unfold maxLen; omega) (by omega) (by have:=hgrow1.size; simp at this ⊢; omega) ?_; intro v' w2 hown' hgrow2 hnil2)
     | (refine wpList_append_own _ rfl _ _ 26 rfl (w.heap.size + 1) 2 i0 (.int .i64 0) 1 8 Try.underlying26 hi hz0 hz1 hz2 rfl (by decide) _ _ _ rfl (hrow.alloc _) ⟨wr.heap.size,0,none⟩ 1 1 [.int .i64 c2] rfl rfl (cell_one_new _ _ _) (ints_oneCell .i64 [c2]) (by unfold maxLen; omega) (by omega) (by simp; omega) ?_; intro v' w2 hown' hgrow2 hnil2))
   | go_in)
  ·have hlt:k < len:=by assumption
   have ht:(!Maps.has D (Lit.int .i64 x)) = true:=by assumption
   have hc0:(nst zs k).1.contains x = false:=by rw [← hD.has x]; simpa using ht
   have hr1:=hrow.kept hgrow1 (Or.inr (rowNe hrow (Nat.lt_succ_self _)).symm)
   have s1:=hgrow1.size
   have s2:=hgrow2.size
   simp at s1 s2
   have hD1:=hD.new hht hc0
   rw [hD1.at_ x (by simp) _] at hat2
   have e2:c2 = (((nst zs k).1 ++ [x]).idxOf x:Nat):=by injection hat2 with q; injection q with _ q; exact q.symm
   rw [hc0,cond_false] at n1
   go_roundw
   case rel=>
    refine ⟨k + 1,_,by omega,by go_num,(hown1.alloc _).kept hgrow2 (rowNe hr1 (Nat.lt_succ_self _)),by rw [n1]; exact hD1,?_,?_,by omega⟩
    ·rw [n1,List.map_append,← e2]; exact hown'
    ·exact (((hnx.grown hgrow1 hnx.size (fun j hj=>by cases hj; exact Nat.le_refl _)).alloc (by omega) _).grown hgrow2 (by simp; omega) (fun j hj=>Nat.le_trans (Nat.le_succ _) (hr1.lt j hj).1))
   case measure=>simp [intOf]; omega
  ·have hlt:k < len:=by assumption
   have ht:(!Maps.has D (Lit.int .i64 x)) = false:=by assumption
   have hc1:(nst zs k).1.contains x = true:=by rw [← hD.has x]; simpa using ht
   have s2:=hgrow2.size
   simp at s2
   rw [hD.at_ x hc1 _] at hat2
   have e2:c2 = ((nst zs k).1.idxOf x:Nat):=by injection hat2 with q; injection q with _ q; exact q.symm
   rw [hc1,cond_true] at n1
   go_roundw
   case rel=>
    refine ⟨k + 1,_,by omega,by go_num,((hown.alloc _).kept hgrow2 (rowNe hrow (Nat.lt_succ_self _))).mono (Nat.le_succ _),by rw [n1]; exact hD,?_,?_,by omega⟩
    ·rw [n1,List.map_append,← e2]; exact hown'
    ·exact ((hnx.alloc hnx.size _).grown hgrow2 (by simp; omega) (fun j hj=>Nat.le_trans (Nat.le_succ _) (hrow.lt j hj).1))
   case measure=>simp [intOf]; omega
  ·have:k = len:=by omega
   subst this
   go_ret
   exact ⟨_,rfl,hrow,hnx⟩
theorem nm_ok:NumOk Try.prog 119 2:=⟨nm_none,nm_any⟩
noncomputable def dd.tw (F:Nat) (aa:Sl) (H:Hp):OA:=numTw aa H
noncomputable def dd.mk (g:Sl→Hp→OA) (args:List AV) (H:Hp):OA:=match args with
 | [.sl aa]=>g aa H
 | _=>none
theorem dd.T {F:Nat} {aa:Sl} {H:Hp} {v:AV} {H':Hp} (h:dd.tw F aa H = some (v,H')):Go.AE.T Try.prog 119 [.sl aa] H v H':=
 nm_ok.T (enters_of Try.func119 (by kernel_rfl) (by kernel_rfl)) h
theorem dd.mk_T {F:Nat} {args:List AV} {H:Hp} {v:AV} {H':Hp} (h:dd.mk (dd.tw F) args H = some (v,H')):Go.AE.T Try.prog 119 args H v H':=by
 unfold dd.mk at h
 split at h
 ·exact dd.T h
 ·cases h
noncomputable def aH.l29 (F:Nat) (cP:Sl→Hp→OA) (ff:Int→Hp→OA) (fg:Sl→Int→Int→Hp→OA) (fh:Sl→Hp→OA) :Nat→Nat→Nat→Sl→Sl→Int→Int→Hp→OA
 | 0,_,_,_,_,_,_,_=>none
 | fx + 1,gi,iQ,c_,jB,gj,fi,H26=>(bif (decide (fi < gj)) then ((Sl.idx jB fi 2).bind fun p40=>(Hp.ldI H26 .i64 p40.1 p40.2).bind fun n41=>(Hp.ldI H26 .i64 p40.1 (p40.2 + 1)).bind fun n42=>(Hp.new H26 [.int .i64 0,.int .i64 0]).bind fun H43=>(Hp.st H43 H26.length 0 (.int .i64 n41)).bind fun H44=>(Hp.st H44 H26.length (0 + 1) (.int .i64 n42)).bind fun H45=>(Hp.ldI H45 .i64 H26.length 0).bind fun n46=>(Hp.ldSl H45 gi (iQ + 1)).bind fun s47=>(Sl.idx s47 fi 2).bind fun p48=>(Hp.ldI H45 .i64 p48.1 p48.2).bind fun n49=>(fg c_ n46 n49 H45).bind fun r50=>aH.l29 F cP ff fg fh fx gi iQ c_ jB gj (IntKind.i64.wrap (fi + 1)) r50.2) else ((fh c_ H26).bind fun r51=>((r51.1).asSl).bind fun s52=>some ((.sl s52),r51.2)))
termination_by structural n=>n
noncomputable def aH.twX (F:Nat) (cP:Sl→Hp→OA) (ff:Int→Hp→OA) (fg:Sl→Int→Int→Hp→OA) (fh:Sl→Hp→OA) (aa:Sl) (ab:Int) (ah:Sl) (av:Sl) (H:Hp):OA:=(Hp.new H [(.sl aa),(.int .i64 ab)]).bind fun H5=>(Hp.new H5 [(.sl ah),(.sl av)]).bind fun H6=>(Hp.ldSl H6 H.length 0).bind fun s7=>(cP s7 H6).bind fun r8=>((r8.1).asI .i64).bind fun n9=>(ff n9 r8.2).bind fun r10=>((r10.1).asSl).bind fun s11=>(Hp.ldSl r10.2 H5.length 0).bind fun s12=>aH.l29 F cP ff fg fh F H5.length 0 s11 s12 (s12.n:Int) 0 r10.2
noncomputable def aH.tw (F:Nat) (aa:Sl) (ab:Int) (ah:Sl) (av:Sl) (H:Hp):OA:=aH.twX F (bq.tw F) (aZ.tw F) (aN.tw F) (dd.tw F) aa ab ah av H
noncomputable def aH.code:Go.Code:=(Try.f126.body).getD .skip
noncomputable def aH.lh29 (F:Nat) (cP:Sl→Hp→OA) (ff:Int→Hp→OA) (fg:Sl→Int→Int→Hp→OA) (fh:Sl→Hp→OA) (ks:List Nat) (n:Nat) (tm:Tm) (H:Hp):OA:=match ks,tm 3,tm 5,tm 13,tm 14,tm 15 with
 | [],(.ptr gi iQ),(.sl c_),(.sl jB),(.int .i64 gj),(.int .i64 fi)=>aH.l29 F cP ff fg fh n gi iQ c_ jB gj fi H
 | _,_,_,_,_,_=>none
theorem aH.lh29_inv {F:Nat} {cP:Sl→Hp→OA} {ff:Int→Hp→OA} {fg:Sl→Int→Int→Hp→OA} {fh:Sl→Hp→OA} {ks:List Nat} {n:Nat} {tm:Tm} {H:Hp} {r:AV×Hp} (h:aH.lh29 F cP ff fg fh ks n tm H = some r):∃ gi:Nat,∃ iQ:Nat,∃ c_:Sl,∃ jB:Sl,∃ gj:Int,∃ fi:Int,ks = []∧tm 3 = (.ptr gi iQ)∧tm 5 = (.sl c_)∧tm 13 = (.sl jB)∧tm 14 = (.int .i64 gj)∧tm 15 = (.int .i64 fi)∧aH.l29 F cP ff fg fh n gi iQ c_ jB gj fi H = some r:=by
 unfold aH.lh29 at h
 split at h
 ·exact ⟨_,_,_,_,_,_,rfl,by assumption,by assumption,by assumption,by assumption,by assumption,h⟩
 ·cases h
noncomputable def aH.lh (F:Nat) (cP:Sl→Hp→OA) (ff:Int→Hp→OA) (fg:Sl→Int→Int→Hp→OA) (fh:Sl→Hp→OA) (p:Nat) (ks:List Nat) (n:Nat) (tm:Tm) (H:Hp):OA:=bif p.beq 29 then aH.lh29 F cP ff fg fh ks n tm H else (none)
def aH.pn:Nat→List Nat:=fun i=>(([(5,[9])]:List (Nat×List Nat)).lookup i).getD []
def aH.tb:Nat→List (List Nat):=fun i=>(([(5,[[],[],[1],[],[3],[],[3,4,5],[3,4,5,6],[3,4,5,6,7],[0,1,2,3,4,5,6,7,8]])]:List (Nat×List (List Nat))).lookup i).getD []
noncomputable def aH.mk (g:Sl→Int→Sl→Sl→Hp→OA) (args:List AV) (H:Hp):OA:=match args with
 | [(.agg [(.sl aa),(.int .i64 ab)]),(.agg [(.sl ah),(.sl av)])]=>g aa ab ah av H
 | _=>none
noncomputable def aH.cs (F:Nat) (cP:Sl→Hp→OA) (ff:Int→Hp→OA) (fg:Sl→Int→Int→Hp→OA) (fh:Sl→Hp→OA):List (FuncId×(List AV→Hp→OA)):=[(117,bq.mk cP),(116,aZ.mk ff),(118,aN.mk fg),(119,dd.mk fh)]
theorem aH.loops (F:Nat) (cP:Sl→Hp→OA) (ff:Int→Hp→OA) (fg:Sl→Int→Int→Hp→OA) (fh:Sl→Hp→OA):LoopsOk tabs (mkOrc (aH.cs F cP ff fg fh)) aH.pn (aH.lh F cP ff fg fh) F [] 1 aH.code (fun tm H=>aresults tabs.ty H tm Try.f126.results.toList fun v=>some (v,H)) (fun _ _ _=>none) (fun tm H=>aresults tabs.ty H tm Try.f126.results.toList fun v=>some (v,H)):=by
 refine LoopsOk.seq ?_ ?_
 ·exact loops_none (by kernel_rfl)
 ·refine LoopsOk.seq ?_ ?_
  ·exact loops_none (by kernel_rfl)
  ·refine LoopsOk.seq ?_ ?_
   ·refine LoopsOk.seq ?_ ?_
    ·exact loops_none (by kernel_rfl)
    ·refine LoopsOk.block ?_
     refine LoopsOk.loop (fun tm H=>?_) (fun k29 tm H r h0=>?_) (fun k29=>?_)
     ·refine none_of fun r h0=>?_
      obtain ⟨gi,iQ,c_,jB,gj,fi,hks,e3,e5,e13,e14,e15,h⟩:=aH.lh29_inv (show aH.lh29 F cP ff fg fh [] 0 tm H = some r from h0)
      cases h
     ·obtain ⟨gi,iQ,c_,jB,gj,fi,hks,e3,e5,e13,e14,e15,h⟩:=aH.lh29_inv (show aH.lh29 F cP ff fg fh [] (k29 + 1) tm H = some r from h0)
      have q0:(Tm.put tm 3 (.ptr gi iQ)) = tm:=by exact Tm.put_same e3
      have q1:(Tm.put (Tm.put tm 3 (.ptr gi iQ)) 5 (.sl c_)) = tm:=by rw [q0]; exact Tm.put_same e5
      have q2:(Tm.put (Tm.put (Tm.put tm 3 (.ptr gi iQ)) 5 (.sl c_)) 13 (.sl jB)) = tm:=by rw [q1]; exact Tm.put_same e13
      have q3:(Tm.put (Tm.put (Tm.put (Tm.put tm 3 (.ptr gi iQ)) 5 (.sl c_)) 13 (.sl jB)) 14 (.int .i64 gj)) = tm:=by rw [q2]; exact Tm.put_same e14
      have q4:(Tm.put (Tm.put (Tm.put (Tm.put (Tm.put tm 3 (.ptr gi iQ)) 5 (.sl c_)) 13 (.sl jB)) 14 (.int .i64 gj)) 15 (.int .i64 fi)) = tm:=by rw [q3]; exact Tm.put_same e15
      rw [← q4]
      exact Eq.trans (by kernel_rfl) h
     ·exact loops_none (by kernel_rfl)
   ·exact loops_none (by kernel_rfl)
theorem aH.eqX (F:Nat) (cP:Sl→Hp→OA) (ff:Int→Hp→OA) (fg:Sl→Int→Int→Hp→OA) (fh:Sl→Hp→OA) (aa:Sl) (ab:Int) (ah:Sl) (av:Sl) (H:Hp):aCode tabs (mkOrc (aH.cs F cP ff fg fh)) aH.pn (aH.lh F cP ff fg fh) F [] 1 aH.code (argTm [(.agg [(.sl aa),(.int .i64 ab)]),(.agg [(.sl ah),(.sl av)])]) H (fun tm H=>aresults tabs.ty H tm Try.f126.results.toList fun v=>some (v,H)) (fun _ _ _=>none) (fun tm H=>aresults tabs.ty H tm Try.f126.results.toList fun v=>some (v,H)) = aH.twX F cP ff fg fh aa ab ah av H:=by kernel_rfl
theorem aH.cs_ok (F:Nat):∀ p ∈ aH.cs F (bq.tw F) (aZ.tw F) (aN.tw F) (dd.tw F),∀ args H v H',p.2 args H = some (v,H')→Go.AE.T Try.prog p.1 args H v H':=by
 intro p hp
 simp only [aH.cs,List.mem_cons,List.not_mem_nil,or_false] at hp
 rcases hp with rfl | rfl | rfl | rfl
 ·exact fun args H v H' h=>bq.mk_T h
 ·exact fun args H v H' h=>aZ.mk_T h
 ·exact fun args H v H' h=>aN.mk_T h
 ·exact fun args H v H' h=>dd.mk_T h
theorem aH.ok:codeOk aH.pn Try.f126.ntmps aH.tb aH.code = true:=by kernel_rfl
theorem aH.T {F:Nat} {aa:Sl} {ab:Int} {ah:Sl} {av:Sl} {H:Hp} {v:AV} {H':Hp} (h:aH.tw F aa ab ah av H = some (v,H')):Go.AE.T Try.prog 126 [(.agg [(.sl aa),(.int .i64 ab)]),(.agg [(.sl ah),(.sl av)])] H v H':=
 Go.AE.T.of (Y:=tabs) (C:=mkOrc (aH.cs F (bq.tw F) (aZ.tw F) (aN.tw F) (dd.tw F))) (PN:=aH.pn) (LH:=aH.lh F (bq.tw F) (aZ.tw F) (aN.tw F) (dd.tw F)) (F:=F) (TB:=aH.tb) (fn:=Try.f126) (code:=aH.code) mixed tabs_ok (mkOrc_ok (aH.cs_ok F)) Try.func126 (by kernel_rfl) (by kernel_rfl) aH.ok (Nat.le_of_ble_eq_true (by kernel_rfl)) (aH.loops F (bq.tw F) (aZ.tw F) (aN.tw F) (dd.tw F)) (Eq.trans (aH.eqX F (bq.tw F) (aZ.tw F) (aN.tw F) (dd.tw F) aa ab ah av H) h)
theorem aH.mk_T {F:Nat} {args:List AV} {H:Hp} {v:AV} {H':Hp} (h:aH.mk (aH.tw F) args H = some (v,H')):Go.AE.T Try.prog 126 args H v H':=by
 unfold aH.mk at h
 split at h
 ·exact aH.T h
 ·cases h
noncomputable def aS.l61 (F:Nat) :Nat→Sl→Int→Int→Hp→OA
 | 0,_,_,_,_=>none
 | bJ + 1,da,cR,fS,H13=>(bif (decide (fS < (da.n:Int))) then ((Sl.idx da fS 1).bind fun p16=>(Hp.ldI H13 .i64 p16.1 p16.2).bind fun n17=>aS.l61 F bJ da (if n17 > cR then n17 else cR) (IntKind.i64.wrap (fS + 1)) H13) else (some ((.int .i64 cR),H13)))
termination_by structural n=>n
noncomputable def aS.j1 (F:Nat) (II:Sl) (H5:Hp):OA:=(Sl.idx II 0 1).bind fun p6=>(Hp.ldI H5 .i64 p6.1 p6.2).bind fun n7=>aS.l61 F F II n7 1 H5
noncomputable def aS.twX (F:Nat) (aa:Sl) (H:Hp):OA:=(bif (decide ((aa.n:Int) < 1)) then (none) else (aS.j1 F aa H))
noncomputable def aS.tw (F:Nat) (aa:Sl) (H:Hp):OA:=aS.twX F aa H
noncomputable def aS.code:Go.Code:=(Try.f151.body).getD .skip
noncomputable def aS.lh61 (F:Nat) (ks:List Nat) (n:Nat) (tm:Tm) (H:Hp):OA:=match ks,tm 0,tm 3,tm 4 with
 | [],(.sl da),(.int .i64 cR),(.int .i64 fS)=>aS.l61 F n da cR fS H
 | _,_,_,_=>none
theorem aS.lh61_inv {F:Nat} {ks:List Nat} {n:Nat} {tm:Tm} {H:Hp} {r:AV×Hp} (h:aS.lh61 F ks n tm H = some r):∃ da:Sl,∃ cR:Int,∃ fS:Int,ks = []∧tm 0 = (.sl da)∧tm 3 = (.int .i64 cR)∧tm 4 = (.int .i64 fS)∧aS.l61 F n da cR fS H = some r:=by
 unfold aS.lh61 at h
 split at h
 ·exact ⟨_,_,_,rfl,by assumption,by assumption,by assumption,h⟩
 ·cases h
noncomputable def aS.lh (F:Nat) (p:Nat) (ks:List Nat) (n:Nat) (tm:Tm) (H:Hp):OA:=bif p.beq 61 then aS.lh61 F ks n tm H else (none)
def aS.pn:Nat→List Nat:=fun i=>(([]:List (Nat×List Nat)).lookup i).getD []
def aS.tb:Nat→List (List Nat):=fun i=>(([]:List (Nat×List (List Nat))).lookup i).getD []
noncomputable def aS.mk (g:Sl→Hp→OA) (args:List AV) (H:Hp):OA:=match args with
 | [(.sl aa)]=>g aa H
 | _=>none
noncomputable def aS.cs (F:Nat):List (FuncId×(List AV→Hp→OA)):=[]
theorem aS.loops (F:Nat):LoopsOk tabs (mkOrc (aS.cs F)) aS.pn (aS.lh F) F [] 1 aS.code (fun tm H=>aresults tabs.ty H tm Try.f151.results.toList fun v=>some (v,H)) (fun _ _ _=>none) (fun tm H=>aresults tabs.ty H tm Try.f151.results.toList fun v=>some (v,H)):=by
 refine LoopsOk.seq ?_ ?_
 ·exact loops_none (by kernel_rfl)
 ·refine LoopsOk.seq ?_ ?_
  ·exact loops_none (by kernel_rfl)
  ·refine LoopsOk.seq ?_ ?_
   ·exact loops_none (by kernel_rfl)
   ·refine LoopsOk.seq ?_ ?_
    ·refine LoopsOk.seq ?_ ?_
     ·exact loops_none (by kernel_rfl)
     ·refine LoopsOk.block ?_
      refine LoopsOk.loop (fun tm H=>?_) (fun k61 tm H r h0=>?_) (fun k61=>?_)
      ·refine none_of fun r h0=>?_
       obtain ⟨da,cR,fS,hks,e0,e3,e4,h⟩:=aS.lh61_inv (show aS.lh61 F [] 0 tm H = some r from h0)
       cases h
      ·obtain ⟨da,cR,fS,hks,e0,e3,e4,h⟩:=aS.lh61_inv (show aS.lh61 F [] (k61 + 1) tm H = some r from h0)
       have q0:(Tm.put tm 0 (.sl da)) = tm:=by exact Tm.put_same e0
       have q1:(Tm.put (Tm.put tm 0 (.sl da)) 3 (.int .i64 cR)) = tm:=by rw [q0]; exact Tm.put_same e3
       have q2:(Tm.put (Tm.put (Tm.put tm 0 (.sl da)) 3 (.int .i64 cR)) 4 (.int .i64 fS)) = tm:=by rw [q1]; exact Tm.put_same e4
       rw [← q2]
       exact Eq.trans (by kernel_rfl) h
      ·exact loops_none (by kernel_rfl)
    ·exact loops_none (by kernel_rfl)
theorem aS.eqX (F:Nat) (aa:Sl) (H:Hp):aCode tabs (mkOrc (aS.cs F)) aS.pn (aS.lh F) F [] 1 aS.code (argTm [(.sl aa)]) H (fun tm H=>aresults tabs.ty H tm Try.f151.results.toList fun v=>some (v,H)) (fun _ _ _=>none) (fun tm H=>aresults tabs.ty H tm Try.f151.results.toList fun v=>some (v,H)) = aS.twX F aa H:=by kernel_rfl
theorem aS.cs_ok (F:Nat):∀ p ∈ aS.cs F,∀ args H v H',p.2 args H = some (v,H')→Go.AE.T Try.prog p.1 args H v H':=by
 intro p hp
 exact absurd (show p ∈ [] from hp) List.not_mem_nil
theorem aS.ok:codeOk aS.pn Try.f151.ntmps aS.tb aS.code = true:=by kernel_rfl
theorem aS.T {F:Nat} {aa:Sl} {H:Hp} {v:AV} {H':Hp} (h:aS.tw F aa H = some (v,H')):Go.AE.T Try.prog 151 [(.sl aa)] H v H':=
 Go.AE.T.of (Y:=tabs) (C:=mkOrc (aS.cs F)) (PN:=aS.pn) (LH:=aS.lh F) (F:=F) (TB:=aS.tb) (fn:=Try.f151) (code:=aS.code) mixed tabs_ok (mkOrc_ok (aS.cs_ok F)) Try.func151 (by kernel_rfl) (by kernel_rfl) aS.ok (Nat.le_of_ble_eq_true (by kernel_rfl)) (aS.loops F) (Eq.trans (aS.eqX F aa H) h)
theorem aS.mk_T {F:Nat} {args:List AV} {H:Hp} {v:AV} {H':Hp} (h:aS.mk (aS.tw F) args H = some (v,H')):Go.AE.T Try.prog 151 args H v H':=by
 unfold aS.mk at h
 split at h
 ·exact aS.T h
 ·cases h
noncomputable def bd.twX (F:Nat) (kb:Sl→Hp→OA) (aa:Sl) (H:Hp):OA:=(bif ((aa.n:Int) == 0) then (some ((.int .i64 0),H)) else ((kb aa H).bind fun r2=>((r2.1).asI .i64).bind fun n3=>some ((.int .i64 (IntKind.i64.wrap (n3 + 1))),r2.2)))
noncomputable def bd.tw (F:Nat) (aa:Sl) (H:Hp):OA:=bd.twX F (aS.tw F) aa H
noncomputable def bd.code:Go.Code:=(Try.f120.body).getD .skip
noncomputable def bd.lh (F:Nat) (kb:Sl→Hp→OA) (p:Nat) (ks:List Nat) (n:Nat) (tm:Tm) (H:Hp):OA:=none
def bd.pn:Nat→List Nat:=fun i=>(([]:List (Nat×List Nat)).lookup i).getD []
def bd.tb:Nat→List (List Nat):=fun i=>(([]:List (Nat×List (List Nat))).lookup i).getD []
noncomputable def bd.mk (g:Sl→Hp→OA) (args:List AV) (H:Hp):OA:=match args with
 | [(.sl aa)]=>g aa H
 | _=>none
noncomputable def bd.cs (F:Nat) (kb:Sl→Hp→OA):List (FuncId×(List AV→Hp→OA)):=[(151,aS.mk kb)]
theorem bd.loops (F:Nat) (kb:Sl→Hp→OA):LoopsOk tabs (mkOrc (bd.cs F kb)) bd.pn (bd.lh F kb) F [] 1 bd.code (fun tm H=>aresults tabs.ty H tm Try.f120.results.toList fun v=>some (v,H)) (fun _ _ _=>none) (fun tm H=>aresults tabs.ty H tm Try.f120.results.toList fun v=>some (v,H)):=by
 exact loops_none (by kernel_rfl)
theorem bd.eqX (F:Nat) (kb:Sl→Hp→OA) (aa:Sl) (H:Hp):aCode tabs (mkOrc (bd.cs F kb)) bd.pn (bd.lh F kb) F [] 1 bd.code (argTm [(.sl aa)]) H (fun tm H=>aresults tabs.ty H tm Try.f120.results.toList fun v=>some (v,H)) (fun _ _ _=>none) (fun tm H=>aresults tabs.ty H tm Try.f120.results.toList fun v=>some (v,H)) = bd.twX F kb aa H:=by kernel_rfl
theorem bd.cs_ok (F:Nat):∀ p ∈ bd.cs F (aS.tw F),∀ args H v H',p.2 args H = some (v,H')→Go.AE.T Try.prog p.1 args H v H':=by
 intro p hp
 simp only [bd.cs,List.mem_cons,List.not_mem_nil,or_false] at hp
 subst hp
 exact fun args H v H' h=>aS.mk_T h
theorem bd.ok:codeOk bd.pn Try.f120.ntmps bd.tb bd.code = true:=by kernel_rfl
theorem bd.T {F:Nat} {aa:Sl} {H:Hp} {v:AV} {H':Hp} (h:bd.tw F aa H = some (v,H')):Go.AE.T Try.prog 120 [(.sl aa)] H v H':=
 Go.AE.T.of (Y:=tabs) (C:=mkOrc (bd.cs F (aS.tw F))) (PN:=bd.pn) (LH:=bd.lh F (aS.tw F)) (F:=F) (TB:=bd.tb) (fn:=Try.f120) (code:=bd.code) mixed tabs_ok (mkOrc_ok (bd.cs_ok F)) Try.func120 (by kernel_rfl) (by kernel_rfl) bd.ok (Nat.le_of_ble_eq_true (by kernel_rfl)) (bd.loops F (aS.tw F)) (Eq.trans (bd.eqX F (aS.tw F) aa H) h)
theorem bd.mk_T {F:Nat} {args:List AV} {H:Hp} {v:AV} {H':Hp} (h:bd.mk (bd.tw F) args H = some (v,H')):Go.AE.T Try.prog 120 args H v H':=by
 unfold bd.mk at h
 split at h
 ·exact bd.T h
 ·cases h
noncomputable def bI.twX (F:Nat) (cP:Sl→Hp→OA) (ev:Int→Int→Int→Hp→OA) (kd:Sl→Hp→OA) (ke:Sl→Int→Hp→OA) (aM:Sl→Int→Sl→Sl→Hp→OA) (kf:Sl→Hp→OA) (bo:Sl→Int→Sl→Sl→Hp→OA) (bp:Sl→Hp→OA) (aa:Sl) (ab:Int) (H:Hp):OA:=(Hp.new H [(.sl aa),(.int .i64 ab)]).bind fun H3=>(Hp.new H3 [.sl ⟨none,0,.ex 0⟩,.sl ⟨none,0,.ex 0⟩]).bind fun H4=>(Hp.ldSl H4 H.length 0).bind fun s5=>(cP s5 H4).bind fun r6=>((r6.1).asI .i64).bind fun n7=>(bif (decide (n7 > 10)) then ((Hp.st r6.2 H3.length 0 (.sl (⟨none,0,.ex 0⟩:Sl))).bind fun H8=>(Hp.st H8 H3.length (0 + 1) (.sl (⟨none,0,.ex 0⟩:Sl))).bind fun H9=>(Hp.ldSl H9 H3.length 0).bind fun s10=>(Hp.ldSl H9 H3.length (0 + 1)).bind fun s11=>some ((.tup [(.agg [(.sl s10),(.sl s11)]),(.bool false)]),H9)) else ((Hp.ldI r6.2 .i64 H.length 1).bind fun n12=>(ev n12 0 8 r6.2).bind fun r13=>((r13.1).asB).bind fun b14=>(bif (!b14) then ((Hp.st r13.2 H3.length 0 (.sl (⟨none,0,.ex 0⟩:Sl))).bind fun H15=>(Hp.st H15 H3.length (0 + 1) (.sl (⟨none,0,.ex 0⟩:Sl))).bind fun H16=>(Hp.ldSl H16 H3.length 0).bind fun s17=>(Hp.ldSl H16 H3.length (0 + 1)).bind fun s18=>some ((.tup [(.agg [(.sl s17),(.sl s18)]),(.bool false)]),H16)) else ((Hp.ldSl r13.2 H.length 0).bind fun s19=>(kd s19 r13.2).bind fun r20=>((r20.1).asB).bind fun b21=>(bif b21 then ((Hp.st r20.2 H3.length 0 (.sl (⟨none,0,.ex 0⟩:Sl))).bind fun H22=>(Hp.st H22 H3.length (0 + 1) (.sl (⟨none,0,.ex 0⟩:Sl))).bind fun H23=>(Hp.ldSl H23 H3.length 0).bind fun s24=>(Hp.ldSl H23 H3.length (0 + 1)).bind fun s25=>some ((.tup [(.agg [(.sl s24),(.sl s25)]),(.bool false)]),H23)) else ((Hp.ldSl r20.2 H.length 0).bind fun s26=>(Hp.ldI r20.2 .i64 H.length (0 + 1)).bind fun n27=>(ke s26 n27 r20.2).bind fun r28=>((r28.1).asTup 2).bind fun l29=>(l29[0]?).bind fun v30=>((v30).asAgg 2).bind fun l31=>(l31[0]?).bind fun v32=>((v32).asSl).bind fun s33=>(l31[1]?).bind fun v34=>((v34).asSl).bind fun s35=>(l29[1]?).bind fun v36=>((v36).asB).bind fun b37=>(Hp.new r28.2 [.sl ⟨none,0,.ex 0⟩,.sl ⟨none,0,.ex 0⟩]).bind fun H38=>(Hp.st H38 r28.2.length 0 (.sl s33)).bind fun H39=>(Hp.st H39 r28.2.length (0 + 1) (.sl s35)).bind fun H40=>(bif (!b37) then ((Hp.st H40 H3.length 0 (.sl (⟨none,0,.ex 0⟩:Sl))).bind fun H41=>(Hp.st H41 H3.length (0 + 1) (.sl (⟨none,0,.ex 0⟩:Sl))).bind fun H42=>(Hp.ldSl H42 H3.length 0).bind fun s43=>(Hp.ldSl H42 H3.length (0 + 1)).bind fun s44=>some ((.tup [(.agg [(.sl s43),(.sl s44)]),(.bool false)]),H42)) else ((Hp.ldSl H40 H.length 0).bind fun s45=>(Hp.ldI H40 .i64 H.length (0 + 1)).bind fun n46=>(Hp.ldSl H40 r28.2.length 0).bind fun s47=>(Hp.ldSl H40 r28.2.length (0 + 1)).bind fun s48=>(aM s45 n46 s47 s48 H40).bind fun r49=>((r49.1).asSl).bind fun s50=>(if Cons H40 r49.2 then ((kf s50 r49.2).bind fun r51=>((r51.1).asI .i64).bind fun n52=>(if Cons r49.2 r51.2 then ((Hp.ldSl r51.2 H.length 0).bind fun s53=>(Hp.ldI r51.2 .i64 H.length (0 + 1)).bind fun n54=>(Hp.ldSl r51.2 r28.2.length 0).bind fun s55=>(Hp.ldSl r51.2 r28.2.length (0 + 1)).bind fun s56=>(bo s53 n54 s55 s56 r51.2).bind fun r57=>((r57.1).asSl).bind fun s58=>(bp s58 r57.2).bind fun r59=>((r59.1).asI .i64).bind fun n60=>(bif (n52 != (IntKind.i64.wrap (n7 + (IntKind.i64.wrap (2 * n60))))) then ((Hp.st r59.2 H3.length 0 (.sl (⟨none,0,.ex 0⟩:Sl))).bind fun H61=>(Hp.st H61 H3.length (0 + 1) (.sl (⟨none,0,.ex 0⟩:Sl))).bind fun H62=>(Hp.ldSl H62 H3.length 0).bind fun s63=>(Hp.ldSl H62 H3.length (0 + 1)).bind fun s64=>some ((.tup [(.agg [(.sl s63),(.sl s64)]),(.bool false)]),H62)) else ((Hp.ldSl r59.2 r28.2.length 0).bind fun s65=>(Hp.ldSl r59.2 r28.2.length (0 + 1)).bind fun s66=>(Hp.st r59.2 H3.length 0 (.sl s65)).bind fun H67=>(Hp.st H67 H3.length (0 + 1) (.sl s66)).bind fun H68=>(Hp.ldSl H68 H3.length 0).bind fun s69=>(Hp.ldSl H68 H3.length (0 + 1)).bind fun s70=>some ((.tup [(.agg [(.sl s69),(.sl s70)]),(.bool true)]),H68)))) else none)) else none)))))))))
noncomputable def bI.tw (F:Nat) (aa:Sl) (ab:Int) (H:Hp):OA:=bI.twX F (bq.tw F) (bv.tw F) (bT.tw F) (aF.tw F) (aq.tw F) (ck.tw F) (aH.tw F) (bd.tw F) aa ab H
noncomputable def bI.code:Go.Code:=(Try.f69.body).getD .skip
noncomputable def bI.lh (F:Nat) (cP:Sl→Hp→OA) (ev:Int→Int→Int→Hp→OA) (kd:Sl→Hp→OA) (ke:Sl→Int→Hp→OA) (aM:Sl→Int→Sl→Sl→Hp→OA) (kf:Sl→Hp→OA) (bo:Sl→Int→Sl→Sl→Hp→OA) (bp:Sl→Hp→OA) (p:Nat) (ks:List Nat) (n:Nat) (tm:Tm) (H:Hp):OA:=none
def bI.pn:Nat→List Nat:=fun i=>(([(5,[10,11])]:List (Nat×List Nat)).lookup i).getD []
def bI.tb:Nat→List (List Nat):=fun i=>(([(5,[[],[0],[0,1],[0,1,2],[0,1,2],[0,1,2,3,4],[0,1,2,3,4,5],[0,1,2],[0,1,2],[0,1,2],[0,1,2,3,4,5,6,8,9],[0,1,2,3,4,5,6,8,9,10],[0,1,2,3,4,5,6,8,9,10,11],[0,1,2,3,4,5,6,7,8,9,10,11,12],[0,1,2,3,4,5,6,7,8,9,10,11,12,13],[0,1,2,3,4,5,6,7,8,9,10,11,12,13,14]])]:List (Nat×List (List Nat))).lookup i).getD []
noncomputable def bI.mk (g:Sl→Int→Hp→OA) (args:List AV) (H:Hp):OA:=match args with
 | [(.agg [(.sl aa),(.int .i64 ab)])]=>g aa ab H
 | _=>none
noncomputable def bI.cs (F:Nat) (cP:Sl→Hp→OA) (ev:Int→Int→Int→Hp→OA) (kd:Sl→Hp→OA) (ke:Sl→Int→Hp→OA) (aM:Sl→Int→Sl→Sl→Hp→OA) (kf:Sl→Hp→OA) (bo:Sl→Int→Sl→Sl→Hp→OA) (bp:Sl→Hp→OA):List (FuncId×(List AV→Hp→OA)):=[(117,bq.mk cP),(81,bv.mk ev),(123,bT.mk kd),(125,aF.mk ke),(103,aq.mk aM),(89,ck.mk kf),(126,aH.mk bo),(120,bd.mk bp)]
theorem bI.loops (F:Nat) (cP:Sl→Hp→OA) (ev:Int→Int→Int→Hp→OA) (kd:Sl→Hp→OA) (ke:Sl→Int→Hp→OA) (aM:Sl→Int→Sl→Sl→Hp→OA) (kf:Sl→Hp→OA) (bo:Sl→Int→Sl→Sl→Hp→OA) (bp:Sl→Hp→OA):LoopsOk tabs (mkOrc (bI.cs F cP ev kd ke aM kf bo bp)) bI.pn (bI.lh F cP ev kd ke aM kf bo bp) F [] 1 bI.code (fun tm H=>aresults tabs.ty H tm Try.f69.results.toList fun v=>some (v,H)) (fun _ _ _=>none) (fun tm H=>aresults tabs.ty H tm Try.f69.results.toList fun v=>some (v,H)):=by
 exact loops_none (by kernel_rfl)
theorem bI.eqX (F:Nat) (cP:Sl→Hp→OA) (ev:Int→Int→Int→Hp→OA) (kd:Sl→Hp→OA) (ke:Sl→Int→Hp→OA) (aM:Sl→Int→Sl→Sl→Hp→OA) (kf:Sl→Hp→OA) (bo:Sl→Int→Sl→Sl→Hp→OA) (bp:Sl→Hp→OA) (aa:Sl) (ab:Int) (H:Hp):aCode tabs (mkOrc (bI.cs F cP ev kd ke aM kf bo bp)) bI.pn (bI.lh F cP ev kd ke aM kf bo bp) F [] 1 bI.code (argTm [(.agg [(.sl aa),(.int .i64 ab)])]) H (fun tm H=>aresults tabs.ty H tm Try.f69.results.toList fun v=>some (v,H)) (fun _ _ _=>none) (fun tm H=>aresults tabs.ty H tm Try.f69.results.toList fun v=>some (v,H)) = bI.twX F cP ev kd ke aM kf bo bp aa ab H:=by kernel_rfl
theorem bI.cs_ok (F:Nat):∀ p ∈ bI.cs F (bq.tw F) (bv.tw F) (bT.tw F) (aF.tw F) (aq.tw F) (ck.tw F) (aH.tw F) (bd.tw F),∀ args H v H',p.2 args H = some (v,H')→Go.AE.T Try.prog p.1 args H v H':=by
 intro p hp
 simp only [bI.cs,List.mem_cons,List.not_mem_nil,or_false] at hp
 rcases hp with rfl | rfl | rfl | rfl | rfl | rfl | rfl | rfl
 ·exact fun args H v H' h=>bq.mk_T h
 ·exact fun args H v H' h=>bv.mk_T h
 ·exact fun args H v H' h=>bT.mk_T h
 ·exact fun args H v H' h=>aF.mk_T h
 ·exact fun args H v H' h=>aq.mk_T h
 ·exact fun args H v H' h=>ck.mk_T h
 ·exact fun args H v H' h=>aH.mk_T h
 ·exact fun args H v H' h=>bd.mk_T h
theorem bI.ok:codeOk bI.pn Try.f69.ntmps bI.tb bI.code = true:=by kernel_rfl
theorem bI.T {F:Nat} {aa:Sl} {ab:Int} {H:Hp} {v:AV} {H':Hp} (h:bI.tw F aa ab H = some (v,H')):Go.AE.T Try.prog 69 [(.agg [(.sl aa),(.int .i64 ab)])] H v H':=
 Go.AE.T.of (Y:=tabs) (C:=mkOrc (bI.cs F (bq.tw F) (bv.tw F) (bT.tw F) (aF.tw F) (aq.tw F) (ck.tw F) (aH.tw F) (bd.tw F))) (PN:=bI.pn) (LH:=bI.lh F (bq.tw F) (bv.tw F) (bT.tw F) (aF.tw F) (aq.tw F) (ck.tw F) (aH.tw F) (bd.tw F)) (F:=F) (TB:=bI.tb) (fn:=Try.f69) (code:=bI.code) mixed tabs_ok (mkOrc_ok (bI.cs_ok F)) Try.func69 (by kernel_rfl) (by kernel_rfl) bI.ok (Nat.le_of_ble_eq_true (by kernel_rfl)) (bI.loops F (bq.tw F) (bv.tw F) (bT.tw F) (aF.tw F) (aq.tw F) (ck.tw F) (aH.tw F) (bd.tw F)) (Eq.trans (bI.eqX F (bq.tw F) (bv.tw F) (bT.tw F) (aF.tw F) (aq.tw F) (ck.tw F) (aH.tw F) (bd.tw F) aa ab H) h)
theorem bI.mk_T {F:Nat} {args:List AV} {H:Hp} {v:AV} {H':Hp} (h:bI.mk (bI.tw F) args H = some (v,H')):Go.AE.T Try.prog 69 args H v H':=by
 unfold bI.mk at h
 split at h
 ·exact bI.T h
 ·cases h
noncomputable def b_.twX (F:Nat) (aa:Int) (H:Hp):OA:=(bif (aa == 0) then (some ((.bool true),H)) else (some ((.bool (aa == 1)),H)))
noncomputable def b_.tw (F:Nat) (aa:Int) (H:Hp):OA:=b_.twX F aa H
noncomputable def b_.code:Go.Code:=(Try.f71.body).getD .skip
noncomputable def b_.lh (F:Nat) (p:Nat) (ks:List Nat) (n:Nat) (tm:Tm) (H:Hp):OA:=none
def b_.pn:Nat→List Nat:=fun i=>(([]:List (Nat×List Nat)).lookup i).getD []
def b_.tb:Nat→List (List Nat):=fun i=>(([]:List (Nat×List (List Nat))).lookup i).getD []
noncomputable def b_.mk (g:Int→Hp→OA) (args:List AV) (H:Hp):OA:=match args with
 | [(.int .i64 aa)]=>g aa H
 | _=>none
noncomputable def b_.cs (F:Nat):List (FuncId×(List AV→Hp→OA)):=[]
theorem b_.loops (F:Nat):LoopsOk tabs (mkOrc (b_.cs F)) b_.pn (b_.lh F) F [] 1 b_.code (fun tm H=>aresults tabs.ty H tm Try.f71.results.toList fun v=>some (v,H)) (fun _ _ _=>none) (fun tm H=>aresults tabs.ty H tm Try.f71.results.toList fun v=>some (v,H)):=by
 exact loops_none (by kernel_rfl)
theorem b_.eqX (F:Nat) (aa:Int) (H:Hp):aCode tabs (mkOrc (b_.cs F)) b_.pn (b_.lh F) F [] 1 b_.code (argTm [(.int .i64 aa)]) H (fun tm H=>aresults tabs.ty H tm Try.f71.results.toList fun v=>some (v,H)) (fun _ _ _=>none) (fun tm H=>aresults tabs.ty H tm Try.f71.results.toList fun v=>some (v,H)) = b_.twX F aa H:=by kernel_rfl
theorem b_.cs_ok (F:Nat):∀ p ∈ b_.cs F,∀ args H v H',p.2 args H = some (v,H')→Go.AE.T Try.prog p.1 args H v H':=by
 intro p hp
 exact absurd (show p ∈ [] from hp) List.not_mem_nil
theorem b_.ok:codeOk b_.pn Try.f71.ntmps b_.tb b_.code = true:=by kernel_rfl
theorem b_.T {F:Nat} {aa:Int} {H:Hp} {v:AV} {H':Hp} (h:b_.tw F aa H = some (v,H')):Go.AE.T Try.prog 71 [(.int .i64 aa)] H v H':=
 Go.AE.T.of (Y:=tabs) (C:=mkOrc (b_.cs F)) (PN:=b_.pn) (LH:=b_.lh F) (F:=F) (TB:=b_.tb) (fn:=Try.f71) (code:=b_.code) mixed tabs_ok (mkOrc_ok (b_.cs_ok F)) Try.func71 (by kernel_rfl) (by kernel_rfl) b_.ok (Nat.le_of_ble_eq_true (by kernel_rfl)) (b_.loops F) (Eq.trans (b_.eqX F aa H) h)
theorem b_.mk_T {F:Nat} {args:List AV} {H:Hp} {v:AV} {H':Hp} (h:b_.mk (b_.tw F) args H = some (v,H')):Go.AE.T Try.prog 71 args H v H':=by
 unfold b_.mk at h
 split at h
 ·exact b_.T h
 ·cases h
noncomputable def cc.twX (F:Nat) (bo:Sl→Int→Sl→Sl→Hp→OA) (bp:Sl→Hp→OA) (aa:Sl) (ab:Int) (ah:Sl) (av:Sl) (H:Hp):OA:=(Hp.new H [(.sl aa),(.int .i64 ab)]).bind fun H5=>(Hp.new H5 [(.sl ah),(.sl av)]).bind fun H6=>(Hp.ldSl H6 H.length 0).bind fun s7=>(Hp.ldI H6 .i64 H.length (0 + 1)).bind fun n8=>(Hp.ldSl H6 H5.length 0).bind fun s9=>(Hp.ldSl H6 H5.length (0 + 1)).bind fun s10=>(bo s7 n8 s9 s10 H6).bind fun r11=>((r11.1).asSl).bind fun s12=>(bp s12 r11.2).bind fun r13=>((r13.1).asI .i64).bind fun n14=>(bif (n14 == 1) then ((Hp.ldI r13.2 .i64 H.length 1).bind fun n15=>some ((.bool (n15 == 0)),r13.2)) else (some ((.bool false),r13.2)))
noncomputable def cc.tw (F:Nat) (aa:Sl) (ab:Int) (ah:Sl) (av:Sl) (H:Hp):OA:=cc.twX F (aH.tw F) (bd.tw F) aa ab ah av H
noncomputable def cc.code:Go.Code:=(Try.f99.body).getD .skip
noncomputable def cc.lh (F:Nat) (bo:Sl→Int→Sl→Sl→Hp→OA) (bp:Sl→Hp→OA) (p:Nat) (ks:List Nat) (n:Nat) (tm:Tm) (H:Hp):OA:=none
def cc.pn:Nat→List Nat:=fun i=>(([]:List (Nat×List Nat)).lookup i).getD []
def cc.tb:Nat→List (List Nat):=fun i=>(([]:List (Nat×List (List Nat))).lookup i).getD []
noncomputable def cc.mk (g:Sl→Int→Sl→Sl→Hp→OA) (args:List AV) (H:Hp):OA:=match args with
 | [(.agg [(.sl aa),(.int .i64 ab)]),(.agg [(.sl ah),(.sl av)])]=>g aa ab ah av H
 | _=>none
noncomputable def cc.cs (F:Nat) (bo:Sl→Int→Sl→Sl→Hp→OA) (bp:Sl→Hp→OA):List (FuncId×(List AV→Hp→OA)):=[(126,aH.mk bo),(120,bd.mk bp)]
theorem cc.loops (F:Nat) (bo:Sl→Int→Sl→Sl→Hp→OA) (bp:Sl→Hp→OA):LoopsOk tabs (mkOrc (cc.cs F bo bp)) cc.pn (cc.lh F bo bp) F [] 1 cc.code (fun tm H=>aresults tabs.ty H tm Try.f99.results.toList fun v=>some (v,H)) (fun _ _ _=>none) (fun tm H=>aresults tabs.ty H tm Try.f99.results.toList fun v=>some (v,H)):=by
 exact loops_none (by kernel_rfl)
theorem cc.eqX (F:Nat) (bo:Sl→Int→Sl→Sl→Hp→OA) (bp:Sl→Hp→OA) (aa:Sl) (ab:Int) (ah:Sl) (av:Sl) (H:Hp):aCode tabs (mkOrc (cc.cs F bo bp)) cc.pn (cc.lh F bo bp) F [] 1 cc.code (argTm [(.agg [(.sl aa),(.int .i64 ab)]),(.agg [(.sl ah),(.sl av)])]) H (fun tm H=>aresults tabs.ty H tm Try.f99.results.toList fun v=>some (v,H)) (fun _ _ _=>none) (fun tm H=>aresults tabs.ty H tm Try.f99.results.toList fun v=>some (v,H)) = cc.twX F bo bp aa ab ah av H:=by kernel_rfl
theorem cc.cs_ok (F:Nat):∀ p ∈ cc.cs F (aH.tw F) (bd.tw F),∀ args H v H',p.2 args H = some (v,H')→Go.AE.T Try.prog p.1 args H v H':=by
 intro p hp
 simp only [cc.cs,List.mem_cons,List.not_mem_nil,or_false] at hp
 rcases hp with rfl | rfl
 ·exact fun args H v H' h=>aH.mk_T h
 ·exact fun args H v H' h=>bd.mk_T h
theorem cc.ok:codeOk cc.pn Try.f99.ntmps cc.tb cc.code = true:=by kernel_rfl
theorem cc.T {F:Nat} {aa:Sl} {ab:Int} {ah:Sl} {av:Sl} {H:Hp} {v:AV} {H':Hp} (h:cc.tw F aa ab ah av H = some (v,H')):Go.AE.T Try.prog 99 [(.agg [(.sl aa),(.int .i64 ab)]),(.agg [(.sl ah),(.sl av)])] H v H':=
 Go.AE.T.of (Y:=tabs) (C:=mkOrc (cc.cs F (aH.tw F) (bd.tw F))) (PN:=cc.pn) (LH:=cc.lh F (aH.tw F) (bd.tw F)) (F:=F) (TB:=cc.tb) (fn:=Try.f99) (code:=cc.code) mixed tabs_ok (mkOrc_ok (cc.cs_ok F)) Try.func99 (by kernel_rfl) (by kernel_rfl) cc.ok (Nat.le_of_ble_eq_true (by kernel_rfl)) (cc.loops F (aH.tw F) (bd.tw F)) (Eq.trans (cc.eqX F (aH.tw F) (bd.tw F) aa ab ah av H) h)
theorem cc.mk_T {F:Nat} {args:List AV} {H:Hp} {v:AV} {H':Hp} (h:cc.mk (cc.tw F) args H = some (v,H')):Go.AE.T Try.prog 99 args H v H':=by
 unfold cc.mk at h
 split at h
 ·exact cc.T h
 ·cases h
noncomputable def au.j3 (F:Nat) (aM:Sl→Int→Sl→Sl→Hp→OA) (C29_:Sl→Sl→Int→Int→Hp→OA) (Xn:Sl) (Xo:Sl) (pe:Int) (pf:Int) (H168:Hp):OA:=C29_ Xn Xo pe (IntKind.i64.wrap (pf + 1)) H168
noncomputable def au.j4 (F:Nat) (aM:Sl→Int→Sl→Sl→Hp→OA) (C29_:Sl→Sl→Int→Int→Hp→OA) (Xp:Sl) (Xq:Sl) (pg:Int) (ph:Int) (H147:Hp):OA:=au.j3 F aM C29_ Xp Xq pg ph H147
noncomputable def au.l1883 (F:Nat) (aM:Sl→Int→Sl→Sl→Hp→OA) (C29_:Sl→Sl→Int→Int→Hp→OA):Nat→Sl→Sl→Int→Int→Int→Sl→Int→Int→Hp→OA
 | 0,_,_,_,_,_,_,_,_,_=>none
 | Xr + 1,gI,iv,fj,fD,eb,jC,gl,fT,H122=>(bif (decide (fT < gl)) then ((Sl.idx jC fT 1).bind fun p169=>(Hp.ldI H122 .i64 p169.1 p169.2).bind fun n170=>(Sl.idx gI n170 1).bind fun p171=>(Hp.st H122 p171.1 p171.2 (.int .i64 eb)).bind fun H172=>au.l1883 F aM C29_ Xr gI iv fj fD eb jC gl (IntKind.i64.wrap (fT + 1)) H172) else (au.j4 F aM C29_ gI iv fj fD H122))
termination_by structural n=>n
noncomputable def au.l29 (F:Nat) (aM:Sl→Int→Sl→Sl→Hp→OA) :Nat→Sl→Sl→Int→Int→Hp→OA
 | 0,_,_,_,_,_=>none
 | fx + 1,cv,jD,gm,fk,H28=>(bif (decide (fk < gm)) then ((Sl.idx jD fk 1).bind fun p101=>(Hp.ldSl H28 p101.1 p101.2).bind fun s102=>au.l1883 F aM (au.l29 F aM fx) F cv jD gm fk fk s102 (s102.n:Int) 0 H28) else (some ((.sl cv),H28)))
termination_by structural n=>n
noncomputable def au.twX (F:Nat) (aM:Sl→Int→Sl→Sl→Hp→OA) (aa:Sl) (ab:Int) (ah:Sl) (av:Sl) (H:Hp):OA:=(Hp.new H [(.sl aa),(.int .i64 ab)]).bind fun H5=>(Hp.new H5 [(.sl ah),(.sl av)]).bind fun H6=>(Hp.ldSl H6 H.length 0).bind fun s7=>(Hp.mk H6 [.int .i64 0] 8 (IntKind.i64.wrap (4 * (s7.n:Int))) (IntKind.i64.wrap (4 * (s7.n:Int)))).bind fun m8=>(Hp.ldSl m8.2 H.length 0).bind fun s9=>(Hp.ldI m8.2 .i64 H.length (0 + 1)).bind fun n10=>(Hp.ldSl m8.2 H5.length 0).bind fun s11=>(Hp.ldSl m8.2 H5.length (0 + 1)).bind fun s12=>(aM s9 n10 s11 s12 m8.2).bind fun r13=>((r13.1).asSl).bind fun s14=>au.l29 F aM F m8.1 s14 (s14.n:Int) 0 r13.2
noncomputable def au.tw (F:Nat) (aa:Sl) (ab:Int) (ah:Sl) (av:Sl) (H:Hp):OA:=au.twX F (aq.tw F) aa ab ah av H
noncomputable def au.code:Go.Code:=(Try.f127.body).getD .skip
noncomputable def au.lh29 (F:Nat) (aM:Sl→Int→Sl→Sl→Hp→OA) (ks:List Nat) (n:Nat) (tm:Tm) (H:Hp):OA:=match ks,tm 5,tm 17,tm 18,tm 19 with
 | [],(.sl cv),(.sl jD),(.int .i64 gm),(.int .i64 fk)=>au.l29 F aM n cv jD gm fk H
 | _,_,_,_,_=>none
theorem au.lh29_inv {F:Nat} {aM:Sl→Int→Sl→Sl→Hp→OA} {ks:List Nat} {n:Nat} {tm:Tm} {H:Hp} {r:AV×Hp} (h:au.lh29 F aM ks n tm H = some r):∃ cv:Sl,∃ jD:Sl,∃ gm:Int,∃ fk:Int,ks = []∧tm 5 = (.sl cv)∧tm 17 = (.sl jD)∧tm 18 = (.int .i64 gm)∧tm 19 = (.int .i64 fk)∧au.l29 F aM n cv jD gm fk H = some r:=by
 unfold au.lh29 at h
 split at h
 ·exact ⟨_,_,_,_,rfl,by assumption,by assumption,by assumption,by assumption,h⟩
 ·cases h
noncomputable def au.lh1883 (F:Nat) (aM:Sl→Int→Sl→Sl→Hp→OA) (ks:List Nat) (n:Nat) (tm:Tm) (H:Hp):OA:=match ks,tm 5,tm 6,tm 17,tm 18,tm 19,tm 24,tm 25,tm 26 with
 | [fx],(.sl gI),(.int .i64 eb),(.sl iv),(.int .i64 fj),(.int .i64 fD),(.sl jC),(.int .i64 gl),(.int .i64 fT)=>au.l1883 F aM (au.l29 F aM fx) n gI iv fj fD eb jC gl fT H
 | _,_,_,_,_,_,_,_,_=>none
theorem au.lh1883_inv {F:Nat} {aM:Sl→Int→Sl→Sl→Hp→OA} {ks:List Nat} {n:Nat} {tm:Tm} {H:Hp} {r:AV×Hp} (h:au.lh1883 F aM ks n tm H = some r):∃ fx:Nat,∃ gI:Sl,∃ eb:Int,∃ iv:Sl,∃ fj:Int,∃ fD:Int,∃ jC:Sl,∃ gl:Int,∃ fT:Int,ks = [fx]∧tm 5 = (.sl gI)∧tm 6 = (.int .i64 eb)∧tm 17 = (.sl iv)∧tm 18 = (.int .i64 fj)∧tm 19 = (.int .i64 fD)∧tm 24 = (.sl jC)∧tm 25 = (.int .i64 gl)∧tm 26 = (.int .i64 fT)∧au.l1883 F aM (au.l29 F aM fx) n gI iv fj fD eb jC gl fT H = some r:=by
 unfold au.lh1883 at h
 split at h
 ·exact ⟨_,_,_,_,_,_,_,_,_,rfl,by assumption,by assumption,by assumption,by assumption,by assumption,by assumption,by assumption,by assumption,h⟩
 ·cases h
noncomputable def au.lh (F:Nat) (aM:Sl→Int→Sl→Sl→Hp→OA) (p:Nat) (ks:List Nat) (n:Nat) (tm:Tm) (H:Hp):OA:=bif p.beq 1883 then au.lh1883 F aM ks n tm H else (bif p.beq 29 then au.lh29 F aM ks n tm H else (none))
def au.pn:Nat→List Nat:=fun i=>(([]:List (Nat×List Nat)).lookup i).getD []
def au.tb:Nat→List (List Nat):=fun i=>(([]:List (Nat×List (List Nat))).lookup i).getD []
noncomputable def au.mk (g:Sl→Int→Sl→Sl→Hp→OA) (args:List AV) (H:Hp):OA:=match args with
 | [(.agg [(.sl aa),(.int .i64 ab)]),(.agg [(.sl ah),(.sl av)])]=>g aa ab ah av H
 | _=>none
noncomputable def au.cs (F:Nat) (aM:Sl→Int→Sl→Sl→Hp→OA):List (FuncId×(List AV→Hp→OA)):=[(103,aq.mk aM)]
theorem au.loops (F:Nat) (aM:Sl→Int→Sl→Sl→Hp→OA):LoopsOk tabs (mkOrc (au.cs F aM)) au.pn (au.lh F aM) F [] 1 au.code (fun tm H=>aresults tabs.ty H tm Try.f127.results.toList fun v=>some (v,H)) (fun _ _ _=>none) (fun tm H=>aresults tabs.ty H tm Try.f127.results.toList fun v=>some (v,H)):=by
 refine LoopsOk.seq ?_ ?_
 ·exact loops_none (by kernel_rfl)
 ·refine LoopsOk.seq ?_ ?_
  ·exact loops_none (by kernel_rfl)
  ·refine LoopsOk.seq ?_ ?_
   ·refine LoopsOk.seq ?_ ?_
    ·exact loops_none (by kernel_rfl)
    ·refine LoopsOk.block ?_
     refine LoopsOk.loop (fun tm H=>?_) (fun k29 tm H r h0=>?_) (fun k29=>?_)
     ·refine none_of fun r h0=>?_
      obtain ⟨cv,jD,gm,fk,hks,e5,e17,e18,e19,h⟩:=au.lh29_inv (show au.lh29 F aM [] 0 tm H = some r from h0)
      cases h
     ·obtain ⟨cv,jD,gm,fk,hks,e5,e17,e18,e19,h⟩:=au.lh29_inv (show au.lh29 F aM [] (k29 + 1) tm H = some r from h0)
      have q0:(Tm.put tm 5 (.sl cv)) = tm:=by exact Tm.put_same e5
      have q1:(Tm.put (Tm.put tm 5 (.sl cv)) 17 (.sl jD)) = tm:=by rw [q0]; exact Tm.put_same e17
      have q2:(Tm.put (Tm.put (Tm.put tm 5 (.sl cv)) 17 (.sl jD)) 18 (.int .i64 gm)) = tm:=by rw [q1]; exact Tm.put_same e18
      have q3:(Tm.put (Tm.put (Tm.put (Tm.put tm 5 (.sl cv)) 17 (.sl jD)) 18 (.int .i64 gm)) 19 (.int .i64 fk)) = tm:=by rw [q2]; exact Tm.put_same e19
      rw [← q3]
      exact Eq.trans (by kernel_rfl) h
     ·refine LoopsOk.seq ?_ ?_
      ·exact loops_none (by kernel_rfl)
      ·refine LoopsOk.seq ?_ ?_
       ·exact loops_none (by kernel_rfl)
       ·refine LoopsOk.seq ?_ ?_
        ·refine LoopsOk.block ?_
         refine LoopsOk.seq ?_ ?_
         ·exact loops_none (by kernel_rfl)
         ·refine LoopsOk.seq ?_ ?_
          ·exact loops_none (by kernel_rfl)
          ·refine LoopsOk.block ?_
           refine LoopsOk.loop (fun tm H=>?_) (fun k1883 tm H r h0=>?_) (fun k1883=>?_)
           ·refine none_of fun r h0=>?_
            obtain ⟨fx,gI,eb,iv,fj,fD,jC,gl,fT,hks,e5,e6,e17,e18,e19,e24,e25,e26,h⟩:=au.lh1883_inv (show au.lh1883 F aM [k29] 0 tm H = some r from h0)
            cases h
           ·obtain ⟨fx,gI,eb,iv,fj,fD,jC,gl,fT,hks,e5,e6,e17,e18,e19,e24,e25,e26,h⟩:=au.lh1883_inv (show au.lh1883 F aM [k29] (k1883 + 1) tm H = some r from h0)
            obtain rfl:fx = k29:=by simpa [eq_comm] using hks
            have q0:(Tm.put tm 5 (.sl gI)) = tm:=by exact Tm.put_same e5
            have q1:(Tm.put (Tm.put tm 5 (.sl gI)) 6 (.int .i64 eb)) = tm:=by rw [q0]; exact Tm.put_same e6
            have q2:(Tm.put (Tm.put (Tm.put tm 5 (.sl gI)) 6 (.int .i64 eb)) 17 (.sl iv)) = tm:=by rw [q1]; exact Tm.put_same e17
            have q3:(Tm.put (Tm.put (Tm.put (Tm.put tm 5 (.sl gI)) 6 (.int .i64 eb)) 17 (.sl iv)) 18 (.int .i64 fj)) = tm:=by rw [q2]; exact Tm.put_same e18
            have q4:(Tm.put (Tm.put (Tm.put (Tm.put (Tm.put tm 5 (.sl gI)) 6 (.int .i64 eb)) 17 (.sl iv)) 18 (.int .i64 fj)) 19 (.int .i64 fD)) = tm:=by rw [q3]; exact Tm.put_same e19
            have q5:(Tm.put (Tm.put (Tm.put (Tm.put (Tm.put (Tm.put tm 5 (.sl gI)) 6 (.int .i64 eb)) 17 (.sl iv)) 18 (.int .i64 fj)) 19 (.int .i64 fD)) 24 (.sl jC)) = tm:=by rw [q4]; exact Tm.put_same e24
            have q6:(Tm.put (Tm.put (Tm.put (Tm.put (Tm.put (Tm.put (Tm.put tm 5 (.sl gI)) 6 (.int .i64 eb)) 17 (.sl iv)) 18 (.int .i64 fj)) 19 (.int .i64 fD)) 24 (.sl jC)) 25 (.int .i64 gl)) = tm:=by rw [q5]; exact Tm.put_same e25
            have q7:(Tm.put (Tm.put (Tm.put (Tm.put (Tm.put (Tm.put (Tm.put (Tm.put tm 5 (.sl gI)) 6 (.int .i64 eb)) 17 (.sl iv)) 18 (.int .i64 fj)) 19 (.int .i64 fD)) 24 (.sl jC)) 25 (.int .i64 gl)) 26 (.int .i64 fT)) = tm:=by rw [q6]; exact Tm.put_same e26
            rw [← q7]
            exact Eq.trans (by kernel_rfl) h
           ·exact loops_none (by kernel_rfl)
        ·exact loops_none (by kernel_rfl)
   ·exact loops_none (by kernel_rfl)
theorem au.eqX (F:Nat) (aM:Sl→Int→Sl→Sl→Hp→OA) (aa:Sl) (ab:Int) (ah:Sl) (av:Sl) (H:Hp):aCode tabs (mkOrc (au.cs F aM)) au.pn (au.lh F aM) F [] 1 au.code (argTm [(.agg [(.sl aa),(.int .i64 ab)]),(.agg [(.sl ah),(.sl av)])]) H (fun tm H=>aresults tabs.ty H tm Try.f127.results.toList fun v=>some (v,H)) (fun _ _ _=>none) (fun tm H=>aresults tabs.ty H tm Try.f127.results.toList fun v=>some (v,H)) = au.twX F aM aa ab ah av H:=by kernel_rfl
theorem au.cs_ok (F:Nat):∀ p ∈ au.cs F (aq.tw F),∀ args H v H',p.2 args H = some (v,H')→Go.AE.T Try.prog p.1 args H v H':=by
 intro p hp
 simp only [au.cs,List.mem_cons,List.not_mem_nil,or_false] at hp
 subst hp
 exact fun args H v H' h=>aq.mk_T h
theorem au.ok:codeOk au.pn Try.f127.ntmps au.tb au.code = true:=by kernel_rfl
theorem au.T {F:Nat} {aa:Sl} {ab:Int} {ah:Sl} {av:Sl} {H:Hp} {v:AV} {H':Hp} (h:au.tw F aa ab ah av H = some (v,H')):Go.AE.T Try.prog 127 [(.agg [(.sl aa),(.int .i64 ab)]),(.agg [(.sl ah),(.sl av)])] H v H':=
 Go.AE.T.of (Y:=tabs) (C:=mkOrc (au.cs F (aq.tw F))) (PN:=au.pn) (LH:=au.lh F (aq.tw F)) (F:=F) (TB:=au.tb) (fn:=Try.f127) (code:=au.code) mixed tabs_ok (mkOrc_ok (au.cs_ok F)) Try.func127 (by kernel_rfl) (by kernel_rfl) au.ok (Nat.le_of_ble_eq_true (by kernel_rfl)) (au.loops F (aq.tw F)) (Eq.trans (au.eqX F (aq.tw F) aa ab ah av H) h)
theorem au.mk_T {F:Nat} {args:List AV} {H:Hp} {v:AV} {H':Hp} (h:au.mk (au.tw F) args H = some (v,H')):Go.AE.T Try.prog 127 args H v H':=by
 unfold au.mk at h
 split at h
 ·exact au.T h
 ·cases h
noncomputable def aO.l254 (F:Nat) (g_bits_Mul:Int→Int→Hp→OA) :Nat→Sl→Int→Hp→OA
 | 0,_,_,_=>none
 | Dt + 1,cz,cF,H33=>(bif (decide (cF < (cz.n:Int))) then ((Sl.cut cz 1 cF (cz.n:Int)).bind fun s37=>(Sl.cut cz 1 0 cF).bind fun s38=>(Hp.cpy H33 1 s37 s38).bind fun c39=>aO.l254 F g_bits_Mul Dt cz (IntKind.i64.wrap (cF + (c39.1:Int))) c39.2) else (some ((.sl cz),H33)))
termination_by structural n=>n
noncomputable def aO.j1 (F:Nat) (g_bits_Mul:Int→Int→Hp→OA) (Du:Sl) (iq:Int) (H21:Hp):OA:=(Hp.mk H21 [.int .i64 0] 8 (IntKind.i64.wrap iq) (IntKind.i64.wrap iq)).bind fun m22=>(Hp.cpy m22.2 1 m22.1 Du).bind fun c23=>aO.l254 F g_bits_Mul F m22.1 (c23.1:Int) c23.2
noncomputable def aO.j2 (F:Nat) (g_bits_Mul:Int→Int→Hp→OA) (qw:Sl) (jd:Int) (H7:Hp):OA:=(g_bits_Mul (IntKind.u64.wrap (qw.n:Int)) (IntKind.u64.wrap jd) H7).bind fun r8=>((r8.1).asTup 2).bind fun l9=>(l9[0]?).bind fun v10=>((v10).asI .u64).bind fun n11=>(l9[1]?).bind fun v12=>((v12).asI .u64).bind fun n13=>(bif (decide (n11 > 0)) then (none) else ((bif (decide (n13 > 9223372036854775807)) then (none) else (aO.j1 F g_bits_Mul qw n13 r8.2))))
noncomputable def aO.twX (F:Nat) (g_bits_Mul:Int→Int→Hp→OA) (aa:Sl) (af:Int) (H:Hp):OA:=(bif (decide (af < 0)) then (none) else (aO.j2 F g_bits_Mul aa af H))
noncomputable def aO.tw (F:Nat) (aa:Sl) (af:Int) (H:Hp):OA:=aO.twX F (bits_Mul.tw F) aa af H
noncomputable def aO.code:Go.Code:=(Try.f129.body).getD .skip
noncomputable def aO.lh254 (F:Nat) (g_bits_Mul:Int→Int→Hp→OA) (ks:List Nat) (n:Nat) (tm:Tm) (H:Hp):OA:=match ks,tm 7,tm 8 with
 | [],(.sl cz),(.int .i64 cF)=>aO.l254 F g_bits_Mul n cz cF H
 | _,_,_=>none
theorem aO.lh254_inv {F:Nat} {g_bits_Mul:Int→Int→Hp→OA} {ks:List Nat} {n:Nat} {tm:Tm} {H:Hp} {r:AV×Hp} (h:aO.lh254 F g_bits_Mul ks n tm H = some r):∃ cz:Sl,∃ cF:Int,ks = []∧tm 7 = (.sl cz)∧tm 8 = (.int .i64 cF)∧aO.l254 F g_bits_Mul n cz cF H = some r:=by
 unfold aO.lh254 at h
 split at h
 ·exact ⟨_,_,rfl,by assumption,by assumption,h⟩
 ·cases h
noncomputable def aO.lh (F:Nat) (g_bits_Mul:Int→Int→Hp→OA) (p:Nat) (ks:List Nat) (n:Nat) (tm:Tm) (H:Hp):OA:=bif p.beq 254 then aO.lh254 F g_bits_Mul ks n tm H else (none)
def aO.pn:Nat→List Nat:=fun i=>(([(9,[7])]:List (Nat×List Nat)).lookup i).getD []
def aO.tb:Nat→List (List Nat):=fun i=>(([(9,[[],[],[],[1,2],[],[],[4,5],[1,2,3,4,5,6],[0,1,2,3,4,5,6,7],[0,1,2,3,4,5,6,7,8]])]:List (Nat×List (List Nat))).lookup i).getD []
noncomputable def aO.mk (g:Sl→Int→Hp→OA) (args:List AV) (H:Hp):OA:=match args with
 | [(.sl aa),(.int .i64 af)]=>g aa af H
 | _=>none
noncomputable def aO.cs (F:Nat) (g_bits_Mul:Int→Int→Hp→OA):List (FuncId×(List AV→Hp→OA)):=[(158,bits_Mul.mk g_bits_Mul)]
theorem aO.loops (F:Nat) (g_bits_Mul:Int→Int→Hp→OA):LoopsOk tabs (mkOrc (aO.cs F g_bits_Mul)) aO.pn (aO.lh F g_bits_Mul) F [] 1 aO.code (fun tm H=>aresults tabs.ty H tm Try.f129.results.toList fun v=>some (v,H)) (fun _ _ _=>none) (fun tm H=>aresults tabs.ty H tm Try.f129.results.toList fun v=>some (v,H)):=by
 refine LoopsOk.seq ?_ ?_
 ·exact loops_none (by kernel_rfl)
 ·refine LoopsOk.seq ?_ ?_
  ·exact loops_none (by kernel_rfl)
  ·refine LoopsOk.seq ?_ ?_
   ·exact loops_none (by kernel_rfl)
   ·refine LoopsOk.seq ?_ ?_
    ·exact loops_none (by kernel_rfl)
    ·refine LoopsOk.seq ?_ ?_
     ·exact loops_none (by kernel_rfl)
     ·refine LoopsOk.seq ?_ ?_
      ·exact loops_none (by kernel_rfl)
      ·refine LoopsOk.seq ?_ ?_
       ·refine LoopsOk.block ?_
        refine LoopsOk.loop (fun tm H=>?_) (fun k254 tm H r h0=>?_) (fun k254=>?_)
        ·refine none_of fun r h0=>?_
         obtain ⟨cz,cF,hks,e7,e8,h⟩:=aO.lh254_inv (show aO.lh254 F g_bits_Mul [] 0 tm H = some r from h0)
         cases h
        ·obtain ⟨cz,cF,hks,e7,e8,h⟩:=aO.lh254_inv (show aO.lh254 F g_bits_Mul [] (k254 + 1) tm H = some r from h0)
         have q0:(Tm.put tm 7 (.sl cz)) = tm:=by exact Tm.put_same e7
         have q1:(Tm.put (Tm.put tm 7 (.sl cz)) 8 (.int .i64 cF)) = tm:=by rw [q0]; exact Tm.put_same e8
         rw [← q1]
         exact Eq.trans (by kernel_rfl) h
        ·exact loops_none (by kernel_rfl)
       ·exact loops_none (by kernel_rfl)
theorem aO.eqX (F:Nat) (g_bits_Mul:Int→Int→Hp→OA) (aa:Sl) (af:Int) (H:Hp):aCode tabs (mkOrc (aO.cs F g_bits_Mul)) aO.pn (aO.lh F g_bits_Mul) F [] 1 aO.code (argTm [(.sl aa),(.int .i64 af)]) H (fun tm H=>aresults tabs.ty H tm Try.f129.results.toList fun v=>some (v,H)) (fun _ _ _=>none) (fun tm H=>aresults tabs.ty H tm Try.f129.results.toList fun v=>some (v,H)) = aO.twX F g_bits_Mul aa af H:=by kernel_rfl
theorem aO.cs_ok (F:Nat):∀ p ∈ aO.cs F (bits_Mul.tw F),∀ args H v H',p.2 args H = some (v,H')→Go.AE.T Try.prog p.1 args H v H':=by
 intro p hp
 simp only [aO.cs,List.mem_cons,List.not_mem_nil,or_false] at hp
 subst hp
 exact fun args H v H' h=>bits_Mul.mk_T h
theorem aO.ok:codeOk aO.pn Try.f129.ntmps aO.tb aO.code = true:=by kernel_rfl
end Go.Proofs.Ythfinhmkgdmelaa.AE
