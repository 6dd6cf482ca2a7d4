import Derived.Test.YteeahaikelpkpaaTab1
set_option linter.unusedVariables false
set_option linter.unusedSimpArgs false
namespace Go.Proofs.Yteeahaikelpkpaa.AE
open Go Go.AE Go.Proofs
set_option linter.unusedVariables false
set_option maxHeartbeats 4000000
set_option maxRecDepth 100000
noncomputable def ar.l29 (F:Nat) :Nat→Sl→Sl→Int→Hp→OA
 | 0,_,_,_,_=>none
 | kr + 1,ba,dB,bn,H7=>(bif (decide (bn < (ba.n:Int))) then ((Sl.idx ba bn 1).bind fun p12=>(Hp.ldI H7 .i64 p12.1 p12.2).bind fun n13=>(Sl.idx dB bn 1).bind fun p14=>(Hp.st H7 p14.1 p14.2 (.int .i64 n13)).bind fun H15=>ar.l29 F kr ba dB (IntKind.i64.wrap (bn + 1)) H15) else (some ((.sl dB),H7)))
termination_by structural n=>n
noncomputable def ar.twX (F:Nat) (aa:Sl) (H:Hp):OA:=(Hp.mk H [.int .i64 0] 8 (aa.n:Int) (aa.n:Int)).bind fun m2=>ar.l29 F F aa m2.1 0 m2.2
noncomputable def ar.tw (F:Nat) (aa:Sl) (H:Hp):OA:=ar.twX F aa H
noncomputable def ar.code:Go.Code:=(Try.f20.body).getD .skip
noncomputable def ar.lh29 (F:Nat) (ks:List Nat) (n:Nat) (tm:Tm) (H:Hp):OA:=match ks,tm 0,tm 3,tm 4 with
 | [],(.sl ba),(.sl dB),(.int .i64 bn)=>ar.l29 F n ba dB bn H
 | _,_,_,_=>none
theorem ar.lh29_inv {F:Nat} {ks:List Nat} {n:Nat} {tm:Tm} {H:Hp} {r:AV×Hp} (h:ar.lh29 F ks n tm H = some r):∃ ba:Sl,∃ dB:Sl,∃ bn:Int,ks = []∧tm 0 = (.sl ba)∧tm 3 = (.sl dB)∧tm 4 = (.int .i64 bn)∧ar.l29 F n ba dB bn H = some r:=by
 unfold ar.lh29 at h
 split at h
 ·exact ⟨_,_,_,rfl,by assumption,by assumption,by assumption,h⟩
 ·cases h
noncomputable def ar.lh (F:Nat) (p:Nat) (ks:List Nat) (n:Nat) (tm:Tm) (H:Hp):OA:=bif p.beq 29 then ar.lh29 F ks n tm H else (none)
def ar.pn:Nat→List Nat:=fun i=>(([]:List (Nat×List Nat)).lookup i).getD []
def ar.tb:Nat→List (List Nat):=fun i=>(([]:List (Nat×List (List Nat))).lookup i).getD []
noncomputable def ar.mk (g:Sl→Hp→OA) (args:List AV) (H:Hp):OA:=match args with
 | [(.sl aa)]=>g aa H
 | _=>none
noncomputable def ar.cs (F:Nat):List (FuncId×(List AV→Hp→OA)):=[]
theorem ar.loops (F:Nat):LoopsOk tabs (mkOrc (ar.cs F)) ar.pn (ar.lh F) F [] 1 ar.code (fun tm H=>aresults tabs.ty H tm Try.f20.results.toList fun v=>some (v,H)) (fun _ _ _=>none) (fun tm H=>aresults tabs.ty H tm Try.f20.results.toList fun v=>some (v,H)):=by
 refine LoopsOk.seq ?_ ?_
 ·exact loops_none (by kernel_rfl)
 ·refine LoopsOk.seq ?_ ?_
  ·exact loops_none (by kernel_rfl)
  ·refine LoopsOk.seq ?_ ?_
   ·refine LoopsOk.seq ?_ ?_
    ·exact loops_none (by kernel_rfl)
    ·refine LoopsOk.block ?_
     refine LoopsOk.loop (fun tm H=>?_) (fun k29 tm H r h0=>?_) (fun k29=>?_)
     ·refine none_of fun r h0=>?_
      obtain ⟨ba,dB,bn,hks,e0,e3,e4,h⟩:=ar.lh29_inv (show ar.lh29 F [] 0 tm H = some r from h0)
      cases h
     ·obtain ⟨ba,dB,bn,hks,e0,e3,e4,h⟩:=ar.lh29_inv (show ar.lh29 F [] (k29 + 1) tm H = some r from h0)
      have q0:(Tm.put tm 0 (.sl ba)) = tm:=by exact Tm.put_same e0
      have q1:(Tm.put (Tm.put tm 0 (.sl ba)) 3 (.sl dB)) = tm:=by rw [q0]; exact Tm.put_same e3
      have q2:(Tm.put (Tm.put (Tm.put tm 0 (.sl ba)) 3 (.sl dB)) 4 (.int .i64 bn)) = tm:=by rw [q1]; exact Tm.put_same e4
      rw [← q2]
      exact Eq.trans (by kernel_rfl) h
     ·exact loops_none (by kernel_rfl)
   ·exact loops_none (by kernel_rfl)
theorem ar.eqX (F:Nat) (aa:Sl) (H:Hp):aCode tabs (mkOrc (ar.cs F)) ar.pn (ar.lh F) F [] 1 ar.code (argTm [(.sl aa)]) H (fun tm H=>aresults tabs.ty H tm Try.f20.results.toList fun v=>some (v,H)) (fun _ _ _=>none) (fun tm H=>aresults tabs.ty H tm Try.f20.results.toList fun v=>some (v,H)) = ar.twX F aa H:=by kernel_rfl
theorem ar.cs_ok (F:Nat):∀ p ∈ ar.cs F,∀ args H v H',p.2 args H = some (v,H')→Go.AE.T Try.prog p.1 args H v H':=by
 intro p hp
 exact absurd (show p ∈ [] from hp) List.not_mem_nil
theorem ar.ok:codeOk ar.pn Try.f20.ntmps ar.tb ar.code = true:=by kernel_rfl
theorem ar.T {F:Nat} {aa:Sl} {H:Hp} {v:AV} {H':Hp} (h:ar.tw F aa H = some (v,H')):Go.AE.T Try.prog 20 [(.sl aa)] H v H':=
 Go.AE.T.of (Y:=tabs) (C:=mkOrc (ar.cs F)) (PN:=ar.pn) (LH:=ar.lh F) (F:=F) (TB:=ar.tb) (fn:=Try.f20) (code:=ar.code) mixed tabs_ok (mkOrc_ok (ar.cs_ok F)) Try.func20 (by kernel_rfl) (by kernel_rfl) ar.ok (Nat.le_of_ble_eq_true (by kernel_rfl)) (ar.loops F) (Eq.trans (ar.eqX F aa H) h)
theorem ar.mk_T {F:Nat} {args:List AV} {H:Hp} {v:AV} {H':Hp} (h:ar.mk (ar.tw F) args H = some (v,H')):Go.AE.T Try.prog 20 args H v H':=by
 unfold ar.mk at h
 split at h
 ·exact ar.T h
 ·cases h
noncomputable def aB.twX (F:Nat) (aa:Int) (ab:Int) (bB:Int) (H:Hp):OA:=(bif (decide (aa ≥ ab)) then (some ((.bool (decide (aa ≤ bB))),H)) else (some ((.bool false),H)))
noncomputable def aB.tw (F:Nat) (aa:Int) (ab:Int) (bB:Int) (H:Hp):OA:=aB.twX F aa ab bB H
noncomputable def aB.code:Go.Code:=(Try.f79.body).getD .skip
noncomputable def aB.lh (F:Nat) (p:Nat) (ks:List Nat) (n:Nat) (tm:Tm) (H:Hp):OA:=none
def aB.pn:Nat→List Nat:=fun i=>(([]:List (Nat×List Nat)).lookup i).getD []
def aB.tb:Nat→List (List Nat):=fun i=>(([]:List (Nat×List (List Nat))).lookup i).getD []
noncomputable def aB.mk (g:Int→Int→Int→Hp→OA) (args:List AV) (H:Hp):OA:=match args with
 | [(.int .i64 aa),(.int .i64 ab),(.int .i64 bB)]=>g aa ab bB H
 | _=>none
noncomputable def aB.cs (F:Nat):List (FuncId×(List AV→Hp→OA)):=[]
theorem aB.loops (F:Nat):LoopsOk tabs (mkOrc (aB.cs F)) aB.pn (aB.lh F) F [] 1 aB.code (fun tm H=>aresults tabs.ty H tm Try.f79.results.toList fun v=>some (v,H)) (fun _ _ _=>none) (fun tm H=>aresults tabs.ty H tm Try.f79.results.toList fun v=>some (v,H)):=by
 exact loops_none (by kernel_rfl)
theorem aB.eqX (F:Nat) (aa:Int) (ab:Int) (bB:Int) (H:Hp):aCode tabs (mkOrc (aB.cs F)) aB.pn (aB.lh F) F [] 1 aB.code (argTm [(.int .i64 aa),(.int .i64 ab),(.int .i64 bB)]) H (fun tm H=>aresults tabs.ty H tm Try.f79.results.toList fun v=>some (v,H)) (fun _ _ _=>none) (fun tm H=>aresults tabs.ty H tm Try.f79.results.toList fun v=>some (v,H)) = aB.twX F aa ab bB H:=by kernel_rfl
theorem aB.cs_ok (F:Nat):∀ p ∈ aB.cs F,∀ args H v H',p.2 args H = some (v,H')→Go.AE.T Try.prog p.1 args H v H':=by
 intro p hp
 exact absurd (show p ∈ [] from hp) List.not_mem_nil
theorem aB.ok:codeOk aB.pn Try.f79.ntmps aB.tb aB.code = true:=by kernel_rfl
theorem aB.T {F:Nat} {aa:Int} {ab:Int} {bB:Int} {H:Hp} {v:AV} {H':Hp} (h:aB.tw F aa ab bB H = some (v,H')):Go.AE.T Try.prog 79 [(.int .i64 aa),(.int .i64 ab),(.int .i64 bB)] H v H':=
 Go.AE.T.of (Y:=tabs) (C:=mkOrc (aB.cs F)) (PN:=aB.pn) (LH:=aB.lh F) (F:=F) (TB:=aB.tb) (fn:=Try.f79) (code:=aB.code) mixed tabs_ok (mkOrc_ok (aB.cs_ok F)) Try.func79 (by kernel_rfl) (by kernel_rfl) aB.ok (Nat.le_of_ble_eq_true (by kernel_rfl)) (aB.loops F) (Eq.trans (aB.eqX F aa ab bB H) h)
theorem aB.mk_T {F:Nat} {args:List AV} {H:Hp} {v:AV} {H':Hp} (h:aB.mk (aB.tw F) args H = some (v,H')):Go.AE.T Try.prog 79 args H v H':=by
 unfold aB.mk at h
 split at h
 ·exact aB.T h
 ·cases h
noncomputable def ao.j1 (F:Nat) (bx:Int→Int→Int→Hp→OA) (px:Sl) (H16:Hp):OA:=some ((.bool (decide ((px.n:Int) ≤ 120))),H16)
noncomputable def ao.l13 (F:Nat) (bx:Int→Int→Int→Hp→OA) :Nat→Sl→Int→Hp→OA
 | 0,_,_,_=>none
 | dH + 1,bm,ck,H5=>(bif (decide (ck < (bm.n:Int))) then ((Sl.idx bm ck 1).bind fun p17=>(Hp.ldI H5 .i64 p17.1 p17.2).bind fun n18=>(bif (n18 == 0) then (some ((.bool false),H5)) else ((Sl.idx bm ck 1).bind fun p19=>(Hp.ldI H5 .i64 p19.1 p19.2).bind fun n20=>(bx n20 (-24) 24 H5).bind fun r21=>((r21.1).asB).bind fun b22=>(bif (!b22) then (some ((.bool false),r21.2)) else (ao.l13 F bx dH bm (IntKind.i64.wrap (ck + 1)) r21.2))))) else (ao.j1 F bx bm H5))
termination_by structural n=>n
noncomputable def ao.twX (F:Nat) (bx:Int→Int→Int→Hp→OA) (aa:Sl) (H:Hp):OA:=ao.l13 F bx F aa 0 H
noncomputable def ao.tw (F:Nat) (aa:Sl) (H:Hp):OA:=ao.twX F (aB.tw F) aa H
noncomputable def ao.code:Go.Code:=(Try.f36.body).getD .skip
noncomputable def ao.lh13 (F:Nat) (bx:Int→Int→Int→Hp→OA) (ks:List Nat) (n:Nat) (tm:Tm) (H:Hp):OA:=match ks,tm 0,tm 3 with
 | [],(.sl bm),(.int .i64 ck)=>ao.l13 F bx n bm ck H
 | _,_,_=>none
theorem ao.lh13_inv {F:Nat} {bx:Int→Int→Int→Hp→OA} {ks:List Nat} {n:Nat} {tm:Tm} {H:Hp} {r:AV×Hp} (h:ao.lh13 F bx ks n tm H = some r):∃ bm:Sl,∃ ck:Int,ks = []∧tm 0 = (.sl bm)∧tm 3 = (.int .i64 ck)∧ao.l13 F bx n bm ck H = some r:=by
 unfold ao.lh13 at h
 split at h
 ·exact ⟨_,_,rfl,by assumption,by assumption,h⟩
 ·cases h
noncomputable def ao.lh (F:Nat) (bx:Int→Int→Int→Hp→OA) (p:Nat) (ks:List Nat) (n:Nat) (tm:Tm) (H:Hp):OA:=bif p.beq 13 then ao.lh13 F bx ks n tm H else (none)
def ao.pn:Nat→List Nat:=fun i=>(([]:List (Nat×List Nat)).lookup i).getD []
def ao.tb:Nat→List (List Nat):=fun i=>(([]:List (Nat×List (List Nat))).lookup i).getD []
noncomputable def ao.mk (g:Sl→Hp→OA) (args:List AV) (H:Hp):OA:=match args with
 | [(.sl aa)]=>g aa H
 | _=>none
noncomputable def ao.cs (F:Nat) (bx:Int→Int→Int→Hp→OA):List (FuncId×(List AV→Hp→OA)):=[(79,aB.mk bx)]
theorem ao.loops (F:Nat) (bx:Int→Int→Int→Hp→OA):LoopsOk tabs (mkOrc (ao.cs F bx)) ao.pn (ao.lh F bx) F [] 1 ao.code (fun tm H=>aresults tabs.ty H tm Try.f36.results.toList fun v=>some (v,H)) (fun _ _ _=>none) (fun tm H=>aresults tabs.ty H tm Try.f36.results.toList fun v=>some (v,H)):=by
 refine LoopsOk.seq ?_ ?_
 ·exact loops_none (by kernel_rfl)
 ·refine LoopsOk.seq ?_ ?_
  ·refine LoopsOk.seq ?_ ?_
   ·exact loops_none (by kernel_rfl)
   ·refine LoopsOk.block ?_
    refine LoopsOk.loop (fun tm H=>?_) (fun k13 tm H r h0=>?_) (fun k13=>?_)
    ·refine none_of fun r h0=>?_
     obtain ⟨bm,ck,hks,e0,e3,h⟩:=ao.lh13_inv (show ao.lh13 F bx [] 0 tm H = some r from h0)
     cases h
    ·obtain ⟨bm,ck,hks,e0,e3,h⟩:=ao.lh13_inv (show ao.lh13 F bx [] (k13 + 1) tm H = some r from h0)
     have q0:(Tm.put tm 0 (.sl bm)) = tm:=by exact Tm.put_same e0
     have q1:(Tm.put (Tm.put tm 0 (.sl bm)) 3 (.int .i64 ck)) = tm:=by rw [q0]; exact Tm.put_same e3
     rw [← q1]
     exact Eq.trans (by kernel_rfl) h
    ·exact loops_none (by kernel_rfl)
  ·exact loops_none (by kernel_rfl)
theorem ao.eqX (F:Nat) (bx:Int→Int→Int→Hp→OA) (aa:Sl) (H:Hp):aCode tabs (mkOrc (ao.cs F bx)) ao.pn (ao.lh F bx) F [] 1 ao.code (argTm [(.sl aa)]) H (fun tm H=>aresults tabs.ty H tm Try.f36.results.toList fun v=>some (v,H)) (fun _ _ _=>none) (fun tm H=>aresults tabs.ty H tm Try.f36.results.toList fun v=>some (v,H)) = ao.twX F bx aa H:=by kernel_rfl
theorem ao.cs_ok (F:Nat):∀ p ∈ ao.cs F (aB.tw F),∀ args H v H',p.2 args H = some (v,H')→Go.AE.T Try.prog p.1 args H v H':=by
 intro p hp
 simp only [ao.cs,List.mem_cons,List.not_mem_nil,or_false] at hp
 subst hp
 exact fun args H v H' h=>aB.mk_T h
theorem ao.ok:codeOk ao.pn Try.f36.ntmps ao.tb ao.code = true:=by kernel_rfl
theorem ao.T {F:Nat} {aa:Sl} {H:Hp} {v:AV} {H':Hp} (h:ao.tw F aa H = some (v,H')):Go.AE.T Try.prog 36 [(.sl aa)] H v H':=
 Go.AE.T.of (Y:=tabs) (C:=mkOrc (ao.cs F (aB.tw F))) (PN:=ao.pn) (LH:=ao.lh F (aB.tw F)) (F:=F) (TB:=ao.tb) (fn:=Try.f36) (code:=ao.code) mixed tabs_ok (mkOrc_ok (ao.cs_ok F)) Try.func36 (by kernel_rfl) (by kernel_rfl) ao.ok (Nat.le_of_ble_eq_true (by kernel_rfl)) (ao.loops F (aB.tw F)) (Eq.trans (ao.eqX F (aB.tw F) aa H) h)
theorem ao.mk_T {F:Nat} {args:List AV} {H:Hp} {v:AV} {H':Hp} (h:ao.mk (ao.tw F) args H = some (v,H')):Go.AE.T Try.prog 36 args H v H':=by
 unfold ao.mk at h
 split at h
 ·exact ao.T h
 ·cases h
noncomputable def af.j1 (F:Nat) (fe:Int) (py:Sl) (dI:Nat) (eG:Nat) (em:Int) (eH:Int) (H39:Hp):OA:=(bif (em == eH) then ((Hp.st H39 dI eG (.int .i64 0)).bind fun H40=>(Hp.st H40 dI (eG + 1) (.sl (⟨none,0,.ex 0⟩:Sl))).bind fun H41=>(Hp.ldI H41 .i64 dI eG).bind fun n42=>(Hp.ldSl H41 dI (eG + 1)).bind fun s43=>some ((.agg [(.int .i64 n42),(.sl s43)]),H41)) else ((Hp.new H39 []).bind fun H44=>(Sl.cut py 1 em eH).bind fun s45=>(Sl.row H44 s45 1).bind fun xs47=>(Hp.app H44 1 8 (⟨some (H39.length,0),0,.ex 0⟩:Sl) s45.n xs47).bind fun a46=>(Hp.st a46.2 dI eG (.int .i64 (IntKind.i64.wrap (fe + em)))).bind fun H48=>(Hp.st H48 dI (eG + 1) (.sl a46.1)).bind fun H49=>(Hp.ldI H49 .i64 dI eG).bind fun n50=>(Hp.ldSl H49 dI (eG + 1)).bind fun s51=>some ((.agg [(.int .i64 n50),(.sl s51)]),H49)))
noncomputable def af.l30 (F:Nat) :Nat→Int→Sl→Nat→Nat→Int→Int→Hp→OA
 | 0,_,_,_,_,_,_,_=>none
 | pz + 1,bR,db,cM,dr,b_,bS,H28=>(bif (decide (b_ < bS)) then ((Sl.idx db (IntKind.i64.wrap (bS - 1)) 1).bind fun p52=>(Hp.ldI H28 .i64 p52.1 p52.2).bind fun n53=>(bif (n53 == 0) then (af.l30 F pz bR db cM dr b_ (IntKind.i64.wrap (bS - 1)) H28) else (af.j1 F bR db cM dr b_ bS H28))) else (af.j1 F bR db cM dr b_ bS H28))
termination_by structural n=>n
noncomputable def af.j2 (F:Nat) (ff:Int) (pA:Sl) (hK:Nat) (pB:Nat) (fg:Int) (fh:Int) (H20:Hp):OA:=af.l30 F F ff pA hK pB fg fh H20
noncomputable def af.l14 (F:Nat) :Nat→Int→Sl→Nat→Nat→Int→Int→Hp→OA
 | 0,_,_,_,_,_,_,_=>none
 | kt + 1,bw,dc,bn,bs,bP,cl,H10=>(bif (decide (bP < cl)) then ((Sl.idx dc bP 1).bind fun p54=>(Hp.ldI H10 .i64 p54.1 p54.2).bind fun n55=>(bif (n55 == 0) then (af.l14 F kt bw dc bn bs (IntKind.i64.wrap (bP + 1)) cl H10) else (af.j2 F bw dc bn bs bP cl H10))) else (af.j2 F bw dc bn bs bP cl H10))
termination_by structural n=>n
noncomputable def af.twX (F:Nat) (aa:Int) (ab:Sl) (H:Hp):OA:=(Hp.new H [.int .i64 0,.sl ⟨none,0,.ex 0⟩]).bind fun H3=>af.l14 F F aa ab H.length 0 0 (ab.n:Int) H3
noncomputable def af.tw (F:Nat) (aa:Int) (ab:Sl) (H:Hp):OA:=af.twX F aa ab H
noncomputable def af.code:Go.Code:=(Try.f100.body).getD .skip
noncomputable def af.lh14 (F:Nat) (ks:List Nat) (n:Nat) (tm:Tm) (H:Hp):OA:=match ks,tm 0,tm 1,tm 4,tm 5,tm 6 with
 | [],(.int .i64 bw),(.sl dc),(.ptr bn bs),(.int .i64 bP),(.int .i64 cl)=>af.l14 F n bw dc bn bs bP cl H
 | _,_,_,_,_,_=>none
theorem af.lh14_inv {F:Nat} {ks:List Nat} {n:Nat} {tm:Tm} {H:Hp} {r:AV×Hp} (h:af.lh14 F ks n tm H = some r):∃ bw:Int,∃ dc:Sl,∃ bn:Nat,∃ bs:Nat,∃ bP:Int,∃ cl:Int,ks = []∧tm 0 = (.int .i64 bw)∧tm 1 = (.sl dc)∧tm 4 = (.ptr bn bs)∧tm 5 = (.int .i64 bP)∧tm 6 = (.int .i64 cl)∧af.l14 F n bw dc bn bs bP cl H = some r:=by
 unfold af.lh14 at h
 split at h
 ·exact ⟨_,_,_,_,_,_,rfl,by assumption,by assumption,by assumption,by assumption,by assumption,h⟩
 ·cases h
noncomputable def af.lh30 (F:Nat) (ks:List Nat) (n:Nat) (tm:Tm) (H:Hp):OA:=match ks,tm 0,tm 1,tm 4,tm 5,tm 6 with
 | [],(.int .i64 bR),(.sl db),(.ptr cM dr),(.int .i64 b_),(.int .i64 bS)=>af.l30 F n bR db cM dr b_ bS H
 | _,_,_,_,_,_=>none
theorem af.lh30_inv {F:Nat} {ks:List Nat} {n:Nat} {tm:Tm} {H:Hp} {r:AV×Hp} (h:af.lh30 F ks n tm H = some r):∃ bR:Int,∃ db:Sl,∃ cM:Nat,∃ dr:Nat,∃ b_:Int,∃ bS:Int,ks = []∧tm 0 = (.int .i64 bR)∧tm 1 = (.sl db)∧tm 4 = (.ptr cM dr)∧tm 5 = (.int .i64 b_)∧tm 6 = (.int .i64 bS)∧af.l30 F n bR db cM dr b_ bS H = some r:=by
 unfold af.lh30 at h
 split at h
 ·exact ⟨_,_,_,_,_,_,rfl,by assumption,by assumption,by assumption,by assumption,by assumption,h⟩
 ·cases h
noncomputable def af.lh (F:Nat) (p:Nat) (ks:List Nat) (n:Nat) (tm:Tm) (H:Hp):OA:=bif p.beq 30 then af.lh30 F ks n tm H else (bif p.beq 14 then af.lh14 F ks n tm H else (none))
def af.pn:Nat→List Nat:=fun i=>(([]:List (Nat×List Nat)).lookup i).getD []
def af.tb:Nat→List (List Nat):=fun i=>(([]:List (Nat×List (List Nat))).lookup i).getD []
noncomputable def af.mk (g:Int→Sl→Hp→OA) (args:List AV) (H:Hp):OA:=match args with
 | [(.int .i64 aa),(.sl ab)]=>g aa ab H
 | _=>none
noncomputable def af.cs (F:Nat):List (FuncId×(List AV→Hp→OA)):=[]
theorem af.loops (F:Nat):LoopsOk tabs (mkOrc (af.cs F)) af.pn (af.lh F) F [] 1 af.code (fun tm H=>aresults tabs.ty H tm Try.f100.results.toList fun v=>some (v,H)) (fun _ _ _=>none) (fun tm H=>aresults tabs.ty H tm Try.f100.results.toList fun v=>some (v,H)):=by
 refine LoopsOk.seq ?_ ?_
 ·exact loops_none (by kernel_rfl)
 ·refine LoopsOk.seq ?_ ?_
  ·exact loops_none (by kernel_rfl)
  ·refine LoopsOk.seq ?_ ?_
   ·refine LoopsOk.block ?_
    refine LoopsOk.loop (fun tm H=>?_) (fun k14 tm H r h0=>?_) (fun k14=>?_)
    ·refine none_of fun r h0=>?_
     obtain ⟨bw,dc,bn,bs,bP,cl,hks,e0,e1,e4,e5,e6,h⟩:=af.lh14_inv (show af.lh14 F [] 0 tm H = some r from h0)
     cases h
    ·obtain ⟨bw,dc,bn,bs,bP,cl,hks,e0,e1,e4,e5,e6,h⟩:=af.lh14_inv (show af.lh14 F [] (k14 + 1) tm H = some r from h0)
     have q0:(Tm.put tm 0 (.int .i64 bw)) = tm:=by exact Tm.put_same e0
     have q1:(Tm.put (Tm.put tm 0 (.int .i64 bw)) 1 (.sl dc)) = tm:=by rw [q0]; exact Tm.put_same e1
     have q2:(Tm.put (Tm.put (Tm.put tm 0 (.int .i64 bw)) 1 (.sl dc)) 4 (.ptr bn bs)) = tm:=by rw [q1]; exact Tm.put_same e4
     have q3:(Tm.put (Tm.put (Tm.put (Tm.put tm 0 (.int .i64 bw)) 1 (.sl dc)) 4 (.ptr bn bs)) 5 (.int .i64 bP)) = tm:=by rw [q2]; exact Tm.put_same e5
     have q4:(Tm.put (Tm.put (Tm.put (Tm.put (Tm.put tm 0 (.int .i64 bw)) 1 (.sl dc)) 4 (.ptr bn bs)) 5 (.int .i64 bP)) 6 (.int .i64 cl)) = tm:=by rw [q3]; exact Tm.put_same e6
     rw [← q4]
     exact Eq.trans (by kernel_rfl) h
    ·exact loops_none (by kernel_rfl)
   ·refine LoopsOk.seq ?_ ?_
    ·refine LoopsOk.block ?_
     refine LoopsOk.loop (fun tm H=>?_) (fun k30 tm H r h0=>?_) (fun k30=>?_)
     ·refine none_of fun r h0=>?_
      obtain ⟨bR,db,cM,dr,b_,bS,hks,e0,e1,e4,e5,e6,h⟩:=af.lh30_inv (show af.lh30 F [] 0 tm H = some r from h0)
      cases h
     ·obtain ⟨bR,db,cM,dr,b_,bS,hks,e0,e1,e4,e5,e6,h⟩:=af.lh30_inv (show af.lh30 F [] (k30 + 1) tm H = some r from h0)
      have q0:(Tm.put tm 0 (.int .i64 bR)) = tm:=by exact Tm.put_same e0
      have q1:(Tm.put (Tm.put tm 0 (.int .i64 bR)) 1 (.sl db)) = tm:=by rw [q0]; exact Tm.put_same e1
      have q2:(Tm.put (Tm.put (Tm.put tm 0 (.int .i64 bR)) 1 (.sl db)) 4 (.ptr cM dr)) = tm:=by rw [q1]; exact Tm.put_same e4
      have q3:(Tm.put (Tm.put (Tm.put (Tm.put tm 0 (.int .i64 bR)) 1 (.sl db)) 4 (.ptr cM dr)) 5 (.int .i64 b_)) = tm:=by rw [q2]; exact Tm.put_same e5
      have q4:(Tm.put (Tm.put (Tm.put (Tm.put (Tm.put tm 0 (.int .i64 bR)) 1 (.sl db)) 4 (.ptr cM dr)) 5 (.int .i64 b_)) 6 (.int .i64 bS)) = tm:=by rw [q3]; exact Tm.put_same e6
      rw [← q4]
      exact Eq.trans (by kernel_rfl) h
     ·exact loops_none (by kernel_rfl)
    ·exact loops_none (by kernel_rfl)
theorem af.eqX (F:Nat) (aa:Int) (ab:Sl) (H:Hp):aCode tabs (mkOrc (af.cs F)) af.pn (af.lh F) F [] 1 af.code (argTm [(.int .i64 aa),(.sl ab)]) H (fun tm H=>aresults tabs.ty H tm Try.f100.results.toList fun v=>some (v,H)) (fun _ _ _=>none) (fun tm H=>aresults tabs.ty H tm Try.f100.results.toList fun v=>some (v,H)) = af.twX F aa ab H:=by kernel_rfl
theorem af.cs_ok (F:Nat):∀ p ∈ af.cs F,∀ args H v H',p.2 args H = some (v,H')→Go.AE.T Try.prog p.1 args H v H':=by
 intro p hp
 exact absurd (show p ∈ [] from hp) List.not_mem_nil
theorem af.ok:codeOk af.pn Try.f100.ntmps af.tb af.code = true:=by kernel_rfl
theorem af.T {F:Nat} {aa:Int} {ab:Sl} {H:Hp} {v:AV} {H':Hp} (h:af.tw F aa ab H = some (v,H')):Go.AE.T Try.prog 100 [(.int .i64 aa),(.sl ab)] H v H':=
 Go.AE.T.of (Y:=tabs) (C:=mkOrc (af.cs F)) (PN:=af.pn) (LH:=af.lh F) (F:=F) (TB:=af.tb) (fn:=Try.f100) (code:=af.code) mixed tabs_ok (mkOrc_ok (af.cs_ok F)) Try.func100 (by kernel_rfl) (by kernel_rfl) af.ok (Nat.le_of_ble_eq_true (by kernel_rfl)) (af.loops F) (Eq.trans (af.eqX F aa ab H) h)
theorem af.mk_T {F:Nat} {args:List AV} {H:Hp} {v:AV} {H':Hp} (h:af.mk (af.tw F) args H = some (v,H')):Go.AE.T Try.prog 100 args H v H':=by
 unfold af.mk at h
 split at h
 ·exact af.T h
 ·cases h
noncomputable def ag.j1 (F:Nat) (bt:Int→Sl→Hp→OA) (eY:Nat) (hL:Nat) (fi:Int) (pD:Sl) (H132:Hp):OA:=(bt fi pD H132).bind fun r133=>((r133.1).asAgg 2).bind fun l134=>(l134[0]?).bind fun v135=>((v135).asI .i64).bind fun n136=>(l134[1]?).bind fun v137=>((v137).asSl).bind fun s138=>(Hp.st r133.2 eY hL (.int .i64 n136)).bind fun H139=>(Hp.st H139 eY (hL + 1) (.sl s138)).bind fun H140=>(Hp.ldI H140 .i64 eY hL).bind fun n141=>(Hp.ldSl H140 eY (hL + 1)).bind fun s142=>some ((.agg [(.int .i64 n141),(.sl s142)]),H140)
noncomputable def ag.l1021 (F:Nat) (bt:Int→Sl→Hp→OA) :Nat→Nat→Nat→Nat→Nat→Int→Sl→Int→Hp→OA
 | 0,_,_,_,_,_,_,_,_=>none
 | pE + 1,cy,cY,cN,dt,bT,du,bU,H103=>(Hp.ldSl H103 cy (cY + 1)).bind fun s143=>(bif (decide (bU < (s143.n:Int))) then ((Hp.ldI H103 .i64 cy cY).bind fun n144=>(Sl.idx du (IntKind.i64.wrap ((IntKind.i64.wrap (n144 - bT)) + bU)) 1).bind fun p145=>(Hp.ldI H103 .i64 p145.1 p145.2).bind fun n146=>(Hp.ldSl H103 cy (cY + 1)).bind fun s147=>(Sl.idx s147 bU 1).bind fun p148=>(Hp.ldI H103 .i64 p148.1 p148.2).bind fun n149=>(Sl.idx du (IntKind.i64.wrap ((IntKind.i64.wrap (n144 - bT)) + bU)) 1).bind fun p150=>(Hp.st H103 p150.1 p150.2 (.int .i64 (IntKind.i64.wrap (n146 + n149)))).bind fun H151=>ag.l1021 F bt pE cy cY cN dt bT du (IntKind.i64.wrap (bU + 1)) H151) else (ag.j1 F bt cN dt bT du H103))
termination_by structural n=>n
noncomputable def ag.j2 (F:Nat) (bt:Int→Sl→Hp→OA) (hM:Nat) (pF:Nat) (hN:Nat) (pG:Nat) (fj:Int) (pH:Sl) (H84:Hp):OA:=ag.l1021 F bt F hM pF hN pG fj pH 0 H84
noncomputable def ag.l509 (F:Nat) (bt:Int→Sl→Hp→OA) :Nat→Nat→Nat→Nat→Nat→Nat→Nat→Int→Sl→Int→Hp→OA
 | 0,_,_,_,_,_,_,_,_,_,_=>none
 | pI + 1,cm,cT,cH,di,cO,dv,bV,dw,bW,H57=>(Hp.ldSl H57 cm (cT + 1)).bind fun s152=>(bif (decide (bW < (s152.n:Int))) then ((Hp.ldI H57 .i64 cm cT).bind fun n153=>(Sl.idx dw (IntKind.i64.wrap ((IntKind.i64.wrap (n153 - bV)) + bW)) 1).bind fun p154=>(Hp.ldI H57 .i64 p154.1 p154.2).bind fun n155=>(Hp.ldSl H57 cm (cT + 1)).bind fun s156=>(Sl.idx s156 bW 1).bind fun p157=>(Hp.ldI H57 .i64 p157.1 p157.2).bind fun n158=>(Sl.idx dw (IntKind.i64.wrap ((IntKind.i64.wrap (n153 - bV)) + bW)) 1).bind fun p159=>(Hp.st H57 p159.1 p159.2 (.int .i64 (IntKind.i64.wrap (n155 + n158)))).bind fun H160=>ag.l509 F bt pI cm cT cH di cO dv bV dw (IntKind.i64.wrap (bW + 1)) H160) else (ag.j2 F bt cH di cO dv bV dw H57))
termination_by structural n=>n
noncomputable def ag.twX (F:Nat) (bt:Int→Sl→Hp→OA) (aa:Int) (aj:Sl) (ac:Int) (bg:Sl) (H:Hp):OA:=(Hp.new H [(.int .i64 aa),(.sl aj)]).bind fun H5=>(Hp.new H5 [(.int .i64 ac),(.sl bg)]).bind fun H6=>(Hp.new H6 [.int .i64 0,.sl ⟨none,0,.ex 0⟩]).bind fun H7=>(Hp.ldSl H7 H.length 1).bind fun s8=>(bif ((s8.n:Int) == 0) then ((Hp.ldI H7 .i64 H5.length 0).bind fun n9=>(Hp.ldSl H7 H5.length 1).bind fun s10=>(bt n9 s10 H7).bind fun r11=>((r11.1).asAgg 2).bind fun l12=>(l12[0]?).bind fun v13=>((v13).asI .i64).bind fun n14=>(l12[1]?).bind fun v15=>((v15).asSl).bind fun s16=>(Hp.st r11.2 H6.length 0 (.int .i64 n14)).bind fun H17=>(Hp.st H17 H6.length (0 + 1) (.sl s16)).bind fun H18=>(Hp.ldI H18 .i64 H6.length 0).bind fun n19=>(Hp.ldSl H18 H6.length (0 + 1)).bind fun s20=>some ((.agg [(.int .i64 n19),(.sl s20)]),H18)) else ((Hp.ldSl H7 H5.length 1).bind fun s21=>(bif ((s21.n:Int) == 0) then ((Hp.ldI H7 .i64 H.length 0).bind fun n22=>(Hp.ldSl H7 H.length 1).bind fun s23=>(bt n22 s23 H7).bind fun r24=>((r24.1).asAgg 2).bind fun l25=>(l25[0]?).bind fun v26=>((v26).asI .i64).bind fun n27=>(l25[1]?).bind fun v28=>((v28).asSl).bind fun s29=>(Hp.st r24.2 H6.length 0 (.int .i64 n27)).bind fun H30=>(Hp.st H30 H6.length (0 + 1) (.sl s29)).bind fun H31=>(Hp.ldI H31 .i64 H6.length 0).bind fun n32=>(Hp.ldSl H31 H6.length (0 + 1)).bind fun s33=>some ((.agg [(.int .i64 n32),(.sl s33)]),H31)) else ((Hp.ldI H7 .i64 H.length 0).bind fun n34=>(Hp.ldI H7 .i64 H5.length 0).bind fun n35=>(Hp.ldI H7 .i64 H.length 0).bind fun n36=>(Hp.ldSl H7 H.length 1).bind fun s37=>(Hp.ldI H7 .i64 H5.length 0).bind fun n38=>(Hp.ldSl H7 H5.length 1).bind fun s39=>(Hp.mk H7 [.int .i64 0] 8 (IntKind.i64.wrap ((if (IntKind.i64.wrap (n38 + (s39.n:Int))) > (IntKind.i64.wrap (n36 + (s37.n:Int))) then (IntKind.i64.wrap (n38 + (s39.n:Int))) else (IntKind.i64.wrap (n36 + (s37.n:Int)))) - (if n35 < n34 then n35 else n34))) (IntKind.i64.wrap ((if (IntKind.i64.wrap (n38 + (s39.n:Int))) > (IntKind.i64.wrap (n36 + (s37.n:Int))) then (IntKind.i64.wrap (n38 + (s39.n:Int))) else (IntKind.i64.wrap (n36 + (s37.n:Int)))) - (if n35 < n34 then n35 else n34)))).bind fun m40=>ag.l509 F bt F H.length 0 H5.length 0 H6.length 0 (if n35 < n34 then n35 else n34) m40.1 0 m40.2))))
noncomputable def ag.tw (F:Nat) (aa:Int) (aj:Sl) (ac:Int) (bg:Sl) (H:Hp):OA:=ag.twX F (af.tw F) aa aj ac bg H
noncomputable def ag.code:Go.Code:=(Try.f101.body).getD .skip
noncomputable def ag.lh509 (F:Nat) (bt:Int→Sl→Hp→OA) (ks:List Nat) (n:Nat) (tm:Tm) (H:Hp):OA:=match ks,tm 2,tm 3,tm 4,tm 5,tm 7,tm 8 with
 | [],(.ptr cm cT),(.ptr cH di),(.ptr cO dv),(.int .i64 bV),(.sl dw),(.int .i64 bW)=>ag.l509 F bt n cm cT cH di cO dv bV dw bW H
 | _,_,_,_,_,_,_=>none
theorem ag.lh509_inv {F:Nat} {bt:Int→Sl→Hp→OA} {ks:List Nat} {n:Nat} {tm:Tm} {H:Hp} {r:AV×Hp} (h:ag.lh509 F bt ks n tm H = some r):∃ cm:Nat,∃ cT:Nat,∃ cH:Nat,∃ di:Nat,∃ cO:Nat,∃ dv:Nat,∃ bV:Int,∃ dw:Sl,∃ bW:Int,ks = []∧tm 2 = (.ptr cm cT)∧tm 3 = (.ptr cH di)∧tm 4 = (.ptr cO dv)∧tm 5 = (.int .i64 bV)∧tm 7 = (.sl dw)∧tm 8 = (.int .i64 bW)∧ag.l509 F bt n cm cT cH di cO dv bV dw bW H = some r:=by
 unfold ag.lh509 at h
 split at h
 ·exact ⟨_,_,_,_,_,_,_,_,_,rfl,by assumption,by assumption,by assumption,by assumption,by assumption,by assumption,h⟩
 ·cases h
noncomputable def ag.lh1021 (F:Nat) (bt:Int→Sl→Hp→OA) (ks:List Nat) (n:Nat) (tm:Tm) (H:Hp):OA:=match ks,tm 3,tm 4,tm 5,tm 7,tm 9 with
 | [],(.ptr cy cY),(.ptr cN dt),(.int .i64 bT),(.sl du),(.int .i64 bU)=>ag.l1021 F bt n cy cY cN dt bT du bU H
 | _,_,_,_,_,_=>none
theorem ag.lh1021_inv {F:Nat} {bt:Int→Sl→Hp→OA} {ks:List Nat} {n:Nat} {tm:Tm} {H:Hp} {r:AV×Hp} (h:ag.lh1021 F bt ks n tm H = some r):∃ cy:Nat,∃ cY:Nat,∃ cN:Nat,∃ dt:Nat,∃ bT:Int,∃ du:Sl,∃ bU:Int,ks = []∧tm 3 = (.ptr cy cY)∧tm 4 = (.ptr cN dt)∧tm 5 = (.int .i64 bT)∧tm 7 = (.sl du)∧tm 9 = (.int .i64 bU)∧ag.l1021 F bt n cy cY cN dt bT du bU H = some r:=by
 unfold ag.lh1021 at h
 split at h
 ·exact ⟨_,_,_,_,_,_,_,rfl,by assumption,by assumption,by assumption,by assumption,by assumption,h⟩
 ·cases h
noncomputable def ag.lh (F:Nat) (bt:Int→Sl→Hp→OA) (p:Nat) (ks:List Nat) (n:Nat) (tm:Tm) (H:Hp):OA:=bif p.beq 1021 then ag.lh1021 F bt ks n tm H else (bif p.beq 509 then ag.lh509 F bt ks n tm H else (none))
def ag.pn:Nat→List Nat:=fun i=>(([(11,[16]),(15,[16])]:List (Nat×List Nat)).lookup i).getD []
def ag.tb:Nat→List (List Nat):=fun i=>(([(11,[[],[],[1],[],[1,2,3],[],[1,2,3,4,5],[0,1,2,3,4,5,6],[0,1,2,3,4,5,6,7],[],[9],[],[9,10,11],[9,10,11,12],[0,1,2,3,4,5,6,7,8,9,10,11,12,13],[0,1,2,3,4,5,6,7,8,9,10,11,12,13,14],[0,1,2,3,4,5,6,7,8,9,10,11,12,13,14,15]]),(15,[[],[],[1],[],[1,2,3],[],[1,2,3,4,5],[0,1,2,3,4,5,6],[0,1,2,3,4,5,6,7],[],[9],[],[9,10,11],[9,10,11,12],[0,1,2,3,4,5,6,7,8,9,10,11,12,13],[0,1,2,3,4,5,6,7,8,9,10,11,12,13,14],[0,1,2,3,4,5,6,7,8,9,10,11,12,13,14,15]])]:List (Nat×List (List Nat))).lookup i).getD []
noncomputable def ag.mk (g:Int→Sl→Int→Sl→Hp→OA) (args:List AV) (H:Hp):OA:=match args with
 | [(.agg [(.int .i64 aa),(.sl aj)]),(.agg [(.int .i64 ac),(.sl bg)])]=>g aa aj ac bg H
 | _=>none
noncomputable def ag.cs (F:Nat) (bt:Int→Sl→Hp→OA):List (FuncId×(List AV→Hp→OA)):=[(100,af.mk bt)]
theorem ag.loops (F:Nat) (bt:Int→Sl→Hp→OA):LoopsOk tabs (mkOrc (ag.cs F bt)) ag.pn (ag.lh F bt) F [] 1 ag.code (fun tm H=>aresults tabs.ty H tm Try.f101.results.toList fun v=>some (v,H)) (fun _ _ _=>none) (fun tm H=>aresults tabs.ty H tm Try.f101.results.toList fun v=>some (v,H)):=by
 refine LoopsOk.seq ?_ ?_
 ·exact loops_none (by kernel_rfl)
 ·refine LoopsOk.seq ?_ ?_
  ·exact loops_none (by kernel_rfl)
  ·refine LoopsOk.seq ?_ ?_
   ·exact loops_none (by kernel_rfl)
   ·refine LoopsOk.seq ?_ ?_
    ·exact loops_none (by kernel_rfl)
    ·refine LoopsOk.seq ?_ ?_
     ·exact loops_none (by kernel_rfl)
     ·refine LoopsOk.seq ?_ ?_
      ·exact loops_none (by kernel_rfl)
      ·refine LoopsOk.seq ?_ ?_
       ·refine LoopsOk.seq ?_ ?_
        ·exact loops_none (by kernel_rfl)
        ·refine LoopsOk.block ?_
         refine LoopsOk.loop (fun tm H=>?_) (fun k509 tm H r h0=>?_) (fun k509=>?_)
         ·refine none_of fun r h0=>?_
          obtain ⟨cm,cT,cH,di,cO,dv,bV,dw,bW,hks,e2,e3,e4,e5,e7,e8,h⟩:=ag.lh509_inv (show ag.lh509 F bt [] 0 tm H = some r from h0)
          cases h
         ·obtain ⟨cm,cT,cH,di,cO,dv,bV,dw,bW,hks,e2,e3,e4,e5,e7,e8,h⟩:=ag.lh509_inv (show ag.lh509 F bt [] (k509 + 1) tm H = some r from h0)
          have q0:(Tm.put tm 2 (.ptr cm cT)) = tm:=by exact Tm.put_same e2
          have q1:(Tm.put (Tm.put tm 2 (.ptr cm cT)) 3 (.ptr cH di)) = tm:=by rw [q0]; exact Tm.put_same e3
          have q2:(Tm.put (Tm.put (Tm.put tm 2 (.ptr cm cT)) 3 (.ptr cH di)) 4 (.ptr cO dv)) = tm:=by rw [q1]; exact Tm.put_same e4
          have q3:(Tm.put (Tm.put (Tm.put (Tm.put tm 2 (.ptr cm cT)) 3 (.ptr cH di)) 4 (.ptr cO dv)) 5 (.int .i64 bV)) = tm:=by rw [q2]; exact Tm.put_same e5
          have q4:(Tm.put (Tm.put (Tm.put (Tm.put (Tm.put tm 2 (.ptr cm cT)) 3 (.ptr cH di)) 4 (.ptr cO dv)) 5 (.int .i64 bV)) 7 (.sl dw)) = tm:=by rw [q3]; exact Tm.put_same e7
          have q5:(Tm.put (Tm.put (Tm.put (Tm.put (Tm.put (Tm.put tm 2 (.ptr cm cT)) 3 (.ptr cH di)) 4 (.ptr cO dv)) 5 (.int .i64 bV)) 7 (.sl dw)) 8 (.int .i64 bW)) = tm:=by rw [q4]; exact Tm.put_same e8
          rw [← q5]
          exact Eq.trans (by kernel_rfl) h
         ·exact loops_none (by kernel_rfl)
       ·refine LoopsOk.seq ?_ ?_
        ·refine LoopsOk.seq ?_ ?_
         ·exact loops_none (by kernel_rfl)
         ·refine LoopsOk.block ?_
          refine LoopsOk.loop (fun tm H=>?_) (fun k1021 tm H r h0=>?_) (fun k1021=>?_)
          ·refine none_of fun r h0=>?_
           obtain ⟨cy,cY,cN,dt,bT,du,bU,hks,e3,e4,e5,e7,e9,h⟩:=ag.lh1021_inv (show ag.lh1021 F bt [] 0 tm H = some r from h0)
           cases h
          ·obtain ⟨cy,cY,cN,dt,bT,du,bU,hks,e3,e4,e5,e7,e9,h⟩:=ag.lh1021_inv (show ag.lh1021 F bt [] (k1021 + 1) tm H = some r from h0)
           have q0:(Tm.put tm 3 (.ptr cy cY)) = tm:=by exact Tm.put_same e3
           have q1:(Tm.put (Tm.put tm 3 (.ptr cy cY)) 4 (.ptr cN dt)) = tm:=by rw [q0]; exact Tm.put_same e4
           have q2:(Tm.put (Tm.put (Tm.put tm 3 (.ptr cy cY)) 4 (.ptr cN dt)) 5 (.int .i64 bT)) = tm:=by rw [q1]; exact Tm.put_same e5
           have q3:(Tm.put (Tm.put (Tm.put (Tm.put tm 3 (.ptr cy cY)) 4 (.ptr cN dt)) 5 (.int .i64 bT)) 7 (.sl du)) = tm:=by rw [q2]; exact Tm.put_same e7
           have q4:(Tm.put (Tm.put (Tm.put (Tm.put (Tm.put tm 3 (.ptr cy cY)) 4 (.ptr cN dt)) 5 (.int .i64 bT)) 7 (.sl du)) 9 (.int .i64 bU)) = tm:=by rw [q3]; exact Tm.put_same e9
           rw [← q4]
           exact Eq.trans (by kernel_rfl) h
          ·exact loops_none (by kernel_rfl)
        ·exact loops_none (by kernel_rfl)
theorem ag.eqX (F:Nat) (bt:Int→Sl→Hp→OA) (aa:Int) (aj:Sl) (ac:Int) (bg:Sl) (H:Hp):aCode tabs (mkOrc (ag.cs F bt)) ag.pn (ag.lh F bt) F [] 1 ag.code (argTm [(.agg [(.int .i64 aa),(.sl aj)]),(.agg [(.int .i64 ac),(.sl bg)])]) H (fun tm H=>aresults tabs.ty H tm Try.f101.results.toList fun v=>some (v,H)) (fun _ _ _=>none) (fun tm H=>aresults tabs.ty H tm Try.f101.results.toList fun v=>some (v,H)) = ag.twX F bt aa aj ac bg H:=by kernel_rfl
theorem ag.cs_ok (F:Nat):∀ p ∈ ag.cs F (af.tw F),∀ args H v H',p.2 args H = some (v,H')→Go.AE.T Try.prog p.1 args H v H':=by
 intro p hp
 simp only [ag.cs,List.mem_cons,List.not_mem_nil,or_false] at hp
 subst hp
 exact fun args H v H' h=>af.mk_T h
theorem ag.ok:codeOk ag.pn Try.f101.ntmps ag.tb ag.code = true:=by kernel_rfl
theorem ag.T {F:Nat} {aa:Int} {aj:Sl} {ac:Int} {bg:Sl} {H:Hp} {v:AV} {H':Hp} (h:ag.tw F aa aj ac bg H = some (v,H')):Go.AE.T Try.prog 101 [(.agg [(.int .i64 aa),(.sl aj)]),(.agg [(.int .i64 ac),(.sl bg)])] H v H':=
 Go.AE.T.of (Y:=tabs) (C:=mkOrc (ag.cs F (af.tw F))) (PN:=ag.pn) (LH:=ag.lh F (af.tw F)) (F:=F) (TB:=ag.tb) (fn:=Try.f101) (code:=ag.code) mixed tabs_ok (mkOrc_ok (ag.cs_ok F)) Try.func101 (by kernel_rfl) (by kernel_rfl) ag.ok (Nat.le_of_ble_eq_true (by kernel_rfl)) (ag.loops F (af.tw F)) (Eq.trans (ag.eqX F (af.tw F) aa aj ac bg H) h)
theorem ag.mk_T {F:Nat} {args:List AV} {H:Hp} {v:AV} {H':Hp} (h:ag.mk (ag.tw F) args H = some (v,H')):Go.AE.T Try.prog 101 args H v H':=by
 unfold ag.mk at h
 split at h
 ·exact ag.T h
 ·cases h
noncomputable def ah.j4 (F:Nat) (bD:Int→Sl→Int→Sl→Hp→OA) (C61_:Sl→Int→Nat→Nat→Nat→Nat→Int→Int→Hp→OA) (pJ:Sl) (fk:Int) (hO:Nat) (pK:Nat) (hP:Nat) (pL:Nat) (fl:Int) (fm:Int) (H149:Hp):OA:=C61_ pJ fk hO pK hP pL fl (IntKind.i64.wrap (fm + 1)) H149
noncomputable def ah.j5 (F:Nat) (bD:Int→Sl→Int→Sl→Hp→OA) (C61_:Sl→Int→Nat→Nat→Nat→Nat→Int→Int→Hp→OA) (ku:Sl) (eI:Int) (fS:Nat) (lN:Nat) (fT:Nat) (lO:Nat) (eJ:Int) (en:Int) (H134:Hp):OA:=(Sl.idx ku en 1).bind fun p135=>(Hp.ldI H134 .i64 p135.1 p135.2).bind fun n136=>(bif (decide (n136 > 0)) then (ah.j4 F bD C61_ ku eI fS lN fT lO (IntKind.i64.wrap (eJ + 1)) en H134) else (ah.j4 F bD C61_ ku eI fS lN fT lO (IntKind.i64.wrap (eJ - 1)) en H134))
noncomputable def ah.j6 (F:Nat) (bD:Int→Sl→Int→Sl→Hp→OA) (C61_:Sl→Int→Nat→Nat→Nat→Nat→Int→Int→Hp→OA) (kv:Sl) (eo:Int) (fU:Nat) (lP:Nat) (ey:Nat) (fo:Nat) (ep:Int) (er:Int) (H109:Hp):OA:=(Sl.idx kv er 1).bind fun p110=>(Hp.ldI H109 .i64 p110.1 p110.2).bind fun n111=>(bif (n111 == (IntKind.i64.wrap (0 - eo))) then ((Hp.ldI H109 .i64 ey fo).bind fun n112=>(Hp.ldSl H109 ey (fo + 1)).bind fun s113=>(Hp.new H109 [(.int .i64 (-1))]).bind fun H114=>(bD n112 s113 (IntKind.i64.wrap (ep - 1)) (⟨some (H109.length,0),1,.ex 1⟩:Sl) H114).bind fun r115=>((r115.1).asAgg 2).bind fun l116=>(l116[0]?).bind fun v117=>((v117).asI .i64).bind fun n118=>(l116[1]?).bind fun v119=>((v119).asSl).bind fun s120=>(Hp.st r115.2 ey fo (.int .i64 n118)).bind fun H121=>(Hp.st H121 ey (fo + 1) (.sl s120)).bind fun H122=>ah.j5 F bD C61_ kv eo fU lP ey fo ep er H122) else (ah.j5 F bD C61_ kv eo fU lP ey fo ep er H109))
noncomputable def ah.l61 (F:Nat) (bD:Int→Sl→Int→Sl→Hp→OA) :Nat→Sl→Int→Nat→Nat→Nat→Nat→Int→Int→Hp→OA
 | 0,_,_,_,_,_,_,_,_,_=>none
 | fp + 1,cU,bj,cn,cV,ca,cP,cz,cp,H15=>(bif (decide (cp < (cU.n:Int))) then ((Sl.idx cU cp 1).bind fun p86=>(Hp.ldI H15 .i64 p86.1 p86.2).bind fun n87=>(bif (n87 == bj) then ((Hp.ldI H15 .i64 ca cP).bind fun n88=>(Hp.ldSl H15 ca (cP + 1)).bind fun s89=>(Hp.new H15 [(.int .i64 1)]).bind fun H90=>(bD n88 s89 cz (⟨some (H15.length,0),1,.ex 1⟩:Sl) H90).bind fun r91=>((r91.1).asAgg 2).bind fun l92=>(l92[0]?).bind fun v93=>((v93).asI .i64).bind fun n94=>(l92[1]?).bind fun v95=>((v95).asSl).bind fun s96=>(Hp.st r91.2 ca cP (.int .i64 n94)).bind fun H97=>(Hp.st H97 ca (cP + 1) (.sl s96)).bind fun H98=>ah.j6 F bD (ah.l61 F bD fp) cU bj cn cV ca cP cz cp H98) else (ah.j6 F bD (ah.l61 F bD fp) cU bj cn cV ca cP cz cp H15))) else ((Hp.ldI H15 .i64 ca cP).bind fun n150=>(Hp.ldSl H15 ca (cP + 1)).bind fun s151=>(Hp.st H15 cn cV (.int .i64 n150)).bind fun H152=>(Hp.st H152 cn (cV + 1) (.sl s151)).bind fun H153=>(Hp.ldI H153 .i64 cn cV).bind fun n154=>(Hp.ldSl H153 cn (cV + 1)).bind fun s155=>some ((.agg [(.int .i64 n154),(.sl s155)]),H153)))
termination_by structural n=>n
noncomputable def ah.twX (F:Nat) (bD:Int→Sl→Int→Sl→Hp→OA) (aa:Sl) (ab:Int) (H:Hp):OA:=(Hp.new H [.int .i64 0,.sl ⟨none,0,.ex 0⟩]).bind fun H3=>(Hp.new H3 [.int .i64 0,.sl ⟨none,0,.ex 0⟩]).bind fun H4=>(Hp.st H4 H3.length 0 (.int .i64 0)).bind fun H5=>(Hp.st H5 H3.length (0 + 1) (.sl (⟨none,0,.ex 0⟩:Sl))).bind fun H6=>ah.l61 F bD F aa ab H.length 0 H3.length 0 0 0 H6
noncomputable def ah.tw (F:Nat) (aa:Sl) (ab:Int) (H:Hp):OA:=ah.twX F (ag.tw F) aa ab H
noncomputable def ah.code:Go.Code:=(Try.f86.body).getD .skip
noncomputable def ah.lh61 (F:Nat) (bD:Int→Sl→Int→Sl→Hp→OA) (ks:List Nat) (n:Nat) (tm:Tm) (H:Hp):OA:=match ks,tm 0,tm 1,tm 4,tm 5,tm 6,tm 7 with
 | [],(.sl cU),(.int .i64 bj),(.ptr cn cV),(.ptr ca cP),(.int .i64 cz),(.int .i64 cp)=>ah.l61 F bD n cU bj cn cV ca cP cz cp H
 | _,_,_,_,_,_,_=>none
theorem ah.lh61_inv {F:Nat} {bD:Int→Sl→Int→Sl→Hp→OA} {ks:List Nat} {n:Nat} {tm:Tm} {H:Hp} {r:AV×Hp} (h:ah.lh61 F bD ks n tm H = some r):∃ cU:Sl,∃ bj:Int,∃ cn:Nat,∃ cV:Nat,∃ ca:Nat,∃ cP:Nat,∃ cz:Int,∃ cp:Int,ks = []∧tm 0 = (.sl cU)∧tm 1 = (.int .i64 bj)∧tm 4 = (.ptr cn cV)∧tm 5 = (.ptr ca cP)∧tm 6 = (.int .i64 cz)∧tm 7 = (.int .i64 cp)∧ah.l61 F bD n cU bj cn cV ca cP cz cp H = some r:=by
 unfold ah.lh61 at h
 split at h
 ·exact ⟨_,_,_,_,_,_,_,_,rfl,by assumption,by assumption,by assumption,by assumption,by assumption,by assumption,h⟩
 ·cases h
noncomputable def ah.lh (F:Nat) (bD:Int→Sl→Int→Sl→Hp→OA) (p:Nat) (ks:List Nat) (n:Nat) (tm:Tm) (H:Hp):OA:=bif p.beq 61 then ah.lh61 F bD ks n tm H else (none)
def ah.pn:Nat→List Nat:=fun i=>(([]:List (Nat×List Nat)).lookup i).getD []
def ah.tb:Nat→List (List Nat):=fun i=>(([]:List (Nat×List (List Nat))).lookup i).getD []
noncomputable def ah.mk (g:Sl→Int→Hp→OA) (args:List AV) (H:Hp):OA:=match args with
 | [(.sl aa),(.int .i64 ab)]=>g aa ab H
 | _=>none
noncomputable def ah.cs (F:Nat) (bD:Int→Sl→Int→Sl→Hp→OA):List (FuncId×(List AV→Hp→OA)):=[(101,ag.mk bD)]
theorem ah.loops (F:Nat) (bD:Int→Sl→Int→Sl→Hp→OA):LoopsOk tabs (mkOrc (ah.cs F bD)) ah.pn (ah.lh F bD) F [] 1 ah.code (fun tm H=>aresults tabs.ty H tm Try.f86.results.toList fun v=>some (v,H)) (fun _ _ _=>none) (fun tm H=>aresults tabs.ty H tm Try.f86.results.toList fun v=>some (v,H)):=by
 refine LoopsOk.seq ?_ ?_
 ·exact loops_none (by kernel_rfl)
 ·refine LoopsOk.seq ?_ ?_
  ·exact loops_none (by kernel_rfl)
  ·refine LoopsOk.seq ?_ ?_
   ·exact loops_none (by kernel_rfl)
   ·refine LoopsOk.seq ?_ ?_
    ·refine LoopsOk.seq ?_ ?_
     ·exact loops_none (by kernel_rfl)
     ·refine LoopsOk.block ?_
      refine LoopsOk.loop (fun tm H=>?_) (fun k61 tm H r h0=>?_) (fun k61=>?_)
      ·refine none_of fun r h0=>?_
       obtain ⟨cU,bj,cn,cV,ca,cP,cz,cp,hks,e0,e1,e4,e5,e6,e7,h⟩:=ah.lh61_inv (show ah.lh61 F bD [] 0 tm H = some r from h0)
       cases h
      ·obtain ⟨cU,bj,cn,cV,ca,cP,cz,cp,hks,e0,e1,e4,e5,e6,e7,h⟩:=ah.lh61_inv (show ah.lh61 F bD [] (k61 + 1) tm H = some r from h0)
       have q0:(Tm.put tm 0 (.sl cU)) = tm:=by exact Tm.put_same e0
       have q1:(Tm.put (Tm.put tm 0 (.sl cU)) 1 (.int .i64 bj)) = tm:=by rw [q0]; exact Tm.put_same e1
       have q2:(Tm.put (Tm.put (Tm.put tm 0 (.sl cU)) 1 (.int .i64 bj)) 4 (.ptr cn cV)) = tm:=by rw [q1]; exact Tm.put_same e4
       have q3:(Tm.put (Tm.put (Tm.put (Tm.put tm 0 (.sl cU)) 1 (.int .i64 bj)) 4 (.ptr cn cV)) 5 (.ptr ca cP)) = tm:=by rw [q2]; exact Tm.put_same e5
       have q4:(Tm.put (Tm.put (Tm.put (Tm.put (Tm.put tm 0 (.sl cU)) 1 (.int .i64 bj)) 4 (.ptr cn cV)) 5 (.ptr ca cP)) 6 (.int .i64 cz)) = tm:=by rw [q3]; exact Tm.put_same e6
       have q5:(Tm.put (Tm.put (Tm.put (Tm.put (Tm.put (Tm.put tm 0 (.sl cU)) 1 (.int .i64 bj)) 4 (.ptr cn cV)) 5 (.ptr ca cP)) 6 (.int .i64 cz)) 7 (.int .i64 cp)) = tm:=by rw [q4]; exact Tm.put_same e7
       rw [← q5]
       exact Eq.trans (by kernel_rfl) h
      ·exact loops_none (by kernel_rfl)
    ·exact loops_none (by kernel_rfl)
theorem ah.eqX (F:Nat) (bD:Int→Sl→Int→Sl→Hp→OA) (aa:Sl) (ab:Int) (H:Hp):aCode tabs (mkOrc (ah.cs F bD)) ah.pn (ah.lh F bD) F [] 1 ah.code (argTm [(.sl aa),(.int .i64 ab)]) H (fun tm H=>aresults tabs.ty H tm Try.f86.results.toList fun v=>some (v,H)) (fun _ _ _=>none) (fun tm H=>aresults tabs.ty H tm Try.f86.results.toList fun v=>some (v,H)) = ah.twX F bD aa ab H:=by kernel_rfl
theorem ah.cs_ok (F:Nat):∀ p ∈ ah.cs F (ag.tw F),∀ args H v H',p.2 args H = some (v,H')→Go.AE.T Try.prog p.1 args H v H':=by
 intro p hp
 simp only [ah.cs,List.mem_cons,List.not_mem_nil,or_false] at hp
 subst hp
 exact fun args H v H' h=>ag.mk_T h
theorem ah.ok:codeOk ah.pn Try.f86.ntmps ah.tb ah.code = true:=by kernel_rfl
theorem ah.T {F:Nat} {aa:Sl} {ab:Int} {H:Hp} {v:AV} {H':Hp} (h:ah.tw F aa ab H = some (v,H')):Go.AE.T Try.prog 86 [(.sl aa),(.int .i64 ab)] H v H':=
 Go.AE.T.of (Y:=tabs) (C:=mkOrc (ah.cs F (ag.tw F))) (PN:=ah.pn) (LH:=ah.lh F (ag.tw F)) (F:=F) (TB:=ah.tb) (fn:=Try.f86) (code:=ah.code) mixed tabs_ok (mkOrc_ok (ah.cs_ok F)) Try.func86 (by kernel_rfl) (by kernel_rfl) ah.ok (Nat.le_of_ble_eq_true (by kernel_rfl)) (ah.loops F (ag.tw F)) (Eq.trans (ah.eqX F (ag.tw F) aa ab H) h)
theorem ah.mk_T {F:Nat} {args:List AV} {H:Hp} {v:AV} {H':Hp} (h:ah.mk (ah.tw F) args H = some (v,H')):Go.AE.T Try.prog 86 args H v H':=by
 unfold ah.mk at h
 split at h
 ·exact ah.T h
 ·cases h
noncomputable def aR.twX (F:Nat) (dJ:Sl→Hp→OA) (bx:Int→Int→Int→Hp→OA) (dK:Sl→Int→Hp→OA) (aa:Sl) (ab:Int) (H:Hp):OA:=(Hp.new H [.int .i64 0,.sl ⟨none,0,.ex 0⟩]).bind fun H3=>(dJ aa H3).bind fun r4=>((r4.1).asB).bind fun b5=>(bif (!b5) then ((Hp.st r4.2 H.length 0 (.int .i64 0)).bind fun H6=>(Hp.st H6 H.length (0 + 1) (.sl (⟨none,0,.ex 0⟩:Sl))).bind fun H7=>(Hp.ldI H7 .i64 H.length 0).bind fun n8=>(Hp.ldSl H7 H.length (0 + 1)).bind fun s9=>some ((.tup [(.agg [(.int .i64 n8),(.sl s9)]),(.int .i64 1)]),H7)) else ((bx ab 1 24 r4.2).bind fun r10=>((r10.1).asB).bind fun b11=>(bif (!b11) then ((Hp.st r10.2 H.length 0 (.int .i64 0)).bind fun H12=>(Hp.st H12 H.length (0 + 1) (.sl (⟨none,0,.ex 0⟩:Sl))).bind fun H13=>(Hp.ldI H13 .i64 H.length 0).bind fun n14=>(Hp.ldSl H13 H.length (0 + 1)).bind fun s15=>some ((.tup [(.agg [(.int .i64 n14),(.sl s15)]),(.int .i64 2)]),H13)) else ((dK aa ab r10.2).bind fun r16=>((r16.1).asAgg 2).bind fun l17=>(l17[0]?).bind fun v18=>((v18).asI .i64).bind fun n19=>(l17[1]?).bind fun v20=>((v20).asSl).bind fun s21=>(Hp.st r16.2 H.length 0 (.int .i64 n19)).bind fun H22=>(Hp.st H22 H.length (0 + 1) (.sl s21)).bind fun H23=>(Hp.ldI H23 .i64 H.length 0).bind fun n24=>(Hp.ldSl H23 H.length (0 + 1)).bind fun s25=>some ((.tup [(.agg [(.int .i64 n24),(.sl s25)]),(.int .i64 0)]),H23)))))
noncomputable def aR.tw (F:Nat) (aa:Sl) (ab:Int) (H:Hp):OA:=aR.twX F (ao.tw F) (aB.tw F) (ah.tw F) aa ab H
noncomputable def aR.code:Go.Code:=(Try.f19.body).getD .skip
noncomputable def aR.lh (F:Nat) (dJ:Sl→Hp→OA) (bx:Int→Int→Int→Hp→OA) (dK:Sl→Int→Hp→OA) (p:Nat) (ks:List Nat) (n:Nat) (tm:Tm) (H:Hp):OA:=none
def aR.pn:Nat→List Nat:=fun i=>(([]:List (Nat×List Nat)).lookup i).getD []
def aR.tb:Nat→List (List Nat):=fun i=>(([]:List (Nat×List (List Nat))).lookup i).getD []
noncomputable def aR.mk (g:Sl→Int→Hp→OA) (args:List AV) (H:Hp):OA:=match args with
 | [(.sl aa),(.int .i64 ab)]=>g aa ab H
 | _=>none
noncomputable def aR.cs (F:Nat) (dJ:Sl→Hp→OA) (bx:Int→Int→Int→Hp→OA) (dK:Sl→Int→Hp→OA):List (FuncId×(List AV→Hp→OA)):=[(36,ao.mk dJ),(79,aB.mk bx),(86,ah.mk dK)]
theorem aR.loops (F:Nat) (dJ:Sl→Hp→OA) (bx:Int→Int→Int→Hp→OA) (dK:Sl→Int→Hp→OA):LoopsOk tabs (mkOrc (aR.cs F dJ bx dK)) aR.pn (aR.lh F dJ bx dK) F [] 1 aR.code (fun tm H=>aresults tabs.ty H tm Try.f19.results.toList fun v=>some (v,H)) (fun _ _ _=>none) (fun tm H=>aresults tabs.ty H tm Try.f19.results.toList fun v=>some (v,H)):=by
 exact loops_none (by kernel_rfl)
theorem aR.eqX (F:Nat) (dJ:Sl→Hp→OA) (bx:Int→Int→Int→Hp→OA) (dK:Sl→Int→Hp→OA) (aa:Sl) (ab:Int) (H:Hp):aCode tabs (mkOrc (aR.cs F dJ bx dK)) aR.pn (aR.lh F dJ bx dK) F [] 1 aR.code (argTm [(.sl aa),(.int .i64 ab)]) H (fun tm H=>aresults tabs.ty H tm Try.f19.results.toList fun v=>some (v,H)) (fun _ _ _=>none) (fun tm H=>aresults tabs.ty H tm Try.f19.results.toList fun v=>some (v,H)) = aR.twX F dJ bx dK aa ab H:=by kernel_rfl
theorem aR.cs_ok (F:Nat):∀ p ∈ aR.cs F (ao.tw F) (aB.tw F) (ah.tw F),∀ args H v H',p.2 args H = some (v,H')→Go.AE.T Try.prog p.1 args H v H':=by
 intro p hp
 simp only [aR.cs,List.mem_cons,List.not_mem_nil,or_false] at hp
 rcases hp with rfl | rfl | rfl
 ·exact fun args H v H' h=>ao.mk_T h
 ·exact fun args H v H' h=>aB.mk_T h
 ·exact fun args H v H' h=>ah.mk_T h
theorem aR.ok:codeOk aR.pn Try.f19.ntmps aR.tb aR.code = true:=by kernel_rfl
theorem aR.T {F:Nat} {aa:Sl} {ab:Int} {H:Hp} {v:AV} {H':Hp} (h:aR.tw F aa ab H = some (v,H')):Go.AE.T Try.prog 19 [(.sl aa),(.int .i64 ab)] H v H':=
 Go.AE.T.of (Y:=tabs) (C:=mkOrc (aR.cs F (ao.tw F) (aB.tw F) (ah.tw F))) (PN:=aR.pn) (LH:=aR.lh F (ao.tw F) (aB.tw F) (ah.tw F)) (F:=F) (TB:=aR.tb) (fn:=Try.f19) (code:=aR.code) mixed tabs_ok (mkOrc_ok (aR.cs_ok F)) Try.func19 (by kernel_rfl) (by kernel_rfl) aR.ok (Nat.le_of_ble_eq_true (by kernel_rfl)) (aR.loops F (ao.tw F) (aB.tw F) (ah.tw F)) (Eq.trans (aR.eqX F (ao.tw F) (aB.tw F) (ah.tw F) aa ab H) h)
theorem aR.mk_T {F:Nat} {args:List AV} {H:Hp} {v:AV} {H':Hp} (h:aR.mk (aR.tw F) args H = some (v,H')):Go.AE.T Try.prog 19 args H v H':=by
 unfold aR.mk at h
 split at h
 ·exact aR.T h
 ·cases h
noncomputable def aZ.twX (F:Nat) (aa:Int) (H:Hp):OA:=(bif (decide (aa < 0)) then (some ((.int .i64 (IntKind.i64.wrap (0 - aa))),H)) else (some ((.int .i64 aa),H)))
noncomputable def aZ.tw (F:Nat) (aa:Int) (H:Hp):OA:=aZ.twX F aa H
noncomputable def aZ.code:Go.Code:=(Try.f84.body).getD .skip
noncomputable def aZ.lh (F:Nat) (p:Nat) (ks:List Nat) (n:Nat) (tm:Tm) (H:Hp):OA:=none
def aZ.pn:Nat→List Nat:=fun i=>(([]:List (Nat×List Nat)).lookup i).getD []
def aZ.tb:Nat→List (List Nat):=fun i=>(([]:List (Nat×List (List Nat))).lookup i).getD []
noncomputable def aZ.mk (g:Int→Hp→OA) (args:List AV) (H:Hp):OA:=match args with
 | [(.int .i64 aa)]=>g aa H
 | _=>none
noncomputable def aZ.cs (F:Nat):List (FuncId×(List AV→Hp→OA)):=[]
theorem aZ.loops (F:Nat):LoopsOk tabs (mkOrc (aZ.cs F)) aZ.pn (aZ.lh F) F [] 1 aZ.code (fun tm H=>aresults tabs.ty H tm Try.f84.results.toList fun v=>some (v,H)) (fun _ _ _=>none) (fun tm H=>aresults tabs.ty H tm Try.f84.results.toList fun v=>some (v,H)):=by
 exact loops_none (by kernel_rfl)
theorem aZ.eqX (F:Nat) (aa:Int) (H:Hp):aCode tabs (mkOrc (aZ.cs F)) aZ.pn (aZ.lh F) F [] 1 aZ.code (argTm [(.int .i64 aa)]) H (fun tm H=>aresults tabs.ty H tm Try.f84.results.toList fun v=>some (v,H)) (fun _ _ _=>none) (fun tm H=>aresults tabs.ty H tm Try.f84.results.toList fun v=>some (v,H)) = aZ.twX F aa H:=by kernel_rfl
theorem aZ.cs_ok (F:Nat):∀ p ∈ aZ.cs F,∀ args H v H',p.2 args H = some (v,H')→Go.AE.T Try.prog p.1 args H v H':=by
 intro p hp
 exact absurd (show p ∈ [] from hp) List.not_mem_nil
theorem aZ.ok:codeOk aZ.pn Try.f84.ntmps aZ.tb aZ.code = true:=by kernel_rfl
theorem aZ.T {F:Nat} {aa:Int} {H:Hp} {v:AV} {H':Hp} (h:aZ.tw F aa H = some (v,H')):Go.AE.T Try.prog 84 [(.int .i64 aa)] H v H':=
 Go.AE.T.of (Y:=tabs) (C:=mkOrc (aZ.cs F)) (PN:=aZ.pn) (LH:=aZ.lh F) (F:=F) (TB:=aZ.tb) (fn:=Try.f84) (code:=aZ.code) mixed tabs_ok (mkOrc_ok (aZ.cs_ok F)) Try.func84 (by kernel_rfl) (by kernel_rfl) aZ.ok (Nat.le_of_ble_eq_true (by kernel_rfl)) (aZ.loops F) (Eq.trans (aZ.eqX F aa H) h)
theorem aZ.mk_T {F:Nat} {args:List AV} {H:Hp} {v:AV} {H':Hp} (h:aZ.mk (aZ.tw F) args H = some (v,H')):Go.AE.T Try.prog 84 args H v H':=by
 unfold aZ.mk at h
 split at h
 ·exact aZ.T h
 ·cases h
noncomputable def aO.twX (F:Nat) (dL:Int→Hp→OA) (aa:Int) (ab:Nat) (ac:Nat) (H:Hp):OA:=(bif (aa == 0) then (some ((.bool true),H)) else ((dL aa H).bind fun r4=>((r4.1).asI .i64).bind fun n5=>(if Cons H r4.2 then ((Hp.ldI r4.2 .i64 ab ac).bind fun n6=>(bif (decide (n5 > n6)) then (some ((.bool true),r4.2)) else ((Hp.ldI r4.2 .i64 ab ac).bind fun n7=>some ((.bool (decide (aa < (IntKind.i64.wrap (0 - n7))))),r4.2)))) else none)))
noncomputable def aO.tw (F:Nat) (aa:Int) (ab:Nat) (ac:Nat) (H:Hp):OA:=aO.twX F (aZ.tw F) aa ab ac H
noncomputable def aO.code:Go.Code:=(Try.f181.body).getD .skip
noncomputable def aO.lh (F:Nat) (dL:Int→Hp→OA) (p:Nat) (ks:List Nat) (n:Nat) (tm:Tm) (H:Hp):OA:=none
def aO.pn:Nat→List Nat:=fun i=>(([(1,[])]:List (Nat×List Nat)).lookup i).getD []
def aO.tb:Nat→List (List Nat):=fun i=>(([(1,[[],[0],[0,1],[0,1,2],[0,1,2,3],[0,1,2],[0,1,2,3,4,5],[0,1,2,3,4,5,6],[0,1,2,3,4,5,6,7],[0,1,2,3,4,5,6,7,8],[0,1,2,3,4,5,6,7,8],[0,1,2,3,4,5,6,7,8,10],[0,1,2,3,4,5,6,7,8,9,10,11],[0,1,2,3,4,5,6,7,8,9,10,11,12],[0,1,2,3,4,5,6,7,8,9,10,11,12,13]])]:List (Nat×List (List Nat))).lookup i).getD []
noncomputable def aO.mk (g:Int→Nat→Nat→Hp→OA) (args:List AV) (H:Hp):OA:=match args with
 | [(.int .i64 aa),(.ptr ab ac)]=>g aa ab ac H
 | _=>none
noncomputable def aO.cs (F:Nat) (dL:Int→Hp→OA):List (FuncId×(List AV→Hp→OA)):=[(84,aZ.mk dL)]
theorem aO.loops (F:Nat) (dL:Int→Hp→OA):LoopsOk tabs (mkOrc (aO.cs F dL)) aO.pn (aO.lh F dL) F [] 1 aO.code (fun tm H=>aresults tabs.ty H tm Try.f181.results.toList fun v=>some (v,H)) (fun _ _ _=>none) (fun tm H=>aresults tabs.ty H tm Try.f181.results.toList fun v=>some (v,H)):=by
 exact loops_none (by kernel_rfl)
theorem aO.eqX (F:Nat) (dL:Int→Hp→OA) (aa:Int) (ab:Nat) (ac:Nat) (H:Hp):aCode tabs (mkOrc (aO.cs F dL)) aO.pn (aO.lh F dL) F [] 1 aO.code (argTm [(.int .i64 aa),(.ptr ab ac)]) H (fun tm H=>aresults tabs.ty H tm Try.f181.results.toList fun v=>some (v,H)) (fun _ _ _=>none) (fun tm H=>aresults tabs.ty H tm Try.f181.results.toList fun v=>some (v,H)) = aO.twX F dL aa ab ac H:=by kernel_rfl
theorem aO.cs_ok (F:Nat):∀ p ∈ aO.cs F (aZ.tw F),∀ args H v H',p.2 args H = some (v,H')→Go.AE.T Try.prog p.1 args H v H':=by
 intro p hp
 simp only [aO.cs,List.mem_cons,List.not_mem_nil,or_false] at hp
 subst hp
 exact fun args H v H' h=>aZ.mk_T h
theorem aO.ok:codeOk aO.pn Try.f181.ntmps aO.tb aO.code = true:=by kernel_rfl
theorem aO.T {F:Nat} {aa:Int} {ab:Nat} {ac:Nat} {H:Hp} {v:AV} {H':Hp} (h:aO.tw F aa ab ac H = some (v,H')):Go.AE.T Try.prog 181 [(.int .i64 aa),(.ptr ab ac)] H v H':=
 Go.AE.T.of (Y:=tabs) (C:=mkOrc (aO.cs F (aZ.tw F))) (PN:=aO.pn) (LH:=aO.lh F (aZ.tw F)) (F:=F) (TB:=aO.tb) (fn:=Try.f181) (code:=aO.code) mixed tabs_ok (mkOrc_ok (aO.cs_ok F)) Try.func181 (by kernel_rfl) (by kernel_rfl) aO.ok (Nat.le_of_ble_eq_true (by kernel_rfl)) (aO.loops F (aZ.tw F)) (Eq.trans (aO.eqX F (aZ.tw F) aa ab ac H) h)
theorem aO.mk_T {F:Nat} {args:List AV} {H:Hp} {v:AV} {H':Hp} (h:aO.mk (aO.tw F) args H = some (v,H')):Go.AE.T Try.prog 181 args H v H':=by
 unfold aO.mk at h
 split at h
 ·exact aO.T h
 ·cases h
noncomputable def av.l13 (F:Nat) (cq:Int→Nat→Nat→Hp→OA) :Nat→Sl→Nat→Nat→Int→Int→Hp→OA
 | 0,_,_,_,_,_,_=>none
 | dH + 1,bw,ab,ac,cI,cr,H8=>(bif (decide (cr < cI)) then ((Sl.idx bw cr 1).bind fun p13=>(Hp.ldI H8 .i64 p13.1 p13.2).bind fun n14=>(cq n14 ab ac H8).bind fun r15=>((r15.1).asB).bind fun b16=>(bif b16 then (some ((.int .i64 cr),r15.2)) else (av.l13 F cq dH bw ab ac cI (IntKind.i64.wrap (cr + 1)) r15.2))) else (some ((.int .i64 (-1)),H8)))
termination_by structural n=>n
noncomputable def av.twX (F:Nat) (cq:Int→Nat→Nat→Hp→OA) (aa:Sl) (ab:Nat) (ac:Nat) (H:Hp):OA:=av.l13 F cq F aa ab ac (aa.n:Int) 0 H
noncomputable def av.tw (F:Nat) (aa:Sl) (ab:Nat) (ac:Nat) (H:Hp):OA:=av.twX F (aO.tw F) aa ab ac H
noncomputable def av.code:Go.Code:=(Try.f180.body).getD .skip
noncomputable def av.lh13 (F:Nat) (cq:Int→Nat→Nat→Hp→OA) (ks:List Nat) (n:Nat) (tm:Tm) (H:Hp):OA:=match ks,tm 0,tm 1,tm 7,tm 8 with
 | [],(.sl bw),(.fn 181 [(.ptr ab ac)]),(.int .i64 cI),(.int .i64 cr)=>av.l13 F cq n bw ab ac cI cr H
 | _,_,_,_,_=>none
theorem av.lh13_inv {F:Nat} {cq:Int→Nat→Nat→Hp→OA} {ks:List Nat} {n:Nat} {tm:Tm} {H:Hp} {r:AV×Hp} (h:av.lh13 F cq ks n tm H = some r):∃ bw:Sl,∃ ab:Nat,∃ ac:Nat,∃ cI:Int,∃ cr:Int,ks = []∧tm 0 = (.sl bw)∧tm 1 = (.fn 181 [(.ptr ab ac)])∧tm 7 = (.int .i64 cI)∧tm 8 = (.int .i64 cr)∧av.l13 F cq n bw ab ac cI cr H = some r:=by
 unfold av.lh13 at h
 split at h
 ·exact ⟨_,_,_,_,_,rfl,by assumption,by assumption,by assumption,by assumption,h⟩
 ·cases h
noncomputable def av.lh (F:Nat) (cq:Int→Nat→Nat→Hp→OA) (p:Nat) (ks:List Nat) (n:Nat) (tm:Tm) (H:Hp):OA:=bif p.beq 13 then av.lh13 F cq ks n tm H else (none)
def av.pn:Nat→List Nat:=fun i=>(([]:List (Nat×List Nat)).lookup i).getD []
def av.tb:Nat→List (List Nat):=fun i=>(([]:List (Nat×List (List Nat))).lookup i).getD []
noncomputable def av.mk (g:Sl→Nat→Nat→Hp→OA) (args:List AV) (H:Hp):OA:=match args with
 | [(.sl aa),(.fn 181 [(.ptr ab ac)])]=>g aa ab ac H
 | _=>none
noncomputable def av.cs (F:Nat) (cq:Int→Nat→Nat→Hp→OA):List (FuncId×(List AV→Hp→OA)):=[(181,aO.mk cq)]
theorem av.loops (F:Nat) (cq:Int→Nat→Nat→Hp→OA):LoopsOk tabs (mkOrc (av.cs F cq)) av.pn (av.lh F cq) F [] 1 av.code (fun tm H=>aresults tabs.ty H tm Try.f180.results.toList fun v=>some (v,H)) (fun _ _ _=>none) (fun tm H=>aresults tabs.ty H tm Try.f180.results.toList fun v=>some (v,H)):=by
 refine LoopsOk.seq ?_ ?_
 ·exact loops_none (by kernel_rfl)
 ·refine LoopsOk.seq ?_ ?_
  ·refine LoopsOk.seq ?_ ?_
   ·exact loops_none (by kernel_rfl)
   ·refine LoopsOk.block ?_
    refine LoopsOk.loop (fun tm H=>?_) (fun k13 tm H r h0=>?_) (fun k13=>?_)
    ·refine none_of fun r h0=>?_
     obtain ⟨bw,ab,ac,cI,cr,hks,e0,e1,e7,e8,h⟩:=av.lh13_inv (show av.lh13 F cq [] 0 tm H = some r from h0)
     cases h
    ·obtain ⟨bw,ab,ac,cI,cr,hks,e0,e1,e7,e8,h⟩:=av.lh13_inv (show av.lh13 F cq [] (k13 + 1) tm H = some r from h0)
     have q0:(Tm.put tm 0 (.sl bw)) = tm:=by exact Tm.put_same e0
     have q1:(Tm.put (Tm.put tm 0 (.sl bw)) 1 (.fn 181 [(.ptr ab ac)])) = tm:=by rw [q0]; exact Tm.put_same e1
     have q2:(Tm.put (Tm.put (Tm.put tm 0 (.sl bw)) 1 (.fn 181 [(.ptr ab ac)])) 7 (.int .i64 cI)) = tm:=by rw [q1]; exact Tm.put_same e7
     have q3:(Tm.put (Tm.put (Tm.put (Tm.put tm 0 (.sl bw)) 1 (.fn 181 [(.ptr ab ac)])) 7 (.int .i64 cI)) 8 (.int .i64 cr)) = tm:=by rw [q2]; exact Tm.put_same e8
     rw [← q3]
     exact Eq.trans (by kernel_rfl) h
    ·exact loops_none (by kernel_rfl)
  ·exact loops_none (by kernel_rfl)
theorem av.eqX (F:Nat) (cq:Int→Nat→Nat→Hp→OA) (aa:Sl) (ab:Nat) (ac:Nat) (H:Hp):aCode tabs (mkOrc (av.cs F cq)) av.pn (av.lh F cq) F [] 1 av.code (argTm [(.sl aa),(.fn 181 [(.ptr ab ac)])]) H (fun tm H=>aresults tabs.ty H tm Try.f180.results.toList fun v=>some (v,H)) (fun _ _ _=>none) (fun tm H=>aresults tabs.ty H tm Try.f180.results.toList fun v=>some (v,H)) = av.twX F cq aa ab ac H:=by kernel_rfl
theorem av.cs_ok (F:Nat):∀ p ∈ av.cs F (aO.tw F),∀ args H v H',p.2 args H = some (v,H')→Go.AE.T Try.prog p.1 args H v H':=by
 intro p hp
 simp only [av.cs,List.mem_cons,List.not_mem_nil,or_false] at hp
 subst hp
 exact fun args H v H' h=>aO.mk_T h
theorem av.ok:codeOk av.pn Try.f180.ntmps av.tb av.code = true:=by kernel_rfl
theorem av.T {F:Nat} {aa:Sl} {ab:Nat} {ac:Nat} {H:Hp} {v:AV} {H':Hp} (h:av.tw F aa ab ac H = some (v,H')):Go.AE.T Try.prog 180 [(.sl aa),(.fn 181 [(.ptr ab ac)])] H v H':=
 Go.AE.T.of (Y:=tabs) (C:=mkOrc (av.cs F (aO.tw F))) (PN:=av.pn) (LH:=av.lh F (aO.tw F)) (F:=F) (TB:=av.tb) (fn:=Try.f180) (code:=av.code) mixed tabs_ok (mkOrc_ok (av.cs_ok F)) Try.func180 (by kernel_rfl) (by kernel_rfl) av.ok (Nat.le_of_ble_eq_true (by kernel_rfl)) (av.loops F (aO.tw F)) (Eq.trans (av.eqX F (aO.tw F) aa ab ac H) h)
theorem av.mk_T {F:Nat} {args:List AV} {H:Hp} {v:AV} {H':Hp} (h:av.mk (av.tw F) args H = some (v,H')):Go.AE.T Try.prog 180 args H v H':=by
 unfold av.mk at h
 split at h
 ·exact av.T h
 ·cases h
noncomputable def aU.twX (F:Nat) (dM:Sl→Nat→Nat→Hp→OA) (aa:Sl) (ab:Nat) (ac:Nat) (H:Hp):OA:=(dM aa ab ac H).bind fun r4=>((r4.1).asI .i64).bind fun n5=>some ((.bool (decide (n5 ≥ 0))),r4.2)
noncomputable def aU.tw (F:Nat) (aa:Sl) (ab:Nat) (ac:Nat) (H:Hp):OA:=aU.twX F (av.tw F) aa ab ac H
noncomputable def aU.code:Go.Code:=(Try.f140.body).getD .skip
noncomputable def aU.lh (F:Nat) (dM:Sl→Nat→Nat→Hp→OA) (p:Nat) (ks:List Nat) (n:Nat) (tm:Tm) (H:Hp):OA:=none
def aU.pn:Nat→List Nat:=fun i=>(([]:List (Nat×List Nat)).lookup i).getD []
def aU.tb:Nat→List (List Nat):=fun i=>(([]:List (Nat×List (List Nat))).lookup i).getD []
noncomputable def aU.mk (g:Sl→Nat→Nat→Hp→OA) (args:List AV) (H:Hp):OA:=match args with
 | [(.sl aa),(.fn 181 [(.ptr ab ac)])]=>g aa ab ac H
 | _=>none
noncomputable def aU.cs (F:Nat) (dM:Sl→Nat→Nat→Hp→OA):List (FuncId×(List AV→Hp→OA)):=[(180,av.mk dM)]
theorem aU.loops (F:Nat) (dM:Sl→Nat→Nat→Hp→OA):LoopsOk tabs (mkOrc (aU.cs F dM)) aU.pn (aU.lh F dM) F [] 1 aU.code (fun tm H=>aresults tabs.ty H tm Try.f140.results.toList fun v=>some (v,H)) (fun _ _ _=>none) (fun tm H=>aresults tabs.ty H tm Try.f140.results.toList fun v=>some (v,H)):=by
 exact loops_none (by kernel_rfl)
theorem aU.eqX (F:Nat) (dM:Sl→Nat→Nat→Hp→OA) (aa:Sl) (ab:Nat) (ac:Nat) (H:Hp):aCode tabs (mkOrc (aU.cs F dM)) aU.pn (aU.lh F dM) F [] 1 aU.code (argTm [(.sl aa),(.fn 181 [(.ptr ab ac)])]) H (fun tm H=>aresults tabs.ty H tm Try.f140.results.toList fun v=>some (v,H)) (fun _ _ _=>none) (fun tm H=>aresults tabs.ty H tm Try.f140.results.toList fun v=>some (v,H)) = aU.twX F dM aa ab ac H:=by kernel_rfl
theorem aU.cs_ok (F:Nat):∀ p ∈ aU.cs F (av.tw F),∀ args H v H',p.2 args H = some (v,H')→Go.AE.T Try.prog p.1 args H v H':=by
 intro p hp
 simp only [aU.cs,List.mem_cons,List.not_mem_nil,or_false] at hp
 subst hp
 exact fun args H v H' h=>av.mk_T h
theorem aU.ok:codeOk aU.pn Try.f140.ntmps aU.tb aU.code = true:=by kernel_rfl
theorem aU.T {F:Nat} {aa:Sl} {ab:Nat} {ac:Nat} {H:Hp} {v:AV} {H':Hp} (h:aU.tw F aa ab ac H = some (v,H')):Go.AE.T Try.prog 140 [(.sl aa),(.fn 181 [(.ptr ab ac)])] H v H':=
 Go.AE.T.of (Y:=tabs) (C:=mkOrc (aU.cs F (av.tw F))) (PN:=aU.pn) (LH:=aU.lh F (av.tw F)) (F:=F) (TB:=aU.tb) (fn:=Try.f140) (code:=aU.code) mixed tabs_ok (mkOrc_ok (aU.cs_ok F)) Try.func140 (by kernel_rfl) (by kernel_rfl) aU.ok (Nat.le_of_ble_eq_true (by kernel_rfl)) (aU.loops F (av.tw F)) (Eq.trans (aU.eqX F (av.tw F) aa ab ac H) h)
theorem aU.mk_T {F:Nat} {args:List AV} {H:Hp} {v:AV} {H':Hp} (h:aU.mk (aU.tw F) args H = some (v,H')):Go.AE.T Try.prog 140 args H v H':=by
 unfold aU.mk at h
 split at h
 ·exact aU.T h
 ·cases h
noncomputable def aV.twX (F:Nat) (dN:Sl→Nat→Nat→Hp→OA) (aa:Sl) (ab:Int) (H:Hp):OA:=(Hp.new H [(.int .i64 ab)]).bind fun H3=>(bif (decide ((aa.n:Int) ≤ 120)) then ((dN aa H.length 0 H3).bind fun r4=>((r4.1).asB).bind fun b5=>some ((.bool (!b5)),r4.2)) else (some ((.bool false),H3)))
noncomputable def aV.tw (F:Nat) (aa:Sl) (ab:Int) (H:Hp):OA:=aV.twX F (aU.tw F) aa ab H
noncomputable def aV.code:Go.Code:=(Try.f143.body).getD .skip
noncomputable def aV.lh (F:Nat) (dN:Sl→Nat→Nat→Hp→OA) (p:Nat) (ks:List Nat) (n:Nat) (tm:Tm) (H:Hp):OA:=none
def aV.pn:Nat→List Nat:=fun i=>(([]:List (Nat×List Nat)).lookup i).getD []
def aV.tb:Nat→List (List Nat):=fun i=>(([]:List (Nat×List (List Nat))).lookup i).getD []
noncomputable def aV.mk (g:Sl→Int→Hp→OA) (args:List AV) (H:Hp):OA:=match args with
 | [(.sl aa),(.int .i64 ab)]=>g aa ab H
 | _=>none
noncomputable def aV.cs (F:Nat) (dN:Sl→Nat→Nat→Hp→OA):List (FuncId×(List AV→Hp→OA)):=[(140,aU.mk dN)]
theorem aV.loops (F:Nat) (dN:Sl→Nat→Nat→Hp→OA):LoopsOk tabs (mkOrc (aV.cs F dN)) aV.pn (aV.lh F dN) F [] 1 aV.code (fun tm H=>aresults tabs.ty H tm Try.f143.results.toList fun v=>some (v,H)) (fun _ _ _=>none) (fun tm H=>aresults tabs.ty H tm Try.f143.results.toList fun v=>some (v,H)):=by
 exact loops_none (by kernel_rfl)
theorem aV.eqX (F:Nat) (dN:Sl→Nat→Nat→Hp→OA) (aa:Sl) (ab:Int) (H:Hp):aCode tabs (mkOrc (aV.cs F dN)) aV.pn (aV.lh F dN) F [] 1 aV.code (argTm [(.sl aa),(.int .i64 ab)]) H (fun tm H=>aresults tabs.ty H tm Try.f143.results.toList fun v=>some (v,H)) (fun _ _ _=>none) (fun tm H=>aresults tabs.ty H tm Try.f143.results.toList fun v=>some (v,H)) = aV.twX F dN aa ab H:=by kernel_rfl
theorem aV.cs_ok (F:Nat):∀ p ∈ aV.cs F (aU.tw F),∀ args H v H',p.2 args H = some (v,H')→Go.AE.T Try.prog p.1 args H v H':=by
 intro p hp
 simp only [aV.cs,List.mem_cons,List.not_mem_nil,or_false] at hp
 subst hp
 exact fun args H v H' h=>aU.mk_T h
theorem aV.ok:codeOk aV.pn Try.f143.ntmps aV.tb aV.code = true:=by kernel_rfl
theorem aV.T {F:Nat} {aa:Sl} {ab:Int} {H:Hp} {v:AV} {H':Hp} (h:aV.tw F aa ab H = some (v,H')):Go.AE.T Try.prog 143 [(.sl aa),(.int .i64 ab)] H v H':=
 Go.AE.T.of (Y:=tabs) (C:=mkOrc (aV.cs F (aU.tw F))) (PN:=aV.pn) (LH:=aV.lh F (aU.tw F)) (F:=F) (TB:=aV.tb) (fn:=Try.f143) (code:=aV.code) mixed tabs_ok (mkOrc_ok (aV.cs_ok F)) Try.func143 (by kernel_rfl) (by kernel_rfl) aV.ok (Nat.le_of_ble_eq_true (by kernel_rfl)) (aV.loops F (aU.tw F)) (Eq.trans (aV.eqX F (aU.tw F) aa ab H) h)
theorem aV.mk_T {F:Nat} {args:List AV} {H:Hp} {v:AV} {H':Hp} (h:aV.mk (aV.tw F) args H = some (v,H')):Go.AE.T Try.prog 143 args H v H':=by
 unfold aV.mk at h
 split at h
 ·exact aV.T h
 ·cases h
noncomputable def aS.twX (F:Nat) (dO:Sl→Int→Hp→OA) (aa:Sl) (H:Hp):OA:=(dO aa 24 H).bind fun r2=>((r2.1).asB).bind fun b3=>some ((.bool b3),r2.2)
noncomputable def aS.tw (F:Nat) (aa:Sl) (H:Hp):OA:=aS.twX F (aV.tw F) aa H
noncomputable def aS.code:Go.Code:=(Try.f87.body).getD .skip
noncomputable def aS.lh (F:Nat) (dO:Sl→Int→Hp→OA) (p:Nat) (ks:List Nat) (n:Nat) (tm:Tm) (H:Hp):OA:=none
def aS.pn:Nat→List Nat:=fun i=>(([]:List (Nat×List Nat)).lookup i).getD []
def aS.tb:Nat→List (List Nat):=fun i=>(([]:List (Nat×List (List Nat))).lookup i).getD []
noncomputable def aS.mk (g:Sl→Hp→OA) (args:List AV) (H:Hp):OA:=match args with
 | [(.sl aa)]=>g aa H
 | _=>none
noncomputable def aS.cs (F:Nat) (dO:Sl→Int→Hp→OA):List (FuncId×(List AV→Hp→OA)):=[(143,aV.mk dO)]
theorem aS.loops (F:Nat) (dO:Sl→Int→Hp→OA):LoopsOk tabs (mkOrc (aS.cs F dO)) aS.pn (aS.lh F dO) F [] 1 aS.code (fun tm H=>aresults tabs.ty H tm Try.f87.results.toList fun v=>some (v,H)) (fun _ _ _=>none) (fun tm H=>aresults tabs.ty H tm Try.f87.results.toList fun v=>some (v,H)):=by
 exact loops_none (by kernel_rfl)
theorem aS.eqX (F:Nat) (dO:Sl→Int→Hp→OA) (aa:Sl) (H:Hp):aCode tabs (mkOrc (aS.cs F dO)) aS.pn (aS.lh F dO) F [] 1 aS.code (argTm [(.sl aa)]) H (fun tm H=>aresults tabs.ty H tm Try.f87.results.toList fun v=>some (v,H)) (fun _ _ _=>none) (fun tm H=>aresults tabs.ty H tm Try.f87.results.toList fun v=>some (v,H)) = aS.twX F dO aa H:=by kernel_rfl
theorem aS.cs_ok (F:Nat):∀ p ∈ aS.cs F (aV.tw F),∀ args H v H',p.2 args H = some (v,H')→Go.AE.T Try.prog p.1 args H v H':=by
 intro p hp
 simp only [aS.cs,List.mem_cons,List.not_mem_nil,or_false] at hp
 subst hp
 exact fun args H v H' h=>aV.mk_T h
theorem aS.ok:codeOk aS.pn Try.f87.ntmps aS.tb aS.code = true:=by kernel_rfl
theorem aS.T {F:Nat} {aa:Sl} {H:Hp} {v:AV} {H':Hp} (h:aS.tw F aa H = some (v,H')):Go.AE.T Try.prog 87 [(.sl aa)] H v H':=
 Go.AE.T.of (Y:=tabs) (C:=mkOrc (aS.cs F (aV.tw F))) (PN:=aS.pn) (LH:=aS.lh F (aV.tw F)) (F:=F) (TB:=aS.tb) (fn:=Try.f87) (code:=aS.code) mixed tabs_ok (mkOrc_ok (aS.cs_ok F)) Try.func87 (by kernel_rfl) (by kernel_rfl) aS.ok (Nat.le_of_ble_eq_true (by kernel_rfl)) (aS.loops F (aV.tw F)) (Eq.trans (aS.eqX F (aV.tw F) aa H) h)
theorem aS.mk_T {F:Nat} {args:List AV} {H:Hp} {v:AV} {H':Hp} (h:aS.mk (aS.tw F) args H = some (v,H')):Go.AE.T Try.prog 87 args H v H':=by
 unfold aS.mk at h
 split at h
 ·exact aS.T h
 ·cases h
noncomputable def aD.twX (F:Nat) (aa:Int) (ab:Int) (bB:Int) (H:Hp):OA:=(bif (decide (ab ≤ aa)) then (some ((.bool (decide (aa ≤ bB))),H)) else (some ((.bool false),H)))
noncomputable def aD.tw (F:Nat) (aa:Int) (ab:Int) (bB:Int) (H:Hp):OA:=aD.twX F aa ab bB H
noncomputable def aD.code:Go.Code:=(Try.f73.body).getD .skip
noncomputable def aD.lh (F:Nat) (p:Nat) (ks:List Nat) (n:Nat) (tm:Tm) (H:Hp):OA:=none
def aD.pn:Nat→List Nat:=fun i=>(([]:List (Nat×List Nat)).lookup i).getD []
def aD.tb:Nat→List (List Nat):=fun i=>(([]:List (Nat×List (List Nat))).lookup i).getD []
noncomputable def aD.mk (g:Int→Int→Int→Hp→OA) (args:List AV) (H:Hp):OA:=match args with
 | [(.int .i64 aa),(.int .i64 ab),(.int .i64 bB)]=>g aa ab bB H
 | _=>none
noncomputable def aD.cs (F:Nat):List (FuncId×(List AV→Hp→OA)):=[]
theorem aD.loops (F:Nat):LoopsOk tabs (mkOrc (aD.cs F)) aD.pn (aD.lh F) F [] 1 aD.code (fun tm H=>aresults tabs.ty H tm Try.f73.results.toList fun v=>some (v,H)) (fun _ _ _=>none) (fun tm H=>aresults tabs.ty H tm Try.f73.results.toList fun v=>some (v,H)):=by
 exact loops_none (by kernel_rfl)
theorem aD.eqX (F:Nat) (aa:Int) (ab:Int) (bB:Int) (H:Hp):aCode tabs (mkOrc (aD.cs F)) aD.pn (aD.lh F) F [] 1 aD.code (argTm [(.int .i64 aa),(.int .i64 ab),(.int .i64 bB)]) H (fun tm H=>aresults tabs.ty H tm Try.f73.results.toList fun v=>some (v,H)) (fun _ _ _=>none) (fun tm H=>aresults tabs.ty H tm Try.f73.results.toList fun v=>some (v,H)) = aD.twX F aa ab bB H:=by kernel_rfl
theorem aD.cs_ok (F:Nat):∀ p ∈ aD.cs F,∀ args H v H',p.2 args H = some (v,H')→Go.AE.T Try.prog p.1 args H v H':=by
 intro p hp
 exact absurd (show p ∈ [] from hp) List.not_mem_nil
theorem aD.ok:codeOk aD.pn Try.f73.ntmps aD.tb aD.code = true:=by kernel_rfl
theorem aD.T {F:Nat} {aa:Int} {ab:Int} {bB:Int} {H:Hp} {v:AV} {H':Hp} (h:aD.tw F aa ab bB H = some (v,H')):Go.AE.T Try.prog 73 [(.int .i64 aa),(.int .i64 ab),(.int .i64 bB)] H v H':=
 Go.AE.T.of (Y:=tabs) (C:=mkOrc (aD.cs F)) (PN:=aD.pn) (LH:=aD.lh F) (F:=F) (TB:=aD.tb) (fn:=Try.f73) (code:=aD.code) mixed tabs_ok (mkOrc_ok (aD.cs_ok F)) Try.func73 (by kernel_rfl) (by kernel_rfl) aD.ok (Nat.le_of_ble_eq_true (by kernel_rfl)) (aD.loops F) (Eq.trans (aD.eqX F aa ab bB H) h)
theorem aD.mk_T {F:Nat} {args:List AV} {H:Hp} {v:AV} {H':Hp} (h:aD.mk (aD.tw F) args H = some (v,H')):Go.AE.T Try.prog 73 args H v H':=by
 unfold aD.mk at h
 split at h
 ·exact aD.T h
 ·cases h
noncomputable def aM.twX (F:Nat) (aa:Sl) (H:Hp):OA:=(bif (aa.a.isNone) then (some ((.sl (⟨none,0,.ex 0⟩:Sl)),H)) else ((Hp.new H []).bind fun H2=>(Sl.row H2 aa 1).bind fun xs4=>(Hp.app H2 1 8 (⟨some (H.length,0),0,.ex 0⟩:Sl) aa.n xs4).bind fun a3=>some ((.sl a3.1),a3.2)))
noncomputable def aM.tw (F:Nat) (aa:Sl) (H:Hp):OA:=aM.twX F aa H
noncomputable def aM.code:Go.Code:=(Try.f76.body).getD .skip
noncomputable def aM.lh (F:Nat) (p:Nat) (ks:List Nat) (n:Nat) (tm:Tm) (H:Hp):OA:=none
def aM.pn:Nat→List Nat:=fun i=>(([]:List (Nat×List Nat)).lookup i).getD []
def aM.tb:Nat→List (List Nat):=fun i=>(([]:List (Nat×List (List Nat))).lookup i).getD []
noncomputable def aM.mk (g:Sl→Hp→OA) (args:List AV) (H:Hp):OA:=match args with
 | [(.sl aa)]=>g aa H
 | _=>none
noncomputable def aM.cs (F:Nat):List (FuncId×(List AV→Hp→OA)):=[]
theorem aM.loops (F:Nat):LoopsOk tabs (mkOrc (aM.cs F)) aM.pn (aM.lh F) F [] 1 aM.code (fun tm H=>aresults tabs.ty H tm Try.f76.results.toList fun v=>some (v,H)) (fun _ _ _=>none) (fun tm H=>aresults tabs.ty H tm Try.f76.results.toList fun v=>some (v,H)):=by
 exact loops_none (by kernel_rfl)
theorem aM.eqX (F:Nat) (aa:Sl) (H:Hp):aCode tabs (mkOrc (aM.cs F)) aM.pn (aM.lh F) F [] 1 aM.code (argTm [(.sl aa)]) H (fun tm H=>aresults tabs.ty H tm Try.f76.results.toList fun v=>some (v,H)) (fun _ _ _=>none) (fun tm H=>aresults tabs.ty H tm Try.f76.results.toList fun v=>some (v,H)) = aM.twX F aa H:=by kernel_rfl
theorem aM.cs_ok (F:Nat):∀ p ∈ aM.cs F,∀ args H v H',p.2 args H = some (v,H')→Go.AE.T Try.prog p.1 args H v H':=by
 intro p hp
 exact absurd (show p ∈ [] from hp) List.not_mem_nil
theorem aM.ok:codeOk aM.pn Try.f76.ntmps aM.tb aM.code = true:=by kernel_rfl
theorem aM.T {F:Nat} {aa:Sl} {H:Hp} {v:AV} {H':Hp} (h:aM.tw F aa H = some (v,H')):Go.AE.T Try.prog 76 [(.sl aa)] H v H':=
 Go.AE.T.of (Y:=tabs) (C:=mkOrc (aM.cs F)) (PN:=aM.pn) (LH:=aM.lh F) (F:=F) (TB:=aM.tb) (fn:=Try.f76) (code:=aM.code) mixed tabs_ok (mkOrc_ok (aM.cs_ok F)) Try.func76 (by kernel_rfl) (by kernel_rfl) aM.ok (Nat.le_of_ble_eq_true (by kernel_rfl)) (aM.loops F) (Eq.trans (aM.eqX F aa H) h)
theorem aM.mk_T {F:Nat} {args:List AV} {H:Hp} {v:AV} {H':Hp} (h:aM.mk (aM.tw F) args H = some (v,H')):Go.AE.T Try.prog 76 args H v H':=by
 unfold aM.mk at h
 split at h
 ·exact aM.T h
 ·cases h
noncomputable def ae.j1 (F:Nat) (bu:Sl→Hp→OA) (fq:Nat) (kw:Nat) (dP:Nat) (eK:Nat) (H54:Hp):OA:=(Hp.ldSl H54 fq (kw + 1)).bind fun s55=>(bif ((s55.n:Int) == 0) then ((Hp.st H54 dP eK (.int .i64 0)).bind fun H56=>(Hp.st H56 dP (eK + 1) (.sl (⟨none,0,.ex 0⟩:Sl))).bind fun H57=>(Hp.ldI H57 .i64 dP eK).bind fun n58=>(Hp.ldSl H57 dP (eK + 1)).bind fun s59=>some ((.agg [(.int .i64 n58),(.sl s59)]),H57)) else ((Hp.ldI H54 .i64 fq kw).bind fun n60=>(Hp.ldSl H54 fq (kw + 1)).bind fun s61=>(bu s61 H54).bind fun r62=>((r62.1).asSl).bind fun s63=>(if Cons H54 r62.2 then ((Hp.st r62.2 dP eK (.int .i64 n60)).bind fun H64=>(Hp.st H64 dP (eK + 1) (.sl s63)).bind fun H65=>(Hp.ldI H65 .i64 dP eK).bind fun n66=>(Hp.ldSl H65 dP (eK + 1)).bind fun s67=>some ((.agg [(.int .i64 n66),(.sl s67)]),H65)) else none)))
noncomputable def ae.l14 (F:Nat) (bu:Sl→Hp→OA) :Nat→Nat→Nat→Nat→Nat→Hp→OA
 | 0,_,_,_,_,_=>none
 | kt + 1,cb,cQ,cZ,dQ,H36=>(Hp.ldSl H36 cb (cQ + 1)).bind fun s68=>(bif (decide ((s68.n:Int) > 0)) then ((Hp.ldSl H36 cb (cQ + 1)).bind fun s69=>(Hp.ldSl H36 cb (cQ + 1)).bind fun s70=>(Sl.idx s69 (IntKind.i64.wrap ((s70.n:Int) - 1)) 1).bind fun p71=>(Hp.ldI H36 .i64 p71.1 p71.2).bind fun n72=>(bif (n72 == 0) then ((Hp.ldSl H36 cb (cQ + 1)).bind fun s73=>(Hp.ldSl H36 cb (cQ + 1)).bind fun s74=>(Sl.cut s73 1 0 (IntKind.i64.wrap ((s74.n:Int) - 1))).bind fun s75=>(Hp.st H36 cb (cQ + 1) (.sl s75)).bind fun H76=>ae.l14 F bu kt cb cQ cZ dQ H76) else (ae.j1 F bu cb cQ cZ dQ H36))) else (ae.j1 F bu cb cQ cZ dQ H36))
termination_by structural n=>n
noncomputable def ae.j2 (F:Nat) (bu:Sl→Hp→OA) (hQ:Nat) (pM:Nat) (hR:Nat) (pN:Nat) (H28:Hp):OA:=ae.l14 F bu F hQ pM hR pN H28
noncomputable def ae.l6 (F:Nat) (bu:Sl→Hp→OA) :Nat→Nat→Nat→Nat→Nat→Hp→OA
 | 0,_,_,_,_,_=>none
 | pO + 1,cc,bj,c_,dR,H11=>(Hp.ldSl H11 cc (bj + 1)).bind fun s77=>(bif (decide ((s77.n:Int) > 0)) then ((Hp.ldSl H11 cc (bj + 1)).bind fun s78=>(Sl.idx s78 0 1).bind fun p79=>(Hp.ldI H11 .i64 p79.1 p79.2).bind fun n80=>(bif (n80 == 0) then ((Hp.ldI H11 .i64 cc bj).bind fun n81=>(Hp.st H11 cc bj (.int .i64 (IntKind.i64.wrap (n81 + 1)))).bind fun H82=>(Hp.ldSl H82 cc (bj + 1)).bind fun s83=>(Sl.cut s83 1 1 (s83.n:Int)).bind fun s84=>(Hp.st H82 cc (bj + 1) (.sl s84)).bind fun H85=>ae.l6 F bu pO cc bj c_ dR H85) else (ae.j2 F bu cc bj c_ dR H11))) else (ae.j2 F bu cc bj c_ dR H11))
termination_by structural n=>n
noncomputable def ae.twX (F:Nat) (bu:Sl→Hp→OA) (aa:Int) (aj:Sl) (H:Hp):OA:=(Hp.new H [(.int .i64 aa),(.sl aj)]).bind fun H3=>(Hp.new H3 [.int .i64 0,.sl ⟨none,0,.ex 0⟩]).bind fun H4=>ae.l6 F bu F H.length 0 H3.length 0 H4
noncomputable def ae.tw (F:Nat) (aa:Int) (aj:Sl) (H:Hp):OA:=ae.twX F (aM.tw F) aa aj H
noncomputable def ae.code:Go.Code:=(Try.f183.body).getD .skip
noncomputable def ae.lh6 (F:Nat) (bu:Sl→Hp→OA) (ks:List Nat) (n:Nat) (tm:Tm) (H:Hp):OA:=match ks,tm 1,tm 2 with
 | [],(.ptr cc bj),(.ptr c_ dR)=>ae.l6 F bu n cc bj c_ dR H
 | _,_,_=>none
theorem ae.lh6_inv {F:Nat} {bu:Sl→Hp→OA} {ks:List Nat} {n:Nat} {tm:Tm} {H:Hp} {r:AV×Hp} (h:ae.lh6 F bu ks n tm H = some r):∃ cc:Nat,∃ bj:Nat,∃ c_:Nat,∃ dR:Nat,ks = []∧tm 1 = (.ptr cc bj)∧tm 2 = (.ptr c_ dR)∧ae.l6 F bu n cc bj c_ dR H = some r:=by
 unfold ae.lh6 at h
 split at h
 ·exact ⟨_,_,_,_,rfl,by assumption,by assumption,h⟩
 ·cases h
noncomputable def ae.lh14 (F:Nat) (bu:Sl→Hp→OA) (ks:List Nat) (n:Nat) (tm:Tm) (H:Hp):OA:=match ks,tm 1,tm 2 with
 | [],(.ptr cb cQ),(.ptr cZ dQ)=>ae.l14 F bu n cb cQ cZ dQ H
 | _,_,_=>none
theorem ae.lh14_inv {F:Nat} {bu:Sl→Hp→OA} {ks:List Nat} {n:Nat} {tm:Tm} {H:Hp} {r:AV×Hp} (h:ae.lh14 F bu ks n tm H = some r):∃ cb:Nat,∃ cQ:Nat,∃ cZ:Nat,∃ dQ:Nat,ks = []∧tm 1 = (.ptr cb cQ)∧tm 2 = (.ptr cZ dQ)∧ae.l14 F bu n cb cQ cZ dQ H = some r:=by
 unfold ae.lh14 at h
 split at h
 ·exact ⟨_,_,_,_,rfl,by assumption,by assumption,h⟩
 ·cases h
noncomputable def ae.lh (F:Nat) (bu:Sl→Hp→OA) (p:Nat) (ks:List Nat) (n:Nat) (tm:Tm) (H:Hp):OA:=bif p.beq 14 then ae.lh14 F bu ks n tm H else (bif p.beq 6 then ae.lh6 F bu ks n tm H else (none))
def ae.pn:Nat→List Nat:=fun i=>(([(8,[6])]:List (Nat×List Nat)).lookup i).getD []
def ae.tb:Nat→List (List Nat):=fun i=>(([(8,[[],[0],[],[2],[2,3],[0,1,2,3,4],[0,1,2,3,4,5]])]:List (Nat×List (List Nat))).lookup i).getD []
noncomputable def ae.mk (g:Int→Sl→Hp→OA) (args:List AV) (H:Hp):OA:=match args with
 | [(.agg [(.int .i64 aa),(.sl aj)])]=>g aa aj H
 | _=>none
noncomputable def ae.cs (F:Nat) (bu:Sl→Hp→OA):List (FuncId×(List AV→Hp→OA)):=[(76,aM.mk bu)]
theorem ae.loops (F:Nat) (bu:Sl→Hp→OA):LoopsOk tabs (mkOrc (ae.cs F bu)) ae.pn (ae.lh F bu) F [] 1 ae.code (fun tm H=>aresults tabs.ty H tm Try.f183.results.toList fun v=>some (v,H)) (fun _ _ _=>none) (fun tm H=>aresults tabs.ty H tm Try.f183.results.toList fun v=>some (v,H)):=by
 refine LoopsOk.seq ?_ ?_
 ·exact loops_none (by kernel_rfl)
 ·refine LoopsOk.seq ?_ ?_
  ·refine LoopsOk.block ?_
   refine LoopsOk.loop (fun tm H=>?_) (fun k6 tm H r h0=>?_) (fun k6=>?_)
   ·refine none_of fun r h0=>?_
    obtain ⟨cc,bj,c_,dR,hks,e1,e2,h⟩:=ae.lh6_inv (show ae.lh6 F bu [] 0 tm H = some r from h0)
    cases h
   ·obtain ⟨cc,bj,c_,dR,hks,e1,e2,h⟩:=ae.lh6_inv (show ae.lh6 F bu [] (k6 + 1) tm H = some r from h0)
    have q0:(Tm.put tm 1 (.ptr cc bj)) = tm:=by exact Tm.put_same e1
    have q1:(Tm.put (Tm.put tm 1 (.ptr cc bj)) 2 (.ptr c_ dR)) = tm:=by rw [q0]; exact Tm.put_same e2
    rw [← q1]
    exact Eq.trans (by kernel_rfl) h
   ·exact loops_none (by kernel_rfl)
  ·refine LoopsOk.seq ?_ ?_
   ·refine LoopsOk.block ?_
    refine LoopsOk.loop (fun tm H=>?_) (fun k14 tm H r h0=>?_) (fun k14=>?_)
    ·refine none_of fun r h0=>?_
     obtain ⟨cb,cQ,cZ,dQ,hks,e1,e2,h⟩:=ae.lh14_inv (show ae.lh14 F bu [] 0 tm H = some r from h0)
     cases h
    ·obtain ⟨cb,cQ,cZ,dQ,hks,e1,e2,h⟩:=ae.lh14_inv (show ae.lh14 F bu [] (k14 + 1) tm H = some r from h0)
     have q0:(Tm.put tm 1 (.ptr cb cQ)) = tm:=by exact Tm.put_same e1
     have q1:(Tm.put (Tm.put tm 1 (.ptr cb cQ)) 2 (.ptr cZ dQ)) = tm:=by rw [q0]; exact Tm.put_same e2
     rw [← q1]
     exact Eq.trans (by kernel_rfl) h
    ·exact loops_none (by kernel_rfl)
   ·exact loops_none (by kernel_rfl)
theorem ae.eqX (F:Nat) (bu:Sl→Hp→OA) (aa:Int) (aj:Sl) (H:Hp):aCode tabs (mkOrc (ae.cs F bu)) ae.pn (ae.lh F bu) F [] 1 ae.code (argTm [(.agg [(.int .i64 aa),(.sl aj)])]) H (fun tm H=>aresults tabs.ty H tm Try.f183.results.toList fun v=>some (v,H)) (fun _ _ _=>none) (fun tm H=>aresults tabs.ty H tm Try.f183.results.toList fun v=>some (v,H)) = ae.twX F bu aa aj H:=by kernel_rfl
theorem ae.cs_ok (F:Nat):∀ p ∈ ae.cs F (aM.tw F),∀ args H v H',p.2 args H = some (v,H')→Go.AE.T Try.prog p.1 args H v H':=by
 intro p hp
 simp only [ae.cs,List.mem_cons,List.not_mem_nil,or_false] at hp
 subst hp
 exact fun args H v H' h=>aM.mk_T h
theorem ae.ok:codeOk ae.pn Try.f183.ntmps ae.tb ae.code = true:=by kernel_rfl
theorem ae.T {F:Nat} {aa:Int} {aj:Sl} {H:Hp} {v:AV} {H':Hp} (h:ae.tw F aa aj H = some (v,H')):Go.AE.T Try.prog 183 [(.agg [(.int .i64 aa),(.sl aj)])] H v H':=
 Go.AE.T.of (Y:=tabs) (C:=mkOrc (ae.cs F (aM.tw F))) (PN:=ae.pn) (LH:=ae.lh F (aM.tw F)) (F:=F) (TB:=ae.tb) (fn:=Try.f183) (code:=ae.code) mixed tabs_ok (mkOrc_ok (ae.cs_ok F)) Try.func183 (by kernel_rfl) (by kernel_rfl) ae.ok (Nat.le_of_ble_eq_true (by kernel_rfl)) (ae.loops F (aM.tw F)) (Eq.trans (ae.eqX F (aM.tw F) aa aj H) h)
theorem ae.mk_T {F:Nat} {args:List AV} {H:Hp} {v:AV} {H':Hp} (h:ae.mk (ae.tw F) args H = some (v,H')):Go.AE.T Try.prog 183 args H v H':=by
 unfold ae.mk at h
 split at h
 ·exact ae.T h
 ·cases h
noncomputable def aE.twX (F:Nat) (cd:Int→Sl→Hp→OA) (aa:Int) (ab:Int) (H:Hp):OA:=(Hp.new H [.int .i64 0,.sl ⟨none,0,.ex 0⟩]).bind fun H3=>(Hp.new H3 [(.int .i64 aa)]).bind fun H4=>(cd ab (⟨some (H3.length,0),1,.ex 1⟩:Sl) H4).bind fun r5=>((r5.1).asAgg 2).bind fun l6=>(l6[0]?).bind fun v7=>((v7).asI .i64).bind fun n8=>(l6[1]?).bind fun v9=>((v9).asSl).bind fun s10=>(Hp.st r5.2 H.length 0 (.int .i64 n8)).bind fun H11=>(Hp.st H11 H.length (0 + 1) (.sl s10)).bind fun H12=>(Hp.ldI H12 .i64 H.length 0).bind fun n13=>(Hp.ldSl H12 H.length (0 + 1)).bind fun s14=>some ((.agg [(.int .i64 n13),(.sl s14)]),H12)
noncomputable def aE.tw (F:Nat) (aa:Int) (ab:Int) (H:Hp):OA:=aE.twX F (ae.tw F) aa ab H
noncomputable def aE.code:Go.Code:=(Try.f145.body).getD .skip
noncomputable def aE.lh (F:Nat) (cd:Int→Sl→Hp→OA) (p:Nat) (ks:List Nat) (n:Nat) (tm:Tm) (H:Hp):OA:=none
def aE.pn:Nat→List Nat:=fun i=>(([]:List (Nat×List Nat)).lookup i).getD []
def aE.tb:Nat→List (List Nat):=fun i=>(([]:List (Nat×List (List Nat))).lookup i).getD []
noncomputable def aE.mk (g:Int→Int→Hp→OA) (args:List AV) (H:Hp):OA:=match args with
 | [(.int .i64 aa),(.int .i64 ab)]=>g aa ab H
 | _=>none
noncomputable def aE.cs (F:Nat) (cd:Int→Sl→Hp→OA):List (FuncId×(List AV→Hp→OA)):=[(183,ae.mk cd)]
theorem aE.loops (F:Nat) (cd:Int→Sl→Hp→OA):LoopsOk tabs (mkOrc (aE.cs F cd)) aE.pn (aE.lh F cd) F [] 1 aE.code (fun tm H=>aresults tabs.ty H tm Try.f145.results.toList fun v=>some (v,H)) (fun _ _ _=>none) (fun tm H=>aresults tabs.ty H tm Try.f145.results.toList fun v=>some (v,H)):=by
 exact loops_none (by kernel_rfl)
theorem aE.eqX (F:Nat) (cd:Int→Sl→Hp→OA) (aa:Int) (ab:Int) (H:Hp):aCode tabs (mkOrc (aE.cs F cd)) aE.pn (aE.lh F cd) F [] 1 aE.code (argTm [(.int .i64 aa),(.int .i64 ab)]) H (fun tm H=>aresults tabs.ty H tm Try.f145.results.toList fun v=>some (v,H)) (fun _ _ _=>none) (fun tm H=>aresults tabs.ty H tm Try.f145.results.toList fun v=>some (v,H)) = aE.twX F cd aa ab H:=by kernel_rfl
theorem aE.cs_ok (F:Nat):∀ p ∈ aE.cs F (ae.tw F),∀ args H v H',p.2 args H = some (v,H')→Go.AE.T Try.prog p.1 args H v H':=by
 intro p hp
 simp only [aE.cs,List.mem_cons,List.not_mem_nil,or_false] at hp
 subst hp
 exact fun args H v H' h=>ae.mk_T h
theorem aE.ok:codeOk aE.pn Try.f145.ntmps aE.tb aE.code = true:=by kernel_rfl
theorem aE.T {F:Nat} {aa:Int} {ab:Int} {H:Hp} {v:AV} {H':Hp} (h:aE.tw F aa ab H = some (v,H')):Go.AE.T Try.prog 145 [(.int .i64 aa),(.int .i64 ab)] H v H':=
 Go.AE.T.of (Y:=tabs) (C:=mkOrc (aE.cs F (ae.tw F))) (PN:=aE.pn) (LH:=aE.lh F (ae.tw F)) (F:=F) (TB:=aE.tb) (fn:=Try.f145) (code:=aE.code) mixed tabs_ok (mkOrc_ok (aE.cs_ok F)) Try.func145 (by kernel_rfl) (by kernel_rfl) aE.ok (Nat.le_of_ble_eq_true (by kernel_rfl)) (aE.loops F (ae.tw F)) (Eq.trans (aE.eqX F (ae.tw F) aa ab H) h)
theorem aE.mk_T {F:Nat} {args:List AV} {H:Hp} {v:AV} {H':Hp} (h:aE.mk (aE.tw F) args H = some (v,H')):Go.AE.T Try.prog 145 args H v H':=by
 unfold aE.mk at h
 split at h
 ·exact aE.T h
 ·cases h
noncomputable def a_.twX (F:Nat) (aa:Sl) (H:Hp):OA:=some ((.int .i64 (aa.n:Int)),H)
noncomputable def a_.tw (F:Nat) (aa:Sl) (H:Hp):OA:=a_.twX F aa H
noncomputable def a_.code:Go.Code:=(Try.f74.body).getD .skip
noncomputable def a_.lh (F:Nat) (p:Nat) (ks:List Nat) (n:Nat) (tm:Tm) (H:Hp):OA:=none
def a_.pn:Nat→List Nat:=fun i=>(([]:List (Nat×List Nat)).lookup i).getD []
def a_.tb:Nat→List (List Nat):=fun i=>(([]:List (Nat×List (List Nat))).lookup i).getD []
noncomputable def a_.mk (g:Sl→Hp→OA) (args:List AV) (H:Hp):OA:=match args with
 | [(.sl aa)]=>g aa H
 | _=>none
noncomputable def a_.cs (F:Nat):List (FuncId×(List AV→Hp→OA)):=[]
theorem a_.loops (F:Nat):LoopsOk tabs (mkOrc (a_.cs F)) a_.pn (a_.lh F) F [] 1 a_.code (fun tm H=>aresults tabs.ty H tm Try.f74.results.toList fun v=>some (v,H)) (fun _ _ _=>none) (fun tm H=>aresults tabs.ty H tm Try.f74.results.toList fun v=>some (v,H)):=by
 exact loops_none (by kernel_rfl)
theorem a_.eqX (F:Nat) (aa:Sl) (H:Hp):aCode tabs (mkOrc (a_.cs F)) a_.pn (a_.lh F) F [] 1 a_.code (argTm [(.sl aa)]) H (fun tm H=>aresults tabs.ty H tm Try.f74.results.toList fun v=>some (v,H)) (fun _ _ _=>none) (fun tm H=>aresults tabs.ty H tm Try.f74.results.toList fun v=>some (v,H)) = a_.twX F aa H:=by kernel_rfl
theorem a_.cs_ok (F:Nat):∀ p ∈ a_.cs F,∀ args H v H',p.2 args H = some (v,H')→Go.AE.T Try.prog p.1 args H v H':=by
 intro p hp
 exact absurd (show p ∈ [] from hp) List.not_mem_nil
theorem a_.ok:codeOk a_.pn Try.f74.ntmps a_.tb a_.code = true:=by kernel_rfl
theorem a_.T {F:Nat} {aa:Sl} {H:Hp} {v:AV} {H':Hp} (h:a_.tw F aa H = some (v,H')):Go.AE.T Try.prog 74 [(.sl aa)] H v H':=
 Go.AE.T.of (Y:=tabs) (C:=mkOrc (a_.cs F)) (PN:=a_.pn) (LH:=a_.lh F) (F:=F) (TB:=a_.tb) (fn:=Try.f74) (code:=a_.code) mixed tabs_ok (mkOrc_ok (a_.cs_ok F)) Try.func74 (by kernel_rfl) (by kernel_rfl) a_.ok (Nat.le_of_ble_eq_true (by kernel_rfl)) (a_.loops F) (Eq.trans (a_.eqX F aa H) h)
theorem a_.mk_T {F:Nat} {args:List AV} {H:Hp} {v:AV} {H':Hp} (h:a_.mk (a_.tw F) args H = some (v,H')):Go.AE.T Try.prog 74 args H v H':=by
 unfold a_.mk at h
 split at h
 ·exact a_.T h
 ·cases h
noncomputable def aA.twX (F:Nat) (dS:Sl→Hp→OA) (aa:Int) (aj:Sl) (H:Hp):OA:=(Hp.new H [(.int .i64 aa),(.sl aj)]).bind fun H3=>(Hp.ldI H3 .i64 H.length 0).bind fun n4=>(Hp.ldSl H3 H.length 1).bind fun s5=>(dS s5 H3).bind fun r6=>((r6.1).asI .i64).bind fun n7=>(if Cons H3 r6.2 then (some ((.int .i64 (IntKind.i64.wrap ((IntKind.i64.wrap (n4 + n7)) - 1))),r6.2)) else none)
noncomputable def aA.tw (F:Nat) (aa:Int) (aj:Sl) (H:Hp):OA:=aA.twX F (a_.tw F) aa aj H
noncomputable def aA.code:Go.Code:=(Try.f202.body).getD .skip
noncomputable def aA.lh (F:Nat) (dS:Sl→Hp→OA) (p:Nat) (ks:List Nat) (n:Nat) (tm:Tm) (H:Hp):OA:=none
def aA.pn:Nat→List Nat:=fun i=>(([(1,[])]:List (Nat×List Nat)).lookup i).getD []
def aA.tb:Nat→List (List Nat):=fun i=>(([(1,[[],[0],[],[2],[2,3],[0,1,2,3,4],[0,1,2,3,4,5],[0,1,2,3,4,5,6]])]:List (Nat×List (List Nat))).lookup i).getD []
noncomputable def aA.mk (g:Int→Sl→Hp→OA) (args:List AV) (H:Hp):OA:=match args with
 | [(.agg [(.int .i64 aa),(.sl aj)])]=>g aa aj H
 | _=>none
noncomputable def aA.cs (F:Nat) (dS:Sl→Hp→OA):List (FuncId×(List AV→Hp→OA)):=[(74,a_.mk dS)]
theorem aA.loops (F:Nat) (dS:Sl→Hp→OA):LoopsOk tabs (mkOrc (aA.cs F dS)) aA.pn (aA.lh F dS) F [] 1 aA.code (fun tm H=>aresults tabs.ty H tm Try.f202.results.toList fun v=>some (v,H)) (fun _ _ _=>none) (fun tm H=>aresults tabs.ty H tm Try.f202.results.toList fun v=>some (v,H)):=by
 exact loops_none (by kernel_rfl)
theorem aA.eqX (F:Nat) (dS:Sl→Hp→OA) (aa:Int) (aj:Sl) (H:Hp):aCode tabs (mkOrc (aA.cs F dS)) aA.pn (aA.lh F dS) F [] 1 aA.code (argTm [(.agg [(.int .i64 aa),(.sl aj)])]) H (fun tm H=>aresults tabs.ty H tm Try.f202.results.toList fun v=>some (v,H)) (fun _ _ _=>none) (fun tm H=>aresults tabs.ty H tm Try.f202.results.toList fun v=>some (v,H)) = aA.twX F dS aa aj H:=by kernel_rfl
theorem aA.cs_ok (F:Nat):∀ p ∈ aA.cs F (a_.tw F),∀ args H v H',p.2 args H = some (v,H')→Go.AE.T Try.prog p.1 args H v H':=by
 intro p hp
 simp only [aA.cs,List.mem_cons,List.not_mem_nil,or_false] at hp
 subst hp
 exact fun args H v H' h=>a_.mk_T h
theorem aA.ok:codeOk aA.pn Try.f202.ntmps aA.tb aA.code = true:=by kernel_rfl
theorem aA.T {F:Nat} {aa:Int} {aj:Sl} {H:Hp} {v:AV} {H':Hp} (h:aA.tw F aa aj H = some (v,H')):Go.AE.T Try.prog 202 [(.agg [(.int .i64 aa),(.sl aj)])] H v H':=
 Go.AE.T.of (Y:=tabs) (C:=mkOrc (aA.cs F (a_.tw F))) (PN:=aA.pn) (LH:=aA.lh F (a_.tw F)) (F:=F) (TB:=aA.tb) (fn:=Try.f202) (code:=aA.code) mixed tabs_ok (mkOrc_ok (aA.cs_ok F)) Try.func202 (by kernel_rfl) (by kernel_rfl) aA.ok (Nat.le_of_ble_eq_true (by kernel_rfl)) (aA.loops F (a_.tw F)) (Eq.trans (aA.eqX F (a_.tw F) aa aj H) h)
theorem aA.mk_T {F:Nat} {args:List AV} {H:Hp} {v:AV} {H':Hp} (h:aA.mk (aA.tw F) args H = some (v,H')):Go.AE.T Try.prog 202 args H v H':=by
 unfold aA.mk at h
 split at h
 ·exact aA.T h
 ·cases h
noncomputable def aT.twX (F:Nat) (ce:Int→Int→Int→Hp→OA) (aa:Int) (H:Hp):OA:=(ce aa (-1000000000000) 1000000000000 H).bind fun r2=>((r2.1).asB).bind fun b3=>some ((.bool (!b3)),r2.2)
noncomputable def aT.tw (F:Nat) (aa:Int) (H:Hp):OA:=aT.twX F (aD.tw F) aa H
noncomputable def aT.code:Go.Code:=(Try.f226.body).getD .skip
noncomputable def aT.lh (F:Nat) (ce:Int→Int→Int→Hp→OA) (p:Nat) (ks:List Nat) (n:Nat) (tm:Tm) (H:Hp):OA:=none
def aT.pn:Nat→List Nat:=fun i=>(([]:List (Nat×List Nat)).lookup i).getD []
def aT.tb:Nat→List (List Nat):=fun i=>(([]:List (Nat×List (List Nat))).lookup i).getD []
noncomputable def aT.mk (g:Int→Hp→OA) (args:List AV) (H:Hp):OA:=match args with
 | [(.int .i64 aa)]=>g aa H
 | _=>none
noncomputable def aT.cs (F:Nat) (ce:Int→Int→Int→Hp→OA):List (FuncId×(List AV→Hp→OA)):=[(73,aD.mk ce)]
theorem aT.loops (F:Nat) (ce:Int→Int→Int→Hp→OA):LoopsOk tabs (mkOrc (aT.cs F ce)) aT.pn (aT.lh F ce) F [] 1 aT.code (fun tm H=>aresults tabs.ty H tm Try.f226.results.toList fun v=>some (v,H)) (fun _ _ _=>none) (fun tm H=>aresults tabs.ty H tm Try.f226.results.toList fun v=>some (v,H)):=by
 exact loops_none (by kernel_rfl)
theorem aT.eqX (F:Nat) (ce:Int→Int→Int→Hp→OA) (aa:Int) (H:Hp):aCode tabs (mkOrc (aT.cs F ce)) aT.pn (aT.lh F ce) F [] 1 aT.code (argTm [(.int .i64 aa)]) H (fun tm H=>aresults tabs.ty H tm Try.f226.results.toList fun v=>some (v,H)) (fun _ _ _=>none) (fun tm H=>aresults tabs.ty H tm Try.f226.results.toList fun v=>some (v,H)) = aT.twX F ce aa H:=by kernel_rfl
theorem aT.cs_ok (F:Nat):∀ p ∈ aT.cs F (aD.tw F),∀ args H v H',p.2 args H = some (v,H')→Go.AE.T Try.prog p.1 args H v H':=by
 intro p hp
 simp only [aT.cs,List.mem_cons,List.not_mem_nil,or_false] at hp
 subst hp
 exact fun args H v H' h=>aD.mk_T h
theorem aT.ok:codeOk aT.pn Try.f226.ntmps aT.tb aT.code = true:=by kernel_rfl
theorem aT.T {F:Nat} {aa:Int} {H:Hp} {v:AV} {H':Hp} (h:aT.tw F aa H = some (v,H')):Go.AE.T Try.prog 226 [(.int .i64 aa)] H v H':=
 Go.AE.T.of (Y:=tabs) (C:=mkOrc (aT.cs F (aD.tw F))) (PN:=aT.pn) (LH:=aT.lh F (aD.tw F)) (F:=F) (TB:=aT.tb) (fn:=Try.f226) (code:=aT.code) mixed tabs_ok (mkOrc_ok (aT.cs_ok F)) Try.func226 (by kernel_rfl) (by kernel_rfl) aT.ok (Nat.le_of_ble_eq_true (by kernel_rfl)) (aT.loops F (aD.tw F)) (Eq.trans (aT.eqX F (aD.tw F) aa H) h)
theorem aT.mk_T {F:Nat} {args:List AV} {H:Hp} {v:AV} {H':Hp} (h:aT.mk (aT.tw F) args H = some (v,H')):Go.AE.T Try.prog 226 args H v H':=by
 unfold aT.mk at h
 split at h
 ·exact aT.T h
 ·cases h
noncomputable def aw.l13 (F:Nat) (ct:Int→Hp→OA) :Nat→Sl→Int→Int→Hp→OA
 | 0,_,_,_,_=>none
 | dH + 1,bm,bv,bi,H6=>(bif (decide (bi < bv)) then ((Sl.idx bm bi 1).bind fun p11=>(Hp.ldI H6 .i64 p11.1 p11.2).bind fun n12=>(ct n12 H6).bind fun r13=>((r13.1).asB).bind fun b14=>(bif b14 then (some ((.int .i64 bi),r13.2)) else (aw.l13 F ct dH bm bv (IntKind.i64.wrap (bi + 1)) r13.2))) else (some ((.int .i64 (-1)),H6)))
termination_by structural n=>n
noncomputable def aw.twX (F:Nat) (ct:Int→Hp→OA) (aa:Sl) (H:Hp):OA:=aw.l13 F ct F aa (aa.n:Int) 0 H
noncomputable def aw.tw (F:Nat) (aa:Sl) (H:Hp):OA:=aw.twX F (aT.tw F) aa H
noncomputable def aw.code:Go.Code:=(Try.f180.body).getD .skip
noncomputable def aw.lh13 (F:Nat) (ct:Int→Hp→OA) (ks:List Nat) (n:Nat) (tm:Tm) (H:Hp):OA:=match ks,tm 0,tm 1,tm 7,tm 8 with
 | [],(.sl bm),(.fn 226 []),(.int .i64 bv),(.int .i64 bi)=>aw.l13 F ct n bm bv bi H
 | _,_,_,_,_=>none
theorem aw.lh13_inv {F:Nat} {ct:Int→Hp→OA} {ks:List Nat} {n:Nat} {tm:Tm} {H:Hp} {r:AV×Hp} (h:aw.lh13 F ct ks n tm H = some r):∃ bm:Sl,∃ bv:Int,∃ bi:Int,ks = []∧tm 0 = (.sl bm)∧tm 1 = (.fn 226 [])∧tm 7 = (.int .i64 bv)∧tm 8 = (.int .i64 bi)∧aw.l13 F ct n bm bv bi H = some r:=by
 unfold aw.lh13 at h
 split at h
 ·exact ⟨_,_,_,rfl,by assumption,by assumption,by assumption,by assumption,h⟩
 ·cases h
noncomputable def aw.lh (F:Nat) (ct:Int→Hp→OA) (p:Nat) (ks:List Nat) (n:Nat) (tm:Tm) (H:Hp):OA:=bif p.beq 13 then aw.lh13 F ct ks n tm H else (none)
def aw.pn:Nat→List Nat:=fun i=>(([]:List (Nat×List Nat)).lookup i).getD []
def aw.tb:Nat→List (List Nat):=fun i=>(([]:List (Nat×List (List Nat))).lookup i).getD []
noncomputable def aw.mk (g:Sl→Hp→OA) (args:List AV) (H:Hp):OA:=match args with
 | [(.sl aa),(.fn 226 [])]=>g aa H
 | _=>none
noncomputable def aw.cs (F:Nat) (ct:Int→Hp→OA):List (FuncId×(List AV→Hp→OA)):=[(226,aT.mk ct)]
theorem aw.loops (F:Nat) (ct:Int→Hp→OA):LoopsOk tabs (mkOrc (aw.cs F ct)) aw.pn (aw.lh F ct) F [] 1 aw.code (fun tm H=>aresults tabs.ty H tm Try.f180.results.toList fun v=>some (v,H)) (fun _ _ _=>none) (fun tm H=>aresults tabs.ty H tm Try.f180.results.toList fun v=>some (v,H)):=by
 refine LoopsOk.seq ?_ ?_
 ·exact loops_none (by kernel_rfl)
 ·refine LoopsOk.seq ?_ ?_
  ·refine LoopsOk.seq ?_ ?_
   ·exact loops_none (by kernel_rfl)
   ·refine LoopsOk.block ?_
    refine LoopsOk.loop (fun tm H=>?_) (fun k13 tm H r h0=>?_) (fun k13=>?_)
    ·refine none_of fun r h0=>?_
     obtain ⟨bm,bv,bi,hks,e0,e1,e7,e8,h⟩:=aw.lh13_inv (show aw.lh13 F ct [] 0 tm H = some r from h0)
     cases h
    ·obtain ⟨bm,bv,bi,hks,e0,e1,e7,e8,h⟩:=aw.lh13_inv (show aw.lh13 F ct [] (k13 + 1) tm H = some r from h0)
     have q0:(Tm.put tm 0 (.sl bm)) = tm:=by exact Tm.put_same e0
     have q1:(Tm.put (Tm.put tm 0 (.sl bm)) 1 (.fn 226 [])) = tm:=by rw [q0]; exact Tm.put_same e1
     have q2:(Tm.put (Tm.put (Tm.put tm 0 (.sl bm)) 1 (.fn 226 [])) 7 (.int .i64 bv)) = tm:=by rw [q1]; exact Tm.put_same e7
     have q3:(Tm.put (Tm.put (Tm.put (Tm.put tm 0 (.sl bm)) 1 (.fn 226 [])) 7 (.int .i64 bv)) 8 (.int .i64 bi)) = tm:=by rw [q2]; exact Tm.put_same e8
     rw [← q3]
     exact Eq.trans (by kernel_rfl) h
    ·exact loops_none (by kernel_rfl)
  ·exact loops_none (by kernel_rfl)
theorem aw.eqX (F:Nat) (ct:Int→Hp→OA) (aa:Sl) (H:Hp):aCode tabs (mkOrc (aw.cs F ct)) aw.pn (aw.lh F ct) F [] 1 aw.code (argTm [(.sl aa),(.fn 226 [])]) H (fun tm H=>aresults tabs.ty H tm Try.f180.results.toList fun v=>some (v,H)) (fun _ _ _=>none) (fun tm H=>aresults tabs.ty H tm Try.f180.results.toList fun v=>some (v,H)) = aw.twX F ct aa H:=by kernel_rfl
theorem aw.cs_ok (F:Nat):∀ p ∈ aw.cs F (aT.tw F),∀ args H v H',p.2 args H = some (v,H')→Go.AE.T Try.prog p.1 args H v H':=by
 intro p hp
 simp only [aw.cs,List.mem_cons,List.not_mem_nil,or_false] at hp
 subst hp
 exact fun args H v H' h=>aT.mk_T h
theorem aw.ok:codeOk aw.pn Try.f180.ntmps aw.tb aw.code = true:=by kernel_rfl
theorem aw.T {F:Nat} {aa:Sl} {H:Hp} {v:AV} {H':Hp} (h:aw.tw F aa H = some (v,H')):Go.AE.T Try.prog 180 [(.sl aa),(.fn 226 [])] H v H':=
 Go.AE.T.of (Y:=tabs) (C:=mkOrc (aw.cs F (aT.tw F))) (PN:=aw.pn) (LH:=aw.lh F (aT.tw F)) (F:=F) (TB:=aw.tb) (fn:=Try.f180) (code:=aw.code) mixed tabs_ok (mkOrc_ok (aw.cs_ok F)) Try.func180 (by kernel_rfl) (by kernel_rfl) aw.ok (Nat.le_of_ble_eq_true (by kernel_rfl)) (aw.loops F (aT.tw F)) (Eq.trans (aw.eqX F (aT.tw F) aa H) h)
theorem aw.mk_T {F:Nat} {args:List AV} {H:Hp} {v:AV} {H':Hp} (h:aw.mk (aw.tw F) args H = some (v,H')):Go.AE.T Try.prog 180 args H v H':=by
 unfold aw.mk at h
 split at h
 ·exact aw.T h
 ·cases h
noncomputable def aW.twX (F:Nat) (dT:Sl→Hp→OA) (aa:Sl) (H:Hp):OA:=(dT aa H).bind fun r2=>((r2.1).asI .i64).bind fun n3=>some ((.bool (decide (n3 ≥ 0))),r2.2)
noncomputable def aW.tw (F:Nat) (aa:Sl) (H:Hp):OA:=aW.twX F (aw.tw F) aa H
noncomputable def aW.code:Go.Code:=(Try.f140.body).getD .skip
noncomputable def aW.lh (F:Nat) (dT:Sl→Hp→OA) (p:Nat) (ks:List Nat) (n:Nat) (tm:Tm) (H:Hp):OA:=none
def aW.pn:Nat→List Nat:=fun i=>(([]:List (Nat×List Nat)).lookup i).getD []
def aW.tb:Nat→List (List Nat):=fun i=>(([]:List (Nat×List (List Nat))).lookup i).getD []
noncomputable def aW.mk (g:Sl→Hp→OA) (args:List AV) (H:Hp):OA:=match args with
 | [(.sl aa),(.fn 226 [])]=>g aa H
 | _=>none
noncomputable def aW.cs (F:Nat) (dT:Sl→Hp→OA):List (FuncId×(List AV→Hp→OA)):=[(180,aw.mk dT)]
theorem aW.loops (F:Nat) (dT:Sl→Hp→OA):LoopsOk tabs (mkOrc (aW.cs F dT)) aW.pn (aW.lh F dT) F [] 1 aW.code (fun tm H=>aresults tabs.ty H tm Try.f140.results.toList fun v=>some (v,H)) (fun _ _ _=>none) (fun tm H=>aresults tabs.ty H tm Try.f140.results.toList fun v=>some (v,H)):=by
 exact loops_none (by kernel_rfl)
theorem aW.eqX (F:Nat) (dT:Sl→Hp→OA) (aa:Sl) (H:Hp):aCode tabs (mkOrc (aW.cs F dT)) aW.pn (aW.lh F dT) F [] 1 aW.code (argTm [(.sl aa),(.fn 226 [])]) H (fun tm H=>aresults tabs.ty H tm Try.f140.results.toList fun v=>some (v,H)) (fun _ _ _=>none) (fun tm H=>aresults tabs.ty H tm Try.f140.results.toList fun v=>some (v,H)) = aW.twX F dT aa H:=by kernel_rfl
theorem aW.cs_ok (F:Nat):∀ p ∈ aW.cs F (aw.tw F),∀ args H v H',p.2 args H = some (v,H')→Go.AE.T Try.prog p.1 args H v H':=by
 intro p hp
 simp only [aW.cs,List.mem_cons,List.not_mem_nil,or_false] at hp
 subst hp
 exact fun args H v H' h=>aw.mk_T h
theorem aW.ok:codeOk aW.pn Try.f140.ntmps aW.tb aW.code = true:=by kernel_rfl
theorem aW.T {F:Nat} {aa:Sl} {H:Hp} {v:AV} {H':Hp} (h:aW.tw F aa H = some (v,H')):Go.AE.T Try.prog 140 [(.sl aa),(.fn 226 [])] H v H':=
 Go.AE.T.of (Y:=tabs) (C:=mkOrc (aW.cs F (aw.tw F))) (PN:=aW.pn) (LH:=aW.lh F (aw.tw F)) (F:=F) (TB:=aW.tb) (fn:=Try.f140) (code:=aW.code) mixed tabs_ok (mkOrc_ok (aW.cs_ok F)) Try.func140 (by kernel_rfl) (by kernel_rfl) aW.ok (Nat.le_of_ble_eq_true (by kernel_rfl)) (aW.loops F (aw.tw F)) (Eq.trans (aW.eqX F (aw.tw F) aa H) h)
theorem aW.mk_T {F:Nat} {args:List AV} {H:Hp} {v:AV} {H':Hp} (h:aW.mk (aW.tw F) args H = some (v,H')):Go.AE.T Try.prog 140 args H v H':=by
 unfold aW.mk at h
 split at h
 ·exact aW.T h
 ·cases h
noncomputable def aC.twX (F:Nat) (bf:Int→Sl→Hp→OA) (dU:Sl→Hp→OA) (aa:Int) (aj:Sl) (H:Hp):OA:=(Hp.new H [(.int .i64 aa),(.sl aj)]).bind fun H3=>(Hp.ldSl H3 H.length 1).bind fun s4=>(bif ((s4.n:Int) == 0) then ((Hp.ldI H3 .i64 H.length 0).bind fun n5=>some ((.bool (n5 == 0)),H3)) else ((bif (decide ((s4.n:Int) ≤ 160)) then ((Hp.ldSl H3 H.length 1).bind fun s6=>(Sl.idx s6 0 1).bind fun p7=>(Hp.ldI H3 .i64 p7.1 p7.2).bind fun n8=>(bif (n8 != 0) then ((Hp.ldSl H3 H.length 1).bind fun s9=>(Sl.idx s9 (IntKind.i64.wrap ((s4.n:Int) - 1)) 1).bind fun p10=>(Hp.ldI H3 .i64 p10.1 p10.2).bind fun n11=>(bif (n11 != 0) then ((Hp.ldI H3 .i64 H.length 0).bind fun n12=>(bif (decide (n12 ≥ (-240))) then ((Hp.ldI H3 .i64 H.length 0).bind fun n13=>(Hp.ldSl H3 H.length (0 + 1)).bind fun s14=>(bf n13 s14 H3).bind fun r15=>((r15.1).asI .i64).bind fun n16=>(bif (decide (n16 ≤ 240)) then ((Hp.ldI r15.2 .i64 H.length 0).bind fun n17=>(bif (decide (n17 ≤ 240)) then ((Hp.ldSl r15.2 H.length 1).bind fun s18=>(dU s18 r15.2).bind fun r19=>((r19.1).asB).bind fun b20=>some ((.bool (!b20)),r19.2)) else (some ((.bool false),r15.2)))) else (some ((.bool false),r15.2)))) else (some ((.bool false),H3)))) else (some ((.bool false),H3)))) else (some ((.bool false),H3)))) else (some ((.bool false),H3)))))
noncomputable def aC.tw (F:Nat) (aa:Int) (aj:Sl) (H:Hp):OA:=aC.twX F (aA.tw F) (aW.tw F) aa aj H
noncomputable def aC.code:Go.Code:=(Try.f215.body).getD .skip
noncomputable def aC.lh (F:Nat) (bf:Int→Sl→Hp→OA) (dU:Sl→Hp→OA) (p:Nat) (ks:List Nat) (n:Nat) (tm:Tm) (H:Hp):OA:=none
def aC.pn:Nat→List Nat:=fun i=>(([]:List (Nat×List Nat)).lookup i).getD []
def aC.tb:Nat→List (List Nat):=fun i=>(([]:List (Nat×List (List Nat))).lookup i).getD []
noncomputable def aC.mk (g:Int→Sl→Hp→OA) (args:List AV) (H:Hp):OA:=match args with
 | [(.agg [(.int .i64 aa),(.sl aj)])]=>g aa aj H
 | _=>none
noncomputable def aC.cs (F:Nat) (bf:Int→Sl→Hp→OA) (dU:Sl→Hp→OA):List (FuncId×(List AV→Hp→OA)):=[(202,aA.mk bf),(140,aW.mk dU)]
theorem aC.loops (F:Nat) (bf:Int→Sl→Hp→OA) (dU:Sl→Hp→OA):LoopsOk tabs (mkOrc (aC.cs F bf dU)) aC.pn (aC.lh F bf dU) F [] 1 aC.code (fun tm H=>aresults tabs.ty H tm Try.f215.results.toList fun v=>some (v,H)) (fun _ _ _=>none) (fun tm H=>aresults tabs.ty H tm Try.f215.results.toList fun v=>some (v,H)):=by
 exact loops_none (by kernel_rfl)
theorem aC.eqX (F:Nat) (bf:Int→Sl→Hp→OA) (dU:Sl→Hp→OA) (aa:Int) (aj:Sl) (H:Hp):aCode tabs (mkOrc (aC.cs F bf dU)) aC.pn (aC.lh F bf dU) F [] 1 aC.code (argTm [(.agg [(.int .i64 aa),(.sl aj)])]) H (fun tm H=>aresults tabs.ty H tm Try.f215.results.toList fun v=>some (v,H)) (fun _ _ _=>none) (fun tm H=>aresults tabs.ty H tm Try.f215.results.toList fun v=>some (v,H)) = aC.twX F bf dU aa aj H:=by kernel_rfl
theorem aC.cs_ok (F:Nat):∀ p ∈ aC.cs F (aA.tw F) (aW.tw F),∀ args H v H',p.2 args H = some (v,H')→Go.AE.T Try.prog p.1 args H v H':=by
 intro p hp
 simp only [aC.cs,List.mem_cons,List.not_mem_nil,or_false] at hp
 rcases hp with rfl | rfl
 ·exact fun args H v H' h=>aA.mk_T h
 ·exact fun args H v H' h=>aW.mk_T h
theorem aC.ok:codeOk aC.pn Try.f215.ntmps aC.tb aC.code = true:=by kernel_rfl
theorem aC.T {F:Nat} {aa:Int} {aj:Sl} {H:Hp} {v:AV} {H':Hp} (h:aC.tw F aa aj H = some (v,H')):Go.AE.T Try.prog 215 [(.agg [(.int .i64 aa),(.sl aj)])] H v H':=
 Go.AE.T.of (Y:=tabs) (C:=mkOrc (aC.cs F (aA.tw F) (aW.tw F))) (PN:=aC.pn) (LH:=aC.lh F (aA.tw F) (aW.tw F)) (F:=F) (TB:=aC.tb) (fn:=Try.f215) (code:=aC.code) mixed tabs_ok (mkOrc_ok (aC.cs_ok F)) Try.func215 (by kernel_rfl) (by kernel_rfl) aC.ok (Nat.le_of_ble_eq_true (by kernel_rfl)) (aC.loops F (aA.tw F) (aW.tw F)) (Eq.trans (aC.eqX F (aA.tw F) (aW.tw F) aa aj H) h)
theorem aC.mk_T {F:Nat} {args:List AV} {H:Hp} {v:AV} {H':Hp} (h:aC.mk (aC.tw F) args H = some (v,H')):Go.AE.T Try.prog 215 args H v H':=by
 unfold aC.mk at h
 split at h
 ·exact aC.T h
 ·cases h
noncomputable def aP.twX (F:Nat) (cf:Int→Sl→Hp→OA) (aa:Int) (aj:Sl) (H:Hp):OA:=(Hp.new H [(.int .i64 aa),(.sl aj)]).bind fun H3=>(Hp.ldI H3 .i64 H.length 0).bind fun n4=>(Hp.ldSl H3 H.length (0 + 1)).bind fun s5=>(cf n4 s5 H3).bind fun r6=>((r6.1).asB).bind fun b7=>some ((.bool (!b7)),r6.2)
noncomputable def aP.tw (F:Nat) (aa:Int) (aj:Sl) (H:Hp):OA:=aP.twX F (aC.tw F) aa aj H
noncomputable def aP.code:Go.Code:=(Try.f214.body).getD .skip
noncomputable def aP.lh (F:Nat) (cf:Int→Sl→Hp→OA) (p:Nat) (ks:List Nat) (n:Nat) (tm:Tm) (H:Hp):OA:=none
def aP.pn:Nat→List Nat:=fun i=>(([]:List (Nat×List Nat)).lookup i).getD []
def aP.tb:Nat→List (List Nat):=fun i=>(([]:List (Nat×List (List Nat))).lookup i).getD []
noncomputable def aP.mk (g:Int→Sl→Hp→OA) (args:List AV) (H:Hp):OA:=match args with
 | [(.agg [(.int .i64 aa),(.sl aj)])]=>g aa aj H
 | _=>none
noncomputable def aP.cs (F:Nat) (cf:Int→Sl→Hp→OA):List (FuncId×(List AV→Hp→OA)):=[(215,aC.mk cf)]
theorem aP.loops (F:Nat) (cf:Int→Sl→Hp→OA):LoopsOk tabs (mkOrc (aP.cs F cf)) aP.pn (aP.lh F cf) F [] 1 aP.code (fun tm H=>aresults tabs.ty H tm Try.f214.results.toList fun v=>some (v,H)) (fun _ _ _=>none) (fun tm H=>aresults tabs.ty H tm Try.f214.results.toList fun v=>some (v,H)):=by
 exact loops_none (by kernel_rfl)
theorem aP.eqX (F:Nat) (cf:Int→Sl→Hp→OA) (aa:Int) (aj:Sl) (H:Hp):aCode tabs (mkOrc (aP.cs F cf)) aP.pn (aP.lh F cf) F [] 1 aP.code (argTm [(.agg [(.int .i64 aa),(.sl aj)])]) H (fun tm H=>aresults tabs.ty H tm Try.f214.results.toList fun v=>some (v,H)) (fun _ _ _=>none) (fun tm H=>aresults tabs.ty H tm Try.f214.results.toList fun v=>some (v,H)) = aP.twX F cf aa aj H:=by kernel_rfl
theorem aP.cs_ok (F:Nat):∀ p ∈ aP.cs F (aC.tw F),∀ args H v H',p.2 args H = some (v,H')→Go.AE.T Try.prog p.1 args H v H':=by
 intro p hp
 simp only [aP.cs,List.mem_cons,List.not_mem_nil,or_false] at hp
 subst hp
 exact fun args H v H' h=>aC.mk_T h
theorem aP.ok:codeOk aP.pn Try.f214.ntmps aP.tb aP.code = true:=by kernel_rfl
theorem aP.T {F:Nat} {aa:Int} {aj:Sl} {H:Hp} {v:AV} {H':Hp} (h:aP.tw F aa aj H = some (v,H')):Go.AE.T Try.prog 214 [(.agg [(.int .i64 aa),(.sl aj)])] H v H':=
 Go.AE.T.of (Y:=tabs) (C:=mkOrc (aP.cs F (aC.tw F))) (PN:=aP.pn) (LH:=aP.lh F (aC.tw F)) (F:=F) (TB:=aP.tb) (fn:=Try.f214) (code:=aP.code) mixed tabs_ok (mkOrc_ok (aP.cs_ok F)) Try.func214 (by kernel_rfl) (by kernel_rfl) aP.ok (Nat.le_of_ble_eq_true (by kernel_rfl)) (aP.loops F (aC.tw F)) (Eq.trans (aP.eqX F (aC.tw F) aa aj H) h)
theorem aP.mk_T {F:Nat} {args:List AV} {H:Hp} {v:AV} {H':Hp} (h:aP.mk (aP.tw F) args H = some (v,H')):Go.AE.T Try.prog 214 args H v H':=by
 unfold aP.mk at h
 split at h
 ·exact aP.T h
 ·cases h
noncomputable def au.l13 (F:Nat) (cu:Int→Sl→Hp→OA) :Nat→Sl→Int→Int→Hp→OA
 | 0,_,_,_,_=>none
 | dH + 1,bm,bv,bi,H6=>(bif (decide (bi < bv)) then ((Sl.idx bm bi 2).bind fun p12=>(Hp.ldI H6 .i64 p12.1 p12.2).bind fun n13=>(Hp.ldSl H6 p12.1 (p12.2 + 1)).bind fun s14=>(cu n13 s14 H6).bind fun r15=>((r15.1).asB).bind fun b16=>(bif b16 then (some ((.int .i64 bi),r15.2)) else (au.l13 F cu dH bm bv (IntKind.i64.wrap (bi + 1)) r15.2))) else (some ((.int .i64 (-1)),H6)))
termination_by structural n=>n
noncomputable def au.twX (F:Nat) (cu:Int→Sl→Hp→OA) (aa:Sl) (H:Hp):OA:=au.l13 F cu F aa (aa.n:Int) 0 H
noncomputable def au.tw (F:Nat) (aa:Sl) (H:Hp):OA:=au.twX F (aP.tw F) aa H
noncomputable def au.code:Go.Code:=(Try.f225.body).getD .skip
noncomputable def au.lh13 (F:Nat) (cu:Int→Sl→Hp→OA) (ks:List Nat) (n:Nat) (tm:Tm) (H:Hp):OA:=match ks,tm 0,tm 1,tm 7,tm 8 with
 | [],(.sl bm),(.fn 214 []),(.int .i64 bv),(.int .i64 bi)=>au.l13 F cu n bm bv bi H
 | _,_,_,_,_=>none
theorem au.lh13_inv {F:Nat} {cu:Int→Sl→Hp→OA} {ks:List Nat} {n:Nat} {tm:Tm} {H:Hp} {r:AV×Hp} (h:au.lh13 F cu ks n tm H = some r):∃ bm:Sl,∃ bv:Int,∃ bi:Int,ks = []∧tm 0 = (.sl bm)∧tm 1 = (.fn 214 [])∧tm 7 = (.int .i64 bv)∧tm 8 = (.int .i64 bi)∧au.l13 F cu n bm bv bi H = some r:=by
 unfold au.lh13 at h
 split at h
 ·exact ⟨_,_,_,rfl,by assumption,by assumption,by assumption,by assumption,h⟩
 ·cases h
noncomputable def au.lh (F:Nat) (cu:Int→Sl→Hp→OA) (p:Nat) (ks:List Nat) (n:Nat) (tm:Tm) (H:Hp):OA:=bif p.beq 13 then au.lh13 F cu ks n tm H else (none)
def au.pn:Nat→List Nat:=fun i=>(([]:List (Nat×List Nat)).lookup i).getD []
def au.tb:Nat→List (List Nat):=fun i=>(([]:List (Nat×List (List Nat))).lookup i).getD []
noncomputable def au.mk (g:Sl→Hp→OA) (args:List AV) (H:Hp):OA:=match args with
 | [(.sl aa),(.fn 214 [])]=>g aa H
 | _=>none
noncomputable def au.cs (F:Nat) (cu:Int→Sl→Hp→OA):List (FuncId×(List AV→Hp→OA)):=[(214,aP.mk cu)]
theorem au.loops (F:Nat) (cu:Int→Sl→Hp→OA):LoopsOk tabs (mkOrc (au.cs F cu)) au.pn (au.lh F cu) F [] 1 au.code (fun tm H=>aresults tabs.ty H tm Try.f225.results.toList fun v=>some (v,H)) (fun _ _ _=>none) (fun tm H=>aresults tabs.ty H tm Try.f225.results.toList fun v=>some (v,H)):=by
 refine LoopsOk.seq ?_ ?_
 ·exact loops_none (by kernel_rfl)
 ·refine LoopsOk.seq ?_ ?_
  ·refine LoopsOk.seq ?_ ?_
   ·exact loops_none (by kernel_rfl)
   ·refine LoopsOk.block ?_
    refine LoopsOk.loop (fun tm H=>?_) (fun k13 tm H r h0=>?_) (fun k13=>?_)
    ·refine none_of fun r h0=>?_
     obtain ⟨bm,bv,bi,hks,e0,e1,e7,e8,h⟩:=au.lh13_inv (show au.lh13 F cu [] 0 tm H = some r from h0)
     cases h
    ·obtain ⟨bm,bv,bi,hks,e0,e1,e7,e8,h⟩:=au.lh13_inv (show au.lh13 F cu [] (k13 + 1) tm H = some r from h0)
     have q0:(Tm.put tm 0 (.sl bm)) = tm:=by exact Tm.put_same e0
     have q1:(Tm.put (Tm.put tm 0 (.sl bm)) 1 (.fn 214 [])) = tm:=by rw [q0]; exact Tm.put_same e1
     have q2:(Tm.put (Tm.put (Tm.put tm 0 (.sl bm)) 1 (.fn 214 [])) 7 (.int .i64 bv)) = tm:=by rw [q1]; exact Tm.put_same e7
     have q3:(Tm.put (Tm.put (Tm.put (Tm.put tm 0 (.sl bm)) 1 (.fn 214 [])) 7 (.int .i64 bv)) 8 (.int .i64 bi)) = tm:=by rw [q2]; exact Tm.put_same e8
     rw [← q3]
     exact Eq.trans (by kernel_rfl) h
    ·exact loops_none (by kernel_rfl)
  ·exact loops_none (by kernel_rfl)
theorem au.eqX (F:Nat) (cu:Int→Sl→Hp→OA) (aa:Sl) (H:Hp):aCode tabs (mkOrc (au.cs F cu)) au.pn (au.lh F cu) F [] 1 au.code (argTm [(.sl aa),(.fn 214 [])]) H (fun tm H=>aresults tabs.ty H tm Try.f225.results.toList fun v=>some (v,H)) (fun _ _ _=>none) (fun tm H=>aresults tabs.ty H tm Try.f225.results.toList fun v=>some (v,H)) = au.twX F cu aa H:=by kernel_rfl
theorem au.cs_ok (F:Nat):∀ p ∈ au.cs F (aP.tw F),∀ args H v H',p.2 args H = some (v,H')→Go.AE.T Try.prog p.1 args H v H':=by
 intro p hp
 simp only [au.cs,List.mem_cons,List.not_mem_nil,or_false] at hp
 subst hp
 exact fun args H v H' h=>aP.mk_T h
theorem au.ok:codeOk au.pn Try.f225.ntmps au.tb au.code = true:=by kernel_rfl
theorem au.T {F:Nat} {aa:Sl} {H:Hp} {v:AV} {H':Hp} (h:au.tw F aa H = some (v,H')):Go.AE.T Try.prog 225 [(.sl aa),(.fn 214 [])] H v H':=
 Go.AE.T.of (Y:=tabs) (C:=mkOrc (au.cs F (aP.tw F))) (PN:=au.pn) (LH:=au.lh F (aP.tw F)) (F:=F) (TB:=au.tb) (fn:=Try.f225) (code:=au.code) mixed tabs_ok (mkOrc_ok (au.cs_ok F)) Try.func225 (by kernel_rfl) (by kernel_rfl) au.ok (Nat.le_of_ble_eq_true (by kernel_rfl)) (au.loops F (aP.tw F)) (Eq.trans (au.eqX F (aP.tw F) aa H) h)
theorem au.mk_T {F:Nat} {args:List AV} {H:Hp} {v:AV} {H':Hp} (h:au.mk (au.tw F) args H = some (v,H')):Go.AE.T Try.prog 225 args H v H':=by
 unfold au.mk at h
 split at h
 ·exact au.T h
 ·cases h
noncomputable def aX.twX (F:Nat) (dV:Sl→Hp→OA) (aa:Sl) (H:Hp):OA:=(dV aa H).bind fun r2=>((r2.1).asI .i64).bind fun n3=>some ((.bool (decide (n3 ≥ 0))),r2.2)
noncomputable def aX.tw (F:Nat) (aa:Sl) (H:Hp):OA:=aX.twX F (au.tw F) aa H
noncomputable def aX.code:Go.Code:=(Try.f213.body).getD .skip
noncomputable def aX.lh (F:Nat) (dV:Sl→Hp→OA) (p:Nat) (ks:List Nat) (n:Nat) (tm:Tm) (H:Hp):OA:=none
def aX.pn:Nat→List Nat:=fun i=>(([]:List (Nat×List Nat)).lookup i).getD []
def aX.tb:Nat→List (List Nat):=fun i=>(([]:List (Nat×List (List Nat))).lookup i).getD []
noncomputable def aX.mk (g:Sl→Hp→OA) (args:List AV) (H:Hp):OA:=match args with
 | [(.sl aa),(.fn 214 [])]=>g aa H
 | _=>none
noncomputable def aX.cs (F:Nat) (dV:Sl→Hp→OA):List (FuncId×(List AV→Hp→OA)):=[(225,au.mk dV)]
theorem aX.loops (F:Nat) (dV:Sl→Hp→OA):LoopsOk tabs (mkOrc (aX.cs F dV)) aX.pn (aX.lh F dV) F [] 1 aX.code (fun tm H=>aresults tabs.ty H tm Try.f213.results.toList fun v=>some (v,H)) (fun _ _ _=>none) (fun tm H=>aresults tabs.ty H tm Try.f213.results.toList fun v=>some (v,H)):=by
 exact loops_none (by kernel_rfl)
theorem aX.eqX (F:Nat) (dV:Sl→Hp→OA) (aa:Sl) (H:Hp):aCode tabs (mkOrc (aX.cs F dV)) aX.pn (aX.lh F dV) F [] 1 aX.code (argTm [(.sl aa),(.fn 214 [])]) H (fun tm H=>aresults tabs.ty H tm Try.f213.results.toList fun v=>some (v,H)) (fun _ _ _=>none) (fun tm H=>aresults tabs.ty H tm Try.f213.results.toList fun v=>some (v,H)) = aX.twX F dV aa H:=by kernel_rfl
theorem aX.cs_ok (F:Nat):∀ p ∈ aX.cs F (au.tw F),∀ args H v H',p.2 args H = some (v,H')→Go.AE.T Try.prog p.1 args H v H':=by
 intro p hp
 simp only [aX.cs,List.mem_cons,List.not_mem_nil,or_false] at hp
 subst hp
 exact fun args H v H' h=>au.mk_T h
theorem aX.ok:codeOk aX.pn Try.f213.ntmps aX.tb aX.code = true:=by kernel_rfl
theorem aX.T {F:Nat} {aa:Sl} {H:Hp} {v:AV} {H':Hp} (h:aX.tw F aa H = some (v,H')):Go.AE.T Try.prog 213 [(.sl aa),(.fn 214 [])] H v H':=
 Go.AE.T.of (Y:=tabs) (C:=mkOrc (aX.cs F (au.tw F))) (PN:=aX.pn) (LH:=aX.lh F (au.tw F)) (F:=F) (TB:=aX.tb) (fn:=Try.f213) (code:=aX.code) mixed tabs_ok (mkOrc_ok (aX.cs_ok F)) Try.func213 (by kernel_rfl) (by kernel_rfl) aX.ok (Nat.le_of_ble_eq_true (by kernel_rfl)) (aX.loops F (au.tw F)) (Eq.trans (aX.eqX F (au.tw F) aa H) h)
theorem aX.mk_T {F:Nat} {args:List AV} {H:Hp} {v:AV} {H':Hp} (h:aX.mk (aX.tw F) args H = some (v,H')):Go.AE.T Try.prog 213 args H v H':=by
 unfold aX.mk at h
 split at h
 ·exact aX.T h
 ·cases h
noncomputable def aG.twX (F:Nat) (dW:Sl→Hp→OA) (aa:Sl) (H:Hp):OA:=(dW aa H).bind fun r2=>((r2.1).asB).bind fun b3=>some ((.bool (!b3)),r2.2)
noncomputable def aG.tw (F:Nat) (aa:Sl) (H:Hp):OA:=aG.twX F (aX.tw F) aa H
noncomputable def aG.code:Go.Code:=(Try.f201.body).getD .skip
noncomputable def aG.lh (F:Nat) (dW:Sl→Hp→OA) (p:Nat) (ks:List Nat) (n:Nat) (tm:Tm) (H:Hp):OA:=none
def aG.pn:Nat→List Nat:=fun i=>(([]:List (Nat×List Nat)).lookup i).getD []
def aG.tb:Nat→List (List Nat):=fun i=>(([]:List (Nat×List (List Nat))).lookup i).getD []
noncomputable def aG.mk (g:Sl→Hp→OA) (args:List AV) (H:Hp):OA:=match args with
 | [(.sl aa)]=>g aa H
 | _=>none
noncomputable def aG.cs (F:Nat) (dW:Sl→Hp→OA):List (FuncId×(List AV→Hp→OA)):=[(213,aX.mk dW)]
theorem aG.loops (F:Nat) (dW:Sl→Hp→OA):LoopsOk tabs (mkOrc (aG.cs F dW)) aG.pn (aG.lh F dW) F [] 1 aG.code (fun tm H=>aresults tabs.ty H tm Try.f201.results.toList fun v=>some (v,H)) (fun _ _ _=>none) (fun tm H=>aresults tabs.ty H tm Try.f201.results.toList fun v=>some (v,H)):=by
 exact loops_none (by kernel_rfl)
theorem aG.eqX (F:Nat) (dW:Sl→Hp→OA) (aa:Sl) (H:Hp):aCode tabs (mkOrc (aG.cs F dW)) aG.pn (aG.lh F dW) F [] 1 aG.code (argTm [(.sl aa)]) H (fun tm H=>aresults tabs.ty H tm Try.f201.results.toList fun v=>some (v,H)) (fun _ _ _=>none) (fun tm H=>aresults tabs.ty H tm Try.f201.results.toList fun v=>some (v,H)) = aG.twX F dW aa H:=by kernel_rfl
theorem aG.cs_ok (F:Nat):∀ p ∈ aG.cs F (aX.tw F),∀ args H v H',p.2 args H = some (v,H')→Go.AE.T Try.prog p.1 args H v H':=by
 intro p hp
 simp only [aG.cs,List.mem_cons,List.not_mem_nil,or_false] at hp
 subst hp
 exact fun args H v H' h=>aX.mk_T h
theorem aG.ok:codeOk aG.pn Try.f201.ntmps aG.tb aG.code = true:=by kernel_rfl
theorem aG.T {F:Nat} {aa:Sl} {H:Hp} {v:AV} {H':Hp} (h:aG.tw F aa H = some (v,H')):Go.AE.T Try.prog 201 [(.sl aa)] H v H':=
 Go.AE.T.of (Y:=tabs) (C:=mkOrc (aG.cs F (aX.tw F))) (PN:=aG.pn) (LH:=aG.lh F (aX.tw F)) (F:=F) (TB:=aG.tb) (fn:=Try.f201) (code:=aG.code) mixed tabs_ok (mkOrc_ok (aG.cs_ok F)) Try.func201 (by kernel_rfl) (by kernel_rfl) aG.ok (Nat.le_of_ble_eq_true (by kernel_rfl)) (aG.loops F (aX.tw F)) (Eq.trans (aG.eqX F (aX.tw F) aa H) h)
theorem aG.mk_T {F:Nat} {args:List AV} {H:Hp} {v:AV} {H':Hp} (h:aG.mk (aG.tw F) args H = some (v,H')):Go.AE.T Try.prog 201 args H v H':=by
 unfold aG.mk at h
 split at h
 ·exact aG.T h
 ·cases h
noncomputable def aI.twX (F:Nat) (cd:Int→Sl→Hp→OA) (cf:Int→Sl→Hp→OA) (aa:Int) (aj:Sl) (H:Hp):OA:=(Hp.new H [(.int .i64 aa),(.sl aj)]).bind fun H3=>(Hp.new H3 [.int .i64 0,.sl ⟨none,0,.ex 0⟩]).bind fun H4=>(Hp.ldI H4 .i64 H.length 0).bind fun n5=>(Hp.ldSl H4 H.length (0 + 1)).bind fun s6=>(cd n5 s6 H4).bind fun r7=>((r7.1).asAgg 2).bind fun l8=>(l8[0]?).bind fun v9=>((v9).asI .i64).bind fun n10=>(l8[1]?).bind fun v11=>((v11).asSl).bind fun s12=>(Hp.st r7.2 H.length 0 (.int .i64 n10)).bind fun H13=>(Hp.st H13 H.length (0 + 1) (.sl s12)).bind fun H14=>(Hp.ldI H14 .i64 H.length 0).bind fun n15=>(Hp.ldSl H14 H.length (0 + 1)).bind fun s16=>(cf n15 s16 H14).bind fun r17=>((r17.1).asB).bind fun b18=>(bif (!b18) then ((Hp.st r17.2 H3.length 0 (.int .i64 0)).bind fun H19=>(Hp.st H19 H3.length (0 + 1) (.sl (⟨none,0,.ex 0⟩:Sl))).bind fun H20=>(Hp.ldI H20 .i64 H3.length 0).bind fun n21=>(Hp.ldSl H20 H3.length (0 + 1)).bind fun s22=>some ((.tup [(.agg [(.int .i64 n21),(.sl s22)]),(.int .i64 3)]),H20)) else ((Hp.ldI r17.2 .i64 H.length 0).bind fun n23=>(Hp.ldSl r17.2 H.length (0 + 1)).bind fun s24=>(Hp.st r17.2 H3.length 0 (.int .i64 n23)).bind fun H25=>(Hp.st H25 H3.length (0 + 1) (.sl s24)).bind fun H26=>(Hp.ldI H26 .i64 H3.length 0).bind fun n27=>(Hp.ldSl H26 H3.length (0 + 1)).bind fun s28=>some ((.tup [(.agg [(.int .i64 n27),(.sl s28)]),(.int .i64 0)]),H26)))
noncomputable def aI.tw (F:Nat) (aa:Int) (aj:Sl) (H:Hp):OA:=aI.twX F (ae.tw F) (aC.tw F) aa aj H
noncomputable def aI.code:Go.Code:=(Try.f203.body).getD .skip
noncomputable def aI.lh (F:Nat) (cd:Int→Sl→Hp→OA) (cf:Int→Sl→Hp→OA) (p:Nat) (ks:List Nat) (n:Nat) (tm:Tm) (H:Hp):OA:=none
def aI.pn:Nat→List Nat:=fun i=>(([]:List (Nat×List Nat)).lookup i).getD []
def aI.tb:Nat→List (List Nat):=fun i=>(([]:List (Nat×List (List Nat))).lookup i).getD []
noncomputable def aI.mk (g:Int→Sl→Hp→OA) (args:List AV) (H:Hp):OA:=match args with
 | [(.agg [(.int .i64 aa),(.sl aj)])]=>g aa aj H
 | _=>none
noncomputable def aI.cs (F:Nat) (cd:Int→Sl→Hp→OA) (cf:Int→Sl→Hp→OA):List (FuncId×(List AV→Hp→OA)):=[(183,ae.mk cd),(215,aC.mk cf)]
theorem aI.loops (F:Nat) (cd:Int→Sl→Hp→OA) (cf:Int→Sl→Hp→OA):LoopsOk tabs (mkOrc (aI.cs F cd cf)) aI.pn (aI.lh F cd cf) F [] 1 aI.code (fun tm H=>aresults tabs.ty H tm Try.f203.results.toList fun v=>some (v,H)) (fun _ _ _=>none) (fun tm H=>aresults tabs.ty H tm Try.f203.results.toList fun v=>some (v,H)):=by
 exact loops_none (by kernel_rfl)
theorem aI.eqX (F:Nat) (cd:Int→Sl→Hp→OA) (cf:Int→Sl→Hp→OA) (aa:Int) (aj:Sl) (H:Hp):aCode tabs (mkOrc (aI.cs F cd cf)) aI.pn (aI.lh F cd cf) F [] 1 aI.code (argTm [(.agg [(.int .i64 aa),(.sl aj)])]) H (fun tm H=>aresults tabs.ty H tm Try.f203.results.toList fun v=>some (v,H)) (fun _ _ _=>none) (fun tm H=>aresults tabs.ty H tm Try.f203.results.toList fun v=>some (v,H)) = aI.twX F cd cf aa aj H:=by kernel_rfl
theorem aI.cs_ok (F:Nat):∀ p ∈ aI.cs F (ae.tw F) (aC.tw F),∀ args H v H',p.2 args H = some (v,H')→Go.AE.T Try.prog p.1 args H v H':=by
 intro p hp
 simp only [aI.cs,List.mem_cons,List.not_mem_nil,or_false] at hp
 rcases hp with rfl | rfl
 ·exact fun args H v H' h=>ae.mk_T h
 ·exact fun args H v H' h=>aC.mk_T h
theorem aI.ok:codeOk aI.pn Try.f203.ntmps aI.tb aI.code = true:=by kernel_rfl
theorem aI.T {F:Nat} {aa:Int} {aj:Sl} {H:Hp} {v:AV} {H':Hp} (h:aI.tw F aa aj H = some (v,H')):Go.AE.T Try.prog 203 [(.agg [(.int .i64 aa),(.sl aj)])] H v H':=
 Go.AE.T.of (Y:=tabs) (C:=mkOrc (aI.cs F (ae.tw F) (aC.tw F))) (PN:=aI.pn) (LH:=aI.lh F (ae.tw F) (aC.tw F)) (F:=F) (TB:=aI.tb) (fn:=Try.f203) (code:=aI.code) mixed tabs_ok (mkOrc_ok (aI.cs_ok F)) Try.func203 (by kernel_rfl) (by kernel_rfl) aI.ok (Nat.le_of_ble_eq_true (by kernel_rfl)) (aI.loops F (ae.tw F) (aC.tw F)) (Eq.trans (aI.eqX F (ae.tw F) (aC.tw F) aa aj H) h)
theorem aI.mk_T {F:Nat} {args:List AV} {H:Hp} {v:AV} {H':Hp} (h:aI.mk (aI.tw F) args H = some (v,H')):Go.AE.T Try.prog 203 args H v H':=by
 unfold aI.mk at h
 split at h
 ·exact aI.T h
 ·cases h
noncomputable def ad.j3 (F:Nat) (bo:Sl→Hp→OA) (bf:Int→Sl→Hp→OA) (bp:Int→Sl→Hp→OA) (eZ:Nat) (hS:Nat) (fV:Nat) (lQ:Nat) (H176:Hp):OA:=(Hp.ldI H176 .i64 fV lQ).bind fun n177=>(Hp.ldSl H176 fV (lQ + 1)).bind fun s178=>(bp n177 s178 H176).bind fun r179=>((r179.1).asTup 2).bind fun l180=>(l180[0]?).bind fun v181=>((v181).asAgg 2).bind fun l182=>(l182[0]?).bind fun v183=>((v183).asI .i64).bind fun n184=>(l182[1]?).bind fun v185=>((v185).asSl).bind fun s186=>(l180[1]?).bind fun v187=>((v187).asI .i64).bind fun n188=>(Hp.st r179.2 eZ hS (.int .i64 n184)).bind fun H189=>(Hp.st H189 eZ (hS + 1) (.sl s186)).bind fun H190=>(Hp.ldI H190 .i64 eZ hS).bind fun n191=>(Hp.ldSl H190 eZ (hS + 1)).bind fun s192=>some ((.tup [(.agg [(.int .i64 n191),(.sl s192)]),(.int .i64 n188)]),H190)
noncomputable def ad.j4 (F:Nat) (bo:Sl→Hp→OA) (bf:Int→Sl→Hp→OA) (bp:Int→Sl→Hp→OA) (C125_:Nat→Nat→Int→Nat→Nat→Sl→Int→Int→Hp→OA) (hT:Nat) (pP:Nat) (fr:Int) (hU:Nat) (pQ:Nat) (pR:Sl) (ft:Int) (fu:Int) (H284:Hp):OA:=C125_ hT pP fr hU pQ pR ft (IntKind.i64.wrap (fu + 1)) H284
noncomputable def ad.j5 (F:Nat) (bo:Sl→Hp→OA) (bf:Int→Sl→Hp→OA) (bp:Int→Sl→Hp→OA) (C125_:Nat→Nat→Int→Nat→Nat→Sl→Int→Int→Hp→OA) (hX:Nat) (pS:Nat) (fv:Int) (hY:Nat) (pT:Nat) (pU:Sl) (fw:Int) (fx:Int) (H258:Hp):OA:=ad.j4 F bo bf bp C125_ hX pS fv hY pT pU fw fx H258
noncomputable def ad.l8027 (F:Nat) (bo:Sl→Hp→OA) (bf:Int→Sl→Hp→OA) (bp:Int→Sl→Hp→OA) (C125_:Nat→Nat→Int→Nat→Nat→Sl→Int→Int→Hp→OA):Nat→Nat→Nat→Int→Nat→Nat→Sl→Int→Int→Nat→Nat→Sl→Int→Int→Hp→OA
 | 0,_,_,_,_,_,_,_,_,_,_,_,_,_,_=>none
 | pV + 1,bX,cJ,bJ,cg,cR,dd,cv,cA,cB,da,dC,cK,bY,H224=>(bif (decide (bY < cK)) then ((Sl.idx dC bY 1).bind fun p285=>(Hp.ldI H224 .i64 p285.1 p285.2).bind fun n286=>(Hp.ldSl H224 cg (cR + 1)).bind fun s287=>(Hp.ldI H224 .i64 cB da).bind fun n288=>(Sl.idx s287 (IntKind.i64.wrap ((IntKind.i64.wrap (n288 - bJ)) + bY)) 1).bind fun p289=>(Hp.ldI H224 .i64 p289.1 p289.2).bind fun n290=>(Sl.idx s287 (IntKind.i64.wrap ((IntKind.i64.wrap (n288 - bJ)) + bY)) 1).bind fun p291=>(Hp.st H224 p291.1 p291.2 (.int .i64 (IntKind.i64.wrap (n290 + n286)))).bind fun H292=>ad.l8027 F bo bf bp C125_ pV bX cJ bJ cg cR dd cv cA cB da dC cK (IntKind.i64.wrap (bY + 1)) H292) else (ad.j5 F bo bf bp C125_ bX cJ bJ cg cR dd cv cA H224))
termination_by structural n=>n
noncomputable def ad.l125 (F:Nat) (bo:Sl→Hp→OA) (bf:Int→Sl→Hp→OA) (bp:Int→Sl→Hp→OA) :Nat→Nat→Nat→Int→Nat→Nat→Sl→Int→Int→Hp→OA
 | 0,_,_,_,_,_,_,_,_,_=>none
 | ez + 1,cD,de,cE,cS,dx,dD,cL,cF,H56=>(bif (decide (cF < cL)) then ((Sl.idx dD cF 2).bind fun p193=>(Hp.ldI H56 .i64 p193.1 p193.2).bind fun n194=>(Hp.ldSl H56 p193.1 (p193.2 + 1)).bind fun s195=>(Hp.new H56 [.int .i64 0,.sl ⟨none,0,.ex 0⟩]).bind fun H196=>(Hp.st H196 H56.length 0 (.int .i64 n194)).bind fun H197=>(Hp.st H197 H56.length (0 + 1) (.sl s195)).bind fun H198=>(Hp.ldSl H198 H56.length 1).bind fun s199=>ad.l8027 F bo bf bp (ad.l125 F bo bf bp ez) F cD de cE cS dx dD cL cF H56.length 0 s199 (s199.n:Int) 0 H198) else (ad.j3 F bo bf bp cD de cS dx H56))
termination_by structural n=>n
noncomputable def ad.twX (F:Nat) (bo:Sl→Hp→OA) (bf:Int→Sl→Hp→OA) (bp:Int→Sl→Hp→OA) (aa:Int) (aj:Sl) (ac:Int) (bg:Sl) (H:Hp):OA:=(Hp.new H [(.int .i64 aa),(.sl aj)]).bind fun H5=>(Hp.new H5 [(.int .i64 ac),(.sl bg)]).bind fun H6=>(Hp.new H6 [.int .i64 0,.sl ⟨none,0,.ex 0⟩]).bind fun H7=>(Hp.ldI H7 .i64 H.length 0).bind fun n8=>(Hp.ldSl H7 H.length (0 + 1)).bind fun s9=>(Hp.ldI H7 .i64 H5.length 0).bind fun n10=>(Hp.ldSl H7 H5.length (0 + 1)).bind fun s11=>(Hp.new H7 [(.int .i64 n8),(.sl s9),(.int .i64 n10),(.sl s11)]).bind fun H12=>(bo (⟨some (H7.length,0),2,.ex 2⟩:Sl) H12).bind fun r13=>((r13.1).asB).bind fun b14=>(bif (!b14) then ((Hp.st r13.2 H6.length 0 (.int .i64 0)).bind fun H15=>(Hp.st H15 H6.length (0 + 1) (.sl (⟨none,0,.ex 0⟩:Sl))).bind fun H16=>(Hp.ldI H16 .i64 H6.length 0).bind fun n17=>(Hp.ldSl H16 H6.length (0 + 1)).bind fun s18=>some ((.tup [(.agg [(.int .i64 n17),(.sl s18)]),(.int .i64 1)]),H16)) else ((Hp.ldI r13.2 .i64 H.length 0).bind fun n19=>(Hp.ldI r13.2 .i64 H5.length 0).bind fun n20=>(Hp.ldI r13.2 .i64 H.length 0).bind fun n21=>(Hp.ldSl r13.2 H.length (0 + 1)).bind fun s22=>(bf n21 s22 r13.2).bind fun r23=>((r23.1).asI .i64).bind fun n24=>(if Cons r13.2 r23.2 then ((Hp.ldI r23.2 .i64 H5.length 0).bind fun n25=>(Hp.ldSl r23.2 H5.length (0 + 1)).bind fun s26=>(bf n25 s26 r23.2).bind fun r27=>((r27.1).asI .i64).bind fun n28=>(if Cons r23.2 r27.2 then ((Hp.mk r27.2 [.int .i64 0] 8 (IntKind.i64.wrap ((IntKind.i64.wrap ((if (if n20 < n19 then n20 else n19) > (if n28 > n24 then n28 else n24) then (if n20 < n19 then n20 else n19) else (if n28 > n24 then n28 else n24)) - (if n20 < n19 then n20 else n19))) + 1)) (IntKind.i64.wrap ((IntKind.i64.wrap ((if (if n20 < n19 then n20 else n19) > (if n28 > n24 then n28 else n24) then (if n20 < n19 then n20 else n19) else (if n28 > n24 then n28 else n24)) - (if n20 < n19 then n20 else n19))) + 1))).bind fun m29=>(Hp.new m29.2 [.int .i64 0,.sl ⟨none,0,.ex 0⟩]).bind fun H30=>(Hp.st H30 m29.2.length 0 (.int .i64 (if n20 < n19 then n20 else n19))).bind fun H31=>(Hp.st H31 m29.2.length (0 + 1) (.sl m29.1)).bind fun H32=>(Hp.ldI H32 .i64 H.length 0).bind fun n33=>(Hp.ldSl H32 H.length (0 + 1)).bind fun s34=>(Hp.ldI H32 .i64 H5.length 0).bind fun n35=>(Hp.ldSl H32 H5.length (0 + 1)).bind fun s36=>(Hp.new H32 [(.int .i64 n33),(.sl s34),(.int .i64 n35),(.sl s36)]).bind fun H37=>ad.l125 F bo bf bp F H6.length 0 (if n20 < n19 then n20 else n19) m29.2.length 0 (⟨some (H32.length,0),2,.ex 2⟩:Sl) ((⟨some (H32.length,0),2,.ex 2⟩:Sl).n:Int) 0 H37) else none)) else none)))
noncomputable def ad.tw (F:Nat) (aa:Int) (aj:Sl) (ac:Int) (bg:Sl) (H:Hp):OA:=ad.twX F (aG.tw F) (aA.tw F) (aI.tw F) aa aj ac bg H
noncomputable def ad.code:Go.Code:=(Try.f182.body).getD .skip
noncomputable def ad.lh125 (F:Nat) (bo:Sl→Hp→OA) (bf:Int→Sl→Hp→OA) (bp:Int→Sl→Hp→OA) (ks:List Nat) (n:Nat) (tm:Tm) (H:Hp):OA:=match ks,tm 4,tm 6,tm 7,tm 37,tm 38,tm 39 with
 | [],(.ptr cD de),(.int .i64 cE),(.ptr cS dx),(.sl dD),(.int .i64 cL),(.int .i64 cF)=>ad.l125 F bo bf bp n cD de cE cS dx dD cL cF H
 | _,_,_,_,_,_,_=>none
theorem ad.lh125_inv {F:Nat} {bo:Sl→Hp→OA} {bf:Int→Sl→Hp→OA} {bp:Int→Sl→Hp→OA} {ks:List Nat} {n:Nat} {tm:Tm} {H:Hp} {r:AV×Hp} (h:ad.lh125 F bo bf bp ks n tm H = some r):∃ cD:Nat,∃ de:Nat,∃ cE:Int,∃ cS:Nat,∃ dx:Nat,∃ dD:Sl,∃ cL:Int,∃ cF:Int,ks = []∧tm 4 = (.ptr cD de)∧tm 6 = (.int .i64 cE)∧tm 7 = (.ptr cS dx)∧tm 37 = (.sl dD)∧tm 38 = (.int .i64 cL)∧tm 39 = (.int .i64 cF)∧ad.l125 F bo bf bp n cD de cE cS dx dD cL cF H = some r:=by
 unfold ad.lh125 at h
 split at h
 ·exact ⟨_,_,_,_,_,_,_,_,rfl,by assumption,by assumption,by assumption,by assumption,by assumption,by assumption,h⟩
 ·cases h
noncomputable def ad.lh8027 (F:Nat) (bo:Sl→Hp→OA) (bf:Int→Sl→Hp→OA) (bp:Int→Sl→Hp→OA) (ks:List Nat) (n:Nat) (tm:Tm) (H:Hp):OA:=match ks,tm 4,tm 6,tm 7,tm 9,tm 37,tm 38,tm 39,tm 44,tm 45,tm 46 with
 | [ez],(.ptr bX cJ),(.int .i64 bJ),(.ptr cg cR),(.ptr cB da),(.sl dd),(.int .i64 cv),(.int .i64 cA),(.sl dC),(.int .i64 cK),(.int .i64 bY)=>ad.l8027 F bo bf bp (ad.l125 F bo bf bp ez) n bX cJ bJ cg cR dd cv cA cB da dC cK bY H
 | _,_,_,_,_,_,_,_,_,_,_=>none
theorem ad.lh8027_inv {F:Nat} {bo:Sl→Hp→OA} {bf:Int→Sl→Hp→OA} {bp:Int→Sl→Hp→OA} {ks:List Nat} {n:Nat} {tm:Tm} {H:Hp} {r:AV×Hp} (h:ad.lh8027 F bo bf bp ks n tm H = some r):∃ ez:Nat,∃ bX:Nat,∃ cJ:Nat,∃ bJ:Int,∃ cg:Nat,∃ cR:Nat,∃ cB:Nat,∃ da:Nat,∃ dd:Sl,∃ cv:Int,∃ cA:Int,∃ dC:Sl,∃ cK:Int,∃ bY:Int,ks = [ez]∧tm 4 = (.ptr bX cJ)∧tm 6 = (.int .i64 bJ)∧tm 7 = (.ptr cg cR)∧tm 9 = (.ptr cB da)∧tm 37 = (.sl dd)∧tm 38 = (.int .i64 cv)∧tm 39 = (.int .i64 cA)∧tm 44 = (.sl dC)∧tm 45 = (.int .i64 cK)∧tm 46 = (.int .i64 bY)∧ad.l8027 F bo bf bp (ad.l125 F bo bf bp ez) n bX cJ bJ cg cR dd cv cA cB da dC cK bY H = some r:=by
 unfold ad.lh8027 at h
 split at h
 ·exact ⟨_,_,_,_,_,_,_,_,_,_,_,_,_,_,rfl,by assumption,by assumption,by assumption,by assumption,by assumption,by assumption,by assumption,by assumption,by assumption,by assumption,h⟩
 ·cases h
noncomputable def ad.lh (F:Nat) (bo:Sl→Hp→OA) (bf:Int→Sl→Hp→OA) (bp:Int→Sl→Hp→OA) (p:Nat) (ks:List Nat) (n:Nat) (tm:Tm) (H:Hp):OA:=bif p.beq 8027 then ad.lh8027 F bo bf bp ks n tm H else (bif p.beq 125 then ad.lh125 F bo bf bp ks n tm H else (none))
def ad.pn:Nat→List Nat:=fun i=>(([(4,[13])]:List (Nat×List Nat)).lookup i).getD []
def ad.tb:Nat→List (List Nat):=fun i=>(([(4,[[],[],[1],[],[1,2,3],[],[1,2,3,4,5],[],[1,2,3,4,5,6,7],[1,2,3,4,5,6,7,8],[1,2,3,4,5,6,7,8,9],[0,1,2,3,4,5,6,7,8,9,10],[],[0,1,2,3,4,5,6,7,8,9,10,11,12]])]:List (Nat×List (List Nat))).lookup i).getD []
noncomputable def ad.mk (g:Int→Sl→Int→Sl→Hp→OA) (args:List AV) (H:Hp):OA:=match args with
 | [(.agg [(.int .i64 aa),(.sl aj)]),(.agg [(.int .i64 ac),(.sl bg)])]=>g aa aj ac bg H
 | _=>none
noncomputable def ad.cs (F:Nat) (bo:Sl→Hp→OA) (bf:Int→Sl→Hp→OA) (bp:Int→Sl→Hp→OA):List (FuncId×(List AV→Hp→OA)):=[(201,aG.mk bo),(202,aA.mk bf),(203,aI.mk bp)]
theorem ad.loops (F:Nat) (bo:Sl→Hp→OA) (bf:Int→Sl→Hp→OA) (bp:Int→Sl→Hp→OA):LoopsOk tabs (mkOrc (ad.cs F bo bf bp)) ad.pn (ad.lh F bo bf bp) F [] 1 ad.code (fun tm H=>aresults tabs.ty H tm Try.f182.results.toList fun v=>some (v,H)) (fun _ _ _=>none) (fun tm H=>aresults tabs.ty H tm Try.f182.results.toList fun v=>some (v,H)):=by
 refine LoopsOk.seq ?_ ?_
 ·exact loops_none (by kernel_rfl)
 ·refine LoopsOk.seq ?_ ?_
  ·exact loops_none (by kernel_rfl)
  ·refine LoopsOk.seq ?_ ?_
   ·exact loops_none (by kernel_rfl)
   ·refine LoopsOk.seq ?_ ?_
    ·exact loops_none (by kernel_rfl)
    ·refine LoopsOk.seq ?_ ?_
     ·refine LoopsOk.seq ?_ ?_
      ·exact loops_none (by kernel_rfl)
      ·refine LoopsOk.block ?_
       refine LoopsOk.loop (fun tm H=>?_) (fun k125 tm H r h0=>?_) (fun k125=>?_)
       ·refine none_of fun r h0=>?_
        obtain ⟨cD,de,cE,cS,dx,dD,cL,cF,hks,e4,e6,e7,e37,e38,e39,h⟩:=ad.lh125_inv (show ad.lh125 F bo bf bp [] 0 tm H = some r from h0)
        cases h
       ·obtain ⟨cD,de,cE,cS,dx,dD,cL,cF,hks,e4,e6,e7,e37,e38,e39,h⟩:=ad.lh125_inv (show ad.lh125 F bo bf bp [] (k125 + 1) tm H = some r from h0)
        have q0:(Tm.put tm 4 (.ptr cD de)) = tm:=by exact Tm.put_same e4
        have q1:(Tm.put (Tm.put tm 4 (.ptr cD de)) 6 (.int .i64 cE)) = tm:=by rw [q0]; exact Tm.put_same e6
        have q2:(Tm.put (Tm.put (Tm.put tm 4 (.ptr cD de)) 6 (.int .i64 cE)) 7 (.ptr cS dx)) = tm:=by rw [q1]; exact Tm.put_same e7
        have q3:(Tm.put (Tm.put (Tm.put (Tm.put tm 4 (.ptr cD de)) 6 (.int .i64 cE)) 7 (.ptr cS dx)) 37 (.sl dD)) = tm:=by rw [q2]; exact Tm.put_same e37
        have q4:(Tm.put (Tm.put (Tm.put (Tm.put (Tm.put tm 4 (.ptr cD de)) 6 (.int .i64 cE)) 7 (.ptr cS dx)) 37 (.sl dD)) 38 (.int .i64 cL)) = tm:=by rw [q3]; exact Tm.put_same e38
        have q5:(Tm.put (Tm.put (Tm.put (Tm.put (Tm.put (Tm.put tm 4 (.ptr cD de)) 6 (.int .i64 cE)) 7 (.ptr cS dx)) 37 (.sl dD)) 38 (.int .i64 cL)) 39 (.int .i64 cF)) = tm:=by rw [q4]; exact Tm.put_same e39
        rw [← q5]
        exact Eq.trans (by kernel_rfl) h
       ·refine LoopsOk.seq ?_ ?_
        ·exact loops_none (by kernel_rfl)
        ·refine LoopsOk.seq ?_ ?_
         ·exact loops_none (by kernel_rfl)
         ·refine LoopsOk.seq ?_ ?_
          ·refine LoopsOk.block ?_
           refine LoopsOk.seq ?_ ?_
           ·exact loops_none (by kernel_rfl)
           ·refine LoopsOk.seq ?_ ?_
            ·exact loops_none (by kernel_rfl)
            ·refine LoopsOk.block ?_
             refine LoopsOk.loop (fun tm H=>?_) (fun k8027 tm H r h0=>?_) (fun k8027=>?_)
             ·refine none_of fun r h0=>?_
              obtain ⟨ez,bX,cJ,bJ,cg,cR,cB,da,dd,cv,cA,dC,cK,bY,hks,e4,e6,e7,e9,e37,e38,e39,e44,e45,e46,h⟩:=ad.lh8027_inv (show ad.lh8027 F bo bf bp [k125] 0 tm H = some r from h0)
              cases h
             ·obtain ⟨ez,bX,cJ,bJ,cg,cR,cB,da,dd,cv,cA,dC,cK,bY,hks,e4,e6,e7,e9,e37,e38,e39,e44,e45,e46,h⟩:=ad.lh8027_inv (show ad.lh8027 F bo bf bp [k125] (k8027 + 1) tm H = some r from h0)
              obtain rfl:ez = k125:=by simpa [eq_comm] using hks
              have q0:(Tm.put tm 4 (.ptr bX cJ)) = tm:=by exact Tm.put_same e4
              have q1:(Tm.put (Tm.put tm 4 (.ptr bX cJ)) 6 (.int .i64 bJ)) = tm:=by rw [q0]; exact Tm.put_same e6
              have q2:(Tm.put (Tm.put (Tm.put tm 4 (.ptr bX cJ)) 6 (.int .i64 bJ)) 7 (.ptr cg cR)) = tm:=by rw [q1]; exact Tm.put_same e7
              have q3:(Tm.put (Tm.put (Tm.put (Tm.put tm 4 (.ptr bX cJ)) 6 (.int .i64 bJ)) 7 (.ptr cg cR)) 9 (.ptr cB da)) = tm:=by rw [q2]; exact Tm.put_same e9
              have q4:(Tm.put (Tm.put (Tm.put (Tm.put (Tm.put tm 4 (.ptr bX cJ)) 6 (.int .i64 bJ)) 7 (.ptr cg cR)) 9 (.ptr cB da)) 37 (.sl dd)) = tm:=by rw [q3]; exact Tm.put_same e37
              have q5:(Tm.put (Tm.put (Tm.put (Tm.put (Tm.put (Tm.put tm 4 (.ptr bX cJ)) 6 (.int .i64 bJ)) 7 (.ptr cg cR)) 9 (.ptr cB da)) 37 (.sl dd)) 38 (.int .i64 cv)) = tm:=by rw [q4]; exact Tm.put_same e38
              have q6:(Tm.put (Tm.put (Tm.put (Tm.put (Tm.put (Tm.put (Tm.put tm 4 (.ptr bX cJ)) 6 (.int .i64 bJ)) 7 (.ptr cg cR)) 9 (.ptr cB da)) 37 (.sl dd)) 38 (.int .i64 cv)) 39 (.int .i64 cA)) = tm:=by rw [q5]; exact Tm.put_same e39
              have q7:(Tm.put (Tm.put (Tm.put (Tm.put (Tm.put (Tm.put (Tm.put (Tm.put tm 4 (.ptr bX cJ)) 6 (.int .i64 bJ)) 7 (.ptr cg cR)) 9 (.ptr cB da)) 37 (.sl dd)) 38 (.int .i64 cv)) 39 (.int .i64 cA)) 44 (.sl dC)) = tm:=by rw [q6]; exact Tm.put_same e44
              have q8:(Tm.put (Tm.put (Tm.put (Tm.put (Tm.put (Tm.put (Tm.put (Tm.put (Tm.put tm 4 (.ptr bX cJ)) 6 (.int .i64 bJ)) 7 (.ptr cg cR)) 9 (.ptr cB da)) 37 (.sl dd)) 38 (.int .i64 cv)) 39 (.int .i64 cA)) 44 (.sl dC)) 45 (.int .i64 cK)) = tm:=by rw [q7]; exact Tm.put_same e45
              have q9:(Tm.put (Tm.put (Tm.put (Tm.put (Tm.put (Tm.put (Tm.put (Tm.put (Tm.put (Tm.put tm 4 (.ptr bX cJ)) 6 (.int .i64 bJ)) 7 (.ptr cg cR)) 9 (.ptr cB da)) 37 (.sl dd)) 38 (.int .i64 cv)) 39 (.int .i64 cA)) 44 (.sl dC)) 45 (.int .i64 cK)) 46 (.int .i64 bY)) = tm:=by rw [q8]; exact Tm.put_same e46
              rw [← q9]
              exact Eq.trans (by kernel_rfl) h
             ·exact loops_none (by kernel_rfl)
          ·exact loops_none (by kernel_rfl)
     ·exact loops_none (by kernel_rfl)
theorem ad.eqX (F:Nat) (bo:Sl→Hp→OA) (bf:Int→Sl→Hp→OA) (bp:Int→Sl→Hp→OA) (aa:Int) (aj:Sl) (ac:Int) (bg:Sl) (H:Hp):aCode tabs (mkOrc (ad.cs F bo bf bp)) ad.pn (ad.lh F bo bf bp) F [] 1 ad.code (argTm [(.agg [(.int .i64 aa),(.sl aj)]),(.agg [(.int .i64 ac),(.sl bg)])]) H (fun tm H=>aresults tabs.ty H tm Try.f182.results.toList fun v=>some (v,H)) (fun _ _ _=>none) (fun tm H=>aresults tabs.ty H tm Try.f182.results.toList fun v=>some (v,H)) = ad.twX F bo bf bp aa aj ac bg H:=by kernel_rfl
theorem ad.cs_ok (F:Nat):∀ p ∈ ad.cs F (aG.tw F) (aA.tw F) (aI.tw F),∀ args H v H',p.2 args H = some (v,H')→Go.AE.T Try.prog p.1 args H v H':=by
 intro p hp
 simp only [ad.cs,List.mem_cons,List.not_mem_nil,or_false] at hp
 rcases hp with rfl | rfl | rfl
 ·exact fun args H v H' h=>aG.mk_T h
 ·exact fun args H v H' h=>aA.mk_T h
 ·exact fun args H v H' h=>aI.mk_T h
theorem ad.ok:codeOk ad.pn Try.f182.ntmps ad.tb ad.code = true:=by kernel_rfl
theorem ad.T {F:Nat} {aa:Int} {aj:Sl} {ac:Int} {bg:Sl} {H:Hp} {v:AV} {H':Hp} (h:ad.tw F aa aj ac bg H = some (v,H')):Go.AE.T Try.prog 182 [(.agg [(.int .i64 aa),(.sl aj)]),(.agg [(.int .i64 ac),(.sl bg)])] H v H':=
 Go.AE.T.of (Y:=tabs) (C:=mkOrc (ad.cs F (aG.tw F) (aA.tw F) (aI.tw F))) (PN:=ad.pn) (LH:=ad.lh F (aG.tw F) (aA.tw F) (aI.tw F)) (F:=F) (TB:=ad.tb) (fn:=Try.f182) (code:=ad.code) mixed tabs_ok (mkOrc_ok (ad.cs_ok F)) Try.func182 (by kernel_rfl) (by kernel_rfl) ad.ok (Nat.le_of_ble_eq_true (by kernel_rfl)) (ad.loops F (aG.tw F) (aA.tw F) (aI.tw F)) (Eq.trans (ad.eqX F (aG.tw F) (aA.tw F) (aI.tw F) aa aj ac bg H) h)
theorem ad.mk_T {F:Nat} {args:List AV} {H:Hp} {v:AV} {H':Hp} (h:ad.mk (ad.tw F) args H = some (v,H')):Go.AE.T Try.prog 182 args H v H':=by
 unfold ad.mk at h
 split at h
 ·exact ad.T h
 ·cases h
noncomputable def aF.twX (F:Nat) (dX:Int→Sl→Int→Sl→Hp→OA) (aa:Int) (aj:Sl) (ac:Int) (bg:Sl) (H:Hp):OA:=(Hp.new H [(.int .i64 aa),(.sl aj)]).bind fun H5=>(Hp.new H5 [(.int .i64 ac),(.sl bg)]).bind fun H6=>(Hp.new H6 [.int .i64 0,.sl ⟨none,0,.ex 0⟩]).bind fun H7=>(Hp.ldI H7 .i64 H.length 0).bind fun n8=>(Hp.ldSl H7 H.length (0 + 1)).bind fun s9=>(Hp.ldI H7 .i64 H5.length 0).bind fun n10=>(Hp.ldSl H7 H5.length (0 + 1)).bind fun s11=>(dX n8 s9 n10 s11 H7).bind fun r12=>((r12.1).asTup 2).bind fun l13=>(l13[0]?).bind fun v14=>((v14).asAgg 2).bind fun l15=>(l15[0]?).bind fun v16=>((v16).asI .i64).bind fun n17=>(l15[1]?).bind fun v18=>((v18).asSl).bind fun s19=>(l13[1]?).bind fun v20=>((v20).asI .i64).bind fun n21=>(Hp.new r12.2 [.int .i64 0,.sl ⟨none,0,.ex 0⟩]).bind fun H22=>(Hp.st H22 r12.2.length 0 (.int .i64 n17)).bind fun H23=>(Hp.st H23 r12.2.length (0 + 1) (.sl s19)).bind fun H24=>(Hp.ldI H24 .i64 r12.2.length 0).bind fun n25=>(Hp.ldSl H24 r12.2.length (0 + 1)).bind fun s26=>(Hp.st H24 H6.length 0 (.int .i64 n25)).bind fun H27=>(Hp.st H27 H6.length (0 + 1) (.sl s26)).bind fun H28=>(Hp.ldI H28 .i64 H6.length 0).bind fun n29=>(Hp.ldSl H28 H6.length (0 + 1)).bind fun s30=>some ((.agg [(.int .i64 n29),(.sl s30)]),H28)
noncomputable def aF.tw (F:Nat) (aa:Int) (aj:Sl) (ac:Int) (bg:Sl) (H:Hp):OA:=aF.twX F (ad.tw F) aa aj ac bg H
noncomputable def aF.code:Go.Code:=(Try.f144.body).getD .skip
noncomputable def aF.lh (F:Nat) (dX:Int→Sl→Int→Sl→Hp→OA) (p:Nat) (ks:List Nat) (n:Nat) (tm:Tm) (H:Hp):OA:=none
def aF.pn:Nat→List Nat:=fun i=>(([]:List (Nat×List Nat)).lookup i).getD []
def aF.tb:Nat→List (List Nat):=fun i=>(([]:List (Nat×List (List Nat))).lookup i).getD []
noncomputable def aF.mk (g:Int→Sl→Int→Sl→Hp→OA) (args:List AV) (H:Hp):OA:=match args with
 | [(.agg [(.int .i64 aa),(.sl aj)]),(.agg [(.int .i64 ac),(.sl bg)])]=>g aa aj ac bg H
 | _=>none
noncomputable def aF.cs (F:Nat) (dX:Int→Sl→Int→Sl→Hp→OA):List (FuncId×(List AV→Hp→OA)):=[(182,ad.mk dX)]
theorem aF.loops (F:Nat) (dX:Int→Sl→Int→Sl→Hp→OA):LoopsOk tabs (mkOrc (aF.cs F dX)) aF.pn (aF.lh F dX) F [] 1 aF.code (fun tm H=>aresults tabs.ty H tm Try.f144.results.toList fun v=>some (v,H)) (fun _ _ _=>none) (fun tm H=>aresults tabs.ty H tm Try.f144.results.toList fun v=>some (v,H)):=by
 exact loops_none (by kernel_rfl)
theorem aF.eqX (F:Nat) (dX:Int→Sl→Int→Sl→Hp→OA) (aa:Int) (aj:Sl) (ac:Int) (bg:Sl) (H:Hp):aCode tabs (mkOrc (aF.cs F dX)) aF.pn (aF.lh F dX) F [] 1 aF.code (argTm [(.agg [(.int .i64 aa),(.sl aj)]),(.agg [(.int .i64 ac),(.sl bg)])]) H (fun tm H=>aresults tabs.ty H tm Try.f144.results.toList fun v=>some (v,H)) (fun _ _ _=>none) (fun tm H=>aresults tabs.ty H tm Try.f144.results.toList fun v=>some (v,H)) = aF.twX F dX aa aj ac bg H:=by kernel_rfl
theorem aF.cs_ok (F:Nat):∀ p ∈ aF.cs F (ad.tw F),∀ args H v H',p.2 args H = some (v,H')→Go.AE.T Try.prog p.1 args H v H':=by
 intro p hp
 simp only [aF.cs,List.mem_cons,List.not_mem_nil,or_false] at hp
 subst hp
 exact fun args H v H' h=>ad.mk_T h
theorem aF.ok:codeOk aF.pn Try.f144.ntmps aF.tb aF.code = true:=by kernel_rfl
theorem aF.T {F:Nat} {aa:Int} {aj:Sl} {ac:Int} {bg:Sl} {H:Hp} {v:AV} {H':Hp} (h:aF.tw F aa aj ac bg H = some (v,H')):Go.AE.T Try.prog 144 [(.agg [(.int .i64 aa),(.sl aj)]),(.agg [(.int .i64 ac),(.sl bg)])] H v H':=
 Go.AE.T.of (Y:=tabs) (C:=mkOrc (aF.cs F (ad.tw F))) (PN:=aF.pn) (LH:=aF.lh F (ad.tw F)) (F:=F) (TB:=aF.tb) (fn:=Try.f144) (code:=aF.code) mixed tabs_ok (mkOrc_ok (aF.cs_ok F)) Try.func144 (by kernel_rfl) (by kernel_rfl) aF.ok (Nat.le_of_ble_eq_true (by kernel_rfl)) (aF.loops F (ad.tw F)) (Eq.trans (aF.eqX F (ad.tw F) aa aj ac bg H) h)
theorem aF.mk_T {F:Nat} {args:List AV} {H:Hp} {v:AV} {H':Hp} (h:aF.mk (aF.tw F) args H = some (v,H')):Go.AE.T Try.prog 144 args H v H':=by
 unfold aF.mk at h
 split at h
 ·exact aF.T h
 ·cases h
noncomputable def aH.twX (F:Nat) (aa:Int) (H:Hp):OA:=(bif (decide (aa < 0)) then (some ((.int .i64 (-1)),H)) else (some ((.int .i64 1),H)))
noncomputable def aH.tw (F:Nat) (aa:Int) (H:Hp):OA:=aH.twX F aa H
noncomputable def aH.code:Go.Code:=(Try.f146.body).getD .skip
noncomputable def aH.lh (F:Nat) (p:Nat) (ks:List Nat) (n:Nat) (tm:Tm) (H:Hp):OA:=none
def aH.pn:Nat→List Nat:=fun i=>(([]:List (Nat×List Nat)).lookup i).getD []
def aH.tb:Nat→List (List Nat):=fun i=>(([]:List (Nat×List (List Nat))).lookup i).getD []
noncomputable def aH.mk (g:Int→Hp→OA) (args:List AV) (H:Hp):OA:=match args with
 | [(.int .i64 aa)]=>g aa H
 | _=>none
noncomputable def aH.cs (F:Nat):List (FuncId×(List AV→Hp→OA)):=[]
theorem aH.loops (F:Nat):LoopsOk tabs (mkOrc (aH.cs F)) aH.pn (aH.lh F) F [] 1 aH.code (fun tm H=>aresults tabs.ty H tm Try.f146.results.toList fun v=>some (v,H)) (fun _ _ _=>none) (fun tm H=>aresults tabs.ty H tm Try.f146.results.toList fun v=>some (v,H)):=by
 exact loops_none (by kernel_rfl)
theorem aH.eqX (F:Nat) (aa:Int) (H:Hp):aCode tabs (mkOrc (aH.cs F)) aH.pn (aH.lh F) F [] 1 aH.code (argTm [(.int .i64 aa)]) H (fun tm H=>aresults tabs.ty H tm Try.f146.results.toList fun v=>some (v,H)) (fun _ _ _=>none) (fun tm H=>aresults tabs.ty H tm Try.f146.results.toList fun v=>some (v,H)) = aH.twX F aa H:=by kernel_rfl
theorem aH.cs_ok (F:Nat):∀ p ∈ aH.cs F,∀ args H v H',p.2 args H = some (v,H')→Go.AE.T Try.prog p.1 args H v H':=by
 intro p hp
 exact absurd (show p ∈ [] from hp) List.not_mem_nil
theorem aH.ok:codeOk aH.pn Try.f146.ntmps aH.tb aH.code = true:=by kernel_rfl
theorem aH.T {F:Nat} {aa:Int} {H:Hp} {v:AV} {H':Hp} (h:aH.tw F aa H = some (v,H')):Go.AE.T Try.prog 146 [(.int .i64 aa)] H v H':=
 Go.AE.T.of (Y:=tabs) (C:=mkOrc (aH.cs F)) (PN:=aH.pn) (LH:=aH.lh F) (F:=F) (TB:=aH.tb) (fn:=Try.f146) (code:=aH.code) mixed tabs_ok (mkOrc_ok (aH.cs_ok F)) Try.func146 (by kernel_rfl) (by kernel_rfl) aH.ok (Nat.le_of_ble_eq_true (by kernel_rfl)) (aH.loops F) (Eq.trans (aH.eqX F aa H) h)
theorem aH.mk_T {F:Nat} {args:List AV} {H:Hp} {v:AV} {H':Hp} (h:aH.mk (aH.tw F) args H = some (v,H')):Go.AE.T Try.prog 146 args H v H':=by
 unfold aH.mk at h
 split at h
 ·exact aH.T h
 ·cases h
noncomputable def ai.j4 (F:Nat) (bE:Int→Int→Hp→OA) (bF:Int→Sl→Int→Sl→Hp→OA) (bG:Int→Hp→OA) (C61_:Int→Nat→Nat→Nat→Nat→Int→Sl→Int→Int→Hp→OA) (fy:Int) (hZ:Nat) (pW:Nat) (h_:Nat) (pX:Nat) (fz:Int) (fA:Int) (pY:Sl) (fB:Int) (fC:Int) (H139:Hp):OA:=(bG fA H139).bind fun r140=>((r140.1).asI .i64).bind fun n141=>C61_ fy hZ pW h_ pX (IntKind.i64.wrap (fz + n141)) pY fB (IntKind.i64.wrap (fC + 1)) r140.2
noncomputable def ai.j5 (F:Nat) (bE:Int→Int→Hp→OA) (bF:Int→Sl→Int→Sl→Hp→OA) (bG:Int→Hp→OA) (C61_:Int→Nat→Nat→Nat→Nat→Int→Sl→Int→Int→Hp→OA) (fD:Int) (ia:Nat) (pZ:Nat) (ib:Nat) (p_:Nat) (fE:Int) (fF:Int) (qa:Sl) (fG:Int) (fH:Int) (H189:Hp):OA:=(bG fF H189).bind fun r190=>((r190.1).asI .i64).bind fun n191=>C61_ fD ia pZ ib p_ (IntKind.i64.wrap (fE + n191)) qa fG (IntKind.i64.wrap (fH + 1)) r190.2
noncomputable def ai.j6 (F:Nat) (bE:Int→Int→Hp→OA) (bF:Int→Sl→Int→Sl→Hp→OA) (bG:Int→Hp→OA) (C61_:Int→Nat→Nat→Nat→Nat→Int→Sl→Int→Int→Hp→OA) (fI:Int) (ic:Nat) (qb:Nat) (ie:Nat) (qc:Nat) (fJ:Int) (fK:Int) (qd:Sl) (fL:Int) (fM:Int) (H173:Hp):OA:=ai.j5 F bE bF bG C61_ fI ic qb ie qc fJ fK qd fL fM H173
noncomputable def ai.l61 (F:Nat) (bE:Int→Int→Hp→OA) (bF:Int→Sl→Int→Sl→Hp→OA) (bG:Int→Hp→OA) :Nat→Int→Nat→Nat→Nat→Nat→Int→Sl→Int→Int→Hp→OA
 | 0,_,_,_,_,_,_,_,_,_,_=>none
 | fp + 1,bK,bs,cG,bL,bQ,bM,dj,ch,bZ,H15=>(bif (decide (bZ < ch)) then ((Sl.idx dj bZ 1).bind fun p107=>(Hp.ldI H15 .i64 p107.1 p107.2).bind fun n108=>(bif (n108 == bK) then ((Hp.ldI H15 .i64 bL bQ).bind fun n109=>(Hp.ldSl H15 bL (bQ + 1)).bind fun s110=>(bE 1 bM H15).bind fun r111=>((r111.1).asAgg 2).bind fun l112=>(l112[0]?).bind fun v113=>((v113).asI .i64).bind fun n114=>(l112[1]?).bind fun v115=>((v115).asSl).bind fun s116=>(if Cons H15 r111.2 then ((bF n109 s110 n114 s116 r111.2).bind fun r117=>((r117.1).asAgg 2).bind fun l118=>(l118[0]?).bind fun v119=>((v119).asI .i64).bind fun n120=>(l118[1]?).bind fun v121=>((v121).asSl).bind fun s122=>(Hp.st r117.2 bL bQ (.int .i64 n120)).bind fun H123=>(Hp.st H123 bL (bQ + 1) (.sl s122)).bind fun H124=>ai.j4 F bE bF bG (ai.l61 F bE bF bG fp) bK bs cG bL bQ bM n108 dj ch bZ H124) else none)) else ((bif (n108 == (IntKind.i64.wrap (0 - bK))) then ((Hp.ldI H15 .i64 bL bQ).bind fun n142=>(Hp.ldSl H15 bL (bQ + 1)).bind fun s143=>(bE (-1) (IntKind.i64.wrap (bM - 1)) H15).bind fun r144=>((r144.1).asAgg 2).bind fun l145=>(l145[0]?).bind fun v146=>((v146).asI .i64).bind fun n147=>(l145[1]?).bind fun v148=>((v148).asSl).bind fun s149=>(if Cons H15 r144.2 then ((bF n142 s143 n147 s149 r144.2).bind fun r150=>((r150.1).asAgg 2).bind fun l151=>(l151[0]?).bind fun v152=>((v152).asI .i64).bind fun n153=>(l151[1]?).bind fun v154=>((v154).asSl).bind fun s155=>(Hp.st r150.2 bL bQ (.int .i64 n153)).bind fun H156=>(Hp.st H156 bL (bQ + 1) (.sl s155)).bind fun H157=>ai.j6 F bE bF bG (ai.l61 F bE bF bG fp) bK bs cG bL bQ bM n108 dj ch bZ H157) else none)) else (ai.j6 F bE bF bG (ai.l61 F bE bF bG fp) bK bs cG bL bQ bM n108 dj ch bZ H15))))) else ((Hp.ldI H15 .i64 bL bQ).bind fun n192=>(Hp.ldSl H15 bL (bQ + 1)).bind fun s193=>(Hp.st H15 bs cG (.int .i64 n192)).bind fun H194=>(Hp.st H194 bs (cG + 1) (.sl s193)).bind fun H195=>(Hp.ldI H195 .i64 bs cG).bind fun n196=>(Hp.ldSl H195 bs (cG + 1)).bind fun s197=>some ((.agg [(.int .i64 n196),(.sl s197)]),H195)))
termination_by structural n=>n
noncomputable def ai.twX (F:Nat) (bE:Int→Int→Hp→OA) (bF:Int→Sl→Int→Sl→Hp→OA) (bG:Int→Hp→OA) (aa:Sl) (ab:Int) (H:Hp):OA:=(Hp.new H [.int .i64 0,.sl ⟨none,0,.ex 0⟩]).bind fun H3=>(Hp.new H3 [.int .i64 0,.sl ⟨none,0,.ex 0⟩]).bind fun H4=>ai.l61 F bE bF bG F ab H.length 0 H3.length 0 0 aa (aa.n:Int) 0 H4
noncomputable def ai.tw (F:Nat) (aa:Sl) (ab:Int) (H:Hp):OA:=ai.twX F (aE.tw F) (aF.tw F) (aH.tw F) aa ab H
noncomputable def ai.code:Go.Code:=(Try.f88.body).getD .skip
noncomputable def ai.lh61 (F:Nat) (bE:Int→Int→Hp→OA) (bF:Int→Sl→Int→Sl→Hp→OA) (bG:Int→Hp→OA) (ks:List Nat) (n:Nat) (tm:Tm) (H:Hp):OA:=match ks,tm 1,tm 4,tm 5,tm 6,tm 9,tm 10,tm 11 with
 | [],(.int .i64 bK),(.ptr bs cG),(.ptr bL bQ),(.int .i64 bM),(.sl dj),(.int .i64 ch),(.int .i64 bZ)=>ai.l61 F bE bF bG n bK bs cG bL bQ bM dj ch bZ H
 | _,_,_,_,_,_,_,_=>none
theorem ai.lh61_inv {F:Nat} {bE:Int→Int→Hp→OA} {bF:Int→Sl→Int→Sl→Hp→OA} {bG:Int→Hp→OA} {ks:List Nat} {n:Nat} {tm:Tm} {H:Hp} {r:AV×Hp} (h:ai.lh61 F bE bF bG ks n tm H = some r):∃ bK:Int,∃ bs:Nat,∃ cG:Nat,∃ bL:Nat,∃ bQ:Nat,∃ bM:Int,∃ dj:Sl,∃ ch:Int,∃ bZ:Int,ks = []∧tm 1 = (.int .i64 bK)∧tm 4 = (.ptr bs cG)∧tm 5 = (.ptr bL bQ)∧tm 6 = (.int .i64 bM)∧tm 9 = (.sl dj)∧tm 10 = (.int .i64 ch)∧tm 11 = (.int .i64 bZ)∧ai.l61 F bE bF bG n bK bs cG bL bQ bM dj ch bZ H = some r:=by
 unfold ai.lh61 at h
 split at h
 ·exact ⟨_,_,_,_,_,_,_,_,_,rfl,by assumption,by assumption,by assumption,by assumption,by assumption,by assumption,by assumption,h⟩
 ·cases h
noncomputable def ai.lh (F:Nat) (bE:Int→Int→Hp→OA) (bF:Int→Sl→Int→Sl→Hp→OA) (bG:Int→Hp→OA) (p:Nat) (ks:List Nat) (n:Nat) (tm:Tm) (H:Hp):OA:=bif p.beq 61 then ai.lh61 F bE bF bG ks n tm H else (none)
def ai.pn:Nat→List Nat:=fun i=>(([(8,[3,4]),(10,[4,5])]:List (Nat×List Nat)).lookup i).getD []
def ai.tb:Nat→List (List Nat):=fun i=>(([(8,[[],[],[1],[0,1,2],[0,1,2,3]]),(10,[[],[],[1],[1,2],[0,1,2,3],[0,1,2,3,4]])]:List (Nat×List (List Nat))).lookup i).getD []
noncomputable def ai.mk (g:Sl→Int→Hp→OA) (args:List AV) (H:Hp):OA:=match args with
 | [(.sl aa),(.int .i64 ab)]=>g aa ab H
 | _=>none
noncomputable def ai.cs (F:Nat) (bE:Int→Int→Hp→OA) (bF:Int→Sl→Int→Sl→Hp→OA) (bG:Int→Hp→OA):List (FuncId×(List AV→Hp→OA)):=[(145,aE.mk bE),(144,aF.mk bF),(146,aH.mk bG)]
theorem ai.loops (F:Nat) (bE:Int→Int→Hp→OA) (bF:Int→Sl→Int→Sl→Hp→OA) (bG:Int→Hp→OA):LoopsOk tabs (mkOrc (ai.cs F bE bF bG)) ai.pn (ai.lh F bE bF bG) F [] 1 ai.code (fun tm H=>aresults tabs.ty H tm Try.f88.results.toList fun v=>some (v,H)) (fun _ _ _=>none) (fun tm H=>aresults tabs.ty H tm Try.f88.results.toList fun v=>some (v,H)):=by
 refine LoopsOk.seq ?_ ?_
 ·exact loops_none (by kernel_rfl)
 ·refine LoopsOk.seq ?_ ?_
  ·exact loops_none (by kernel_rfl)
  ·refine LoopsOk.seq ?_ ?_
   ·exact loops_none (by kernel_rfl)
   ·refine LoopsOk.seq ?_ ?_
    ·refine LoopsOk.seq ?_ ?_
     ·exact loops_none (by kernel_rfl)
     ·refine LoopsOk.block ?_
      refine LoopsOk.loop (fun tm H=>?_) (fun k61 tm H r h0=>?_) (fun k61=>?_)
      ·refine none_of fun r h0=>?_
       obtain ⟨bK,bs,cG,bL,bQ,bM,dj,ch,bZ,hks,e1,e4,e5,e6,e9,e10,e11,h⟩:=ai.lh61_inv (show ai.lh61 F bE bF bG [] 0 tm H = some r from h0)
       cases h
      ·obtain ⟨bK,bs,cG,bL,bQ,bM,dj,ch,bZ,hks,e1,e4,e5,e6,e9,e10,e11,h⟩:=ai.lh61_inv (show ai.lh61 F bE bF bG [] (k61 + 1) tm H = some r from h0)
       have q0:(Tm.put tm 1 (.int .i64 bK)) = tm:=by exact Tm.put_same e1
       have q1:(Tm.put (Tm.put tm 1 (.int .i64 bK)) 4 (.ptr bs cG)) = tm:=by rw [q0]; exact Tm.put_same e4
       have q2:(Tm.put (Tm.put (Tm.put tm 1 (.int .i64 bK)) 4 (.ptr bs cG)) 5 (.ptr bL bQ)) = tm:=by rw [q1]; exact Tm.put_same e5
       have q3:(Tm.put (Tm.put (Tm.put (Tm.put tm 1 (.int .i64 bK)) 4 (.ptr bs cG)) 5 (.ptr bL bQ)) 6 (.int .i64 bM)) = tm:=by rw [q2]; exact Tm.put_same e6
       have q4:(Tm.put (Tm.put (Tm.put (Tm.put (Tm.put tm 1 (.int .i64 bK)) 4 (.ptr bs cG)) 5 (.ptr bL bQ)) 6 (.int .i64 bM)) 9 (.sl dj)) = tm:=by rw [q3]; exact Tm.put_same e9
       have q5:(Tm.put (Tm.put (Tm.put (Tm.put (Tm.put (Tm.put tm 1 (.int .i64 bK)) 4 (.ptr bs cG)) 5 (.ptr bL bQ)) 6 (.int .i64 bM)) 9 (.sl dj)) 10 (.int .i64 ch)) = tm:=by rw [q4]; exact Tm.put_same e10
       have q6:(Tm.put (Tm.put (Tm.put (Tm.put (Tm.put (Tm.put (Tm.put tm 1 (.int .i64 bK)) 4 (.ptr bs cG)) 5 (.ptr bL bQ)) 6 (.int .i64 bM)) 9 (.sl dj)) 10 (.int .i64 ch)) 11 (.int .i64 bZ)) = tm:=by rw [q5]; exact Tm.put_same e11
       rw [← q6]
       exact Eq.trans (by kernel_rfl) h
      ·exact loops_none (by kernel_rfl)
    ·exact loops_none (by kernel_rfl)
theorem ai.eqX (F:Nat) (bE:Int→Int→Hp→OA) (bF:Int→Sl→Int→Sl→Hp→OA) (bG:Int→Hp→OA) (aa:Sl) (ab:Int) (H:Hp):aCode tabs (mkOrc (ai.cs F bE bF bG)) ai.pn (ai.lh F bE bF bG) F [] 1 ai.code (argTm [(.sl aa),(.int .i64 ab)]) H (fun tm H=>aresults tabs.ty H tm Try.f88.results.toList fun v=>some (v,H)) (fun _ _ _=>none) (fun tm H=>aresults tabs.ty H tm Try.f88.results.toList fun v=>some (v,H)) = ai.twX F bE bF bG aa ab H:=by kernel_rfl
theorem ai.cs_ok (F:Nat):∀ p ∈ ai.cs F (aE.tw F) (aF.tw F) (aH.tw F),∀ args H v H',p.2 args H = some (v,H')→Go.AE.T Try.prog p.1 args H v H':=by
 intro p hp
 simp only [ai.cs,List.mem_cons,List.not_mem_nil,or_false] at hp
 rcases hp with rfl | rfl | rfl
 ·exact fun args H v H' h=>aE.mk_T h
 ·exact fun args H v H' h=>aF.mk_T h
 ·exact fun args H v H' h=>aH.mk_T h
theorem ai.ok:codeOk ai.pn Try.f88.ntmps ai.tb ai.code = true:=by kernel_rfl
theorem ai.T {F:Nat} {aa:Sl} {ab:Int} {H:Hp} {v:AV} {H':Hp} (h:ai.tw F aa ab H = some (v,H')):Go.AE.T Try.prog 88 [(.sl aa),(.int .i64 ab)] H v H':=
 Go.AE.T.of (Y:=tabs) (C:=mkOrc (ai.cs F (aE.tw F) (aF.tw F) (aH.tw F))) (PN:=ai.pn) (LH:=ai.lh F (aE.tw F) (aF.tw F) (aH.tw F)) (F:=F) (TB:=ai.tb) (fn:=Try.f88) (code:=ai.code) mixed tabs_ok (mkOrc_ok (ai.cs_ok F)) Try.func88 (by kernel_rfl) (by kernel_rfl) ai.ok (Nat.le_of_ble_eq_true (by kernel_rfl)) (ai.loops F (aE.tw F) (aF.tw F) (aH.tw F)) (Eq.trans (ai.eqX F (aE.tw F) (aF.tw F) (aH.tw F) aa ab H) h)
theorem ai.mk_T {F:Nat} {args:List AV} {H:Hp} {v:AV} {H':Hp} (h:ai.mk (ai.tw F) args H = some (v,H')):Go.AE.T Try.prog 88 args H v H':=by
 unfold ai.mk at h
 split at h
 ·exact ai.T h
 ·cases h
noncomputable def aN.twX (F:Nat) (dY:Sl→Hp→OA) (ce:Int→Int→Int→Hp→OA) (dZ:Sl→Int→Hp→OA) (aa:Sl) (ab:Int) (H:Hp):OA:=(Hp.new H [.int .i64 0,.sl ⟨none,0,.ex 0⟩]).bind fun H3=>(dY aa H3).bind fun r4=>((r4.1).asB).bind fun b5=>(bif (!b5) then ((Hp.st r4.2 H.length 0 (.int .i64 0)).bind fun H6=>(Hp.st H6 H.length (0 + 1) (.sl (⟨none,0,.ex 0⟩:Sl))).bind fun H7=>(Hp.ldI H7 .i64 H.length 0).bind fun n8=>(Hp.ldSl H7 H.length (0 + 1)).bind fun s9=>some ((.tup [(.agg [(.int .i64 n8),(.sl s9)]),(.int .i64 1)]),H7)) else ((ce ab 1 24 r4.2).bind fun r10=>((r10.1).asB).bind fun b11=>(bif (!b11) then ((Hp.st r10.2 H.length 0 (.int .i64 0)).bind fun H12=>(Hp.st H12 H.length (0 + 1) (.sl (⟨none,0,.ex 0⟩:Sl))).bind fun H13=>(Hp.ldI H13 .i64 H.length 0).bind fun n14=>(Hp.ldSl H13 H.length (0 + 1)).bind fun s15=>some ((.tup [(.agg [(.int .i64 n14),(.sl s15)]),(.int .i64 2)]),H13)) else ((dZ aa ab r10.2).bind fun r16=>((r16.1).asAgg 2).bind fun l17=>(l17[0]?).bind fun v18=>((v18).asI .i64).bind fun n19=>(l17[1]?).bind fun v20=>((v20).asSl).bind fun s21=>(Hp.st r16.2 H.length 0 (.int .i64 n19)).bind fun H22=>(Hp.st H22 H.length (0 + 1) (.sl s21)).bind fun H23=>(Hp.ldI H23 .i64 H.length 0).bind fun n24=>(Hp.ldSl H23 H.length (0 + 1)).bind fun s25=>some ((.tup [(.agg [(.int .i64 n24),(.sl s25)]),(.int .i64 0)]),H23)))))
noncomputable def aN.tw (F:Nat) (aa:Sl) (ab:Int) (H:Hp):OA:=aN.twX F (aS.tw F) (aD.tw F) (ai.tw F) aa ab H
noncomputable def aN.code:Go.Code:=(Try.f21.body).getD .skip
noncomputable def aN.lh (F:Nat) (dY:Sl→Hp→OA) (ce:Int→Int→Int→Hp→OA) (dZ:Sl→Int→Hp→OA) (p:Nat) (ks:List Nat) (n:Nat) (tm:Tm) (H:Hp):OA:=none
def aN.pn:Nat→List Nat:=fun i=>(([]:List (Nat×List Nat)).lookup i).getD []
def aN.tb:Nat→List (List Nat):=fun i=>(([]:List (Nat×List (List Nat))).lookup i).getD []
noncomputable def aN.mk (g:Sl→Int→Hp→OA) (args:List AV) (H:Hp):OA:=match args with
 | [(.sl aa),(.int .i64 ab)]=>g aa ab H
 | _=>none
noncomputable def aN.cs (F:Nat) (dY:Sl→Hp→OA) (ce:Int→Int→Int→Hp→OA) (dZ:Sl→Int→Hp→OA):List (FuncId×(List AV→Hp→OA)):=[(87,aS.mk dY),(73,aD.mk ce),(88,ai.mk dZ)]
theorem aN.loops (F:Nat) (dY:Sl→Hp→OA) (ce:Int→Int→Int→Hp→OA) (dZ:Sl→Int→Hp→OA):LoopsOk tabs (mkOrc (aN.cs F dY ce dZ)) aN.pn (aN.lh F dY ce dZ) F [] 1 aN.code (fun tm H=>aresults tabs.ty H tm Try.f21.results.toList fun v=>some (v,H)) (fun _ _ _=>none) (fun tm H=>aresults tabs.ty H tm Try.f21.results.toList fun v=>some (v,H)):=by
 exact loops_none (by kernel_rfl)
theorem aN.eqX (F:Nat) (dY:Sl→Hp→OA) (ce:Int→Int→Int→Hp→OA) (dZ:Sl→Int→Hp→OA) (aa:Sl) (ab:Int) (H:Hp):aCode tabs (mkOrc (aN.cs F dY ce dZ)) aN.pn (aN.lh F dY ce dZ) F [] 1 aN.code (argTm [(.sl aa),(.int .i64 ab)]) H (fun tm H=>aresults tabs.ty H tm Try.f21.results.toList fun v=>some (v,H)) (fun _ _ _=>none) (fun tm H=>aresults tabs.ty H tm Try.f21.results.toList fun v=>some (v,H)) = aN.twX F dY ce dZ aa ab H:=by kernel_rfl
theorem aN.cs_ok (F:Nat):∀ p ∈ aN.cs F (aS.tw F) (aD.tw F) (ai.tw F),∀ args H v H',p.2 args H = some (v,H')→Go.AE.T Try.prog p.1 args H v H':=by
 intro p hp
 simp only [aN.cs,List.mem_cons,List.not_mem_nil,or_false] at hp
 rcases hp with rfl | rfl | rfl
 ·exact fun args H v H' h=>aS.mk_T h
 ·exact fun args H v H' h=>aD.mk_T h
 ·exact fun args H v H' h=>ai.mk_T h
theorem aN.ok:codeOk aN.pn Try.f21.ntmps aN.tb aN.code = true:=by kernel_rfl
theorem aN.T {F:Nat} {aa:Sl} {ab:Int} {H:Hp} {v:AV} {H':Hp} (h:aN.tw F aa ab H = some (v,H')):Go.AE.T Try.prog 21 [(.sl aa),(.int .i64 ab)] H v H':=
 Go.AE.T.of (Y:=tabs) (C:=mkOrc (aN.cs F (aS.tw F) (aD.tw F) (ai.tw F))) (PN:=aN.pn) (LH:=aN.lh F (aS.tw F) (aD.tw F) (ai.tw F)) (F:=F) (TB:=aN.tb) (fn:=Try.f21) (code:=aN.code) mixed tabs_ok (mkOrc_ok (aN.cs_ok F)) Try.func21 (by kernel_rfl) (by kernel_rfl) aN.ok (Nat.le_of_ble_eq_true (by kernel_rfl)) (aN.loops F (aS.tw F) (aD.tw F) (ai.tw F)) (Eq.trans (aN.eqX F (aS.tw F) (aD.tw F) (ai.tw F) aa ab H) h)
theorem aN.mk_T {F:Nat} {args:List AV} {H:Hp} {v:AV} {H':Hp} (h:aN.mk (aN.tw F) args H = some (v,H')):Go.AE.T Try.prog 21 args H v H':=by
 unfold aN.mk at h
 split at h
 ·exact aN.T h
 ·cases h
noncomputable def ap.l29 (F:Nat) :Nat→Sl→Sl→Int→Hp→OA
 | 0,_,_,_,_=>none
 | kr + 1,ba,bb,cw,H8=>(bif (decide (cw < (ba.n:Int))) then ((Sl.idx ba cw 1).bind fun p13=>(Hp.ldI H8 .i64 p13.1 p13.2).bind fun n14=>(Sl.idx bb cw 1).bind fun p15=>(Hp.ldI H8 .i64 p15.1 p15.2).bind fun n16=>(bif (n14 != n16) then (some ((.bool false),H8)) else (ap.l29 F kr ba bb (IntKind.i64.wrap (cw + 1)) H8))) else (some ((.bool true),H8)))
termination_by structural n=>n
noncomputable def ap.twX (F:Nat) (aa:Sl) (ab:Sl) (H:Hp):OA:=(bif ((aa.n:Int) != (ab.n:Int)) then (some ((.bool false),H)) else (ap.l29 F F aa ab 0 H))
noncomputable def ap.tw (F:Nat) (aa:Sl) (ab:Sl) (H:Hp):OA:=ap.twX F aa ab H
noncomputable def ap.code:Go.Code:=(Try.f23.body).getD .skip
noncomputable def ap.lh29 (F:Nat) (ks:List Nat) (n:Nat) (tm:Tm) (H:Hp):OA:=match ks,tm 0,tm 1,tm 5 with
 | [],(.sl ba),(.sl bb),(.int .i64 cw)=>ap.l29 F n ba bb cw H
 | _,_,_,_=>none
theorem ap.lh29_inv {F:Nat} {ks:List Nat} {n:Nat} {tm:Tm} {H:Hp} {r:AV×Hp} (h:ap.lh29 F ks n tm H = some r):∃ ba:Sl,∃ bb:Sl,∃ cw:Int,ks = []∧tm 0 = (.sl ba)∧tm 1 = (.sl bb)∧tm 5 = (.int .i64 cw)∧ap.l29 F n ba bb cw H = some r:=by
 unfold ap.lh29 at h
 split at h
 ·exact ⟨_,_,_,rfl,by assumption,by assumption,by assumption,h⟩
 ·cases h
noncomputable def ap.lh (F:Nat) (p:Nat) (ks:List Nat) (n:Nat) (tm:Tm) (H:Hp):OA:=bif p.beq 29 then ap.lh29 F ks n tm H else (none)
def ap.pn:Nat→List Nat:=fun i=>(([(6,[])]:List (Nat×List Nat)).lookup i).getD []
def ap.tb:Nat→List (List Nat):=fun i=>(([(6,[[],[],[0,1],[0,1,2],[],[],[4,5],[4,5,6],[0,1,2,3,4,5,6,7]])]:List (Nat×List (List Nat))).lookup i).getD []
noncomputable def ap.mk (g:Sl→Sl→Hp→OA) (args:List AV) (H:Hp):OA:=match args with
 | [(.sl aa),(.sl ab)]=>g aa ab H
 | _=>none
noncomputable def ap.cs (F:Nat):List (FuncId×(List AV→Hp→OA)):=[]
theorem ap.loops (F:Nat):LoopsOk tabs (mkOrc (ap.cs F)) ap.pn (ap.lh F) F [] 1 ap.code (fun tm H=>aresults tabs.ty H tm Try.f23.results.toList fun v=>some (v,H)) (fun _ _ _=>none) (fun tm H=>aresults tabs.ty H tm Try.f23.results.toList fun v=>some (v,H)):=by
 refine LoopsOk.seq ?_ ?_
 ·exact loops_none (by kernel_rfl)
 ·refine LoopsOk.seq ?_ ?_
  ·exact loops_none (by kernel_rfl)
  ·refine LoopsOk.seq ?_ ?_
   ·refine LoopsOk.seq ?_ ?_
    ·exact loops_none (by kernel_rfl)
    ·refine LoopsOk.block ?_
     refine LoopsOk.loop (fun tm H=>?_) (fun k29 tm H r h0=>?_) (fun k29=>?_)
     ·refine none_of fun r h0=>?_
      obtain ⟨ba,bb,cw,hks,e0,e1,e5,h⟩:=ap.lh29_inv (show ap.lh29 F [] 0 tm H = some r from h0)
      cases h
     ·obtain ⟨ba,bb,cw,hks,e0,e1,e5,h⟩:=ap.lh29_inv (show ap.lh29 F [] (k29 + 1) tm H = some r from h0)
      have q0:(Tm.put tm 0 (.sl ba)) = tm:=by exact Tm.put_same e0
      have q1:(Tm.put (Tm.put tm 0 (.sl ba)) 1 (.sl bb)) = tm:=by rw [q0]; exact Tm.put_same e1
      have q2:(Tm.put (Tm.put (Tm.put tm 0 (.sl ba)) 1 (.sl bb)) 5 (.int .i64 cw)) = tm:=by rw [q1]; exact Tm.put_same e5
      rw [← q2]
      exact Eq.trans (by kernel_rfl) h
     ·exact loops_none (by kernel_rfl)
   ·exact loops_none (by kernel_rfl)
theorem ap.eqX (F:Nat) (aa:Sl) (ab:Sl) (H:Hp):aCode tabs (mkOrc (ap.cs F)) ap.pn (ap.lh F) F [] 1 ap.code (argTm [(.sl aa),(.sl ab)]) H (fun tm H=>aresults tabs.ty H tm Try.f23.results.toList fun v=>some (v,H)) (fun _ _ _=>none) (fun tm H=>aresults tabs.ty H tm Try.f23.results.toList fun v=>some (v,H)) = ap.twX F aa ab H:=by kernel_rfl
theorem ap.cs_ok (F:Nat):∀ p ∈ ap.cs F,∀ args H v H',p.2 args H = some (v,H')→Go.AE.T Try.prog p.1 args H v H':=by
 intro p hp
 exact absurd (show p ∈ [] from hp) List.not_mem_nil
theorem ap.ok:codeOk ap.pn Try.f23.ntmps ap.tb ap.code = true:=by kernel_rfl
theorem ap.T {F:Nat} {aa:Sl} {ab:Sl} {H:Hp} {v:AV} {H':Hp} (h:ap.tw F aa ab H = some (v,H')):Go.AE.T Try.prog 23 [(.sl aa),(.sl ab)] H v H':=
 Go.AE.T.of (Y:=tabs) (C:=mkOrc (ap.cs F)) (PN:=ap.pn) (LH:=ap.lh F) (F:=F) (TB:=ap.tb) (fn:=Try.f23) (code:=ap.code) mixed tabs_ok (mkOrc_ok (ap.cs_ok F)) Try.func23 (by kernel_rfl) (by kernel_rfl) ap.ok (Nat.le_of_ble_eq_true (by kernel_rfl)) (ap.loops F) (Eq.trans (ap.eqX F aa ab H) h)
theorem ap.mk_T {F:Nat} {args:List AV} {H:Hp} {v:AV} {H':Hp} (h:ap.mk (ap.tw F) args H = some (v,H')):Go.AE.T Try.prog 23 args H v H':=by
 unfold ap.mk at h
 split at h
 ·exact ap.T h
 ·cases h
noncomputable def aJ.twX (F:Nat) (ci:Sl→Sl→Hp→OA) (aa:Int) (aj:Sl) (ac:Int) (bg:Sl) (H:Hp):OA:=(Hp.new H [(.int .i64 aa),(.sl aj)]).bind fun H5=>(Hp.new H5 [(.int .i64 ac),(.sl bg)]).bind fun H6=>(Hp.ldI H6 .i64 H.length 0).bind fun n7=>(Hp.ldI H6 .i64 H5.length 0).bind fun n8=>(bif (n7 != n8) then (some ((.bool false),H6)) else ((Hp.ldSl H6 H.length 1).bind fun s9=>(Hp.ldSl H6 H5.length 1).bind fun s10=>(ci s9 s10 H6).bind fun r11=>((r11.1).asB).bind fun b12=>(bif (!b12) then (some ((.bool false),r11.2)) else (some ((.bool true),r11.2)))))
noncomputable def aJ.tw (F:Nat) (aa:Int) (aj:Sl) (ac:Int) (bg:Sl) (H:Hp):OA:=aJ.twX F (ap.tw F) aa aj ac bg H
noncomputable def aJ.code:Go.Code:=(Try.f22.body).getD .skip
noncomputable def aJ.lh (F:Nat) (ci:Sl→Sl→Hp→OA) (p:Nat) (ks:List Nat) (n:Nat) (tm:Tm) (H:Hp):OA:=none
def aJ.pn:Nat→List Nat:=fun i=>(([]:List (Nat×List Nat)).lookup i).getD []
def aJ.tb:Nat→List (List Nat):=fun i=>(([]:List (Nat×List (List Nat))).lookup i).getD []
noncomputable def aJ.mk (g:Int→Sl→Int→Sl→Hp→OA) (args:List AV) (H:Hp):OA:=match args with
 | [(.agg [(.int .i64 aa),(.sl aj)]),(.agg [(.int .i64 ac),(.sl bg)])]=>g aa aj ac bg H
 | _=>none
noncomputable def aJ.cs (F:Nat) (ci:Sl→Sl→Hp→OA):List (FuncId×(List AV→Hp→OA)):=[(23,ap.mk ci)]
theorem aJ.loops (F:Nat) (ci:Sl→Sl→Hp→OA):LoopsOk tabs (mkOrc (aJ.cs F ci)) aJ.pn (aJ.lh F ci) F [] 1 aJ.code (fun tm H=>aresults tabs.ty H tm Try.f22.results.toList fun v=>some (v,H)) (fun _ _ _=>none) (fun tm H=>aresults tabs.ty H tm Try.f22.results.toList fun v=>some (v,H)):=by
 exact loops_none (by kernel_rfl)
theorem aJ.eqX (F:Nat) (ci:Sl→Sl→Hp→OA) (aa:Int) (aj:Sl) (ac:Int) (bg:Sl) (H:Hp):aCode tabs (mkOrc (aJ.cs F ci)) aJ.pn (aJ.lh F ci) F [] 1 aJ.code (argTm [(.agg [(.int .i64 aa),(.sl aj)]),(.agg [(.int .i64 ac),(.sl bg)])]) H (fun tm H=>aresults tabs.ty H tm Try.f22.results.toList fun v=>some (v,H)) (fun _ _ _=>none) (fun tm H=>aresults tabs.ty H tm Try.f22.results.toList fun v=>some (v,H)) = aJ.twX F ci aa aj ac bg H:=by kernel_rfl
theorem aJ.cs_ok (F:Nat):∀ p ∈ aJ.cs F (ap.tw F),∀ args H v H',p.2 args H = some (v,H')→Go.AE.T Try.prog p.1 args H v H':=by
 intro p hp
 simp only [aJ.cs,List.mem_cons,List.not_mem_nil,or_false] at hp
 subst hp
 exact fun args H v H' h=>ap.mk_T h
theorem aJ.ok:codeOk aJ.pn Try.f22.ntmps aJ.tb aJ.code = true:=by kernel_rfl
theorem aJ.T {F:Nat} {aa:Int} {aj:Sl} {ac:Int} {bg:Sl} {H:Hp} {v:AV} {H':Hp} (h:aJ.tw F aa aj ac bg H = some (v,H')):Go.AE.T Try.prog 22 [(.agg [(.int .i64 aa),(.sl aj)]),(.agg [(.int .i64 ac),(.sl bg)])] H v H':=
 Go.AE.T.of (Y:=tabs) (C:=mkOrc (aJ.cs F (ap.tw F))) (PN:=aJ.pn) (LH:=aJ.lh F (ap.tw F)) (F:=F) (TB:=aJ.tb) (fn:=Try.f22) (code:=aJ.code) mixed tabs_ok (mkOrc_ok (aJ.cs_ok F)) Try.func22 (by kernel_rfl) (by kernel_rfl) aJ.ok (Nat.le_of_ble_eq_true (by kernel_rfl)) (aJ.loops F (ap.tw F)) (Eq.trans (aJ.eqX F (ap.tw F) aa aj ac bg H) h)
theorem aJ.mk_T {F:Nat} {args:List AV} {H:Hp} {v:AV} {H':Hp} (h:aJ.mk (aJ.tw F) args H = some (v,H')):Go.AE.T Try.prog 22 args H v H':=by
 unfold aJ.mk at h
 split at h
 ·exact aJ.T h
 ·cases h
noncomputable def aq.l13 (F:Nat) :Nat→Sl→Int→Int→Hp→OA
 | 0,_,_,_,_=>none
 | dH + 1,ba,bb,bq,H7=>(bif (decide (bq < (ba.n:Int))) then ((Sl.idx ba bq 1).bind fun p10=>(Hp.st H7 p10.1 p10.2 (.int .i64 bb)).bind fun H11=>aq.l13 F dH ba (IntKind.i64.wrap (bb + 1)) (IntKind.i64.wrap (bq + 1)) H11) else (some ((.int .i64 bb),H7)))
termination_by structural n=>n
noncomputable def aq.twX (F:Nat) (aa:Sl) (ab:Int) (H:Hp):OA:=aq.l13 F F aa ab 0 H
noncomputable def aq.tw (F:Nat) (aa:Sl) (ab:Int) (H:Hp):OA:=aq.twX F aa ab H
noncomputable def aq.code:Go.Code:=(Try.f24.body).getD .skip
noncomputable def aq.lh13 (F:Nat) (ks:List Nat) (n:Nat) (tm:Tm) (H:Hp):OA:=match ks,tm 0,tm 1,tm 5 with
 | [],(.sl ba),(.int .i64 bb),(.int .i64 bq)=>aq.l13 F n ba bb bq H
 | _,_,_,_=>none
theorem aq.lh13_inv {F:Nat} {ks:List Nat} {n:Nat} {tm:Tm} {H:Hp} {r:AV×Hp} (h:aq.lh13 F ks n tm H = some r):∃ ba:Sl,∃ bb:Int,∃ bq:Int,ks = []∧tm 0 = (.sl ba)∧tm 1 = (.int .i64 bb)∧tm 5 = (.int .i64 bq)∧aq.l13 F n ba bb bq H = some r:=by
 unfold aq.lh13 at h
 split at h
 ·exact ⟨_,_,_,rfl,by assumption,by assumption,by assumption,h⟩
 ·cases h
noncomputable def aq.lh (F:Nat) (p:Nat) (ks:List Nat) (n:Nat) (tm:Tm) (H:Hp):OA:=bif p.beq 13 then aq.lh13 F ks n tm H else (none)
def aq.pn:Nat→List Nat:=fun i=>(([]:List (Nat×List Nat)).lookup i).getD []
def aq.tb:Nat→List (List Nat):=fun i=>(([]:List (Nat×List (List Nat))).lookup i).getD []
noncomputable def aq.mk (g:Sl→Int→Hp→OA) (args:List AV) (H:Hp):OA:=match args with
 | [(.sl aa),(.int .i64 ab)]=>g aa ab H
 | _=>none
noncomputable def aq.cs (F:Nat):List (FuncId×(List AV→Hp→OA)):=[]
theorem aq.loops (F:Nat):LoopsOk tabs (mkOrc (aq.cs F)) aq.pn (aq.lh F) F [] 1 aq.code (fun tm H=>aresults tabs.ty H tm Try.f24.results.toList fun v=>some (v,H)) (fun _ _ _=>none) (fun tm H=>aresults tabs.ty H tm Try.f24.results.toList fun v=>some (v,H)):=by
 refine LoopsOk.seq ?_ ?_
 ·exact loops_none (by kernel_rfl)
 ·refine LoopsOk.seq ?_ ?_
  ·refine LoopsOk.seq ?_ ?_
   ·exact loops_none (by kernel_rfl)
   ·refine LoopsOk.block ?_
    refine LoopsOk.loop (fun tm H=>?_) (fun k13 tm H r h0=>?_) (fun k13=>?_)
    ·refine none_of fun r h0=>?_
     obtain ⟨ba,bb,bq,hks,e0,e1,e5,h⟩:=aq.lh13_inv (show aq.lh13 F [] 0 tm H = some r from h0)
     cases h
    ·obtain ⟨ba,bb,bq,hks,e0,e1,e5,h⟩:=aq.lh13_inv (show aq.lh13 F [] (k13 + 1) tm H = some r from h0)
     have q0:(Tm.put tm 0 (.sl ba)) = tm:=by exact Tm.put_same e0
     have q1:(Tm.put (Tm.put tm 0 (.sl ba)) 1 (.int .i64 bb)) = tm:=by rw [q0]; exact Tm.put_same e1
     have q2:(Tm.put (Tm.put (Tm.put tm 0 (.sl ba)) 1 (.int .i64 bb)) 5 (.int .i64 bq)) = tm:=by rw [q1]; exact Tm.put_same e5
     rw [← q2]
     exact Eq.trans (by kernel_rfl) h
    ·exact loops_none (by kernel_rfl)
  ·exact loops_none (by kernel_rfl)
theorem aq.eqX (F:Nat) (aa:Sl) (ab:Int) (H:Hp):aCode tabs (mkOrc (aq.cs F)) aq.pn (aq.lh F) F [] 1 aq.code (argTm [(.sl aa),(.int .i64 ab)]) H (fun tm H=>aresults tabs.ty H tm Try.f24.results.toList fun v=>some (v,H)) (fun _ _ _=>none) (fun tm H=>aresults tabs.ty H tm Try.f24.results.toList fun v=>some (v,H)) = aq.twX F aa ab H:=by kernel_rfl
theorem aq.cs_ok (F:Nat):∀ p ∈ aq.cs F,∀ args H v H',p.2 args H = some (v,H')→Go.AE.T Try.prog p.1 args H v H':=by
 intro p hp
 exact absurd (show p ∈ [] from hp) List.not_mem_nil
theorem aq.ok:codeOk aq.pn Try.f24.ntmps aq.tb aq.code = true:=by kernel_rfl
theorem aq.T {F:Nat} {aa:Sl} {ab:Int} {H:Hp} {v:AV} {H':Hp} (h:aq.tw F aa ab H = some (v,H')):Go.AE.T Try.prog 24 [(.sl aa),(.int .i64 ab)] H v H':=
 Go.AE.T.of (Y:=tabs) (C:=mkOrc (aq.cs F)) (PN:=aq.pn) (LH:=aq.lh F) (F:=F) (TB:=aq.tb) (fn:=Try.f24) (code:=aq.code) mixed tabs_ok (mkOrc_ok (aq.cs_ok F)) Try.func24 (by kernel_rfl) (by kernel_rfl) aq.ok (Nat.le_of_ble_eq_true (by kernel_rfl)) (aq.loops F) (Eq.trans (aq.eqX F aa ab H) h)
theorem aq.mk_T {F:Nat} {args:List AV} {H:Hp} {v:AV} {H':Hp} (h:aq.mk (aq.tw F) args H = some (v,H')):Go.AE.T Try.prog 24 args H v H':=by
 unfold aq.mk at h
 split at h
 ·exact aq.T h
 ·cases h
noncomputable def aY.twX (F:Nat) (cj:Sl→Int→Hp→OA) (aa:Int) (aj:Sl) (ac:Int) (H:Hp):OA:=(Hp.new H [(.int .i64 aa),(.sl aj)]).bind fun H4=>(Hp.ldSl H4 H.length 1).bind fun s5=>(cj s5 ac H4).bind fun r6=>((r6.1).asI .i64).bind fun n7=>some ((.int .i64 n7),r6.2)
noncomputable def aY.tw (F:Nat) (aa:Int) (aj:Sl) (ac:Int) (H:Hp):OA:=aY.twX F (aq.tw F) aa aj ac H
noncomputable def aY.code:Go.Code:=(Try.f25.body).getD .skip
noncomputable def aY.lh (F:Nat) (cj:Sl→Int→Hp→OA) (p:Nat) (ks:List Nat) (n:Nat) (tm:Tm) (H:Hp):OA:=none
def aY.pn:Nat→List Nat:=fun i=>(([]:List (Nat×List Nat)).lookup i).getD []
def aY.tb:Nat→List (List Nat):=fun i=>(([]:List (Nat×List (List Nat))).lookup i).getD []
noncomputable def aY.mk (g:Int→Sl→Int→Hp→OA) (args:List AV) (H:Hp):OA:=match args with
 | [(.agg [(.int .i64 aa),(.sl aj)]),(.int .i64 ac)]=>g aa aj ac H
 | _=>none
noncomputable def aY.cs (F:Nat) (cj:Sl→Int→Hp→OA):List (FuncId×(List AV→Hp→OA)):=[(24,aq.mk cj)]
theorem aY.loops (F:Nat) (cj:Sl→Int→Hp→OA):LoopsOk tabs (mkOrc (aY.cs F cj)) aY.pn (aY.lh F cj) F [] 1 aY.code (fun tm H=>aresults tabs.ty H tm Try.f25.results.toList fun v=>some (v,H)) (fun _ _ _=>none) (fun tm H=>aresults tabs.ty H tm Try.f25.results.toList fun v=>some (v,H)):=by
 exact loops_none (by kernel_rfl)
theorem aY.eqX (F:Nat) (cj:Sl→Int→Hp→OA) (aa:Int) (aj:Sl) (ac:Int) (H:Hp):aCode tabs (mkOrc (aY.cs F cj)) aY.pn (aY.lh F cj) F [] 1 aY.code (argTm [(.agg [(.int .i64 aa),(.sl aj)]),(.int .i64 ac)]) H (fun tm H=>aresults tabs.ty H tm Try.f25.results.toList fun v=>some (v,H)) (fun _ _ _=>none) (fun tm H=>aresults tabs.ty H tm Try.f25.results.toList fun v=>some (v,H)) = aY.twX F cj aa aj ac H:=by kernel_rfl
theorem aY.cs_ok (F:Nat):∀ p ∈ aY.cs F (aq.tw F),∀ args H v H',p.2 args H = some (v,H')→Go.AE.T Try.prog p.1 args H v H':=by
 intro p hp
 simp only [aY.cs,List.mem_cons,List.not_mem_nil,or_false] at hp
 subst hp
 exact fun args H v H' h=>aq.mk_T h
theorem aY.ok:codeOk aY.pn Try.f25.ntmps aY.tb aY.code = true:=by kernel_rfl
theorem aY.T {F:Nat} {aa:Int} {aj:Sl} {ac:Int} {H:Hp} {v:AV} {H':Hp} (h:aY.tw F aa aj ac H = some (v,H')):Go.AE.T Try.prog 25 [(.agg [(.int .i64 aa),(.sl aj)]),(.int .i64 ac)] H v H':=
 Go.AE.T.of (Y:=tabs) (C:=mkOrc (aY.cs F (aq.tw F))) (PN:=aY.pn) (LH:=aY.lh F (aq.tw F)) (F:=F) (TB:=aY.tb) (fn:=Try.f25) (code:=aY.code) mixed tabs_ok (mkOrc_ok (aY.cs_ok F)) Try.func25 (by kernel_rfl) (by kernel_rfl) aY.ok (Nat.le_of_ble_eq_true (by kernel_rfl)) (aY.loops F (aq.tw F)) (Eq.trans (aY.eqX F (aq.tw F) aa aj ac H) h)
theorem aY.mk_T {F:Nat} {args:List AV} {H:Hp} {v:AV} {H':Hp} (h:aY.mk (aY.tw F) args H = some (v,H')):Go.AE.T Try.prog 25 args H v H':=by
 unfold aY.mk at h
 split at h
 ·exact aY.T h
 ·cases h
noncomputable def ax.l13 (F:Nat) :Nat→Sl→Int→Int→Hp→OA
 | 0,_,_,_,_=>none
 | dH + 1,ba,bb,bq,H7=>(bif (decide (bq < (ba.n:Int))) then ((Sl.idx ba bq 1).bind fun p10=>(Hp.ldI H7 .i64 p10.1 p10.2).bind fun n11=>(bif (n11 != bb) then (some ((.int .i64 (-1)),H7)) else (ax.l13 F dH ba (IntKind.i64.wrap (bb + 1)) (IntKind.i64.wrap (bq + 1)) H7))) else (some ((.int .i64 bb),H7)))
termination_by structural n=>n
noncomputable def ax.twX (F:Nat) (aa:Sl) (ab:Int) (H:Hp):OA:=ax.l13 F F aa ab 0 H
noncomputable def ax.tw (F:Nat) (aa:Sl) (ab:Int) (H:Hp):OA:=ax.twX F aa ab H
noncomputable def ax.code:Go.Code:=(Try.f89.body).getD .skip
noncomputable def ax.lh13 (F:Nat) (ks:List Nat) (n:Nat) (tm:Tm) (H:Hp):OA:=match ks,tm 0,tm 1,tm 5 with
 | [],(.sl ba),(.int .i64 bb),(.int .i64 bq)=>ax.l13 F n ba bb bq H
 | _,_,_,_=>none
theorem ax.lh13_inv {F:Nat} {ks:List Nat} {n:Nat} {tm:Tm} {H:Hp} {r:AV×Hp} (h:ax.lh13 F ks n tm H = some r):∃ ba:Sl,∃ bb:Int,∃ bq:Int,ks = []∧tm 0 = (.sl ba)∧tm 1 = (.int .i64 bb)∧tm 5 = (.int .i64 bq)∧ax.l13 F n ba bb bq H = some r:=by
 unfold ax.lh13 at h
 split at h
 ·exact ⟨_,_,_,rfl,by assumption,by assumption,by assumption,h⟩
 ·cases h
noncomputable def ax.lh (F:Nat) (p:Nat) (ks:List Nat) (n:Nat) (tm:Tm) (H:Hp):OA:=bif p.beq 13 then ax.lh13 F ks n tm H else (none)
def ax.pn:Nat→List Nat:=fun i=>(([]:List (Nat×List Nat)).lookup i).getD []
def ax.tb:Nat→List (List Nat):=fun i=>(([]:List (Nat×List (List Nat))).lookup i).getD []
noncomputable def ax.mk (g:Sl→Int→Hp→OA) (args:List AV) (H:Hp):OA:=match args with
 | [(.sl aa),(.int .i64 ab)]=>g aa ab H
 | _=>none
noncomputable def ax.cs (F:Nat):List (FuncId×(List AV→Hp→OA)):=[]
theorem ax.loops (F:Nat):LoopsOk tabs (mkOrc (ax.cs F)) ax.pn (ax.lh F) F [] 1 ax.code (fun tm H=>aresults tabs.ty H tm Try.f89.results.toList fun v=>some (v,H)) (fun _ _ _=>none) (fun tm H=>aresults tabs.ty H tm Try.f89.results.toList fun v=>some (v,H)):=by
 refine LoopsOk.seq ?_ ?_
 ·exact loops_none (by kernel_rfl)
 ·refine LoopsOk.seq ?_ ?_
  ·refine LoopsOk.seq ?_ ?_
   ·exact loops_none (by kernel_rfl)
   ·refine LoopsOk.block ?_
    refine LoopsOk.loop (fun tm H=>?_) (fun k13 tm H r h0=>?_) (fun k13=>?_)
    ·refine none_of fun r h0=>?_
     obtain ⟨ba,bb,bq,hks,e0,e1,e5,h⟩:=ax.lh13_inv (show ax.lh13 F [] 0 tm H = some r from h0)
     cases h
    ·obtain ⟨ba,bb,bq,hks,e0,e1,e5,h⟩:=ax.lh13_inv (show ax.lh13 F [] (k13 + 1) tm H = some r from h0)
     have q0:(Tm.put tm 0 (.sl ba)) = tm:=by exact Tm.put_same e0
     have q1:(Tm.put (Tm.put tm 0 (.sl ba)) 1 (.int .i64 bb)) = tm:=by rw [q0]; exact Tm.put_same e1
     have q2:(Tm.put (Tm.put (Tm.put tm 0 (.sl ba)) 1 (.int .i64 bb)) 5 (.int .i64 bq)) = tm:=by rw [q1]; exact Tm.put_same e5
     rw [← q2]
     exact Eq.trans (by kernel_rfl) h
    ·exact loops_none (by kernel_rfl)
  ·exact loops_none (by kernel_rfl)
theorem ax.eqX (F:Nat) (aa:Sl) (ab:Int) (H:Hp):aCode tabs (mkOrc (ax.cs F)) ax.pn (ax.lh F) F [] 1 ax.code (argTm [(.sl aa),(.int .i64 ab)]) H (fun tm H=>aresults tabs.ty H tm Try.f89.results.toList fun v=>some (v,H)) (fun _ _ _=>none) (fun tm H=>aresults tabs.ty H tm Try.f89.results.toList fun v=>some (v,H)) = ax.twX F aa ab H:=by kernel_rfl
theorem ax.cs_ok (F:Nat):∀ p ∈ ax.cs F,∀ args H v H',p.2 args H = some (v,H')→Go.AE.T Try.prog p.1 args H v H':=by
 intro p hp
 exact absurd (show p ∈ [] from hp) List.not_mem_nil
theorem ax.ok:codeOk ax.pn Try.f89.ntmps ax.tb ax.code = true:=by kernel_rfl
theorem ax.T {F:Nat} {aa:Sl} {ab:Int} {H:Hp} {v:AV} {H':Hp} (h:ax.tw F aa ab H = some (v,H')):Go.AE.T Try.prog 89 [(.sl aa),(.int .i64 ab)] H v H':=
 Go.AE.T.of (Y:=tabs) (C:=mkOrc (ax.cs F)) (PN:=ax.pn) (LH:=ax.lh F) (F:=F) (TB:=ax.tb) (fn:=Try.f89) (code:=ax.code) mixed tabs_ok (mkOrc_ok (ax.cs_ok F)) Try.func89 (by kernel_rfl) (by kernel_rfl) ax.ok (Nat.le_of_ble_eq_true (by kernel_rfl)) (ax.loops F) (Eq.trans (ax.eqX F aa ab H) h)
theorem ax.mk_T {F:Nat} {args:List AV} {H:Hp} {v:AV} {H':Hp} (h:ax.mk (ax.tw F) args H = some (v,H')):Go.AE.T Try.prog 89 args H v H':=by
 unfold ax.mk at h
 split at h
 ·exact ax.T h
 ·cases h
noncomputable def aQ.twX (F:Nat) (d_:Sl→Int→Hp→OA) (aa:Int) (aj:Sl) (ac:Int) (H:Hp):OA:=(Hp.new H [(.int .i64 aa),(.sl aj)]).bind fun H4=>(Hp.ldSl H4 H.length 1).bind fun s5=>(d_ s5 ac H4).bind fun r6=>((r6.1).asI .i64).bind fun n7=>(bif (decide (n7 < 0)) then (some ((.int .i64 (-1)),r6.2)) else (some ((.int .i64 n7),r6.2)))
noncomputable def aQ.tw (F:Nat) (aa:Int) (aj:Sl) (ac:Int) (H:Hp):OA:=aQ.twX F (ax.tw F) aa aj ac H
noncomputable def aQ.code:Go.Code:=(Try.f26.body).getD .skip
noncomputable def aQ.lh (F:Nat) (d_:Sl→Int→Hp→OA) (p:Nat) (ks:List Nat) (n:Nat) (tm:Tm) (H:Hp):OA:=none
def aQ.pn:Nat→List Nat:=fun i=>(([]:List (Nat×List Nat)).lookup i).getD []
def aQ.tb:Nat→List (List Nat):=fun i=>(([]:List (Nat×List (List Nat))).lookup i).getD []
noncomputable def aQ.mk (g:Int→Sl→Int→Hp→OA) (args:List AV) (H:Hp):OA:=match args with
 | [(.agg [(.int .i64 aa),(.sl aj)]),(.int .i64 ac)]=>g aa aj ac H
 | _=>none
noncomputable def aQ.cs (F:Nat) (d_:Sl→Int→Hp→OA):List (FuncId×(List AV→Hp→OA)):=[(89,ax.mk d_)]
theorem aQ.loops (F:Nat) (d_:Sl→Int→Hp→OA):LoopsOk tabs (mkOrc (aQ.cs F d_)) aQ.pn (aQ.lh F d_) F [] 1 aQ.code (fun tm H=>aresults tabs.ty H tm Try.f26.results.toList fun v=>some (v,H)) (fun _ _ _=>none) (fun tm H=>aresults tabs.ty H tm Try.f26.results.toList fun v=>some (v,H)):=by
 exact loops_none (by kernel_rfl)
theorem aQ.eqX (F:Nat) (d_:Sl→Int→Hp→OA) (aa:Int) (aj:Sl) (ac:Int) (H:Hp):aCode tabs (mkOrc (aQ.cs F d_)) aQ.pn (aQ.lh F d_) F [] 1 aQ.code (argTm [(.agg [(.int .i64 aa),(.sl aj)]),(.int .i64 ac)]) H (fun tm H=>aresults tabs.ty H tm Try.f26.results.toList fun v=>some (v,H)) (fun _ _ _=>none) (fun tm H=>aresults tabs.ty H tm Try.f26.results.toList fun v=>some (v,H)) = aQ.twX F d_ aa aj ac H:=by kernel_rfl
theorem aQ.cs_ok (F:Nat):∀ p ∈ aQ.cs F (ax.tw F),∀ args H v H',p.2 args H = some (v,H')→Go.AE.T Try.prog p.1 args H v H':=by
 intro p hp
 simp only [aQ.cs,List.mem_cons,List.not_mem_nil,or_false] at hp
 subst hp
 exact fun args H v H' h=>ax.mk_T h
theorem aQ.ok:codeOk aQ.pn Try.f26.ntmps aQ.tb aQ.code = true:=by kernel_rfl
theorem aQ.T {F:Nat} {aa:Int} {aj:Sl} {ac:Int} {H:Hp} {v:AV} {H':Hp} (h:aQ.tw F aa aj ac H = some (v,H')):Go.AE.T Try.prog 26 [(.agg [(.int .i64 aa),(.sl aj)]),(.int .i64 ac)] H v H':=
 Go.AE.T.of (Y:=tabs) (C:=mkOrc (aQ.cs F (ax.tw F))) (PN:=aQ.pn) (LH:=aQ.lh F (ax.tw F)) (F:=F) (TB:=aQ.tb) (fn:=Try.f26) (code:=aQ.code) mixed tabs_ok (mkOrc_ok (aQ.cs_ok F)) Try.func26 (by kernel_rfl) (by kernel_rfl) aQ.ok (Nat.le_of_ble_eq_true (by kernel_rfl)) (aQ.loops F (ax.tw F)) (Eq.trans (aQ.eqX F (ax.tw F) aa aj ac H) h)
theorem aQ.mk_T {F:Nat} {args:List AV} {H:Hp} {v:AV} {H':Hp} (h:aQ.mk (aQ.tw F) args H = some (v,H')):Go.AE.T Try.prog 26 args H v H':=by
 unfold aQ.mk at h
 split at h
 ·exact aQ.T h
 ·cases h
noncomputable def bc.twX (F:Nat) (dk:Sl→Hp→OA) (ea:Sl→Int→Hp→OA) (dE:Sl→Int→Hp→OA) (dy:Int→Sl→Int→Sl→Hp→OA) (ci:Sl→Sl→Hp→OA) (cj:Sl→Int→Hp→OA) (eb:Int→Sl→Int→Hp→OA) (dF:Int→Sl→Int→Hp→OA) (aa:Sl) (ab:Int) (H:Hp):OA:=(bif (decide ((aa.n:Int) > 1048576)) then (some ((.bool true),H)) else ((dk aa H).bind fun r3=>((r3.1).asSl).bind fun s4=>(ea s4 ab r3.2).bind fun r5=>((r5.1).asTup 2).bind fun l6=>(l6[0]?).bind fun v7=>((v7).asAgg 2).bind fun l8=>(l8[0]?).bind fun v9=>((v9).asI .i64).bind fun n10=>(l8[1]?).bind fun v11=>((v11).asSl).bind fun s12=>(l6[1]?).bind fun v13=>((v13).asI .i64).bind fun n14=>(Hp.new r5.2 [.int .i64 0,.sl ⟨none,0,.ex 0⟩]).bind fun H15=>(Hp.st H15 r5.2.length 0 (.int .i64 n10)).bind fun H16=>(Hp.st H16 r5.2.length (0 + 1) (.sl s12)).bind fun H17=>(dk aa H17).bind fun r18=>((r18.1).asSl).bind fun s19=>(dE s19 ab r18.2).bind fun r20=>((r20.1).asTup 2).bind fun l21=>(l21[0]?).bind fun v22=>((v22).asAgg 2).bind fun l23=>(l23[0]?).bind fun v24=>((v24).asI .i64).bind fun n25=>(l23[1]?).bind fun v26=>((v26).asSl).bind fun s27=>(l21[1]?).bind fun v28=>((v28).asI .i64).bind fun n29=>(Hp.new r20.2 [.int .i64 0,.sl ⟨none,0,.ex 0⟩]).bind fun H30=>(Hp.st H30 r20.2.length 0 (.int .i64 n25)).bind fun H31=>(Hp.st H31 r20.2.length (0 + 1) (.sl s27)).bind fun H32=>(Hp.ldI H32 .i64 r20.2.length 0).bind fun n33=>(Hp.ldSl H32 r20.2.length (0 + 1)).bind fun s34=>(Hp.ldI H32 .i64 r5.2.length 0).bind fun n35=>(Hp.ldSl H32 r5.2.length (0 + 1)).bind fun s36=>(dy n33 s34 n35 s36 H32).bind fun r37=>((r37.1).asB).bind fun b38=>(bif (!b38) then (some ((.bool false),r37.2)) else ((bif (n29 != n14) then (some ((.bool false),r37.2)) else ((dk aa r37.2).bind fun r39=>((r39.1).asSl).bind fun s40=>(ci s19 s40 r39.2).bind fun r41=>((r41.1).asB).bind fun b42=>(bif (!b42) then (some ((.bool false),r41.2)) else ((cj s19 1 r41.2).bind fun r43=>((r43.1).asI .i64).bind fun n44=>(bif (decide (n44 < 0)) then (some ((.bool false),r43.2)) else ((Hp.ldI r43.2 .i64 r20.2.length 0).bind fun n45=>(Hp.ldSl r43.2 r20.2.length (0 + 1)).bind fun s46=>(Hp.ldI r43.2 .i64 r5.2.length 0).bind fun n47=>(Hp.ldSl r43.2 r5.2.length (0 + 1)).bind fun s48=>(dy n45 s46 n47 s48 r43.2).bind fun r49=>((r49.1).asB).bind fun b50=>(bif (!b50) then (some ((.bool false),r49.2)) else ((bif (n29 != n14) then (some ((.bool false),r49.2)) else ((Hp.ldI r49.2 .i64 r20.2.length 0).bind fun n51=>(Hp.ldSl r49.2 r20.2.length (0 + 1)).bind fun s52=>(eb n51 s52 1 r49.2).bind fun r53=>((r53.1).asI .i64).bind fun n54=>(Hp.ldI r53.2 .i64 r20.2.length 0).bind fun n55=>(Hp.ldSl r53.2 r20.2.length (0 + 1)).bind fun s56=>(dF n55 s56 1 r53.2).bind fun r57=>((r57.1).asI .i64).bind fun n58=>(bif (decide (n58 < 0)) then (some ((.bool false),r57.2)) else ((bif (n58 != n54) then (some ((.bool false),r57.2)) else ((dk aa r57.2).bind fun r59=>((r59.1).asSl).bind fun s60=>(dE s60 ab r59.2).bind fun r61=>((r61.1).asTup 2).bind fun l62=>(l62[0]?).bind fun v63=>((v63).asAgg 2).bind fun l64=>(l64[0]?).bind fun v65=>((v65).asI .i64).bind fun n66=>(l64[1]?).bind fun v67=>((v67).asSl).bind fun s68=>(l62[1]?).bind fun v69=>((v69).asI .i64).bind fun n70=>(Hp.new r61.2 [.int .i64 0,.sl ⟨none,0,.ex 0⟩]).bind fun H71=>(Hp.st H71 r61.2.length 0 (.int .i64 n66)).bind fun H72=>(Hp.st H72 r61.2.length (0 + 1) (.sl s68)).bind fun H73=>(Hp.ldI H73 .i64 r61.2.length 0).bind fun n74=>(Hp.ldSl H73 r61.2.length (0 + 1)).bind fun s75=>(Hp.ldI H73 .i64 r5.2.length 0).bind fun n76=>(Hp.ldSl H73 r5.2.length (0 + 1)).bind fun s77=>(dy n74 s75 n76 s77 H73).bind fun r78=>((r78.1).asB).bind fun b79=>(bif (!b79) then (some ((.bool false),r78.2)) else ((bif (n70 != n14) then (some ((.bool false),r78.2)) else ((Hp.ldI r78.2 .i64 r20.2.length 0).bind fun n80=>(Hp.ldSl r78.2 r20.2.length (0 + 1)).bind fun s81=>(dF n80 s81 1 r78.2).bind fun r82=>((r82.1).asI .i64).bind fun n83=>(bif (decide (n83 < 0)) then (some ((.bool false),r82.2)) else ((bif (n83 != n54) then (some ((.bool false),r82.2)) else (some ((.bool true),r82.2)))))))))))))))))))))))))))
noncomputable def bc.tw (F:Nat) (aa:Sl) (ab:Int) (H:Hp):OA:=bc.twX F (ar.tw F) (aR.tw F) (aN.tw F) (aJ.tw F) (ap.tw F) (aq.tw F) (aY.tw F) (aQ.tw F) aa ab H
noncomputable def bc.code:Go.Code:=(Try.f4.body).getD .skip
noncomputable def bc.lh (F:Nat) (dk:Sl→Hp→OA) (ea:Sl→Int→Hp→OA) (dE:Sl→Int→Hp→OA) (dy:Int→Sl→Int→Sl→Hp→OA) (ci:Sl→Sl→Hp→OA) (cj:Sl→Int→Hp→OA) (eb:Int→Sl→Int→Hp→OA) (dF:Int→Sl→Int→Hp→OA) (p:Nat) (ks:List Nat) (n:Nat) (tm:Tm) (H:Hp):OA:=none
def bc.pn:Nat→List Nat:=fun i=>(([]:List (Nat×List Nat)).lookup i).getD []
def bc.tb:Nat→List (List Nat):=fun i=>(([]:List (Nat×List (List Nat))).lookup i).getD []
noncomputable def bc.mk (g:Sl→Int→Hp→OA) (args:List AV) (H:Hp):OA:=match args with
 | [(.sl aa),(.int .i64 ab)]=>g aa ab H
 | _=>none
noncomputable def bc.cs (F:Nat) (dk:Sl→Hp→OA) (ea:Sl→Int→Hp→OA) (dE:Sl→Int→Hp→OA) (dy:Int→Sl→Int→Sl→Hp→OA) (ci:Sl→Sl→Hp→OA) (cj:Sl→Int→Hp→OA) (eb:Int→Sl→Int→Hp→OA) (dF:Int→Sl→Int→Hp→OA):List (FuncId×(List AV→Hp→OA)):=[(20,ar.mk dk),(19,aR.mk ea),(21,aN.mk dE),(22,aJ.mk dy),(23,ap.mk ci),(24,aq.mk cj),(25,aY.mk eb),(26,aQ.mk dF)]
theorem bc.loops (F:Nat) (dk:Sl→Hp→OA) (ea:Sl→Int→Hp→OA) (dE:Sl→Int→Hp→OA) (dy:Int→Sl→Int→Sl→Hp→OA) (ci:Sl→Sl→Hp→OA) (cj:Sl→Int→Hp→OA) (eb:Int→Sl→Int→Hp→OA) (dF:Int→Sl→Int→Hp→OA):LoopsOk tabs (mkOrc (bc.cs F dk ea dE dy ci cj eb dF)) bc.pn (bc.lh F dk ea dE dy ci cj eb dF) F [] 1 bc.code (fun tm H=>aresults tabs.ty H tm Try.f4.results.toList fun v=>some (v,H)) (fun _ _ _=>none) (fun tm H=>aresults tabs.ty H tm Try.f4.results.toList fun v=>some (v,H)):=by
 exact loops_none (by kernel_rfl)
theorem bc.eqX (F:Nat) (dk:Sl→Hp→OA) (ea:Sl→Int→Hp→OA) (dE:Sl→Int→Hp→OA) (dy:Int→Sl→Int→Sl→Hp→OA) (ci:Sl→Sl→Hp→OA) (cj:Sl→Int→Hp→OA) (eb:Int→Sl→Int→Hp→OA) (dF:Int→Sl→Int→Hp→OA) (aa:Sl) (ab:Int) (H:Hp):aCode tabs (mkOrc (bc.cs F dk ea dE dy ci cj eb dF)) bc.pn (bc.lh F dk ea dE dy ci cj eb dF) F [] 1 bc.code (argTm [(.sl aa),(.int .i64 ab)]) H (fun tm H=>aresults tabs.ty H tm Try.f4.results.toList fun v=>some (v,H)) (fun _ _ _=>none) (fun tm H=>aresults tabs.ty H tm Try.f4.results.toList fun v=>some (v,H)) = bc.twX F dk ea dE dy ci cj eb dF aa ab H:=by kernel_rfl
theorem bc.cs_ok (F:Nat):∀ p ∈ bc.cs F (ar.tw F) (aR.tw F) (aN.tw F) (aJ.tw F) (ap.tw F) (aq.tw F) (aY.tw F) (aQ.tw F),∀ args H v H',p.2 args H = some (v,H')→Go.AE.T Try.prog p.1 args H v H':=by
 intro p hp
 simp only [bc.cs,List.mem_cons,List.not_mem_nil,or_false] at hp
 rcases hp with rfl | rfl | rfl | rfl | rfl | rfl | rfl | rfl
 ·exact fun args H v H' h=>ar.mk_T h
 ·exact fun args H v H' h=>aR.mk_T h
 ·exact fun args H v H' h=>aN.mk_T h
 ·exact fun args H v H' h=>aJ.mk_T h
 ·exact fun args H v H' h=>ap.mk_T h
 ·exact fun args H v H' h=>aq.mk_T h
 ·exact fun args H v H' h=>aY.mk_T h
 ·exact fun args H v H' h=>aQ.mk_T h
theorem bc.ok:codeOk bc.pn Try.f4.ntmps bc.tb bc.code = true:=by kernel_rfl
theorem bc.T {F:Nat} {aa:Sl} {ab:Int} {H:Hp} {v:AV} {H':Hp} (h:bc.tw F aa ab H = some (v,H')):Go.AE.T Try.prog 4 [(.sl aa),(.int .i64 ab)] H v H':=
 Go.AE.T.of (Y:=tabs) (C:=mkOrc (bc.cs F (ar.tw F) (aR.tw F) (aN.tw F) (aJ.tw F) (ap.tw F) (aq.tw F) (aY.tw F) (aQ.tw F))) (PN:=bc.pn) (LH:=bc.lh F (ar.tw F) (aR.tw F) (aN.tw F) (aJ.tw F) (ap.tw F) (aq.tw F) (aY.tw F) (aQ.tw F)) (F:=F) (TB:=bc.tb) (fn:=Try.f4) (code:=bc.code) mixed tabs_ok (mkOrc_ok (bc.cs_ok F)) Try.func4 (by kernel_rfl) (by kernel_rfl) bc.ok (Nat.le_of_ble_eq_true (by kernel_rfl)) (bc.loops F (ar.tw F) (aR.tw F) (aN.tw F) (aJ.tw F) (ap.tw F) (aq.tw F) (aY.tw F) (aQ.tw F)) (Eq.trans (bc.eqX F (ar.tw F) (aR.tw F) (aN.tw F) (aJ.tw F) (ap.tw F) (aq.tw F) (aY.tw F) (aQ.tw F) aa ab H) h)
theorem bc.mk_T {F:Nat} {args:List AV} {H:Hp} {v:AV} {H':Hp} (h:bc.mk (bc.tw F) args H = some (v,H')):Go.AE.T Try.prog 4 args H v H':=by
 unfold bc.mk at h
 split at h
 ·exact bc.T h
 ·cases h
end Go.Proofs.Yteeahaikelpkpaa.AE
