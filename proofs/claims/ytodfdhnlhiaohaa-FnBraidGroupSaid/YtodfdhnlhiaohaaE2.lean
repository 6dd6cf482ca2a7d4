import Derived.Test.YtodfdhnlhiaohaaE1
import Derived.Below
import Derived.Deep.Slices
import Derived.Lib.SmallJoins
import Derived.WideShapes
import Derived.Maps.OwnSet
import Derived.Maps.AppendAt
import Derived.WalkKit
import Derived.RangeFuncBox
import Derived.RangeFuncNested
import Derived.RangeFuncLeaves
import Derived.Shelf.Abstract
import Derived.OwnWalkIn
import Derived.TacticsInMore
import Derived.LoopNIn
import Derived.LoopIn
set_option linter.unusedVariables false
set_option linter.unusedSimpArgs false
section
namespace Go.AE
open Classical
variable {R:Type} {P:Program} {r:R}
section
variable {Y:Tabs} {C:Orc R} {PN:Nat->List Nat} {LH:Nat->List Nat->Nat->Tm->Hp->Option R} {F:Nat} {nt:Nat} {TB:Nat->List (List Nat)}
def gV (n0:Nat) (tm:Tm) (H:Hp):Prop:=WF H/\(∀ t,(tm t).inS (·<H.length))/\n0<=H.length
theorem zP {ops:Array Oper} {n0:Nat} (hX:cv P Y.ty) (hC:COk P C) {G:Prop}:∀ (rest:List Oper) (tm:Tm) (H:Hp) (K:Tm->Hp->Option R),hU Y C ops rest tm H K=some r->gV n0 tm H ->
  (∀ tm' H',gV n0 tm' H'->K tm' H'=some r->G)->G
 | [],tm,H,K,h,hi,hk=>hk tm H hi h
 | o::rest,tm,H,K,h,hi,hk=>by
  obtain ⟨v,H',hst,h'⟩:=Ii hX hC h
  obtain ⟨hw,ht,hn⟩:=hi
  rcases hst with ⟨_,_,_,hot⟩ | ⟨d,want,_,_,rfl,rfl⟩
  ·obtain ⟨b1,b2,b3⟩:=hot.wf hw (λx _=>Iq ht x)
   exact zP hX hC rest _ _ K h' ⟨b1,λt=>pB (λt=>AV.inS_mono (λb hb=>Nat.lt_of_lt_of_le hb b3) _ (ht t)) b2 t,Nat.le_trans hn b3⟩ hk
  ·exact zP hX hC rest _ _ K h' ⟨hw,λt=>pB ht (by simp [dp,AV.inS,AV.inSs]) t,hn⟩ hk
theorem IB {ops:Array Oper} {pins:List Nat} {n0:Nat} (hX:cv P Y.ty) (hC:COk P C) {G:Prop}:∀ (rest:List Oper) (i:Nat) (tm:Tm) (H:Hp) (K:Tm->Hp->Option R),gU Y C ops pins rest i tm H K=some r->gV n0 tm H ->
  (∀ tm' H',gV n0 tm' H'->K tm' H'=some r->G)->G
 | [],_,tm,H,K,h,hi,hk=>hk tm H hi h
 | o::rest,i,tm,H,K,h,hi,hk=>by
  obtain ⟨v,H',hst,_,h'⟩:=Im hX hC h
  obtain ⟨hw,ht,hn⟩:=hi
  obtain ⟨b1,b2,b3⟩:=uC hst hw ht
  exact IB hX hC rest _ _ _ K h' ⟨b1,λt=>pB (λt=>AV.inS_mono (λb hb=>Nat.lt_of_lt_of_le hb b3) _ (ht t)) b2 t,Nat.le_trans hn b3⟩ hk
theorem IC {ops:Array Oper} {pins stb:List Nat} {n0:Nat} (hX:cv P Y.ty) (hC:COk P C) {G:Prop}:∀ (rest:List Oper) (i:Nat) (tm:Tm) (H:Hp) (hs:List Hp) (ls:List (Oper×(Operand->AV)×AV)) (K:Tm->Hp->Option R),gj Y C ops pins stb rest i tm H hs ls K=some r->gV n0 tm H ->
  (∀ tm' H',gV n0 tm' H'->K tm' H'=some r->G)->G
 | [],_,tm,H,hs,ls,K,h,hi,hk=>by
  unfold gj at h
  exact hk _ _ hi (It h).2
 | o::rest,i,tm,H,hs,ls,K,h,hi,hk=>by
  obtain ⟨v,H',hst,_,_,_,h'⟩:=Iw (P:=P) hX hC h
  obtain ⟨hw,ht,hn⟩:=hi
  obtain ⟨b1,b2,b3⟩:=uC hst hw ht
  exact IC hX hC rest _ _ _ _ _ K h' ⟨b1,λt=>pB (λt=>AV.inS_mono (λb hb=>Nat.lt_of_lt_of_le hb b3) _ (ht t)) b2 t,Nat.le_trans hn b3⟩ hk
theorem Us {n0:Nat} (hX:cv P Y.ty) (hC:COk P C) {G:Prop} :
  ∀ (c:Code) (ks:List Nat) (p:Nat) (tm:Tm) (H:Hp) (Kn:Tm->Hp->Option R) (Kx:Nat->Tm->Hp->Option R) (Kr:Tm->Hp->Option R),
   af Y C PN LH F ks p c Kn Kx Kr->cD Y C PN LH F ks p c tm H Kn Kx Kr=some r->gV n0 tm H ->
   (∀ tm' H',gV n0 tm' H'->Kn tm' H'=some r->G)->(∀ j tm' H',gV n0 tm' H'->Kx j tm' H'=some r->G)->(∀ tm' H',gV n0 tm' H'->Kr tm' H'=some r->G)->G:=by
 intro c
 induction c with
 | skip=>intro ks p tm H Kn Kx Kr hl h hi hn hx hr;simp only [cD] at h;exact hn tm H hi h
 | label l=>intro ks p tm H Kn Kx Kr hl h hi hn hx hr;simp only [cD] at h;exact hn tm H hi h
 | region rid ops draw=>
  intro ks p tm H Kn Kx Kr hl h hi hn hx hr
  cases draw with
  | false=>simp only [cD] at h;exact zP hX hC _ _ _ _ h hi hn
  | true=>
   simp only [cD] at h
   cases hb:uF (PN rid) with
   | true=>rw [hb,cond_true] at h;exact IB hX hC _ _ _ _ _ h hi hn
   | false=>rw [hb,cond_false] at h;exact IC hX hC _ _ _ _ _ _ _ h hi hn
 | seq x y ihx ihy=>
  intro ks p tm H Kn Kx Kr hl h hi hn hx hr
  simp only [cD] at h
  obtain ⟨l1,l2⟩:=hl
  exact ihx ks (2 * p) tm H _ Kx Kr l1 h hi (λtm' H' hi' h'=>ihy ks (2 * p+1) tm' H' Kn Kx Kr l2 h' hi' hn hx hr) hx hr
 | cond c x y ihx ihy=>
  intro ks p tm H Kn Kx Kr hl h hi hn hx hr
  simp only [cD] at h
  obtain ⟨l1,l2⟩:=hl
  split at h
  ·rename_i t hc
   cases t with
   | true=>exact ihx ks (2 * p) tm H Kn Kx Kr l1 h hi hn hx hr
   | false=>exact ihy ks (2 * p+1) tm H Kn Kx Kr l2 h hi hn hx hr
  ·cases h
 | block id b ih=>
  intro ks p tm H Kn Kx Kr hl h hi hn hx hr
  simp only [cD] at h
  refine ih ks p tm H _ _ Kr hl h hi hn (λj tm' H' hi' h'=>?_) hr
  rcases iF h' with ⟨_,h'⟩ | ⟨_,h'⟩
  ·exact hn tm' H' hi' h'
  ·exact hx j tm' H' hi' h'
 | loop b ih=>
  intro ks p tm H Kn Kx Kr hl h hi hn hx hr
  simp only [cD] at h
  obtain ⟨l0,l1⟩:=hl
  have key:∀ (k:Nat) (tm:Tm) (H:Hp),gV n0 tm H->LH p ks k tm H=some r->G:=by
   intro k
   induction k with
   | zero=>intro tm H _ h;rw [l0] at h;cases h
   | succ k ihk=>
    intro tm H hi h
    obtain ⟨l2,l3⟩:=l1 k
    exact ih (k::ks) (2 * p) tm H _ Kx Kr l3 (l2 tm H r h) hi (λtm' H' hi' h'=>ihk tm' H' hi' h') hx hr
  exact key F tm H hi h
 | exit id=>intro ks p tm H Kn Kx Kr hl h hi hn hx hr;simp only [cD] at h;exact hx id tm H hi h
 | ret=>intro ks p tm H Kn Kx Kr hl h hi hn hx hr;simp only [cD] at h;exact hr tm H hi h
 | rangeFunc f ps x y ihx ihy=>intro ks p tm H Kn Kx Kr hl h;simp only [cD] at h;cases h
 | scope b ih=>intro ks p tm H Kn Kx Kr hl h;simp only [cD] at h;cases h
 | goto l=>intro ks p tm H Kn Kx Kr hl h;simp only [cD] at h;cases h
 | refuse why=>intro ks p tm H Kn Kx Kr hl h;simp only [cD] at h;cases h
end
def kj (X:Tab) (H:Hp) (tm:Tm):List ResultVar->(List AV->Option R)->Option R
 | [],K=>K []
 | .tmp t::rs,K=>kj X H tm rs λl=>K (tm t::l)
 | .cell a t::rs,K=>match tm a with
  | .ptr b o=>(X t).bind λi=>bif i.agg then kJ H b o i.ks (λl=>kj X H tm rs λm=>K (.agg l::m)) else kI H b o (i.ks.headD .any) λv=>kj X H tm rs λm=>K (v::m)
  | _=>none
def ju (X:Tab) (H:Hp) (tm:Tm) (rs:List ResultVar) (K:AV->Option R):Option R:=kj X H tm rs λl=>match l with
 | [v]=>K v
 | l=>K (.tup l)
theorem Ut {X:Tab} {t:TypeId} {H:Hp} {b c:Nat} {i:TI} {K:AV->Option R} (hX:cv P X) (hi:X t=some i)
  (h:(bif i.agg then kJ H b c i.ks λl=>K (.agg l) else kI H b c (i.ks.headD .any) K)=some r) :
  ∃ v,(∀ Φ S w,Rel Φ S H w->S b->(loadVar t ⟨Φ.b b,Φ.o b+c,none⟩).run P w=.ok (v.toV Φ) w/\v.ok Φ S)/\(WF H->v.inS (·<H.length))/\K v=some r:=by
 obtain ⟨d,info,z,tk⟩:=hX t i hi
 cases hagg:i.agg with
 | true=>
  rw [hagg,cond_true] at h
  obtain ⟨l,h1,h2,h3⟩:=zx _ _ _ h
  refine ⟨.agg l,λΦ S w hr hS=>⟨?_,?_⟩,λhw=>?_,h3⟩
  ·have hl:=hr.loadCells (P:=P) hS l h2
   have hag:=tk.agg
   rw [hagg] at hag
   rw [h1,tk.ks hagg,<-tk.size] at hl
   have hia:(isAgg t).run P w=.ok true w:=by
    simp only [isAgg,Sem.run_bind,run_underlying tk.und,Result.andThen_ok]
    cases d <;> simp [kb] at hag ⊢
   simp [loadVar,hia,sizeOf,typeInfo,tk.inf,hl,AV.toV]
  ·simp only [AV.ok]
   refine (AV.oks_iff Φ S l).2 λv hv=>?_
   obtain ⟨j,hj⟩:=List.getElem?_of_mem hv
   exact (hr.cell_of hS (h2 j v hj)).2.1
  ·simp only [AV.inS]
   refine (AV.inSs_iff _ l).2 λv hv=>?_
   obtain ⟨j,hj⟩:=List.getElem?_of_mem hv
   obtain ⟨blk,q1,q2,q3⟩:=Hp.cell_some (h2 j v hj)
   exact hw b blk q1 q2 v (List.mem_of_getElem? q3)
 | false=>
  rw [hagg,cond_false] at h
  obtain ⟨v,h2,h3⟩:=zw h
  refine ⟨v,λΦ S w hr hS=>⟨?_,(hr.cell_of hS h2).2.1⟩,λhw=>?_,h3⟩
  ·have hl:=(hr.cell_of hS h2).1
   have hag:=tk.agg
   rw [hagg] at hag
   have hia:(isAgg t).run P w=.ok false w:=by
    simp only [isAgg,Sem.run_bind,run_underlying tk.und,Result.andThen_ok]
    cases d <;> simp [kb] at hag ⊢
   simp [loadVar,hia,hl]
  ·obtain ⟨blk,q1,q2,q3⟩:=Hp.cell_some h2
   exact hw b blk q1 q2 v (List.mem_of_getElem? q3)
def pE (tmps:Array Value):ResultVar->Sem Value
 | .tmp t=>pure (tmps.getD t undef)
 | .cell a t=>do loadVar t (<- asAddr (tmps.getD a undef))
theorem Uu (fn:Func) (tmps:Array Value):results fn tmps=(do let vs<-fn.results.mapM (pE tmps);pure (if h:vs.size=1 then vs[0] else .tuple vs):Sem Value):=rfl
theorem zQ {X:Tab} {H:Hp} {tm:Tm} (hX:cv P X):∀ (rs:List ResultVar) (K:List AV->Option R),kj X H tm rs K=some r ->
  ∃ l,l.length=rs.length/\K l=some r /\
   (∀ (Φ:Phi) (S:Nat->Prop) (nt:Nat) (a:Act) (w:World),Rel Φ S H w->TR Φ S nt tm a->(rs.mapM (m:=Sem) (pE a.tmps)).run P w=.ok (AV.toVs Φ l) w/\∀ v∈l,v.ok Φ S) /\
   (WF H->(∀ t,(tm t).inS (·<H.length))->∀ v∈l,v.inS (·<H.length))
 | [],K,h=>⟨[],rfl,h,λΦ S nt a w hr ht=>⟨by simp [AV.toVs],by simp⟩,λ_ _=>by simp⟩
 | .tmp t::rs,K,h=>by
  simp only [kj] at h
  obtain ⟨l,h1,h2,h3,h4⟩:=zQ hX rs _ h
  refine ⟨tm t::l,by simp [h1],h2,λΦ S nt a w hr ht=>?_,λhw hi=>?_⟩
  ·obtain ⟨g1,g2⟩:=h3 Φ S nt a w hr ht
   refine ⟨?_,?_⟩
   ·have k:(pE a.tmps (.tmp t)).run P w=.ok ((tm t).toV Φ) w:=by rw [<- (ht.val t).1];rfl
    simp only [List.mapM_cons,Sem.run_bind,Sem.run_pure,Result.andThen_ok,g1,k,AV.toVs]
   ·intro v hv
    rcases List.mem_cons.1 hv with rfl | hv
    ·exact (ht.val t).2
    ·exact g2 v hv
  ·intro v hv
   rcases List.mem_cons.1 hv with rfl | hv
   ·exact hi t
   ·exact h4 hw hi v hv
 | .cell b t::rs,K,h=>by
  simp only [kj] at h
  split at h
  ·rename_i bb oo hb
   obtain ⟨i,hi,h⟩:=ae h
   obtain ⟨v,hv,hvw,h⟩:=Ut (K:=λv=>kj X H tm rs λm=>K (v::m)) hX hi h
   obtain ⟨l,h1,h2,h3,h4⟩:=zQ hX rs _ h
   refine ⟨v::l,by simp [h1],h2,λΦ S nt a w hr ht=>?_,λhw hii=>?_⟩
   ·obtain ⟨g1,g2⟩:=h3 Φ S nt a w hr ht
    have hbv:=ht.val b
    rw [hb] at hbv
    obtain ⟨e1,e2⟩:=hv Φ S w hr (by simpa only [AV.ok] using hbv.2)
    refine ⟨?_,?_⟩
    ·have k:(pE a.tmps (.cell b t)).run P w=.ok (v.toV Φ) w:=by
      simp only [pE,Sem.run_bind,hbv.1,AV.toV,asAddr,Sem.run_pure,Result.andThen_ok,e1]
     simp only [List.mapM_cons,Sem.run_bind,k,Sem.run_pure,Result.andThen_ok,g1,AV.toVs]
    ·intro u hu
     rcases List.mem_cons.1 hu with rfl | hu
     ·exact e2
     ·exact g2 u hu
   ·intro u hu
    rcases List.mem_cons.1 hu with rfl | hu
    ·exact hvw hw
    ·exact h4 hw hii u hu
  ·cases h
theorem ID {X:Tab} {H:Hp} {tm:Tm} {fn:Func} {K:AV->Option R} (hX:cv P X) (h:ju X H tm fn.results.toList K=some r) :
  ∃ v,K v=some r/\(∀ (Φ:Phi) (S:Nat->Prop) (nt:Nat) (a:Act) (w:World),Rel Φ S H w->TR Φ S nt tm a->(results fn a.tmps).run P w=.ok (v.toV Φ) w/\v.ok Φ S) /\
   (WF H->(∀ t,(tm t).inS (·<H.length))->v.inS (·<H.length)):=by
 unfold ju at h
 obtain ⟨l,h1,h2,h3,h4⟩:=zQ (P:=P) hX _ _ h
 have hrun:∀ (Φ:Phi) (S:Nat->Prop) (nt:Nat) (a:Act) (w:World),Rel Φ S H w->TR Φ S nt tm a ->
   (results fn a.tmps).run P w=.ok (if h:(AV.toVs Φ l).length=1 then (AV.toVs Φ l)[0] else .tuple (AV.toVs Φ l).toArray) w:=λΦ S nt a w hr ht=>by
  have:=(h3 Φ S nt a w hr ht).1
  rw [Uu,Array.mapM_eq_mapM_toList]
  rw [Sem.run_bind,Sem.run_map,this]
  simp
 by_cases hl:l.length=1
 ·obtain ⟨v,rfl⟩:∃ v,l=[v]:=by
   cases l with
   | nil=>simp at hl
   | cons v l=>simp at hl;subst hl;exact ⟨v,rfl⟩
  refine ⟨v,h2,λΦ S nt a w hr ht=>⟨?_,(h3 Φ S nt a w hr ht).2 v (by simp)⟩,λhw hi=>h4 hw hi v (by simp)⟩
  rw [hrun Φ S nt a w hr ht]
  simp [AV.toVs]
 ·refine ⟨.tup l,?_,λΦ S nt a w hr ht=>⟨?_,?_⟩,λhw hi=>?_⟩
  ·split at h2
   ·simp at hl
   ·exact h2
  ·rw [hrun Φ S nt a w hr ht,dif_neg (by rw [et];exact hl)]
   simp [AV.toV]
  ·simp only [AV.ok]
   exact (AV.oks_iff Φ S l).2 (h3 Φ S nt a w hr ht).2
  ·simp only [AV.inS]
   exact (AV.inSs_iff _ l).2 (h4 hw hi)
def jv (args:List AV):Tm:=λi=>args.getD i dp
theorem T.of {Y:Tabs} {C:Orc (AV×Hp)} {PN:Nat->List Nat} {LH:Nat->List Nat->Nat->Tm->Hp->OA} {F:Nat} {TB:Nat->List (List Nat)} {f:FuncId} {fn:Func} {code:Code}
  (hm : P.follows .mixedOrders = true) (hX : cv P Y.ty) (hC : COk P C) (hf : P.funcs[f]? = some fn) (hname : (fn.name == "runtime.NumGoroutine") = false) (hb : fn.body = some code) (hcode : gk PN fn.ntmps TB code = true)
  {args:List AV} (hargs:args.length<=fn.ntmps) {H:Hp} {v:AV} {H':Hp}
  (hl:af Y C PN LH F [] 1 code (λtm H=>ju Y.ty H tm fn.results.toList λv=>some (v,H)) (λ_ _ _=>none) (λtm H=>ju Y.ty H tm fn.results.toList λv=>some (v,H)))
  (h:cD Y C PN LH F [] 1 code (jv args) H (λtm H=>ju Y.ty H tm fn.results.toList λv=>some (v,H)) (λ_ _ _=>none) (λtm H=>ju Y.ty H tm fn.results.toList λv=>some (v,H))=some (v,H')) :
  T P f args H v H' where
 enters:=λvs w=>by
  have h1 : fn.name ≠ "runtime.NumGoroutine" := by simpa using hname
  simp [callFunc,hf,h1,hb,mark]
 run:=λhw Φ S w hr hok=>by
  refine calls_of_wp hf hb ?_
  have htr:TR Φ S fn.ntmps (jv args) { tmps:=(AV.toVs Φ args).toArray++Array.replicate (fn.ntmps - (AV.toVs Φ args).toArray.size) undef,defers:=[] }:=by
   refine ⟨rfl,by simp [et];omega,λt=>?_⟩
   simp only [jv,Array.getD_eq_getD_getElem?,List.getD_eq_getElem?_getD]
   by_cases ht:t<args.length
   ·have h1:args[t]?=some args[t]:=List.getElem?_eq_getElem ht
    rw [Array.getElem?_append_left (by simp [et];exact ht)]
    simp only [List.getElem?_toArray,iW,h1,Option.map_some,Option.getD_some]
    exact ⟨trivial,hok _ (List.getElem_mem ht)⟩
   ·have h1:args[t]?=none:=List.getElem?_eq_none (by omega)
    rw [h1]
    rw [Array.getElem?_append_right (by simp [et];omega)]
    simp only [Array.getElem?_replicate,Option.getD_none]
    refine ⟨?_,by simp [dp,AV.ok,AV.oks]⟩
    split <;> simp [dp,AV.toV,AV.toVs,undef]
  have hsr:SR Φ S H w fn.ntmps (jv args) H { tmps:=(AV.toVs Φ args).toArray++Array.replicate (fn.ntmps - (AV.toVs Φ args).toArray.size) undef,defers:=[] } w:=
   ⟨hw,Φ,Post.refl hr,by rw [iT];exact htr⟩
  have fin:∀ tm' Hx a' w',SR Φ S H w fn.ntmps tm' Hx a' w'->(ju Y.ty Hx tm' fn.results.toList λv=>some (v,Hx))=some (v,H') ->
    a'.defers=[]/\∃ u,(results fn a'.tmps).run P w'=.ok u w'/\∃ Φ',Ending.returned u=.returned (v.toV Φ')/\Post Φ S H w Φ' H' w'/\v.ok Φ' (ext S H H'):=by
   rintro tm' Hx a' w' ⟨hw',Φ',hp,ht⟩ hres
   obtain ⟨u,hu,h2,_⟩:=ID (P:=P) hX hres
   simp only [Option.some.injEq,Prod.mk.injEq] at hu
   obtain ⟨rfl,rfl⟩:=hu
   obtain ⟨g1,g2⟩:=h2 Φ' _ _ a' w' hp.rel ht
   exact ⟨ht.defers,_,g1,Φ',rfl,hp,g2⟩
  exact Ur hm hX hC code [] 1 (jv args) H _ _ _ _ _ _ hl hcode h hsr fin (λj tm' Hx a' w' _ hx=>by cases hx) fin
 wf:=λhw hi=>by
  have hai:gV H.length (jv args) H:=⟨hw,λt=>by
   simp only [jv,List.getD_eq_getElem?_getD]
   by_cases ht:t<args.length
   ·rw [List.getElem?_eq_getElem ht];exact hi _ (List.getElem_mem ht)
   ·rw [List.getElem?_eq_none (by omega)];simp [dp,AV.inS,AV.inSs],Nat.le_refl _⟩
  have fin:∀ tm' Hx,gV H.length tm' Hx->(ju Y.ty Hx tm' fn.results.toList λv=>some (v,Hx))=some (v,H')->WF H'/\v.inS (·<H'.length)/\H.length<=H'.length:=by
   rintro tm' Hx ⟨hw',hi',hn⟩ hres
   obtain ⟨u,hu,_,h3⟩:=ID (P:=P) hX hres
   simp only [Option.some.injEq,Prod.mk.injEq] at hu
   obtain ⟨rfl,rfl⟩:=hu
   exact ⟨hw',h3 hw' hi',hn⟩
  exact Us hX hC code [] 1 (jv args) H _ _ _ hl h hai fin (λj tm' Hx _ hx=>by cases hx) fin
end Go.AE
end
section
namespace Go.AE
variable {P:Program} {R:Type}
noncomputable instance decCons (H H':Hp):Decidable (aK H H'):=Classical.propDecidable _
def Sl.capK (s:Sl) (K:Nat->Option R):Option R:=match s with
 | ⟨_,_,.ex c⟩=>K c
 | _=>none
def Hp.new (H:Hp) (cells:List AV):Option Hp:=some (H++[⟨cells,true,true⟩])
def bw (l:List (FuncId×(List AV->Hp->OA))):Orc R:=λf args H K=>((l.find? λp=>p.1==f).bind λp=>p.2 args H).bind λr=>K r.1 r.2
theorem Uv {l:List (FuncId×(List AV->Hp->OA))} (h:∀ p∈l,∀ args H v H',p.2 args H=some (v,H')->T P p.1 args H v H'):COk P (bw l:Orc R):=by
 intro f args H K r hr
 unfold bw at hr
 obtain ⟨q,h1,h2⟩:=ae hr
 obtain ⟨p,h3,h4⟩:=ae h1
 have h5:=List.find?_some h3
 have h6:=List.mem_of_find?_eq_some h3
 simp at h5
 subst h5
 exact ⟨q.1,q.2,h p h6 args H q.1 q.2 h4,h2⟩
section
variable {Y:Tabs} {C:Orc R} {PN:Nat->List Nat} {LH:Nat->List Nat->Nat->Tm->Hp->Option R} {F:Nat}
def hQ:Code->Bool
 | .seq a b=>hQ a&&hQ b
 | .cond _ a b=>hQ a&&hQ b
 | .block _ b=>hQ b
 | .loop _=>false
 | _=>true
theorem uv:∀ {c:Code} {ks:List Nat} {p:Nat} {Kn:Tm->Hp->Option R} {Kx:Nat->Tm->Hp->Option R} {Kr:Tm->Hp->Option R},hQ c=true->af Y C PN LH F ks p c Kn Kx Kr:=by
 intro c
 induction c with
 | seq a b iha ihb=>intro ks p Kn Kx Kr h;simp only [hQ,Bool.and_eq_true] at h;exact ⟨iha h.1,ihb h.2⟩
 | cond c a b iha ihb=>intro ks p Kn Kx Kr h;simp only [hQ,Bool.and_eq_true] at h;exact ⟨iha h.1,ihb h.2⟩
 | block id b ih=>intro ks p Kn Kx Kr h;exact ih h
 | loop b ih=>intro ks p Kn Kx Kr h;cases h
 | _=>intros;trivial
theorem af.seq {ks:List Nat} {p:Nat} {a b:Code} {Kn:Tm->Hp->Option R} {Kx:Nat->Tm->Hp->Option R} {Kr:Tm->Hp->Option R}
  (h1:af Y C PN LH F ks (2 * p) a (λtm H=>cD Y C PN LH F ks (2 * p+1) b tm H Kn Kx Kr) Kx Kr) (h2:af Y C PN LH F ks (2 * p+1) b Kn Kx Kr):af Y C PN LH F ks p (.seq a b) Kn Kx Kr:=⟨h1,h2⟩
theorem af.cond {ks:List Nat} {p:Nat} {c:Operand} {a b:Code} {Kn:Tm->Hp->Option R} {Kx:Nat->Tm->Hp->Option R} {Kr:Tm->Hp->Option R}
  (h1:af Y C PN LH F ks (2 * p) a Kn Kx Kr) (h2:af Y C PN LH F ks (2 * p+1) b Kn Kx Kr):af Y C PN LH F ks p (.cond c a b) Kn Kx Kr:=⟨h1,h2⟩
theorem af.block {ks:List Nat} {p id:Nat} {b:Code} {Kn:Tm->Hp->Option R} {Kx:Nat->Tm->Hp->Option R} {Kr:Tm->Hp->Option R}
  (h:af Y C PN LH F ks p b Kn (λj tm H=>bif j.beq id then Kn tm H else Kx j tm H) Kr):af Y C PN LH F ks p (.block id b) Kn Kx Kr:=h
theorem af.loop {ks:List Nat} {p:Nat} {b:Code} {Kn:Tm->Hp->Option R} {Kx:Nat->Tm->Hp->Option R} {Kr:Tm->Hp->Option R} (h0:∀ tm H,LH p ks 0 tm H=none)
  (h1:∀ k tm H r,LH p ks (k+1) tm H=some r->cD Y C PN LH F (k::ks) (2 * p) b tm H (LH p ks k) Kx Kr=some r)
  (h2:∀ k,af Y C PN LH F (k::ks) (2 * p) b (LH p ks k) Kx Kr):af Y C PN LH F ks p (.loop b) Kn Kx Kr:=⟨h0,λk=>⟨h1 k,h2 k⟩⟩
end
theorem Uw {α:Type} {x:Option α} (h:∀ r,x=some r->False):x=none:=by
 cases x with
 | none=>rfl
 | some r=>exact absurd rfl (λe=>h r e)
section
variable {Y:Tabs} {C:Orc R} {PN:Nat->List Nat} {LH:Nat->List Nat->Nat->Tm->Hp->Option R} {F:Nat} {ks:List Nat} {p:Nat} {a b:Code} {Kn:Tm->Hp->Option R} {Kx:Nat->Tm->Hp->Option R} {Kr:Tm->Hp->Option R}
theorem af.rt (h2:af Y C PN LH F ks (2 * p+1) b Kn Kx Kr) (h:hQ a=true:=by kernel_rfl):af Y C PN LH F ks p (.seq a b) Kn Kx Kr:=⟨uv h,h2⟩
theorem af.lt (h1:af Y C PN LH F ks (2 * p) a (λtm H=>cD Y C PN LH F ks (2 * p+1) b tm H Kn Kx Kr) Kx Kr) (h:hQ b=true:=by kernel_rfl):af Y C PN LH F ks p (.seq a b) Kn Kx Kr:=⟨h1,uv h⟩
theorem af.no (h:hQ a=true:=by kernel_rfl):af Y C PN LH F ks p a Kn Kx Kr:=uv h
end
theorem af.la {R:Type} {Y:Tabs} {C:Orc R} {PN:Nat->List Nat} {LH:Nat->List Nat->Nat->Tm->Hp->Option R} {F:Nat} {ks:List Nat} {p:Nat} {b:Code} {Kn:Tm->Hp->Option R} {Kx:Nat->Tm->Hp->Option R} {Kr:Tm->Hp->Option R}
  (h:∀ n tm H r,LH p ks n tm H=some r->∃ k,n=k+1/\cD Y C PN LH F (k::ks) (2 * p) b tm H (LH p ks k) Kx Kr=some r)
  (h2:∀ k,af Y C PN LH F (k::ks) (2 * p) b (LH p ks k) Kx Kr):af Y C PN LH F ks p (.loop b) Kn Kx Kr:=
 af.loop (λtm H=>Uw λr e=>by obtain ⟨k,q,_⟩:=h 0 tm H r e;cases q) (λk tm H r e=>by obtain ⟨k',q,g⟩:=h (k+1) tm H r e;cases q;exact g) h2
def cR (tm:Tm):List (Nat×AV)->Prop
 | []=>True
 | p::l=>tm p.1=p.2/\cR tm l
def zR (tm:Tm):List (Nat×AV)->Tm
 | []=>tm
 | p::l=>Tm.put (zR tm l) p.1 p.2
theorem cS {tm:Tm}:∀ {l:List (Nat×AV)},cR tm l->zR tm l=tm
 | [],_=>rfl
 | p::l,h=>by rw [zR,cS h.2];exact Tm.put_same h.1
section
variable {Y:Tabs} {PN:Nat->List Nat} {LH:Nat->List Nat->Nat->Tm->Hp->OA} {TB:Nat->List (List Nat)} {F:Nat}
noncomputable def kk (Y:Tabs) (fn:Func) (tm:Tm) (H:Hp):OA:=ju Y.ty H tm fn.results.toList λv=>some (v,H)
def nox (_:Nat) (_:Tm) (_:Hp):OA:=none
noncomputable def lh0 (_:Nat) (_:List Nat) (_:Nat) (_:Tm) (_:Hp):OA:=none
def bk {α:Type} (_:Nat):List α:=[]
def cG {α:Type} (l:List (Nat×List α)) (i:Nat):List α:=(l.lookup i).getD []
def LOk (Y:Tabs) (C:Orc (AV×Hp)) (PN:Nat->List Nat) (LH:Nat->List Nat->Nat->Tm->Hp->OA) (F:Nat) (fn:Func):Prop:=af Y C PN LH F [] 1 (fn.body.getD .skip) (kk Y fn) nox (kk Y fn)
noncomputable def EXe (Y:Tabs) (C:Orc (AV×Hp)) (PN:Nat->List Nat) (LH:Nat->List Nat->Nat->Tm->Hp->OA) (F:Nat) (fn:Func) (args:List AV) (H:Hp):OA:=cD Y C PN LH F [] 1 (fn.body.getD .skip) (jv args) H (kk Y fn) nox (kk Y fn)
def uu (PN : Nat → List Nat) (TB : Nat → List (List Nat)) (fn : Func) (m : Nat) : Bool := fn.body.isSome && ((!(fn.name == "runtime.NumGoroutine")) && (gk PN fn.ntmps TB (fn.body.getD .skip) && Nat.ble m fn.ntmps))
def Ok (P:Program) (n:FuncId) (g:List AV->Hp->OA):Prop:=∀ args H v H',g args H=some (v,H')->T P n args H v H'
abbrev Cs:=List (FuncId×(List AV->Hp->OA))
theorem cw:∀ p∈([]:Cs),Ok P p.1 p.2:=λp h=>by cases h
theorem bf {n:FuncId} {g:List AV->Hp->OA} {l:Cs} (h:Ok P n g) (t:∀ p∈l,Ok P p.1 p.2):∀ p∈(n,g)::l,Ok P p.1 p.2:=λp hp=>by
 rcases List.mem_cons.1 hp with rfl | hp
 ·exact h
 ·exact t p hp
theorem T.of2 {fn:Func} {n:FuncId} {cs:Cs} {args:List AV} {H:Hp} {v:AV} {H':Hp} (hm:P.follows .mixedOrders=true) (hX:cv P Y.ty) (hcs:∀ p∈cs,Ok P p.1 p.2) (hf:P.funcs[n]?=some fn) (hl:LOk Y (bw cs) PN LH F fn)
  (h:EXe Y (bw cs) PN LH F fn args H=some (v,H')) (hk:uu PN TB fn args.length=true):T P n args H v H':=by
 unfold uu at hk
 simp only [Bool.and_eq_true,Bool.not_eq_true'] at hk
 obtain ⟨h1,h2,h3,h4⟩:=hk
 obtain ⟨code,hb⟩:=Option.isSome_iff_exists.1 h1
 have e:fn.body.getD .skip=code:=by rw [hb];rfl
 unfold LOk at hl
 unfold EXe at h
 rw [e] at hl h h3
 exact T.of (Y:=Y) (C:=bw cs) (PN:=PN) (LH:=LH) (F:=F) (TB:=TB) (fn:=fn) (code:=code) hm hX (Uv hcs) hf h2 hb h3 (Nat.le_of_ble_eq_true h4) hl h
end
end Go.AE
end
section
namespace Go.AE
open Go.RowKit
variable {P:Program}
def RoH (H:Hp):Prop:=∀ (b:Nat) (blk:Blk),H[b]?=some blk->blk.own=false/\blk.live=true
structure Ro (Φ:Phi) (H:Hp) (w:World):Prop where
 ro:RoH H
 rel:Rel Φ (·<H.length) H w
theorem RoH.snoc {H:Hp} (h:RoH H) (cells:List AV):RoH (H++[⟨cells,false,true⟩]):=by
 intro b blk hb
 rcases Nat.lt_or_ge b H.length with h1 | h1
 ·rw [List.getElem?_append_left h1] at hb;exact h b blk hb
 ·rw [List.getElem?_append_right h1] at hb
  have:blk=⟨cells,false,true⟩:=by
   cases e:b - H.length with
   | zero=>rw [e] at hb;simpa using hb.symm
   | succ n=>rw [e] at hb;simp at hb
  subst this;exact ⟨rfl,rfl⟩
theorem Ro.nil (Φ:Phi) (w:World):Ro Φ [] w:=
 ⟨λb blk h=>by simp at h,⟨λb h=>h,λb blk h=>absurd h (Nat.not_lt_zero _),λb blk h=>absurd h (Nat.not_lt_zero _),λb blk h=>absurd h (Nat.not_lt_zero _),λb blk b' blk' h=>absurd h (Nat.not_lt_zero _),λb blk b' blk' h=>absurd h (Nat.not_lt_zero _)⟩⟩
theorem Ro.snoc {Φ:Phi} {H:Hp} {w:World} (h:Ro Φ H w) (B O K:Nat) (cells:List AV) (hok:∀ v∈cells,v.ok Φ (·<H.length)/\v.isCell=true)
  (hc:∀ i v,cells[i]?=some v->w.cell? ⟨B,O+i,none⟩=some (v.toV Φ)):Ro (Φ.put H.length B O K) (H++[⟨cells,false,true⟩]) w:=by
 have hag:Φ.agree (Φ.put H.length B O K) (·<H.length):=Phi.put_agree (by simp)
 have hlen:∀ b,b<H.length->b<(H++[(⟨cells,false,true⟩:Blk)]).length:=λb hb=>by simp;omega
 have up:∀ v:AV,v.ok Φ (·<H.length)->v.ok (Φ.put H.length B O K) (·<(H++[(⟨cells,false,true⟩:Blk)]).length)/\v.toV (Φ.put H.length B O K)=v.toV Φ:=λv hv=>
  ⟨AV.ok_agree hag hlen _ hv,(AV.toV_agree hag _ (AV.ok_inS _ hv))⟩
 have hro:=h.ro.snoc cells
 have noown:∀ (b:Nat) (blk:Blk),(H++[(⟨cells,false,true⟩:Blk)])[b]?=some blk->blk.own=true->False:=λb blk hb ho=>by
  have:=(hro b blk hb).1;rw [this] at ho;cases ho
 refine ⟨hro,⟨λb hb=>hb,λb blk hb hx hl v hv=>?_,λb blk hb hx hl i v hv=>?_,λb blk hb hx hl ho=>(noown b blk hx ho).elim,λb blk b' blk' hb hb' hx hx' hl hl' ho=>(noown b blk hx ho).elim,λb blk b' blk' hb hb' hx hx' hl hl' ho=>(noown b blk hx ho).elim⟩⟩
 ·rcases Nat.lt_or_ge b H.length with h1 | h1
  ·rw [List.getElem?_append_left h1] at hx
   obtain ⟨c1,c2⟩:=h.rel.closed b blk h1 hx hl v hv
   exact ⟨(up v c1).1,c2⟩
  ·rw [List.getElem?_append_right h1] at hx
   have hb0:b - H.length=0:=by simp at hb;omega
   rw [hb0] at hx
   simp at hx;subst hx
   exact ⟨(up v (hok v hv).1).1,(hok v hv).2⟩
 ·rcases Nat.lt_or_ge b H.length with h1 | h1
  ·rw [List.getElem?_append_left h1] at hx
   have c1:=(h.rel.closed b blk h1 hx hl v (List.mem_of_getElem? hv)).1
   rw [(up v c1).2]
   have:=h.rel.cell b blk h1 hx hl i v hv
   obtain ⟨a1,a2,a3⟩:=hag b h1
   rw [a1,a2];exact this
  ·rw [List.getElem?_append_right h1] at hx
   have hb0:b - H.length=0:=by simp at hb;omega
   have hbe:b=H.length:=by simp at hb;omega
   rw [hb0] at hx
   simp at hx;subst hx
   have c1:=(hok v (List.mem_of_getElem? hv)).1
   rw [(up v c1).2,hbe,Phi.put_b,Phi.put_o]
   exact hc i v hv
theorem Ro.wf {Φ:Phi} {H:Hp} {w:World} (h:Ro Φ H w):WF H:=λb blk hb hl v hv=>
 AV.ok_inS _ (h.rel.closed b blk (List.getElem?_eq_some_iff.1 hb).1 hb hl v hv).1
theorem Ro.noown {Φ:Phi} {H:Hp} {w:World} (h:Ro Φ H w) {S:Nat->Prop} (k:Nat):¬ Own Φ S H k:=λ⟨b,blk,_,hb,ho,_⟩=>by
 have:=(h.ro b blk hb).1;rw [this] at ho;cases ho
theorem T.calls {f:FuncId} {args:List AV} {H H':Hp} {v:AV} {Φ:Phi} {w:World} (t:T P f args H v H') (h:Ro Φ H w) (ha:∀ a∈args,a.ok Φ (·<H.length)) :
  Calls P f (AV.toVs Φ args).toArray w λe w'=>∃ Φ',e=.returned (v.toV Φ')/\Below w.heap.size w w'/\Rel Φ' (·<H'.length) H' w'/\v.ok Φ' (·<H'.length) /\
   (∀ k,k<w.heap.size->¬ Own Φ' (·<H'.length) H' k):=by
 refine (t.run h.wf Φ _ w h.rel ha).mono λe w' ⟨Φ',he,hp,hv⟩=>?_
 have hext:ext (·<H.length) H H'=(·<H'.length):=by
  funext b;simp only [ext];apply propext
  have:=hp.len
  constructor
  ·rintro (q | q) <;> omega
  ·intro q
   by_cases c:b<H.length
   ·exact .inl c
   ·exact .inr ⟨by omega,q⟩
 have hrel:=hp.rel
 rw [hext] at hrel hv
 refine ⟨Φ',he,⟨hp.os,hp.tape,hp.output,hp.size,λk hk=>hp.frame k hk (h.noown k)⟩,hrel,hv,λk hk ho=>?_⟩
 rw [<- hext] at ho
 exact h.noown k (hp.own k hk ho)
theorem Ro.ints {Φ:Phi} {H:Hp} {w:World} (h:Ro Φ H w) (B O:Nat) (k:IntKind) (l:List Int) (hc:∀ i x,l[i]?=some x->w.cell? ⟨B,O+i,none⟩=some (.int k x)) :
  Ro (Φ.put H.length B O 0) (H++[⟨l.map (AV.int k),false,true⟩]) w:=
 h.snoc B O 0 _ (λv hv=>by obtain ⟨x,_,rfl⟩:=List.mem_map.1 hv;simp [AV.ok,AV.isCell]) (λi v hv=>by
  rw [List.getElem?_map] at hv
  obtain ⟨x,hx,rfl⟩:=Option.map_eq_some_iff.1 hv
  exact hc i x hx)
end Go.AE
end
section
namespace Go.AE
open Go.RowKit
theorem aS {x:Int} (h0:-9223372036854775808<=x) (h1:x<=9223372036854775807):IntKind.i64.wrap x=x:=by
 simp only [IntKind.wrap,IntKind.signed,IntKind.bits]
 simp
 omega
end Go.AE
end
section
namespace Go.AE
def At (H:Hp) (b:Nat) (cells:List AV):Prop:=H[b]?=some ⟨cells,true,true⟩
def dv (B:Nat->Prop) (H H':Hp):Prop:=H.length<=H'.length/\∀ b,b<H.length->¬ B b->H'[b]?=H[b]?
theorem dv.refl (B:Nat->Prop) (H:Hp):dv B H H:=⟨Nat.le_refl _,λ_ _ _=>rfl⟩
theorem dv.trans {B:Nat->Prop} {H H' H'':Hp} (h:dv B H H') (h':dv B H' H''):dv B H H'':=
 ⟨Nat.le_trans h.1 h'.1,λb hb hn=>(h'.2 b (Nat.lt_of_lt_of_le hb h.1) hn).trans (h.2 b hb hn)⟩
theorem dv.mono {B B':Nat->Prop} {H H':Hp} (h:dv B H H') (hB:∀ b,B b->B' b):dv B' H H':=⟨h.1,λb hb hn=>h.2 b hb (λq=>hn (hB b q))⟩
theorem dv.push (B:Nat->Prop) (H l:Hp):dv B H (H++l):=⟨by simp,λb hb _=>by rw [List.getElem?_append_left hb]⟩
theorem dv.pre {B:Nat->Prop} {H H':Hp} (h:H <+: H'):dv B H H':=by obtain ⟨l,rfl⟩:=h;exact dv.push B H l
theorem dv.set (H:Hp) (b:Nat) (x:Blk):dv (·=b) H (H.set b x):=⟨by simp,λc _ hn=>by rw [List.getElem?_set_ne (λq=>hn q.symm)]⟩
theorem At.lt {H:Hp} {b:Nat} {cells:List AV} (h:At H b cells):b<H.length:=(List.getElem?_eq_some_iff.1 h).1
theorem At.keep {B:Nat->Prop} {H H':Hp} {b:Nat} {cells:List AV} (h:At H b cells) (hk:dv B H H') (hb:¬ B b):At H' b cells:=(hk.2 b h.lt hb).trans h
theorem At.new (H:Hp) (cells:List AV):At (H++[⟨cells,true,true⟩]) H.length cells:=by unfold At;simp
theorem At.cell {H:Hp} {b:Nat} {cells:List AV} (h:At H b cells) (o:Nat):H.cell b o=cells[o]?:=by unfold Hp.cell;rw [h];rfl
theorem At.ldI {H:Hp} {b:Nat} {cells:List AV} (h:At H b cells) {k:IntKind} {o:Nat} {n:Int} (hc:cells[o]?=some (.int k n)):H.ldI k b o=some n:=by
 unfold Hp.ldI;rw [h.cell,hc];simp [AV.asI]
theorem At.ldB {H:Hp} {b:Nat} {cells:List AV} (h:At H b cells) {o:Nat} {n:Bool} (hc:cells[o]?=some (.bool n)):H.ldB b o=some n:=by
 unfold Hp.ldB;rw [h.cell,hc];simp [AV.asB]
theorem At.ldSl {H:Hp} {b:Nat} {cells:List AV} (h:At H b cells) {o:Nat} {s:Sl} (hc:cells[o]?=some (.sl s)):H.ldSl b o=some s:=by
 unfold Hp.ldSl;rw [h.cell,hc];simp [AV.asSl]
theorem At.st {H:Hp} {b:Nat} {cells:List AV} (h:At H b cells) {o:Nat} {v:AV} (ho:o<cells.length) (hv:v.isCell=true) :
  H.st b o v=some (H.set b ⟨cells.set o v,true,true⟩)/\At (H.set b ⟨cells.set o v,true,true⟩) b (cells.set o v):=by
 constructor
 ·unfold Hp.st;rw [h];simp [hv,ho]
 ·unfold At;rw [List.getElem?_set_self h.lt]
theorem Hp.kill_keep (H:Hp) (b:Nat):dv (·=b) H (H.kill b):=by
 unfold Hp.kill
 split
 ·exact dv.set H b _
 ·exact dv.refl _ _
end Go.AE
end
section
namespace Go.AE
structure Ow where
 t:Bool
 s:Sl
 z:Nat
 pre:List AV
 cells:List AV
 rest:List AV
inductive Rs where
 | blk (b:Nat) (cells:List AV)
 | ow (t:Bool) (s:Sl) (z:Nat) (pre cells rest:List AV)
 | many (l:List Ow)
abbrev Rs.own (s:Sl) (z:Nat) (cells:List AV):Rs:=.ow true s z [] cells []
def lvs (t:Bool) (s:Sl):Bool:=match t with | true=>decide (s.c≠.ex 0) | false=>decide (s.n≠0)
def c_ (t:Bool) (s:Sl):Option Nat:=if lvs t s=true then s.a.map (·.1) else none
theorem gW {t:Bool} {s:Sl} (h:lvs t s=true):c_ t s=s.a.map (·.1):=if_pos h
theorem gX {t:Bool} {s:Sl} {b:Nat} (h:c_ t s=some b):lvs t s=true/\s.a.map (·.1)=some b:=by
 unfold c_ at h
 split at h
 ·exact ⟨by assumption,h⟩
 ·cases h
def Rs.has:Rs->Nat->Prop
 | .blk b _,c=>b=c
 | .ow t s _ _ _ _,c=>c_ t s=some c
 | .many l,c=>∃ q∈l,c_ q.t q.s=some c
def Sl.fits (s:Sl) (z:Nat):Prop:=match s.c with | .ex c=>s.n<=c | .full z'=>z'=z/\s.a.isSome=true | .tip z' _=>z'=z/\s.a.isSome=true/\s.n=0
def owk (H:Hp) (t:Bool) (s:Sl) (z:Nat) (pre cells rest:List AV):Prop:=cells.length=s.n * z/\0<z/\(lvs t s=false->s.n=0)/\(lvs t s=true->∃ p,s.a=some p/\s.ad=s.a/\p.2=pre.length/\At H p.1 (pre++cells++rest))/\s.fits z/\(t=true->pre=[]/\rest=[]/\(lvs true s=true->s.c=.full z\/s.c=.ex s.n))
def Rs.ok (H:Hp):Rs->Prop
 | .blk b cells=>At H b cells
 | .ow t s z pre cells rest=>owk H t s z pre cells rest
 | .many l=>(∀ q∈l,owk H q.t q.s q.z q.pre q.cells q.rest)/\∀ (i j:Nat) (q q':Ow),l[i]?=some q->l[j]?=some q'->i≠j->∀ b,c_ q.t q.s=some b->c_ q'.t q'.s≠some b
def inK (R:List Rs) (b:Nat):Prop:=∃ r∈R,r.has b
structure W (H:Hp) (R:List Rs):Prop where
 ok:∀ r∈R,r.ok H
 nd:∀ (i j:Nat) (r r':Rs),R[i]?=some r->R[j]?=some r'->i≠j->∀ b,r.has b->¬ r'.has b
structure Fr (H:Hp) (R:List Rs) (H':Hp) (R':List Rs):Prop where
 len:H.length<=H'.length
 keep:∀ b,b<H.length->¬ inK R b->H'[b]?=H[b]?
 sub:∀ b,inK R' b->inK R b\/H.length<=b
theorem Fr.refl (H:Hp) (R:List Rs):Fr H R H R:=⟨Nat.le_refl _,λ_ _ _=>rfl,λ_ h=>.inl h⟩
theorem Fr.trans {H H' H'':Hp} {R R' R'':List Rs} (h:Fr H R H' R') (h':Fr H' R' H'' R''):Fr H R H'' R'' where
 len:=Nat.le_trans h.len h'.len
 keep:=λb hb hn=>(h'.keep b (Nat.lt_of_lt_of_le hb h.len) (λq=>(h.sub b q).elim hn (λq=>by omega))).trans (h.keep b hb hn)
 sub:=λb hb=>(h'.sub b hb).elim (h.sub b) (λq=>.inr (Nat.le_trans h.len q))
theorem IE {H H':Hp} {t:Bool} {s:Sl} {z:Nat} {pre cells rest:List AV} (h:owk H t s z pre cells rest) (hk:∀ b,c_ t s=some b->H'[b]?=H[b]?):owk H' t s z pre cells rest:=by
 obtain ⟨h1,h2,h3,h4,h5⟩:=h
 refine ⟨h1,h2,h3,λhc=>?_,h5⟩
 obtain ⟨p,g1,g2,g3,g4⟩:=h4 hc
 exact ⟨p,g1,g2,g3,(hk p.1 (by rw [gW hc,g1];rfl)).trans g4⟩
theorem nl {H:Hp} {t:Bool} {s:Sl} {z:Nat} {pre cells rest:List AV} (h:owk H t s z pre cells rest) {b:Nat} (hb:c_ t s=some b):At H b (pre++cells++rest):=by
 obtain ⟨h1,h2,h3,h4,h5⟩:=h
 obtain ⟨hc,hb⟩:=gX hb
 obtain ⟨p,g1,g2,g3,g4⟩:=h4 hc
 rw [g1] at hb;cases hb;exact g4
theorem Rs.ok_keep {H H':Hp} {r:Rs} (h:r.ok H) (hk:∀ b,r.has b->H'[b]?=H[b]?):r.ok H':=by
 cases r with
 | blk b cells=>exact (hk b rfl).trans h
 | ow t s z pre cells rest=>exact IE h hk
 | many l=>exact ⟨λq hq=>IE (h.1 q hq) (λb hb=>hk b ⟨q,hq,hb⟩),h.2⟩
theorem Rs.ok_lt {H:Hp} {r:Rs} (h:r.ok H) {b:Nat} (hb:r.has b):b<H.length:=by
 cases r with
 | blk b' cells=>cases hb;exact At.lt h
 | ow t s z pre cells rest=>exact (nl h hb).lt
 | many l=>obtain ⟨q,hq,hb⟩:=hb;exact (nl (h.1 q hq) hb).lt
theorem Rs.key_own {H:Hp} {t:Bool} {s:Sl} {z:Nat} {pre cells rest:List AV} (h:Rs.ok H (.ow t s z pre cells rest)) {b:Nat} (hb:Rs.has (.ow t s z pre cells rest) b):At H b (pre++cells++rest):=nl h hb
theorem W.lt {H:Hp} {R:List Rs} (w:W H R) {b:Nat} (hb:inK R b):b<H.length:=by
 obtain ⟨r,hr,hk⟩:=hb;exact Rs.ok_lt (w.ok r hr) hk
theorem W.upd {H H':Hp} {R:List Rs} {i:Nat} {r r':Rs} (w:W H R) (hi:R[i]?=some r) (hl:H.length<=H'.length) (hk:∀ b,b<H.length->¬ r.has b->H'[b]?=H[b]?) (hr:r'.ok H')
  (hkey:∀ b,r'.has b->r.has b\/H.length<=b):W H' (R.set i r')/\Fr H R H' (R.set i r'):=by
 have hlt:i<R.length:=(List.getElem?_eq_some_iff.1 hi).1
 have get:∀ j x,(R.set i r')[j]?=some x->(j=i/\x=r')\/(j≠i/\R[j]?=some x):=λj x hx=>by
  by_cases e:i=j
  ·subst e;rw [List.getElem?_set_self hlt] at hx;cases hx;exact .inl ⟨rfl,rfl⟩
  ·rw [List.getElem?_set_ne e] at hx;exact .inr ⟨λq=>e q.symm,hx⟩
 refine ⟨⟨λx hx=>?_,λj j' x x' hx hx' hne b hb hb'=>?_⟩,⟨hl,λb hb hn=>hk b hb (λq=>hn ⟨r,List.mem_of_getElem? hi,q⟩),λb hb=>?_⟩⟩
 ·obtain ⟨j,hj⟩:=List.getElem?_of_mem hx
  rcases get j x hj with ⟨_,rfl⟩ | ⟨hne,hx'⟩
  ·exact hr
  ·exact Rs.ok_keep (w.ok x (List.mem_of_getElem? hx')) (λb hb=>hk b (Rs.ok_lt (w.ok x (List.mem_of_getElem? hx')) hb) (w.nd j i x r hx' hi hne b hb))
 ·rcases get j x hx with ⟨e,ex⟩ | ⟨hn,gx⟩
  ·rcases get j' x' hx' with ⟨e',ex'⟩ | ⟨hn',gx'⟩
   ·exact hne (e.trans e'.symm)
   ·rw [ex] at hb
    rcases hkey b hb with q | q
    ·exact w.nd i j' r x' hi gx' (λe=>hn' e.symm) b q hb'
    ·have:=Rs.ok_lt (w.ok x' (List.mem_of_getElem? gx')) hb';omega
  ·rcases get j' x' hx' with ⟨e',ex'⟩ | ⟨hn',gx'⟩
   ·rw [ex'] at hb'
    rcases hkey b hb' with q | q
    ·exact w.nd j i x r gx hi hn b hb q
    ·have:=Rs.ok_lt (w.ok x (List.mem_of_getElem? gx)) hb;omega
   ·exact w.nd j j' x x' gx gx' hne b hb hb'
 ·obtain ⟨x,hx,hb⟩:=hb
  obtain ⟨j,hj⟩:=List.getElem?_of_mem hx
  rcases get j x hj with ⟨_,rfl⟩ | ⟨_,hx'⟩
  ·rcases hkey b hb with q | q
   ·exact .inl ⟨r,List.mem_of_getElem? hi,q⟩
   ·exact .inr q
  ·exact .inl ⟨x,List.mem_of_getElem? hx',hb⟩
theorem W.cons {H H':Hp} {R:List Rs} {r:Rs} (w:W H R) (hl:H.length<=H'.length) (hk:∀ b,b<H.length->H'[b]?=H[b]?) (hr:r.ok H') (hkey:∀ b,r.has b->H.length<=b) :
  W H' (r::R)/\Fr H R H' (r::R):=by
 refine ⟨⟨λx hx=>?_,λj j' x x' hx hx' hne b hb hb'=>?_⟩,⟨hl,λb hb _=>hk b hb,λb hb=>?_⟩⟩
 ·rcases List.mem_cons.1 hx with rfl | hx
  ·exact hr
  ·exact Rs.ok_keep (w.ok x hx) (λb hb=>hk b (Rs.ok_lt (w.ok x hx) hb))
 ·cases j with
  | zero=>
   cases j' with
   | zero=>exact hne rfl
   | succ j'=>
    simp only [List.getElem?_cons_zero,List.getElem?_cons_succ] at hx hx'
    cases hx
    have:=hkey b hb
    have:=Rs.ok_lt (w.ok x' (List.mem_of_getElem? hx')) hb';omega
  | succ j=>
   cases j' with
   | zero=>
    simp only [List.getElem?_cons_zero,List.getElem?_cons_succ] at hx hx'
    cases hx'
    have:=hkey b hb'
    have:=Rs.ok_lt (w.ok x (List.mem_of_getElem? hx)) hb;omega
   | succ j'=>exact w.nd j j' x x' hx hx' (λe=>hne (by rw [e])) b hb hb'
 ·obtain ⟨x,hx,hb⟩:=hb
  rcases List.mem_cons.1 hx with rfl | hx
  ·exact .inr (hkey b hb)
  ·exact .inl ⟨x,hx,hb⟩
theorem W.re {H:Hp} {R R':List Rs} (w:W H R) (f:Nat->Nat) (hf:∀ j r,R'[j]?=some r->R[f j]?=some r) (hi:∀ j j',j<R'.length->j'<R'.length->j≠j'->f j≠f j'):W H R'/\Fr H R H R':=by
 refine ⟨⟨λx hx=>?_,λj j' x x' hx hx' hne b hb hb'=>?_⟩,⟨Nat.le_refl _,λ_ _ _=>rfl,λb hb=>?_⟩⟩
 ·obtain ⟨j,hj⟩:=List.getElem?_of_mem hx
  exact w.ok x (List.mem_of_getElem? (hf j x hj))
 ·exact w.nd _ _ x x' (hf j x hx) (hf j' x' hx') (hi j j' (List.getElem?_eq_some_iff.1 hx).1 (List.getElem?_eq_some_iff.1 hx').1 hne) b hb hb'
 ·obtain ⟨x,hx,hb⟩:=hb
  obtain ⟨j,hj⟩:=List.getElem?_of_mem hx
  exact .inl ⟨x,List.mem_of_getElem? (hf j x hj),hb⟩
def nth:List Rs->Nat->Rs
 | [],_=>.blk 0 []
 | r::_,0=>r
 | _::R,n+1=>nth R n
def pks (R:List Rs):List Nat->List Rs->List Rs
 | [],T=>T
 | i::is,T=>nth R i::pks R is T
def pk (R:List Rs) (ixs:List Nat) (n:Nat):List Rs:=pks R ixs (R.drop n)
theorem IF:∀ (R:List Rs) (i:Nat),nth R i=(R[i]?).getD (.blk 0 [])
 | [],_=>by simp [nth]
 | r::_,0=>by simp [nth]
 | _::R,n+1=>by simp [nth,IF R n]
theorem Ux (R:List Rs) (ixs:List Nat) (n:Nat):pk R ixs n=(ixs.map λi=>(R[i]?).getD (.blk 0 []))++R.drop n:=by
 unfold pk
 induction ixs with
 | nil=>rfl
 | cons i is ih=>rw [pks,ih,IF];rfl
theorem W.pick {H:Hp} {R:List Rs} (w:W H R) (ixs:List Nat) (n:Nat) (hn:n<=R.length) (h:decide (ixs.Nodup)=true) (h':ixs.all (·<n)=true):W H (pk R ixs n)/\Fr H R H (pk R ixs n):=by
 have h1:ixs.Nodup:=of_decide_eq_true h
 have h2:∀ i∈ixs,i<n:=λi hi=>by have:=List.all_eq_true.1 h' i hi;simpa using this
 refine w.re (λj=>if c:j<ixs.length then ixs[j] else j - ixs.length+n) (λj r hj=>?_) (λj j' hj hj' hne=>?_)
 ·rw [Ux] at hj
  by_cases c:j<ixs.length
  ·rw [List.getElem?_append_left (by simpa using c),List.getElem?_map,List.getElem?_eq_getElem c] at hj
   simp only [c,dite_true,Option.map_some,Option.some.injEq] at hj ⊢
   have:=h2 _ (List.getElem_mem c)
   have hh:ixs[j]<R.length:=by omega
   rw [List.getElem?_eq_getElem hh] at hj ⊢
   simpa using hj
  ·rw [List.getElem?_append_right (by simpa using Nat.le_of_not_lt c),List.getElem?_drop] at hj
   simp only [c,dite_false]
   simp only [List.length_map] at hj
   rw [<- hj];congr 1;omega
 ·by_cases c:j<ixs.length
  ·by_cases c':j'<ixs.length
   ·simp only [c,c',dite_true]
    intro e
    exact hne (List.getElem_inj h1 |>.1 e)
   ·simp only [c,c',dite_true,dite_false]
    have:=h2 _ (List.getElem_mem c)
    omega
  ·by_cases c':j'<ixs.length
   ·simp only [c,c',dite_true,dite_false]
    have:=h2 _ (List.getElem_mem c')
    omega
   ·simp only [c,c',dite_false];omega
theorem W.right {H:Hp} {Rb R:List Rs} (w:W H (Rb++R)):W H R/\Fr H (Rb++R) H R:=
 w.re (λj=>Rb.length+j) (λj r hj=>by rw [List.getElem?_append_right (by omega)];rw [<- hj];congr 1;omega) (λj j' _ _ h e=>h (by omega))
theorem W.apart {H:Hp} {Rb R:List Rs} (w:W H (Rb++R)) {r:Rs} (hr:r∈Rb) {b:Nat} (hb:r.has b):¬ inK R b:=by
 rintro ⟨x,hx,hk⟩
 obtain ⟨i,hi⟩:=List.getElem?_of_mem hr
 obtain ⟨j,hj⟩:=List.getElem?_of_mem hx
 have hil:i<Rb.length:=(List.getElem?_eq_some_iff.1 hi).1
 exact w.nd i (Rb.length+j) r x (by rw [List.getElem?_append_left hil];exact hi) (by rw [List.getElem?_append_right (by omega),<-hj];congr 1;omega) (by omega) b hb hk
theorem W.frame {H H':Hp} {Rb R R':List Rs} (w:W H (Rb++R)) (w':W H' R') (st:Fr H R H' R'):W H' (Rb++R')/\Fr H (Rb++R) H' (Rb++R'):=by
 have hmem:∀ r∈Rb,r∈Rb++R:=λr hr=>List.mem_append_left _ hr
 have hb':∀ r∈Rb,∀ b,r.has b->b<H.length/\¬ inK R b:=λr hr b hb=>⟨Rs.ok_lt (w.ok r (hmem r hr)) hb,w.apart hr hb⟩
 have hb'':∀ r∈Rb,∀ b,r.has b->¬ inK R' b:=λr hr b hb q=>by
  obtain ⟨h1,h2⟩:=hb' r hr b hb
  rcases st.sub b q with q | q
  ·exact h2 q
  ·omega
 have hle:∀ {i:Nat} {x:Rs},(Rb++R')[i]?=some x->(i<Rb.length/\Rb[i]?=some x)\/(Rb.length<=i/\R'[i - Rb.length]?=some x):=λ{i x} hx=>by
  by_cases c:i<Rb.length
  ·rw [List.getElem?_append_left c] at hx;exact .inl ⟨c,hx⟩
  ·rw [List.getElem?_append_right (by omega)] at hx;exact .inr ⟨by omega,hx⟩
 refine ⟨⟨λx hx=>?_,λj j' x x' hx hx' hne b hb hc=>?_⟩,⟨st.len,λb hb hn=>st.keep b hb (λ⟨x,hx,hk⟩=>hn ⟨x,List.mem_append_right _ hx,hk⟩),λb hb=>?_⟩⟩
 ·rcases List.mem_append.1 hx with hx | hx
  ·exact Rs.ok_keep (w.ok x (hmem x hx)) (λb hb=>st.keep b (hb' x hx b hb).1 (hb' x hx b hb).2)
  ·exact w'.ok x hx
 ·rcases hle hx with ⟨c,hx⟩ | ⟨c,hx⟩
  ·rcases hle hx' with ⟨c',hx'⟩ | ⟨c',hx'⟩
   ·exact w.nd j j' x x' (by rw [List.getElem?_append_left c];exact hx) (by rw [List.getElem?_append_left c'];exact hx') hne b hb hc
   ·exact hb'' x (List.mem_of_getElem? hx) b hb ⟨x',List.mem_of_getElem? hx',hc⟩
  ·rcases hle hx' with ⟨c',hx'⟩ | ⟨c',hx'⟩
   ·exact hb'' x' (List.mem_of_getElem? hx') b hc ⟨x,List.mem_of_getElem? hx,hb⟩
   ·exact w'.nd _ _ x x' hx hx' (by omega) b hb hc
 ·obtain ⟨x,hx,hk⟩:=hb
  rcases List.mem_append.1 hx with hx | hx
  ·exact .inl ⟨x,hmem x hx,hk⟩
  ·rcases st.sub b ⟨x,hx,hk⟩ with ⟨y,hy,hk'⟩ | q
   ·exact .inl ⟨y,List.mem_append_right _ hy,hk'⟩
   ·exact .inr q
theorem W.cons_of {H H':Hp} {R Rn:List Rs} (w:W H R) (w':W H' (Rn++R)) (st:Fr H R H' (Rn++R)):aK H H':=by
 intro b hb
 by_cases c:inK R b
 ·obtain ⟨r,hr,hk⟩:=c
  have h1:=w.ok r hr
  have h2:=w'.ok r (List.mem_append_right _ hr)
  cases r with
  | blk b' cells=>cases hk;exact Eq.trans (show H'[b]?=_ from h2) (Eq.symm h1)
  | ow t s z pre cells rest=>exact Eq.trans (show H'[b]?=_ from Rs.key_own h2 hk) (Eq.symm (Rs.key_own h1 hk))
  | many l=>obtain ⟨q,hq,hb⟩:=hk;exact Eq.trans (show H'[b]?=_ from nl (h2.1 q hq) hb) (Eq.symm (nl (h1.1 q hq) hb))
 ·exact st.keep b hb c
structure Ety (α:Type) where
 z:Nat
 rep:Hp->List Rs->List AV->α->Prop
 len:∀ {H R c x},rep H R c x->c.length=z
 cell:∀ {H R c x},rep H R c x->∀ v∈c,v.isCell=true
 stab:∀ {H R H' R' c x},Fr H R H' R'->rep H R c x->rep H' R' c x
inductive CR {α:Type} (E:Ety α) (H:Hp) (R:List Rs):List AV->List α->Prop where
 | nil:CR E H R [] []
 | cons {c cs:List AV} {x:α} {l:List α} (h:E.rep H R c x) (t:CR E H R cs l):CR E H R (c++cs) (x::l)
section
variable {α:Type} {E:Ety α} {H H':Hp} {R R':List Rs} {cells:List AV} {l:List α}
theorem CR.step (st:Fr H R H' R') (h:CR E H R cells l):CR E H' R' cells l:=by
 induction h with
 | nil=>exact .nil
 | cons h t ih=>exact .cons (E.stab st h) ih
theorem CR.length (h:CR E H R cells l):cells.length=l.length * E.z:=by
 induction h with
 | nil=>simp
 | cons h t ih=>rw [List.length_append,ih,E.len h,List.length_cons,Nat.succ_mul];omega
theorem CR.app {cells':List AV} {l':List α} (h:CR E H R cells l) (h':CR E H R cells' l'):CR E H R (cells++cells') (l++l'):=by
 induction h with
 | nil=>exact h'
 | cons h t ih=>rw [List.append_assoc];exact .cons h ih
theorem CR.drop (h:CR E H R cells l):∀ n,CR E H R (cells.drop (n * E.z)) (l.drop n):=by
 induction h with
 | nil=>intro n;simp;exact .nil
 | @cons c cs x l h t ih=>
  intro n
  cases n with
  | zero=>simp;exact .cons h t
  | succ n=>
   have e:(c++cs).drop ((n+1) * E.z)=cs.drop (n * E.z):=by
    rw [List.drop_append,E.len h,List.drop_eq_nil_of_le (by rw [E.len h,Nat.succ_mul];omega),List.nil_append,Nat.succ_mul];congr 1;omega
   rw [e];exact ih n
theorem CR.take (h:CR E H R cells l):∀ n,CR E H R (cells.take (n * E.z)) (l.take n):=by
 induction h with
 | nil=>intro n;simp;exact .nil
 | @cons c cs x l h t ih=>
  intro n
  cases n with
  | zero=>simp;exact .nil
  | succ n=>
   have e:(c++cs).take ((n+1) * E.z)=c++cs.take (n * E.z):=by
    rw [List.take_append,E.len h,List.take_of_length_le (by rw [E.len h,Nat.succ_mul];omega),Nat.succ_mul];congr 2;omega
   rw [e];exact .cons h (ih n)
theorem CR.head {x:α} {l:List α} (h:CR E H R cells (x::l)):E.rep H R (cells.take E.z) x:=by
 cases h with
 | @cons c cs _ _ h t=>rw [List.take_append,E.len h,List.take_of_length_le (by rw [E.len h];omega)];simpa using h
theorem CR.chunk (h:CR E H R cells l) {n:Nat} {x:α} (hx:l[n]?=some x):E.rep H R ((cells.drop (n * E.z)).take E.z) x:=by
 have h1:=h.drop n
 have hlt:n<l.length:=(List.getElem?_eq_some_iff.1 hx).1
 rw [List.drop_eq_getElem_cons hlt] at h1
 have h2:=h1.head
 rw [List.getElem?_eq_getElem hlt] at hx
 cases hx;exact h2
theorem CR.set (h:CR E H R cells l):∀ {n j:Nat} {v:AV} {x':α},n<l.length->j<E.z->E.rep H R (((cells.drop (n * E.z)).take E.z).set j v) x'->CR E H R (cells.set (n * E.z+j) v) (l.set n x'):=by
 induction h with
 | nil=>intro n j v x' hn;simp at hn
 | @cons c cs x l h t ih=>
  intro n j v x' hn hj hr
  cases n with
  | zero=>
   have e:((c++cs).drop (0 * E.z)).take E.z=c:=by rw [Nat.zero_mul,List.drop_zero,List.take_append,E.len h,List.take_of_length_le (by rw [E.len h];omega)];simp
   rw [e] at hr
   have:(c++cs).set (0 * E.z+j) v=c.set j v++cs:=by rw [Nat.zero_mul,Nat.zero_add,List.set_append_left _ _ (by rw [E.len h];exact hj)]
   rw [this];exact .cons hr t
  | succ n=>
   have e:((c++cs).drop ((n+1) * E.z))=cs.drop (n * E.z):=by
    rw [List.drop_append,E.len h,List.drop_eq_nil_of_le (by rw [E.len h,Nat.succ_mul];omega),List.nil_append,Nat.succ_mul];congr 1;omega
   rw [e] at hr
   have:(c++cs).set ((n+1) * E.z+j) v=c++cs.set (n * E.z+j) v:=by
    rw [List.set_append_right _ _ (by rw [E.len h,Nat.succ_mul];omega),E.len h,Nat.succ_mul];congr 2;omega
   rw [this];exact .cons h (ih (by simpa using hn) hj hr)
theorem CR.zrow {c:List AV} {x:α} (h:E.rep H R c x):∀ n,CR E H R (zrow n c) (List.replicate n x):=by
 intro n
 rw [uz]
 induction n with
 | zero=>exact .nil
 | succ n ih=>rw [List.replicate_succ,List.flatten_cons,List.replicate_succ];exact .cons h ih
end
structure ROs {α:Type} (E:Ety α) (H:Hp) (R:List Rs) (s:Sl) (l:List α):Prop where
 n:s.n=l.length
 fit:s.fits E.z
 ex:∃ cells,CR E H R cells l/\Sl.row H s E.z=some cells/\∀ p,s.n≠0->s.a=some p->p.1<H.length/\¬ inK R p.1
theorem Sl.row_keep {H H':Hp} {s:Sl} {z:Nat} (h:∀ p,s.n≠0->s.a=some p->H'[p.1]?=H[p.1]?):Sl.row H' s z=Sl.row H s z:=by
 unfold Sl.row
 split
 ·rfl
 ·rename_i hn
  split
  ·rename_i p hp;unfold Hp.row;rw [h p hn (Sl.ad_some hp).1]
  ·rfl
theorem Sl.ad_ex {s:Sl} {c:Nat} (h:s.c=.ex c):s.ad=s.a:=by unfold Sl.ad;rw [h]
theorem Sl.ad_full {s:Sl} {c:Nat} (h:s.c=.full c):s.ad=s.a:=by unfold Sl.ad;rw [h]
theorem ROs.ad {α:Type} {E:Ety α} {H:Hp} {R:List Rs} {s:Sl} {l:List α} (h:ROs E H R s l) (hn:s.n≠0):s.ad=s.a:=by
 have hf:=h.fit
 cases hc:s.c with
 | ex c=>exact Sl.ad_ex hc
 | full c=>exact Sl.ad_full hc
 | tip z o=>unfold Sl.fits at hf;rw [hc] at hf;exact absurd hf.2.2 hn
theorem IG {pre cells rest:List AV} {i:Nat} (h:i<cells.length):(pre++cells++rest)[pre.length+i]?=cells[i]?:=by
 rw [List.append_assoc,List.getElem?_append_right (by omega),Nat.add_sub_cancel_left,List.getElem?_append_left h]
theorem IH {pre cells rest:List AV} {i:Nat} {v:AV} (h:i<cells.length):(pre++cells++rest).set (pre.length+i) v=pre++cells.set i v++rest:=by
 rw [List.append_assoc,List.set_append_right _ _ (by omega),Nat.add_sub_cancel_left,List.set_append_left _ _ h,<-List.append_assoc]
theorem Rs.full {H:Hp} {t:Bool} {s:Sl} {z:Nat} {pre cells rest:List AV} (h:Rs.ok H (.ow t s z pre cells rest)) (hn:s.n≠0) :
  ∃ p,s.a=some p/\s.ad=some p/\p.2=pre.length/\At H p.1 (pre++cells++rest)/\lvs t s=true:=by
 obtain ⟨h1,h2,h3,h4,h5⟩:=h
 have hl:lvs t s=true:=by
  cases e:lvs t s with
  | true=>rfl
  | false=>exact absurd (h3 e) hn
 obtain ⟨p,g1,g2,g3,g4⟩:=h4 hl
 exact ⟨p,g1,by rw [g2,g1],g3,g4,hl⟩
theorem ROs.step {α:Type} {E:Ety α} {H H':Hp} {R R':List Rs} {s:Sl} {l:List α} (st:Fr H R H' R') (h:ROs E H R s l):ROs E H' R' s l:=by
 obtain ⟨hn,hf,cells,hc,hr,ho⟩:=h
 refine ⟨hn,hf,cells,hc.step st,?_,λp h0 hp=>⟨Nat.lt_of_lt_of_le (ho p h0 hp).1 st.len,λq=>?_⟩⟩
 ·rw [Sl.row_keep λp h0 hp=>st.keep _ (ho p h0 hp).1 (ho p h0 hp).2];exact hr
 ·rcases st.sub _ q with q | q
  ·exact (ho p h0 hp).2 q
  ·have:=(ho p h0 hp).1;omega
def bd (k:IntKind):Ety Int:=⟨1,λ_ _ c x=>c=[.int k x],λh=>by rw [h];rfl,λh v hv=>by rw [h] at hv;cases List.mem_singleton.1 hv;rfl,λ_ h=>h⟩
abbrev eI:=bd .i64
def eSl {α:Type} (E:Ety α):Ety (List α):=⟨1,λH R c x=>∃ s,c=[.sl s]/\ROs E H R s x,λ⟨_,h,_⟩=>by rw [h];rfl,λ⟨_,h,_⟩ v hv=>by rw [h] at hv;cases List.mem_singleton.1 hv;rfl,λst ⟨s,h,h'⟩=>⟨s,h,h'.step st⟩⟩
theorem CR.ints (k:IntKind) (H:Hp) (R:List Rs):∀ l:List Int,CR (bd k) H R (l.map (AV.int k)) l
 | []=>.nil
 | x::l=>.cons (c:=[.int k x]) rfl (CR.ints k H R l)
theorem CR.ints_eq {k:IntKind} {H:Hp} {R:List Rs} {cells:List AV} {l:List Int} (h:CR (bd k) H R cells l):cells=l.map (AV.int k):=by
 induction h with
 | nil=>rfl
 | cons h t ih=>rw [ih,show _=_ from h];rfl
def Ety.Flat {α:Type} (E:Ety α):Prop:=∀ {H R H' R' c x},E.rep H R c x->E.rep H' R' c x
theorem gC (k:IntKind):(bd k).Flat:=λh=>h
theorem CR.flat {α:Type} {E:Ety α} (hE:E.Flat) {H H':Hp} {R R':List Rs} {cells:List AV} {l:List α} (h:CR E H R cells l):CR E H' R' cells l:=by
 induction h with
 | nil=>exact .nil
 | cons h t ih=>exact .cons (hE h) ih
end Go.AE
end
section
namespace Go.AE
def ix {α:Type} (l:List α) (i:Int):Option Nat:=if 0<=i/\i<l.length then some i.toNat else none
def gt {α:Type} [Inhabited α] (l:List α) (n:Nat):α:=l.getD n default
def apn {α:Type} (l xs:List α):Option (List α):=if l.length+xs.length<=4294967296 then some (l++xs) else none
def mkn {α:Type} (n:Int) (x:α):Option (List α):=if 0<=n/\n<=4294967296 then some (List.replicate n.toNat x) else none
def cutf {α:Type} (l:List α) (a b:Int):Option (List α):=if 0<=a/\a<=b/\b<=l.length then some ((l.take b.toNat).drop a.toNat) else none
def cpl {α:Type} (d s:List α):List α:=s.take d.length++d.drop s.length
abbrev Rt (x:OA) (Q:AV->Hp->Prop):Prop:=∃ v H',x=some (v,H')/\Q v H'
theorem ai {α:Type} {x:Option α} {a:α} {K:α->OA} {Q:AV->Hp->Prop} (h:x=some a) (g:∃ v H',K a=some (v,H')/\Q v H'):∃ v H',x.bind K=some (v,H')/\Q v H':=by
 rw [h];exact g
theorem zS {c:Bool} {x y:OA} {Q:AV->Hp->Prop} (h1:c=true->∃ v H',x=some (v,H')/\Q v H') (h2:c=false->∃ v H',y=some (v,H')/\Q v H'):∃ v H',(bif c then x else y)=some (v,H')/\Q v H':=by
 cases c with
 | true=>exact h1 rfl
 | false=>exact h2 rfl
theorem HG {c:Prop} [Decidable c] {x:OA} {Q:AV->Hp->Prop} (h:¬ c) (g:∃ v H',x=some (v,H')/\Q v H'):∃ v H',(if c then none else x)=some (v,H')/\Q v H':=by
 rw [if_neg h];exact g
theorem iE {c:Prop} [Decidable c] {x:OA} {Q:AV->Hp->Prop} (h:c) (g:∃ v H',x=some (v,H')/\Q v H'):∃ v H',(if c then x else none)=some (v,H')/\Q v H':=by
 rw [if_pos h];exact g
theorem aE {c:Bool} {ρ:Type} {px py:Option ρ} {r:ρ} {x y:OA} {Q:AV->Hp->Prop} (hp:(bif c then px else py)=some r) (f:px=some r->∃ v H',x=some (v,H')/\Q v H') (g:py=some r->∃ v H',y=some (v,H')/\Q v H'):∃ v H',(bif c then x else y)=some (v,H')/\Q v H':=by
 cases c
 ·exact g hp
 ·exact f hp
theorem aJ {ρ:Type} {a r:ρ} {v:AV} {H:Hp} {Q:ρ->AV->Hp->Prop} (hp:some a=some r) (q:Q a v H):∃ v' H',some (v,H)=some (v',H')/\Q r v' H':=by
 obtain rfl:=Option.some.inj hp
 exact ⟨v,H,rfl,q⟩
theorem kH {c:Prop} {x:OA} {Q:AV->Hp->Prop} (h:c) (g:∃ v H',x=some (v,H')/\Q v H'):∃ v H',ifW c x=some (v,H')/\Q v H':=by
 unfold ifW;rw [if_pos h];exact g
theorem es (v:AV) (H:Hp):dx v H v H=some ():=by unfold dx;exact if_pos ⟨rfl,rfl⟩
theorem cH {α β:Type} {x:Option α} {a:α} {f:α->Option β} {r:Option β} (h:x=some a) (g:f a=r):x.bind f=r:=by subst h;exact g
theorem HF {α:Type} {c:Prop} [Decidable c] {x:Option α} {r:α} (h:(if c then none else x)=some r):¬ c/\x=some r:=by
 split at h
 ·cases h
 ·exact ⟨by assumption,h⟩
theorem eY {α:Type} {c:Prop} [Decidable c] {x:Option α} {r:α} (h:(if c then x else none)=some r):c/\x=some r:=by
 split at h
 ·exact ⟨by assumption,h⟩
 ·cases h
theorem zT {α:Type} {l:List α} {i:Int} {n:Nat} (h:ix l i=some n):n<l.length/\(n:Int)=i:=by
 unfold ix at h;obtain ⟨⟨h0,h1⟩,h2⟩:=eY h;cases h2;omega
theorem jw {α:Type} [Inhabited α] {l:List α} {n:Nat} (h:n<l.length):l[n]?=some (gt l n):=by
 unfold gt;rw [List.getD_eq_getElem?_getD,List.getElem?_eq_getElem h];rfl
theorem bL {H:Hp} {b o:Nat} {k:IntKind} {n:Int} (h:H.cell b o=some (.int k n)):H.ldI k b o=some n:=by unfold Hp.ldI;rw [h];simp [AV.asI]
theorem ck {H:Hp} {b o:Nat} {n:Sl} (h:H.cell b o=some (.sl n)):H.ldSl b o=some n:=by unfold Hp.ldSl;rw [h];rfl
theorem pF (k:IntKind) (n:Int):(AV.int k n).asI k=some n:=by simp [AV.asI]
section
variable {H:Hp} {R:List Rs}
theorem getElem?_app_lt {H:Hp} {x:Blk} {b:Nat} (h:b<H.length):(H++[x])[b]?=H[b]?:=List.getElem?_append_left h
theorem W.new (w:W H R) (cells:List AV):∃ H',Hp.new H cells=some H'/\W H' (.blk H.length cells::R)/\Fr H R H' (.blk H.length cells::R):=
 ⟨_,rfl,w.cons (by simp) (λb hb=>getElem?_app_lt hb) (At.new H cells) (λb hb=>by cases hb;exact Nat.le_refl _)⟩
theorem Rs.ok_new {H:Hp} {cells:List AV} {n z:Nat} (h:cells.length=n * z) (hz:0<z):Rs.ok (H++[⟨cells,true,true⟩]) (.own ⟨some (H.length,0),n,.ex n⟩ z cells):=
 ⟨h,hz,λe=>by cases n with
  | zero=>rfl
  | succ n=>simp [lvs] at e,λ_=>⟨_,rfl,rfl,rfl,by simpa using At.new H cells⟩,Nat.le_refl n,λ_=>⟨rfl,rfl,λ_=>.inr rfl⟩⟩
theorem W.newS (w:W H R) (cells:List AV) (n z:Nat) (h:cells.length=n * z) (hz:0<z) :
  ∃ H',Hp.new H cells=some H'/\W H' (.own ⟨some (H.length,0),n,.ex n⟩ z cells::R)/\Fr H R H' (.own ⟨some (H.length,0),n,.ex n⟩ z cells::R):=
 ⟨_,rfl,w.cons (by simp) (λb hb=>getElem?_app_lt hb) (Rs.ok_new h hz) (λb hb=>by obtain ⟨_,hb⟩:=gX (show c_ _ _=some b from hb);cases hb;exact Nat.le_refl _)⟩
theorem W.nilS (w:W H R) (z:Nat) (hz:0<z):W H (.own ⟨none,0,.ex 0⟩ z []::R)/\Fr H R H (.own ⟨none,0,.ex 0⟩ z []::R):=
 w.cons (Nat.le_refl _) (λ_ _=>rfl) ⟨by simp,hz,λ_=>rfl,λh=>by simp [lvs] at h,Nat.le_refl 0,λ_=>⟨rfl,rfl,λh=>by simp [lvs] at h⟩⟩ (λb hb=>by obtain ⟨hc,hb⟩:=gX (show c_ _ _=some b from hb);cases hb)
theorem W.at_ (w:W H R) {i:Nat} {b:Nat} {cells:List AV} (hi:R[i]?=some (.blk b cells)):At H b cells:=w.ok _ (List.mem_of_getElem? hi)
theorem W.ld (w:W H R) {i:Nat} {b:Nat} {cells:List AV} {o:Nat} {v:AV} (hi:R[i]?=some (.blk b cells)) (hv:cells[o]?=some v):H.cell b o=some v:=by
 rw [(w.at_ hi).cell];exact hv
theorem W.st (w:W H R) {i:Nat} {b:Nat} {cells:List AV} {o:Nat} {v:AV} (hi:R[i]?=some (.blk b cells)) (ho:o<cells.length) (hv:v.isCell=true) :
  ∃ H',H.st b o v=some H'/\W H' (R.set i (.blk b (cells.set o v)))/\Fr H R H' (R.set i (.blk b (cells.set o v))):=by
 obtain ⟨e1,e2⟩:=(w.at_ hi).st ho hv
 exact ⟨_,e1,w.upd hi (by simp) (λc _ hc=>by rw [List.getElem?_set_ne (λq=>hc (by rw [q];rfl))]) e2 (λc hc=>.inl hc)⟩
theorem W.own_n (w:W H R) {i:Nat} {α:Type} {E:Ety α} {t:Bool} {s:Sl} {pre cells rest:List AV} {l:List α} (hi:R[i]?=some (.ow t s E.z pre cells rest)) (cr:CR E H R cells l):s.n=l.length:=by
 obtain ⟨h1,h2,_⟩:=w.ok _ (List.mem_of_getElem? hi)
 have h3:=cr.length
 rw [h1] at h3
 exact Nat.eq_of_mul_eq_mul_right h2 h3
theorem row_cell {H:Hp} {b o n:Nat} {cells:List AV} (h:H.row b o n=some cells) {j:Nat} {v:AV} (hv:cells[j]?=some v):H.cell b (o+j)=some v:=by
 unfold Hp.row at h
 split at h
 ·rename_i k hk
  obtain ⟨h1,h2⟩:=eY h
  cases h2
  simp only [Bool.and_eq_true,decide_eq_true_eq] at h1
  unfold Hp.cell
  simp only [hk,h1.1,if_true]
  rw [List.getElem?_take] at hv
  split at hv
  ·rw [List.getElem?_drop] at hv;exact hv
  ·cases hv
 ·cases h
theorem IJ {cells:List AV} {n z j:Nat} {v:AV} (h:((cells.drop (n * z)).take z)[j]?=some v):cells[n * z+j]?=some v/\j<z:=by
 rw [List.getElem?_take] at h
 split at h
 ·rw [List.getElem?_drop] at h;exact ⟨h,by assumption⟩
 ·cases h
theorem W.ixo (w:W H R) {i:Nat} {α:Type} [Inhabited α] {E:Ety α} {t:Bool} {s:Sl} {z:Nat} {pre cells rest:List AV} {l:List α} {k:Int} {n:Nat} (hi:R[i]?=some (.ow t s E.z pre cells rest)) (hz:z=E.z) (cr:CR E H R cells l) (hn:ix l k=some n) :
  ∃ p cs,Sl.idx s k z=some p/\E.rep H R cs (gt l n)/\∀ j v,cs[j]?=some v->H.cell p.1 (p.2+j)=some v:=by
 subst hz
 have hsn:=w.own_n hi cr
 have hok:=w.ok _ (List.mem_of_getElem? hi)
 obtain ⟨g1,g2⟩:=zT hn
 have g3:=cr.chunk (jw g1)
 obtain ⟨p,e1,e2,e3,e4,_⟩:=Rs.full hok (by omega)
 refine ⟨(p.1,p.2+k.toNat * E.z),_,?_,g3,λj v hj=>?_⟩
 ·unfold Sl.idx
  rw [if_pos ⟨by omega,by omega⟩,e2];rfl
 ·obtain ⟨q1,q2⟩:=IJ hj
  have:k.toNat=n:=by omega
  simp only [this]
  rw [e4.cell,e3,Nat.add_assoc,IG (List.getElem?_eq_some_iff.1 q1).1];exact q1
theorem ROs.ixr {α:Type} [Inhabited α] {E:Ety α} {s:Sl} {z:Nat} {l:List α} {k:Int} {n:Nat} (h:ROs E H R s l) (hz:z=E.z) (hn:ix l k=some n) :
  ∃ p cs,Sl.idx s k z=some p/\E.rep H R cs (gt l n)/\∀ j v,cs[j]?=some v->H.cell p.1 (p.2+j)=some v:=by
 subst hz
 have had:=h.ad
 obtain ⟨hsn,hf,cells,cr,hrow,ho⟩:=h
 obtain ⟨g1,g2⟩:=zT hn
 have g3:=cr.chunk (jw g1)
 obtain ⟨a,m,c⟩:=s
 unfold Sl.row at hrow
 simp only at hsn hrow had
 rw [if_neg (by omega),had (by omega)] at hrow
 cases a with
 | none=>cases hrow
 | some p=>
  refine ⟨(p.1,p.2+k.toNat * E.z),_,?_,g3,λj v hj=>?_⟩
  ·unfold Sl.idx
   simp only at hsn ⊢
   rw [if_pos ⟨by omega,by omega⟩,had (by omega)];rfl
  ·obtain ⟨q1,q2⟩:=IJ hj
   have:k.toNat=n:=by omega
   simp only [this]
   rw [Nat.add_assoc];exact row_cell hrow q1
theorem W.sto (w:W H R) {i:Nat} {α:Type} [Inhabited α] {E:Ety α} {t:Bool} {s:Sl} {z:Nat} {pre cells rest:List AV} {l:List α} {k:Int} {n j:Nat} {p:Nat×Nat} {v:AV} {x':α} (hi:R[i]?=some (.ow t s E.z pre cells rest)) (hz:z=E.z) (cr:CR E H R cells l)
  (hn:(n:Int)=k) (hnl:n<l.length) (hp:Sl.idx s k z=some p) (hj:j<E.z) (hv:v.isCell=true) (hr:∀ cs,E.rep H R cs (gt l n)->E.rep H R (cs.set j v) x') :
  ∃ H' cells',H.st p.1 (p.2+j) v=some H'/\W H' (R.set i (.ow t s E.z pre cells' rest))/\Fr H R H' (R.set i (.ow t s E.z pre cells' rest))/\CR E H' (R.set i (.ow t s E.z pre cells' rest)) cells' (l.set n x'):=by
 subst hz
 have hsn:=w.own_n hi cr
 have hok:=w.ok _ (List.mem_of_getElem? hi)
 obtain ⟨q,e1,e2,e3,e4,e5⟩:=Rs.full hok (by omega)
 obtain ⟨h1,h2,h3,h4,h5,h6⟩:=hok
 unfold Sl.idx at hp
 obtain ⟨_,hp⟩:=eY hp
 rw [e2] at hp
 cases hp
 have hk:k.toNat=n:=by omega
 have hlt:n * E.z+j<cells.length:=by
  rw [cr.length]
  have:(n+1) * E.z<=l.length * E.z:=Nat.mul_le_mul_right _ hnl
  rw [Nat.succ_mul] at this;omega
 obtain ⟨s1,s2⟩:=e4.st (o:=pre.length+(n * E.z+j)) (v:=v) (by simp only [List.length_append];omega) hv
 rw [IH hlt] at s1 s2
 have key:=w.upd (H':=H.set q.1 ⟨pre++cells.set (n * E.z+j) v++rest,true,true⟩) (r':=.ow t s E.z pre (cells.set (n * E.z+j) v) rest) hi (by simp) (λb _ hb=>by rw [List.getElem?_set_ne (λe=>hb (by rw [<- e];show c_ _ _=_;rw [gW e5,e1];rfl))])
  ⟨by rw [List.length_set];exact h1,h2,h3,λ_=>⟨q,e1,by rw [e2,e1],e3,s2⟩,h5,h6⟩ (λb hb=>.inl hb)
 refine ⟨_,_,?_,key.1,key.2,?_⟩
 ·simp only [hk,e3,Nat.add_assoc];exact s1
 ·exact (cr.set hnl hj (hr _ (cr.chunk (jw hnl)))).step key.2
theorem UC {α:Type} {n:Int} {x:α} {l:List α} (h:mkn n x=some l):(0<=n/\n<=4294967296)/\l=List.replicate n.toNat x:=by
 unfold mkn at h;obtain ⟨h1,h2⟩:=eY h;cases h2;exact ⟨h1,rfl⟩
theorem W.mkS (w:W H R) {α:Type} {E:Ety α} {zero:List AV} {bytes:Nat} {n:Int} {x:α} {l:List α} (hx:E.rep H R zero x) (hz:0<E.z) (hb:bytes<=16384) (hl:mkn n x=some l) :
  ∃ H' cells,Hp.mk H zero bytes n n=some (⟨some (H.length,0),l.length,.ex l.length⟩,H')/\W H' (.own ⟨some (H.length,0),l.length,.ex l.length⟩ E.z cells::R)/\Fr H R H' (.own ⟨some (H.length,0),l.length,.ex l.length⟩ E.z cells::R) /\
   CR E H' (.own ⟨some (H.length,0),l.length,.ex l.length⟩ E.z cells::R) cells l:=by
 obtain ⟨⟨h0,h1⟩,rfl⟩:=UC hl
 have key:=w.cons (H':=H++[⟨zrow n.toNat zero,true,true⟩]) (r:=.own ⟨some (H.length,0),(List.replicate n.toNat x).length,.ex (List.replicate n.toNat x).length⟩ E.z (zrow n.toNat zero)) (by simp) (λb hb=>getElem?_app_lt hb)
  (Rs.ok_new (by rw [pu,E.len hx,List.length_replicate]) hz) (λb hb=>by obtain ⟨_,hb⟩:=gX (show c_ _ _=some b from hb);cases hb;exact Nat.le_refl _)
 refine ⟨_,_,?_,key.1,key.2,(CR.zrow hx _).step key.2⟩
 unfold Hp.mk
 have:n * (bytes:Int)<=4294967296 * 16384:=by
  have a1:n * (bytes:Int)<=n * 16384:=Int.mul_le_mul_of_nonneg_left (by omega) h0
  omega
 rw [if_pos ⟨h0,Int.le_refl _,by omega,by omega⟩]
 simp
theorem uG {α:Type} {l m x:List α} (h:apn l m=some x):l.length+m.length<=4294967296/\x=l++m:=by
 unfold apn at h;obtain ⟨h1,h2⟩:=eY h;cases h2;exact ⟨h1,rfl⟩
theorem W.app (w:W H R) {i:Nat} {α:Type} {E:Ety α} {s:Sl} {z bytes n:Nat} {cells xs:List AV} {l m x:List α} (hi:R[i]?=some (.own s E.z cells)) (hz:z=E.z) (cr:CR E H R cells l) (hm:CR E H R xs m) (hn:n=m.length) (hb:bytes<=16384) (hx:apn l m=some x) :
  ∃ a c H',Hp.app H z bytes s n xs=some (⟨a,x.length,c⟩,H')/\W H' (R.set i (.own ⟨a,x.length,c⟩ E.z (cells++xs)))/\Fr H R H' (R.set i (.own ⟨a,x.length,c⟩ E.z (cells++xs))) /\
   CR E H' (R.set i (.own ⟨a,x.length,c⟩ E.z (cells++xs))) (cells++xs) x/\((∃ c,s.c=.ex c)->aK H H'):=by
 subst hz hn
 obtain ⟨hlen,rfl⟩:=uG hx
 have hsn:=w.own_n hi cr
 have hxl:=hm.length
 have hxx:(l++m).length=s.n+m.length:=by rw [List.length_append,hsn]
 obtain ⟨h1,h2,h3,h4,h5,h6⟩:=w.ok _ (List.mem_of_getElem? hi)
 obtain ⟨_,_,h6⟩:=h6 rfl
 have hcond:(s.n+m.length) * bytes<=70368744177664/\s.n+m.length<=70368744177664/\bytes<=70368744177664/\0<E.z:=by
  refine ⟨?_,by omega,by omega,h2⟩
  have:=Nat.mul_le_mul (show s.n+m.length<=4294967296 by omega) hb
  omega
 obtain ⟨a,sn,c⟩:=s
 simp only at hsn hxx h1 h3 hcond h6
 have same:∀ (hm0:m=[]) (c':Cap),Hp.app H E.z bytes ⟨a,sn,c⟩ m.length xs=some (⟨a,sn+m.length,c⟩,H) ->
   ∃ a' c' H',Hp.app H E.z bytes ⟨a,sn,c⟩ m.length xs=some (⟨a',(l++m).length,c'⟩,H')/\W H' (R.set i (.own ⟨a',(l++m).length,c'⟩ E.z (cells++xs)))/\Fr H R H' (R.set i (.own ⟨a',(l++m).length,c'⟩ E.z (cells++xs))) /\
   CR E H' (R.set i (.own ⟨a',(l++m).length,c'⟩ E.z (cells++xs))) (cells++xs) (l++m)/\((∃ k,c=.ex k)->aK H H'):=λhm0 _ e=>by
  subst hm0
  have hxs:xs=[]:=List.length_eq_zero_iff.1 (by simpa using hxl)
  subst hxs
  have hr:(R.set i (.own ⟨a,(l++[]).length,c⟩ E.z (cells++[])))=R:=by
   rw [List.append_nil,List.append_nil]
   apply List.ext_getElem?
   intro j
   by_cases ej:i=j
   ·subst ej;rw [List.getElem?_set_self (List.getElem?_eq_some_iff.1 hi).1,hi,hsn]
   ·rw [List.getElem?_set_ne ej]
  refine ⟨a,c,H,?_,?_,?_,?_,λ_=>aK.refl H⟩
  ·rw [e,hxx]
  ·rw [hr];exact w
  ·rw [hr];exact Fr.refl _ _
  ·rw [hr,List.append_nil,List.append_nil];exact cr
 have big:∀ (H1:Hp),(H1=H\/¬ ∃ k,c=.ex k)->H.length=H1.length->(∀ b,b<H.length->¬ Rs.has (.own ⟨a,sn,c⟩ E.z cells) b->H1[b]?=H[b]?)->Hp.app H E.z bytes ⟨a,sn,c⟩ m.length xs=some (⟨some (H.length,0),sn+m.length,.full E.z⟩,H1++[⟨cells++xs,true,true⟩]) ->
   ∃ a' c' H',Hp.app H E.z bytes ⟨a,sn,c⟩ m.length xs=some (⟨a',(l++m).length,c'⟩,H')/\W H' (R.set i (.own ⟨a',(l++m).length,c'⟩ E.z (cells++xs)))/\Fr H R H' (R.set i (.own ⟨a',(l++m).length,c'⟩ E.z (cells++xs))) /\
   CR E H' (R.set i (.own ⟨a',(l++m).length,c'⟩ E.z (cells++xs))) (cells++xs) (l++m)/\((∃ k,c=.ex k)->aK H H'):=λH1 hx1 hl1 hk1 e=>by
  have hat:At (H1++[⟨cells++xs,true,true⟩]) H.length (cells++xs):=by rw [hl1];exact At.new H1 _
  have key:=w.upd (H':=H1++[⟨cells++xs,true,true⟩]) (r':=.own ⟨some (H.length,0),(l++m).length,.full E.z⟩ E.z (cells++xs)) hi (by simp [hl1]) (λb hb hne=>by
    rw [List.getElem?_append_left (by omega)];exact hk1 b hb hne)
   ⟨by rw [List.length_append,h1,hxl,hxx,Nat.add_mul],h2,(λe=>by simp [lvs] at e),λ_=>⟨_,rfl,rfl,rfl,by simpa using hat⟩,⟨rfl,rfl⟩,λ_=>⟨rfl,rfl,λ_=>.inl rfl⟩⟩ (λb hb=>by obtain ⟨_,hb⟩:=gX (show c_ _ _=some b from hb);cases hb;exact .inr (Nat.le_refl _))
  refine ⟨_,_,_,?_,key.1,key.2,?_,λhc=>?_⟩
  ·rw [e,hxx]
  ·exact (cr.app hm).step key.2
  ·rcases hx1 with hx1 | hx1
   ·rw [hx1];exact aK.snoc H _
   ·exact absurd hc hx1
 have hpos:m≠[]->0<m.length:=λh=>List.length_pos_iff.2 h
 by_cases hcx:c=.ex 0
 ·have g1:sn=0:=h3 (by simp [lvs,hcx])
  subst g1 hcx
  have hc0:cells=[]:=List.length_eq_zero_iff.1 (by simpa using h1)
  by_cases hm0:m=[]
  ·refine same hm0 (.ex 0) ?_
   unfold Hp.app
   rw [if_pos hcond]
   subst hm0
   have hxs:xs=[]:=List.length_eq_zero_iff.1 (by simpa using hxl)
   subst hxs
   cases a <;> simp [stN]
  ·refine big H (.inl rfl) rfl (λ_ _ _=>rfl) ?_
   unfold Hp.app
   rw [if_pos hcond]
   have:=hpos hm0
   simp only
   rw [if_neg (by omega)]
   simp [Sl.row,hc0]
 ·have hlv:lvs true ⟨a,sn,c⟩=true:=by simp [lvs,hcx]
  obtain ⟨p,ep,_,g1,g2⟩:=h4 hlv
  have g3:=h6 hlv
  rw [List.nil_append,List.append_nil] at g2
  simp only [List.length_nil] at g1
  have ep:a=some p:=ep
  subst ep
  have hrow:Sl.row H ⟨some p,sn,c⟩ E.z=some cells:=by
   unfold Sl.row
   by_cases hs0:sn=0
   ·rw [if_pos hs0,List.length_eq_zero_iff.1 (show cells.length=0 by rw [h1,hs0,Nat.zero_mul])]
   ·have e:Sl.ad ⟨some p,sn,c⟩=some p:=by rcases g3 with rfl | rfl <;> rfl
    rw [if_neg hs0,e]
    unfold Hp.row
    simp only
    rw [show H[p.1]?=some ⟨cells,true,true⟩ from g2]
    simp [g1,h1,List.take_of_length_le (Nat.le_of_eq h1)]
  rcases g3 with rfl | rfl
  ·by_cases hm0:m=[]
   ·refine same hm0 (.ex 0) ?_
    unfold Hp.app
    rw [if_pos hcond]
    subst hm0
    have hxs:xs=[]:=List.length_eq_zero_iff.1 (by simpa using hxl)
    subst hxs
    have hown:H.ownc p.1=some cells:=by unfold Hp.ownc;rw [show H[p.1]?=some ⟨cells,true,true⟩ from g2];rfl
    simp only [Option.bind_some,hown,if_true,List.length_nil,Nat.add_zero,g1,Nat.zero_add]
    rw [if_pos (by omega)]
    simp [stN]
   ·refine big (H.kill p.1) (.inr (λ⟨k,hk⟩=>by cases hk)) (Hp.kill_length _ _).symm (λb hb hne=>?_) ?_
    ·exact (Hp.kill_keep H p.1).2 b hb (λe=>hne (by rw [e];show c_ _ _=_;rw [gW hlv];rfl))
    ·unfold Hp.app
     rw [if_pos hcond]
     have hown:H.ownc p.1=some cells:=by unfold Hp.ownc;rw [show H[p.1]?=some ⟨cells,true,true⟩ from g2];rfl
     have:=hpos hm0
     have hz1:1 * E.z<=m.length * E.z:=Nat.mul_le_mul_right _ this
     simp only [Option.bind_some,hown,if_true,g1,Nat.zero_add]
     rw [if_neg (by rw [Nat.add_mul];omega),if_pos h1.symm]
     simp
  ·by_cases hm0:m=[]
   ·refine same hm0 (.ex 0) ?_
    unfold Hp.app
    rw [if_pos hcond]
    subst hm0
    have hxs:xs=[]:=List.length_eq_zero_iff.1 (by simpa using hxl)
    subst hxs
    simp [stN]
   ·refine big H (.inl rfl) rfl (λ_ _ _=>rfl) ?_
    unfold Hp.app
    rw [if_pos hcond]
    have:=hpos hm0
    simp only
    rw [if_neg (by omega)]
    simp [hrow]
theorem W.rowo (w:W H R) {i:Nat} {t:Bool} {s:Sl} {z:Nat} {pre cells rest:List AV} (hi:R[i]?=some (.ow t s z pre cells rest)):Sl.row H s z=some cells:=by
 have hok:=w.ok _ (List.mem_of_getElem? hi)
 have h1:=hok.1
 unfold Sl.row
 by_cases hs0:s.n=0
 ·rw [if_pos hs0,List.length_eq_zero_iff.1 (show cells.length=0 by rw [h1,hs0,Nat.zero_mul])]
 ·obtain ⟨p,e1,e2,e3,e4,_⟩:=Rs.full hok hs0
  rw [if_neg hs0,e2]
  unfold Hp.row
  simp only
  rw [show H[p.1]?=some ⟨pre++cells++rest,true,true⟩ from e4]
  simp only [Bool.true_and,e3,<-h1]
  rw [if_pos (by simp),List.append_assoc,List.drop_append_of_le_length (Nat.le_refl _),List.drop_length,List.nil_append,List.take_left]
theorem ROs.row {α:Type} {E:Ety α} {s:Sl} {l:List α} (h:ROs E H R s l) {z:Nat} (hz:z=E.z):∃ cells,Sl.row H s z=some cells/\CR E H R cells l:=by
 subst hz
 obtain ⟨hsn,hf,cells,cr,hrow,ho⟩:=h
 exact ⟨cells,hrow,cr⟩
theorem W.borrow {Rb:List Rs} (w:W H (Rb++R)) {i:Nat} {α:Type} {E:Ety α} {t:Bool} {s:Sl} {pre cells rest:List AV} {l:List α} (hi:Rb[i]?=some (.ow t s E.z pre cells rest)) (cr:CR E H (Rb++R) cells l):ROs E H R s l:=by
 have hil:i<Rb.length:=(List.getElem?_eq_some_iff.1 hi).1
 have hi':(Rb++R)[i]?=some (.ow t s E.z pre cells rest):=by rw [List.getElem?_append_left hil];exact hi
 have hsn:=w.own_n hi' cr
 have hok:=w.ok _ (List.mem_of_getElem? hi')
 have hst:=w.right.2
 have hrow:=w.rowo hi'
 have hk:∀ p,s.n≠0->s.a=some p->Rs.has (.ow t s E.z pre cells rest) p.1:=λp h0 hp=>by
  obtain ⟨_,_,_,_,_,e5⟩:=Rs.full hok h0
  show c_ t s=_;rw [gW e5,hp];rfl
 exact ⟨hsn,hok.2.2.2.2.1,cells,cr.step hst,hrow,λp h0 hp=>⟨Rs.ok_lt hok (hk p h0 hp),w.apart (List.mem_of_getElem? hi) (hk p h0 hp)⟩⟩
theorem IK {b o n j m:Nat} {cells:List AV} (h:H.row b o n=some cells) (hm:j+m<=n):H.row b (o+j) m=some ((cells.drop j).take m):=by
 unfold Hp.row at h ⊢
 split at h
 ·rename_i k hk
  obtain ⟨h1,h2⟩:=eY h
  cases h2
  simp only [Bool.and_eq_true,decide_eq_true_eq] at h1
  simp only [h1.1,Bool.true_and]
  rw [if_pos (by rw [decide_eq_true_eq];omega)]
  congr 1
  rw [List.drop_take,List.take_take,List.drop_drop,Nat.min_eq_left (by omega)]
 ·cases h
theorem ROs.cut_ {α:Type} {E:Ety α} {s:Sl} {z:Nat} {l x:List α} {a b:Int} (h:ROs E H R s l) (hz:z=E.z) (hc:0<=a/\a<=b/\b<=l.length) (hx:x=(l.take b.toNat).drop a.toNat) :
  ∃ a' c',Sl.cut s z a b=some ⟨a',x.length,c'⟩/\ROs E H R ⟨a',x.length,c'⟩ x:=by
 subst hz
 have had:=h.ad
 obtain ⟨hsn,hf,cells,cr,hrow,ho⟩:=h
 obtain ⟨sa,sn,sc⟩:=s
 simp only at hsn ho had
 unfold Sl.fits at hf
 have hxl:x.length=b.toNat - a.toNat:=by rw [hx,List.length_drop,List.length_take];omega
 have hcr:CR E H R ((cells.drop (a.toNat * E.z)).take ((b.toNat - a.toNat) * E.z)) x:=by
  have q:=(cr.drop a.toNat).take (b.toNat - a.toNat)
  rw [hx,List.drop_take];exact q
 have hnz:a.toNat * E.z+(b.toNat - a.toNat) * E.z<=sn * E.z:=by
  rw [<- Nat.add_mul];exact Nat.mul_le_mul_right _ (by omega)
 have hlen2:((cells.drop (a.toNat * E.z)).take ((b.toNat - a.toNat) * E.z)).length=x.length * E.z:=hcr.length
 have key:∀ (a':ON) (c':Cap),(x.length≠0->a'=sa.map (λp=>(p.1,p.2+a.toNat * E.z))/\∀ z o,c'≠.tip z o)->(match c' with | .ex c=>x.length<=c | .full z=>z=E.z/\a'.isSome=true | .tip z _=>z=E.z/\a'.isSome=true/\x.length=0)->ROs E H R ⟨a',x.length,c'⟩ x:=λa' c' ha hfit=>by
  refine ⟨rfl,hfit,_,hcr,?_,λp h0 hp=>?_⟩
  ·unfold Sl.row
   by_cases h0:x.length=0
   ·rw [if_pos h0,List.length_eq_zero_iff.1 (show ((cells.drop (a.toNat * E.z)).take ((b.toNat - a.toNat) * E.z)).length=0 by rw [hlen2,h0,Nat.zero_mul])]
   ·have hs0:sn≠0:=by omega
    unfold Sl.row at hrow
    simp only at hrow
    rw [if_neg hs0,had hs0] at hrow
    rw [if_neg h0]
    have hd:Sl.ad ⟨a',x.length,c'⟩=a':=by
     cases c' with
     | tip z o=>exact absurd rfl ((ha h0).2 z o)
     | _=>rfl
    rw [hd,(ha h0).1]
    cases sa with
    | none=>cases hrow
    | some p=>
     have q:=IK (show H.row p.1 p.2 (sn * E.z)=some cells from hrow) hnz
     simp only [Option.map_some]
     rw [hxl];exact q
  ·have hs0:sn≠0:=by simp only at h0;omega
   simp only at hp
   rw [(ha h0).1] at hp
   cases sa with
   | none=>cases hp
   | some q=>cases hp;exact ho q hs0 rfl
 unfold Sl.cut
 cases sc with
 | ex c=>
  simp only at hf ⊢
  rw [if_pos ⟨by omega,by omega,by omega⟩]
  exact ⟨if c=a.toNat then sa else sa.map (λp=>(p.1,p.2+a.toNat * E.z)),.ex (c - a.toNat),by rw [hxl],key _ _ (λh0=>⟨if_neg (by omega),λz o e=>by cases e⟩) (by simp only;omega)⟩
 | full z=>
  obtain ⟨rfl,f2⟩:=hf
  cases sa with
  | none=>cases f2
  | some p=>
   simp only [Option.bind_some]
   rw [if_pos ⟨by omega,by omega,by omega,trivial⟩]
   by_cases hal:a<sn
   ·rw [if_pos hal]
    exact ⟨some (p.1,p.2+a.toNat * E.z),.full E.z,by rw [hxl],key _ _ (λ_=>⟨rfl,λz o e=>by cases e⟩) ⟨rfl,rfl⟩⟩
   ·rw [if_neg hal]
    have h0:x.length=0:=by omega
    exact ⟨some (p.1,p.2+a.toNat * E.z),.tip E.z p.2,by rw [h0],key _ _ (λh=>absurd h0 h) ⟨rfl,rfl,h0⟩⟩
 | tip z o=>
  obtain ⟨rfl,f2,f3⟩:=hf
  have f3:sn=0:=f3
  have h0:x.length=0:=by omega
  simp only
  rw [if_pos ⟨by omega,by omega,trivial,f3,f2⟩]
  exact ⟨sa,.tip E.z o,by rw [h0,f3],key _ _ (λh=>absurd h0 h) ⟨rfl,f2,h0⟩⟩
theorem zU {α:Type} {l x:List α} {a b:Int} (h:cutf l a b=some x):(0<=a/\a<=b/\b<=l.length)/\x=(l.take b.toNat).drop a.toNat:=by
 unfold cutf at h;obtain ⟨⟨h1,h2,h3⟩,h5⟩:=eY h;cases h5;exact ⟨⟨h1,h2,h3⟩,rfl⟩
theorem ROs.cutf {α:Type} {E:Ety α} {s:Sl} {z:Nat} {l x:List α} {a b:Int} (h:ROs E H R s l) (hz:z=E.z) (hx:cutf l a b=some x):∃ a' c',Sl.cut s z a b=some ⟨a',x.length,c'⟩/\ROs E H R ⟨a',x.length,c'⟩ x:=by
 obtain ⟨h1,h2⟩:=zU hx
 exact h.cut_ hz h1 h2
end
end Go.AE
end
section
namespace Go.AE
variable {H:Hp} {R:List Rs} {Q:AV->Hp->Prop}
theorem cg (w:W H R) {cells:List AV} {K:Hp->OA} (g:∀ H',W H' (.blk H.length cells::R)->Fr H R H' (.blk H.length cells::R)->∃ v H'',K H'=some (v,H'')/\Q v H'') :
  ∃ v H'',(Hp.new H cells).bind K=some (v,H'')/\Q v H'':=by
 obtain ⟨H',e,w',s⟩:=w.new cells;exact ai e (g H' w' s)
theorem er {α:Type} (E:Ety α) (w:W H R) {cells:List AV} {n:Nat} {l:List α} {K:Hp->OA} (hz:Nat.blt 0 E.z=true) (cr:CR E H R cells l) (hn:n=l.length)
  (g:∀ H',W H' (.own ⟨some (H.length,0),n,.ex n⟩ E.z cells::R)->Fr H R H' (.own ⟨some (H.length,0),n,.ex n⟩ E.z cells::R)->CR E H' (.own ⟨some (H.length,0),n,.ex n⟩ E.z cells::R) cells l->∃ v H'',K H'=some (v,H'')/\Q v H'') :
  ∃ v H'',(Hp.new H cells).bind K=some (v,H'')/\Q v H'':=by
 obtain ⟨H',e,w',s⟩:=w.newS cells n E.z (by rw [hn];exact cr.length) (Nat.le_of_ble_eq_true hz)
 exact ai e (g H' w' s (cr.step s))
theorem UD (w:W H R) {i:Nat} {b:Nat} {cells:List AV} {o:Nat} {v:AV} {K:Hp->OA} (hi:R[i]?=some (.blk b cells)) (ho:Nat.blt o cells.length=true) (hv:v.isCell=true)
  (g:∀ H',W H' (R.set i (.blk b (cells.set o v)))->Fr H R H' (R.set i (.blk b (cells.set o v)))->∃ v H'',K H'=some (v,H'')/\Q v H''):∃ v' H'',(Hp.st H b o v).bind K=some (v',H'')/\Q v' H'':=by
 obtain ⟨H',e,w',s⟩:=w.st hi (Nat.le_of_ble_eq_true ho) hv
 exact ai e (g H' w' s)
theorem lI (w:W H R) (i:Nat) {b o:Nat} {cells:List AV} {k:IntKind} {n:Int} {K:_->OA} (g:∃ v H',K n=some (v,H')/\Q v H') (hi:R[i]?=some (.blk b cells):=by exact rfl) (hv:cells[o]?=some (.int k n):=by exact rfl):∃ v H',(H.ldI k b o).bind K=some (v,H')/\Q v H':=ai (bL (w.ld hi hv)) g
theorem lSl (w:W H R) (i:Nat) {b o:Nat} {cells:List AV} {n:Sl} {K:_->OA} (g:∃ v H',K n=some (v,H')/\Q v H') (hi:R[i]?=some (.blk b cells):=by exact rfl) (hv:cells[o]?=some (.sl n):=by exact rfl):∃ v H',(H.ldSl b o).bind K=some (v,H')/\Q v H':=ai (ck (w.ld hi hv)) g
theorem br {α:Type} {a:α} {K:α->OA} (g:∃ v H',K a=some (v,H')/\Q v H'):∃ v H',(some a).bind K=some (v,H')/\Q v H':=g
theorem aM (w:W H R) (i:Nat) {b:Nat} {cells:List AV} {o:Nat} {v:AV} {K:Hp->OA}
  (g:∀ H',W H' (R.set i (.blk b (cells.set o v)))->Fr H R H' (R.set i (.blk b (cells.set o v)))->∃ v H'',K H'=some (v,H'')/\Q v H'') (hi:R[i]?=some (.blk b cells):=by exact rfl) (ho:Nat.blt o cells.length=true:=by exact rfl) (hv:v.isCell=true:=by exact rfl):∃ v' H'',(Hp.st H b o v).bind K=some (v',H'')/\Q v' H'':=UD w hi ho hv g
theorem cT {α:Type} {l l':List α} {n:Nat} {x:α} (h:some (l.set n x)=some l'):l'.length=l.length:=by cases h;simp
theorem dd {α:Type} [Inhabited α] (E:Ety α) (w:W H R) {i:Nat} {t:Bool} {s:Sl} {z:Nat} {pre cells rest:List AV} {l l':List α} {k:Int} {n j:Nat} {p:Nat×Nat} {v:AV} {x':α} {K:Hp->OA} (hi:R[i]?=some (.ow t s E.z pre cells rest)) (hz:z=E.z) (cr:CR E H R cells l)
  (hn:ix l k=some n) (hp:Sl.idx s k z=some p) (hx:some (l.set n x')=some l') (hj:Nat.blt j E.z=true) (hv:v.isCell=true) (hr:∀ cs,E.rep H R cs (gt l n)->E.rep H R (cs.set j v) x')
  (g:∀ H' cells',W H' (R.set i (.ow t s E.z pre cells' rest))->Fr H R H' (R.set i (.ow t s E.z pre cells' rest))->CR E H' (R.set i (.ow t s E.z pre cells' rest)) cells' l'->∃ v H'',K H'=some (v,H'')/\Q v H'') :
  ∃ v' H'',(Hp.st H p.1 (p.2+j) v).bind K=some (v',H'')/\Q v' H'':=by
 obtain ⟨g1,g2⟩:=zT hn
 obtain ⟨H',cells',e,w',s',c'⟩:=w.sto hi hz cr g2 g1 hp (Nat.le_of_ble_eq_true hj) hv hr
 cases hx
 exact ai e (g H' cells' w' s' c')
theorem zt {α:Type} (E:Ety α) (x:α) (w:W H R) {zero:List AV} {bytes:Nat} {n:Int} {l:List α} {K:Sl×Hp->OA} (hx:E.rep H R zero x) (hz:Nat.blt 0 E.z=true) (hb:Nat.ble bytes 16384=true) (hl:mkn n x=some l)
  (g:∀ H' cells,W H' (.own ⟨some (H.length,0),l.length,.ex l.length⟩ E.z cells::R)->Fr H R H' (.own ⟨some (H.length,0),l.length,.ex l.length⟩ E.z cells::R) ->
   CR E H' (.own ⟨some (H.length,0),l.length,.ex l.length⟩ E.z cells::R) cells l->∃ v H'',K (⟨some (H.length,0),l.length,.ex l.length⟩,H')=some (v,H'')/\Q v H'') :
  ∃ v' H'',(Hp.mk H zero bytes n n).bind K=some (v',H'')/\Q v' H'':=by
 obtain ⟨H',cells,e,w',s',c'⟩:=w.mkS hx (Nat.le_of_ble_eq_true hz) (Nat.le_of_ble_eq_true hb) hl
 exact ai e (g H' cells w' s' c')
theorem fj {α:Type} (E:Ety α) (w:W H R) {i:Nat} {s:Sl} {z bytes n:Nat} {cells xs:List AV} {l m x:List α} {K:Sl×Hp->OA} (hi:R[i]?=some (.own s E.z cells)) (hz:z=E.z) (cr:CR E H R cells l) (hm:CR E H R xs m) (hn:n=m.length)
  (hb:Nat.ble bytes 16384=true) (hx:apn l m=some x)
  (g:∀ a c H',W H' (R.set i (.own ⟨a,x.length,c⟩ E.z (cells++xs)))->Fr H R H' (R.set i (.own ⟨a,x.length,c⟩ E.z (cells++xs))) ->
   CR E H' (R.set i (.own ⟨a,x.length,c⟩ E.z (cells++xs))) (cells++xs) x->((∃ c,s.c=.ex c)->aK H H')->∃ v H'',K (⟨a,x.length,c⟩,H')=some (v,H'')/\Q v H'') :
  ∃ v' H'',(Hp.app H z bytes s n xs).bind K=some (v',H'')/\Q v' H'':=by
 obtain ⟨a,c,H',e,w',s',c',x'⟩:=w.app hi hz cr hm hn (Nat.le_of_ble_eq_true hb) hx
 exact ai e (g a c H' w' s' c' x')
theorem aG {x:OA} {K:AV×Hp->OA} {Q1:AV->Hp->Prop} (h:∃ u H1,x=some (u,H1)/\Q1 u H1) (g:∀ u H1,Q1 u H1->∃ v H',K (u,H1)=some (v,H')/\Q v H') :
  ∃ v H',x.bind K=some (v,H')/\Q v H':=by
 obtain ⟨u,H1,e,q⟩:=h;rw [e];exact g u H1 q
theorem W.frz (w:W H R) {i:Nat} {α:Type} (E:Ety α) {t:Bool} {s:Sl} {pre cells rest:List AV} {l:List α} (hi:R[i]?=some (.ow t s E.z pre cells rest)) (cr:CR E H R cells l):W H (R.eraseIdx i)/\Fr H R H (R.eraseIdx i)/\ROs E H (R.eraseIdx i) s l:=by
 have hil:i<R.length:=(List.getElem?_eq_some_iff.1 hi).1
 have key:W H ([.ow t s E.z pre cells rest]++R.eraseIdx i)/\Fr H R H ([.ow t s E.z pre cells rest]++R.eraseIdx i):=by
  refine w.re (λj=>if j=0 then i else if j - 1<i then j - 1 else j) (λj r hj=>?_) (λj j' hj hj' hne=>?_)
  ·cases j with
   | zero=>simp at hj;simp [hi,hj]
   | succ j=>
    simp only [List.singleton_append,List.getElem?_cons_succ,List.getElem?_eraseIdx] at hj
    simp only [Nat.succ_ne_zero,if_false,Nat.add_sub_cancel]
    split at hj
    ·rename_i c;rw [if_pos c];exact hj
    ·rename_i c;rw [if_neg c];exact hj
  ·split <;> split <;> (try split) <;> (try split) <;> omega
 exact ⟨key.1.right.1,key.2.trans key.1.right.2,key.1.borrow (i:=0) rfl (cr.step key.2)⟩
theorem W.right1 {r:Rs} (w:W H (r::R)):W H R/\Fr H (r::R) H R:=W.right (Rb:=[r]) w
theorem W.borrow1 {α:Type} (E:Ety α) {t:Bool} {s:Sl} {pre cells rest:List AV} {l:List α} (w:W H (.ow t s E.z pre cells rest::R)) (cr:CR E H (.ow t s E.z pre cells rest::R) cells l):ROs E H R s l:=
 W.borrow (Rb:=[.ow t s E.z pre cells rest]) w (i:=0) rfl cr
theorem W.frame1 {H':Hp} {r:Rs} {R':List Rs} (w:W H (r::R)) (w':W H' R') (st:Fr H R H' R'):W H' (r::R')/\Fr H (r::R) H' (r::R'):=W.frame (Rb:=[r]) w w' st
theorem W.pick' (w:W H R) (ixs:List Nat) (n:Nat) (h:decide (ixs.Nodup)=true) (h':ixs.all (·<n)=true) (hn:(n==0 || (R[n - 1]?).isSome)=true):W H (pk R ixs n)/\Fr H R H (pk R ixs n):=by
 refine w.pick ixs n ?_ h h'
 cases n with
 | zero=>omega
 | succ n=>
  simp only [Nat.add_sub_cancel] at hn
  have:(R[n]?).isSome=true:=by simpa using hn
  rcases Nat.lt_or_ge n R.length with c | c
  ·omega
  ·rw [List.getElem?_eq_none c] at this;cases this
theorem W.pp (w:W H R) (ixs:List Nat) (n:Nat) (h:decide (ixs.Nodup)=true:=by exact rfl) (h':ixs.all (·<n)=true:=by exact rfl) (hn:(n==0 || (R[n - 1]?).isSome)=true:=by exact rfl):W H (pk R ixs n)/\Fr H R H (pk R ixs n):=w.pick' ixs n h h' hn
theorem ROs.nil {α:Type} {E:Ety α}:ROs E H R ⟨none,0,.ex 0⟩ []:=⟨rfl,Nat.le_refl _,[],.nil,rfl,λp h0 _=>absurd rfl h0⟩
theorem CR.cons1 {α:Type} {E:Ety α} {v:AV} {vs:List AV} {x:α} {l:List α} (h:E.rep H R [v] x) (t:CR E H R vs l):CR E H R (v::vs) (x::l):=CR.cons h t
theorem aK.tr {H H' H'':Hp} {R R':List Rs} (h:aK H H') (s:Fr H R H' R') (h':aK H' H''):aK H H'':=λb hb=>(h' b (Nat.lt_of_lt_of_le hb s.len)).trans (h b hb)
def Out (H0:Hp) (Ri:List Rs) (H:Hp) (R:List Rs) (P:List Rs->Prop):Prop:=W H R/\Fr H0 Ri H R/\P R
def Inn (H:Hp) (R:List Rs) (P:List Rs->Prop):Prop:=W H R/\P R
theorem W.rf (_:W H R):Fr H R H R:=Fr.refl H R
theorem CR.empty {α:Type} {E:Ety α}:CR E H R [] []:=.nil
theorem Ts {α:Type} {l m l':List α} (h:some (cpl l m)=some l'):l'.length=l.length:=by
 cases h;unfold cpl;simp only [List.length_append,List.length_take,List.length_drop];omega
theorem uH {b:Nat}:∀ (xs:List AV) (o:Nat) (H:Hp) (cells:List AV) (K:Hp->Option (Nat×Hp)),At H b cells->o+xs.length<=cells.length->(∀ v∈xs,v.isCell=true) ->
  ∃ H',stN H b o xs K=K H'/\At H' b (cells.take o++xs++cells.drop (o+xs.length))/\dv (·=b) H H'/\H'.length=H.length
 | [],o,H,cells,K,ha,hl,hc=>⟨H,rfl,by simpa using ha,dv.refl _ _,rfl⟩
 | x::xs,o,H,cells,K,ha,hl,hc=>by
  simp only [List.length_cons] at hl
  obtain ⟨e1,e2⟩:=ha.st (o:=o) (v:=x) (by omega) (hc x (by simp))
  obtain ⟨H',g1,g2,g3,g4⟩:=uH xs (o+1) _ _ K e2 (by simp;omega) (λv hv=>hc v (by simp [hv]))
  refine ⟨H',?_,?_,(dv.set H b _).trans g3,by rw [g4];simp⟩
  ·unfold stN;rw [e1];exact g1
  ·have e:(cells.set o x).take (o+1)++xs++(cells.set o x).drop (o+1+xs.length)=cells.take o++(x::xs)++cells.drop (o+(x::xs).length):=by
    rw [List.drop_set_of_lt (by omega),List.length_cons,show o+1+xs.length=o+(xs.length+1) by omega]
    congr 1
    rw [List.take_add_one,List.take_set_of_le (Nat.le_refl _),List.getElem?_set_self (by omega)]
    simp
   rw [<- e];exact g2
theorem IM {b:Nat} (xs:List AV) (o:Nat) (H:Hp) (cells:List AV) (ha:At H b cells) (hl:o+xs.length<=cells.length) (hc:∀ v∈xs,v.isCell=true) :
  ∃ H',stN H b o xs some=some H'/\At H' b (cells.take o++xs++cells.drop (o+xs.length))/\dv (·=b) H H'/\H'.length=H.length:=by
 obtain ⟨H',e1,e2,e3,e4⟩:=uH xs o H cells (λH'=>some (0,H')) ha hl hc
 refine ⟨H',?_,e2,e3,e4⟩
 rw [iX] at e1 ⊢
 cases hs:stH H b o xs with
 | none=>rw [hs] at e1;cases e1
 | some H2=>rw [hs] at e1;simp only [Option.bind_some,Option.some.injEq,Prod.mk.injEq,true_and] at e1;rw [e1];rfl
theorem CR.cell {α:Type} {E:Ety α} {cells:List AV} {l:List α} (h:CR E H R cells l):∀ v∈cells,v.isCell=true:=by
 induction h with
 | nil=>intro v hv;cases hv
 | cons h t ih=>
  intro v hv
  rcases List.mem_append.1 hv with hv | hv
  ·exact E.cell h v hv
  ·exact ih v hv
theorem Tq {α:Type} (E:Ety α) (w:W H R) {i:Nat} {t:Bool} {d s:Sl} {z:Nat} {pre cd rest cs:List AV} {l m l':List α} {K:Nat×Hp->OA} (hi:R[i]?=some (.ow t d E.z pre cd rest)) (hz:z=E.z) (cr:CR E H R cd l) (hr:Sl.row H s E.z=some cs) (cm:CR E H R cs m)
  (hd:d.n=l.length) (hs:s.n=m.length) (hx:some (cpl l m)=some l')
  (g:∀ cd' H',W H' (R.set i (.ow t d E.z pre cd' rest))->Fr H R H' (R.set i (.ow t d E.z pre cd' rest))->CR E H' (R.set i (.ow t d E.z pre cd' rest)) cd' l'->∃ v H'',K (min s.n d.n,H')=some (v,H'')/\Q v H'') :
  ∃ v' H'',(Hp.cpy H z d s).bind K=some (v',H'')/\Q v' H'':=by
 subst hz
 cases hx
 have hok:=w.ok _ (List.mem_of_getElem? hi)
 have hset:∀ cd',cd'=cd->R.set i (.ow t d E.z pre cd' rest)=R:=λcd' e=>by
  subst e
  apply List.ext_getElem?
  intro j
  by_cases ej:i=j
  ·subst ej;rw [List.getElem?_set_self (List.getElem?_eq_some_iff.1 hi).1,hi]
  ·rw [List.getElem?_set_ne ej]
 have hrow:Sl.row H ⟨s.a,min s.n d.n,s.c⟩ E.z=some (cs.take (min s.n d.n * E.z)):=by
  unfold Sl.row at hr ⊢
  by_cases h0:min s.n d.n=0
  ·simp [h0]
  ·rw [if_neg h0]
   rw [if_neg (by omega)] at hr
   have e:Sl.ad ⟨s.a,min s.n d.n,s.c⟩=s.ad:=rfl
   rw [e]
   cases hsa:s.ad with
   | none=>rw [hsa] at hr;cases hr
   | some p=>
    rw [hsa] at hr
    have q:=IK (j:=0) (m:=min s.n d.n * E.z) (show H.row p.1 p.2 (s.n * E.z)=some cs from hr) (by rw [Nat.zero_add];exact Nat.mul_le_mul_right _ (by omega))
    simpa using q
 have hcl:=cm.length
 have hdl:=cr.length
 have hmin:min s.n d.n * E.z<=cd.length:=by rw [hdl,<-hd];exact Nat.mul_le_mul_right _ (by omega)
 have hxl:(cs.take (min s.n d.n * E.z)).length=min s.n d.n * E.z:=by
  rw [List.length_take,hcl,<-hs];exact Nat.min_eq_left (Nat.mul_le_mul_right _ (by omega))
 have hcr:CR E H R (cs.take (min s.n d.n * E.z)++cd.drop (min s.n d.n * E.z)) (cpl l m):=by
  have e:cpl l m=m.take (min s.n d.n)++l.drop (min s.n d.n):=by
   unfold cpl
   rw [hs,hd]
   rcases Nat.le_total m.length l.length with q | q
   ·rw [Nat.min_eq_left q,List.take_of_length_le q,List.take_of_length_le (Nat.le_refl _)]
   ·rw [Nat.min_eq_right q,List.drop_eq_nil_of_le q,List.drop_eq_nil_of_le (Nat.le_refl _)]
  rw [e];exact (cm.take _).app (cr.drop _)
 by_cases hm0:min s.n d.n=0
 ·have e1:Hp.cpy H E.z d s=some (min s.n d.n,H):=by
   unfold Hp.cpy
   cases hda:d.ad with
   | none=>simp [hm0]
   | some p=>
    simp only
    rw [hrow,hm0]
    simp [stN]
  have hcd:cd=cs.take (min s.n d.n * E.z)++cd.drop (min s.n d.n * E.z):=by rw [hm0];simp
  refine ai e1 (g cd H ?_ ?_ ?_)
  ·rw [hset cd rfl];exact w
  ·rw [hset cd rfl];exact Fr.refl _ _
  ·rw [hset cd rfl];rw [<- hcd] at hcr;exact hcr
 ·obtain ⟨p,e1,e2,e3,e4,e5⟩:=Rs.full hok (by omega)
  obtain ⟨h1,h2,h3,h4,h5,h6⟩:=hok
  obtain ⟨H',g1,g2,g3,g4⟩:=uH (cs.take (min s.n d.n * E.z)) pre.length H (pre++cd++rest) (λH'=>some (min s.n d.n,H')) e4 (by rw [hxl];simp only [List.length_append];omega) (λv hv=>cm.cell v (List.mem_of_mem_take hv))
  have e6:Hp.cpy H E.z d s=some (min s.n d.n,H'):=by
   unfold Hp.cpy
   rw [e2]
   simp only
   rw [hrow,e3]
   exact g1
  have e7:(pre++cd++rest).take pre.length++cs.take (min s.n d.n * E.z)++(pre++cd++rest).drop (pre.length+(cs.take (min s.n d.n * E.z)).length)=pre++(cs.take (min s.n d.n * E.z)++cd.drop (min s.n d.n * E.z))++rest:=by
   rw [hxl,List.append_assoc pre,List.take_left,<-List.drop_drop,List.drop_left,List.drop_append_of_le_length hmin]
   simp
  rw [e7] at g2
  have key:=w.upd (H':=H') (r':=.ow t d E.z pre (cs.take (min s.n d.n * E.z)++cd.drop (min s.n d.n * E.z)) rest) hi (by omega) (λb hb hne=>g3.2 b hb (λe=>hne (by rw [e];show c_ t d=_;rw [gW e5,e1];rfl)))
   ⟨by rw [List.length_append,hxl,List.length_drop];omega,h2,h3,λ_=>⟨p,e1,by rw [e2,e1],e3,g2⟩,h5,h6⟩ (λb hb=>.inl hb)
  exact ai e6 (g _ H' key.1 key.2 (hcr.step key.2))
end Go.AE
end
section
namespace Go.AE
open Go.RowKit Go.ChangeShapes Go.WideShapes Go.Joins Go.Deep
variable {P:Program}
def IN {α:Type} (P:Program) (t:TypeId) (E:Ety α) (ok:α->Prop):Prop:=
 ∀ {H:Type} {enc:TypeId×Value->H} {w:World} {fuel:Nat} {cs:List Value} {y:DataW H×List MemPlace},DataW.trod enc P w 0 (λ_=>true) true fuel t cs=some y ->
  ∃ cells x,(∀ Φ,AV.toVs Φ cells=cs)/\(∀ Φ S,∀ v∈cells,v.ok Φ S/\v.isCell=true)/\(∀ H R,E.rep H R cells x)/\ok x
theorem UE {t:TypeId} {k:IntKind} (ht:P.underlying t=some (.int k)):IN P t (bd k) (λn=>(Lit.int k n).wf=true):=λh=>by
 obtain ⟨n,rfl,_,hw⟩:=DataW.trod_int ht h
 exact ⟨[.int k n],n,λ_=>by simp [AV.toVs,AV.toV],λ_ _ v hv=>by cases List.mem_singleton.1 hv;simp [AV.ok,AV.isCell],λ_ _=>rfl,hw⟩
theorem IP {w:World} {r:Reach} {b:Nat} {u:TypeId} {a:Addr} {n m:Nat} (h:Cell.okWide P w r b u (.slice (some a) n m)):a.spot=none:=by
 unfold Cell.okWide Cell.ok at h
 split at h <;> (try split at h) <;> simp_all [World.has]
theorem UF {w:World} {r:Reach} {b:Nat} {t e:TypeId} {a:Addr} {n m:Nat} (ht:P.underlying t=some (.slice e)) (h:Value.okWide P w r b t (.slice (some a) n m)):a.spot=none:=by
 simp only [Value.okWide,ht] at h;exact IP h
theorem CR.of_list {α:Type} {E:Ety α} {H:Hp} {R:List Rs}:∀ (L:List (List AV×α)),(∀ p∈L,E.rep H R p.1 p.2)->CR E H R (L.map (·.1)).flatten (L.map (·.2))
 | [],_=>.nil
 | p::L,h=>.cons (h p (by simp)) (CR.of_list L λq hq=>h q (by simp [hq]))
theorem UG {L:List (List AV)} {z:Nat} (hz:∀ c∈L,c.length=z):∀ {i:Nat} {v:AV},L.flatten[i]?=some v->∃ j k c,L[j]?=some c/\c[k]?=some v/\i=j * z+k/\k<z:=by
 induction L with
 | nil=>intro i v h;simp at h
 | cons c L ih=>
  intro i v h
  have hc:=hz c (by simp)
  rw [List.flatten_cons,List.getElem?_append] at h
  split at h
  ·rename_i hi;exact ⟨0,i,c,rfl,h,by omega,by omega⟩
  ·rename_i hi
   obtain ⟨j,k,c',h1,h2,h3,h4⟩:=ih (λc hc=>hz c (by simp [hc])) h
   exact ⟨j+1,k,c',by simpa using h1,h2,by rw [Nat.succ_mul];omega,h4⟩
theorem Ro.slice {α:Type} [Inhabited α] {E:Ety α} {ok:α->Prop} {Φ:Phi} {H:Hp} {w:World} (ro:Ro Φ H w) {t e:TypeId} (he:IN P e E ok) (hz:P.cellsOf e=E.z) (ht:P.underlying t=some (.slice e)) {X:Type} {enc:TypeId×Value->X} {fuel:Nat} {v:Value} {y:DataW X×List MemPlace}
  (h:DataW.trod enc P w 0 (λ_=>true) true fuel t [v]=some y) (hs:∀ a n m,v=.slice (some a) n m->a.spot=none) :
  ∃ (Φ':Phi) (H':Hp) (s:Sl) (l:List α),Ro Φ' H' w/\H <+: H'/\Φ.agree Φ' (·<H.length)/\(AV.sl s).toV Φ'=v/\(AV.sl s).ok Φ' (·<H'.length)/\ROs E H' [] s l/\l.length<=maxLen/\∀ x∈l,ok x:=by
 rcases open_slice ht h with ⟨hv,_⟩ | ⟨a,len,cap,m,n,D,Pl,hv,_,hl,hm,hmm,_,hi⟩
 ·cases hv
  exact ⟨Φ,H,⟨none,0,.ex 0⟩,[],ro,List.prefix_refl _,Phi.agree_refl _ _,by simp [AV.toV,Sl.toV],by simp [AV.ok],ROs.nil,by simp,λx hx=>by cases hx⟩
 ·cases hv
  have hsp:=hs a len cap rfl
  have hcap:m=cap:=by simpa using hmm
  obtain ⟨X,hX⟩:=choose_lt (α:=List AV×α) (n:=len) (p:=λi x=>∃ cs',w.cells? 0 (a.add (i * P.cellsOf e)) (P.cellsOf e)=some cs'/\(∀ Φ,AV.toVs Φ x.1=cs')/\(∀ Φ S,∀ v∈x.1,v.ok Φ S/\v.isCell=true)/\(∀ H R,E.rep H R x.1 x.2)/\ok x.2) (λi hlt=>by
   obtain ⟨cs',h1,h2⟩:=hi i (by omega)
   obtain ⟨c,x,q1,q2,q3,q4⟩:=he h2
   exact ⟨(c,x),cs',h1,q1,q2,q3,q4⟩)
  have hL:∀ p∈(List.range len).map X,∃ i,i<len/\p=X i:=λp hp=>by
   obtain ⟨i,hi,rfl⟩:=List.mem_map.1 hp
   exact ⟨i,List.mem_range.1 hi,rfl⟩
  have hrep:∀ H R,∀ p∈(List.range len).map X,E.rep H R p.1 p.2:=λH R p hp=>by
   obtain ⟨i,hi,rfl⟩:=hL p hp
   obtain ⟨_,_,_,_,h3,_⟩:=hX i hi
   exact h3 H R
  have hlen:∀ c∈((List.range len).map X).map (·.1),c.length=E.z:=λc hc=>by
   obtain ⟨p,hp,rfl⟩:=List.mem_map.1 hc
   exact E.len (hrep [] [] p hp)
  have hcells:∀ v∈(((List.range len).map X).map (·.1)).flatten,∀ Φ S,v.ok Φ S/\v.isCell=true:=λv hv Φ S=>by
   obtain ⟨c,hc,hv⟩:=List.mem_flatten.1 hv
   obtain ⟨p,hp,rfl⟩:=List.mem_map.1 hc
   obtain ⟨i,hi,rfl⟩:=hL p hp
   obtain ⟨_,_,_,h2,_⟩:=hX i hi
   exact h2 Φ S v hv
  have hcr:∀ H R,CR E H R (((List.range len).map X).map (·.1)).flatten (((List.range len).map X).map (·.2)):=λH R=>CR.of_list _ (hrep H R)
  have hll:(((List.range len).map X).map (·.2)).length=len:=by simp
  have hfl:(((List.range len).map X).map (·.1)).flatten.length=len * E.z:=by rw [(hcr [] []).length,hll]
  have hro:=ro.snoc a.block a.off 0 (((List.range len).map X).map (·.1)).flatten (λv hv=>hcells v hv _ _) (λi v hv=>by
   obtain ⟨j,k,c,g1,g2,g3,g4⟩:=UG hlen hv
   obtain ⟨hj,hc⟩:=List.getElem?_eq_some_iff.1 g1
   have hj':j<len:=by simpa using hj
   have hc':(X j).1=c:=by simpa using hc
   obtain ⟨cs',h1,h2,h3,h4,h5⟩:=hX j hj'
   obtain ⟨_,hcl,hat⟩:=World.cells?_some h1
   have hk:=hat k (by rw [hz];exact g4)
   have e1:cs'[k]?=some (v.toV Φ):=by rw [<- h2 Φ,iW,hc',g2];rfl
   rw [e1,hz] at hk
   rw [<- hk]
   congr 1
   obtain ⟨ab,ao,aq⟩:=a
   simp only at hsp
   subst hsp
   rw [Addr.add_none,Addr.add_none]
   simp only [g3,Nat.add_assoc])
  refine ⟨Φ.put H.length a.block a.off 0,H++[⟨(((List.range len).map X).map (·.1)).flatten,false,true⟩],⟨some (H.length,0),len,.ex cap⟩,((List.range len).map X).map (·.2),hro,List.prefix_append _ _,Phi.put_agree (by simp),?_,?_,?_,?_,?_⟩
  ·simp only [AV.toV,Sl.toV,Option.map_some,Phi.put_b,Phi.put_o,Nat.add_zero]
   obtain ⟨ab,ao,aq⟩:=a
   simp only at hsp
   subst hsp;rfl
  ·simp only [AV.ok]
   intro p hp
   cases hp
   exact ⟨by simp,λz hz=>by cases hz⟩
  ·refine ⟨hll.symm,hl,_,hcr _ _,?_,λp h0 hp=>by cases hp;exact ⟨by simp,λ⟨r,hr,_⟩=>by cases hr⟩⟩
   generalize (((List.range len).map X).map (·.1)).flatten=C at hfl ⊢
   unfold Sl.row
   by_cases h0:len=0
   ·have:C=[]:=List.length_eq_zero_iff.1 (by rw [hfl,h0,Nat.zero_mul])
    rw [if_pos h0,this]
   ·rw [if_neg h0]
    rw [Sl.ad_ex rfl]
    unfold Hp.row
    have e:(H++[(⟨C,false,true⟩:Blk)])[H.length]?=some ⟨C,false,true⟩:=by simp
    simp only [e]
    rw [if_pos (by simp [hfl]),List.drop_zero,<-hfl,List.take_length]
  ·rw [hll];omega
  ·intro x hx
   obtain ⟨p,hp,rfl⟩:=List.mem_map.1 hx
   obtain ⟨i,hi,rfl⟩:=hL p hp
   obtain ⟨_,_,_,_,_,h5⟩:=hX i hi
   exact h5
theorem Fr.pre {H H':Hp} (h:H <+: H'):Fr H [] H' []:=
 ⟨h.length_le,λb hb _=>by obtain ⟨l,rfl⟩:=h;exact List.getElem?_append_left hb,λb ⟨r,hr,_⟩=>by cases hr⟩
theorem W.none (H:Hp):W H []:=⟨λr hr=>absurd hr (List.not_mem_nil),λi j r r' h=>absurd h (by simp)⟩
end Go.AE
end
section
namespace Go.AE
open Go.RowKit
theorem Rel.newAt {Φ:Phi} {S:Nat->Prop} {H:Hp} {w w':World} (h:Rel Φ S H w) (cs:List AV) (c:Array Value) (T:TypeId) (B:Nat) (hw:Below w.heap.size w w') (hB:w.heap.size<=B) (hBc:w'.heap[B]?=some (.cells c T (0,0)))
  (hcl:∀ v∈cs,v.ok Φ S/\v.isCell=true) (hlen:cs.length<=c.size) (hc:∀ (i:Nat) (v:AV),cs[i]?=some v->c[i]?=some (v.toV Φ)) :
  Post Φ S H w (Φ.put H.length B 0 c.size) (H++[⟨cs,true,true⟩]) w':=by
 have hS:¬ S H.length:=λq=>Nat.lt_irrefl _ (h.lt _ q)
 have hag:Φ.agree (Φ.put H.length B 0 c.size) S:=Phi.put_agree hS
 have hold:∀ b blk,S b->(H++[(⟨cs,true,true⟩:Blk)])[b]?=some blk->H[b]?=some blk:=λb blk hb hx=>by
  rwa [List.getElem?_append_left (h.lt b hb)] at hx
 have hnew:∀ blk,(H++[(⟨cs,true,true⟩:Blk)])[H.length]?=some blk->blk=⟨cs,true,true⟩:=λblk hx=>by
  simpa using hx.symm
 have hne:∀ b,S b->b≠H.length:=λb hb e=>hS (e ▸ hb)
 have hbn:∀ b,S b->(Φ.put H.length B 0 c.size).b b=Φ.b b:=λb hb=>(hag b hb).1
 have hown:∀ b blk,S b->H[b]?=some blk->blk.live=true->blk.own=true->Φ.b b<w.heap.size:=λb blk hb h1 h2 h3=>by
  obtain ⟨c',T',e,_⟩:=h.own b blk hb h1 h2 h3
  exact (Array.getElem?_eq_some_iff.1 e).1
 refine ⟨hag,by simp,⟨?_,?_,?_,?_,?_,?_⟩,?_,hw.os,hw.tape,hw.output,hw.size,?_,?_⟩
 ·intro b hb
  rcases eO hb with hb | rfl
  ·have:=h.lt b hb;simp;omega
  ·simp
 ·intro b blk hb hx hl v hv
  have himp:∀ b,S b->ext S H (H++[(⟨cs,true,true⟩:Blk)]) b:=λb hb=>.inl hb
  rcases eO hb with hb | rfl
  ·obtain ⟨q1,q2⟩:=h.closed b blk hb (hold b blk hb hx) hl v hv
   exact ⟨AV.ok_agree hag himp v q1,q2⟩
  ·obtain rfl:=hnew blk hx
   obtain ⟨q1,q2⟩:=hcl v hv
   exact ⟨AV.ok_agree hag himp v q1,q2⟩
 ·intro b blk hb hx hl i v hv
  rcases eO hb with hb | rfl
  ·have hc':=h.cell b blk hb (hold b blk hb hx) hl i v hv
   have hin:=AV.ok_inS v (h.closed b blk hb (hold b blk hb hx) hl v (List.mem_of_getElem? hv)).1
   rw [(hag b hb).1,(hag b hb).2.1,AV.toV_agree hag v hin]
   exact (hw.cell (cell?_lt hc')).trans hc'
  ·obtain rfl:=hnew blk hx
   have hin:=AV.ok_inS v (hcl v (List.mem_of_getElem? hv)).1
   rw [Phi.put_b,Phi.put_o,AV.toV_agree hag v hin]
   unfold World.cell?
   simp only [hBc]
   simpa using hc i v hv
 ·intro b blk hb hx hl ho
  rcases eO hb with hb | rfl
  ·obtain ⟨c',T',e,e2,e3⟩:=h.own b blk hb (hold b blk hb hx) hl ho
   refine ⟨c',T',?_,?_,?_⟩
   ·rw [(hag b hb).1]
    exact (hw.block _ (Array.getElem?_eq_some_iff.1 e).1).trans e
   ·rw [(hag b hb).2.1,(hag b hb).2.2];exact e2
   ·rw [(hag b hb).2.2];exact e3
  ·obtain rfl:=hnew blk hx
   refine ⟨c,T,?_,?_,?_⟩
   ·rw [Phi.put_b];exact hBc
   ·rw [Phi.put_o,Phi.put_k];omega
   ·rw [Phi.put_k];exact hlen
 ·intro b blk b' blk' hb hb' hx hx' hl hl' ho ho' e
  rcases eO hb with hb | rfl
  ·rcases eO hb' with hb' | rfl
   ·rw [hbn b hb,hbn b' hb'] at e
    exact h.inj b blk b' blk' hb hb' (hold b blk hb hx) (hold b' blk' hb' hx') hl hl' ho ho' e
   ·rw [hbn b hb,Phi.put_b] at e
    have:=hown b blk hb (hold b blk hb hx) hl ho
    omega
  ·rcases eO hb' with hb' | rfl
   ·rw [hbn b' hb',Phi.put_b] at e
    have:=hown b' blk' hb' (hold b' blk' hb' hx') hl' ho'
    omega
   ·rfl
 ·intro b blk b' blk' hb hb' hx hx' hl hl' ho ho' hne' e
  rcases eO hb' with hb' | rfl
  ·rcases eO hb with hb | rfl
   ·rw [hbn b hb,hbn b' hb'] at e
    exact h.ro b blk b' blk' hb hb' (hold b blk hb hx) (hold b' blk' hb' hx') hl hl' ho ho' hne' e
   ·rw [hbn b' hb',Phi.put_b] at e
    obtain ⟨v,hv⟩:∃ v,blk'.cells[0]?=some v:=by
     cases hcs:blk'.cells with
     | nil=>exact absurd hcs hne'
     | cons v l=>exact ⟨v,rfl⟩
    have:=cell?_lt (h.cell b' blk' hb' (hold b' blk' hb' hx') hl' 0 v hv)
    simp at this
    omega
  ·obtain rfl:=hnew blk' hx'
   simp at ho'
 ·rintro k hk ⟨b,blk,hb,hx,ho,hl,rfl⟩
  rcases eO hb with hb | rfl
  ·exact ⟨b,blk,hb,hold b blk hb hx,ho,hl,(hbn b hb).symm⟩
  ·rw [Phi.put_b] at hk;omega
 ·intro k hk _
  exact hw.block k hk
 ·intro b blk hb hx hl ho
  rcases eO hb with hb | rfl
  ·exact ⟨hb,hold b blk hb hx⟩
  ·obtain rfl:=hnew blk hx
   simp at ho
theorem Rel.sameAt {Φ:Phi} {S:Nat->Prop} {H:Hp} {w w':World} (h:Rel Φ S H w) (hw:Below w.heap.size w w'):Post Φ S H w Φ H w':=by
 have key:∀ {b:Nat} {x:Obj},w.heap[b]?=some x->w'.heap[b]?=some x:=λ{b x} e=>(hw.block _ (Array.getElem?_eq_some_iff.1 e).1).trans e
 refine ⟨Phi.agree_refl _ _,Nat.le_refl _,?_,?_,hw.os,hw.tape,hw.output,hw.size,λk hk _=>hw.block k hk,λb blk hb hx _ _=>by rw [iT] at hb;exact ⟨hb,hx⟩⟩
 ·rw [iT]
  refine ⟨h.lt,h.closed,λb blk hb hx hl i v hv=>?_,λb blk hb hx hl ho=>?_,h.inj,h.ro⟩
  ·have hc':=h.cell b blk hb hx hl i v hv
   exact (hw.cell (cell?_lt hc')).trans hc'
  ·obtain ⟨c,T,e,e2,e3⟩:=h.own b blk hb hx hl ho
   exact ⟨c,T,key e,e2,e3⟩
 ·intro k _ ho;rw [iT] at ho;exact ho
end Go.AE
end
section
namespace Go.AE
open Go.RowKit Go.Maps
def nst (zs:List Int):Nat->List Int×List Int
 | 0=>([],[])
 | k+1=>(bif (nst zs k).1.contains (zs.getD k 0) then (nst zs k).1 else (nst zs k).1++[zs.getD k 0],
   (nst zs k).2++[(((bif (nst zs k).1.contains (zs.getD k 0) then (nst zs k).1 else (nst zs k).1++[zs.getD k 0]).idxOf (zs.getD k 0):Nat):Int)])
def kl (zs:List Int):List Int:=(nst zs zs.length).2
theorem uI (zs:List Int):∀ k,(nst zs k).2.length=k
 | 0=>rfl
 | k+1=>by
  unfold nst
  simp [uI zs k]
theorem UI {l m:List Int} {x:Int} (h:x∈l):(l++m).idxOf x=l.idxOf x:=by
 rw [List.idxOf_append,if_pos h]
structure ND (D:DataW Unit) (seen:List Int):Prop where
 map:IsMap D
 has:∀ x:Int,Maps.has D (.int .i64 x)=seen.contains x
 at_:∀ x:Int,seen.contains x=true->∀ z,D.atKey (.int .i64 x) z=.lit (.int .i64 (seen.idxOf x:Nat))
 size:Maps.size D=seen.length
theorem ND.nil:ND (.map []) []:=⟨isMap_empty,λx=>rfl,λx h=>by simp at h,rfl⟩
theorem ND.new {D:DataW Unit} {seen:List Int} (h:ND D seen) (ht:Tidy D) {x:Int} (hx:seen.contains x=false):ND (D.put (.int .i64 x) (.lit (.int .i64 (Maps.size D:Nat)))) (seen++[x]) where
 map:=h.map.put _ _
 has:=λy=>by
  by_cases e:y=x
  ·subst e;rw [has_put_same h.map (show WideAt.IsKeyLit (.int .i64 y) from trivial)];simp
  ·rw [has_put_other (λq=>e (by cases q;rfl)),h.has];simp [e]
 at_:=λy hy z=>by
  by_cases e:y=x
  ·subst e
   rw [atKey_put_same h.map (show WideAt.IsKeyLit (.int .i64 y) from trivial),h.size]
   have:y ∉ seen:=by simpa using hx
   rw [List.idxOf_append,if_neg this];simp
  ·have hm:y∈seen:=by simpa [e] using hy
   rw [atKey_put_other (λq=>e (by cases q;rfl)),h.at_ y (by simpa using hm),UI hm]
 size:=by
  have h1:=size_put (k:=.int .i64 x) ht (.lit (.int .i64 (Maps.size D:Nat)))
  rw [h.has x,hx] at h1
  rw [h1,h.size];simp
end Go.AE
end
section
namespace Go.AE
open Go.RowKit
def kP:List AV->Option (List Int)
 | []=>some []
 | v::l=>(v.asI .i64).bind λn=>(kP l).bind λm=>some (n::m)
theorem zW:∀ {l:List AV} {m:List Int},kP l=some m->l=m.map (AV.int .i64)
 | [],m,h=>by cases h;rfl
 | v::l,m,h=>by
  unfold kP at h
  obtain ⟨n,h1,h⟩:=ae h
  obtain ⟨m',h2,h⟩:=ae h
  cases h
  rw [AV.asI_some h1,zW h2];rfl
theorem HI:∀ (m:List Int),kP (m.map (AV.int .i64))=some m
 | []=>rfl
 | n::m=>by rw [List.map_cons,kP,pF,Option.bind_some,HI m];rfl
def wfs (l:List Int):Bool:=l.all λn=>(Lit.int .i64 n).wf
noncomputable def zX (a:Sl) (H:Hp):OA:=
 (Sl.row H a 1).bind λcells=>(kP cells).bind λl=>
  if l.length<=4294967296/\wfs l=true then (if a.n=0 then some (.sl ⟨none,0,.ex 0⟩,H) else some (.sl ⟨some (H.length,0),l.length,.full 1⟩,H++[⟨(kl l).map (AV.int .i64),true,true⟩])) else none
theorem enters_of {P : Program} {f : FuncId} {fn : Func} (hf : P.funcs[f]? = some fn) (hname : (fn.name == "runtime.NumGoroutine") = false) (hb : fn.body.isSome = true) (vs : Array Value) (w : World) : (callFunc f vs).run P w = .ok (.enter f vs) w := by
 have h1 : fn.name ≠ "runtime.NumGoroutine" := by simpa using hname
 obtain ⟨code,hc⟩:=Option.isSome_iff_exists.1 hb
 simp [callFunc,hf,h1,hc,mark]
structure NumOk (P:Program) (f:FuncId) (e:TypeId):Prop where
 nil_:∀ (a:Option Addr) (cap:Nat) (w:World),Calls P f #[.slice a 0 cap] w λe w'=>e=.returned (.slice none 0 0)/\Below w.heap.size w w'
 any:∀ (b off len cap:Nat) (zs:List Int) (w:World),len<=4294967296->len<=zs.length->b<w.heap.size->(∀ j,j<zs.length->w.cell? ⟨b,off+j,none⟩=some (.int .i64 (zs.getD j 0)))->(∀ n∈zs,(Lit.int .i64 n).wf=true) ->
  Calls P f #[.slice (some ⟨b,off,none⟩) len cap] w λr w'=>∃ v,r=.returned v/\w'.ownsRow (w.heap.size+1) e 1 v len ((nst zs len).2.map (Value.int .i64))/\Below w.heap.size w w'
theorem NumOk.T {P:Program} {f:FuncId} {e:TypeId} (k:NumOk P f e) (he:∀ (vs:Array Value) (w:World),(callFunc f vs).run P w=.ok (.enter f vs) w) {a:Sl} {H H':Hp} {v:AV} (h:zX a H=some (v,H')):Go.AE.T P f [.sl a] H v H' where
 enters:=he
 run:=λhw Φ S w hr hok=>by
  unfold zX at h
  obtain ⟨cells,h1,hA⟩:=ae h
  obtain ⟨l,h2,hB⟩:=ae hA
  obtain ⟨⟨h3,h4⟩,hC⟩:=eY hB
  clear h hA hB
  obtain rfl:=zW h2
  have hsok:=hok (.sl a) (by simp)
  simp only [AV.ok] at hsok
  obtain ⟨sa,sn,sc⟩:=a
  by_cases h0:sn=0
  ·subst h0
   rw [if_pos rfl] at hC
   cases hC
   refine (k.nil_ _ _ w).mono λr w' ⟨q1,q2⟩=>⟨Φ,?_,hr.sameAt q2,?_⟩
   ·rw [q1];simp [AV.toV,Sl.toV]
   ·simp [AV.ok]
  ·rw [if_neg h0] at hC
   cases hC
   unfold Sl.row at h1
   rw [if_neg h0] at h1
   cases had:Sl.ad ⟨sa,sn,sc⟩ with
   | none=>rw [had] at h1;cases h1
   | some p=>
    rw [had] at h1
    obtain ⟨e1,e2⟩:=Sl.ad_some had
    simp only at e1
    subst e1
    obtain ⟨g1,g2⟩:=Hp.row_cell h1
    have hlen:l.length=sn:=by simpa using g1
    have hS:=(hsok p rfl).1
    have hcell:∀ j,j<l.length->w.cell? ⟨Φ.b p.1,Φ.o p.1+p.2+j,none⟩=some (.int .i64 (l.getD j 0)):=λj hj=>by
     have:=(hr.cell_of hS (g2 j (.int .i64 (l.getD j 0)) (by rw [List.getElem?_map,List.getElem?_eq_getElem hj,List.getD_eq_getElem?_getD,List.getElem?_eq_getElem hj];rfl))).1
     rw [<- Nat.add_assoc] at this
     simpa [AV.toV] using this
    have hb:Φ.b p.1<w.heap.size:=cell?_lt (hcell 0 (by omega))
    have hv:∃ cap,AV.toVs Φ [.sl ⟨some p,sn,sc⟩]=[.slice (some ⟨Φ.b p.1,Φ.o p.1+p.2,none⟩) sn cap]:=by
     have:=Sl.adr_of (Φ:=Φ) had
     unfold Sl.adr at this
     simp only [AV.toVs,AV.toV,Sl.toV]
     simp only at this
     rw [this]
     exact ⟨_,rfl⟩
    obtain ⟨cap,hv⟩:=hv
    rw [hv]
    refine (k.any (Φ.b p.1) (Φ.o p.1+p.2) sn cap l w (by omega) (by omega) hb hcell (λn hn=>List.all_eq_true.1 h4 n hn)).mono λr w' ⟨u,q1,q2,q3⟩=>?_
    obtain ⟨x1,x2⟩:=q2
    rcases x2 with ⟨_,x3⟩ | ⟨g,cap',cur,rfl,y1,y2,y3,y4,y5,y6⟩
    ·exact absurd x3 h0
    ·have hcs:((kl l).map (AV.int .i64)).length=sn:=by unfold kl;rw [List.length_map,uI,hlen]
     have hpost:=hr.newAt ((kl l).map (AV.int .i64)) cur e g q3 (by omega) y2 (λv hv=>by obtain ⟨x,_,rfl⟩:=List.mem_map.1 hv;simp [AV.ok,AV.isCell]) (by rw [hcs];omega) (λi v hv=>by
      rw [List.getElem?_map] at hv
      obtain ⟨x,hx,rfl⟩:=Option.map_eq_some_iff.1 hv
      have hi:i<sn:=by
       have:=(List.getElem?_eq_some_iff.1 hx).1
       unfold kl at this;rw [uI] at this;omega
      have:(cur.toList.take (sn * 1))[i]?=some (.int .i64 x):=by
       rw [y6,List.getElem?_map,<-hlen]
       unfold kl at hx;rw [hx];rfl
      rw [List.getElem?_take] at this
      rw [if_pos (by omega)] at this
      simpa [AV.toV] using this)
     refine ⟨_,?_,hpost,?_⟩
     ·rw [q1]
      simp only [AV.toV,Sl.toV,Option.map_some,Phi.put_b,Phi.put_o,Phi.put_k]
      rw [hlen]
      congr 2
      simp [y5]
     ·simp only [AV.ok]
      intro q hq
      cases hq
      refine ⟨.inr ⟨Nat.le_refl _,by simp⟩,λz hz=>?_⟩
      cases hz
      rw [Phi.put_k]
      simp only
      omega
 wf:=λhw hi=>by
  unfold zX at h
  obtain ⟨cells,h1,hA⟩:=ae h
  obtain ⟨l,h2,hB⟩:=ae hA
  obtain ⟨⟨h3,h4⟩,hC⟩:=eY hB
  clear h hA hB
  split at hC
  ·cases hC;exact ⟨hw,by simp [AV.inS],Nat.le_refl _⟩
  ·cases hC
   exact ⟨hw.new _ (λv hv=>by obtain ⟨x,_,rfl⟩:=List.mem_map.1 hv;simp [AV.inS]) true true,by simp [AV.inS],by simp⟩
theorem W.newF {H:Hp} {R:List Rs} (w:W H R) (cells:List AV) (n z:Nat) (h:cells.length=n * z) (hz:0<z) :
  ∃ H',H'=H++[⟨cells,true,true⟩]/\W H' (.own ⟨some (H.length,0),n,.full z⟩ z cells::R)/\Fr H R H' (.own ⟨some (H.length,0),n,.full z⟩ z cells::R):=
 ⟨_,rfl,w.cons (by simp) (λb hb=>getElem?_app_lt hb) ⟨h,hz,(λe=>by simp [lvs] at e),λ_=>⟨_,rfl,rfl,rfl,by simpa using At.new H cells⟩,⟨rfl,rfl⟩,λ_=>⟨rfl,rfl,λ_=>.inl rfl⟩⟩ (λb hb=>by obtain ⟨_,hb⟩:=gX (show c_ _ _=some b from hb);cases hb;exact Nat.le_refl _)⟩
end Go.AE
end
section
namespace Go.AE
open Go.RowKit
def ngv (l:List Int):List Int:=(l.map λx=>IntKind.i64.wrap (0 - x)).reverse
theorem mX (l:List Int):(ngv l).length=l.length:=by unfold ngv;rw [List.length_reverse,List.length_map]
noncomputable def pj (a:Sl) (H:Hp):OA:=
 (Sl.row H a 1).bind λcells=>(kP cells).bind λl=>
  if l.length<=1000000/\wfs l=true then (if a.n=0 then some (.sl ⟨none,0,.ex 0⟩,H) else some (.sl ⟨some (H.length,0),l.length,.full 1⟩,H++[⟨(ngv l).map (AV.int .i64),true,true⟩])) else none
def rdi (l:List Int) (n:Nat):Int:=l.getD n 0
theorem zr (a:Addr) (n:Nat):(a.add n).block=a.block:=by unfold Addr.add;split <;> rfl
structure Aside0 (P:Prop):Prop where
 mk ::
 out:P
structure InvOk (P:Program) (f:FuncId) (e:TypeId):Prop where
 any:∀ (A0:Option Addr) (c0:Nat) (l0:List Int) (w:World),l0.length<=1000000->(∀ j:Nat,j<l0.length->∃ ad,A0=some ad/\ad.block<w.heap.size/\w.cell? (ad.add j)=some (.int .i64 (l0.getD j 0))) ->
  Calls P f #[.slice A0 l0.length c0] w λr w'=>∃ v,r=.returned v/\w'.ownsRow w.heap.size e 1 v l0.length ((ngv l0).map (Value.int .i64))/\Below w.heap.size w w'/\(l0=[]->v=.slice none 0 0)
theorem InvOk.T {P:Program} {f:FuncId} {e:TypeId} (k:InvOk P f e) (he:∀ (vs:Array Value) (w:World),(callFunc f vs).run P w=.ok (.enter f vs) w) {a:Sl} {H H':Hp} {v:AV} (h:pj a H=some (v,H')):Go.AE.T P f [.sl a] H v H' where
 enters:=he
 run:=λhw Φ S w hr hok=>by
  unfold pj at h
  obtain ⟨cells,h1,hA⟩:=ae h
  obtain ⟨l,h2,hB⟩:=ae hA
  obtain ⟨⟨h3,h4⟩,hC⟩:=eY hB
  clear h hA hB
  obtain rfl:=zW h2
  have hsok:=hok (.sl a) (by simp)
  simp only [AV.ok] at hsok
  obtain ⟨sa,sn,sc⟩:=a
  by_cases h0:sn=0
  ·subst h0
   rw [if_pos rfl] at hC
   cases hC
   have hl0:l=[]:=by
    unfold Sl.row at h1
    rw [if_pos rfl] at h1
    have:=Option.some.inj h1
    cases l with
    | nil=>rfl
    | cons x l=>simp at this
   subst hl0
   obtain ⟨A0,c0,hv⟩:∃ A0 c0,AV.toVs Φ [.sl ⟨sa,0,sc⟩]=[.slice A0 0 c0]:=by
    simp only [AV.toVs,AV.toV,Sl.toV];exact ⟨_,_,rfl⟩
   rw [hv]
   refine (k.any A0 c0 [] w (by simp) (λj hj=>by simp at hj)).mono λr w' ⟨u,q1,q2,q3,q4⟩=>⟨Φ,?_,hr.sameAt q3,?_⟩
   ·rw [q1,q4 rfl];simp [AV.toV,Sl.toV]
   ·simp [AV.ok]
  ·rw [if_neg h0] at hC
   cases hC
   unfold Sl.row at h1
   rw [if_neg h0] at h1
   cases had:Sl.ad ⟨sa,sn,sc⟩ with
   | none=>rw [had] at h1;cases h1
   | some p=>
    rw [had] at h1
    obtain ⟨e1,e2⟩:=Sl.ad_some had
    simp only at e1
    subst e1
    obtain ⟨g1,g2⟩:=Hp.row_cell h1
    have hlen:l.length=sn:=by simpa using g1
    have hS:=(hsok p rfl).1
    have hcell:∀ j,j<l.length->w.cell? ⟨Φ.b p.1,Φ.o p.1+p.2+j,none⟩=some (.int .i64 (l.getD j 0)):=λj hj=>by
     have:=(hr.cell_of hS (g2 j (.int .i64 (l.getD j 0)) (by rw [List.getElem?_map,List.getElem?_eq_getElem hj,List.getD_eq_getElem?_getD,List.getElem?_eq_getElem hj];rfl))).1
     rw [<- Nat.add_assoc] at this
     simpa [AV.toV] using this
    have hb:Φ.b p.1<w.heap.size:=cell?_lt (hcell 0 (by omega))
    have hv:∃ cap,AV.toVs Φ [.sl ⟨some p,sn,sc⟩]=[.slice (some ⟨Φ.b p.1,Φ.o p.1+p.2,none⟩) sn cap]:=by
     have:=Sl.adr_of (Φ:=Φ) had
     unfold Sl.adr at this
     simp only [AV.toVs,AV.toV,Sl.toV]
     simp only at this
     rw [this]
     exact ⟨_,rfl⟩
    obtain ⟨cap,hv⟩:=hv
    rw [hv,<-hlen]
    refine (k.any (some ⟨Φ.b p.1,Φ.o p.1+p.2,none⟩) cap l w h3 (λj hj=>⟨_,rfl,hb,by
     unfold Addr.add
     by_cases e:j=0
     ·subst e;rw [if_pos rfl];exact hcell 0 hj
     ·rw [if_neg e];exact hcell j hj⟩)).mono λr w' ⟨u,q1,q2,q3,_⟩=>?_
    obtain ⟨x1,x2⟩:=q2
    rcases x2 with ⟨_,x3⟩ | ⟨g,cap',cur,rfl,y1,y2,y3,y4,y5,y6⟩
    ·exact absurd x3 (by omega)
    ·have hcs:((ngv l).map (AV.int .i64)).length=sn:=by rw [List.length_map,mX,hlen]
     have hpost:=hr.newAt ((ngv l).map (AV.int .i64)) cur e g q3 (by omega) y2 (λv hv=>by obtain ⟨x,_,rfl⟩:=List.mem_map.1 hv;simp [AV.ok,AV.isCell]) (by rw [hcs];omega) (λi v hv=>by
      rw [List.getElem?_map] at hv
      obtain ⟨x,hx,rfl⟩:=Option.map_eq_some_iff.1 hv
      have hi:i<l.length:=by
       have:=(List.getElem?_eq_some_iff.1 hx).1
       rw [mX] at this;omega
      have:(cur.toList.take (l.length * 1))[i]?=some (.int .i64 x):=by
       rw [y6,List.getElem?_map,hx];rfl
      rw [List.getElem?_take] at this
      rw [if_pos (by omega)] at this
      simpa [AV.toV] using this)
     refine ⟨_,?_,hpost,?_⟩
     ·rw [q1]
      simp only [AV.toV,Sl.toV,Option.map_some,Phi.put_b,Phi.put_o,Phi.put_k]
      congr 2
      simp [y5]
     ·simp only [AV.ok]
      intro q hq
      cases hq
      refine ⟨.inr ⟨Nat.le_refl _,by simp⟩,λz hz=>?_⟩
      cases hz
      rw [Phi.put_k]
      simp only
      omega
 wf:=λhw hi=>by
  unfold pj at h
  obtain ⟨cells,h1,hA⟩:=ae h
  obtain ⟨l,h2,hB⟩:=ae hA
  obtain ⟨⟨h3,h4⟩,hC⟩:=eY hB
  clear h hA hB
  split at hC
  ·cases hC;exact ⟨hw,by simp [AV.inS],Nat.le_refl _⟩
  ·cases hC
   exact ⟨hw.new _ (λv hv=>by obtain ⟨x,_,rfl⟩:=List.mem_map.1 hv;simp [AV.inS]) true true,by simp [AV.inS],by simp⟩
end Go.AE
end
section
namespace Go.AE
end Go.AE
end
section
namespace Go.AE
variable {H:Hp} {R:List Rs}
end Go.AE
end
section
namespace Go.AE
structure RM (H0:Hp) (R:List Rs) (H:Hp) (s:Sl) (l:List Int):Prop where
 n:s.n=l.length
 c:(l=[]/\s.c=.ex 0/\W H R/\Fr H0 R H R)\/∃ b rest,s=⟨some (b,0),l.length,.full 1⟩/\W H (.blk b (l.map (AV.int .i64)++rest)::R)/\Fr H0 R H (.blk b (l.map (AV.int .i64)++rest)::R)
theorem RM.ro {H0 H:Hp} {R:List Rs} {s:Sl} {l:List Int} (h:RM H0 R H s l) {α:Type} {E:Ety α} {w:Sl} {lw:List α} (f:ROs E H0 R w lw):∃ R',ROs E H R' w lw:=by
 rcases h.c with ⟨_,_,_,fr⟩ | ⟨b,rest,_,_,fr⟩
 ·exact ⟨_,f.step fr⟩
 ·exact ⟨_,f.step fr⟩
theorem RM.app {H0 H:Hp} {R:List Rs} {s:Sl} {l:List Int} (h:RM H0 R H s l) (x:Int) (hl:l.length<=4294967296) {K:Sl×Hp->OA} {Q:AV->Hp->Prop}
  (g:∀ s' H',RM H0 R H' s' (l++[x])->∃ v H'',K (s',H')=some (v,H'')/\Q v H'') :
  ∃ v H'',((Hp.new H [.int .i64 x]).bind λH1=>(Sl.row H1 (⟨some (H.length,0),1,.ex 1⟩:Sl) 1).bind λxs=>(Hp.app H1 1 8 s (⟨some (H.length,0),1,.ex 1⟩:Sl).n xs).bind K)=some (v,H'')/\Q v H'':=by
 unfold Hp.new
 have hrow:Sl.row (H++[⟨[.int .i64 x],true,true⟩]) (⟨some (H.length,0),1,.ex 1⟩:Sl) 1=some [.int .i64 x]:=by
  unfold Sl.row Sl.ad Hp.row
  simp
 rw [Option.bind_some,hrow,Option.bind_some]
 have hlen:(H++[(⟨[.int .i64 x],true,true⟩:Blk)]).length=H.length+1:=by simp
 have hm:(l++[x]).map (AV.int .i64)=l.map (AV.int .i64)++[.int .i64 x]:=by simp
 obtain ⟨a,sn,c⟩:=s
 have hn:=h.n
 simp only at hn
 have cond:(sn+1) * 8<=70368744177664/\sn+1<=70368744177664/\8<=70368744177664/\0<1:=by omega
 have mk:∀ (H1:Hp) (n':Nat) (cells:List AV),n'=(l++[x]).length->cells=(l++[x]).map (AV.int .i64)->H1.length=H.length+1->W H1 R->Fr H0 R H1 R ->
   RM H0 R (H1++[⟨cells,true,true⟩]) ⟨some (H1.length,0),n',.full 1⟩ (l++[x]):=by
  intro H1 n' cells e1 e2 e3 w fr
  obtain ⟨H2,e,w2,s2⟩:=w.new cells
  unfold Hp.new at e
  obtain rfl:=Option.some.inj e
  refine ⟨e1,.inr ⟨H1.length,[],by rw [e1],?_,?_⟩⟩
  ·rw [List.append_nil,<-e2];exact w2
  ·rw [List.append_nil,<-e2];exact fr.trans s2
 rcases h.c with ⟨rfl,hc,w,fr⟩ | ⟨b,rest,e,w,fr⟩
 ·simp only at hc
  subst hc
  simp only [List.length_nil] at hn
  subst hn
  obtain ⟨H2,e,w2,s2⟩:=w.new [.int .i64 x]
  unfold Hp.new at e
  obtain rfl:=Option.some.inj e
  have w3:=(w2.right1).1
  have s3:=(w2.right1).2
  have happ:Hp.app (H++[⟨[.int .i64 x],true,true⟩]) 1 8 ⟨a,0,.ex 0⟩ 1 [.int .i64 x]=some (⟨some ((H++[⟨[.int .i64 x],true,true⟩]:Hp).length,0),1,.full 1⟩,(H++[⟨[.int .i64 x],true,true⟩])++[⟨[.int .i64 x],true,true⟩]):=by
   unfold Hp.app Sl.row
   simp
  rw [happ,Option.bind_some]
  exact g _ _ (mk _ _ _ rfl rfl hlen w3 (fr.trans (s2.trans s3)))
 ·obtain ⟨rfl,rfl,rfl⟩:a=some (b,0)/\sn=l.length/\c=.full 1:=by cases e;exact ⟨rfl,rfl,rfl⟩
  obtain ⟨H2,e',w2,s2⟩:=w.new [.int .i64 x]
  unfold Hp.new at e'
  obtain rfl:=Option.some.inj e'
  have w3:=(w2.right1).1
  have s3:=fr.trans (s2.trans (w2.right1).2)
  have hat:At (H++[⟨[.int .i64 x],true,true⟩]) b (l.map (AV.int .i64)++rest):=w3.at_ (i:=0) rfl
  have hown:Hp.ownc (H++[⟨[.int .i64 x],true,true⟩]) b=some (l.map (AV.int .i64)++rest):=by
   unfold Hp.ownc;rw [hat];rfl
  cases rest with
  | nil=>
   rw [List.append_nil] at hown hat w3 s3
   have hb:b<(H++[(⟨[.int .i64 x],true,true⟩:Blk)]).length:=hat.lt
   have happ:Hp.app (H++[⟨[.int .i64 x],true,true⟩]) 1 8 ⟨some (b,0),l.length,.full 1⟩ 1 [.int .i64 x]=some (⟨some ((H++[⟨[.int .i64 x],true,true⟩]:Hp).length,0),l.length+1,.full 1⟩,Hp.kill (H++[⟨[.int .i64 x],true,true⟩]) b++[⟨(l.map (AV.int .i64)).drop 0++[.int .i64 x],true,true⟩]):=by
    unfold Hp.app
    rw [if_pos cond]
    simp only [Option.bind_some,hown,if_true,Nat.mul_one,Nat.zero_add,List.length_map]
    rw [if_neg (by omega)]
   rw [happ,Option.bind_some]
   have hkl:(Hp.kill (H++[⟨[.int .i64 x],true,true⟩]) b).length=(H++[(⟨[.int .i64 x],true,true⟩:Blk)]).length:=by unfold Hp.kill;split <;> simp
   have w4:=(w3.right1)
   have nb:∀ c,inK R c->c≠b:=λc ⟨r,hr,hk⟩ e=>by
    obtain ⟨j,hj⟩:=List.getElem?_of_mem hr
    exact w3.nd 0 (j+1) _ r rfl (by simpa using hj) (by omega) b rfl (e ▸ hk)
   have hkeep:∀ c,c≠b->(Hp.kill (H++[⟨[.int .i64 x],true,true⟩]) b)[c]?=(H++[(⟨[.int .i64 x],true,true⟩:Blk)])[c]?:=λc hc=>by
    unfold Hp.kill
    split
    ·rw [List.getElem?_set_ne (λq=>hc q.symm)]
    ·rfl
   have w5:W (Hp.kill (H++[⟨[.int .i64 x],true,true⟩]) b) R:=⟨λr hr=>Rs.ok_keep (w4.1.ok r hr) λc hc=>hkeep c (nb c ⟨r,hr,hc⟩),w4.1.nd⟩
   have s5:Fr H0 R (Hp.kill (H++[⟨[.int .i64 x],true,true⟩]) b) R:=by
    refine ⟨by rw [hkl];exact s3.len,λc hc hn=>?_,λc hc=>.inl hc⟩
    have hcb:c≠b:=λe=>by
     subst e
     rcases s3.sub c ⟨_,List.mem_cons_self,rfl⟩ with q | q
     ·exact hn q
     ·omega
    rw [hkeep c hcb];exact s3.keep c hc hn
   have:=mk (Hp.kill (H++[⟨[.int .i64 x],true,true⟩]) b) (l.length+1) ((l.map (AV.int .i64)).drop 0++[.int .i64 x]) (by simp) (by rw [List.drop_zero,hm]) (by rw [hkl,hlen]) w5 s5
   rw [hkl] at this
   exact g _ _ this
  | cons y rest=>
   have happ:Hp.app (H++[⟨[.int .i64 x],true,true⟩]) 1 8 ⟨some (b,0),l.length,.full 1⟩ 1 [.int .i64 x]=(Hp.st (H++[⟨[.int .i64 x],true,true⟩]) b l.length (.int .i64 x)).bind λH'=>some (⟨some (b,0),l.length+1,.full 1⟩,H'):=by
    unfold Hp.app
    rw [if_pos cond]
    simp only [Option.bind_some,hown,if_true,Nat.mul_one,Nat.zero_add,List.length_append,List.length_map,List.length_cons]
    rw [if_pos (by omega)]
    rfl
   obtain ⟨H3,e3,w5,s5⟩:=w3.st (i:=0) (o:=l.length) (v:=.int .i64 x) rfl (by simp) rfl
   rw [happ,e3,Option.bind_some,Option.bind_some]
   have hset:(l.map (AV.int .i64)++y::rest).set l.length (.int .i64 x)=(l++[x]).map (AV.int .i64)++rest:=by
    rw [List.set_append_right _ _ (by simp),hm]
    simp
   simp only [List.set_cons_zero,hset] at w5 s5
   exact g _ _ ⟨by simp,.inr ⟨b,rest,by simp,w5,s3.trans s5⟩⟩
theorem RM.last {H0 H:Hp} {R:List Rs} {s:Sl} {l:List Int} (h:RM H0 R H s l) (hn:l.length<=4294967296) {x:Int} {l':List Int} (hl:l=l'++[x]) :
  ∃ p,Sl.idx s (IntKind.i64.wrap ((s.n:Int) - 1)) 1=some p/\H.ldI .i64 p.1 p.2=some x/\∃ s',Sl.cut s 1 0 (IntKind.i64.wrap ((s.n:Int) - 1))=some s'/\RM H0 R H s' l':=by
 have h0:l≠[]:=by rw [hl];simp
 rcases h.c with ⟨e,_⟩ | ⟨b,rest,e,w,fr⟩
 ·exact absurd e h0
 ·subst e
  simp only
  have hlen:l.length=l'.length+1:=by rw [hl];simp
  rw [show ((l.length:Int) - 1)=(l'.length:Int) by omega,aS (by omega) (by omega)]
  refine ⟨(b,l'.length),?_,?_,⟨some (b,0),l'.length,.full 1⟩,?_,⟨rfl,.inr ⟨b,.int .i64 x::rest,rfl,?_,?_⟩⟩⟩
  ·unfold Sl.idx Sl.ad
   dsimp only
   rw [if_pos ⟨by omega,by omega⟩]
   simp
  ·exact (w.at_ (i:=0) rfl).ldI (by rw [hl];simp)
  ·unfold Sl.cut
   simp only [Option.bind_some]
   rw [if_pos ⟨Int.le_refl _,by omega,by omega,trivial⟩,if_pos (by omega)]
   simp
  ·have:l'.map (AV.int .i64)++.int .i64 x::rest=l.map (AV.int .i64)++rest:=by rw [hl];simp
   rw [this];exact w
  ·have:l'.map (AV.int .i64)++.int .i64 x::rest=l.map (AV.int .i64)++rest:=by rw [hl];simp
   rw [this];exact fr
theorem RM.out {H0 H:Hp} {R:List Rs} {s:Sl} {l:List Int} (h:RM H0 R H s l):∃ a c p k r,s=⟨a,l.length,c⟩/\W H (.ow false ⟨a,l.length,c⟩ (bd .i64).z p k r::R)/\Fr H0 R H (.ow false ⟨a,l.length,c⟩ (bd .i64).z p k r::R) /\
  CR (bd .i64) H (.ow false ⟨a,l.length,c⟩ (bd .i64).z p k r::R) k l:=by
 obtain ⟨a,n,c⟩:=s
 have hn:=h.n
 simp only at hn
 subst hn
 rcases h.c with ⟨rfl,hc,w,fr⟩ | ⟨b,rest,e,w,fr⟩
 ·simp only at hc
  subst hc
  have:=w.cons (r:=.ow false ⟨a,0,.ex 0⟩ 1 [] [] []) (Nat.le_refl _) (λ_ _=>rfl) ⟨by simp,by decide,λ_=>rfl,λh=>by simp [lvs] at h,Nat.le_refl 0,λh=>by cases h⟩ (λb hb=>by
   obtain ⟨hc,hb⟩:=gX (show c_ _ _=some b from hb);simp [lvs] at hc)
  exact ⟨a,.ex 0,[],[],[],rfl,this.1,fr.trans this.2,CR.empty⟩
 ·obtain ⟨rfl,rfl⟩:a=some (b,0)/\c=.full 1:=by cases e;exact ⟨rfl,rfl⟩
  have hat:=w.at_ (i:=0) rfl
  have key:∀ c,Rs.has (.ow false ⟨some (b,0),l.length,.full 1⟩ 1 [] (l.map (AV.int .i64)) rest) c->c=b:=λc hc=>by
   obtain ⟨_,hb⟩:=gX (show c_ _ _=some c from hc);simpa using hb.symm
  have:=w.upd (i:=0) (H':=H) (r':=.ow false ⟨some (b,0),l.length,.full 1⟩ 1 [] (l.map (AV.int .i64)) rest) rfl (Nat.le_refl _) (λ_ _ _=>rfl)
   ⟨by simp,by decide,λe=>by have:=of_decide_eq_false e;exact Decidable.not_not.1 this,λ_=>⟨(b,0),rfl,rfl,rfl,by simpa using hat⟩,⟨rfl,rfl⟩,λh=>by cases h⟩ (λc hc=>.inl (by rw [key c hc];rfl))
  exact ⟨some (b,0),.full 1,[],l.map (AV.int .i64),rest,rfl,this.1,fr.trans this.2,CR.ints _ _ _ _⟩
end Go.AE
end
section
namespace Go.AE
structure GA (H0:Hp) (R:List Rs) (H:Hp) (s:Sl) (l:List Int) (r:Nat):Prop where
 n:s.n=l.length
 c:(l=[]/\r=0/\s=⟨none,0,.ex 0⟩/\W H R/\Fr H0 R H R)\/∃ b rest,rest.length=r/\s=⟨some (b,0),l.length,.full 1⟩/\W H (.blk b (l.map (AV.int .i64)++rest)::R)/\Fr H0 R H (.blk b (l.map (AV.int .i64)++rest)::R)
theorem GA.ro {H0 H:Hp} {R:List Rs} {s:Sl} {l:List Int} {r:Nat} (h:GA H0 R H s l r) {α:Type} {E:Ety α} {w:Sl} {lw:List α} (f:ROs E H0 R w lw):∃ R',ROs E H R' w lw:=by
 rcases h.c with ⟨_,_,_,_,fr⟩ | ⟨b,rest,_,_,_,fr⟩
 ·exact ⟨_,f.step fr⟩
 ·exact ⟨_,f.step fr⟩
theorem GA.app {H0 H:Hp} {R:List Rs} {s:Sl} {l:List Int} {r:Nat} (h:GA H0 R H s l r) (m:List Int) (hm:m.length<=r) (hr:l.length+r<=4294967296) :
  ∃ s' H',Hp.app H 1 8 s m.length (m.map (AV.int .i64))=some (s',H')/\GA H0 R H' s' (l++m) (r - m.length):=by
 rcases h.c with ⟨rfl,rfl,rfl,w,fr⟩ | ⟨b,rest,rfl,rfl,w,fr⟩
 ·obtain rfl:m=[]:=List.length_eq_zero_iff.1 (by omega)
  refine ⟨⟨none,0,.ex 0⟩,H,?_,rfl,.inl ⟨rfl,rfl,rfl,w,fr⟩⟩
  unfold Hp.app
  simp
 ·have hat:At H b (l.map (AV.int .i64)++rest):=w.at_ (i:=0) rfl
  have hown:Hp.ownc H b=some (l.map (AV.int .i64)++rest):=by unfold Hp.ownc;rw [hat];rfl
  obtain ⟨H',e1,e2,e3,e4⟩:=IM (m.map (AV.int .i64)) l.length H _ hat (by simp;omega) (by intro v hv;obtain ⟨x,_,rfl⟩:=List.mem_map.1 hv;rfl)
  have hcells:(l.map (AV.int .i64)++rest).take l.length++m.map (AV.int .i64)++(l.map (AV.int .i64)++rest).drop (l.length+(m.map (AV.int .i64)).length)=(l++m).map (AV.int .i64)++rest.drop m.length:=by
   rw [List.take_append_of_le_length (by simp),List.take_of_length_le (by simp),List.drop_append]
   simp
  rw [hcells] at e2
  have e1':stH H b l.length (m.map (AV.int .i64))=some H':=by
   rw [iX] at e1
   cases hh:stH H b l.length (m.map (AV.int .i64)) with
   | none=>rw [hh] at e1;cases e1
   | some y=>rw [hh] at e1;exact e1
  have happ:Hp.app H 1 8 ⟨some (b,0),l.length,.full 1⟩ m.length (m.map (AV.int .i64))=some (⟨some (b,0),l.length+m.length,.full 1⟩,H'):=by
   unfold Hp.app
   rw [if_pos (by simp only;omega)]
   simp only [Option.bind_some,hown,if_true,Nat.mul_one,Nat.zero_add,List.length_append,List.length_map]
   rw [if_pos (by omega),iX,e1']
   rfl
  have key:=w.upd (i:=0) (H':=H') (r:=.blk b (l.map (AV.int .i64)++rest)) (r':=.blk b ((l++m).map (AV.int .i64)++rest.drop m.length)) rfl (by omega) (λc hc hne=>e3.2 c hc (λq=>hne (by rw [q];rfl))) e2 (λc hc=>.inl hc)
  simp only [List.set_cons_zero] at key
  exact ⟨_,H',happ,by simp,.inr ⟨b,rest.drop m.length,by simp,by simp,key.1,fr.trans key.2⟩⟩
theorem GA.out {H0 H:Hp} {R:List Rs} {s:Sl} {l:List Int} (h:GA H0 R H s l 0):∃ a c,s=⟨a,l.length,c⟩/\W H (.own ⟨a,l.length,c⟩ (bd .i64).z (l.map (AV.int .i64))::R)/\Fr H0 R H (.own ⟨a,l.length,c⟩ (bd .i64).z (l.map (AV.int .i64))::R):=by
 rcases h.c with ⟨rfl,_,rfl,w,fr⟩ | ⟨b,rest,hr,rfl,w,fr⟩
 ·have:=w.nilS 1 (by decide)
  exact ⟨none,.ex 0,rfl,this.1,fr.trans this.2⟩
 ·obtain rfl:rest=[]:=List.length_eq_zero_iff.1 hr
  rw [List.append_nil] at w fr
  have hat:=w.at_ (i:=0) rfl
  have key:∀ c,Rs.has (.own ⟨some (b,0),l.length,.full 1⟩ 1 (l.map (AV.int .i64))) c->c=b:=λc hc=>by
   obtain ⟨_,hb⟩:=gX (show c_ _ _=some c from hc);simpa using hb.symm
  have:=w.upd (i:=0) (H':=H) (r':=.own ⟨some (b,0),l.length,.full 1⟩ 1 (l.map (AV.int .i64))) rfl (Nat.le_refl _) (λ_ _ _=>rfl)
   ⟨by simp,by decide,λe=>by simp [lvs] at e,λ_=>⟨(b,0),rfl,rfl,rfl,by simpa using hat⟩,⟨rfl,rfl⟩,λ_=>⟨rfl,rfl,λ_=>.inl rfl⟩⟩ (λc hc=>.inl (by rw [key c hc];rfl))
  exact ⟨some (b,0),.full 1,rfl,this.1,fr.trans this.2⟩
theorem GA.grow {H:Hp} {R:List Rs} (w:W H R) {n:Nat} (hn:0<n) (hl:n<=4294967296) :
  ∃ H',Hp.app H 1 8 ⟨none,0,.ex 0⟩ n (zrow n [.int .i64 0])=some (⟨some (H.length,0),n,.full 1⟩,H')/\Sl.cut ⟨some (H.length,0),n,.full 1⟩ 1 0 0=some ⟨some (H.length,0),0,.full 1⟩/\GA H R H' ⟨some (H.length,0),0,.full 1⟩ [] n:=by
 obtain ⟨H2,e,w2,s2⟩:=w.new (zrow n [.int .i64 0])
 unfold Hp.new at e
 obtain rfl:=Option.some.inj e
 refine ⟨_,?_,?_,rfl,.inr ⟨H.length,zrow n [.int .i64 0],by simp [zrow],rfl,w2,s2⟩⟩
 ·unfold Hp.app Sl.row
  simp
  omega
 ·unfold Sl.cut
  simp
  omega
end Go.AE
end
section
namespace Go.AE
variable {H:Hp} {R:List Rs}
abbrev Ow.rs (q:Ow):Rs:=.ow q.t q.s q.z q.pre q.cells q.rest
structure Sm (R R':List Rs):Prop where
 w:∀ H,W H R↔W H R'
 k:∀ b,inK R b↔inK R' b
theorem Sm.symm {R R':List Rs} (h:Sm R R'):Sm R' R:=⟨λH=>(h.w H).symm,λb=>(h.k b).symm⟩
theorem Sm.trans {R R' R'':List Rs} (h:Sm R R') (h':Sm R' R''):Sm R R'':=⟨λH=>(h.w H).trans (h'.w H),λb=>(h.k b).trans (h'.k b)⟩
theorem Sm.go {R':List Rs} (h:Sm R R') (w:W H R):W H R'/\Fr H R H R':=⟨(h.w H).1 w,Nat.le_refl _,λ_ _ _=>rfl,λb hb=>.inl ((h.k b).2 hb)⟩
def Ap (r r':Rs):Prop:=∀ b,r.has b->¬ r'.has b
theorem W.pw:W H R↔(∀ r∈R,r.ok H)/\R.Pairwise Ap:=by
 constructor
 ·intro w
  refine ⟨w.ok,List.pairwise_iff_getElem.2 λi j hi hj hij b hb=>?_⟩
  exact w.nd i j _ _ (List.getElem?_eq_getElem hi) (List.getElem?_eq_getElem hj) (by omega) b hb
 ·rintro ⟨h1,h2⟩
  refine ⟨h1,λi j r r' hi hj hne b hb hb'=>?_⟩
  have h3:=List.pairwise_iff_getElem.1 h2
  obtain ⟨hi1,hi2⟩:=List.getElem?_eq_some_iff.1 hi
  obtain ⟨hj1,hj2⟩:=List.getElem?_eq_some_iff.1 hj
  rcases Nat.lt_or_gt_of_ne hne with c | c
  ·exact h3 i j hi1 hj1 c b (by rw [hi2];exact hb) (by rw [hj2];exact hb')
  ·exact h3 j i hj1 hi1 c b (by rw [hj2];exact hb') (by rw [hi2];exact hb)
theorem Sm.perm {R R':List Rs} (p:R.Perm R'):Sm R R':=by
 have sy:∀ {x y:Rs},Ap x y->Ap y x:=λh b hb hb'=>h b hb' hb
 refine ⟨λH=>?_,λb=>⟨λ⟨r,h,k⟩=>⟨r,p.mem_iff.1 h,k⟩,λ⟨r,h,k⟩=>⟨r,p.mem_iff.2 h,k⟩⟩⟩
 rw [W.pw,W.pw,p.pairwise_iff sy]
 exact ⟨λ⟨a,b⟩=>⟨λr h=>a r (p.mem_iff.2 h),b⟩,λ⟨a,b⟩=>⟨λr h=>a r (p.mem_iff.1 h),b⟩⟩
theorem Sm.many (l:List Ow) (R:List Rs):Sm (.many l::R) (l.map Ow.rs++R):=by
 refine ⟨λH=>?_,λb=>?_⟩
 ·rw [W.pw,W.pw,List.pairwise_cons,List.pairwise_append]
  constructor
  ·rintro ⟨h1,h2,h3⟩
   have hm:=h1 _ List.mem_cons_self
   refine ⟨λr hr=>?_,?_,h3,λa ha b hb c hc=>?_⟩
   ·rcases List.mem_append.1 hr with hr | hr
    ·obtain ⟨q,hq,rfl⟩:=List.mem_map.1 hr;exact hm.1 q hq
    ·exact h1 r (List.mem_cons_of_mem _ hr)
   ·refine List.pairwise_iff_getElem.2 λi j hi hj hij b hb hb'=>?_
    rw [List.length_map] at hi hj
    rw [List.getElem_map] at hb hb'
    exact hm.2 i j _ _ (List.getElem?_eq_getElem hi) (List.getElem?_eq_getElem hj) (by omega) b hb hb'
   ·obtain ⟨q,hq,rfl⟩:=List.mem_map.1 ha
    exact h2 b hb c ⟨q,hq,hc⟩
  ·rintro ⟨h1,h2,h3,h4⟩
   refine ⟨λr hr=>?_,λb hb c hc hc'=>?_,h3⟩
   ·rcases List.mem_cons.1 hr with rfl | hr
    ·refine ⟨λq hq=>h1 _ (List.mem_append_left _ (List.mem_map_of_mem hq)),λi j q q' hi hj hne b hb hb'=>?_⟩
     have h5:=List.pairwise_iff_getElem.1 h2
     obtain ⟨hi1,hi2⟩:=List.getElem?_eq_some_iff.1 hi
     obtain ⟨hj1,hj2⟩:=List.getElem?_eq_some_iff.1 hj
     rcases Nat.lt_or_gt_of_ne hne with c | c
     ·exact h5 i j (by rw [List.length_map];exact hi1) (by rw [List.length_map];exact hj1) c b (by rw [List.getElem_map,hi2];exact hb) (by rw [List.getElem_map,hj2];exact hb')
     ·exact h5 j i (by rw [List.length_map];exact hj1) (by rw [List.length_map];exact hi1) c b (by rw [List.getElem_map,hj2];exact hb') (by rw [List.getElem_map,hi2];exact hb)
    ·exact h1 r (List.mem_append_right _ hr)
   ·obtain ⟨q,hq,hk⟩:=hc
    exact h4 _ (List.mem_map_of_mem hq) b hb c hk hc'
 ·constructor
  ·rintro ⟨r,hr,hk⟩
   rcases List.mem_cons.1 hr with rfl | hr
   ·obtain ⟨q,hq,hk⟩:=hk;exact ⟨q.rs,List.mem_append_left _ (List.mem_map_of_mem hq),hk⟩
   ·exact ⟨r,List.mem_append_right _ hr,hk⟩
  ·rintro ⟨r,hr,hk⟩
   rcases List.mem_append.1 hr with hr | hr
   ·obtain ⟨q,hq,rfl⟩:=List.mem_map.1 hr;exact ⟨_,List.mem_cons_self,q,hq,hk⟩
   ·exact ⟨r,List.mem_cons_of_mem _ hr,hk⟩
theorem Sm.nilM (R:List Rs):Sm R (.many []::R):=(Sm.many [] R).symm
theorem Sm.one (q:Ow) (R:List Rs):Sm (q.rs::R) (.many [q]::R):=(Sm.many [q] R).symm
theorem Sm.join (l l':List Ow) (R:List Rs):Sm (.many l::.many l'::R) (.many (l++l')::R):=by
 have h1:Sm (.many l::.many l'::R) (.many l'::.many l::R):=Sm.perm (List.Perm.swap _ _ _)
 have h2:Sm (.many l'::.many l::R) (l'.map Ow.rs++.many l::R):=Sm.many _ _
 have h3:Sm (l'.map Ow.rs++.many l::R) (.many l::(l'.map Ow.rs++R)):=Sm.perm List.perm_middle
 have h4:Sm (.many l::(l'.map Ow.rs++R)) (l.map Ow.rs++(l'.map Ow.rs++R)):=Sm.many _ _
 have h5:Sm (.many (l++l')::R) (l.map Ow.rs++(l'.map Ow.rs++R)):=by
  have:=Sm.many (l++l') R
  rw [List.map_append,List.append_assoc] at this
  exact this
 exact h1.trans (h2.trans (h3.trans (h4.trans h5.symm)))
theorem Sm.push (q:Ow) (l:List Ow) (R:List Rs):Sm (q.rs::.many l::R) (.many (q::l)::R):=(Sm.one q _).trans (Sm.join [q] l R)
theorem Sm.swap (r r':Rs) (R:List Rs):Sm (r::r'::R) (r'::r::R):=Sm.perm (List.Perm.swap _ _ _)
theorem Sm.take (l1:List Ow) (q:Ow) (rr l2:List Ow) (R:List Rs):Sm (.many (l1++(q::rr++l2))::R) (q.rs::.many rr::.many (l1++l2)::R):=by
 have h1:=Sm.many (l1++(q::rr++l2)) R
 have h2:Sm ((l1++(q::rr++l2)).map Ow.rs++R) (rr.map Ow.rs++((l1++l2).map Ow.rs++(q.rs::R))):=by
  refine Sm.perm ?_
  simp only [List.map_append,List.map_cons,List.append_assoc,List.cons_append]
  have a1:(l1.map Ow.rs++q.rs::(rr.map Ow.rs++(l2.map Ow.rs++R))).Perm (q.rs::(l1.map Ow.rs++(rr.map Ow.rs++(l2.map Ow.rs++R)))):=List.perm_middle
  have a2:(q.rs::(l1.map Ow.rs++(rr.map Ow.rs++(l2.map Ow.rs++R)))).Perm (q.rs::(rr.map Ow.rs++(l1.map Ow.rs++(l2.map Ow.rs++R)))):=by
   refine List.Perm.cons _ ?_
   rw [<- List.append_assoc,<-List.append_assoc (rr.map Ow.rs)]
   exact List.Perm.append_right _ List.perm_append_comm
  have a3:(rr.map Ow.rs++(l1.map Ow.rs++(l2.map Ow.rs++q.rs::R))).Perm (q.rs::(rr.map Ow.rs++(l1.map Ow.rs++(l2.map Ow.rs++R)))):=by
   have e1:rr.map Ow.rs++(l1.map Ow.rs++(l2.map Ow.rs++q.rs::R))=(rr.map Ow.rs++(l1.map Ow.rs++l2.map Ow.rs))++q.rs::R:=by simp only [List.append_assoc]
   have e2:rr.map Ow.rs++(l1.map Ow.rs++(l2.map Ow.rs++R))=(rr.map Ow.rs++(l1.map Ow.rs++l2.map Ow.rs))++R:=by simp only [List.append_assoc]
   rw [e1,e2]
   exact List.perm_middle
  exact a1.trans (a2.trans a3.symm)
 have h3:Sm (rr.map Ow.rs++((l1++l2).map Ow.rs++(q.rs::R))) (.many rr::((l1++l2).map Ow.rs++(q.rs::R))):=(Sm.many _ _).symm
 have h4:Sm (.many rr::((l1++l2).map Ow.rs++(q.rs::R))) ((l1++l2).map Ow.rs++(q.rs::.many rr::R)):=by
  refine Sm.perm ?_
  have a1:(((l1++l2).map Ow.rs++(q.rs::.many rr::R))).Perm (.many rr::((l1++l2).map Ow.rs++(q.rs::R))):=by
   have e1:(l1++l2).map Ow.rs++(q.rs::.many rr::R)=((l1++l2).map Ow.rs++[q.rs])++.many rr::R:=by simp only [List.append_assoc,List.singleton_append]
   have e2:(l1++l2).map Ow.rs++(q.rs::R)=((l1++l2).map Ow.rs++[q.rs])++R:=by simp only [List.append_assoc,List.singleton_append]
   rw [e1,e2];exact List.perm_middle
  exact a1.symm
 have h5:Sm ((l1++l2).map Ow.rs++(q.rs::.many rr::R)) (.many (l1++l2)::q.rs::.many rr::R):=(Sm.many _ _).symm
 have h6:Sm (.many (l1++l2)::q.rs::.many rr::R) (q.rs::.many rr::.many (l1++l2)::R):=by
  refine Sm.perm ?_
  exact (List.Perm.swap _ _ _).trans (List.Perm.cons _ (List.Perm.swap _ _ _))
 exact h1.trans (h2.trans (h3.trans (h4.trans (h5.trans h6))))
def Apt (H:Hp) (R:List Rs) (rows:List Ow):Prop:=∀ q∈rows,owk H q.t q.s q.z q.pre q.cells q.rest/\∀ b,c_ q.t q.s=some b->¬ inK R b
structure Oty (α:Type) where
 E:Ety α
 rho:List Ow->List AV->α->Prop
 len:∀ {rows c x},rho rows c x->c.length=E.z
 cell:∀ {rows c x},rho rows c x->∀ v∈c,v.isCell=true
 read:∀ {H R rows c x},Apt H R rows->rho rows c x->E.rep H R c x
inductive OL {α:Type} (o:Oty α):List Ow->List AV->List α->Prop where
 | nil:OL o [] [] []
 | cons {r rs:List Ow} {c cs:List AV} {x:α} {l:List α} (h:o.rho r c x) (t:OL o rs cs l):OL o (r++rs) (c++cs) (x::l)
section
variable {α:Type} {o:Oty α} {rows rows':List Ow} {cells cells':List AV} {l l':List α}
theorem OL.length (h:OL o rows cells l):cells.length=l.length * o.E.z:=by
 induction h with
 | nil=>simp
 | cons h t ih=>rw [List.length_append,ih,o.len h,List.length_cons,Nat.succ_mul];omega
theorem OL.cell (h:OL o rows cells l):∀ v∈cells,v.isCell=true:=by
 induction h with
 | nil=>intro v hv;cases hv
 | cons h t ih=>
  intro v hv
  rcases List.mem_append.1 hv with hv | hv
  ·exact o.cell h v hv
  ·exact ih v hv
theorem OL.app (h:OL o rows cells l) (h':OL o rows' cells' l'):OL o (rows++rows') (cells++cells') (l++l'):=by
 induction h with
 | nil=>exact h'
 | cons h t ih=>rw [List.append_assoc,List.append_assoc];exact .cons h ih
theorem OL.cr (h:OL o rows cells l) (ha:Apt H R rows):CR o.E H R cells l:=by
 induction h with
 | nil=>exact .nil
 | cons h t ih=>exact .cons (o.read (λq hq=>ha q (List.mem_append_left _ hq)) h) (ih λq hq=>ha q (List.mem_append_right _ hq))
theorem OL.one {r:List Ow} {c:List AV} {x:α} (h:o.rho r c x):OL o r c [x]:=by
 have:=OL.cons h (OL.nil (o:=o))
 rw [List.append_nil,List.append_nil] at this
 exact this
end
theorem UL {t:Bool} {s:Sl} {z:Nat} {pre cells rest:List AV} (hok:owk H t s z pre cells rest):Sl.row H s z=some cells:=by
 have h1:=hok.1
 unfold Sl.row
 by_cases hs0:s.n=0
 ·rw [if_pos hs0,List.length_eq_zero_iff.1 (show cells.length=0 by rw [h1,hs0,Nat.zero_mul])]
 ·obtain ⟨p,e1,e2,e3,e4,_⟩:=Rs.full (t:=t) hok hs0
  rw [if_neg hs0,e2]
  unfold Hp.row
  simp only
  rw [show H[p.1]?=some ⟨pre++cells++rest,true,true⟩ from e4]
  simp only [Bool.true_and,e3,<-h1]
  rw [if_pos (by simp),List.append_assoc,List.drop_append_of_le_length (Nat.le_refl _),List.drop_length,List.nil_append,List.take_left]
theorem IS {α:Type} {E:Ety α} {t:Bool} {s:Sl} {z:Nat} {pre cells rest:List AV} {l:List α} (hok:owk H t s z pre cells rest) (hz:z=E.z) (cr:CR E H R cells l) (hk:∀ b,c_ t s=some b->¬ inK R b):ROs E H R s l:=by
 subst hz
 have hkey:∀ p,s.n≠0->s.a=some p->c_ t s=some p.1:=λp h0 hp=>by
  obtain ⟨_,_,_,_,_,e5⟩:=Rs.full (t:=t) hok h0
  rw [gW e5,hp];rfl
 have hsn:s.n=l.length:=by
  have h3:=cr.length
  rw [hok.1] at h3
  exact Nat.eq_of_mul_eq_mul_right hok.2.1 h3
 exact ⟨hsn,hok.2.2.2.2.1,cells,cr,UL hok,λp h0 hp=>⟨(nl hok (hkey p h0 hp)).lt,hk _ (hkey p h0 hp)⟩⟩
def cU {α:Type} (E:Ety α):Oty α:=⟨E,λrows c x=>rows=[]/\∀ H R,E.rep H R c x,λh=>E.len (h.2 [] []),λh=>E.cell (h.2 [] []),λ_ h=>h.2 _ _⟩
def oSl {α:Type} (o:Oty α):Oty (List α):=⟨eSl o.E,λrows c x=>∃ q rows',rows=q::rows'/\c=[.sl q.s]/\q.z=o.E.z/\OL o rows' q.cells x,
 λ⟨q,r,h1,h2,h3⟩=>by rw [h2];rfl,λ⟨q,r,h1,h2,h3⟩ v hv=>by rw [h2] at hv;cases List.mem_singleton.1 hv;rfl,
 λ{H R rows c x} ha ⟨q,r,h1,h2,h3,h4⟩=>by
  subst h1
  have hq:=ha q List.mem_cons_self
  exact ⟨q.s,h2,IS hq.1 h3 (h4.cr λq' hq'=>ha q' (List.mem_cons_of_mem _ hq')) hq.2⟩⟩
theorem OL.of_flat {α:Type} {E:Ety α} (hE:E.Flat) {cells:List AV} {l:List α} (h:CR E H R cells l):OL (cU E) [] cells l:=by
 induction h with
 | nil=>exact .nil
 | cons h t ih=>exact OL.cons (r:=[]) (rs:=[]) ⟨rfl,λ_ _=>hE h⟩ ih
def tss {α β:Type} (f:α->Option β):List α->Option (List β)
 | []=>some []
 | x::l=>(f x).bind λr=>(tss f l).bind λq=>some (r::q)
section
variable {α:Type} {o:Oty α} {Q:AV->Hp->Prop}
theorem W.nM (w:W H R):W H (.many []::R)/\Fr H R H (.many []::R):=(Sm.nilM R).go w
theorem W.p1 {t:Bool} {s:Sl} {z:Nat} {pre cells rest:List AV} (w:W H (.ow t s z pre cells rest::R)):W H (.many [⟨t,s,z,pre,cells,rest⟩]::R)/\Fr H (.ow t s z pre cells rest::R) H (.many [⟨t,s,z,pre,cells,rest⟩]::R):=(Sm.one ⟨t,s,z,pre,cells,rest⟩ R).go w
theorem W.p2 {t:Bool} {s:Sl} {z:Nat} {pre cells rest:List AV} {rows:List Ow} (w:W H (.ow t s z pre cells rest::.many rows::R)):W H (.many (⟨t,s,z,pre,cells,rest⟩::rows)::R)/\Fr H (.ow t s z pre cells rest::.many rows::R) H (.many (⟨t,s,z,pre,cells,rest⟩::rows)::R):=(Sm.push ⟨t,s,z,pre,cells,rest⟩ rows R).go w
theorem W.apt {r:Rs} {rows:List Ow} (w:W H (r::.many rows::R)):Apt H R rows:=λq hq=>by
 have hm:=w.ok (.many rows) (List.mem_cons_of_mem _ List.mem_cons_self)
 refine ⟨hm.1 q hq,λb hb ⟨x,hx,hk⟩=>?_⟩
 obtain ⟨j,hj⟩:=List.getElem?_of_mem hx
 exact w.nd 1 (j+2) (.many rows) x rfl (by simpa using hj) (by omega) b ⟨q,hq,hb⟩ hk
theorem W.right2 {r r':Rs} (w:W H (r::r'::R)):W H R/\Fr H (r::r'::R) H R:=W.right (Rb:=[r,r']) w
theorem W.frame2 {H':Hp} {r r':Rs} {R':List Rs} (w:W H (r::r'::R)) (w':W H' R') (st:Fr H R H' R'):W H' (r::r'::R')/\Fr H (r::r'::R) H' (r::r'::R'):=W.frame (Rb:=[r,r']) w w' st
theorem W.borrow2 (o:Oty α) {t:Bool} {s:Sl} {pre cells rest:List AV} {rows:List Ow} {l:List α} (w:W H (.ow t s o.E.z pre cells rest::.many rows::R)) (ol:OL o rows cells l):ROs o.E H R s l:=by
 refine IS (w.ok _ List.mem_cons_self) rfl (ol.cr w.apt) λb hb ⟨x,hx,hk⟩=>?_
 obtain ⟨j,hj⟩:=List.getElem?_of_mem hx
 exact w.nd 0 (j+2) _ x rfl (by simpa using hj) (by omega) b hb hk
def uK (z:Nat):Ety (List AV):=⟨z,λ_ _ c x=>c=x/\x.length=z/\∀ v∈x,v.isCell=true,λh=>by rw [h.1,h.2.1],λh v hv=>h.2.2 v (by rw [<- h.1];exact hv),λ_ h=>h⟩
theorem OL.any {rows:List Ow} {cells:List AV} {l:List α} (h:OL o rows cells l):∃ L:List (List AV),L.length=l.length/\∀ H R,CR (uK o.E.z) H R cells L:=by
 induction h with
 | nil=>exact ⟨[],rfl,λ_ _=>.nil⟩
 | @cons r rs c cs x l h t ih=>
  obtain ⟨L,h1,h2⟩:=ih
  exact ⟨c::L,by rw [List.length_cons,h1,List.length_cons],λH R=>.cons (E:=uK o.E.z) ⟨rfl,o.len h,o.cell h⟩ (h2 H R)⟩
theorem IT (o:Oty α) (w:W H R) {i:Nat} {s:Sl} {z bytes n:Nat} {cells xs:List AV} {rows rows':List Ow} {l m x:List α} {K:Sl×Hp->OA} (hi:R[i]?=some (.own s o.E.z cells)) (hz:z=o.E.z) (ol:OL o rows cells l) (om:OL o rows' xs m) (hn:n=m.length)
  (hb:Nat.ble bytes 16384=true) (hx:apn l m=some x)
  (g:∀ a c H',W H' (R.set i (.own ⟨a,x.length,c⟩ o.E.z (cells++xs)))->Fr H R H' (R.set i (.own ⟨a,x.length,c⟩ o.E.z (cells++xs))) ->
   OL o (rows++rows') (cells++xs) x->((∃ c,s.c=.ex c)->aK H H')->∃ v H'',K (⟨a,x.length,c⟩,H')=some (v,H'')/\Q v H'') :
  ∃ v' H'',(Hp.app H z bytes s n xs).bind K=some (v',H'')/\Q v' H'':=by
 obtain ⟨L,hL,cL⟩:=ol.any
 obtain ⟨M,hM,cM⟩:=om.any
 obtain ⟨h1,rfl⟩:=uG hx
 have hx':apn L M=some (L++M):=by unfold apn;rw [if_pos (by omega)]
 have e:(L++M).length=(l++m).length:=by rw [List.length_append,List.length_append,hL,hM]
 obtain ⟨a,c,H',q1,w',s',c',x'⟩:=w.app (E:=uK o.E.z) hi hz (cL H R) (cM H R) (hn.trans hM.symm) (Nat.le_of_ble_eq_true hb) hx'
 rw [e] at q1 w' s'
 exact ai q1 (g a c H' w' s' (ol.app om) x')
theorem W.ixc (w:W H R) {i:Nat} {t:Bool} {s:Sl} {z:Nat} {pre cells rest:List AV} {n:Nat} (hi:R[i]?=some (.ow t s z pre cells rest)) (hn:n<s.n) :
  ∃ p,Sl.idx s (n:Int) z=some p/\∀ j v,cells[n * z+j]?=some v->H.cell p.1 (p.2+j)=some v:=by
 have hok:=w.ok _ (List.mem_of_getElem? hi)
 obtain ⟨p,e1,e2,e3,e4,_⟩:=Rs.full hok (by omega)
 refine ⟨(p.1,p.2+n * z),?_,λj v hj=>?_⟩
 ·unfold Sl.idx
  rw [if_pos ⟨by omega,by omega⟩,e2];rfl
 ·simp only
  rw [e4.cell,e3,Nat.add_assoc,IG (List.getElem?_eq_some_iff.1 hj).1];exact hj
end
theorem W.stc (w:W H R) {i:Nat} {t:Bool} {s:Sl} {z:Nat} {pre cells rest:List AV} {n j:Nat} {v:AV} (hi:R[i]?=some (.ow t s z pre cells rest)) (hn:n<s.n) (hj:j<z) (hv:v.isCell=true) :
  ∃ p H',Sl.idx s (n:Int) z=some p/\H.st p.1 (p.2+j) v=some H'/\W H' (R.set i (.ow t s z pre (cells.set (n * z+j) v) rest))/\Fr H R H' (R.set i (.ow t s z pre (cells.set (n * z+j) v) rest)):=by
 have hok:=w.ok _ (List.mem_of_getElem? hi)
 obtain ⟨q,e1,e2,e3,e4,e5⟩:=Rs.full hok (by omega)
 obtain ⟨h1,h2,h3,h4,h5,h6⟩:=hok
 have hlt:n * z+j<cells.length:=by
  rw [h1]
  have:(n+1) * z<=s.n * z:=Nat.mul_le_mul_right _ hn
  rw [Nat.succ_mul] at this;omega
 obtain ⟨s1,s2⟩:=e4.st (o:=pre.length+(n * z+j)) (v:=v) (by simp only [List.length_append];omega) hv
 rw [IH hlt] at s1 s2
 have key:=w.upd (H':=H.set q.1 ⟨pre++cells.set (n * z+j) v++rest,true,true⟩) (r':=.ow t s z pre (cells.set (n * z+j) v) rest) hi (by simp) (λb _ hb=>by rw [List.getElem?_set_ne (λe=>hb (by rw [<- e];show c_ _ _=_;rw [gW e5,e1];rfl))])
  ⟨by rw [List.length_set];exact h1,h2,h3,λ_=>⟨q,e1,by rw [e2,e1],e3,s2⟩,h5,h6⟩ (λb hb=>.inl hb)
 refine ⟨(q.1,q.2+n * z),_,?_,?_,key.1,key.2⟩
 ·unfold Sl.idx
  rw [if_pos ⟨by omega,by omega⟩,e2];rfl
 ·simp only [e3,Nat.add_assoc];exact s1
theorem zY {c1 c2:List AV} {x v:AV} {n:Nat} (h:c1.length=n):(c1++x::c2).set n v=c1++v::c2:=by
 subst h
 rw [List.set_append_right _ _ (Nat.le_refl _),Nat.sub_self];rfl
end Go.AE
end
section
namespace Go.AE
variable {H:Hp} {R:List Rs}
abbrev Ow.up (q:Ow) (c:List AV):Ow:=⟨q.t,q.s,q.z,q.pre,c,q.rest⟩
abbrev nI (l:List Int):List AV:=l.map (AV.int .i64)
def slc (rows:List Ow):List AV:=rows.map λq=>.sl q.s
inductive RL:List Ow->List (List Int)->Prop where
 | nil:RL [] []
 | cons {q:Ow} {rs:List Ow} {x:List Int} {l:List (List Int)} (hz:q.z=1) (hc:q.cells=nI x) (t:RL rs l):RL (q::rs) (x::l)
section
variable {rows rows':List Ow} {l l':List (List Int)}
theorem RL.len (h:RL rows l):rows.length=l.length:=by
 induction h with
 | nil=>rfl
 | cons _ _ _ ih=>rw [List.length_cons,List.length_cons,ih]
theorem RL.app (h:RL rows l) (h':RL rows' l'):RL (rows++rows') (l++l'):=by
 induction h with
 | nil=>exact h'
 | cons hz hc t ih=>exact .cons hz hc ih
theorem RL.ol (h:RL rows l):OL (oSl (cU (bd .i64))) rows (slc rows) l:=by
 induction h with
 | nil=>exact .nil
 | @cons q rs x l hz hc t ih=>exact OL.cons (o:=oSl (cU (bd .i64))) (r:=[q]) (c:=[.sl q.s]) ⟨q,[],rfl,rfl,hz,by rw [hc];exact OL.of_flat (gC .i64) (CR.ints .i64 [] [] x)⟩ ih
theorem mY:(slc rows).length=rows.length:=by unfold slc;rw [List.length_map]
theorem pH:slc (rows++rows')=slc rows++slc rows':=by unfold slc;rw [List.map_append]
end
theorem Sm.mid (l1:List Ow) (q:Ow) (l2:List Ow) (R:List Rs):Sm (.many (l1++q::l2)::R) (q.rs::.many (l1++l2)::R):=
 (Sm.take l1 q [] l2 R).trans ((Sm.swap _ _ _).trans ((Sm.nilM _).symm))
def MkR (x:OA) (H:Hp) (R:List Rs) (r:List Int):Prop:=∃ s H1,x=some (.sl s,H1)/\W H1 (.own s 1 (nI r)::R)/\Fr H R H1 (.own s 1 (nI r)::R)
def OkI (tw:Int->Hp->OA) (f:Int->Option (List Int)):Prop:=∀ {H:Hp} {R:List Rs} {n:Int} {r:List Int},W H R->f n=some r->MkR (tw n H) H R r
def OkS (tw:Sl->Hp->OA) (f:List Int->Option (List Int)):Prop:=∀ {H:Hp} {R:List Rs} {e:Sl} {x r:List Int},W H R->ROs (bd .i64) H R e x->f x=some r->MkR (tw e H) H R r
def OkA (tw:Int->Hp->OA) (f:Int->Option Int):Prop:=∀ {H:Hp} {R:List Rs} {n r:Int},W H R->f n=some r->∃ H1,tw n H=some (.int .i64 r,H1)/\W H1 R/\Fr H R H1 R
def OkW (tw:Sl->Int->Hp->OA) (f:List Int->Int->Option (List Int)):Prop:=∀ {H:Hp} {R:List Rs} {q:Ow} {x r:List Int} {k:Int},q.z=1->q.cells=nI x->W H (q.rs::R)->f x k=some r ->
 ∃ H1,tw q.s k H=some (.tup [],H1)/\W H1 ((q.up (nI r)).rs::R)/\Fr H (q.rs::R) H1 ((q.up (nI r)).rs::R)
def OkH (tw:Sl->Sl->Hp->OA) (f:List Int->List Int->Option (Bool×List Int×List Int)):Prop:=∀ {H:Hp} {R:List Rs} {q q':Ow} {x x':List Int} {r:Bool×List Int×List Int},q.z=1->q'.z=1->q.cells=nI x->q'.cells=nI x'->W H (q.rs::q'.rs::R)->f x x'=some r ->
 ∃ H1,tw q.s q'.s H=some (.bool r.1,H1)/\W H1 ((q.up (nI r.2.1)).rs::(q'.up (nI r.2.2)).rs::R)/\Fr H (q.rs::q'.rs::R) H1 ((q.up (nI r.2.1)).rs::(q'.up (nI r.2.2)).rs::R)
def OkE (tw:Sl->Sl->Hp->OA) (f:List Int->List Int->Option Bool):Prop:=∀ {H:Hp} {R:List Rs} {e e':Sl} {x x':List Int} {r:Bool},W H R->ROs (bd .i64) H R e x->ROs (bd .i64) H R e' x'->f x x'=some r->∃ H1,tw e e' H=some (.bool r,H1)/\W H1 R/\Fr H R H1 R
theorem W.roq {q:Ow} {x:List Int} (w:W H (q.rs::R)) (hz:q.z=1) (hc:q.cells=nI x):ROs (bd .i64) H R q.s x:=by
 obtain ⟨t,s,z,pre,cells,rest⟩:=q
 obtain rfl:z=1:=hz
 obtain rfl:cells=nI x:=hc
 exact W.borrow1 (bd .i64) (s:=s) w (CR.ints _ _ _ _)
abbrev Fm (f:Nat) (n pw:Int) (s:Sl) (rows:List Ow) (R:List Rs):List Rs:=.blk f [.int .i64 n,.int .i64 pw,.sl s]::.own s 1 (slc rows)::.many rows::R
theorem RL.mid {q:Ow} {rs:List Ow} {x:List Int} {l:List (List Int)} (h:RL (q::rs) (x::l)):q.z=1/\q.cells=nI x/\RL rs l:=by
 cases h with
 | cons hz hc t=>exact ⟨hz,hc,t⟩
theorem W.sln {f:Nat} {n pw:Int} {s:Sl} {rows:List Ow} (w:W H (Fm f n pw s rows R)):s.n=rows.length:=by
 have:=(w.ok _ (List.mem_cons_of_mem _ List.mem_cons_self)).1
 rw [mY,Nat.mul_one] at this;exact this.symm
theorem W.slq {f:Nat} {n pw:Int} {s:Sl} {r1 r2:List Ow} {q:Ow} (w:W H (Fm f n pw s (r1++q::r2) R)) {i:Int} (hi:i=r1.length):∃ p,Sl.idx s i 1=some p/\H.ldSl p.1 p.2=some q.s:=by
 subst hi
 obtain ⟨p,p1,p2⟩:=w.ixc (i:=1) (n:=r1.length) rfl (by rw [w.sln,List.length_append,List.length_cons];omega)
 refine ⟨p,p1,ck (p2 0 (.sl q.s) ?_)⟩
 rw [pH,Nat.mul_one,Nat.add_zero,List.getElem?_append_right (by rw [mY];omega),mY,Nat.sub_self];rfl
theorem pm3 (a b c:Rs) (R:List Rs):Sm (a::b::c::R) (c::a::b::R):=Sm.perm ((List.Perm.cons _ (List.Perm.swap _ _ _)).trans (List.Perm.swap _ _ _))
theorem pm4 (a b c d:Rs) (R:List Rs):Sm (a::b::c::d::R) (d::a::b::c::R):=Sm.perm (List.perm_middle (l₁:=[a,b,c]) (a:=d) (l₂:=R))
theorem Sm.cong {R R':List Rs} (r:Rs) (h:R.Perm R'):Sm (r::R) (r::R'):=Sm.perm (List.Perm.cons _ h)
theorem Fm.out (f:Nat) (n pw:Int) (s:Sl) (r1:List Ow) (q:Ow) (r2:List Ow) (R:List Rs):Sm (Fm f n pw s (r1++q::r2) R) (q.rs::.many (r1++r2)::.blk f [.int .i64 n,.int .i64 pw,.sl s]::.own s 1 (slc (r1++q::r2))::R):=
 (pm3 _ _ _ _).trans (Sm.mid _ _ _ _)
theorem UP {tu:Sl->Hp->OA} {fu:List Int->Option (List Int)} (htu:OkS tu fu) {f:Nat} {n pw:Int} {s:Sl} {J:Hp->OA} {Lp:Nat->Int->Hp->OA}
  (hL:∀ g i H,Lp (g+1) i H=bif decide (i<(s.n:Int)) then (Sl.idx s i 1).bind λp=>(Hp.ldSl H p.1 p.2).bind λe=>(Hp.ldSl H f (0+2)).bind λs65=>(tu e H).bind λu=>(u.1.asSl).bind λs67=>(if aK H u.2 then (Sl.idx s65 i 1).bind λq=>(Hp.st u.2 q.1 q.2 (.sl s67)).bind λH69=>Lp g (IntKind.i64.wrap (i+1)) H69 else none) else J H) :
  ∀ (l2 l1:List (List Int)) (g:Nat) (H:Hp) (res:List (List Int)) (r1 r2:List Ow),l2.length<g->s.n<=4294967296->W H (Fm f n pw s (r1++r2) R)->RL r1 l1->RL r2 l2->tss fu l2=some res ->
   ∃ H' r',Lp g (l1.length:Int) H=J H'/\W H' (Fm f n pw s r' R)/\Fr H (Fm f n pw s (r1++r2) R) H' (Fm f n pw s r' R)/\RL r' (l1++res):=by
 intro l2
 induction l2 with
 | nil=>
  intro l1 g H res r1 r2 hg hb w h1 h2 hm
  obtain ⟨g,rfl⟩:∃ g',g=g'+1:=⟨g - 1,by omega⟩
  obtain rfl:=Option.some.inj (show some []=some res from hm)
  cases h2
  have hs:=w.sln
  rw [List.append_nil] at w hs ⊢
  rw [hL,decide_eq_false (by rw [hs,h1.len];omega),cond_false]
  exact ⟨H,_,rfl,w,Fr.refl _ _,by rw [List.append_nil];exact h1⟩
 | cons x l2 ih=>
  intro l1 g H res r1 r2 hg hb w h1 h2 hm
  obtain ⟨g,rfl⟩:∃ g',g=g'+1:=⟨g - 1,by omega⟩
  rw [List.length_cons] at hg
  match r2,h2 with
  | q::rs,h2=>
   obtain ⟨hz,hc,ht⟩:=h2.mid
   rw [tss] at hm
   obtain ⟨a,e1,hm⟩:=Option.bind_eq_some_iff.1 hm
   obtain ⟨b,e2,hm⟩:=Option.bind_eq_some_iff.1 hm
   obtain rfl:=Option.some.inj hm
   have hs:=w.sln
   rw [List.length_append,List.length_cons,h1.len] at hs
   obtain ⟨p,p1,p2⟩:=w.slq (i:=(l1.length:Int)) (by rw [h1.len])
   have p3:H.ldSl f (0+2)=some s:=ck (w.ld (i:=0) rfl rfl)
   obtain ⟨w1,f1⟩:=(Fm.out f n pw s r1 q rs R).go w
   have ro:=w1.roq hz hc
   obtain ⟨wr,fr⟩:=w1.right1
   obtain ⟨sn,H1,t1,w2,f2⟩:=htu wr ro e1
   have hC:aK H H1:=W.cons_of (Rn:=[_]) wr w2 f2
   have sm:Sm (.own sn 1 (nI a)::.many (r1++rs)::.blk f [.int .i64 n,.int .i64 pw,.sl s]::.own s 1 (slc (r1++q::rs))::R) (.own s 1 (slc (r1++q::rs))::.own sn 1 (nI a)::.many (r1++rs)::.blk f [.int .i64 n,.int .i64 pw,.sl s]::R):=
    pm4 _ _ _ _ _
   obtain ⟨w3,f3⟩:=sm.go w2
   obtain ⟨p',H2,q1,q2,w4,f4⟩:=w3.stc (i:=0) (n:=r1.length) (j:=0) (v:=.sl sn) rfl (by rw [h1.len];omega) (by omega) rfl
   have q0:p'=p:=by rw [h1.len] at q1;exact Option.some.inj (q1.symm.trans p1)
   subst q0
   have e3:(slc (r1++q::rs)).set (r1.length * 1+0) (.sl sn)=slc (r1++⟨true,sn,1,[],nI a,[]⟩::rs):=by
    rw [pH,pH,Nat.mul_one,Nat.add_zero]
    exact zY mY
   rw [e3] at w4 f4
   have sm2:Sm (.own s 1 (slc (r1++⟨true,sn,1,[],nI a,[]⟩::rs))::.own sn 1 (nI a)::.many (r1++rs)::.blk f [.int .i64 n,.int .i64 pw,.sl s]::R) (Fm f n pw s (r1++⟨true,sn,1,[],nI a,[]⟩::rs) R):=by
    exact (pm4 _ _ _ _ _).symm.trans (Fm.out f n pw s r1 ⟨true,sn,1,[],nI a,[]⟩ rs R).symm
   have w4:W H2 (.own s 1 (slc (r1++⟨true,sn,1,[],nI a,[]⟩::rs))::.own sn 1 (nI a)::.many (r1++rs)::.blk f [.int .i64 n,.int .i64 pw,.sl s]::R):=w4
   have f4:Fr H1 (.own s 1 (slc (r1++q::rs))::.own sn 1 (nI a)::.many (r1++rs)::.blk f [.int .i64 n,.int .i64 pw,.sl s]::R) H2 (.own s 1 (slc (r1++⟨true,sn,1,[],nI a,[]⟩::rs))::.own sn 1 (nI a)::.many (r1++rs)::.blk f [.int .i64 n,.int .i64 pw,.sl s]::R):=f4
   obtain ⟨w5,f5⟩:=sm2.go w4
   have fa:=f1.trans (fr.trans (f2.trans (f3.trans (f4.trans f5))))
   have e4:r1++(⟨true,sn,1,[],nI a,[]⟩:Ow)::rs=(r1++[⟨true,sn,1,[],nI a,[]⟩])++rs:=by rw [List.append_assoc];rfl
   rw [e4] at w5 fa
   obtain ⟨H3,r',k1,k2,k3,k4⟩:=ih (l1++[a]) g H2 b (r1++[⟨true,sn,1,[],nI a,[]⟩]) rs (by omega) hb w5 (h1.app (.cons rfl rfl .nil)) ht e2
   have hw:IntKind.i64.wrap ((l1.length:Int)+1)=(((l1++[a]).length:Nat):Int):=by rw [aS (by omega) (by omega),List.length_append];simp
   have q2:Hp.st H1 p'.1 p'.2 (.sl sn)=some H2:=q2
   have has:(AV.sl sn).asSl=some sn:=rfl
   rw [hL,decide_eq_true (by omega),cond_true]
   simp only [p1,p2,p3,t1,has,Option.bind_some,if_pos hC,q2,hw]
   refine ⟨H3,r',k1,k2,fa.trans k3,?_⟩
   rw [List.append_assoc] at k4
   exact k4
def uL (H0:Hp) (R0:List Rs) (f:Nat) (n:Int) (R:List Rs) (res:Int×List (List Int)) (v:AV) (H':Hp):Prop:=v=.tup []/\∃ s rows,W H' (Fm f n res.1 s rows R)/\Fr H0 R0 H' (Fm f n res.1 s rows R)/\RL rows res.2
noncomputable def pI (iv:Sl->Hp->OA) (ab:Int->Hp->OA) (sw:Sl->Int->Hp->OA) (f:Nat) (k:Int) (sp:Sl) (H:Hp):OA:=(iv sp H).bind λr51=>((r51.1).asSl).bind λs52=>(ab k r51.2).bind λr53=>((r53.1).asI .i64).bind λn54=>(sw s52 n54 r53.2).bind λr55=>(Hp.ldSl r55.2 f (0+2)).bind λs56=>(iv s52 r55.2).bind λr57=>((r57.1).asSl).bind λs58=>(if aK r55.2 r57.2 then ((Hp.new r57.2 [(.sl s58)]).bind λH59=>(Sl.row H59 (⟨some (r57.2.length,0),1,.ex 1⟩:Sl) 1).bind λxs61=>(Hp.app H59 1 24 s56 (⟨some (r57.2.length,0),1,.ex 1⟩:Sl).n xs61).bind λa60=>(Hp.st a60.2 f (0+2) (.sl a60.1)).bind λH62=>some ((.tup []),H62)) else none)
theorem UQ {iv:Sl->Hp->OA} {ab:Int->Hp->OA} {sw:Sl->Int->Hp->OA} {fiv:List Int->Option (List Int)} {fab:Int->Option Int} {fsw:List Int->Int->Option (List Int)} (hiv:OkS iv fiv) (hab:OkA ab fab) (hsw:OkW sw fsw)
  {H0:Hp} {R0:List Rs} {f:Nat} {n pw k a:Int} {s sp:Sl} {rows:List Ow} {l l':List (List Int)} {p at1 at2 row:List Int} (w:W H (.own sp 1 (nI p)::Fm f n pw s rows R)) (fr:Fr H0 R0 H (.own sp 1 (nI p)::Fm f n pw s rows R)) (hr:RL rows l)
  (e1:fiv p=some at1) (e2:fab k=some a) (e3:fsw at1 a=some at2) (e4:fiv at2=some row) (e5:apn l [row]=some l') :
  Rt (pI iv ab sw f k sp H) (uL H0 R0 f n R (pw,l')):=by
 unfold pI
 have ro1:=w.roq (q:=⟨true,sp,1,[],nI p,[]⟩) rfl rfl
 obtain ⟨wr,fr1⟩:=w.right1
 obtain ⟨s1,H1,t1,w1,f1⟩:=hiv wr ro1 e1
 obtain ⟨H2,t2,w2,f2⟩:=hab w1 e2
 obtain ⟨H3,t3,w3,f3⟩:=hsw (q:=⟨true,s1,1,[],nI at1,[]⟩) rfl rfl w2 e3
 have ro3:=w3.roq (q:=⟨true,s1,1,[],nI at2,[]⟩) rfl rfl
 obtain ⟨wr3,fr3⟩:=w3.right1
 obtain ⟨s4,H4,t4,w4,f4⟩:=hiv wr3 ro3 e4
 have hC:aK H3 H4:=W.cons_of (Rn:=[_]) wr3 w4 f4
 have p3:H3.ldSl f (0+2)=some s:=ck (wr3.ld (i:=0) rfl rfl)
 refine ai t1 (ai (a:=s1) rfl (ai t2 (ai (pF _ _) (ai t3 (ai p3 (ai t4 (ai (a:=s4) rfl (iE hC ?_))))))))
 obtain ⟨H5,t5,w5,f5⟩:=w4.newS [.sl s4] 1 1 rfl (by omega)
 refine ai t5 (ai (w5.rowo (i:=0) rfl) ?_)
 have om:OL (oSl (cU (bd .i64))) [⟨true,s4,1,[],nI row,[]⟩] (slc [⟨true,s4,1,[],nI row,[]⟩]) [row]:=RL.ol (.cons rfl rfl .nil)
 refine IT (oSl (cU (bd .i64))) w5 (i:=3) (rows':=[⟨true,s4,1,[],nI row,[]⟩]) rfl rfl hr.ol om rfl rfl e5 λa6 c6 H6 w6 f6 o6 _=>?_
 refine aM w6 2 λH7 w7 f7=>?_
 have w7:W H7 (.own ⟨some (H4.length,0),1,.ex 1⟩ 1 [.sl s4]::.own s4 1 (nI row)::.blk f [.int .i64 n,.int .i64 pw,.sl ⟨a6,l'.length,c6⟩]::.own ⟨a6,l'.length,c6⟩ 1 (slc rows++[.sl s4])::.many rows::R):=w7
 have f67:Fr H5 (.own ⟨some (H4.length,0),1,.ex 1⟩ 1 [.sl s4]::.own s4 1 (nI row)::Fm f n pw s rows R) H7 (.own ⟨some (H4.length,0),1,.ex 1⟩ 1 [.sl s4]::.own s4 1 (nI row)::.blk f [.int .i64 n,.int .i64 pw,.sl ⟨a6,l'.length,c6⟩]::.own ⟨a6,l'.length,c6⟩ 1 (slc rows++[.sl s4])::.many rows::R):=Fr.trans f6 f7
 obtain ⟨w8,f8⟩:=w7.right1
 have e6:slc rows++[.sl s4]=slc (rows++[⟨true,s4,1,[],nI row,[]⟩]):=by rw [pH];rfl
 rw [e6] at w8 f67 f8
 have sm:Sm (.own s4 1 (nI row)::.blk f [.int .i64 n,.int .i64 pw,.sl ⟨a6,l'.length,c6⟩]::.own ⟨a6,l'.length,c6⟩ 1 (slc (rows++[⟨true,s4,1,[],nI row,[]⟩]))::.many rows::R) (Fm f n pw ⟨a6,l'.length,c6⟩ (rows++[⟨true,s4,1,[],nI row,[]⟩]) R):=by
  have h1:=(Fm.out f n pw ⟨a6,l'.length,c6⟩ rows ⟨true,s4,1,[],nI row,[]⟩ [] R).symm
  rw [List.append_nil] at h1
  refine Sm.trans (Sm.cong _ ?_) h1
  exact (List.Perm.cons _ (List.Perm.swap _ _ _)).trans (List.Perm.swap _ _ _)
 obtain ⟨w9,f9⟩:=sm.go w8
 obtain ⟨_,rfl⟩:=uG e5
 exact ⟨_,_,rfl,rfl,_,_,w9,(((((((fr.trans fr1).trans f1).trans f2).trans f3).trans fr3).trans f4).trans f5).trans (f67.trans (f8.trans f9)),hr.app (.cons rfl rfl .nil)⟩
def nn (iv:List Int->Option (List Int)) (ab:Int->Option Int) (sw:List Int->Int->Option (List Int)) (k pw:Int) (l:List (List Int)) (p:List Int):Option (Int×List (List Int)):=
 (iv p).bind λa1=>(ab k).bind λa=>(sw a1 a).bind λa2=>(iv a2).bind λrow=>(apn l [row]).bind λl'=>some (pw,l')
def jx (co:Int->Option (List Int)) (tu:List Int->Option (List Int)) (rv:Int->Option (List Int)) (iv:List Int->Option (List Int)) (ab:Int->Option Int) (sw:List Int->Int->Option (List Int)) (F:Nat) (n:Int) (st:Int×List (List Int)) (k:Int):Option (Int×List (List Int)):=
 (co n).bind λp=>bif decide (k<0) then (if st.2.length<F/\st.2.length<=4294967296 then (tss tu st.2).bind λl'=>(rv n).bind λq=>(iv q).bind λp'=>nn iv ab sw k (IntKind.i64.wrap (st.1 - 1)) l' p' else none) else nn iv ab sw k st.1 st.2 p
section
variable {co:Int->Hp->OA} {tu:Sl->Hp->OA} {rv:Int->Hp->OA} {iv:Sl->Hp->OA} {ab:Int->Hp->OA} {sw:Sl->Int->Hp->OA}
 {fco:Int->Option (List Int)} {ftu:List Int->Option (List Int)} {frv:Int->Option (List Int)} {fiv:List Int->Option (List Int)} {fab:Int->Option Int} {fsw:List Int->Int->Option (List Int)}
theorem IU (hiv:OkS iv fiv) (hab:OkA ab fab) (hsw:OkW sw fsw) {H0:Hp} {R0:List Rs} {f:Nat} {n pw k:Int} {s sp:Sl} {rows:List Ow} {l:List (List Int)} {res:Int×List (List Int)} {p:List Int} (w:W H (.own sp 1 (nI p)::Fm f n pw s rows R)) (fr:Fr H0 R0 H (.own sp 1 (nI p)::Fm f n pw s rows R)) (hr:RL rows l)
  (e:nn fiv fab fsw k pw l p=some res):Rt (pI iv ab sw f k sp H) (uL H0 R0 f n R res):=by
 unfold nn at e
 obtain ⟨a1,e1,e⟩:=Option.bind_eq_some_iff.1 e
 obtain ⟨a2,e2,e⟩:=Option.bind_eq_some_iff.1 e
 obtain ⟨a3,e3,e⟩:=Option.bind_eq_some_iff.1 e
 obtain ⟨a4,e4,e⟩:=Option.bind_eq_some_iff.1 e
 obtain ⟨a5,e5,e⟩:=Option.bind_eq_some_iff.1 e
 cases e
 exact UQ hiv hab hsw w fr hr e1 e2 e3 e4 e5
theorem Tu (hco:OkI co fco) (htu:OkS tu ftu) (hrv:OkI rv frv) (hiv:OkS iv fiv) (hab:OkA ab fab) (hsw:OkW sw fsw) {F f:Nat} {k:Int} {T J:Sl->Hp->OA} {J2:Hp->OA} {Lp:Nat->Sl->Int->Int->Hp->OA} {x:Hp->OA}
  (hx:∀ H,x H=(Hp.ldI H .i64 f 0).bind λn4=>(co n4 H).bind λr5=>((r5.1).asSl).bind λs6=>(bif (decide (k<0)) then ((Hp.ldSl r5.2 f (0+2)).bind λs7=>Lp F s7 (s7.n:Int) 0 r5.2) else (T s6 r5.2)))
  (hT:∀ s H,T s H=pI iv ab sw f k s H) (hJ:∀ s H,J s H=pI iv ab sw f k s H)
  (hL:∀ g s m i H,Lp (g+1) s m i H=bif decide (i<m) then (Sl.idx s i 1).bind λp=>(Hp.ldSl H p.1 p.2).bind λe=>(Hp.ldSl H f (0+2)).bind λs65=>(tu e H).bind λu=>(u.1.asSl).bind λs67=>(if aK H u.2 then (Sl.idx s65 i 1).bind λq=>(Hp.st u.2 q.1 q.2 (.sl s67)).bind λH69=>Lp g s m (IntKind.i64.wrap (i+1)) H69 else none) else J2 H)
  (hJ2:∀ H,J2 H=(Hp.ldI H .i64 f (0+1)).bind λn34=>(Hp.st H f (0+1) (.int .i64 (IntKind.i64.wrap (n34 - 1)))).bind λH35=>(Hp.ldI H35 .i64 f 0).bind λn36=>(rv n36 H35).bind λr37=>((r37.1).asSl).bind λs38=>(iv s38 r37.2).bind λr39=>((r39.1).asSl).bind λs40=>J s40 r39.2)
  {H0:Hp} {R0:List Rs} {n:Int} {s:Sl} {rows:List Ow} {st res:Int×List (List Int)} (w:W H (Fm f n st.1 s rows R)) (fr:Fr H0 R0 H (Fm f n st.1 s rows R)) (hr:RL rows st.2) (e:jx fco ftu frv fiv fab fsw F n st k=some res):Rt (x H) (uL H0 R0 f n R res):=by
 unfold jx at e
 obtain ⟨p,e1,e⟩:=Option.bind_eq_some_iff.1 e
 obtain ⟨sp,H1,t1,w1,f1⟩:=hco w e1
 rw [hx]
 refine lI w 0 (ai t1 (ai (a:=sp) rfl (zS (λhb=>?_) (λhb=>?_))))
 ·rw [hb,cond_true] at e
  obtain ⟨⟨hF,hl⟩,e⟩:=eY e
  obtain ⟨l',e2,e⟩:=Option.bind_eq_some_iff.1 e
  obtain ⟨q,e3,e⟩:=Option.bind_eq_some_iff.1 e
  obtain ⟨p',e4,e⟩:=Option.bind_eq_some_iff.1 e
  obtain ⟨w2,f2⟩:=w1.right1
  refine lSl w2 0 ?_
  have hsn:s.n<=4294967296:=by rw [w2.sln,hr.len];exact hl
  obtain ⟨H2,r',k1,w3,f3,hr'⟩:=UP htu (J:=J2) (Lp:=λg i H=>Lp g s (s.n:Int) i H) (λg i H=>hL g s _ i H) st.2 [] F H1 l' [] rows hF hsn w2 .nil hr e2
  have k1:Lp F s (s.n:Int) 0 H1=J2 H2:=k1
  rw [k1,hJ2]
  rw [List.nil_append] at hr' f3
  refine lI w3 0 (aM w3 0 λH3 w4 f4=>?_)
  have w4:W H3 (Fm f n (IntKind.i64.wrap (st.1 - 1)) s r' R):=w4
  have f4:Fr H2 (Fm f n st.1 s r' R) H3 (Fm f n (IntKind.i64.wrap (st.1 - 1)) s r' R):=f4
  refine lI w4 0 ?_
  obtain ⟨sq,H4,t4,w5,f5⟩:=hrv w4 e3
  have ro:=w5.roq (q:=⟨true,sq,1,[],nI q,[]⟩) rfl rfl
  obtain ⟨w6,f6⟩:=w5.right1
  obtain ⟨sr,H5,t5,w7,f7⟩:=hiv w6 ro e4
  refine ai t4 (ai (a:=sq) rfl (ai t5 (ai (a:=sr) rfl ?_)))
  rw [hJ]
  exact IU hiv hab hsw w7 ((((((fr.trans f1).trans f2).trans f3).trans f4).trans f5).trans (f6.trans f7)) hr' e
 ·rw [hb,cond_false] at e
  rw [hT]
  exact IU hiv hab hsw w1 (fr.trans f1) hr e
end
def pas (f:List Int->List Int->Option (Bool×List Int×List Int)):List Int->List (List Int)->Option (Bool×List (List Int))
 | p,[]=>some (false,[p])
 | p,q::t=>(f p q).bind λr=>(pas f r.2.2 t).bind λu=>some (r.1 || u.1,r.2.1::u.2)
def zZ (f:List Int->List Int->Option (Bool×List Int×List Int)):List (List Int)->Option (Bool×List (List Int))
 | []=>some (false,[])
 | p::t=>pas f p t
def kQ (f:List Int->List Int->Option (Bool×List Int×List Int)) (F:Nat):Nat->List (List Int)->Option (List (List Int))
 | 0,_=>none
 | g+1,l=>if l.length<F/\l.length<=4294967296 then (zZ f l).bind λr=>bif r.1 then kQ f F g r.2 else some r.2 else none
def iJ (eq:List Int->List Int->Option Bool) (lp lf:List Int):List (List Int)->Int->List (List Int)->Option (Int×List (List Int))
 | [],pw,acc=>some (pw,acc)
 | p::t,pw,acc=>(eq p lp).bind λb=>bif b then iJ eq lp lf t pw acc else (eq p lf).bind λc=>bif c then iJ eq lp lf t (IntKind.i64.wrap (pw+1)) acc else (apn acc [p]).bind λacc'=>iJ eq lp lf t pw acc'
theorem Sm.mid2 (l1:List Ow) (q q':Ow) (l2:List Ow) (R:List Rs):Sm (.many (l1++q::q'::l2)::R) (q.rs::q'.rs::.many (l1++l2)::R):=
 (Sm.mid l1 q (q'::l2) R).trans ((Sm.swap _ _ _).trans ((Sm.mid l1 q' l2 (q.rs::R)).trans (pm3 _ _ _ _)))
theorem UR (r1:List Ow) (q q':Ow) (c c':List AV) (r2:List Ow):slc (r1++q.up c::q'.up c'::r2)=slc (r1++q::q'::r2):=by unfold slc;rw [List.map_append,List.map_append];rfl
theorem US {sh:Sl->Sl->Hp->OA} {fsh:List Int->List Int->Option (Bool×List Int×List Int)} (hsh:OkH sh fsh) {f:Nat} {n pw:Int} {s:Sl} {C:Bool->Hp->OA} {Lq:Nat->Bool->Int->Hp->OA}
  (hL:∀ g y i H,Lq (g+1) y i H=(Hp.ldSl H f (0+2)).bind λs265=>(bif (decide (i<(s265.n:Int))) then ((Hp.ldSl H f (0+2)).bind λs266=>(Sl.idx s266 (IntKind.i64.wrap (i - 1)) 1).bind λp267=>(Hp.ldSl H p267.1 p267.2).bind λs268=>(Hp.ldSl H f (0+2)).bind λs269=>(Sl.idx s269 i 1).bind λp270=>(Hp.ldSl H p270.1 p270.2).bind λs271=>(sh s268 s271 H).bind λr272=>((r272.1).asB).bind λb273=>(bif b273 then Lq g true (IntKind.i64.wrap (i+1)) r272.2 else Lq g y (IntKind.i64.wrap (i+1)) r272.2)) else C y H)) :
  ∀ (t l1:List (List Int)) (p:List Int) (g:Nat) (H:Hp) (y:Bool) (res:Bool×List (List Int)) (r1 r2:List Ow) (q:Ow),t.length<g->s.n<=4294967296->W H (Fm f n pw s (r1++q::r2) R)->RL r1 l1->RL (q::r2) (p::t)->pas fsh p t=some res ->
   ∃ H' r',Lq g y ((l1.length:Int)+1) H=C (y || res.1) H'/\W H' (Fm f n pw s r' R)/\Fr H (Fm f n pw s (r1++q::r2) R) H' (Fm f n pw s r' R)/\RL r' (l1++res.2):=by
 intro t
 induction t with
 | nil=>
  intro l1 p g H y res r1 r2 q hg hb w h1 h2 hm
  obtain ⟨g,rfl⟩:∃ g',g=g'+1:=⟨g - 1,by omega⟩
  obtain rfl:=Option.some.inj (show some (false,[p])=some res from hm)
  have hs:=w.sln
  have h3:=h2.len
  rw [List.length_append,h3,h1.len] at hs
  have p3:H.ldSl f (0+2)=some s:=ck (w.ld (i:=0) rfl rfl)
  rw [hL,p3,Option.bind_some,decide_eq_false (by simp at hs;omega),cond_false,Bool.or_false]
  exact ⟨H,_,rfl,w,Fr.refl _ _,h1.app h2⟩
 | cons x t ih=>
  intro l1 p g H y res r1 r2 q hg hb w h1 h2 hm
  obtain ⟨g,rfl⟩:∃ g',g=g'+1:=⟨g - 1,by omega⟩
  rw [List.length_cons] at hg
  obtain ⟨hz,hc,ht⟩:=h2.mid
  match r2,ht with
  | q'::rs,ht=>
   obtain ⟨hz',hc',ht'⟩:=ht.mid
   rw [pas] at hm
   obtain ⟨a,e1,hm⟩:=Option.bind_eq_some_iff.1 hm
   obtain ⟨b,e2,hm⟩:=Option.bind_eq_some_iff.1 hm
   obtain rfl:=Option.some.inj hm
   have hs:=w.sln
   have h3:=ht'.len
   rw [List.length_append,List.length_cons,List.length_cons,h1.len] at hs
   have p0:H.ldSl f (0+2)=some s:=ck (w.ld (i:=0) rfl rfl)
   have hi1:IntKind.i64.wrap ((l1.length:Int)+1 - 1)=(l1.length:Int):=by rw [aS (by omega) (by omega)];omega
   obtain ⟨pa,p1,p2⟩:=w.slq (i:=(l1.length:Int)) (by rw [h1.len])
   have w':W H (Fm f n pw s ((r1++[q])++q'::rs) R):=by rw [List.append_assoc];exact w
   obtain ⟨pb,p3,p4⟩:=w'.slq (i:=(l1.length:Int)+1) (by rw [List.length_append,h1.len];simp)
   have sm:Sm (Fm f n pw s (r1++q::q'::rs) R) (q.rs::q'.rs::.many (r1++rs)::.blk f [.int .i64 n,.int .i64 pw,.sl s]::.own s 1 (slc (r1++q::q'::rs))::R):=
    (pm3 _ _ _ _).trans (Sm.mid2 _ _ _ _ _)
   obtain ⟨w1,f1⟩:=sm.go w
   obtain ⟨H1,t1,w2,f2⟩:=hsh hz hz' hc hc' w1 e1
   have sm2:Sm ((q.up (nI a.2.1)).rs::(q'.up (nI a.2.2)).rs::.many (r1++rs)::.blk f [.int .i64 n,.int .i64 pw,.sl s]::.own s 1 (slc (r1++q::q'::rs))::R) (Fm f n pw s (r1++q.up (nI a.2.1)::q'.up (nI a.2.2)::rs) R):=by
    have:=((pm3 (.blk f [.int .i64 n,.int .i64 pw,.sl s]) (.own s 1 (slc (r1++q.up (nI a.2.1)::q'.up (nI a.2.2)::rs))) (.many (r1++q.up (nI a.2.1)::q'.up (nI a.2.2)::rs)) R).trans (Sm.mid2 _ _ _ _ _)).symm
    have e:=UR r1 q q' (nI a.2.1) (nI a.2.2) rs
    show Sm _ (.blk f [.int .i64 n,.int .i64 pw,.sl s]::.own s 1 (slc (r1++q.up (nI a.2.1)::q'.up (nI a.2.2)::rs))::.many (r1++q.up (nI a.2.1)::q'.up (nI a.2.2)::rs)::R)
    rw [e] at this ⊢
    exact this
   obtain ⟨w3,f3⟩:=sm2.go w2
   have fa:=f1.trans (f2.trans f3)
   have e4:r1++q.up (nI a.2.1)::q'.up (nI a.2.2)::rs=(r1++[q.up (nI a.2.1)])++q'.up (nI a.2.2)::rs:=by rw [List.append_assoc];rfl
   rw [e4] at w3 fa
   have hw:IntKind.i64.wrap ((l1.length:Int)+1+1)=(((l1++[a.2.1]).length:Nat):Int)+1:=by rw [aS (by omega) (by omega),List.length_append];simp
   have hab:(AV.bool a.1).asB=some a.1:=rfl
   rw [hL,p0,Option.bind_some,decide_eq_true (by omega),cond_true]
   simp only [p0,hi1,p1,p2,p3,p4,t1,hab,Option.bind_some,hw]
   have k:=λy=>ih (l1++[a.2.1]) a.2.2 g H1 y b (r1++[q.up (nI a.2.1)]) rs (q'.up (nI a.2.2)) (by omega) hb w3 (h1.app (.cons hz rfl .nil)) (.cons hz' rfl ht') e2
   cases h5:a.1 with
   | true=>
    obtain ⟨H3,r',k1,k2,k3,k4⟩:=k true
    rw [cond_true]
    refine ⟨H3,r',?_,k2,fa.trans k3,?_⟩
    ·rw [k1];simp
    ·rw [List.append_assoc] at k4;exact k4
   | false=>
    obtain ⟨H3,r',k1,k2,k3,k4⟩:=k y
    rw [cond_false]
    refine ⟨H3,r',?_,k2,fa.trans k3,?_⟩
    ·rw [k1];simp
    ·rw [List.append_assoc] at k4;exact k4
theorem UT {sh:Sl->Sl->Hp->OA} {fsh:List Int->List Int->Option (Bool×List Int×List Int)} (hsh:OkH sh fsh) {F f:Nat} {n pw:Int} {s:Sl} {J:Hp->OA} {Lf:Nat->Bool->Hp->OA} {Lq:Nat->Nat->Bool->Int->Hp->OA}
  (hLf:∀ g y H,Lf (g+1) y H=bif y then Lq g F false 1 H else J H)
  (hL:∀ c g y i H,Lq c (g+1) y i H=(Hp.ldSl H f (0+2)).bind λs265=>(bif (decide (i<(s265.n:Int))) then ((Hp.ldSl H f (0+2)).bind λs266=>(Sl.idx s266 (IntKind.i64.wrap (i - 1)) 1).bind λp267=>(Hp.ldSl H p267.1 p267.2).bind λs268=>(Hp.ldSl H f (0+2)).bind λs269=>(Sl.idx s269 i 1).bind λp270=>(Hp.ldSl H p270.1 p270.2).bind λs271=>(sh s268 s271 H).bind λr272=>((r272.1).asB).bind λb273=>(bif b273 then Lq c g true (IntKind.i64.wrap (i+1)) r272.2 else Lq c g y (IntKind.i64.wrap (i+1)) r272.2)) else Lf c y H)) :
  ∀ (g:Nat) (l:List (List Int)) (H:Hp) (res:List (List Int)) (rows:List Ow),W H (Fm f n pw s rows R)->RL rows l->kQ fsh F g l=some res ->
   ∃ H' r',Lf (g+1) true H=J H'/\W H' (Fm f n pw s r' R)/\Fr H (Fm f n pw s rows R) H' (Fm f n pw s r' R)/\RL r' res:=by
 intro g
 induction g with
 | zero=>intro l H res rows w h1 hm;cases hm
 | succ g ih=>
  intro l H res rows w h1 hm
  rw [kQ] at hm
  obtain ⟨⟨hF,hl⟩,hm⟩:=eY hm
  obtain ⟨u,e1,hm⟩:=Option.bind_eq_some_iff.1 hm
  have key:∃ H' r',Lq (g+1) F false 1 H=Lf (g+1) u.1 H'/\W H' (Fm f n pw s r' R)/\Fr H (Fm f n pw s rows R) H' (Fm f n pw s r' R)/\RL r' u.2:=by
   have hs:=w.sln
   cases h1 with
   | nil=>
    cases e1
    obtain ⟨F,rfl⟩:∃ F',F=F'+1:=⟨F - 1,by omega⟩
    have p3:H.ldSl f (0+2)=some s:=ck (w.ld (i:=0) rfl rfl)
    rw [hL,p3,Option.bind_some,decide_eq_false (by simp at hs;omega),cond_false]
    exact ⟨H,_,rfl,w,Fr.refl _ _,.nil⟩
   | @cons q rs x l hz hc t=>
    have:=t.len
    rw [List.length_cons] at hF hl
    obtain ⟨H',r',k1,k2,k3,k4⟩:=US hsh (C:=Lf (g+1)) (Lq:=Lq (g+1)) (λg' y i H=>hL (g+1) g' y i H) l [] x F H false u [] rs q (by omega) (by rw [hs,List.length_cons];omega) w .nil (.cons hz hc t) e1
    exact ⟨H',r',k1,k2,k3,k4⟩
  obtain ⟨H',r',k1,k2,k3,k4⟩:=key
  rw [hLf,cond_true,k1]
  cases h5:u.1 with
  | true=>
   rw [h5,cond_true] at hm
   obtain ⟨H2,r2,q1,q2,q3,q4⟩:=ih u.2 H' res r' k2 k4 hm
   exact ⟨H2,r2,q1,q2,k3.trans q3,q4⟩
  | false=>
   rw [h5,cond_false] at hm
   cases hm
   rw [hLf,cond_false]
   exact ⟨H',r',rfl,k2,k3,k4⟩
abbrev Pm (o:Nat) (pw:Int) (so:Sl) (ro:List Ow) (s:Sl) (cells:List AV) (rows:List Ow) (pl fl:Sl) (lp lf:List Int) (R:List Rs):List Rs:=
 .blk o [.int .i64 pw,.sl so]::.own so 1 (slc ro)::.many ro::.own s 1 cells::.many rows::.own pl 1 (nI lp)::.own fl 1 (nI lf)::R
abbrev Xm (o:Nat) (pw:Int) (so:Sl) (ro:List Ow) (s:Sl) (cells:List AV) (rows:List Ow) (R:List Rs):List Rs:=
 .blk o [.int .i64 pw,.sl so]::.own so 1 (slc ro)::.many ro::.own s 1 cells::.many rows::R
theorem eq2 {eq:Sl->Sl->Hp->OA} {feq:List Int->List Int->Option Bool} (heq:OkE eq feq) {q:Ow} {x lp:List Int} {pl:Sl} {R:List Rs} {b:Bool} (hz:q.z=1) (hc:q.cells=nI x) (w:W H (q.rs::.own pl 1 (nI lp)::R)) (e:feq x lp=some b) :
  ∃ H1,eq q.s pl H=some (.bool b,H1)/\W H1 (q.rs::.own pl 1 (nI lp)::R)/\Fr H (q.rs::.own pl 1 (nI lp)::R) H1 (q.rs::.own pl 1 (nI lp)::R):=by
 obtain ⟨w1,f1⟩:=w.right1
 obtain ⟨w2,f2⟩:=w1.right1
 have r1:=(w.roq hz hc).step f2
 have r2:=w1.roq (q:=⟨true,pl,1,[],nI lp,[]⟩) rfl rfl
 obtain ⟨H1,t1,w3,f3⟩:=heq w2 r1 r2 e
 obtain ⟨w4,f4⟩:=W.frame2 w w3 f3
 exact ⟨H1,t1,w4,f4⟩
theorem UU {eq:Sl->Sl->Hp->OA} {feq:List Int->List Int->Option Bool} (heq:OkE eq feq) {o:Nat} {s pl fl:Sl} {lp lf:List Int} {J:Hp->OA} {Lp:Nat->Int->Hp->OA}
  (hL:∀ g i H,Lp (g+1) i H=bif decide (i<(s.n:Int)) then (Sl.idx s i 1).bind λp158=>(Hp.ldSl H p158.1 p158.2).bind λs159=>(eq s159 pl H).bind λr160=>((r160.1).asB).bind λb161=>(bif b161 then Lp g (IntKind.i64.wrap (i+1)) r160.2 else ((eq s159 fl r160.2).bind λr179=>((r179.1).asB).bind λb180=>(bif b180 then ((Hp.ldI r179.2 .i64 o 0).bind λn181=>(Hp.st r179.2 o 0 (.int .i64 (IntKind.i64.wrap (n181+1)))).bind λH182=>Lp g (IntKind.i64.wrap (i+1)) H182) else ((Hp.ldSl r179.2 o (0+1)).bind λs219=>(Hp.new r179.2 [(.sl s159)]).bind λH220=>(Sl.row H220 (⟨some (r179.2.length,0),1,.ex 1⟩:Sl) 1).bind λxs222=>(Hp.app H220 1 24 s219 (⟨some (r179.2.length,0),1,.ex 1⟩:Sl).n xs222).bind λa221=>(Hp.st a221.2 o (0+1) (.sl a221.1)).bind λH223=>Lp g (IntKind.i64.wrap (i+1)) H223)))) else J H)
  {Q:AV->Hp->Prop} {H0:Hp} {R0:List Rs} {res:Int×List (List Int)}
  (hJ:∀ H so ro c,W H (Pm o res.1 so ro s c [] pl fl lp lf R)->Fr H0 R0 H (Pm o res.1 so ro s c [] pl fl lp lf R)->RL ro res.2->Rt (J H) Q) :
  ∀ (l2:List (List Int)) (c1:List AV) (g:Nat) (H:Hp) (pw:Int) (acc:List (List Int)) (so:Sl) (ro r2:List Ow),l2.length<g->s.n<=4294967296->W H (Pm o pw so ro s (c1++slc r2) r2 pl fl lp lf R)->Fr H0 R0 H (Pm o pw so ro s (c1++slc r2) r2 pl fl lp lf R)->RL ro acc->RL r2 l2->iJ feq lp lf l2 pw acc=some res ->
   Rt (Lp g (c1.length:Int) H) Q:=by
 intro l2
 induction l2 with
 | nil=>
  intro c1 g H pw acc so ro r2 hg hb w fr h1 h2 hm
  obtain ⟨g,rfl⟩:∃ g',g=g'+1:=⟨g - 1,by omega⟩
  cases h2
  cases hm
  have hs:=(w.ok (.own s 1 (c1++slc [])) (by simp)).1
  have:slc []=[]:=rfl
  rw [this,List.append_nil,Nat.mul_one] at hs
  rw [hL,decide_eq_false (by omega),cond_false]
  exact hJ _ _ _ _ w fr h1
 | cons x l2 ih=>
  intro c1 g H pw acc so ro r2 hg hb w fr h1 h2 hm
  obtain ⟨g,rfl⟩:∃ g',g=g'+1:=⟨g - 1,by omega⟩
  rw [List.length_cons] at hg
  match r2,h2 with
  | q::rs,h2=>
   obtain ⟨hz,hc,ht⟩:=h2.mid
   have hs:=(w.ok (.own s 1 (c1++slc (q::rs))) (by simp)).1
   have e0:c1++slc (q::rs)=(c1++[.sl q.s])++slc rs:=by rw [List.append_assoc];rfl
   rw [List.length_append,mY,List.length_cons,Nat.mul_one] at hs
   obtain ⟨p,p1,p2⟩:=w.ixc (i:=3) (n:=c1.length) rfl (by omega)
   have p3:H.ldSl p.1 p.2=some q.s:=ck (p2 0 (.sl q.s) (by
    rw [Nat.mul_one,Nat.add_zero,List.getElem?_append_right (Nat.le_refl _),Nat.sub_self];rfl))
   have hw:IntKind.i64.wrap ((c1.length:Int)+1)=(((c1++[AV.sl q.s]).length:Nat):Int):=by rw [aS (by omega) (by omega),List.length_append];simp
   rw [hL,decide_eq_true (by omega),cond_true]
   refine ai p1 (ai p3 ?_)
   rw [e0] at w fr
   generalize hcc:(c1++[.sl q.s])++slc rs=cc at w fr
   obtain ⟨w1,f1⟩:=w.pp [4,5,6,0,1,2,3] 7
   obtain ⟨w2,f2⟩:=(Sm.mid [] q rs (.own pl 1 (nI lp)::.own fl 1 (nI lf)::.blk o [.int .i64 pw,.sl so]::.own so 1 (slc ro)::.many ro::.own s 1 cc::R)).go w1
   obtain ⟨w3,f3⟩:=w2.pp [0,2,3,4,5,6,7,1] 8
   have w3:W H (q.rs::.own pl 1 (nI lp)::.own fl 1 (nI lf)::Xm o pw so ro s cc rs R):=w3
   have g3:Fr H0 R0 H (q.rs::.own pl 1 (nI lp)::.own fl 1 (nI lf)::Xm o pw so ro s cc rs R):=fr.trans (f1.trans (f2.trans f3))
   rw [iJ] at hm
   obtain ⟨b,e1,hm⟩:=Option.bind_eq_some_iff.1 hm
   obtain ⟨H1,t1,w4,f4⟩:=eq2 heq hz hc w3 e1
   refine ai t1 (ai (a:=b) rfl (zS (λhb1=>?_) (λhb1=>?_)))
   ·rw [hb1,cond_true] at hm
    obtain ⟨w5,f5⟩:=w4.right1
    obtain ⟨w6,f6⟩:=w5.pp [2,3,4,5,6,0,1] 7
    rw [hw]
    subst hcc
    exact ih _ g H1 pw acc so ro rs (by omega) hb w6 (g3.trans (f4.trans (Fr.trans f5 f6))) h1 ht hm
   ·rw [hb1,cond_false] at hm
    obtain ⟨d,e2,hm⟩:=Option.bind_eq_some_iff.1 hm
    obtain ⟨w5,f5⟩:=w4.pp [0,2,1] 3
    have w5:W H1 (q.rs::.own fl 1 (nI lf)::.own pl 1 (nI lp)::Xm o pw so ro s cc rs R):=w5
    obtain ⟨H2,t2,w6,f6⟩:=eq2 heq hz hc w5 e2
    have g6:Fr H0 R0 H2 (q.rs::.own fl 1 (nI lf)::.own pl 1 (nI lp)::Xm o pw so ro s cc rs R):=g3.trans (f4.trans (Fr.trans f5 f6))
    refine ai t2 (ai (a:=d) rfl (zS (λhb2=>?_) (λhb2=>?_)))
    ·rw [hb2,cond_true] at hm
     obtain ⟨w7,f7⟩:=w6.right1
     obtain ⟨w8,f8⟩:=w7.pp [2,3,4,5,6,1,0] 7
     have w8:W H2 (Pm o pw so ro s cc rs pl fl lp lf R):=w8
     have g8:Fr H0 R0 H2 (Pm o pw so ro s cc rs pl fl lp lf R):=g6.trans (Fr.trans f7 f8)
     refine lI w8 0 (aM w8 0 λH3 w9 f9=>?_)
     rw [hw]
     subst hcc
     exact ih _ g H3 (IntKind.i64.wrap (pw+1)) acc so ro rs (by omega) hb w9 (g8.trans f9) h1 ht hm
    ·rw [hb2,cond_false] at hm
     obtain ⟨acc',e3,hm⟩:=Option.bind_eq_some_iff.1 hm
     refine lSl w6 3 ?_
     obtain ⟨H5,t5,w7,f7⟩:=w6.newS [.sl q.s] 1 1 rfl (by omega)
     refine ai t5 (ai (w7.rowo (i:=0) rfl) ?_)
     have om:OL (oSl (cU (bd .i64))) [q] (slc [q]) [x]:=RL.ol (.cons hz hc .nil)
     refine IT (oSl (cU (bd .i64))) w7 (i:=5) (rows':=[q]) rfl rfl h1.ol om rfl rfl e3 λa8 c8 H6 w8 f8 o8 _=>?_
     refine aM w8 4 λH7 w9 f9=>?_
     have e6:slc ro++[.sl q.s]=slc (ro++[q]):=by rw [pH];rfl
     have w9:W H7 (.own ⟨some (H2.length,0),1,.ex 1⟩ 1 [.sl q.s]::q.rs::.own fl 1 (nI lf)::.own pl 1 (nI lp)::.blk o [.int .i64 pw,.sl ⟨a8,acc'.length,c8⟩]::.own ⟨a8,acc'.length,c8⟩ 1 (slc ro++[.sl q.s])::.many ro::.own s 1 cc::.many rs::R):=w9
     have g9:Fr H0 R0 H7 (.own ⟨some (H2.length,0),1,.ex 1⟩ 1 [.sl q.s]::q.rs::.own fl 1 (nI lf)::.own pl 1 (nI lp)::.blk o [.int .i64 pw,.sl ⟨a8,acc'.length,c8⟩]::.own ⟨a8,acc'.length,c8⟩ 1 (slc ro++[.sl q.s])::.many ro::.own s 1 cc::.many rs::R):=g6.trans (Fr.trans f7 (Fr.trans f8 f9))
     rw [e6] at w9 g9
     obtain ⟨w10,f10⟩:=w9.right1
     obtain ⟨w11,f11⟩:=w10.pp [0,5,3,4,6,7,2,1] 8
     have w11:W H7 (q.rs::.many ro::.blk o [.int .i64 pw,.sl ⟨a8,acc'.length,c8⟩]::.own ⟨a8,acc'.length,c8⟩ 1 (slc (ro++[q]))::.own s 1 cc::.many rs::.own pl 1 (nI lp)::.own fl 1 (nI lf)::R):=w11
     have sm:=(Sm.mid ro q [] (.blk o [.int .i64 pw,.sl ⟨a8,acc'.length,c8⟩]::.own ⟨a8,acc'.length,c8⟩ 1 (slc (ro++[q]))::.own s 1 cc::.many rs::.own pl 1 (nI lp)::.own fl 1 (nI lf)::R)).symm
     rw [List.append_nil] at sm
     obtain ⟨w12,f12⟩:=sm.go w11
     obtain ⟨w13,f13⟩:=w12.pp [1,2,0] 3
     obtain ⟨_,rfl⟩:=uG e3
     rw [hw]
     subst hcc
     exact ih _ g H7 pw (acc++[x]) ⟨a8,(acc++[x]).length,c8⟩ (ro++[q]) rs (by omega) hb w13 (g9.trans (f10.trans (Fr.trans f11 (Fr.trans f12 f13)))) (h1.app (.cons hz hc .nil)) ht hm
def uM (H0:Hp) (R0 R:List Rs) (res:Int×List (List Int)) (v:AV) (H':Hp):Prop:=∃ so ro,v=.agg [.int .i64 res.1,.sl so]/\W H' (.own so 1 (slc ro)::.many ro::R)/\Fr H0 R0 H' (.own so 1 (slc ro)::.many ro::R)/\RL ro res.2
def np (co rv:Int->Option (List Int)) (sh:List Int->List Int->Option (Bool×List Int×List Int)) (eq:List Int->List Int->Option Bool) (F:Nat) (n:Int) (st:Int×List (List Int)):Option (Int×List (List Int)):=
 (kQ sh F (F - 1) st.2).bind λl=>(co n).bind λlp=>(rv n).bind λlf=>if l.length<F/\l.length<=4294967296 then iJ eq lp lf l st.1 [] else none
def hZ (fa:Int×List (List Int)->Int->Option (Int×List (List Int))):List Int->Int×List (List Int)->Option (Int×List (List Int))
 | [],st=>some st
 | k::t,st=>(fa st k).bind λst'=>hZ fa t st'
noncomputable def Tw (y2 o:Nat) (H:Hp):OA:=(Hp.ldI H .i64 o 0).bind λn224=>(Hp.ldSl H o (0+1)).bind λs225=>(Hp.st H y2 0 (.int .i64 n224)).bind λH226=>(Hp.st H226 y2 (0+1) (.sl s225)).bind λH227=>(Hp.ldI H227 .i64 y2 0).bind λn228=>(Hp.ldSl H227 y2 (0+1)).bind λs229=>some ((.agg [(.int .i64 n228),(.sl s229)]),H227)
def nfP (co:Int->Option (List Int)) (tu:List Int->Option (List Int)) (rv:Int->Option (List Int)) (iv:List Int->Option (List Int)) (ab:Int->Option Int) (sw:List Int->Int->Option (List Int)) (sh:List Int->List Int->Option (Bool×List Int×List Int)) (eq:List Int->List Int->Option Bool) (F:Nat) (n:Int) (w:List Int):Option (Int×List (List Int)):=
 if w.length<F/\w.length<=4294967296 then (hZ (jx co tu rv iv ab sw F n) w (0,[])).bind λst=>np co rv sh eq F n st else none
theorem Tv {co rv:Int->Hp->OA} {sh eq:Sl->Sl->Hp->OA} {fco frv:Int->Option (List Int)} {fsh:List Int->List Int->Option (Bool×List Int×List Int)} {feq:List Int->List Int->Option Bool} (hco:OkI co fco) (hrv:OkI rv frv) (hsh:OkH sh fsh) (heq:OkE eq feq)
  {F f:Nat} {x:Hp->OA} {Lf:Nat->Nat->Bool->Hp->OA} {J9:Nat->Hp->OA} {Lq:Nat->Nat->Nat->Bool->Int->Hp->OA} {Lp:Nat->Sl->Sl->Nat->Nat->Sl->Int->Int->Hp->OA} {J:Nat->Nat->Hp->OA}
  (hx:∀ H,x H=(Hp.new H [.int .i64 0,.sl ⟨none,0,.ex 0⟩]).bind λH3=>Lf H.length F true H3)
  (hLf:∀ y2 g y H,Lf y2 (g+1) y H=bif y then Lq y2 g F false 1 H else J9 y2 H)
  (hLq:∀ y2 c g y i H,Lq y2 c (g+1) y i H=(Hp.ldSl H f (0+2)).bind λs265=>(bif (decide (i<(s265.n:Int))) then ((Hp.ldSl H f (0+2)).bind λs266=>(Sl.idx s266 (IntKind.i64.wrap (i - 1)) 1).bind λp267=>(Hp.ldSl H p267.1 p267.2).bind λs268=>(Hp.ldSl H f (0+2)).bind λs269=>(Sl.idx s269 i 1).bind λp270=>(Hp.ldSl H p270.1 p270.2).bind λs271=>(sh s268 s271 H).bind λr272=>((r272.1).asB).bind λb273=>(bif b273 then Lq y2 c g true (IntKind.i64.wrap (i+1)) r272.2 else Lq y2 c g y (IntKind.i64.wrap (i+1)) r272.2)) else Lf y2 c y H))
  (hJ9:∀ y2 H,J9 y2 H=(Hp.ldI H .i64 f 0).bind λn61=>(co n61 H).bind λr62=>((r62.1).asSl).bind λs63=>(if aK H r62.2 then ((Hp.ldI r62.2 .i64 f 0).bind λn64=>(rv n64 r62.2).bind λr65=>((r65.1).asSl).bind λs66=>(Hp.ldI r65.2 .i64 f (0+1)).bind λn67=>(Hp.new r65.2 [.int .i64 0,.sl ⟨none,0,.ex 0⟩]).bind λH68=>(Hp.st H68 r65.2.length 0 (.int .i64 n67)).bind λH69=>(Hp.st H69 r65.2.length (0+1) (.sl (⟨none,0,.ex 0⟩:Sl))).bind λH70=>(Hp.ldSl H70 f (0+2)).bind λs71=>Lp F s63 s66 y2 r65.2.length s71 (s71.n:Int) 0 H70) else none))
  (hLp:∀ g pl fl y2 o s m i H,Lp (g+1) pl fl y2 o s m i H=bif decide (i<m) then (Sl.idx s i 1).bind λp158=>(Hp.ldSl H p158.1 p158.2).bind λs159=>(eq s159 pl H).bind λr160=>((r160.1).asB).bind λb161=>(bif b161 then Lp g pl fl y2 o s m (IntKind.i64.wrap (i+1)) r160.2 else ((eq s159 fl r160.2).bind λr179=>((r179.1).asB).bind λb180=>(bif b180 then ((Hp.ldI r179.2 .i64 o 0).bind λn181=>(Hp.st r179.2 o 0 (.int .i64 (IntKind.i64.wrap (n181+1)))).bind λH182=>Lp g pl fl y2 o s m (IntKind.i64.wrap (i+1)) H182) else ((Hp.ldSl r179.2 o (0+1)).bind λs219=>(Hp.new r179.2 [(.sl s159)]).bind λH220=>(Sl.row H220 (⟨some (r179.2.length,0),1,.ex 1⟩:Sl) 1).bind λxs222=>(Hp.app H220 1 24 s219 (⟨some (r179.2.length,0),1,.ex 1⟩:Sl).n xs222).bind λa221=>(Hp.st a221.2 o (0+1) (.sl a221.1)).bind λH223=>Lp g pl fl y2 o s m (IntKind.i64.wrap (i+1)) H223)))) else J y2 o H)
  (hJ:∀ y2 o H,J y2 o H=(Hp.ldI H .i64 o 0).bind λn224=>(Hp.ldSl H o (0+1)).bind λs225=>(Hp.st H y2 0 (.int .i64 n224)).bind λH226=>(Hp.st H226 y2 (0+1) (.sl s225)).bind λH227=>(Hp.ldI H227 .i64 y2 0).bind λn228=>(Hp.ldSl H227 y2 (0+1)).bind λs229=>some ((.agg [(.int .i64 n228),(.sl s229)]),H227))
  {H0:Hp} {R0:List Rs} {n:Int} {s:Sl} {rows:List Ow} {st res:Int×List (List Int)} (w:W H (Fm f n st.1 s rows R)) (fr:Fr H0 R0 H (Fm f n st.1 s rows R)) (hr:RL rows st.2) (e:np fco frv fsh feq F n st=some res):Rt (x H) (uM H0 R0 R res):=by
 unfold np at e
 obtain ⟨l1,e1,e⟩:=Option.bind_eq_some_iff.1 e
 obtain ⟨lp,e2,e⟩:=Option.bind_eq_some_iff.1 e
 obtain ⟨lf,e3,e⟩:=Option.bind_eq_some_iff.1 e
 obtain ⟨⟨hF,hl⟩,e4⟩:=eY e
 clear e
 obtain ⟨g,rfl⟩:∃ g,F=g+1:=⟨F - 1,by omega⟩
 rw [Nat.add_sub_cancel] at e1
 rw [hx]
 refine cg w λH3 w1 f1=>?_
 obtain ⟨w2,f2⟩:=w1.pp [1,2,3,0] 4
 have w2:W H3 (Fm f n st.1 s rows (.blk H.length [.int .i64 0,.sl ⟨none,0,.ex 0⟩]::R)):=w2
 have g2:Fr H0 R0 H3 (Fm f n st.1 s rows (.blk H.length [.int .i64 0,.sl ⟨none,0,.ex 0⟩]::R)):=fr.trans (Fr.trans f1 f2)
 generalize H.length=y2 at w2 g2 ⊢
 obtain ⟨H4,r',k1,w3,f3,hr'⟩:=UT hsh (F:=g+1) (J:=J9 y2) (Lf:=Lf y2) (Lq:=Lq y2) (λg y H=>hLf y2 g y H) (λc g y i H=>hLq y2 c g y i H) g st.2 H3 l1 rows w2 hr e1
 rw [k1,hJ9]
 obtain ⟨pl,H5,t5,w5,f5⟩:=hco w3 e2
 have hC:aK H4 H5:=W.cons_of (Rn:=[_]) w3 w5 f5
 obtain ⟨fl,H6,t6,w6,f6⟩:=hrv w5 e3
 refine lI w3 0 (ai t5 (ai (a:=pl) rfl (iE hC (lI w5 1 (ai t6 (ai (a:=fl) rfl (lI w6 2 (cg w6 λH7 w7 f7=>?_))))))))
 refine aM w7 0 λH8 w8 f8=>?_
 refine aM w8 0 λH9 w9 f9=>?_
 generalize H6.length=o at *
 have w9:W H9 (.blk o [.int .i64 st.1,.sl ⟨none,0,.ex 0⟩]::.own fl 1 (nI lf)::.own pl 1 (nI lp)::Fm f n st.1 s r' (.blk y2 [.int .i64 0,.sl ⟨none,0,.ex 0⟩]::R)):=w9
 have g9:Fr H0 R0 H9 (.blk o [.int .i64 st.1,.sl ⟨none,0,.ex 0⟩]::.own fl 1 (nI lf)::.own pl 1 (nI lp)::Fm f n st.1 s r' (.blk y2 [.int .i64 0,.sl ⟨none,0,.ex 0⟩]::R)):=g2.trans (f3.trans (f5.trans (f6.trans (Fr.trans f7 (Fr.trans f8 f9)))))
 refine lSl w9 3 ?_
 obtain ⟨w10,f10⟩:=w9.nilS 1 (by omega)
 obtain ⟨w11,f11⟩:=w10.nM
 obtain ⟨w12,f12⟩:=w11.pp [2,1,0,6,7,4,3,5,8] 9
 have w12:W H9 (Pm o st.1 ⟨none,0,.ex 0⟩ [] s ([]++slc r') r' pl fl lp lf (.blk f [.int .i64 n,.int .i64 st.1,.sl s]::.blk y2 [.int .i64 0,.sl ⟨none,0,.ex 0⟩]::R)):=w12
 have g12:Fr H0 R0 H9 (Pm o st.1 ⟨none,0,.ex 0⟩ [] s ([]++slc r') r' pl fl lp lf (.blk f [.int .i64 n,.int .i64 st.1,.sl s]::.blk y2 [.int .i64 0,.sl ⟨none,0,.ex 0⟩]::R)):=g9.trans (f10.trans (Fr.trans f11 f12))
 have hsn:s.n<=4294967296:=by rw [w3.sln,hr'.len];exact hl
 refine UU heq (J:=J y2 o) (Lp:=λg i H=>Lp g pl fl y2 o s (s.n:Int) i H) (λg i H=>hLp g pl fl y2 o s _ i H) (λH' so ro c w f hro=>?_) l1 [] (g+1) H9 st.1 [] ⟨none,0,.ex 0⟩ [] r' hF hsn w12 g12 .nil hr' e4
 rw [hJ]
 refine lI w 0 (lSl w 0 (aM w 8 λH10 w13 f13=>?_))
 refine aM w13 8 λH11 w14 f14=>?_
 refine lI w14 8 (lSl w14 8 ?_)
 obtain ⟨w15,f15⟩:=w14.pp [1,2] 9
 exact ⟨_,_,rfl,so,ro,rfl,w15,f.trans (Fr.trans f13 (Fr.trans f14 f15)),hro⟩
theorem Tt {add:Nat->Int->Hp->OA} {fin:Nat->Hp->OA} {fa:Int×List (List Int)->Int->Option (Int×List (List Int))} {ff:Int×List (List Int)->Option (Int×List (List Int))} {n:Int}
  (hadd:∀ {H0 H:Hp} {R0 R:List Rs} {f:Nat} {k:Int} {s:Sl} {rows:List Ow} {st res:Int×List (List Int)},W H (Fm f n st.1 s rows R)->Fr H0 R0 H (Fm f n st.1 s rows R)->RL rows st.2->fa st k=some res->Rt (add f k H) (uL H0 R0 f n R res))
  (hfin:∀ {H0 H:Hp} {R0 R:List Rs} {f:Nat} {s:Sl} {rows:List Ow} {st res:Int×List (List Int)},W H (Fm f n st.1 s rows R)->Fr H0 R0 H (Fm f n st.1 s rows R)->RL rows st.2->ff st=some res->Rt (fin f H) (uM H0 R0 R res))
  {F:Nat} {x:Sl->Hp->OA} {Lp:Nat->Nat->Nat->Sl->Int->Int->Hp->OA}
  (hx:∀ s H,x s H=(Hp.new H [(.int .i64 n),(.sl s)]).bind λH3=>(Hp.new H3 [.int .i64 0,.sl ⟨none,0,.ex 0⟩]).bind λH4=>(Hp.ldI H4 .i64 H.length 0).bind λn5=>(Hp.new H4 [(.int .i64 n5),(.int .i64 0),(.sl (⟨none,0,.ex 0⟩:Sl))]).bind λH6=>(Hp.ldSl H6 H.length 1).bind λs7=>Lp F H3.length H4.length s7 (s7.n:Int) 0 H6)
  (hL:∀ g y2 y3 s m i H,Lp (g+1) y2 y3 s m i H=bif decide (i<m) then (Sl.idx s i 1).bind λp33=>(Hp.ldI H .i64 p33.1 p33.2).bind λn34=>(add y3 n34 H).bind λr35=>Lp g y2 y3 s m (IntKind.i64.wrap (i+1)) r35.2 else (fin y3 H).bind λr36=>((r36.1).asAgg 2).bind λl37=>(l37[0]?).bind λv38=>((v38).asI .i64).bind λn39=>(l37[1]?).bind λv40=>((v40).asSl).bind λs41=>(Hp.st r36.2 y2 0 (.int .i64 n39)).bind λH42=>(Hp.st H42 y2 (0+1) (.sl s41)).bind λH43=>(Hp.ldI H43 .i64 y2 0).bind λn44=>(Hp.ldSl H43 y2 (0+1)).bind λs45=>some ((.agg [(.int .i64 n44),(.sl s45)]),H43))
  {sw:Sl} {lw:List Int} {res:Int×List (List Int)} (w:W H R) (ro:ROs (bd .i64) H R sw lw) (hF:lw.length<F) (hl:lw.length<=4294967296) {st:Int×List (List Int)} (e:hZ fa lw (0,[])=some st) (e':ff st=some res):Rt (x sw H) (uM H R R res):=by
 rw [hx]
 refine cg w λH3 w1 f1=>cg w1 λH4 w2 f2=>lI w2 1 (cg w2 λH6 w3 f3=>lSl w3 2 ?_)
 obtain ⟨w4,f4⟩:=w3.nilS 1 (by omega)
 obtain ⟨w5,f5⟩:=w4.nM
 obtain ⟨w6,f6⟩:=w5.pp [2,1,0,3] 5
 have w6:W H6 (Fm H4.length n 0 ⟨none,0,.ex 0⟩ [] (.blk H3.length [.int .i64 0,.sl ⟨none,0,.ex 0⟩]::R)):=w6
 have g6:Fr H R H6 (Fm H4.length n 0 ⟨none,0,.ex 0⟩ [] (.blk H3.length [.int .i64 0,.sl ⟨none,0,.ex 0⟩]::R)):=f1.trans (Fr.trans f2 (Fr.trans f3 (Fr.trans f4 (Fr.trans f5 f6))))
 generalize H3.length=y2 at *
 generalize H4.length=y3 at *
 have hn:sw.n=lw.length:=ro.n
 have key:∀ (t lp:List Int) (g:Nat) (H':Hp) (st0:Int×List (List Int)) (s:Sl) (rows:List Ow),lp++t=lw->t.length<g->W H' (Fm y3 n st0.1 s rows (.blk y2 [.int .i64 0,.sl ⟨none,0,.ex 0⟩]::R))->Fr H R H' (Fm y3 n st0.1 s rows (.blk y2 [.int .i64 0,.sl ⟨none,0,.ex 0⟩]::R))->RL rows st0.2->hZ fa t st0=some st ->
   Rt (Lp g y2 y3 sw (sw.n:Int) (lp.length:Int) H') (uM H R R res):=by
  intro t
  induction t with
  | nil=>
   intro lp g H' st0 s rows hlw hg w fr hr e
   obtain ⟨g,rfl⟩:∃ g',g=g'+1:=⟨g - 1,by omega⟩
   cases e
   rw [List.append_nil] at hlw
   subst hlw
   rw [hL,hn,decide_eq_false (by omega),cond_false]
   obtain ⟨v,H7,t7,so,ro',rfl,w7,f7,hr7⟩:=hfin w fr hr e'
   refine ai t7 (ai (a:=[.int .i64 res.1,.sl so]) rfl (ai (a:=.int .i64 res.1) rfl (ai (pF _ _) (ai (a:=.sl so) rfl (ai (a:=so) rfl ?_)))))
   refine aM w7 2 λH8 w8 f8=>?_
   refine aM w8 2 λH9 w9 f9=>?_
   refine lI w9 2 (lSl w9 2 ?_)
   obtain ⟨w10,f10⟩:=w9.pp [0,1] 3
   exact ⟨_,_,rfl,so,ro',rfl,w10,f7.trans (Fr.trans f8 (Fr.trans f9 f10)),hr7⟩
  | cons k t ih=>
   intro lp g H' st0 s rows hlw hg w fr hr e
   obtain ⟨g,rfl⟩:∃ g',g=g'+1:=⟨g - 1,by omega⟩
   rw [List.length_cons] at hg
   rw [hZ] at e
   obtain ⟨st1,e1,e⟩:=Option.bind_eq_some_iff.1 e
   have hlen:lp.length<lw.length:=by rw [<- hlw,List.length_append,List.length_cons];omega
   have ro2:=ro.step fr
   obtain ⟨p,cs,i1,i2,i3⟩:=ROs.ixr (z:=1) ro2 rfl (show ix lw (lp.length:Int)=some lp.length by unfold ix;rw [if_pos ⟨by omega,by omega⟩];rfl)
   have i2:cs=[.int .i64 (gt lw lp.length)]:=i2
   subst i2
   have hk:gt lw lp.length=k:=by
    rw [<- hlw];unfold gt
    rw [List.getD_eq_getElem?_getD,List.getElem?_append_right (Nat.le_refl _),Nat.sub_self];rfl
   rw [hk] at i3
   have i4:H'.ldI .i64 p.1 p.2=some k:=bL (i3 0 _ rfl)
   obtain ⟨v,H7,t7,rfl,s7,rows7,w7,f7,hr7⟩:=hadd w fr hr e1
   rw [hL,hn,decide_eq_true (by omega),cond_true]
   have hw:IntKind.i64.wrap ((lp.length:Int)+1)=(((lp++[k]).length:Nat):Int):=by rw [aS (by omega) (by omega),List.length_append];simp
   refine ai i1 (ai i4 (ai t7 ?_))
   rw [hw,<-hn]
   exact ih (lp++[k]) g H7 st1 s7 rows7 (by rw [List.append_assoc];exact hlw) (by omega) w7 f7 hr7 e
 exact key lw [] F H6 (0,[]) _ [] rfl hF w6 g6 .nil e
end Go.AE
end
