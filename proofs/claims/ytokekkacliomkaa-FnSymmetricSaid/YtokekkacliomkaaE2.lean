import Derived.Test.YtokekkacliomkaaE1
import Derived.Below
import Derived.Deep.Slices
import Derived.Lib.SmallJoins
import Derived.WideShapes
set_option linter.unusedVariables false
set_option linter.unusedSimpArgs false
section
namespace Go.AE
open Classical
variable {R:Type} {P:Program} {r:R}
theorem afv {p:Nat->Prop} (h:∃ k,p k):∃ k,p k/\∀ j,p j->k<=j:=by
 obtain ⟨n,hn⟩:=h
 induction n using Nat.strongRecOn with
 | _ n ih=>
  by_cases c:∃ j,j<n/\p j
  ·obtain ⟨j,hj,hp⟩:=c;exact ih j hj hp
  ·exact ⟨n,hn,λj hj=>Nat.le_of_not_lt λq=>c ⟨j,q,hj⟩⟩
noncomputable def BB (p:Nat->Prop):Nat:=if h:∃ k,p k then Classical.choose (afv h) else 0
theorem afw {p:Nat->Prop} (h:∃ k,p k):p (BB p)/\∀ j,p j->BB p<=j:=by
 unfold BB;rw [dif_pos h];exact Classical.choose_spec (afv h)
section
variable (Y:Tabs) (C:Orc R) (PN:Nat->List Nat) (LH:Nat->List Nat->Nat->Tm->Hp->Option R) (F:Nat)
def afx (l:List Nat):List Nat:=(l.filter λn=>Nat.ble 1000 n).map λn=>n - 1000
def LC (l:List Nat):Bool:=l.all λn=>Nat.blt n 1000
noncomputable def eR:List Nat->Nat->Code->Tm->Hp->(Tm->Hp->Option R)->(Nat->Tm->Hp->Option R)->(Tm->Hp->Option R)->Option R
 | _,_,.skip,tm,H,Kn,_,_=>Kn tm H
 | _,_,.label _,tm,H,Kn,_,_=>Kn tm H
 | _,_,.region _ ops false,tm,H,Kn,_,_=>nX Y C ops ops.toList tm H Kn
 | _,_,.region id ops true,tm,H,Kn,_,_=>bif LC (PN id) then nC Y C ops (PN id) ops.toList 0 tm H Kn else mp Y C ops (PN id) (afx (PN id)) ops.toList 0 tm H [H] [] Kn
 | ks,p,.seq a b,tm,H,Kn,Kx,Kr=>eR ks (2 * p) a tm H (λtm H=>eR ks (2 * p+1) b tm H Kn Kx Kr) Kx Kr
 | ks,p,.cond c a b,tm,H,Kn,Kx,Kr=>match opv tm c with
  | .bool t=>bif t then eR ks (2 * p) a tm H Kn Kx Kr else eR ks (2 * p+1) b tm H Kn Kx Kr
  | _=>none
 | ks,p,.block id b,tm,H,Kn,Kx,Kr=>eR ks p b tm H Kn (λj tm H=>bif j.beq id then Kn tm H else Kx j tm H) Kr
 | ks,p,.loop _,tm,H,_,_,_=>LH p ks F tm H
 | _,_,.exit id,tm,H,_,Kx,_=>Kx id tm H
 | _,_,.ret,tm,H,_,_,Kr=>Kr tm H
 | _,_,_,_,_,_,_,_=>none
def af:List Nat->Nat->Code->(Tm->Hp->Option R)->(Nat->Tm->Hp->Option R)->(Tm->Hp->Option R)->Prop
 | ks,p,.seq a b,Kn,Kx,Kr=>af ks (2 * p) a (λtm H=>eR Y C PN LH F ks (2 * p+1) b tm H Kn Kx Kr) Kx Kr/\af ks (2 * p+1) b Kn Kx Kr
 | ks,p,.cond _ a b,Kn,Kx,Kr=>af ks (2 * p) a Kn Kx Kr/\af ks (2 * p+1) b Kn Kx Kr
 | ks,p,.block id b,Kn,Kx,Kr=>af ks p b Kn (λj tm H=>bif j.beq id then Kn tm H else Kx j tm H) Kr
 | ks,p,.loop b,_,Kx,Kr=>(∀ tm H,LH p ks 0 tm H=none)/\∀ k,(∀ tm H r,LH p ks (k+1) tm H=some r->eR Y C PN LH F (k::ks) (2 * p) b tm H (LH p ks k) Kx Kr=some r)/\af (k::ks) (2 * p) b (LH p ks k) Kx Kr
 | _,_,_,_,_,_=>True
def mq (nt:Nat) (TB:Nat->List (List Nat)):Code->Bool
 | .region _ ops false=>ops.toList.all (mo nt)
 | .region id ops true=>bif LC (PN id) then VJ ops nt (TB id) (PN id) else VN ops nt (TB id) (PN id) (afx (PN id))
 | .seq a b=>mq nt TB a&&mq nt TB b
 | .cond c a b=>qR c&&mq nt TB a&&mq nt TB b
 | .block _ b=>mq nt TB b
 | .loop b=>mq nt TB b
 | _=>true
end
section
variable {Y:Tabs} {C:Orc R} {PN:Nat->List Nat} {LH:Nat->List Nat->Nat->Tm->Hp->Option R} {F:Nat} {nt:Nat} {TB:Nat->List (List Nat)}
theorem arj (hm:P.follows .mixedOrders=true) (hX:dR P Y.ty) (hC:COk P C) {Φ0:Phi} {S0:Nat->Prop} {H0:Hp} {w0:World} :
  ∀ (c:Code) (ks:List Nat) (p:Nat) (tm:Tm) (H:Hp) (Kn:Tm->Hp->Option R) (Kx:Nat->Tm->Hp->Option R) (Kr:Tm->Hp->Option R) (Q:Exit->Act->World->Prop) (a:Act) (w:World),
   af Y C PN LH F ks p c Kn Kx Kr->mq PN nt TB c=true->eR Y C PN LH F ks p c tm H Kn Kx Kr=some r->SR Φ0 S0 H0 w0 nt tm H a w ->
   (∀ tm' H' a' w',SR Φ0 S0 H0 w0 nt tm' H' a' w'->Kn tm' H'=some r->Q .normal a' w') ->
   (∀ j tm' H' a' w',SR Φ0 S0 H0 w0 nt tm' H' a' w'->Kx j tm' H'=some r->Q (.exit j) a' w') ->
   (∀ tm' H' a' w',SR Φ0 S0 H0 w0 nt tm' H' a' w'->Kr tm' H'=some r->Q .ret a' w')->c.wp P Q a w:=by
 intro c
 induction c with
 | skip=>intro ks p tm H Kn Kx Kr Q a w hl hok h hs hn hx hr;simp only [eR] at h;exact wp_skip (hn tm H a w hs h)
 | label l=>intro ks p tm H Kn Kx Kr Q a w hl hok h hs hn hx hr;simp only [eR] at h;exact wp_label (hn tm H a w hs h)
 | region rid ops draw=>
  intro ks p tm H Kn Kx Kr Q a w hl hok h hs hn hx hr
  cases draw with
  | false=>
   simp only [eR] at h
   simp only [mq] at hok
   refine wp_region ?_
   have:=afi (P:=P) (ops:=ops) (nt:=nt) hX hC (Φ0:=Φ0) (S0:=S0) (H0:=H0) (w0:=w0) (Q:=Q) ops.toList 0 tm H Kn a w rfl hok h hs hn
   rwa [List.range_eq_range',<-Array.length_toList]
  | true=>
   simp only [eR] at h
   simp only [mq] at hok
   cases hb:LC (PN rid) with
   | true=>rw [hb,cond_true] at h hok;exact ara hm hX hC (aq_ hok) h hs hn
   | false=>rw [hb,cond_false] at h hok;exact arh hm hX hC (ari hok) h hs hn
 | seq x y ihx ihy=>
  intro ks p tm H Kn Kx Kr Q a w hl hok h hs hn hx hr
  simp only [eR] at h
  simp only [mq,Bool.and_eq_true] at hok
  obtain ⟨l1,l2⟩:=hl
  refine wp_seq (ihx ks (2 * p) tm H _ Kx Kr _ a w l1 hok.1 h hs (λtm' H' a' w' hs' h'=>?_) (λj tm' H' a' w' hs' h'=>hx j tm' H' a' w' hs' h') (λtm' H' a' w' hs' h'=>hr tm' H' a' w' hs' h'))
  exact ihy ks (2 * p+1) tm' H' Kn Kx Kr Q a' w' l2 hok.2 h' hs' hn hx hr
 | cond c x y ihx ihy=>
  intro ks p tm H Kn Kx Kr Q a w hl hok h hs hn hx hr
  simp only [eR] at h
  simp only [mq,Bool.and_eq_true] at hok
  obtain ⟨l1,l2⟩:=hl
  split at h
  ·rename_i t hc
   obtain ⟨hw,Φ,hp,ht⟩:=id hs
   have hcv:a.eval c=.bool t:=by rw [(ht.eval hok.1.1).1,hc];simp [AV.toV]
   refine wp_cond hcv ?_
   cases t with
   | true=>exact ihx ks (2 * p) tm H Kn Kx Kr Q a w l1 hok.1.2 h hs hn hx hr
   | false=>exact ihy ks (2 * p+1) tm H Kn Kx Kr Q a w l2 hok.2 h hs hn hx hr
  ·cases h
 | block id b ih=>
  intro ks p tm H Kn Kx Kr Q a w hl hok h hs hn hx hr
  simp only [eR] at h
  simp only [mq] at hok
  refine wp_block (ih ks p tm H Kn _ Kr _ a w hl hok h hs (λtm' H' a' w' hs' h'=>hn tm' H' a' w' hs' h') (λj tm' H' a' w' hs' h'=>?_) (λtm' H' a' w' hs' h'=>hr tm' H' a' w' hs' h'))
  simp only [Exit.inBlock]
  by_cases e:j=id
  ·subst e
   simp only [Nat.beq_refl,cond_true] at h'
   simpa using hn tm' H' a' w' hs' h'
  ·have hb:j.beq id=false:=by
    cases hh:j.beq id with
    | true=>exact absurd (Nat.eq_of_beq_eq_true hh) e
    | false=>rfl
   rw [hb,cond_false] at h'
   simpa [e] using hx j tm' H' a' w' hs' h'
 | loop b ih=>
  intro ks p tm H Kn Kx Kr Q a w hl hok h hs hn hx hr
  simp only [eR] at h
  simp only [mq] at hok
  obtain ⟨l0,l1⟩:=hl
  let Pk:Nat->Act->World->Prop:=λk a w=>∃ tm H,SR Φ0 S0 H0 w0 nt tm H a w/\LH p ks k tm H=some r
  refine wp_loop (λa w=>∃ k,Pk k a w) (λa w=>BB λk=>Pk k a w) ⟨F,tm,H,hs,h⟩ (λa w hI=>?_)
  obtain ⟨⟨tm1,H1,hs1,h1⟩,hmin⟩:=afw hI
  cases hk:BB λk=>Pk k a w with
  | zero=>rw [hk,l0] at h1;cases h1
  | succ k=>
   rw [hk] at h1
   obtain ⟨l2,l3⟩:=l1 k
   refine ih (k::ks) (2 * p) tm1 H1 _ Kx Kr _ a w l3 hok (l2 tm1 H1 r h1) hs1 (λtm' H' a' w' hs' h'=>?_) (λj tm' H' a' w' hs' h'=>hx j tm' H' a' w' hs' h') (λtm' H' a' w' hs' h'=>hr tm' H' a' w' hs' h')
   have hI':∃ k,Pk k a' w':=⟨k,tm',H',hs',h'⟩
   refine ⟨hI',?_⟩
   have:=(afw hI').2 k ⟨tm',H',hs',h'⟩
   show (BB λk=>Pk k a' w')<k+1
   omega
 | exit id=>intro ks p tm H Kn Kx Kr Q a w hl hok h hs hn hx hr;simp only [eR] at h;exact wp_exit (hx id tm H a w hs h)
 | ret=>intro ks p tm H Kn Kx Kr Q a w hl hok h hs hn hx hr;simp only [eR] at h;exact wp_ret (hr tm H a w hs h)
 | rangeFunc f ps x y ihx ihy=>intro ks p tm H Kn Kx Kr Q a w hl hok h;simp only [eR] at h;cases h
 | scope b ih=>intro ks p tm H Kn Kx Kr Q a w hl hok h;simp only [eR] at h;cases h
 | goto l=>intro ks p tm H Kn Kx Kr Q a w hl hok h;simp only [eR] at h;cases h
 | refuse why=>intro ks p tm H Kn Kx Kr Q a w hl hok h;simp only [eR] at h;cases h
end
end Go.AE
end
section
namespace Go.AE
open Classical
variable {R:Type} {P:Program} {r:R}
section
variable {Y:Tabs} {C:Orc R} {PN:Nat->List Nat} {LH:Nat->List Nat->Nat->Tm->Hp->Option R} {F:Nat} {nt:Nat} {TB:Nat->List (List Nat)}
def nD (n0:Nat) (tm:Tm) (H:Hp):Prop:=WF H/\(∀ t,(tm t).inS (·<H.length))/\n0<=H.length
theorem VO {ops:Array Oper} {n0:Nat} (hX:dR P Y.ty) (hC:COk P C) {G:Prop}:∀ (rest:List Oper) (tm:Tm) (H:Hp) (K:Tm->Hp->Option R),nX Y C ops rest tm H K=some r->nD n0 tm H ->
  (∀ tm' H',nD n0 tm' H'->K tm' H'=some r->G)->G
 | [],tm,H,K,h,hi,hk=>hk tm H hi h
 | o::rest,tm,H,K,h,hi,hk=>by
  obtain ⟨v,H',hst,h'⟩:=afg hX hC h
  obtain ⟨hw,ht,hn⟩:=hi
  rcases hst with ⟨_,_,_,hot⟩ | ⟨d,want,_,_,rfl,rfl⟩
  ·obtain ⟨b1,b2,b3⟩:=hot.wf hw (λx _=>afn ht x)
   exact VO hX hC rest _ _ K h' ⟨b1,λt=>Ep (λt=>AV.inS_mono (λb hb=>Nat.lt_of_lt_of_le hb b3) _ (ht t)) b2 t,Nat.le_trans hn b3⟩ hk
  ·exact VO hX hC rest _ _ K h' ⟨hw,λt=>Ep ht (by simp [gE,AV.inS,AV.inSs]) t,hn⟩ hk
theorem afy {ops:Array Oper} {pins:List Nat} {n0:Nat} (hX:dR P Y.ty) (hC:COk P C) {G:Prop}:∀ (rest:List Oper) (i:Nat) (tm:Tm) (H:Hp) (K:Tm->Hp->Option R),nC Y C ops pins rest i tm H K=some r->nD n0 tm H ->
  (∀ tm' H',nD n0 tm' H'->K tm' H'=some r->G)->G
 | [],_,tm,H,K,h,hi,hk=>hk tm H hi h
 | o::rest,i,tm,H,K,h,hi,hk=>by
  obtain ⟨v,H',hst,_,h'⟩:=afk hX hC h
  obtain ⟨hw,ht,hn⟩:=hi
  obtain ⟨b1,b2,b3⟩:=Lz hst hw ht
  exact afy hX hC rest _ _ _ K h' ⟨b1,λt=>Ep (λt=>AV.inS_mono (λb hb=>Nat.lt_of_lt_of_le hb b3) _ (ht t)) b2 t,Nat.le_trans hn b3⟩ hk
theorem afz {ops:Array Oper} {pins stb:List Nat} {n0:Nat} (hX:dR P Y.ty) (hC:COk P C) {G:Prop}:∀ (rest:List Oper) (i:Nat) (tm:Tm) (H:Hp) (hs:List Hp) (ls:List (Oper×(Operand->AV)×AV)) (K:Tm->Hp->Option R),mp Y C ops pins stb rest i tm H hs ls K=some r->nD n0 tm H ->
  (∀ tm' H',nD n0 tm' H'->K tm' H'=some r->G)->G
 | [],_,tm,H,hs,ls,K,h,hi,hk=>by
  unfold mp at h
  exact hk _ _ hi (afq h).2
 | o::rest,i,tm,H,hs,ls,K,h,hi,hk=>by
  obtain ⟨v,H',hst,_,_,_,h'⟩:=aft (P:=P) hX hC h
  obtain ⟨hw,ht,hn⟩:=hi
  obtain ⟨b1,b2,b3⟩:=Lz hst hw ht
  exact afz hX hC rest _ _ _ _ _ K h' ⟨b1,λt=>Ep (λt=>AV.inS_mono (λb hb=>Nat.lt_of_lt_of_le hb b3) _ (ht t)) b2 t,Nat.le_trans hn b3⟩ hk
theorem ark {n0:Nat} (hX:dR P Y.ty) (hC:COk P C) {G:Prop} :
  ∀ (c:Code) (ks:List Nat) (p:Nat) (tm:Tm) (H:Hp) (Kn:Tm->Hp->Option R) (Kx:Nat->Tm->Hp->Option R) (Kr:Tm->Hp->Option R),
   af Y C PN LH F ks p c Kn Kx Kr->eR Y C PN LH F ks p c tm H Kn Kx Kr=some r->nD n0 tm H ->
   (∀ tm' H',nD n0 tm' H'->Kn tm' H'=some r->G)->(∀ j tm' H',nD n0 tm' H'->Kx j tm' H'=some r->G)->(∀ tm' H',nD n0 tm' H'->Kr tm' H'=some r->G)->G:=by
 intro c
 induction c with
 | skip=>intro ks p tm H Kn Kx Kr hl h hi hn hx hr;simp only [eR] at h;exact hn tm H hi h
 | label l=>intro ks p tm H Kn Kx Kr hl h hi hn hx hr;simp only [eR] at h;exact hn tm H hi h
 | region rid ops draw=>
  intro ks p tm H Kn Kx Kr hl h hi hn hx hr
  cases draw with
  | false=>simp only [eR] at h;exact VO hX hC _ _ _ _ h hi hn
  | true=>
   simp only [eR] at h
   cases hb:LC (PN rid) with
   | true=>rw [hb,cond_true] at h;exact afy hX hC _ _ _ _ _ h hi hn
   | false=>rw [hb,cond_false] at h;exact afz hX hC _ _ _ _ _ _ _ h hi hn
 | seq x y ihx ihy=>
  intro ks p tm H Kn Kx Kr hl h hi hn hx hr
  simp only [eR] at h
  obtain ⟨l1,l2⟩:=hl
  exact ihx ks (2 * p) tm H _ Kx Kr l1 h hi (λtm' H' hi' h'=>ihy ks (2 * p+1) tm' H' Kn Kx Kr l2 h' hi' hn hx hr) hx hr
 | cond c x y ihx ihy=>
  intro ks p tm H Kn Kx Kr hl h hi hn hx hr
  simp only [eR] at h
  obtain ⟨l1,l2⟩:=hl
  split at h
  ·rename_i t hc
   cases t with
   | true=>exact ihx ks (2 * p) tm H Kn Kx Kr l1 h hi hn hx hr
   | false=>exact ihy ks (2 * p+1) tm H Kn Kx Kr l2 h hi hn hx hr
  ·cases h
 | block id b ih=>
  intro ks p tm H Kn Kx Kr hl h hi hn hx hr
  simp only [eR] at h
  refine ih ks p tm H _ _ Kr hl h hi hn (λj tm' H' hi' h'=>?_) hr
  rcases qo h' with ⟨_,h'⟩ | ⟨_,h'⟩
  ·exact hn tm' H' hi' h'
  ·exact hx j tm' H' hi' h'
 | loop b ih=>
  intro ks p tm H Kn Kx Kr hl h hi hn hx hr
  simp only [eR] at h
  obtain ⟨l0,l1⟩:=hl
  have key:∀ (k:Nat) (tm:Tm) (H:Hp),nD n0 tm H->LH p ks k tm H=some r->G:=by
   intro k
   induction k with
   | zero=>intro tm H _ h;rw [l0] at h;cases h
   | succ k ihk=>
    intro tm H hi h
    obtain ⟨l2,l3⟩:=l1 k
    exact ih (k::ks) (2 * p) tm H _ Kx Kr l3 (l2 tm H r h) hi (λtm' H' hi' h'=>ihk tm' H' hi' h') hx hr
  exact key F tm H hi h
 | exit id=>intro ks p tm H Kn Kx Kr hl h hi hn hx hr;simp only [eR] at h;exact hx id tm H hi h
 | ret=>intro ks p tm H Kn Kx Kr hl h hi hn hx hr;simp only [eR] at h;exact hr tm H hi h
 | rangeFunc f ps x y ihx ihy=>intro ks p tm H Kn Kx Kr hl h;simp only [eR] at h;cases h
 | scope b ih=>intro ks p tm H Kn Kx Kr hl h;simp only [eR] at h;cases h
 | goto l=>intro ks p tm H Kn Kx Kr hl h;simp only [eR] at h;cases h
 | refuse why=>intro ks p tm H Kn Kx Kr hl h;simp only [eR] at h;cases h
end
def ui (X:Tab) (H:Hp) (tm:Tm):List ResultVar->(List AV->Option R)->Option R
 | [],K=>K []
 | .tmp t::rs,K=>ui X H tm rs λl=>K (tm t::l)
 | .cell a t::rs,K=>match tm a with
  | .ptr b o=>(X t).bind λi=>bif i.agg then vX H b o i.ks (λl=>ui X H tm rs λm=>K (.agg l::m)) else vW H b o (i.ks.headD .any) λv=>ui X H tm rs λm=>K (v::m)
  | _=>none
def rX (X:Tab) (H:Hp) (tm:Tm) (rs:List ResultVar) (K:AV->Option R):Option R:=ui X H tm rs λl=>match l with
 | [v]=>K v
 | l=>K (.tup l)
theorem arl {X:Tab} {t:TypeId} {H:Hp} {b c:Nat} {i:TI} {K:AV->Option R} (hX:dR P X) (hi:X t=some i)
  (h:(bif i.agg then vX H b c i.ks λl=>K (.agg l) else vW H b c (i.ks.headD .any) K)=some r) :
  ∃ v,(∀ Φ S w,Rel Φ S H w->S b->(loadVar t ⟨Φ.b b,Φ.o b+c,none⟩).run P w=.ok (v.toV Φ) w/\v.ok Φ S)/\(WF H->v.inS (·<H.length))/\K v=some r:=by
 obtain ⟨d,info,z,tk⟩:=hX t i hi
 cases hagg:i.agg with
 | true=>
  rw [hagg,cond_true] at h
  obtain ⟨l,h1,h2,h3⟩:=Vy _ _ _ h
  refine ⟨.agg l,λΦ S w hr hS=>⟨?_,?_⟩,λhw=>?_,h3⟩
  ·have hl:=hr.loadCells (P:=P) hS l h2
   have hag:=tk.agg
   rw [hagg] at hag
   rw [h1,tk.ks hagg,<-tk.size] at hl
   have hia:(isAgg t).run P w=.ok true w:=by
    simp only [isAgg,Sem.run_bind,run_underlying tk.und,Result.andThen_ok]
    cases d <;> simp [ua] at hag ⊢
   simp [loadVar,hia,sizeOf,typeInfo,tk.inf,hl,AV.toV]
  ·simp only [AV.ok]
   refine (AV.oks_iff Φ S l).2 λv hv=>?_
   obtain ⟨j,hj⟩:=List.getElem?_of_mem hv
   exact (hr.cell_of hS (h2 j v hj)).2.1
  ·simp only [AV.inS]
   refine (AV.inSs_iff _ l).2 λv hv=>?_
   obtain ⟨j,hj⟩:=List.getElem?_of_mem hv
   obtain ⟨blk,q1,q2,q3⟩:=Hp.cell_some (h2 j v hj)
   exact hw b blk q1 q2 v (List.mem_of_getElem? q3)
 | false=>
  rw [hagg,cond_false] at h
  obtain ⟨v,h2,h3⟩:=Vx h
  refine ⟨v,λΦ S w hr hS=>⟨?_,(hr.cell_of hS h2).2.1⟩,λhw=>?_,h3⟩
  ·have hl:=(hr.cell_of hS h2).1
   have hag:=tk.agg
   rw [hagg] at hag
   have hia:(isAgg t).run P w=.ok false w:=by
    simp only [isAgg,Sem.run_bind,run_underlying tk.und,Result.andThen_ok]
    cases d <;> simp [ua] at hag ⊢
   simp [loadVar,hia,hl]
  ·obtain ⟨blk,q1,q2,q3⟩:=Hp.cell_some h2
   exact hw b blk q1 q2 v (List.mem_of_getElem? q3)
def Es (tmps:Array Value):ResultVar->Sem Value
 | .tmp t=>pure (tmps.getD t undef)
 | .cell a t=>do loadVar t (<- asAddr (tmps.getD a undef))
theorem arm (fn:Func) (tmps:Array Value):results fn tmps=(do let vs<-fn.results.mapM (Es tmps);pure (if h:vs.size=1 then vs[0] else .tuple vs):Sem Value):=rfl
theorem VP {X:Tab} {H:Hp} {tm:Tm} (hX:dR P X):∀ (rs:List ResultVar) (K:List AV->Option R),ui X H tm rs K=some r ->
  ∃ l,l.length=rs.length/\K l=some r /\
   (∀ (Φ:Phi) (S:Nat->Prop) (nt:Nat) (a:Act) (w:World),Rel Φ S H w->TR Φ S nt tm a->(rs.mapM (m:=Sem) (Es a.tmps)).run P w=.ok (AV.toVs Φ l) w/\∀ v∈l,v.ok Φ S) /\
   (WF H->(∀ t,(tm t).inS (·<H.length))->∀ v∈l,v.inS (·<H.length))
 | [],K,h=>⟨[],rfl,h,λΦ S nt a w hr ht=>⟨by simp [AV.toVs],by simp⟩,λ_ _=>by simp⟩
 | .tmp t::rs,K,h=>by
  simp only [ui] at h
  obtain ⟨l,h1,h2,h3,h4⟩:=VP hX rs _ h
  refine ⟨tm t::l,by simp [h1],h2,λΦ S nt a w hr ht=>?_,λhw hi=>?_⟩
  ·obtain ⟨g1,g2⟩:=h3 Φ S nt a w hr ht
   refine ⟨?_,?_⟩
   ·have k:(Es a.tmps (.tmp t)).run P w=.ok ((tm t).toV Φ) w:=by rw [<- (ht.val t).1];rfl
    simp only [List.mapM_cons,Sem.run_bind,Sem.run_pure,Result.andThen_ok,g1,k,AV.toVs]
   ·intro v hv
    rcases List.mem_cons.1 hv with rfl | hv
    ·exact (ht.val t).2
    ·exact g2 v hv
  ·intro v hv
   rcases List.mem_cons.1 hv with rfl | hv
   ·exact hi t
   ·exact h4 hw hi v hv
 | .cell b t::rs,K,h=>by
  simp only [ui] at h
  split at h
  ·rename_i bb oo hb
   obtain ⟨i,hi,h⟩:=ah h
   obtain ⟨v,hv,hvw,h⟩:=arl (K:=λv=>ui X H tm rs λm=>K (v::m)) hX hi h
   obtain ⟨l,h1,h2,h3,h4⟩:=VP hX rs _ h
   refine ⟨v::l,by simp [h1],h2,λΦ S nt a w hr ht=>?_,λhw hii=>?_⟩
   ·obtain ⟨g1,g2⟩:=h3 Φ S nt a w hr ht
    have hbv:=ht.val b
    rw [hb] at hbv
    obtain ⟨e1,e2⟩:=hv Φ S w hr (by simpa only [AV.ok] using hbv.2)
    refine ⟨?_,?_⟩
    ·have k:(Es a.tmps (.cell b t)).run P w=.ok (v.toV Φ) w:=by
      simp only [Es,Sem.run_bind,hbv.1,AV.toV,asAddr,Sem.run_pure,Result.andThen_ok,e1]
     simp only [List.mapM_cons,Sem.run_bind,k,Sem.run_pure,Result.andThen_ok,g1,AV.toVs]
    ·intro u hu
     rcases List.mem_cons.1 hu with rfl | hu
     ·exact e2
     ·exact g2 u hu
   ·intro u hu
    rcases List.mem_cons.1 hu with rfl | hu
    ·exact hvw hw
    ·exact h4 hw hii u hu
  ·cases h
theorem afA {X:Tab} {H:Hp} {tm:Tm} {fn:Func} {K:AV->Option R} (hX:dR P X) (h:rX X H tm fn.results.toList K=some r) :
  ∃ v,K v=some r/\(∀ (Φ:Phi) (S:Nat->Prop) (nt:Nat) (a:Act) (w:World),Rel Φ S H w->TR Φ S nt tm a->(results fn a.tmps).run P w=.ok (v.toV Φ) w/\v.ok Φ S) /\
   (WF H->(∀ t,(tm t).inS (·<H.length))->v.inS (·<H.length)):=by
 unfold rX at h
 obtain ⟨l,h1,h2,h3,h4⟩:=VP (P:=P) hX _ _ h
 have hrun:∀ (Φ:Phi) (S:Nat->Prop) (nt:Nat) (a:Act) (w:World),Rel Φ S H w->TR Φ S nt tm a ->
   (results fn a.tmps).run P w=.ok (if h:(AV.toVs Φ l).length=1 then (AV.toVs Φ l)[0] else .tuple (AV.toVs Φ l).toArray) w:=λΦ S nt a w hr ht=>by
  have:=(h3 Φ S nt a w hr ht).1
  rw [arm,Array.mapM_eq_mapM_toList]
  rw [Sem.run_bind,Sem.run_map,this]
  simp
 by_cases hl:l.length=1
 ·obtain ⟨v,rfl⟩:∃ v,l=[v]:=by
   cases l with
   | nil=>simp at hl
   | cons v l=>simp at hl;subst hl;exact ⟨v,rfl⟩
  refine ⟨v,h2,λΦ S nt a w hr ht=>⟨?_,(h3 Φ S nt a w hr ht).2 v (by simp)⟩,λhw hi=>h4 hw hi v (by simp)⟩
  rw [hrun Φ S nt a w hr ht]
  simp [AV.toVs]
 ·refine ⟨.tup l,?_,λΦ S nt a w hr ht=>⟨?_,?_⟩,λhw hi=>?_⟩
  ·split at h2
   ·simp at hl
   ·exact h2
  ·rw [hrun Φ S nt a w hr ht,dif_neg (by rw [iO];exact hl)]
   simp [AV.toV]
  ·simp only [AV.ok]
   exact (AV.oks_iff Φ S l).2 (h3 Φ S nt a w hr ht).2
  ·simp only [AV.inS]
   exact (AV.inSs_iff _ l).2 (h4 hw hi)
def rY (args:List AV):Tm:=λi=>args.getD i gE
theorem T.of {Y:Tabs} {C:Orc (AV×Hp)} {PN:Nat->List Nat} {LH:Nat->List Nat->Nat->Tm->Hp->OA} {F:Nat} {TB:Nat->List (List Nat)} {f:FuncId} {fn:Func} {code:Code}
  (hm : P.follows .mixedOrders = true) (hX : dR P Y.ty) (hC : COk P C) (hf : P.funcs[f]? = some fn) (hname : (fn.name == "runtime.NumGoroutine") = false) (hb : fn.body = some code) (hcode : mq PN fn.ntmps TB code = true)
  {args:List AV} (hargs:args.length<=fn.ntmps) {H:Hp} {v:AV} {H':Hp}
  (hl:af Y C PN LH F [] 1 code (λtm H=>rX Y.ty H tm fn.results.toList λv=>some (v,H)) (λ_ _ _=>none) (λtm H=>rX Y.ty H tm fn.results.toList λv=>some (v,H)))
  (h:eR Y C PN LH F [] 1 code (rY args) H (λtm H=>rX Y.ty H tm fn.results.toList λv=>some (v,H)) (λ_ _ _=>none) (λtm H=>rX Y.ty H tm fn.results.toList λv=>some (v,H))=some (v,H')) :
  T P f args H v H' where
 enters:=λvs w=>by
  have h1 : fn.name ≠ "runtime.NumGoroutine" := by simpa using hname
  simp [callFunc,hf,h1,hb,mark]
 run:=λhw Φ S w hr hok=>by
  refine calls_of_wp hf hb ?_
  have htr:TR Φ S fn.ntmps (rY args) { tmps:=(AV.toVs Φ args).toArray++Array.replicate (fn.ntmps - (AV.toVs Φ args).toArray.size) undef,defers:=[] }:=by
   refine ⟨rfl,by simp [iO];omega,λt=>?_⟩
   simp only [rY,Array.getD_eq_getD_getElem?,List.getD_eq_getElem?_getD]
   by_cases ht:t<args.length
   ·have h1:args[t]?=some args[t]:=List.getElem?_eq_getElem ht
    rw [Array.getElem?_append_left (by simp [iO];exact ht)]
    simp only [List.getElem?_toArray,qQ,h1,Option.map_some,Option.getD_some]
    exact ⟨trivial,hok _ (List.getElem_mem ht)⟩
   ·have h1:args[t]?=none:=List.getElem?_eq_none (by omega)
    rw [h1]
    rw [Array.getElem?_append_right (by simp [iO];omega)]
    simp only [Array.getElem?_replicate,Option.getD_none]
    refine ⟨?_,by simp [gE,AV.ok,AV.oks]⟩
    split <;> simp [gE,AV.toV,AV.toVs,undef]
  have hsr:SR Φ S H w fn.ntmps (rY args) H { tmps:=(AV.toVs Φ args).toArray++Array.replicate (fn.ntmps - (AV.toVs Φ args).toArray.size) undef,defers:=[] } w:=
   ⟨hw,Φ,Post.refl hr,by rw [vV];exact htr⟩
  have fin:∀ tm' Hx a' w',SR Φ S H w fn.ntmps tm' Hx a' w'->(rX Y.ty Hx tm' fn.results.toList λv=>some (v,Hx))=some (v,H') ->
    a'.defers=[]/\∃ u,(results fn a'.tmps).run P w'=.ok u w'/\∃ Φ',Ending.returned u=.returned (v.toV Φ')/\Post Φ S H w Φ' H' w'/\v.ok Φ' (ext S H H'):=by
   rintro tm' Hx a' w' ⟨hw',Φ',hp,ht⟩ hres
   obtain ⟨u,hu,h2,_⟩:=afA (P:=P) hX hres
   simp only [Option.some.injEq,Prod.mk.injEq] at hu
   obtain ⟨rfl,rfl⟩:=hu
   obtain ⟨g1,g2⟩:=h2 Φ' _ _ a' w' hp.rel ht
   exact ⟨ht.defers,_,g1,Φ',rfl,hp,g2⟩
  exact arj hm hX hC code [] 1 (rY args) H _ _ _ _ _ _ hl hcode h hsr fin (λj tm' Hx a' w' _ hx=>by cases hx) fin
 wf:=λhw hi=>by
  have hai:nD H.length (rY args) H:=⟨hw,λt=>by
   simp only [rY,List.getD_eq_getElem?_getD]
   by_cases ht:t<args.length
   ·rw [List.getElem?_eq_getElem ht];exact hi _ (List.getElem_mem ht)
   ·rw [List.getElem?_eq_none (by omega)];simp [gE,AV.inS,AV.inSs],Nat.le_refl _⟩
  have fin:∀ tm' Hx,nD H.length tm' Hx->(rX Y.ty Hx tm' fn.results.toList λv=>some (v,Hx))=some (v,H')->WF H'/\v.inS (·<H'.length)/\H.length<=H'.length:=by
   rintro tm' Hx ⟨hw',hi',hn⟩ hres
   obtain ⟨u,hu,_,h3⟩:=afA (P:=P) hX hres
   simp only [Option.some.injEq,Prod.mk.injEq] at hu
   obtain ⟨rfl,rfl⟩:=hu
   exact ⟨hw',h3 hw' hi',hn⟩
  exact ark hX hC code [] 1 (rY args) H _ _ _ hl h hai fin (λj tm' Hx _ hx=>by cases hx) fin
end Go.AE
end
section
namespace Go.AE
variable {P:Program} {R:Type}
noncomputable instance decCons (H H':Hp):Decidable (aX H H'):=Classical.propDecidable _
def Hp.new (H:Hp) (cells:List AV):Option Hp:=some (H++[⟨cells,true,true⟩])
def bS (l:List (FuncId×(List AV->Hp->OA))):Orc R:=λf args H K=>((l.find? λp=>p.1==f).bind λp=>p.2 args H).bind λr=>K r.1 r.2
theorem arn {l:List (FuncId×(List AV->Hp->OA))} (h:∀ p∈l,∀ args H v H',p.2 args H=some (v,H')->T P p.1 args H v H'):COk P (bS l:Orc R):=by
 intro f args H K r hr
 unfold bS at hr
 obtain ⟨q,h1,h2⟩:=ah hr
 obtain ⟨p,h3,h4⟩:=ah h1
 have h5:=List.find?_some h3
 have h6:=List.mem_of_find?_eq_some h3
 simp at h5
 subst h5
 exact ⟨q.1,q.2,h p h6 args H q.1 q.2 h4,h2⟩
section
variable {Y:Tabs} {C:Orc R} {PN:Nat->List Nat} {LH:Nat->List Nat->Nat->Tm->Hp->Option R} {F:Nat}
def nU:Code->Bool
 | .seq a b=>nU a&&nU b
 | .cond _ a b=>nU a&&nU b
 | .block _ b=>nU b
 | .loop _=>false
 | _=>true
theorem Lo:∀ {c:Code} {ks:List Nat} {p:Nat} {Kn:Tm->Hp->Option R} {Kx:Nat->Tm->Hp->Option R} {Kr:Tm->Hp->Option R},nU c=true->af Y C PN LH F ks p c Kn Kx Kr:=by
 intro c
 induction c with
 | seq a b iha ihb=>intro ks p Kn Kx Kr h;simp only [nU,Bool.and_eq_true] at h;exact ⟨iha h.1,ihb h.2⟩
 | cond c a b iha ihb=>intro ks p Kn Kx Kr h;simp only [nU,Bool.and_eq_true] at h;exact ⟨iha h.1,ihb h.2⟩
 | block id b ih=>intro ks p Kn Kx Kr h;exact ih h
 | loop b ih=>intro ks p Kn Kx Kr h;cases h
 | _=>intros;trivial
theorem af.seq {ks:List Nat} {p:Nat} {a b:Code} {Kn:Tm->Hp->Option R} {Kx:Nat->Tm->Hp->Option R} {Kr:Tm->Hp->Option R}
  (h1:af Y C PN LH F ks (2 * p) a (λtm H=>eR Y C PN LH F ks (2 * p+1) b tm H Kn Kx Kr) Kx Kr) (h2:af Y C PN LH F ks (2 * p+1) b Kn Kx Kr):af Y C PN LH F ks p (.seq a b) Kn Kx Kr:=⟨h1,h2⟩
theorem af.cond {ks:List Nat} {p:Nat} {c:Operand} {a b:Code} {Kn:Tm->Hp->Option R} {Kx:Nat->Tm->Hp->Option R} {Kr:Tm->Hp->Option R}
  (h1:af Y C PN LH F ks (2 * p) a Kn Kx Kr) (h2:af Y C PN LH F ks (2 * p+1) b Kn Kx Kr):af Y C PN LH F ks p (.cond c a b) Kn Kx Kr:=⟨h1,h2⟩
theorem af.block {ks:List Nat} {p id:Nat} {b:Code} {Kn:Tm->Hp->Option R} {Kx:Nat->Tm->Hp->Option R} {Kr:Tm->Hp->Option R}
  (h:af Y C PN LH F ks p b Kn (λj tm H=>bif j.beq id then Kn tm H else Kx j tm H) Kr):af Y C PN LH F ks p (.block id b) Kn Kx Kr:=h
theorem af.loop {ks:List Nat} {p:Nat} {b:Code} {Kn:Tm->Hp->Option R} {Kx:Nat->Tm->Hp->Option R} {Kr:Tm->Hp->Option R} (h0:∀ tm H,LH p ks 0 tm H=none)
  (h1:∀ k tm H r,LH p ks (k+1) tm H=some r->eR Y C PN LH F (k::ks) (2 * p) b tm H (LH p ks k) Kx Kr=some r)
  (h2:∀ k,af Y C PN LH F (k::ks) (2 * p) b (LH p ks k) Kx Kr):af Y C PN LH F ks p (.loop b) Kn Kx Kr:=⟨h0,λk=>⟨h1 k,h2 k⟩⟩
end
theorem aro {α:Type} {x:Option α} (h:∀ r,x=some r->False):x=none:=by
 cases x with
 | none=>rfl
 | some r=>exact absurd rfl (λe=>h r e)
section
variable {Y:Tabs} {C:Orc R} {PN:Nat->List Nat} {LH:Nat->List Nat->Nat->Tm->Hp->Option R} {F:Nat} {ks:List Nat} {p:Nat} {a b:Code} {Kn:Tm->Hp->Option R} {Kx:Nat->Tm->Hp->Option R} {Kr:Tm->Hp->Option R}
theorem af.rt (h2:af Y C PN LH F ks (2 * p+1) b Kn Kx Kr) (h:nU a=true:=by kernel_rfl):af Y C PN LH F ks p (.seq a b) Kn Kx Kr:=⟨Lo h,h2⟩
theorem af.lt (h1:af Y C PN LH F ks (2 * p) a (λtm H=>eR Y C PN LH F ks (2 * p+1) b tm H Kn Kx Kr) Kx Kr) (h:nU b=true:=by kernel_rfl):af Y C PN LH F ks p (.seq a b) Kn Kx Kr:=⟨h1,Lo h⟩
theorem af.no (h:nU a=true:=by kernel_rfl):af Y C PN LH F ks p a Kn Kx Kr:=Lo h
end
theorem af.la {R:Type} {Y:Tabs} {C:Orc R} {PN:Nat->List Nat} {LH:Nat->List Nat->Nat->Tm->Hp->Option R} {F:Nat} {ks:List Nat} {p:Nat} {b:Code} {Kn:Tm->Hp->Option R} {Kx:Nat->Tm->Hp->Option R} {Kr:Tm->Hp->Option R}
  (h:∀ n tm H r,LH p ks n tm H=some r->∃ k,n=k+1/\eR Y C PN LH F (k::ks) (2 * p) b tm H (LH p ks k) Kx Kr=some r)
  (h2:∀ k,af Y C PN LH F (k::ks) (2 * p) b (LH p ks k) Kx Kr):af Y C PN LH F ks p (.loop b) Kn Kx Kr:=
 af.loop (λtm H=>aro λr e=>by obtain ⟨k,q,_⟩:=h 0 tm H r e;cases q) (λk tm H r e=>by obtain ⟨k',q,g⟩:=h (k+1) tm H r e;cases q;exact g) h2
def cX (tm:Tm):List (Nat×AV)->Prop
 | []=>True
 | p::l=>tm p.1=p.2/\cX tm l
def VQ (tm:Tm):List (Nat×AV)->Tm
 | []=>tm
 | p::l=>Tm.put (VQ tm l) p.1 p.2
theorem db {tm:Tm}:∀ {l:List (Nat×AV)},cX tm l->VQ tm l=tm
 | [],_=>rfl
 | p::l,h=>by rw [VQ,db h.2];exact Tm.put_same h.1
section
variable {Y:Tabs} {PN:Nat->List Nat} {LH:Nat->List Nat->Nat->Tm->Hp->OA} {TB:Nat->List (List Nat)} {F:Nat}
noncomputable def kk (Y:Tabs) (fn:Func) (tm:Tm) (H:Hp):OA:=rX Y.ty H tm fn.results.toList λv=>some (v,H)
def nox (_:Nat) (_:Tm) (_:Hp):OA:=none
noncomputable def lh0 (_:Nat) (_:List Nat) (_:Nat) (_:Tm) (_:Hp):OA:=none
def cf {α:Type} (_:Nat):List α:=[]
def dn {α:Type} (l:List (Nat×List α)) (i:Nat):List α:=(l.lookup i).getD []
def LOk (Y:Tabs) (C:Orc (AV×Hp)) (PN:Nat->List Nat) (LH:Nat->List Nat->Nat->Tm->Hp->OA) (F:Nat) (fn:Func):Prop:=af Y C PN LH F [] 1 (fn.body.getD .skip) (kk Y fn) nox (kk Y fn)
noncomputable def EXe (Y:Tabs) (C:Orc (AV×Hp)) (PN:Nat->List Nat) (LH:Nat->List Nat->Nat->Tm->Hp->OA) (F:Nat) (fn:Func) (args:List AV) (H:Hp):OA:=eR Y C PN LH F [] 1 (fn.body.getD .skip) (rY args) H (kk Y fn) nox (kk Y fn)
def Ln (PN : Nat → List Nat) (TB : Nat → List (List Nat)) (fn : Func) (m : Nat) : Bool := fn.body.isSome && ((!(fn.name == "runtime.NumGoroutine")) && (mq PN fn.ntmps TB (fn.body.getD .skip) && Nat.ble m fn.ntmps))
def Ok (P:Program) (n:FuncId) (g:List AV->Hp->OA):Prop:=∀ args H v H',g args H=some (v,H')->T P n args H v H'
abbrev Cs:=List (FuncId×(List AV->Hp->OA))
theorem da:∀ p∈([]:Cs),Ok P p.1 p.2:=λp h=>by cases h
theorem bH {n:FuncId} {g:List AV->Hp->OA} {l:Cs} (h:Ok P n g) (t:∀ p∈l,Ok P p.1 p.2):∀ p∈(n,g)::l,Ok P p.1 p.2:=λp hp=>by
 rcases List.mem_cons.1 hp with rfl | hp
 ·exact h
 ·exact t p hp
theorem T.of2 {fn:Func} {n:FuncId} {cs:Cs} {args:List AV} {H:Hp} {v:AV} {H':Hp} (hm:P.follows .mixedOrders=true) (hX:dR P Y.ty) (hcs:∀ p∈cs,Ok P p.1 p.2) (hf:P.funcs[n]?=some fn) (hl:LOk Y (bS cs) PN LH F fn)
  (h:EXe Y (bS cs) PN LH F fn args H=some (v,H')) (hk:Ln PN TB fn args.length=true):T P n args H v H':=by
 unfold Ln at hk
 simp only [Bool.and_eq_true,Bool.not_eq_true'] at hk
 obtain ⟨h1,h2,h3,h4⟩:=hk
 obtain ⟨code,hb⟩:=Option.isSome_iff_exists.1 h1
 have e:fn.body.getD .skip=code:=by rw [hb];rfl
 unfold LOk at hl
 unfold EXe at h
 rw [e] at hl h h3
 exact T.of (Y:=Y) (C:=bS cs) (PN:=PN) (LH:=LH) (F:=F) (TB:=TB) (fn:=fn) (code:=code) hm hX (arn hcs) hf h2 hb h3 (Nat.le_of_ble_eq_true h4) hl h
end
end Go.AE
end
section
namespace Go.AE
open Go.RowKit
variable {P:Program}
def RoH (H:Hp):Prop:=∀ (b:Nat) (blk:Blk),H[b]?=some blk->blk.own=false/\blk.live=true
structure Ro (Φ:Phi) (H:Hp) (w:World):Prop where
 ro:RoH H
 rel:Rel Φ (·<H.length) H w
theorem RoH.snoc {H:Hp} (h:RoH H) (cells:List AV):RoH (H++[⟨cells,false,true⟩]):=by
 intro b blk hb
 rcases Nat.lt_or_ge b H.length with h1 | h1
 ·rw [List.getElem?_append_left h1] at hb;exact h b blk hb
 ·rw [List.getElem?_append_right h1] at hb
  have:blk=⟨cells,false,true⟩:=by
   cases e:b - H.length with
   | zero=>rw [e] at hb;simpa using hb.symm
   | succ n=>rw [e] at hb;simp at hb
  subst this;exact ⟨rfl,rfl⟩
theorem Ro.nil (Φ:Phi) (w:World):Ro Φ [] w:=
 ⟨λb blk h=>by simp at h,⟨λb h=>h,λb blk h=>absurd h (Nat.not_lt_zero _),λb blk h=>absurd h (Nat.not_lt_zero _),λb blk h=>absurd h (Nat.not_lt_zero _),λb blk b' blk' h=>absurd h (Nat.not_lt_zero _),λb blk b' blk' h=>absurd h (Nat.not_lt_zero _)⟩⟩
theorem Ro.snoc {Φ:Phi} {H:Hp} {w:World} (h:Ro Φ H w) (B O K:Nat) (cells:List AV) (hok:∀ v∈cells,v.ok Φ (·<H.length)/\v.isCell=true)
  (hc:∀ i v,cells[i]?=some v->w.cell? ⟨B,O+i,none⟩=some (v.toV Φ)):Ro (Φ.put H.length B O K) (H++[⟨cells,false,true⟩]) w:=by
 have hag:Φ.agree (Φ.put H.length B O K) (·<H.length):=Phi.put_agree (by simp)
 have hlen:∀ b,b<H.length->b<(H++[(⟨cells,false,true⟩:Blk)]).length:=λb hb=>by simp;omega
 have up:∀ v:AV,v.ok Φ (·<H.length)->v.ok (Φ.put H.length B O K) (·<(H++[(⟨cells,false,true⟩:Blk)]).length)/\v.toV (Φ.put H.length B O K)=v.toV Φ:=λv hv=>
  ⟨AV.ok_agree hag hlen _ hv,(AV.toV_agree hag _ (AV.ok_inS _ hv))⟩
 have hro:=h.ro.snoc cells
 have noown:∀ (b:Nat) (blk:Blk),(H++[(⟨cells,false,true⟩:Blk)])[b]?=some blk->blk.own=true->False:=λb blk hb ho=>by
  have:=(hro b blk hb).1;rw [this] at ho;cases ho
 refine ⟨hro,⟨λb hb=>hb,λb blk hb hx hl v hv=>?_,λb blk hb hx hl i v hv=>?_,λb blk hb hx hl ho=>(noown b blk hx ho).elim,λb blk b' blk' hb hb' hx hx' hl hl' ho=>(noown b blk hx ho).elim,λb blk b' blk' hb hb' hx hx' hl hl' ho=>(noown b blk hx ho).elim⟩⟩
 ·rcases Nat.lt_or_ge b H.length with h1 | h1
  ·rw [List.getElem?_append_left h1] at hx
   obtain ⟨c1,c2⟩:=h.rel.closed b blk h1 hx hl v hv
   exact ⟨(up v c1).1,c2⟩
  ·rw [List.getElem?_append_right h1] at hx
   have hb0:b - H.length=0:=by simp at hb;omega
   rw [hb0] at hx
   simp at hx;subst hx
   exact ⟨(up v (hok v hv).1).1,(hok v hv).2⟩
 ·rcases Nat.lt_or_ge b H.length with h1 | h1
  ·rw [List.getElem?_append_left h1] at hx
   have c1:=(h.rel.closed b blk h1 hx hl v (List.mem_of_getElem? hv)).1
   rw [(up v c1).2]
   have:=h.rel.cell b blk h1 hx hl i v hv
   obtain ⟨a1,a2,a3⟩:=hag b h1
   rw [a1,a2];exact this
  ·rw [List.getElem?_append_right h1] at hx
   have hb0:b - H.length=0:=by simp at hb;omega
   have hbe:b=H.length:=by simp at hb;omega
   rw [hb0] at hx
   simp at hx;subst hx
   have c1:=(hok v (List.mem_of_getElem? hv)).1
   rw [(up v c1).2,hbe,Phi.put_b,Phi.put_o]
   exact hc i v hv
theorem Ro.wf {Φ:Phi} {H:Hp} {w:World} (h:Ro Φ H w):WF H:=λb blk hb hl v hv=>
 AV.ok_inS _ (h.rel.closed b blk (List.getElem?_eq_some_iff.1 hb).1 hb hl v hv).1
theorem Ro.noown {Φ:Phi} {H:Hp} {w:World} (h:Ro Φ H w) {S:Nat->Prop} (k:Nat):¬ Own Φ S H k:=λ⟨b,blk,_,hb,ho,_⟩=>by
 have:=(h.ro b blk hb).1;rw [this] at ho;cases ho
theorem T.calls {f:FuncId} {args:List AV} {H H':Hp} {v:AV} {Φ:Phi} {w:World} (t:T P f args H v H') (h:Ro Φ H w) (ha:∀ a∈args,a.ok Φ (·<H.length)) :
  Calls P f (AV.toVs Φ args).toArray w λe w'=>∃ Φ',e=.returned (v.toV Φ')/\Below w.heap.size w w'/\Rel Φ' (·<H'.length) H' w'/\v.ok Φ' (·<H'.length) /\
   (∀ k,k<w.heap.size->¬ Own Φ' (·<H'.length) H' k):=by
 refine (t.run h.wf Φ _ w h.rel ha).mono λe w' ⟨Φ',he,hp,hv⟩=>?_
 have hext:ext (·<H.length) H H'=(·<H'.length):=by
  funext b;simp only [ext];apply propext
  have:=hp.len
  constructor
  ·rintro (q | q) <;> omega
  ·intro q
   by_cases c:b<H.length
   ·exact .inl c
   ·exact .inr ⟨by omega,q⟩
 have hrel:=hp.rel
 rw [hext] at hrel hv
 refine ⟨Φ',he,⟨hp.os,hp.tape,hp.output,hp.size,λk hk=>hp.frame k hk (h.noown k)⟩,hrel,hv,λk hk ho=>?_⟩
 rw [<- hext] at ho
 exact h.noown k (hp.own k hk ho)
end Go.AE
end
section
namespace Go.AE
open Go.RowKit
theorem ap {x:Int} (h0:-9223372036854775808<=x) (h1:x<=9223372036854775807):IntKind.i64.wrap x=x:=by
 simp only [IntKind.wrap,IntKind.signed,IntKind.bits]
 simp
 omega
end Go.AE
end
section
namespace Go.AE
def At (H:Hp) (b:Nat) (cells:List AV):Prop:=H[b]?=some ⟨cells,true,true⟩
def hU (B:Nat->Prop) (H H':Hp):Prop:=H.length<=H'.length/\∀ b,b<H.length->¬ B b->H'[b]?=H[b]?
theorem hU.refl (B:Nat->Prop) (H:Hp):hU B H H:=⟨Nat.le_refl _,λ_ _ _=>rfl⟩
theorem hU.trans {B:Nat->Prop} {H H' H'':Hp} (h:hU B H H') (h':hU B H' H''):hU B H H'':=
 ⟨Nat.le_trans h.1 h'.1,λb hb hn=>(h'.2 b (Nat.lt_of_lt_of_le hb h.1) hn).trans (h.2 b hb hn)⟩
theorem hU.mono {B B':Nat->Prop} {H H':Hp} (h:hU B H H') (hB:∀ b,B b->B' b):hU B' H H':=⟨h.1,λb hb hn=>h.2 b hb (λq=>hn (hB b q))⟩
theorem hU.push (B:Nat->Prop) (H l:Hp):hU B H (H++l):=⟨by simp,λb hb _=>by rw [List.getElem?_append_left hb]⟩
theorem hU.pre {B:Nat->Prop} {H H':Hp} (h:H <+: H'):hU B H H':=by obtain ⟨l,rfl⟩:=h;exact hU.push B H l
theorem hU.set (H:Hp) (b:Nat) (x:Blk):hU (·=b) H (H.set b x):=⟨by simp,λc _ hn=>by rw [List.getElem?_set_ne (λq=>hn q.symm)]⟩
theorem At.lt {H:Hp} {b:Nat} {cells:List AV} (h:At H b cells):b<H.length:=(List.getElem?_eq_some_iff.1 h).1
theorem At.keep {B:Nat->Prop} {H H':Hp} {b:Nat} {cells:List AV} (h:At H b cells) (hk:hU B H H') (hb:¬ B b):At H' b cells:=(hk.2 b h.lt hb).trans h
theorem At.new (H:Hp) (cells:List AV):At (H++[⟨cells,true,true⟩]) H.length cells:=by unfold At;simp
theorem At.cell {H:Hp} {b:Nat} {cells:List AV} (h:At H b cells) (o:Nat):H.cell b o=cells[o]?:=by unfold Hp.cell;rw [h];rfl
theorem At.ldI {H:Hp} {b:Nat} {cells:List AV} (h:At H b cells) {k:IntKind} {o:Nat} {n:Int} (hc:cells[o]?=some (.int k n)):H.ldI k b o=some n:=by
 unfold Hp.ldI;rw [h.cell,hc];simp [AV.asI]
theorem At.ldB {H:Hp} {b:Nat} {cells:List AV} (h:At H b cells) {o:Nat} {n:Bool} (hc:cells[o]?=some (.bool n)):H.ldB b o=some n:=by
 unfold Hp.ldB;rw [h.cell,hc];simp [AV.asB]
theorem At.ldSl {H:Hp} {b:Nat} {cells:List AV} (h:At H b cells) {o:Nat} {s:Sl} (hc:cells[o]?=some (.sl s)):H.ldSl b o=some s:=by
 unfold Hp.ldSl;rw [h.cell,hc];simp [AV.asSl]
theorem At.st {H:Hp} {b:Nat} {cells:List AV} (h:At H b cells) {o:Nat} {v:AV} (ho:o<cells.length) (hv:v.isCell=true) :
  H.st b o v=some (H.set b ⟨cells.set o v,true,true⟩)/\At (H.set b ⟨cells.set o v,true,true⟩) b (cells.set o v):=by
 constructor
 ·unfold Hp.st;rw [h];simp [hv,ho]
 ·unfold At;rw [List.getElem?_set_self h.lt]
theorem Hp.kill_keep (H:Hp) (b:Nat):hU (·=b) H (H.kill b):=by
 unfold Hp.kill
 split
 ·exact hU.set H b _
 ·exact hU.refl _ _
end Go.AE
end
section
namespace Go.AE
structure Ow where
 t:Bool
 s:Sl
 z:Nat
 pre:List AV
 cells:List AV
 rest:List AV
inductive Rs where
 | blk (b:Nat) (cells:List AV)
 | ow (t:Bool) (s:Sl) (z:Nat) (pre cells rest:List AV)
 | many (l:List Ow)
abbrev Rs.own (s:Sl) (z:Nat) (cells:List AV):Rs:=.ow true s z [] cells []
def lvs (t:Bool) (s:Sl):Bool:=match t with | true=>decide (s.c≠.ex 0) | false=>decide (s.n≠0)
def jo (t:Bool) (s:Sl):Option Nat:=if lvs t s=true then s.a.map (·.1) else none
theorem rZ {t:Bool} {s:Sl} (h:lvs t s=true):jo t s=s.a.map (·.1):=if_pos h
theorem wc {t:Bool} {s:Sl} {b:Nat} (h:jo t s=some b):lvs t s=true/\s.a.map (·.1)=some b:=by
 unfold jo at h
 split at h
 ·exact ⟨by assumption,h⟩
 ·cases h
def Rs.has:Rs->Nat->Prop
 | .blk b _,c=>b=c
 | .ow t s _ _ _ _,c=>jo t s=some c
 | .many l,c=>∃ q∈l,jo q.t q.s=some c
def Sl.fits (s:Sl) (z:Nat):Prop:=match s.c with | .ex c=>s.n<=c | .full z'=>z'=z/\s.a.isSome=true | .tip z' _=>z'=z/\s.a.isSome=true/\s.n=0
def owk (H:Hp) (t:Bool) (s:Sl) (z:Nat) (pre cells rest:List AV):Prop:=cells.length=s.n * z/\0<z/\(lvs t s=false->s.n=0)/\(lvs t s=true->∃ p,s.a=some p/\s.ad=s.a/\p.2=pre.length/\At H p.1 (pre++cells++rest))/\s.fits z/\(t=true->pre=[]/\rest=[]/\(lvs true s=true->s.c=.full z\/s.c=.ex s.n))
def Rs.ok (H:Hp):Rs->Prop
 | .blk b cells=>At H b cells
 | .ow t s z pre cells rest=>owk H t s z pre cells rest
 | .many l=>(∀ q∈l,owk H q.t q.s q.z q.pre q.cells q.rest)/\∀ (i j:Nat) (q q':Ow),l[i]?=some q->l[j]?=some q'->i≠j->∀ b,jo q.t q.s=some b->jo q'.t q'.s≠some b
def inK (R:List Rs) (b:Nat):Prop:=∃ r∈R,r.has b
structure W (H:Hp) (R:List Rs):Prop where
 ok:∀ r∈R,r.ok H
 nd:∀ (i j:Nat) (r r':Rs),R[i]?=some r->R[j]?=some r'->i≠j->∀ b,r.has b->¬ r'.has b
structure Fr (H:Hp) (R:List Rs) (H':Hp) (R':List Rs):Prop where
 len:H.length<=H'.length
 keep:∀ b,b<H.length->¬ inK R b->H'[b]?=H[b]?
 sub:∀ b,inK R' b->inK R b\/H.length<=b
theorem Fr.refl (H:Hp) (R:List Rs):Fr H R H R:=⟨Nat.le_refl _,λ_ _ _=>rfl,λ_ h=>.inl h⟩
theorem Fr.trans {H H' H'':Hp} {R R' R'':List Rs} (h:Fr H R H' R') (h':Fr H' R' H'' R''):Fr H R H'' R'' where
 len:=Nat.le_trans h.len h'.len
 keep:=λb hb hn=>(h'.keep b (Nat.lt_of_lt_of_le hb h.len) (λq=>(h.sub b q).elim hn (λq=>by omega))).trans (h.keep b hb hn)
 sub:=λb hb=>(h'.sub b hb).elim (h.sub b) (λq=>.inr (Nat.le_trans h.len q))
theorem afB {H H':Hp} {t:Bool} {s:Sl} {z:Nat} {pre cells rest:List AV} (h:owk H t s z pre cells rest) (hk:∀ b,jo t s=some b->H'[b]?=H[b]?):owk H' t s z pre cells rest:=by
 obtain ⟨h1,h2,h3,h4,h5⟩:=h
 refine ⟨h1,h2,h3,λhc=>?_,h5⟩
 obtain ⟨p,g1,g2,g3,g4⟩:=h4 hc
 exact ⟨p,g1,g2,g3,(hk p.1 (by rw [rZ hc,g1];rfl)).trans g4⟩
theorem Et {H:Hp} {t:Bool} {s:Sl} {z:Nat} {pre cells rest:List AV} (h:owk H t s z pre cells rest) {b:Nat} (hb:jo t s=some b):At H b (pre++cells++rest):=by
 obtain ⟨h1,h2,h3,h4,h5⟩:=h
 obtain ⟨hc,hb⟩:=wc hb
 obtain ⟨p,g1,g2,g3,g4⟩:=h4 hc
 rw [g1] at hb;cases hb;exact g4
theorem Rs.ok_keep {H H':Hp} {r:Rs} (h:r.ok H) (hk:∀ b,r.has b->H'[b]?=H[b]?):r.ok H':=by
 cases r with
 | blk b cells=>exact (hk b rfl).trans h
 | ow t s z pre cells rest=>exact afB h hk
 | many l=>exact ⟨λq hq=>afB (h.1 q hq) (λb hb=>hk b ⟨q,hq,hb⟩),h.2⟩
theorem Rs.ok_lt {H:Hp} {r:Rs} (h:r.ok H) {b:Nat} (hb:r.has b):b<H.length:=by
 cases r with
 | blk b' cells=>cases hb;exact At.lt h
 | ow t s z pre cells rest=>exact (Et h hb).lt
 | many l=>obtain ⟨q,hq,hb⟩:=hb;exact (Et (h.1 q hq) hb).lt
theorem Rs.key_own {H:Hp} {t:Bool} {s:Sl} {z:Nat} {pre cells rest:List AV} (h:Rs.ok H (.ow t s z pre cells rest)) {b:Nat} (hb:Rs.has (.ow t s z pre cells rest) b):At H b (pre++cells++rest):=Et h hb
theorem W.lt {H:Hp} {R:List Rs} (w:W H R) {b:Nat} (hb:inK R b):b<H.length:=by
 obtain ⟨r,hr,hk⟩:=hb;exact Rs.ok_lt (w.ok r hr) hk
theorem W.upd {H H':Hp} {R:List Rs} {i:Nat} {r r':Rs} (w:W H R) (hi:R[i]?=some r) (hl:H.length<=H'.length) (hk:∀ b,b<H.length->¬ r.has b->H'[b]?=H[b]?) (hr:r'.ok H')
  (hkey:∀ b,r'.has b->r.has b\/H.length<=b):W H' (R.set i r')/\Fr H R H' (R.set i r'):=by
 have hlt:i<R.length:=(List.getElem?_eq_some_iff.1 hi).1
 have get:∀ j x,(R.set i r')[j]?=some x->(j=i/\x=r')\/(j≠i/\R[j]?=some x):=λj x hx=>by
  by_cases e:i=j
  ·subst e;rw [List.getElem?_set_self hlt] at hx;cases hx;exact .inl ⟨rfl,rfl⟩
  ·rw [List.getElem?_set_ne e] at hx;exact .inr ⟨λq=>e q.symm,hx⟩
 refine ⟨⟨λx hx=>?_,λj j' x x' hx hx' hne b hb hb'=>?_⟩,⟨hl,λb hb hn=>hk b hb (λq=>hn ⟨r,List.mem_of_getElem? hi,q⟩),λb hb=>?_⟩⟩
 ·obtain ⟨j,hj⟩:=List.getElem?_of_mem hx
  rcases get j x hj with ⟨_,rfl⟩ | ⟨hne,hx'⟩
  ·exact hr
  ·exact Rs.ok_keep (w.ok x (List.mem_of_getElem? hx')) (λb hb=>hk b (Rs.ok_lt (w.ok x (List.mem_of_getElem? hx')) hb) (w.nd j i x r hx' hi hne b hb))
 ·rcases get j x hx with ⟨e,ex⟩ | ⟨hn,gx⟩
  ·rcases get j' x' hx' with ⟨e',ex'⟩ | ⟨hn',gx'⟩
   ·exact hne (e.trans e'.symm)
   ·rw [ex] at hb
    rcases hkey b hb with q | q
    ·exact w.nd i j' r x' hi gx' (λe=>hn' e.symm) b q hb'
    ·have:=Rs.ok_lt (w.ok x' (List.mem_of_getElem? gx')) hb';omega
  ·rcases get j' x' hx' with ⟨e',ex'⟩ | ⟨hn',gx'⟩
   ·rw [ex'] at hb'
    rcases hkey b hb' with q | q
    ·exact w.nd j i x r gx hi hn b hb q
    ·have:=Rs.ok_lt (w.ok x (List.mem_of_getElem? gx)) hb;omega
   ·exact w.nd j j' x x' gx gx' hne b hb hb'
 ·obtain ⟨x,hx,hb⟩:=hb
  obtain ⟨j,hj⟩:=List.getElem?_of_mem hx
  rcases get j x hj with ⟨_,rfl⟩ | ⟨_,hx'⟩
  ·rcases hkey b hb with q | q
   ·exact .inl ⟨r,List.mem_of_getElem? hi,q⟩
   ·exact .inr q
  ·exact .inl ⟨x,List.mem_of_getElem? hx',hb⟩
theorem W.cons {H H':Hp} {R:List Rs} {r:Rs} (w:W H R) (hl:H.length<=H'.length) (hk:∀ b,b<H.length->H'[b]?=H[b]?) (hr:r.ok H') (hkey:∀ b,r.has b->H.length<=b) :
  W H' (r::R)/\Fr H R H' (r::R):=by
 refine ⟨⟨λx hx=>?_,λj j' x x' hx hx' hne b hb hb'=>?_⟩,⟨hl,λb hb _=>hk b hb,λb hb=>?_⟩⟩
 ·rcases List.mem_cons.1 hx with rfl | hx
  ·exact hr
  ·exact Rs.ok_keep (w.ok x hx) (λb hb=>hk b (Rs.ok_lt (w.ok x hx) hb))
 ·cases j with
  | zero=>
   cases j' with
   | zero=>exact hne rfl
   | succ j'=>
    simp only [List.getElem?_cons_zero,List.getElem?_cons_succ] at hx hx'
    cases hx
    have:=hkey b hb
    have:=Rs.ok_lt (w.ok x' (List.mem_of_getElem? hx')) hb';omega
  | succ j=>
   cases j' with
   | zero=>
    simp only [List.getElem?_cons_zero,List.getElem?_cons_succ] at hx hx'
    cases hx'
    have:=hkey b hb'
    have:=Rs.ok_lt (w.ok x (List.mem_of_getElem? hx)) hb;omega
   | succ j'=>exact w.nd j j' x x' hx hx' (λe=>hne (by rw [e])) b hb hb'
 ·obtain ⟨x,hx,hb⟩:=hb
  rcases List.mem_cons.1 hx with rfl | hx
  ·exact .inr (hkey b hb)
  ·exact .inl ⟨x,hx,hb⟩
theorem W.re {H:Hp} {R R':List Rs} (w:W H R) (f:Nat->Nat) (hf:∀ j r,R'[j]?=some r->R[f j]?=some r) (hi:∀ j j',j<R'.length->j'<R'.length->j≠j'->f j≠f j'):W H R'/\Fr H R H R':=by
 refine ⟨⟨λx hx=>?_,λj j' x x' hx hx' hne b hb hb'=>?_⟩,⟨Nat.le_refl _,λ_ _ _=>rfl,λb hb=>?_⟩⟩
 ·obtain ⟨j,hj⟩:=List.getElem?_of_mem hx
  exact w.ok x (List.mem_of_getElem? (hf j x hj))
 ·exact w.nd _ _ x x' (hf j x hx) (hf j' x' hx') (hi j j' (List.getElem?_eq_some_iff.1 hx).1 (List.getElem?_eq_some_iff.1 hx').1 hne) b hb hb'
 ·obtain ⟨x,hx,hb⟩:=hb
  obtain ⟨j,hj⟩:=List.getElem?_of_mem hx
  exact .inl ⟨x,List.mem_of_getElem? (hf j x hj),hb⟩
def nth:List Rs->Nat->Rs
 | [],_=>.blk 0 []
 | r::_,0=>r
 | _::R,n+1=>nth R n
def pks (R:List Rs):List Nat->List Rs->List Rs
 | [],T=>T
 | i::is,T=>nth R i::pks R is T
def pk (R:List Rs) (ixs:List Nat) (n:Nat):List Rs:=pks R ixs (R.drop n)
theorem afC:∀ (R:List Rs) (i:Nat),nth R i=(R[i]?).getD (.blk 0 [])
 | [],_=>by simp [nth]
 | r::_,0=>by simp [nth]
 | _::R,n+1=>by simp [nth,afC R n]
theorem arp (R:List Rs) (ixs:List Nat) (n:Nat):pk R ixs n=(ixs.map λi=>(R[i]?).getD (.blk 0 []))++R.drop n:=by
 unfold pk
 induction ixs with
 | nil=>rfl
 | cons i is ih=>rw [pks,ih,afC];rfl
theorem W.pick {H:Hp} {R:List Rs} (w:W H R) (ixs:List Nat) (n:Nat) (hn:n<=R.length) (h:decide (ixs.Nodup)=true) (h':ixs.all (·<n)=true):W H (pk R ixs n)/\Fr H R H (pk R ixs n):=by
 have h1:ixs.Nodup:=of_decide_eq_true h
 have h2:∀ i∈ixs,i<n:=λi hi=>by have:=List.all_eq_true.1 h' i hi;simpa using this
 refine w.re (λj=>if c:j<ixs.length then ixs[j] else j - ixs.length+n) (λj r hj=>?_) (λj j' hj hj' hne=>?_)
 ·rw [arp] at hj
  by_cases c:j<ixs.length
  ·rw [List.getElem?_append_left (by simpa using c),List.getElem?_map,List.getElem?_eq_getElem c] at hj
   simp only [c,dite_true,Option.map_some,Option.some.injEq] at hj ⊢
   have:=h2 _ (List.getElem_mem c)
   have hh:ixs[j]<R.length:=by omega
   rw [List.getElem?_eq_getElem hh] at hj ⊢
   simpa using hj
  ·rw [List.getElem?_append_right (by simpa using Nat.le_of_not_lt c),List.getElem?_drop] at hj
   simp only [c,dite_false]
   simp only [List.length_map] at hj
   rw [<- hj];congr 1;omega
 ·by_cases c:j<ixs.length
  ·by_cases c':j'<ixs.length
   ·simp only [c,c',dite_true]
    intro e
    exact hne (List.getElem_inj h1 |>.1 e)
   ·simp only [c,c',dite_true,dite_false]
    have:=h2 _ (List.getElem_mem c)
    omega
  ·by_cases c':j'<ixs.length
   ·simp only [c,c',dite_true,dite_false]
    have:=h2 _ (List.getElem_mem c')
    omega
   ·simp only [c,c',dite_false];omega
theorem W.right {H:Hp} {Rb R:List Rs} (w:W H (Rb++R)):W H R/\Fr H (Rb++R) H R:=
 w.re (λj=>Rb.length+j) (λj r hj=>by rw [List.getElem?_append_right (by omega)];rw [<- hj];congr 1;omega) (λj j' _ _ h e=>h (by omega))
theorem W.apart {H:Hp} {Rb R:List Rs} (w:W H (Rb++R)) {r:Rs} (hr:r∈Rb) {b:Nat} (hb:r.has b):¬ inK R b:=by
 rintro ⟨x,hx,hk⟩
 obtain ⟨i,hi⟩:=List.getElem?_of_mem hr
 obtain ⟨j,hj⟩:=List.getElem?_of_mem hx
 have hil:i<Rb.length:=(List.getElem?_eq_some_iff.1 hi).1
 exact w.nd i (Rb.length+j) r x (by rw [List.getElem?_append_left hil];exact hi) (by rw [List.getElem?_append_right (by omega),<-hj];congr 1;omega) (by omega) b hb hk
theorem W.frame {H H':Hp} {Rb R R':List Rs} (w:W H (Rb++R)) (w':W H' R') (st:Fr H R H' R'):W H' (Rb++R')/\Fr H (Rb++R) H' (Rb++R'):=by
 have hmem:∀ r∈Rb,r∈Rb++R:=λr hr=>List.mem_append_left _ hr
 have hb':∀ r∈Rb,∀ b,r.has b->b<H.length/\¬ inK R b:=λr hr b hb=>⟨Rs.ok_lt (w.ok r (hmem r hr)) hb,w.apart hr hb⟩
 have hb'':∀ r∈Rb,∀ b,r.has b->¬ inK R' b:=λr hr b hb q=>by
  obtain ⟨h1,h2⟩:=hb' r hr b hb
  rcases st.sub b q with q | q
  ·exact h2 q
  ·omega
 have hle:∀ {i:Nat} {x:Rs},(Rb++R')[i]?=some x->(i<Rb.length/\Rb[i]?=some x)\/(Rb.length<=i/\R'[i - Rb.length]?=some x):=λ{i x} hx=>by
  by_cases c:i<Rb.length
  ·rw [List.getElem?_append_left c] at hx;exact .inl ⟨c,hx⟩
  ·rw [List.getElem?_append_right (by omega)] at hx;exact .inr ⟨by omega,hx⟩
 refine ⟨⟨λx hx=>?_,λj j' x x' hx hx' hne b hb hc=>?_⟩,⟨st.len,λb hb hn=>st.keep b hb (λ⟨x,hx,hk⟩=>hn ⟨x,List.mem_append_right _ hx,hk⟩),λb hb=>?_⟩⟩
 ·rcases List.mem_append.1 hx with hx | hx
  ·exact Rs.ok_keep (w.ok x (hmem x hx)) (λb hb=>st.keep b (hb' x hx b hb).1 (hb' x hx b hb).2)
  ·exact w'.ok x hx
 ·rcases hle hx with ⟨c,hx⟩ | ⟨c,hx⟩
  ·rcases hle hx' with ⟨c',hx'⟩ | ⟨c',hx'⟩
   ·exact w.nd j j' x x' (by rw [List.getElem?_append_left c];exact hx) (by rw [List.getElem?_append_left c'];exact hx') hne b hb hc
   ·exact hb'' x (List.mem_of_getElem? hx) b hb ⟨x',List.mem_of_getElem? hx',hc⟩
  ·rcases hle hx' with ⟨c',hx'⟩ | ⟨c',hx'⟩
   ·exact hb'' x' (List.mem_of_getElem? hx') b hc ⟨x,List.mem_of_getElem? hx,hb⟩
   ·exact w'.nd _ _ x x' hx hx' (by omega) b hb hc
 ·obtain ⟨x,hx,hk⟩:=hb
  rcases List.mem_append.1 hx with hx | hx
  ·exact .inl ⟨x,hmem x hx,hk⟩
  ·rcases st.sub b ⟨x,hx,hk⟩ with ⟨y,hy,hk'⟩ | q
   ·exact .inl ⟨y,List.mem_append_right _ hy,hk'⟩
   ·exact .inr q
theorem W.cons_of {H H':Hp} {R Rn:List Rs} (w:W H R) (w':W H' (Rn++R)) (st:Fr H R H' (Rn++R)):aX H H':=by
 intro b hb
 by_cases c:inK R b
 ·obtain ⟨r,hr,hk⟩:=c
  have h1:=w.ok r hr
  have h2:=w'.ok r (List.mem_append_right _ hr)
  cases r with
  | blk b' cells=>cases hk;exact Eq.trans (show H'[b]?=_ from h2) (Eq.symm h1)
  | ow t s z pre cells rest=>exact Eq.trans (show H'[b]?=_ from Rs.key_own h2 hk) (Eq.symm (Rs.key_own h1 hk))
  | many l=>obtain ⟨q,hq,hb⟩:=hk;exact Eq.trans (show H'[b]?=_ from Et (h2.1 q hq) hb) (Eq.symm (Et (h1.1 q hq) hb))
 ·exact st.keep b hb c
structure Ety (α:Type) where
 z:Nat
 rep:Hp->List Rs->List AV->α->Prop
 len:∀ {H R c x},rep H R c x->c.length=z
 cell:∀ {H R c x},rep H R c x->∀ v∈c,v.isCell=true
 stab:∀ {H R H' R' c x},Fr H R H' R'->rep H R c x->rep H' R' c x
inductive CR {α:Type} (E:Ety α) (H:Hp) (R:List Rs):List AV->List α->Prop where
 | nil:CR E H R [] []
 | cons {c cs:List AV} {x:α} {l:List α} (h:E.rep H R c x) (t:CR E H R cs l):CR E H R (c++cs) (x::l)
section
variable {α:Type} {E:Ety α} {H H':Hp} {R R':List Rs} {cells:List AV} {l:List α}
theorem CR.step (st:Fr H R H' R') (h:CR E H R cells l):CR E H' R' cells l:=by
 induction h with
 | nil=>exact .nil
 | cons h t ih=>exact .cons (E.stab st h) ih
theorem CR.length (h:CR E H R cells l):cells.length=l.length * E.z:=by
 induction h with
 | nil=>simp
 | cons h t ih=>rw [List.length_append,ih,E.len h,List.length_cons,Nat.succ_mul];omega
theorem CR.app {cells':List AV} {l':List α} (h:CR E H R cells l) (h':CR E H R cells' l'):CR E H R (cells++cells') (l++l'):=by
 induction h with
 | nil=>exact h'
 | cons h t ih=>rw [List.append_assoc];exact .cons h ih
theorem CR.drop (h:CR E H R cells l):∀ n,CR E H R (cells.drop (n * E.z)) (l.drop n):=by
 induction h with
 | nil=>intro n;simp;exact .nil
 | @cons c cs x l h t ih=>
  intro n
  cases n with
  | zero=>simp;exact .cons h t
  | succ n=>
   have e:(c++cs).drop ((n+1) * E.z)=cs.drop (n * E.z):=by
    rw [List.drop_append,E.len h,List.drop_eq_nil_of_le (by rw [E.len h,Nat.succ_mul];omega),List.nil_append,Nat.succ_mul];congr 1;omega
   rw [e];exact ih n
theorem CR.take (h:CR E H R cells l):∀ n,CR E H R (cells.take (n * E.z)) (l.take n):=by
 induction h with
 | nil=>intro n;simp;exact .nil
 | @cons c cs x l h t ih=>
  intro n
  cases n with
  | zero=>simp;exact .nil
  | succ n=>
   have e:(c++cs).take ((n+1) * E.z)=c++cs.take (n * E.z):=by
    rw [List.take_append,E.len h,List.take_of_length_le (by rw [E.len h,Nat.succ_mul];omega),Nat.succ_mul];congr 2;omega
   rw [e];exact .cons h (ih n)
theorem CR.head {x:α} {l:List α} (h:CR E H R cells (x::l)):E.rep H R (cells.take E.z) x:=by
 cases h with
 | @cons c cs _ _ h t=>rw [List.take_append,E.len h,List.take_of_length_le (by rw [E.len h];omega)];simpa using h
theorem CR.chunk (h:CR E H R cells l) {n:Nat} {x:α} (hx:l[n]?=some x):E.rep H R ((cells.drop (n * E.z)).take E.z) x:=by
 have h1:=h.drop n
 have hlt:n<l.length:=(List.getElem?_eq_some_iff.1 hx).1
 rw [List.drop_eq_getElem_cons hlt] at h1
 have h2:=h1.head
 rw [List.getElem?_eq_getElem hlt] at hx
 cases hx;exact h2
theorem CR.set (h:CR E H R cells l):∀ {n j:Nat} {v:AV} {x':α},n<l.length->j<E.z->E.rep H R (((cells.drop (n * E.z)).take E.z).set j v) x'->CR E H R (cells.set (n * E.z+j) v) (l.set n x'):=by
 induction h with
 | nil=>intro n j v x' hn;simp at hn
 | @cons c cs x l h t ih=>
  intro n j v x' hn hj hr
  cases n with
  | zero=>
   have e:((c++cs).drop (0 * E.z)).take E.z=c:=by rw [Nat.zero_mul,List.drop_zero,List.take_append,E.len h,List.take_of_length_le (by rw [E.len h];omega)];simp
   rw [e] at hr
   have:(c++cs).set (0 * E.z+j) v=c.set j v++cs:=by rw [Nat.zero_mul,Nat.zero_add,List.set_append_left _ _ (by rw [E.len h];exact hj)]
   rw [this];exact .cons hr t
  | succ n=>
   have e:((c++cs).drop ((n+1) * E.z))=cs.drop (n * E.z):=by
    rw [List.drop_append,E.len h,List.drop_eq_nil_of_le (by rw [E.len h,Nat.succ_mul];omega),List.nil_append,Nat.succ_mul];congr 1;omega
   rw [e] at hr
   have:(c++cs).set ((n+1) * E.z+j) v=c++cs.set (n * E.z+j) v:=by
    rw [List.set_append_right _ _ (by rw [E.len h,Nat.succ_mul];omega),E.len h,Nat.succ_mul];congr 2;omega
   rw [this];exact .cons h (ih (by simpa using hn) hj hr)
theorem CR.zrow {c:List AV} {x:α} (h:E.rep H R c x):∀ n,CR E H R (zrow n c) (List.replicate n x):=by
 intro n
 rw [Lw]
 induction n with
 | zero=>exact .nil
 | succ n ih=>rw [List.replicate_succ,List.flatten_cons,List.replicate_succ];exact .cons h ih
end
structure ROs {α:Type} (E:Ety α) (H:Hp) (R:List Rs) (s:Sl) (l:List α):Prop where
 n:s.n=l.length
 fit:s.fits E.z
 ex:∃ cells,CR E H R cells l/\Sl.row H s E.z=some cells/\∀ p,s.n≠0->s.a=some p->p.1<H.length/\¬ inK R p.1
theorem Sl.row_keep {H H':Hp} {s:Sl} {z:Nat} (h:∀ p,s.n≠0->s.a=some p->H'[p.1]?=H[p.1]?):Sl.row H' s z=Sl.row H s z:=by
 unfold Sl.row
 split
 ·rfl
 ·rename_i hn
  split
  ·rename_i p hp;unfold Hp.row;rw [h p hn (Sl.ad_some hp).1]
  ·rfl
theorem Sl.ad_ex {s:Sl} {c:Nat} (h:s.c=.ex c):s.ad=s.a:=by unfold Sl.ad;rw [h]
theorem Sl.ad_full {s:Sl} {c:Nat} (h:s.c=.full c):s.ad=s.a:=by unfold Sl.ad;rw [h]
theorem ROs.ad {α:Type} {E:Ety α} {H:Hp} {R:List Rs} {s:Sl} {l:List α} (h:ROs E H R s l) (hn:s.n≠0):s.ad=s.a:=by
 have hf:=h.fit
 cases hc:s.c with
 | ex c=>exact Sl.ad_ex hc
 | full c=>exact Sl.ad_full hc
 | tip z o=>unfold Sl.fits at hf;rw [hc] at hf;exact absurd hf.2.2 hn
theorem arq {pre cells rest:List AV} {i:Nat} (h:i<cells.length):(pre++cells++rest)[pre.length+i]?=cells[i]?:=by
 rw [List.append_assoc,List.getElem?_append_right (by omega),Nat.add_sub_cancel_left,List.getElem?_append_left h]
theorem ars {pre cells rest:List AV} {i:Nat} {v:AV} (h:i<cells.length):(pre++cells++rest).set (pre.length+i) v=pre++cells.set i v++rest:=by
 rw [List.append_assoc,List.set_append_right _ _ (by omega),Nat.add_sub_cancel_left,List.set_append_left _ _ h,<-List.append_assoc]
theorem Rs.full {H:Hp} {t:Bool} {s:Sl} {z:Nat} {pre cells rest:List AV} (h:Rs.ok H (.ow t s z pre cells rest)) (hn:s.n≠0) :
  ∃ p,s.a=some p/\s.ad=some p/\p.2=pre.length/\At H p.1 (pre++cells++rest)/\lvs t s=true:=by
 obtain ⟨h1,h2,h3,h4,h5⟩:=h
 have hl:lvs t s=true:=by
  cases e:lvs t s with
  | true=>rfl
  | false=>exact absurd (h3 e) hn
 obtain ⟨p,g1,g2,g3,g4⟩:=h4 hl
 exact ⟨p,g1,by rw [g2,g1],g3,g4,hl⟩
theorem ROs.step {α:Type} {E:Ety α} {H H':Hp} {R R':List Rs} {s:Sl} {l:List α} (st:Fr H R H' R') (h:ROs E H R s l):ROs E H' R' s l:=by
 obtain ⟨hn,hf,cells,hc,hr,ho⟩:=h
 refine ⟨hn,hf,cells,hc.step st,?_,λp h0 hp=>⟨Nat.lt_of_lt_of_le (ho p h0 hp).1 st.len,λq=>?_⟩⟩
 ·rw [Sl.row_keep λp h0 hp=>st.keep _ (ho p h0 hp).1 (ho p h0 hp).2];exact hr
 ·rcases st.sub _ q with q | q
  ·exact (ho p h0 hp).2 q
  ·have:=(ho p h0 hp).1;omega
def fz (k:IntKind):Ety Int:=⟨1,λ_ _ c x=>c=[.int k x],λh=>by rw [h];rfl,λh v hv=>by rw [h] at hv;cases List.mem_singleton.1 hv;rfl,λ_ h=>h⟩
abbrev eI:=fz .i64
end Go.AE
end
section
namespace Go.AE
def ix {α:Type} (l:List α) (i:Int):Option Nat:=if 0<=i/\i<l.length then some i.toNat else none
def gt {α:Type} [Inhabited α] (l:List α) (n:Nat):α:=l.getD n default
def apn {α:Type} (l xs:List α):Option (List α):=if l.length+xs.length<=4294967296 then some (l++xs) else none
def mkn {α:Type} (n:Int) (x:α):Option (List α):=if 0<=n/\n<=4294967296 then some (List.replicate n.toNat x) else none
def mL {α:Type} (l:List α) (a b:Int):Option (List α):=if 0<=a/\a<=b/\b<=l.length/\a<l.length then some ((l.take b.toNat).drop a.toNat) else none
def cutf {α:Type} (l:List α) (a b:Int):Option (List α):=if 0<=a/\a<=b/\b<=l.length then some ((l.take b.toNat).drop a.toNat) else none
abbrev Rt (x:OA) (Q:AV->Hp->Prop):Prop:=∃ v H',x=some (v,H')/\Q v H'
theorem aA {α:Type} {x:Option α} {a:α} {K:α->OA} {Q:AV->Hp->Prop} (h:x=some a) (g:∃ v H',K a=some (v,H')/\Q v H'):∃ v H',x.bind K=some (v,H')/\Q v H':=by
 rw [h];exact g
theorem Lp {x:OA} {K:AV×Hp->OA} {Q:AV->Hp->Prop} (h:∃ u H1,x=some (u,H1)/\∃ v H',K (u,H1)=some (v,H')/\Q v H'):∃ v H',x.bind K=some (v,H')/\Q v H':=by
 obtain ⟨u,H1,e,g⟩:=h;rw [e];exact g
theorem Lr {c:Bool} {x y:OA} {Q:AV->Hp->Prop} (h1:c=true->∃ v H',x=some (v,H')/\Q v H') (h2:c=false->∃ v H',y=some (v,H')/\Q v H'):∃ v H',(bif c then x else y)=some (v,H')/\Q v H':=by
 cases c with
 | true=>exact h1 rfl
 | false=>exact h2 rfl
theorem nW {c:Prop} [Decidable c] {x:OA} {Q:AV->Hp->Prop} (h:¬ c) (g:∃ v H',x=some (v,H')/\Q v H'):∃ v H',(if c then none else x)=some (v,H')/\Q v H':=by
 rw [if_neg h];exact g
theorem fU {c:Prop} [Decidable c] {x:OA} {Q:AV->Hp->Prop} (h:c) (g:∃ v H',x=some (v,H')/\Q v H'):∃ v H',(if c then x else none)=some (v,H')/\Q v H':=by
 rw [if_pos h];exact g
theorem aH {c:Bool} {ρ:Type} {px py:Option ρ} {r:ρ} {x y:OA} {Q:AV->Hp->Prop} (hp:(bif c then px else py)=some r) (f:px=some r->∃ v H',x=some (v,H')/\Q v H') (g:py=some r->∃ v H',y=some (v,H')/\Q v H'):∃ v H',(bif c then x else y)=some (v,H')/\Q v H':=by
 cases c
 ·exact g hp
 ·exact f hp
theorem aP {ρ:Type} {a r:ρ} {v:AV} {H:Hp} {Q:ρ->AV->Hp->Prop} (hp:some a=some r) (q:Q a v H):∃ v' H',some (v,H)=some (v',H')/\Q r v' H':=by
 obtain rfl:=Option.some.inj hp
 exact ⟨v,H,rfl,q⟩
theorem Vu {c:Prop} {x:OA} {Q:AV->Hp->Prop} (h:c) (g:∃ v H',x=some (v,H')/\Q v H'):∃ v H',ifW c x=some (v,H')/\Q v H':=by
 unfold ifW;rw [if_pos h];exact g
theorem vU (v:AV) (H:Hp):qj v H v H=some ():=by unfold qj;exact if_pos ⟨rfl,rfl⟩
theorem vT {α β:Type} {x:Option α} {a:α} {f:α->Option β} {r:Option β} (h:x=some a) (g:f a=r):x.bind f=r:=by subst h;exact g
theorem nV {α:Type} {c:Prop} [Decidable c] {x:Option α} {r:α} (h:(if c then none else x)=some r):¬ c/\x=some r:=by
 split at h
 ·cases h
 ·exact ⟨by assumption,h⟩
theorem qm {α:Type} {c:Prop} [Decidable c] {x:Option α} {r:α} (h:(if c then x else none)=some r):c/\x=some r:=by
 split at h
 ·exact ⟨by assumption,h⟩
 ·cases h
theorem VR {α:Type} {l:List α} {i:Int} {n:Nat} (h:ix l i=some n):n<l.length/\(n:Int)=i:=by
 unfold ix at h;obtain ⟨⟨h0,h1⟩,h2⟩:=qm h;cases h2;omega
theorem wg {α:Type} [Inhabited α] {l:List α} {n:Nat} (h:n<l.length):l[n]?=some (gt l n):=by
 unfold gt;rw [List.getD_eq_getElem?_getD,List.getElem?_eq_getElem h];rfl
theorem cy {H:Hp} {b o:Nat} {k:IntKind} {n:Int} (h:H.cell b o=some (.int k n)):H.ldI k b o=some n:=by unfold Hp.ldI;rw [h];simp [AV.asI]
theorem arw {H:Hp} {b o:Nat} {n:Bool} (h:H.cell b o=some (.bool n)):H.ldB b o=some n:=by unfold Hp.ldB;rw [h];rfl
theorem mK {H:Hp} {b o:Nat} {n:Sl} (h:H.cell b o=some (.sl n)):H.ldSl b o=some n:=by unfold Hp.ldSl;rw [h];rfl
section
variable {H:Hp} {R:List Rs}
theorem getElem?_app_lt {H:Hp} {x:Blk} {b:Nat} (h:b<H.length):(H++[x])[b]?=H[b]?:=List.getElem?_append_left h
theorem W.new (w:W H R) (cells:List AV):∃ H',Hp.new H cells=some H'/\W H' (.blk H.length cells::R)/\Fr H R H' (.blk H.length cells::R):=
 ⟨_,rfl,w.cons (by simp) (λb hb=>getElem?_app_lt hb) (At.new H cells) (λb hb=>by cases hb;exact Nat.le_refl _)⟩
theorem Rs.ok_new {H:Hp} {cells:List AV} {n z:Nat} (h:cells.length=n * z) (hz:0<z):Rs.ok (H++[⟨cells,true,true⟩]) (.own ⟨some (H.length,0),n,.ex n⟩ z cells):=
 ⟨h,hz,λe=>by cases n with
  | zero=>rfl
  | succ n=>simp [lvs] at e,λ_=>⟨_,rfl,rfl,rfl,by simpa using At.new H cells⟩,Nat.le_refl n,λ_=>⟨rfl,rfl,λ_=>.inr rfl⟩⟩
theorem W.newS (w:W H R) (cells:List AV) (n z:Nat) (h:cells.length=n * z) (hz:0<z) :
  ∃ H',Hp.new H cells=some H'/\W H' (.own ⟨some (H.length,0),n,.ex n⟩ z cells::R)/\Fr H R H' (.own ⟨some (H.length,0),n,.ex n⟩ z cells::R):=
 ⟨_,rfl,w.cons (by simp) (λb hb=>getElem?_app_lt hb) (Rs.ok_new h hz) (λb hb=>by obtain ⟨_,hb⟩:=wc (show jo _ _=some b from hb);cases hb;exact Nat.le_refl _)⟩
theorem W.mk_ (w:W H R) {i b n z:Nat} {cells:List AV} (hi:R[i]?=some (.own ⟨some (b,0),n,.ex n⟩ z cells)) (hn:Nat.blt 0 n=true) (hint:∀ u∈cells,∃ k x,u=AV.int k x) :
  Bs (some (.sl ⟨some (0,0),n,.ex n⟩,[⟨cells,true,true⟩])) (.sl ⟨some (b,0),n,.ex n⟩) H:=by
 have hn:0<n:=Nat.le_of_ble_eq_true hn
 obtain ⟨_,_,_,h4,_⟩:=w.ok _ (List.mem_of_getElem? hi)
 obtain ⟨p,q1,_,_,q4⟩:=h4 (by unfold lvs;simp;omega)
 cases q1
 refine ⟨b,n,cells,rfl,rfl,hint,.inr ?_⟩
 have:At H b cells:=by simpa using q4
 exact this
theorem aqA {H:Hp} {n:Nat} {cells:List AV} (hint:∀ u∈cells,∃ k x,u=AV.int k x):Bs (some (.sl ⟨some (0,0),n,.ex n⟩,[⟨cells,true,true⟩])) (.sl ⟨some (H.length,0),n,.ex n⟩) H:=
 ⟨_,n,cells,rfl,rfl,hint,.inl (Nat.le_refl _)⟩
theorem W.nilS (w:W H R) (z:Nat) (hz:0<z):W H (.own ⟨none,0,.ex 0⟩ z []::R)/\Fr H R H (.own ⟨none,0,.ex 0⟩ z []::R):=
 w.cons (Nat.le_refl _) (λ_ _=>rfl) ⟨by simp,hz,λ_=>rfl,λh=>by simp [lvs] at h,Nat.le_refl 0,λ_=>⟨rfl,rfl,λh=>by simp [lvs] at h⟩⟩ (λb hb=>by obtain ⟨hc,hb⟩:=wc (show jo _ _=some b from hb);cases hb)
theorem W.at_ (w:W H R) {i:Nat} {b:Nat} {cells:List AV} (hi:R[i]?=some (.blk b cells)):At H b cells:=w.ok _ (List.mem_of_getElem? hi)
theorem W.ld (w:W H R) {i:Nat} {b:Nat} {cells:List AV} {o:Nat} {v:AV} (hi:R[i]?=some (.blk b cells)) (hv:cells[o]?=some v):H.cell b o=some v:=by
 rw [(w.at_ hi).cell];exact hv
theorem W.st (w:W H R) {i:Nat} {b:Nat} {cells:List AV} {o:Nat} {v:AV} (hi:R[i]?=some (.blk b cells)) (ho:o<cells.length) (hv:v.isCell=true) :
  ∃ H',H.st b o v=some H'/\W H' (R.set i (.blk b (cells.set o v)))/\Fr H R H' (R.set i (.blk b (cells.set o v))):=by
 obtain ⟨e1,e2⟩:=(w.at_ hi).st ho hv
 exact ⟨_,e1,w.upd hi (by simp) (λc _ hc=>by rw [List.getElem?_set_ne (λq=>hc (by rw [q];rfl))]) e2 (λc hc=>.inl hc)⟩
theorem W.own_n (w:W H R) {i:Nat} {α:Type} {E:Ety α} {t:Bool} {s:Sl} {pre cells rest:List AV} {l:List α} (hi:R[i]?=some (.ow t s E.z pre cells rest)) (cr:CR E H R cells l):s.n=l.length:=by
 obtain ⟨h1,h2,_⟩:=w.ok _ (List.mem_of_getElem? hi)
 have h3:=cr.length
 rw [h1] at h3
 exact Nat.eq_of_mul_eq_mul_right h2 h3
theorem row_cell {H:Hp} {b o n:Nat} {cells:List AV} (h:H.row b o n=some cells) {j:Nat} {v:AV} (hv:cells[j]?=some v):H.cell b (o+j)=some v:=by
 unfold Hp.row at h
 split at h
 ·rename_i k hk
  obtain ⟨h1,h2⟩:=qm h
  cases h2
  simp only [Bool.and_eq_true,decide_eq_true_eq] at h1
  unfold Hp.cell
  simp only [hk,h1.1,if_true]
  rw [List.getElem?_take] at hv
  split at hv
  ·rw [List.getElem?_drop] at hv;exact hv
  ·cases hv
 ·cases h
theorem afD {cells:List AV} {n z j:Nat} {v:AV} (h:((cells.drop (n * z)).take z)[j]?=some v):cells[n * z+j]?=some v/\j<z:=by
 rw [List.getElem?_take] at h
 split at h
 ·rw [List.getElem?_drop] at h;exact ⟨h,by assumption⟩
 ·cases h
theorem W.ixo (w:W H R) {i:Nat} {α:Type} [Inhabited α] {E:Ety α} {t:Bool} {s:Sl} {z:Nat} {pre cells rest:List AV} {l:List α} {k:Int} {n:Nat} (hi:R[i]?=some (.ow t s E.z pre cells rest)) (hz:z=E.z) (cr:CR E H R cells l) (hn:ix l k=some n) :
  ∃ p cs,Sl.idx s k z=some p/\E.rep H R cs (gt l n)/\∀ j v,cs[j]?=some v->H.cell p.1 (p.2+j)=some v:=by
 subst hz
 have hsn:=w.own_n hi cr
 have hok:=w.ok _ (List.mem_of_getElem? hi)
 obtain ⟨g1,g2⟩:=VR hn
 have g3:=cr.chunk (wg g1)
 obtain ⟨p,e1,e2,e3,e4,_⟩:=Rs.full hok (by omega)
 refine ⟨(p.1,p.2+k.toNat * E.z),_,?_,g3,λj v hj=>?_⟩
 ·unfold Sl.idx
  rw [if_pos ⟨by omega,by omega⟩,e2];rfl
 ·obtain ⟨q1,q2⟩:=afD hj
  have:k.toNat=n:=by omega
  simp only [this]
  rw [e4.cell,e3,Nat.add_assoc,arq (List.getElem?_eq_some_iff.1 q1).1];exact q1
theorem ROs.ixr {α:Type} [Inhabited α] {E:Ety α} {s:Sl} {z:Nat} {l:List α} {k:Int} {n:Nat} (h:ROs E H R s l) (hz:z=E.z) (hn:ix l k=some n) :
  ∃ p cs,Sl.idx s k z=some p/\E.rep H R cs (gt l n)/\∀ j v,cs[j]?=some v->H.cell p.1 (p.2+j)=some v:=by
 subst hz
 have had:=h.ad
 obtain ⟨hsn,hf,cells,cr,hrow,ho⟩:=h
 obtain ⟨g1,g2⟩:=VR hn
 have g3:=cr.chunk (wg g1)
 obtain ⟨a,m,c⟩:=s
 unfold Sl.row at hrow
 simp only at hsn hrow had
 rw [if_neg (by omega),had (by omega)] at hrow
 cases a with
 | none=>cases hrow
 | some p=>
  refine ⟨(p.1,p.2+k.toNat * E.z),_,?_,g3,λj v hj=>?_⟩
  ·unfold Sl.idx
   simp only at hsn ⊢
   rw [if_pos ⟨by omega,by omega⟩,had (by omega)];rfl
  ·obtain ⟨q1,q2⟩:=afD hj
   have:k.toNat=n:=by omega
   simp only [this]
   rw [Nat.add_assoc];exact row_cell hrow q1
theorem W.sto (w:W H R) {i:Nat} {α:Type} [Inhabited α] {E:Ety α} {t:Bool} {s:Sl} {z:Nat} {pre cells rest:List AV} {l:List α} {k:Int} {n j:Nat} {p:Nat×Nat} {v:AV} {x':α} (hi:R[i]?=some (.ow t s E.z pre cells rest)) (hz:z=E.z) (cr:CR E H R cells l)
  (hn:(n:Int)=k) (hnl:n<l.length) (hp:Sl.idx s k z=some p) (hj:j<E.z) (hv:v.isCell=true) (hr:∀ cs,E.rep H R cs (gt l n)->E.rep H R (cs.set j v) x') :
  ∃ H' cells',H.st p.1 (p.2+j) v=some H'/\W H' (R.set i (.ow t s E.z pre cells' rest))/\Fr H R H' (R.set i (.ow t s E.z pre cells' rest))/\CR E H' (R.set i (.ow t s E.z pre cells' rest)) cells' (l.set n x'):=by
 subst hz
 have hsn:=w.own_n hi cr
 have hok:=w.ok _ (List.mem_of_getElem? hi)
 obtain ⟨q,e1,e2,e3,e4,e5⟩:=Rs.full hok (by omega)
 obtain ⟨h1,h2,h3,h4,h5,h6⟩:=hok
 unfold Sl.idx at hp
 obtain ⟨_,hp⟩:=qm hp
 rw [e2] at hp
 cases hp
 have hk:k.toNat=n:=by omega
 have hlt:n * E.z+j<cells.length:=by
  rw [cr.length]
  have:(n+1) * E.z<=l.length * E.z:=Nat.mul_le_mul_right _ hnl
  rw [Nat.succ_mul] at this;omega
 obtain ⟨s1,s2⟩:=e4.st (o:=pre.length+(n * E.z+j)) (v:=v) (by simp only [List.length_append];omega) hv
 rw [ars hlt] at s1 s2
 have key:=w.upd (H':=H.set q.1 ⟨pre++cells.set (n * E.z+j) v++rest,true,true⟩) (r':=.ow t s E.z pre (cells.set (n * E.z+j) v) rest) hi (by simp) (λb _ hb=>by rw [List.getElem?_set_ne (λe=>hb (by rw [<- e];show jo _ _=_;rw [rZ e5,e1];rfl))])
  ⟨by rw [List.length_set];exact h1,h2,h3,λ_=>⟨q,e1,by rw [e2,e1],e3,s2⟩,h5,h6⟩ (λb hb=>.inl hb)
 refine ⟨_,_,?_,key.1,key.2,?_⟩
 ·simp only [hk,e3,Nat.add_assoc];exact s1
 ·exact (cr.set hnl hj (hr _ (cr.chunk (wg hnl)))).step key.2
theorem ary {α:Type} {n:Int} {x:α} {l:List α} (h:mkn n x=some l):(0<=n/\n<=4294967296)/\l=List.replicate n.toNat x:=by
 unfold mkn at h;obtain ⟨h1,h2⟩:=qm h;cases h2;exact ⟨h1,rfl⟩
theorem W.mkS (w:W H R) {α:Type} {E:Ety α} {zero:List AV} {bytes:Nat} {n:Int} {x:α} {l:List α} (hx:E.rep H R zero x) (hz:0<E.z) (hb:bytes<=16384) (hl:mkn n x=some l) :
  ∃ H' cells,Hp.mk H zero bytes n n=some (⟨some (H.length,0),l.length,.ex l.length⟩,H')/\W H' (.own ⟨some (H.length,0),l.length,.ex l.length⟩ E.z cells::R)/\Fr H R H' (.own ⟨some (H.length,0),l.length,.ex l.length⟩ E.z cells::R) /\
   CR E H' (.own ⟨some (H.length,0),l.length,.ex l.length⟩ E.z cells::R) cells l:=by
 obtain ⟨⟨h0,h1⟩,rfl⟩:=ary hl
 have key:=w.cons (H':=H++[⟨zrow n.toNat zero,true,true⟩]) (r:=.own ⟨some (H.length,0),(List.replicate n.toNat x).length,.ex (List.replicate n.toNat x).length⟩ E.z (zrow n.toNat zero)) (by simp) (λb hb=>getElem?_app_lt hb)
  (Rs.ok_new (by rw [El,E.len hx,List.length_replicate]) hz) (λb hb=>by obtain ⟨_,hb⟩:=wc (show jo _ _=some b from hb);cases hb;exact Nat.le_refl _)
 refine ⟨_,_,?_,key.1,key.2,(CR.zrow hx _).step key.2⟩
 unfold Hp.mk
 have:n * (bytes:Int)<=4294967296 * 16384:=by
  have a1:n * (bytes:Int)<=n * 16384:=Int.mul_le_mul_of_nonneg_left (by omega) h0
  omega
 rw [if_pos ⟨h0,Int.le_refl _,by omega,by omega⟩]
 simp
theorem aeQ {α:Type} {l m x:List α} (h:apn l m=some x):l.length+m.length<=4294967296/\x=l++m:=by
 unfold apn at h;obtain ⟨h1,h2⟩:=qm h;cases h2;exact ⟨h1,rfl⟩
theorem W.app (w:W H R) {i:Nat} {α:Type} {E:Ety α} {s:Sl} {z bytes n:Nat} {cells xs:List AV} {l m x:List α} (hi:R[i]?=some (.own s E.z cells)) (hz:z=E.z) (cr:CR E H R cells l) (hm:CR E H R xs m) (hn:n=m.length) (hb:bytes<=16384) (hx:apn l m=some x) :
  ∃ a c H',Hp.app H z bytes s n xs=some (⟨a,x.length,c⟩,H')/\W H' (R.set i (.own ⟨a,x.length,c⟩ E.z (cells++xs)))/\Fr H R H' (R.set i (.own ⟨a,x.length,c⟩ E.z (cells++xs))) /\
   CR E H' (R.set i (.own ⟨a,x.length,c⟩ E.z (cells++xs))) (cells++xs) x/\((∃ c,s.c=.ex c)->aX H H'):=by
 subst hz hn
 obtain ⟨hlen,rfl⟩:=aeQ hx
 have hsn:=w.own_n hi cr
 have hxl:=hm.length
 have hxx:(l++m).length=s.n+m.length:=by rw [List.length_append,hsn]
 obtain ⟨h1,h2,h3,h4,h5,h6⟩:=w.ok _ (List.mem_of_getElem? hi)
 obtain ⟨_,_,h6⟩:=h6 rfl
 have hcond:(s.n+m.length) * bytes<=70368744177664/\s.n+m.length<=70368744177664/\bytes<=70368744177664/\0<E.z:=by
  refine ⟨?_,by omega,by omega,h2⟩
  have:=Nat.mul_le_mul (show s.n+m.length<=4294967296 by omega) hb
  omega
 obtain ⟨a,sn,c⟩:=s
 simp only at hsn hxx h1 h3 hcond h6
 have same:∀ (hm0:m=[]) (c':Cap),Hp.app H E.z bytes ⟨a,sn,c⟩ m.length xs=some (⟨a,sn+m.length,c⟩,H) ->
   ∃ a' c' H',Hp.app H E.z bytes ⟨a,sn,c⟩ m.length xs=some (⟨a',(l++m).length,c'⟩,H')/\W H' (R.set i (.own ⟨a',(l++m).length,c'⟩ E.z (cells++xs)))/\Fr H R H' (R.set i (.own ⟨a',(l++m).length,c'⟩ E.z (cells++xs))) /\
   CR E H' (R.set i (.own ⟨a',(l++m).length,c'⟩ E.z (cells++xs))) (cells++xs) (l++m)/\((∃ k,c=.ex k)->aX H H'):=λhm0 _ e=>by
  subst hm0
  have hxs:xs=[]:=List.length_eq_zero_iff.1 (by simpa using hxl)
  subst hxs
  have hr:(R.set i (.own ⟨a,(l++[]).length,c⟩ E.z (cells++[])))=R:=by
   rw [List.append_nil,List.append_nil]
   apply List.ext_getElem?
   intro j
   by_cases ej:i=j
   ·subst ej;rw [List.getElem?_set_self (List.getElem?_eq_some_iff.1 hi).1,hi,hsn]
   ·rw [List.getElem?_set_ne ej]
  refine ⟨a,c,H,?_,?_,?_,?_,λ_=>aX.refl H⟩
  ·rw [e,hxx]
  ·rw [hr];exact w
  ·rw [hr];exact Fr.refl _ _
  ·rw [hr,List.append_nil,List.append_nil];exact cr
 have big:∀ (H1:Hp),(H1=H\/¬ ∃ k,c=.ex k)->H.length=H1.length->(∀ b,b<H.length->¬ Rs.has (.own ⟨a,sn,c⟩ E.z cells) b->H1[b]?=H[b]?)->Hp.app H E.z bytes ⟨a,sn,c⟩ m.length xs=some (⟨some (H.length,0),sn+m.length,.full E.z⟩,H1++[⟨cells++xs,true,true⟩]) ->
   ∃ a' c' H',Hp.app H E.z bytes ⟨a,sn,c⟩ m.length xs=some (⟨a',(l++m).length,c'⟩,H')/\W H' (R.set i (.own ⟨a',(l++m).length,c'⟩ E.z (cells++xs)))/\Fr H R H' (R.set i (.own ⟨a',(l++m).length,c'⟩ E.z (cells++xs))) /\
   CR E H' (R.set i (.own ⟨a',(l++m).length,c'⟩ E.z (cells++xs))) (cells++xs) (l++m)/\((∃ k,c=.ex k)->aX H H'):=λH1 hx1 hl1 hk1 e=>by
  have hat:At (H1++[⟨cells++xs,true,true⟩]) H.length (cells++xs):=by rw [hl1];exact At.new H1 _
  have key:=w.upd (H':=H1++[⟨cells++xs,true,true⟩]) (r':=.own ⟨some (H.length,0),(l++m).length,.full E.z⟩ E.z (cells++xs)) hi (by simp [hl1]) (λb hb hne=>by
    rw [List.getElem?_append_left (by omega)];exact hk1 b hb hne)
   ⟨by rw [List.length_append,h1,hxl,hxx,Nat.add_mul],h2,(λe=>by simp [lvs] at e),λ_=>⟨_,rfl,rfl,rfl,by simpa using hat⟩,⟨rfl,rfl⟩,λ_=>⟨rfl,rfl,λ_=>.inl rfl⟩⟩ (λb hb=>by obtain ⟨_,hb⟩:=wc (show jo _ _=some b from hb);cases hb;exact .inr (Nat.le_refl _))
  refine ⟨_,_,_,?_,key.1,key.2,?_,λhc=>?_⟩
  ·rw [e,hxx]
  ·exact (cr.app hm).step key.2
  ·rcases hx1 with hx1 | hx1
   ·rw [hx1];exact aX.snoc H _
   ·exact absurd hc hx1
 have hpos:m≠[]->0<m.length:=λh=>List.length_pos_iff.2 h
 by_cases hcx:c=.ex 0
 ·have g1:sn=0:=h3 (by simp [lvs,hcx])
  subst g1 hcx
  have hc0:cells=[]:=List.length_eq_zero_iff.1 (by simpa using h1)
  by_cases hm0:m=[]
  ·refine same hm0 (.ex 0) ?_
   unfold Hp.app
   rw [if_pos hcond]
   subst hm0
   have hxs:xs=[]:=List.length_eq_zero_iff.1 (by simpa using hxl)
   subst hxs
   cases a <;> simp [stN]
  ·refine big H (.inl rfl) rfl (λ_ _ _=>rfl) ?_
   unfold Hp.app
   rw [if_pos hcond]
   have:=hpos hm0
   simp only
   rw [if_neg (by omega)]
   simp [Sl.row,hc0]
 ·have hlv:lvs true ⟨a,sn,c⟩=true:=by simp [lvs,hcx]
  obtain ⟨p,ep,_,g1,g2⟩:=h4 hlv
  have g3:=h6 hlv
  rw [List.nil_append,List.append_nil] at g2
  simp only [List.length_nil] at g1
  have ep:a=some p:=ep
  subst ep
  have hrow:Sl.row H ⟨some p,sn,c⟩ E.z=some cells:=by
   unfold Sl.row
   by_cases hs0:sn=0
   ·rw [if_pos hs0,List.length_eq_zero_iff.1 (show cells.length=0 by rw [h1,hs0,Nat.zero_mul])]
   ·have e:Sl.ad ⟨some p,sn,c⟩=some p:=by rcases g3 with rfl | rfl <;> rfl
    rw [if_neg hs0,e]
    unfold Hp.row
    simp only
    rw [show H[p.1]?=some ⟨cells,true,true⟩ from g2]
    simp [g1,h1,List.take_of_length_le (Nat.le_of_eq h1)]
  rcases g3 with rfl | rfl
  ·by_cases hm0:m=[]
   ·refine same hm0 (.ex 0) ?_
    unfold Hp.app
    rw [if_pos hcond]
    subst hm0
    have hxs:xs=[]:=List.length_eq_zero_iff.1 (by simpa using hxl)
    subst hxs
    have hown:H.ownc p.1=some cells:=by unfold Hp.ownc;rw [show H[p.1]?=some ⟨cells,true,true⟩ from g2];rfl
    simp only [Option.bind_some,hown,if_true,List.length_nil,Nat.add_zero,g1,Nat.zero_add]
    rw [if_pos (by omega)]
    simp [stN]
   ·refine big (H.kill p.1) (.inr (λ⟨k,hk⟩=>by cases hk)) (Hp.kill_length _ _).symm (λb hb hne=>?_) ?_
    ·exact (Hp.kill_keep H p.1).2 b hb (λe=>hne (by rw [e];show jo _ _=_;rw [rZ hlv];rfl))
    ·unfold Hp.app
     rw [if_pos hcond]
     have hown:H.ownc p.1=some cells:=by unfold Hp.ownc;rw [show H[p.1]?=some ⟨cells,true,true⟩ from g2];rfl
     have:=hpos hm0
     have hz1:1 * E.z<=m.length * E.z:=Nat.mul_le_mul_right _ this
     simp only [Option.bind_some,hown,if_true,g1,Nat.zero_add]
     rw [if_neg (by rw [Nat.add_mul];omega),if_pos h1.symm]
     simp
  ·by_cases hm0:m=[]
   ·refine same hm0 (.ex 0) ?_
    unfold Hp.app
    rw [if_pos hcond]
    subst hm0
    have hxs:xs=[]:=List.length_eq_zero_iff.1 (by simpa using hxl)
    subst hxs
    simp [stN]
   ·refine big H (.inl rfl) rfl (λ_ _ _=>rfl) ?_
    unfold Hp.app
    rw [if_pos hcond]
    have:=hpos hm0
    simp only
    rw [if_neg (by omega)]
    simp [hrow]
theorem W.rowo (w:W H R) {i:Nat} {t:Bool} {s:Sl} {z:Nat} {pre cells rest:List AV} (hi:R[i]?=some (.ow t s z pre cells rest)):Sl.row H s z=some cells:=by
 have hok:=w.ok _ (List.mem_of_getElem? hi)
 have h1:=hok.1
 unfold Sl.row
 by_cases hs0:s.n=0
 ·rw [if_pos hs0,List.length_eq_zero_iff.1 (show cells.length=0 by rw [h1,hs0,Nat.zero_mul])]
 ·obtain ⟨p,e1,e2,e3,e4,_⟩:=Rs.full hok hs0
  rw [if_neg hs0,e2]
  unfold Hp.row
  simp only
  rw [show H[p.1]?=some ⟨pre++cells++rest,true,true⟩ from e4]
  simp only [Bool.true_and,e3,<-h1]
  rw [if_pos (by simp),List.append_assoc,List.drop_append_of_le_length (Nat.le_refl _),List.drop_length,List.nil_append,List.take_left]
theorem ROs.row {α:Type} {E:Ety α} {s:Sl} {l:List α} (h:ROs E H R s l) {z:Nat} (hz:z=E.z):∃ cells,Sl.row H s z=some cells/\CR E H R cells l:=by
 subst hz
 obtain ⟨hsn,hf,cells,cr,hrow,ho⟩:=h
 exact ⟨cells,hrow,cr⟩
theorem W.borrow {Rb:List Rs} (w:W H (Rb++R)) {i:Nat} {α:Type} {E:Ety α} {t:Bool} {s:Sl} {pre cells rest:List AV} {l:List α} (hi:Rb[i]?=some (.ow t s E.z pre cells rest)) (cr:CR E H (Rb++R) cells l):ROs E H R s l:=by
 have hil:i<Rb.length:=(List.getElem?_eq_some_iff.1 hi).1
 have hi':(Rb++R)[i]?=some (.ow t s E.z pre cells rest):=by rw [List.getElem?_append_left hil];exact hi
 have hsn:=w.own_n hi' cr
 have hok:=w.ok _ (List.mem_of_getElem? hi')
 have hst:=w.right.2
 have hrow:=w.rowo hi'
 have hk:∀ p,s.n≠0->s.a=some p->Rs.has (.ow t s E.z pre cells rest) p.1:=λp h0 hp=>by
  obtain ⟨_,_,_,_,_,e5⟩:=Rs.full hok h0
  show jo t s=_;rw [rZ e5,hp];rfl
 exact ⟨hsn,hok.2.2.2.2.1,cells,cr.step hst,hrow,λp h0 hp=>⟨Rs.ok_lt hok (hk p h0 hp),w.apart (List.mem_of_getElem? hi) (hk p h0 hp)⟩⟩
theorem afE {b o n j m:Nat} {cells:List AV} (h:H.row b o n=some cells) (hm:j+m<=n):H.row b (o+j) m=some ((cells.drop j).take m):=by
 unfold Hp.row at h ⊢
 split at h
 ·rename_i k hk
  obtain ⟨h1,h2⟩:=qm h
  cases h2
  simp only [Bool.and_eq_true,decide_eq_true_eq] at h1
  simp only [h1.1,Bool.true_and]
  rw [if_pos (by rw [decide_eq_true_eq];omega)]
  congr 1
  rw [List.drop_take,List.take_take,List.drop_drop,Nat.min_eq_left (by omega)]
 ·cases h
theorem ROs.cut_ {α:Type} {E:Ety α} {s:Sl} {z:Nat} {l x:List α} {a b:Int} (h:ROs E H R s l) (hz:z=E.z) (hc:0<=a/\a<=b/\b<=l.length) (hx:x=(l.take b.toNat).drop a.toNat) :
  ∃ a' c',Sl.cut s z a b=some ⟨a',x.length,c'⟩/\ROs E H R ⟨a',x.length,c'⟩ x:=by
 subst hz
 have had:=h.ad
 obtain ⟨hsn,hf,cells,cr,hrow,ho⟩:=h
 obtain ⟨sa,sn,sc⟩:=s
 simp only at hsn ho had
 unfold Sl.fits at hf
 have hxl:x.length=b.toNat - a.toNat:=by rw [hx,List.length_drop,List.length_take];omega
 have hcr:CR E H R ((cells.drop (a.toNat * E.z)).take ((b.toNat - a.toNat) * E.z)) x:=by
  have q:=(cr.drop a.toNat).take (b.toNat - a.toNat)
  rw [hx,List.drop_take];exact q
 have hnz:a.toNat * E.z+(b.toNat - a.toNat) * E.z<=sn * E.z:=by
  rw [<- Nat.add_mul];exact Nat.mul_le_mul_right _ (by omega)
 have hlen2:((cells.drop (a.toNat * E.z)).take ((b.toNat - a.toNat) * E.z)).length=x.length * E.z:=hcr.length
 have key:∀ (a':ON) (c':Cap),(x.length≠0->a'=sa.map (λp=>(p.1,p.2+a.toNat * E.z))/\∀ z o,c'≠.tip z o)->(match c' with | .ex c=>x.length<=c | .full z=>z=E.z/\a'.isSome=true | .tip z _=>z=E.z/\a'.isSome=true/\x.length=0)->ROs E H R ⟨a',x.length,c'⟩ x:=λa' c' ha hfit=>by
  refine ⟨rfl,hfit,_,hcr,?_,λp h0 hp=>?_⟩
  ·unfold Sl.row
   by_cases h0:x.length=0
   ·rw [if_pos h0,List.length_eq_zero_iff.1 (show ((cells.drop (a.toNat * E.z)).take ((b.toNat - a.toNat) * E.z)).length=0 by rw [hlen2,h0,Nat.zero_mul])]
   ·have hs0:sn≠0:=by omega
    unfold Sl.row at hrow
    simp only at hrow
    rw [if_neg hs0,had hs0] at hrow
    rw [if_neg h0]
    have hd:Sl.ad ⟨a',x.length,c'⟩=a':=by
     cases c' with
     | tip z o=>exact absurd rfl ((ha h0).2 z o)
     | _=>rfl
    rw [hd,(ha h0).1]
    cases sa with
    | none=>cases hrow
    | some p=>
     have q:=afE (show H.row p.1 p.2 (sn * E.z)=some cells from hrow) hnz
     simp only [Option.map_some]
     rw [hxl];exact q
  ·have hs0:sn≠0:=by simp only at h0;omega
   simp only at hp
   rw [(ha h0).1] at hp
   cases sa with
   | none=>cases hp
   | some q=>cases hp;exact ho q hs0 rfl
 unfold Sl.cut
 cases sc with
 | ex c=>
  simp only at hf ⊢
  rw [if_pos ⟨by omega,by omega,by omega⟩]
  exact ⟨if c=a.toNat then sa else sa.map (λp=>(p.1,p.2+a.toNat * E.z)),.ex (c - a.toNat),by rw [hxl],key _ _ (λh0=>⟨if_neg (by omega),λz o e=>by cases e⟩) (by simp only;omega)⟩
 | full z=>
  obtain ⟨rfl,f2⟩:=hf
  cases sa with
  | none=>cases f2
  | some p=>
   simp only [Option.bind_some]
   rw [if_pos ⟨by omega,by omega,by omega,trivial⟩]
   by_cases hal:a<sn
   ·rw [if_pos hal]
    exact ⟨some (p.1,p.2+a.toNat * E.z),.full E.z,by rw [hxl],key _ _ (λ_=>⟨rfl,λz o e=>by cases e⟩) ⟨rfl,rfl⟩⟩
   ·rw [if_neg hal]
    have h0:x.length=0:=by omega
    exact ⟨some (p.1,p.2+a.toNat * E.z),.tip E.z p.2,by rw [h0],key _ _ (λh=>absurd h0 h) ⟨rfl,rfl,h0⟩⟩
 | tip z o=>
  obtain ⟨rfl,f2,f3⟩:=hf
  have f3:sn=0:=f3
  have h0:x.length=0:=by omega
  simp only
  rw [if_pos ⟨by omega,by omega,trivial,f3,f2⟩]
  exact ⟨sa,.tip E.z o,by rw [h0,f3],key _ _ (λh=>absurd h0 h) ⟨rfl,f2,h0⟩⟩
theorem Vv {α:Type} {l x:List α} {a b:Int} (h:mL l a b=some x):(0<=a/\a<=b/\b<=l.length)/\x=(l.take b.toNat).drop a.toNat/\a<l.length:=by
 unfold mL at h;obtain ⟨⟨h1,h2,h3,h4⟩,h5⟩:=qm h;cases h5;exact ⟨⟨h1,h2,h3⟩,rfl,h4⟩
theorem afF {α:Type} {l x:List α} {a b:Int} (h:cutf l a b=some x):(0<=a/\a<=b/\b<=l.length)/\x=(l.take b.toNat).drop a.toNat:=by
 unfold cutf at h;obtain ⟨⟨h1,h2,h3⟩,h5⟩:=qm h;cases h5;exact ⟨⟨h1,h2,h3⟩,rfl⟩
theorem ROs.cutf {α:Type} {E:Ety α} {s:Sl} {z:Nat} {l x:List α} {a b:Int} (h:ROs E H R s l) (hz:z=E.z) (hx:cutf l a b=some x):∃ a' c',Sl.cut s z a b=some ⟨a',x.length,c'⟩/\ROs E H R ⟨a',x.length,c'⟩ x:=by
 obtain ⟨h1,h2⟩:=afF hx
 exact h.cut_ hz h1 h2
end
end Go.AE
end
section
namespace Go.AE
variable {H:Hp} {R:List Rs} {Q:AV->Hp->Prop}
theorem bQ (w:W H R) {cells:List AV} {K:Hp->OA} (g:∀ H',W H' (.blk H.length cells::R)->Fr H R H' (.blk H.length cells::R)->∃ v H'',K H'=some (v,H'')/\Q v H'') :
  ∃ v H'',(Hp.new H cells).bind K=some (v,H'')/\Q v H'':=by
 obtain ⟨H',e,w',s⟩:=w.new cells;exact aA e (g H' w' s)
theorem k_ {α:Type} (E:Ety α) (w:W H R) {cells:List AV} {n:Nat} {l:List α} {K:Hp->OA} (hz:Nat.blt 0 E.z=true) (cr:CR E H R cells l) (hn:n=l.length)
  (g:∀ H',W H' (.own ⟨some (H.length,0),n,.ex n⟩ E.z cells::R)->Fr H R H' (.own ⟨some (H.length,0),n,.ex n⟩ E.z cells::R)->CR E H' (.own ⟨some (H.length,0),n,.ex n⟩ E.z cells::R) cells l->∃ v H'',K H'=some (v,H'')/\Q v H'') :
  ∃ v H'',(Hp.new H cells).bind K=some (v,H'')/\Q v H'':=by
 obtain ⟨H',e,w',s⟩:=w.newS cells n E.z (by rw [hn];exact cr.length) (Nat.le_of_ble_eq_true hz)
 exact aA e (g H' w' s (cr.step s))
theorem arz (w:W H R) {i:Nat} {b:Nat} {cells:List AV} {o:Nat} {v:AV} {K:Hp->OA} (hi:R[i]?=some (.blk b cells)) (ho:Nat.blt o cells.length=true) (hv:v.isCell=true)
  (g:∀ H',W H' (R.set i (.blk b (cells.set o v)))->Fr H R H' (R.set i (.blk b (cells.set o v)))->∃ v H'',K H'=some (v,H'')/\Q v H''):∃ v' H'',(Hp.st H b o v).bind K=some (v',H'')/\Q v' H'':=by
 obtain ⟨H',e,w',s⟩:=w.st hi (Nat.le_of_ble_eq_true ho) hv
 exact aA e (g H' w' s)
theorem lI (w:W H R) (i:Nat) {b o:Nat} {cells:List AV} {k:IntKind} {n:Int} {K:_->OA} (g:∃ v H',K n=some (v,H')/\Q v H') (hi:R[i]?=some (.blk b cells):=by exact rfl) (hv:cells[o]?=some (.int k n):=by exact rfl):∃ v H',(H.ldI k b o).bind K=some (v,H')/\Q v H':=aA (cy (w.ld hi hv)) g
theorem lB (w:W H R) (i:Nat) {b o:Nat} {cells:List AV} {n:Bool} {K:_->OA} (g:∃ v H',K n=some (v,H')/\Q v H') (hi:R[i]?=some (.blk b cells):=by exact rfl) (hv:cells[o]?=some (.bool n):=by exact rfl):∃ v H',(H.ldB b o).bind K=some (v,H')/\Q v H':=aA (arw (w.ld hi hv)) g
theorem lSl (w:W H R) (i:Nat) {b o:Nat} {cells:List AV} {n:Sl} {K:_->OA} (g:∃ v H',K n=some (v,H')/\Q v H') (hi:R[i]?=some (.blk b cells):=by exact rfl) (hv:cells[o]?=some (.sl n):=by exact rfl):∃ v H',(H.ldSl b o).bind K=some (v,H')/\Q v H':=aA (mK (w.ld hi hv)) g
theorem br {α:Type} {a:α} {K:α->OA} (g:∃ v H',K a=some (v,H')/\Q v H'):∃ v H',(some a).bind K=some (v,H')/\Q v H':=g
theorem aw (w:W H R) (i:Nat) {b:Nat} {cells:List AV} {o:Nat} {v:AV} {K:Hp->OA}
  (g:∀ H',W H' (R.set i (.blk b (cells.set o v)))->Fr H R H' (R.set i (.blk b (cells.set o v)))->∃ v H'',K H'=some (v,H'')/\Q v H'') (hi:R[i]?=some (.blk b cells):=by exact rfl) (ho:Nat.blt o cells.length=true:=by exact rfl) (hv:v.isCell=true:=by exact rfl):∃ v' H'',(Hp.st H b o v).bind K=some (v',H'')/\Q v' H'':=arz w hi ho hv g
theorem eQ {α:Type} {l l':List α} {n:Nat} {x:α} (h:some (l.set n x)=some l'):l'.length=l.length:=by cases h;simp
theorem gD {α:Type} [Inhabited α] (E:Ety α) (w:W H R) {i:Nat} {t:Bool} {s:Sl} {z:Nat} {pre cells rest:List AV} {l l':List α} {k:Int} {n j:Nat} {p:Nat×Nat} {v:AV} {x':α} {K:Hp->OA} (hi:R[i]?=some (.ow t s E.z pre cells rest)) (hz:z=E.z) (cr:CR E H R cells l)
  (hn:ix l k=some n) (hp:Sl.idx s k z=some p) (hx:some (l.set n x')=some l') (hj:Nat.blt j E.z=true) (hv:v.isCell=true) (hr:∀ cs,E.rep H R cs (gt l n)->E.rep H R (cs.set j v) x')
  (g:∀ H' cells',W H' (R.set i (.ow t s E.z pre cells' rest))->Fr H R H' (R.set i (.ow t s E.z pre cells' rest))->CR E H' (R.set i (.ow t s E.z pre cells' rest)) cells' l'->∃ v H'',K H'=some (v,H'')/\Q v H'') :
  ∃ v' H'',(Hp.st H p.1 (p.2+j) v).bind K=some (v',H'')/\Q v' H'':=by
 obtain ⟨g1,g2⟩:=VR hn
 obtain ⟨H',cells',e,w',s',c'⟩:=w.sto hi hz cr g2 g1 hp (Nat.le_of_ble_eq_true hj) hv hr
 cases hx
 exact aA e (g H' cells' w' s' c')
theorem Lq {α:Type} (E:Ety α) (x:α) (w:W H R) {zero:List AV} {bytes:Nat} {n:Int} {l:List α} {K:Sl×Hp->OA} (hx:E.rep H R zero x) (hz:Nat.blt 0 E.z=true) (hb:Nat.ble bytes 16384=true) (hl:mkn n x=some l)
  (g:∀ H' cells,W H' (.own ⟨some (H.length,0),l.length,.ex l.length⟩ E.z cells::R)->Fr H R H' (.own ⟨some (H.length,0),l.length,.ex l.length⟩ E.z cells::R) ->
   CR E H' (.own ⟨some (H.length,0),l.length,.ex l.length⟩ E.z cells::R) cells l->∃ v H'',K (⟨some (H.length,0),l.length,.ex l.length⟩,H')=some (v,H'')/\Q v H'') :
  ∃ v' H'',(Hp.mk H zero bytes n n).bind K=some (v',H'')/\Q v' H'':=by
 obtain ⟨H',cells,e,w',s',c'⟩:=w.mkS hx (Nat.le_of_ble_eq_true hz) (Nat.le_of_ble_eq_true hb) hl
 exact aA e (g H' cells w' s' c')
theorem qk {α:Type} (E:Ety α) (w:W H R) {i:Nat} {s:Sl} {z bytes n:Nat} {cells xs:List AV} {l m x:List α} {K:Sl×Hp->OA} (hi:R[i]?=some (.own s E.z cells)) (hz:z=E.z) (cr:CR E H R cells l) (hm:CR E H R xs m) (hn:n=m.length)
  (hb:Nat.ble bytes 16384=true) (hx:apn l m=some x)
  (g:∀ a c H',W H' (R.set i (.own ⟨a,x.length,c⟩ E.z (cells++xs)))->Fr H R H' (R.set i (.own ⟨a,x.length,c⟩ E.z (cells++xs))) ->
   CR E H' (R.set i (.own ⟨a,x.length,c⟩ E.z (cells++xs))) (cells++xs) x->((∃ c,s.c=.ex c)->aX H H')->∃ v H'',K (⟨a,x.length,c⟩,H')=some (v,H'')/\Q v H'') :
  ∃ v' H'',(Hp.app H z bytes s n xs).bind K=some (v',H'')/\Q v' H'':=by
 obtain ⟨a,c,H',e,w',s',c',x'⟩:=w.app hi hz cr hm hn (Nat.le_of_ble_eq_true hb) hx
 exact aA e (g a c H' w' s' c' x')
theorem aR {x:OA} {K:AV×Hp->OA} {Q1:AV->Hp->Prop} (h:∃ u H1,x=some (u,H1)/\Q1 u H1) (g:∀ u H1,Q1 u H1->∃ v H',K (u,H1)=some (v,H')/\Q v H') :
  ∃ v H',x.bind K=some (v,H')/\Q v H':=by
 obtain ⟨u,H1,e,q⟩:=h;rw [e];exact g u H1 q
theorem W.right1 {r:Rs} (w:W H (r::R)):W H R/\Fr H (r::R) H R:=W.right (Rb:=[r]) w
theorem W.borrow1 {α:Type} (E:Ety α) {t:Bool} {s:Sl} {pre cells rest:List AV} {l:List α} (w:W H (.ow t s E.z pre cells rest::R)) (cr:CR E H (.ow t s E.z pre cells rest::R) cells l):ROs E H R s l:=
 W.borrow (Rb:=[.ow t s E.z pre cells rest]) w (i:=0) rfl cr
theorem W.frame1 {H':Hp} {r:Rs} {R':List Rs} (w:W H (r::R)) (w':W H' R') (st:Fr H R H' R'):W H' (r::R')/\Fr H (r::R) H' (r::R'):=W.frame (Rb:=[r]) w w' st
theorem W.pick' (w:W H R) (ixs:List Nat) (n:Nat) (h:decide (ixs.Nodup)=true) (h':ixs.all (·<n)=true) (hn:(n==0 || (R[n - 1]?).isSome)=true):W H (pk R ixs n)/\Fr H R H (pk R ixs n):=by
 refine w.pick ixs n ?_ h h'
 cases n with
 | zero=>omega
 | succ n=>
  simp only [Nat.add_sub_cancel] at hn
  have:(R[n]?).isSome=true:=by simpa using hn
  rcases Nat.lt_or_ge n R.length with c | c
  ·omega
  ·rw [List.getElem?_eq_none c] at this;cases this
theorem W.pp (w:W H R) (ixs:List Nat) (n:Nat) (h:decide (ixs.Nodup)=true:=by exact rfl) (h':ixs.all (·<n)=true:=by exact rfl) (hn:(n==0 || (R[n - 1]?).isSome)=true:=by exact rfl):W H (pk R ixs n)/\Fr H R H (pk R ixs n):=w.pick' ixs n h h' hn
theorem tZ {α:Type} {l l':List α} {k:Int} {n:Nat} (h:ix l k=some n) (e:l'.length=l.length):ix l' k=some n:=by
 unfold ix at h ⊢;rw [e];exact h
theorem ROs.nil {α:Type} {E:Ety α}:ROs E H R ⟨none,0,.ex 0⟩ []:=⟨rfl,Nat.le_refl _,[],.nil,rfl,λp h0 _=>absurd rfl h0⟩
theorem CR.cons1 {α:Type} {E:Ety α} {v:AV} {vs:List AV} {x:α} {l:List α} (h:E.rep H R [v] x) (t:CR E H R vs l):CR E H R (v::vs) (x::l):=CR.cons h t
theorem aX.tr {H H' H'':Hp} {R R':List Rs} (h:aX H H') (s:Fr H R H' R') (h':aX H' H''):aX H H'':=λb hb=>(h' b (Nat.lt_of_lt_of_le hb s.len)).trans (h b hb)
def Out (H0:Hp) (Ri:List Rs) (H:Hp) (R:List Rs) (P:List Rs->Prop):Prop:=W H R/\Fr H0 Ri H R/\P R
def Inn (H:Hp) (R:List Rs) (P:List Rs->Prop):Prop:=W H R/\P R
theorem W.rf (_:W H R):Fr H R H R:=Fr.refl H R
theorem CR.empty {α:Type} {E:Ety α}:CR E H R [] []:=.nil
theorem ROs.none_nil {α:Type} {E:Ety α} {s:Sl} {l:List α} (h:ROs E H R s l) (ha:s.a=none):l=[]:=by
 have had:=h.ad
 obtain ⟨hsn,hf,cells,cr,hrow,ho⟩:=h
 unfold Sl.row at hrow
 by_cases h0:s.n=0
 ·exact List.length_eq_zero_iff.1 (by omega)
 ·rw [if_neg h0,had h0,ha] at hrow;cases hrow
theorem CR.cell {α:Type} {E:Ety α} {cells:List AV} {l:List α} (h:CR E H R cells l):∀ v∈cells,v.isCell=true:=by
 induction h with
 | nil=>intro v hv;cases hv
 | cons h t ih=>
  intro v hv
  rcases List.mem_append.1 hv with hv | hv
  ·exact E.cell h v hv
  ·exact ih v hv
theorem W.cutv {α:Type} {E:Ety α} (w:W H R) {i:Nat} {t:Bool} {s:Sl} {pre cells rest:List AV} {l x:List α} {a b:Int} (hi:R[i]?=some (.ow t s E.z pre cells rest)) (cr:CR E H R cells l) (hx:mL l a b=some x) :
  ∃ c',Sl.cut s E.z a b=some ⟨s.a.map (λp=>(p.1,p.2+a.toNat * E.z)),x.length,c'⟩/\(∀ z o,c'≠.tip z o)/\s.ad=s.a:=by
 obtain ⟨⟨h1,h2,h3⟩,rfl,h4⟩:=Vv hx
 have hsn:=w.own_n hi cr
 have hok:=w.ok _ (List.mem_of_getElem? hi)
 obtain ⟨p,e1,e2,_⟩:=Rs.full hok (by omega)
 have hf:=hok.2.2.2.2.1
 obtain ⟨sa,sn,sc⟩:=s
 simp only at hsn e1 e2
 subst e1
 have hxl:((l.take b.toNat).drop a.toNat).length=b.toNat - a.toNat:=by rw [List.length_drop,List.length_take];omega
 unfold Sl.cut
 unfold Sl.fits at hf
 cases sc with
 | full z'=>
  obtain ⟨hf,_⟩:=hf
  subst hf
  simp only [Option.bind_some]
  rw [if_pos ⟨by omega,by omega,by omega,trivial⟩,if_pos (by omega)]
  exact ⟨_,by rw [hxl];rfl,λz o e=>(by cases e),rfl⟩
 | ex c=>
  simp only at hf ⊢
  rw [if_pos ⟨by omega,by omega,by omega⟩,if_neg (by omega)]
  exact ⟨_,by rw [hxl],λz o e=>(by cases e),rfl⟩
 | tip z' o=>exact absurd hf.2.2 (show ¬ sn=0 by omega)
theorem aqB {s:Sl} {lo m:Nat} {c:Cap} {z:Nat} {i:Int} (hc:∀ z o,c≠.tip z o) (hd:s.ad=s.a) (h0:0<=i) (h1:i<m) (h2:lo+i<s.n):Sl.idx ⟨s.a.map (λp=>(p.1,p.2+lo * z)),m,c⟩ i z=Sl.idx s (lo+i) z:=by
 unfold Sl.idx
 have e:∀ a,Sl.ad ⟨a,m,c⟩=a:=λa=>by
  cases c with
  | tip z o=>exact absurd rfl (hc z o)
  | _=>rfl
 rw [if_pos ⟨h0,h1⟩,if_pos ⟨by omega,h2⟩,e,hd]
 cases s.a with
 | none=>rfl
 | some p=>
  simp only [Option.map_some,Option.some.injEq,Prod.mk.injEq,true_and]
  rw [show ((lo:Int)+i).toNat=lo+i.toNat by omega,Nat.add_mul,Nat.add_assoc]
def ql (l:List Int) (a:Nat):Nat->List Int
 | 0=>l
 | n+1=>ql (l.set a (IntKind.i64.wrap (0 - gt l a))) (a+1) n
theorem aeR (l:List Int) (a:Nat):∀ n,(ql l a n).length=l.length:=by
 intro n
 induction n generalizing l a with
 | zero=>rfl
 | succ n ih=>unfold ql;rw [ih,List.length_set]
end Go.AE
end
section
namespace Go.AE
open Go.RowKit Go.ChangeShapes Go.WideShapes Go.Joins Go.Deep
variable {P:Program}
def afG {α:Type} (P:Program) (t:TypeId) (E:Ety α) (ok:α->Prop):Prop:=
 ∀ {H:Type} {enc:TypeId×Value->H} {w:World} {fuel:Nat} {cs:List Value} {y:DataW H×List MemPlace},DataW.trod enc P w 0 (λ_=>true) true fuel t cs=some y ->
  ∃ cells x,(∀ Φ,AV.toVs Φ cells=cs)/\(∀ Φ S,∀ v∈cells,v.ok Φ S/\v.isCell=true)/\(∀ H R,E.rep H R cells x)/\ok x
theorem arB {t:TypeId} {k:IntKind} (ht:P.underlying t=some (.int k)):afG P t (fz k) (λn=>(Lit.int k n).wf=true):=λh=>by
 obtain ⟨n,rfl,_,hw⟩:=DataW.trod_int ht h
 exact ⟨[.int k n],n,λ_=>by simp [AV.toVs,AV.toV],λ_ _ v hv=>by cases List.mem_singleton.1 hv;simp [AV.ok,AV.isCell],λ_ _=>rfl,hw⟩
theorem afH {w:World} {r:Reach} {b:Nat} {u:TypeId} {a:Addr} {n m:Nat} (h:Cell.okWide P w r b u (.slice (some a) n m)):a.spot=none:=by
 unfold Cell.okWide Cell.ok at h
 split at h <;> (try split at h) <;> simp_all [World.has]
theorem arC {w:World} {r:Reach} {b:Nat} {t e:TypeId} {a:Addr} {n m:Nat} (ht:P.underlying t=some (.slice e)) (h:Value.okWide P w r b t (.slice (some a) n m)):a.spot=none:=by
 simp only [Value.okWide,ht] at h;exact afH h
theorem CR.of_list {α:Type} {E:Ety α} {H:Hp} {R:List Rs}:∀ (L:List (List AV×α)),(∀ p∈L,E.rep H R p.1 p.2)->CR E H R (L.map (·.1)).flatten (L.map (·.2))
 | [],_=>.nil
 | p::L,h=>.cons (h p (by simp)) (CR.of_list L λq hq=>h q (by simp [hq]))
theorem arD {L:List (List AV)} {z:Nat} (hz:∀ c∈L,c.length=z):∀ {i:Nat} {v:AV},L.flatten[i]?=some v->∃ j k c,L[j]?=some c/\c[k]?=some v/\i=j * z+k/\k<z:=by
 induction L with
 | nil=>intro i v h;simp at h
 | cons c L ih=>
  intro i v h
  have hc:=hz c (by simp)
  rw [List.flatten_cons,List.getElem?_append] at h
  split at h
  ·rename_i hi;exact ⟨0,i,c,rfl,h,by omega,by omega⟩
  ·rename_i hi
   obtain ⟨j,k,c',h1,h2,h3,h4⟩:=ih (λc hc=>hz c (by simp [hc])) h
   exact ⟨j+1,k,c',by simpa using h1,h2,by rw [Nat.succ_mul];omega,h4⟩
theorem Ro.slice {α:Type} [Inhabited α] {E:Ety α} {ok:α->Prop} {Φ:Phi} {H:Hp} {w:World} (ro:Ro Φ H w) {t e:TypeId} (he:afG P e E ok) (hz:P.cellsOf e=E.z) (ht:P.underlying t=some (.slice e)) {X:Type} {enc:TypeId×Value->X} {fuel:Nat} {v:Value} {y:DataW X×List MemPlace}
  (h:DataW.trod enc P w 0 (λ_=>true) true fuel t [v]=some y) (hs:∀ a n m,v=.slice (some a) n m->a.spot=none) :
  ∃ (Φ':Phi) (H':Hp) (s:Sl) (l:List α),Ro Φ' H' w/\H <+: H'/\Φ.agree Φ' (·<H.length)/\(AV.sl s).toV Φ'=v/\(AV.sl s).ok Φ' (·<H'.length)/\ROs E H' [] s l/\l.length<=maxLen/\∀ x∈l,ok x:=by
 rcases open_slice ht h with ⟨hv,_⟩ | ⟨a,len,cap,m,n,D,Pl,hv,_,hl,hm,hmm,_,hi⟩
 ·cases hv
  exact ⟨Φ,H,⟨none,0,.ex 0⟩,[],ro,List.prefix_refl _,Phi.agree_refl _ _,by simp [AV.toV,Sl.toV],by simp [AV.ok],ROs.nil,by simp,λx hx=>by cases hx⟩
 ·cases hv
  have hsp:=hs a len cap rfl
  have hcap:m=cap:=by simpa using hmm
  obtain ⟨X,hX⟩:=choose_lt (α:=List AV×α) (n:=len) (p:=λi x=>∃ cs',w.cells? 0 (a.add (i * P.cellsOf e)) (P.cellsOf e)=some cs'/\(∀ Φ,AV.toVs Φ x.1=cs')/\(∀ Φ S,∀ v∈x.1,v.ok Φ S/\v.isCell=true)/\(∀ H R,E.rep H R x.1 x.2)/\ok x.2) (λi hlt=>by
   obtain ⟨cs',h1,h2⟩:=hi i (by omega)
   obtain ⟨c,x,q1,q2,q3,q4⟩:=he h2
   exact ⟨(c,x),cs',h1,q1,q2,q3,q4⟩)
  have hL:∀ p∈(List.range len).map X,∃ i,i<len/\p=X i:=λp hp=>by
   obtain ⟨i,hi,rfl⟩:=List.mem_map.1 hp
   exact ⟨i,List.mem_range.1 hi,rfl⟩
  have hrep:∀ H R,∀ p∈(List.range len).map X,E.rep H R p.1 p.2:=λH R p hp=>by
   obtain ⟨i,hi,rfl⟩:=hL p hp
   obtain ⟨_,_,_,_,h3,_⟩:=hX i hi
   exact h3 H R
  have hlen:∀ c∈((List.range len).map X).map (·.1),c.length=E.z:=λc hc=>by
   obtain ⟨p,hp,rfl⟩:=List.mem_map.1 hc
   exact E.len (hrep [] [] p hp)
  have hcells:∀ v∈(((List.range len).map X).map (·.1)).flatten,∀ Φ S,v.ok Φ S/\v.isCell=true:=λv hv Φ S=>by
   obtain ⟨c,hc,hv⟩:=List.mem_flatten.1 hv
   obtain ⟨p,hp,rfl⟩:=List.mem_map.1 hc
   obtain ⟨i,hi,rfl⟩:=hL p hp
   obtain ⟨_,_,_,h2,_⟩:=hX i hi
   exact h2 Φ S v hv
  have hcr:∀ H R,CR E H R (((List.range len).map X).map (·.1)).flatten (((List.range len).map X).map (·.2)):=λH R=>CR.of_list _ (hrep H R)
  have hll:(((List.range len).map X).map (·.2)).length=len:=by simp
  have hfl:(((List.range len).map X).map (·.1)).flatten.length=len * E.z:=by rw [(hcr [] []).length,hll]
  have hro:=ro.snoc a.block a.off 0 (((List.range len).map X).map (·.1)).flatten (λv hv=>hcells v hv _ _) (λi v hv=>by
   obtain ⟨j,k,c,g1,g2,g3,g4⟩:=arD hlen hv
   obtain ⟨hj,hc⟩:=List.getElem?_eq_some_iff.1 g1
   have hj':j<len:=by simpa using hj
   have hc':(X j).1=c:=by simpa using hc
   obtain ⟨cs',h1,h2,h3,h4,h5⟩:=hX j hj'
   obtain ⟨_,hcl,hat⟩:=World.cells?_some h1
   have hk:=hat k (by rw [hz];exact g4)
   have e1:cs'[k]?=some (v.toV Φ):=by rw [<- h2 Φ,qQ,hc',g2];rfl
   rw [e1,hz] at hk
   rw [<- hk]
   congr 1
   obtain ⟨ab,ao,aq⟩:=a
   simp only at hsp
   subst hsp
   rw [Addr.add_none,Addr.add_none]
   simp only [g3,Nat.add_assoc])
  refine ⟨Φ.put H.length a.block a.off 0,H++[⟨(((List.range len).map X).map (·.1)).flatten,false,true⟩],⟨some (H.length,0),len,.ex cap⟩,((List.range len).map X).map (·.2),hro,List.prefix_append _ _,Phi.put_agree (by simp),?_,?_,?_,?_,?_⟩
  ·simp only [AV.toV,Sl.toV,Option.map_some,Phi.put_b,Phi.put_o,Nat.add_zero]
   obtain ⟨ab,ao,aq⟩:=a
   simp only at hsp
   subst hsp;rfl
  ·simp only [AV.ok]
   intro p hp
   cases hp
   exact ⟨by simp,λz hz=>by cases hz⟩
  ·refine ⟨hll.symm,hl,_,hcr _ _,?_,λp h0 hp=>by cases hp;exact ⟨by simp,λ⟨r,hr,_⟩=>by cases hr⟩⟩
   generalize (((List.range len).map X).map (·.1)).flatten=C at hfl ⊢
   unfold Sl.row
   by_cases h0:len=0
   ·have:C=[]:=List.length_eq_zero_iff.1 (by rw [hfl,h0,Nat.zero_mul])
    rw [if_pos h0,this]
   ·rw [if_neg h0]
    rw [Sl.ad_ex rfl]
    unfold Hp.row
    have e:(H++[(⟨C,false,true⟩:Blk)])[H.length]?=some ⟨C,false,true⟩:=by simp
    simp only [e]
    rw [if_pos (by simp [hfl]),List.drop_zero,<-hfl,List.take_length]
  ·rw [hll];omega
  ·intro x hx
   obtain ⟨p,hp,rfl⟩:=List.mem_map.1 hx
   obtain ⟨i,hi,rfl⟩:=hL p hp
   obtain ⟨_,_,_,_,_,h5⟩:=hX i hi
   exact h5
theorem Fr.pre {H H':Hp} (h:H <+: H'):Fr H [] H' []:=
 ⟨h.length_le,λb hb _=>by obtain ⟨l,rfl⟩:=h;exact List.getElem?_append_left hb,λb ⟨r,hr,_⟩=>by cases hr⟩
theorem W.none (H:Hp):W H []:=⟨λr hr=>absurd hr (List.not_mem_nil),λi j r r' h=>absurd h (by simp)⟩
end Go.AE
end
section
namespace Go.AE
end Go.AE
end
