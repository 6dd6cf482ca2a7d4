import Derived.Test.YteeahaikelpkpaaE2
import Derived.Test.YteeahaikelpkpaaP1
set_option linter.unusedVariables false
set_option linter.unusedSimpArgs false
section
namespace Go.AE
def co (low:Int) (l:List Int) (e:Int):Int:=if low<=e then l.getD (e - low).toNat 0 else 0
structure Trim (low:Int) (l:List Int):Prop where
 nil:l=[]->low=0
 first:l≠[]->l.getD 0 0≠0
 last:l≠[]->l.getD (l.length - 1) 0≠0
theorem eW (low:Int) (l:List Int) (i:Nat):co low l (low+i)=l.getD i 0:=by
 unfold co;rw [if_pos (by omega)];congr 1;omega
theorem hG {low:Int} {l:List Int} {e:Int} (h:e<low):co low l e=0:=by unfold co;rw [if_neg (by omega)]
theorem nG {low:Int} {l:List Int} {e:Int} (h:low+l.length<=e):co low l e=0:=by
 unfold co;split
 ·rw [List.getD_eq_getElem?_getD,List.getElem?_eq_none (by omega)];rfl
 ·rfl
theorem gC (low e:Int):co low [] e=0:=by unfold co;split <;> rfl
theorem Trim.le {low low':Int} {l l':List Int} (h:Trim low l) (he:∀ e,co low l e=co low' l' e) (hl:l≠[]):low'<=low/\low+l.length<=low'+l'.length:=by
 have hpos:0<l.length:=List.length_pos_iff.2 hl
 constructor
 ·rcases Int.lt_or_le low low' with c | c
  ·exfalso
   have:=he (low+(0:Nat))
   rw [eW,hG (by omega)] at this
   exact h.first hl this
  ·exact c
 ·rcases Int.lt_or_le (low'+l'.length) (low+l.length) with c | c
  ·exfalso
   have:=he (low+((l.length - 1:Nat):Int))
   rw [eW,nG (by omega)] at this
   exact h.last hl this
  ·exact c
theorem Trim.unique {low low':Int} {l l':List Int} (h:Trim low l) (h':Trim low' l') (he:∀ e,co low l e=co low' l' e):low=low'/\l=l':=by
 by_cases c:l=[]
 ·by_cases c':l'=[]
  ·exact ⟨by rw [h.nil c,h'.nil c'],by rw [c,c']⟩
  ·exfalso
   have:=he (low'+(0:Nat))
   rw [eW,c,gC] at this
   exact h'.first c' this.symm
 ·by_cases c':l'=[]
  ·exfalso
   have:=he (low+(0:Nat))
   rw [eW,c',gC] at this
   exact h.first c this
  ·have a:=h.le he c
   have b:=h'.le (λe=>(he e).symm) c'
   have e1:low=low':=by omega
   have e2:l.length=l'.length:=by omega
   refine ⟨e1,List.ext_getElem e2 λi h1 h2=>?_⟩
   have:=he (low+(i:Nat))
   rw [eW,e1,eW] at this
   simpa [List.getD_eq_getElem?_getD,List.getElem?_eq_getElem h1,List.getElem?_eq_getElem h2] using this
theorem rU {low:Int} {l:List Int} {a b:Nat} (hab:a<=b) (hb:b<=l.length) (h1:∀ i,i<a->l.getD i 0=0) (h2:∀ i,b<=i->l.getD i 0=0) (e:Int):co (low+a) ((l.take b).drop a) e=co low l e:=by
 rcases Int.lt_or_le e low with c | c
 ·rw [hG (by omega),hG c]
 ·obtain ⟨i,rfl⟩:∃ i:Nat,e=low+i:=⟨(e - low).toNat,by omega⟩
  rw [eW]
  by_cases ca:i<a
  ·rw [hG (by omega),h1 i ca]
  ·by_cases cb:b<=i
   ·rw [nG (by simp;omega),h2 i cb]
   ·have:low+(i:Int)=(low+(a:Int))+((i - a:Nat):Int):=by omega
    rw [this,eW]
    simp only [List.getD_eq_getElem?_getD,List.getElem?_drop,List.getElem?_take]
    rw [show a+(i - a)=i by omega,if_pos (by omega)]
end Go.AE
end
section
namespace Go.Proofs.Yteeahaikelpkpaa.AE
open Go Go.AE Go.Proofs
variable {F:Nat} {i j k:Int}
theorem gt_set_eq {l:List Int} {n:Nat} {x:Int} (h:n<l.length):gt (l.set n x) n=x:=by
 unfold gt;rw [List.getD_eq_getElem?_getD,List.getElem?_set_self h];rfl
theorem gt_set_ne {l:List Int} {n m:Nat} {x:Int} (h:n≠m):gt (l.set n x) m=gt l m:=by
 unfold gt;rw [List.getD_eq_getElem?_getD,List.getD_eq_getElem?_getD,List.getElem?_set_ne h]
theorem ix_of {l:List Int} (h0:0<=i) (h:i<l.length):ix l i=some i.toNat:=by
 unfold ix;rw [if_pos ⟨h0,h⟩]
def InR (x a b:Int):Prop:=a<=x/\x<=b
instance (x a b:Int):Decidable (InR x a b):=by unfold InR;infer_instance
theorem kl {x a b:Int}:bf.p F x a b=some (decide (InR x a b)):=by
 unfold bf.p InR
 by_cases h:x>=a
 ·rw [decide_eq_true h,cond_true];congr 1;simp only [ge_iff_le] at h;simp [h]
 ·rw [decide_eq_false h,cond_false];congr 1;simp only [ge_iff_le] at h;simp [h]
theorem rl {x a b:Int}:bY.p F x a b=some (decide (InR x a b)):=by
 unfold bY.p InR
 by_cases h:a<=x
 ·rw [decide_eq_true h,cond_true];congr 1;simp [h]
 ·rw [decide_eq_false h,cond_false];congr 1;simp [h]
end Go.Proofs.Yteeahaikelpkpaa.AE
end
section
namespace Go.Proofs.Yteeahaikelpkpaa.AE
open Go Go.AE Go.Proofs
variable {F:Nat} {i j k:Int}
theorem gt_def (l:List Int) (n:Nat):gt l n=l.getD n 0:=rfl
theorem cutf_of {l:List Int} {a b:Int} (h0:0<=a) (h1:a<=b) (h2:b<=l.length):cutf l a b=some ((l.take b.toNat).drop a.toNat):=by
 unfold cutf;rw [if_pos ⟨h0,h1,h2⟩]
theorem apn_nil {l:List Int} (h:l.length<=1000000):apn ([]:List Int) l=some l:=by
 unfold apn;rw [if_pos (by simp;omega),List.nil_append]
def Form (low:Int) (l:List Int) (r:Int×List Int):Prop:=Trim r.1 r.2/\(∀ e,co r.1 r.2 e=co low l e)/\r.2.length<=l.length
theorem form_cut {low:Int} {l:List Int} {a b:Int} (ha:0<=a) (hab:a<b) (hb:b<=l.length) (h1:∀ n:Nat,(n:Int)<a->gt l n=0) (h2:∀ n:Nat,b<=n->gt l n=0) (h3:gt l a.toNat≠0) (h4:gt l (b - 1).toNat≠0) :
  Form low l (low+a,(l.take b.toNat).drop a.toNat):=by
 have hlen:((l.take b.toNat).drop a.toNat).length=b.toNat - a.toNat:=by rw [List.length_drop,List.length_take];omega
 have get:∀ n:Nat,n<b.toNat - a.toNat->((l.take b.toNat).drop a.toNat).getD n 0=l.getD (a.toNat+n) 0:=by
  intro n hn
  simp only [List.getD_eq_getElem?_getD,List.getElem?_drop,List.getElem?_take]
  rw [if_pos (by omega)]
 refine ⟨⟨λh=>?_,λ_=>?_,λ_=>?_⟩,λe=>?_,?_⟩
 ·have:=congrArg List.length h
  rw [hlen,List.length_nil] at this;omega
 ·show ((l.take b.toNat).drop a.toNat).getD 0 0≠0
  rw [get 0 (by omega)];exact h3
 ·show ((l.take b.toNat).drop a.toNat).getD (((l.take b.toNat).drop a.toNat).length - 1) 0≠0
  rw [hlen,get _ (by omega),show a.toNat+(b.toNat - a.toNat - 1)=(b - 1).toNat by omega];exact h4
 ·have:=rU (low:=low) (l:=l) (a:=a.toNat) (b:=b.toNat) (by omega) (by omega) (λn h=>h1 n (by omega)) (λn h=>h2 n (by omega)) e
  rw [Int.toNat_of_nonneg ha] at this
  exact this
 ·show ((l.take b.toNat).drop a.toNat).length<=_
  rw [hlen];omega
theorem form_nil {low:Int} {l:List Int} (h:∀ n:Nat,gt l n=0):Form low l (0,[]):=by
 refine ⟨⟨λ_=>rfl,λh=>absurd rfl h,λh=>absurd rfl h⟩,λe=>?_,Nat.zero_le _⟩
 show co 0 [] e=_
 rw [gC]
 unfold co;split
 ·exact (h _).symm
 ·rfl
theorem gt_out {l:List Int} {n:Nat} (h:l.length<=n):gt l n=0:=by
 unfold gt;rw [List.getD_eq_getElem?_getD,List.getElem?_eq_none h];rfl
theorem specForm_b {low:Int} {l:List Int} (hl:l.length<=2000) (hlow:-1000000<=low/\low<=1000000) {a:Int} (ha:0<=a) (h1:∀ n:Nat,(n:Int)<a->gt l n=0) (h3:a<l.length->gt l a.toNat≠0):∀ (n g:Nat) (b:Int),b - a=n->n<g->b<=l.length->(∀ n:Nat,b<=n->gt l n=0) ->
  ∃ r,ar.pl30 F g low l a b=some r/\Form low l r:=by
 intro n
 induction n with
 | zero=>
  intro g b hn hg hb h2
  obtain ⟨g,rfl⟩:∃ g',g=g'+1:=⟨g - 1,by omega⟩
  rw [ar.pl30,decide_eq_false (by omega),cond_false]
  unfold ar.pj1
  rw [show (a == b)=true from beq_iff_eq.2 (by omega),cond_true]
  refine ⟨_,rfl,form_nil λn=>?_⟩
  by_cases h:(n:Int)<a
  ·exact h1 n h
  ·exact h2 n (by omega)
 | succ n ih=>
  intro g b hn hg hb h2
  obtain ⟨g,rfl⟩:∃ g',g=g'+1:=⟨g - 1,by omega⟩
  rw [ar.pl30,decide_eq_true (by omega),cond_true,aM (by omega) (by omega),ix_of (by omega) (by omega),Option.bind_some]
  by_cases h:gt l (b - 1).toNat=0
  ·rw [h,show ((0:Int) == 0)=true from rfl,cond_true]
   refine ih g (b - 1) (by omega) (by omega) (by omega) λm hm=>?_
   by_cases e:m=(b - 1).toNat
   ·subst e;exact h
   ·exact h2 m (by omega)
  ·rw [show (gt l (b - 1).toNat == 0)=false from beq_eq_false_iff_ne.2 h,cond_false]
   unfold ar.pj1
   rw [show (a == b)=false from beq_eq_false_iff_ne.2 (by omega),cond_false,cutf_of ha (by omega) hb,Option.bind_some,apn_nil (by rw [List.length_drop,List.length_take];omega),Option.bind_some,aM (by omega) (by omega)]
   exact ⟨_,rfl,form_cut ha (by omega) hb h1 h2 (h3 (by omega)) h⟩
theorem specForm_a {low:Int} {l:List Int} (hF:5000000<F) (hl:l.length<=2000) (hlow:-1000000<=low/\low<=1000000):∀ (n g:Nat) (a:Int),l.length - a=n->n<g->0<=a->(∀ n:Nat,(n:Int)<a->gt l n=0) ->
  ∃ r,ar.pl14 F g low l a l.length=some r/\Form low l r:=by
 intro n
 induction n with
 | zero=>
  intro g a hn hg ha h1
  obtain ⟨g,rfl⟩:∃ g',g=g'+1:=⟨g - 1,by omega⟩
  rw [ar.pl14,decide_eq_false (by omega),cond_false]
  exact specForm_b hl hlow ha h1 (λh=>by omega) 0 F l.length (by omega) (by omega) (by omega) (λn h=>gt_out (by omega))
 | succ n ih=>
  intro g a hn hg ha h1
  obtain ⟨g,rfl⟩:∃ g',g=g'+1:=⟨g - 1,by omega⟩
  rw [ar.pl14,decide_eq_true (by omega),cond_true,ix_of (by omega) (by omega),Option.bind_some]
  by_cases h:gt l a.toNat=0
  ·rw [h,show ((0:Int) == 0)=true from rfl,cond_true,aM (by omega) (by omega)]
   refine ih g (a+1) (by omega) (by omega) (by omega) λm hm=>?_
   by_cases e:m=a.toNat
   ·subst e;exact h
   ·exact h1 m (by omega)
  ·rw [show (gt l a.toNat == 0)=false from beq_eq_false_iff_ne.2 h,cond_false]
   exact specForm_b hl hlow ha h1 (λ_=>h) (l.length - a).toNat F l.length (by omega) (by omega) (by omega) (λn h=>gt_out (by omega))
theorem specForm {low:Int} {l:List Int} (hF:5000000<F) (hl:l.length<=2000) (hlow:-1000000<=low/\low<=1000000):∃ r,ar.p F low l=some r/\Form low l r:=
 specForm_a hF hl hlow l.length F 0 (by omega) (by omega) (by omega) (λn h=>by omega)
theorem Form.trans {low low':Int} {l l':List Int} {r:Int×List Int} (h:Form low' l' r) (he:∀ e,co low' l' e=co low l e) (hl:l'.length<=l.length):Form low l r:=
 ⟨h.1,λe=>(h.2.1 e).trans (he e),by have:=h.2.2;omega⟩
theorem implNorm_b {low:Int} (hlow:-2000000<=low/\low<=2000000):∀ (n g:Nat) (l:List Int),l.length=n->n<g->n<=2000->(l≠[]->gt l 0≠0) ->
  ∃ r,au.pl14 F g low l=some r/\Form low l r:=by
 intro n
 induction n with
 | zero=>
  intro g l hn hg hl h0
  obtain ⟨g,rfl⟩:∃ g',g=g'+1:=⟨g - 1,by omega⟩
  obtain rfl:=List.length_eq_zero_iff.1 hn
  rw [au.pl14,decide_eq_false (by decide),cond_false]
  exact ⟨_,rfl,form_nil λn=>gt_out (Nat.zero_le _)⟩
 | succ n ih=>
  intro g l hn hg hl h0
  obtain ⟨g,rfl⟩:∃ g',g=g'+1:=⟨g - 1,by omega⟩
  rw [au.pl14,decide_eq_true (by omega),cond_true,aM (by omega) (by omega),ix_of (by omega) (by omega),Option.bind_some]
  have hne:l≠[]:=λh=>by rw [h] at hn;cases hn
  by_cases h:gt l ((l.length:Int) - 1).toNat=0
  ·rw [h,show ((0:Int) == 0)=true from rfl,cond_true,cutf_of (by omega) (by omega) (by omega),Option.bind_some]
   have hh:((l.take ((l.length:Int) - 1).toNat).drop (0:Int).toNat)=l.take n:=by rw [show ((l.length:Int) - 1).toNat=n by omega];rfl
   rw [hh]
   obtain ⟨r,e,hr⟩:=ih g (l.take n) (by rw [List.length_take];omega) (by omega) (by omega) (λhne2=>by
    have:gt (l.take n) 0=gt l 0:=by
     have hn0:0<n:=by
      rcases Nat.eq_zero_or_pos n with e | e
      ·exact absurd (by rw [e];rfl) hne2
      ·exact e
     unfold gt;simp only [List.getD_eq_getElem?_getD];rw [List.getElem?_take_of_lt hn0]
    rw [this];exact h0 hne)
   refine ⟨r,e,hr.trans (λx=>?_) (by rw [List.length_take];omega)⟩
   have:=rU (low:=low) (l:=l) (a:=0) (b:=n) (by omega) (by omega) (λi hi=>by omega) (λi hi=>by
    by_cases e:i=n
    ·subst e;rw [show ((l.length:Int) - 1).toNat=i by omega] at h;exact h
    ·exact gt_out (by omega)) x
   rw [show low+((0:Nat):Int)=low by omega,List.drop_zero] at this
   exact this
  ·rw [show (gt l ((l.length:Int) - 1).toNat == 0)=false from beq_eq_false_iff_ne.2 h,cond_false]
   unfold au.pj1 cn.p
   rw [show ((l.length:Int) == 0)=false from beq_eq_false_iff_ne.2 (by omega),cond_false,apn_nil (by omega),Option.bind_some]
   refine ⟨_,rfl,?_⟩
   have:=form_cut (low:=low) (l:=l) (a:=0) (b:=l.length) (by omega) (by omega) (by omega) (λn h=>by omega) (λn h=>gt_out (by omega)) (h0 hne) h
   rw [Int.add_zero,Int.toNat_natCast,List.take_length] at this
   exact this
theorem implNorm_a (hF:5000000<F):∀ (n g:Nat) (low:Int) (l:List Int),l.length=n->n<g->n<=2000->-1000000<=low->low+n<=1002000 ->
  ∃ r,au.pl6 F g low l=some r/\Form low l r:=by
 intro n
 induction n with
 | zero=>
  intro g low l hn hg hl h0 h1
  obtain ⟨g,rfl⟩:∃ g',g=g'+1:=⟨g - 1,by omega⟩
  rw [au.pl6,decide_eq_false (by omega),cond_false]
  exact implNorm_b ⟨by omega,by omega⟩ 0 F l hn (by omega) (by omega) (λh=>absurd (List.length_eq_zero_iff.1 hn) h)
 | succ n ih=>
  intro g low l hn hg hl h0 h1
  obtain ⟨g,rfl⟩:∃ g',g=g'+1:=⟨g - 1,by omega⟩
  rw [au.pl6,decide_eq_true (by omega),cond_true,ix_of (by omega) (by omega),Option.bind_some]
  by_cases h:gt l (0:Int).toNat=0
  ·rw [h,show ((0:Int) == 0)=true from rfl,cond_true,cutf_of (by omega) (by omega) (by omega),Option.bind_some,aM (by omega) (by omega),Int.toNat_natCast,List.take_length]
   obtain ⟨r,e,hr⟩:=ih g (low+1) (l.drop (1:Int).toNat) (by rw [List.length_drop,hn];rfl) (by omega) (by omega) (by omega) (by omega)
   refine ⟨r,e,hr.trans (λx=>?_) (by rw [List.length_drop];omega)⟩
   have:=rU (low:=low) (l:=l) (a:=1) (b:=l.length) (by omega) (by omega) (λi hi=>by rw [show i=0 by omega];exact h) (λi hi=>gt_out (by omega)) x
   rw [List.take_length] at this
   exact this
  ·rw [show (gt l (0:Int).toNat == 0)=false from beq_eq_false_iff_ne.2 h,cond_false]
   exact implNorm_b ⟨by omega,by omega⟩ (n+1) F l hn (by omega) (by omega) (λ_=>h)
theorem implNorm {low:Int} {l:List Int} (hF:5000000<F) (hl:l.length<=2000) (hlow:-1000000<=low/\low<=1000000):∃ r,au.p F low l=some r/\Form low l r:=
 implNorm_a hF l.length F low l rfl (by omega) (by omega) (by omega) (by omega)
end Go.Proofs.Yteeahaikelpkpaa.AE
end
section
namespace Go.Proofs.Yteeahaikelpkpaa.AE
open Go Go.AE Go.Proofs
variable {F:Nat} {i j k:Int}
def adl (x:List Int) (off:Int) (y:List Int) (i0:Int) (n:Nat):Int:=gt x n+(if off+i0<=n/\(n:Int)<off+y.length then gt y (n - off).toNat else 0)
def Sm (x:List Int) (m:Int):Prop:=∀ n:Nat,-m<=gt x n/\gt x n<=m
theorem Sm.le {x:List Int} {m m':Int} (h:Sm x m) (hm:m<=m'):Sm x m':=λn=>by have:=h n;omega
theorem adl_step {x y:List Int} {off i0 v:Int} (ho:0<=off) (hi:0<=i0) (hiy:i0<y.length) (hx:off+y.length<=x.length) (hv:v=gt x (off+i0).toNat+gt y i0.toNat) (n:Nat) :
  adl (x.set (off+i0).toNat v) off y (i0+1) n=adl x off y i0 n:=by
 unfold adl
 by_cases e:n=(off+i0).toNat
 ·subst e
  rw [gt_set_eq (by omega),if_neg (by omega),if_pos (by omega),hv,show (((off+i0).toNat:Int) - off).toNat=i0.toNat by omega];omega
 ·rw [gt_set_ne (Ne.symm e)]
  by_cases c:off+(i0+1)<=n/\(n:Int)<off+y.length
  ·rw [if_pos c,if_pos (by omega)]
  ·rw [if_neg c,if_neg (by omega)]
theorem adl_end {x y:List Int} {off i0:Int} (h:y.length<=i0) (n:Nat):adl x off y i0 n=gt x n:=by
 unfold adl;rw [if_neg (by omega)];omega
theorem Aq {plow low:Int} {y:List Int} {ql:Int} {q:List Int} (h0:0<=plow - low) (h1:plow - low<=100000) (hp:-1000000<=plow/\plow<=1000000) (hlow:-1000000<=low/\low<=1000000) (hy:y.length<=2000) (hys:Sm y 4000000000000):∀ (n g:Nat) (x:List Int) (i0:Int),y.length - i0=n->n<g->0<=i0->plow - low+y.length<=x.length->(∀ n:Nat,(-4000000000000<=gt x n/\gt x n<=4000000000000)\/(n:Int)<plow - low+i0) ->
  ∃ x',aq.pl509 F g plow y ql q low x i0=aq.pj2 F ql q low x'/\x'.length=x.length/\∀ n,gt x' n=adl x (plow - low) y i0 n:=by
 intro n
 induction n with
 | zero=>
  intro g x i0 hn hg hi hx hs
  obtain ⟨g,rfl⟩:∃ g',g=g'+1:=⟨g - 1,by omega⟩
  rw [aq.pl509,decide_eq_false (by omega),cond_false]
  exact ⟨x,rfl,rfl,λn=>(adl_end (by omega) n).symm⟩
 | succ n ih=>
  intro g x i0 hn hg hi hx hs
  obtain ⟨g,rfl⟩:∃ g',g=g'+1:=⟨g - 1,by omega⟩
  rw [aq.pl509,decide_eq_true (by omega),cond_true]
  have s1:=hys i0.toNat
  have s2:-4000000000000<=gt x (plow - low+i0).toNat/\gt x (plow - low+i0).toNat<=4000000000000:=by
   rcases hs (plow - low+i0).toNat with h | h
   ·exact h
   ·omega
  rw [aM (x:=plow - low) (by omega) (by omega),aM (x:=plow - low+i0) (by omega) (by omega),ix_of (by omega) (by omega),Option.bind_some,ix_of (by omega) (by omega),Option.bind_some,Option.bind_some,Option.bind_some,aM (x:=i0+1) (by omega) (by omega),aM (by omega) (by omega)]
  obtain ⟨x',e,e1,e2⟩:=ih g (x.set (plow - low+i0).toNat (gt x (plow - low+i0).toNat+gt y i0.toNat)) (i0+1) (by omega) (by omega) (by omega) (by rw [List.length_set];omega) (λm=>by
   by_cases c:m=(plow - low+i0).toNat
   ·exact .inr (by omega)
   ·rw [gt_set_ne (Ne.symm c)];rcases hs m with h | h
    ·exact .inl h
    ·exact .inr (by omega))
  exact ⟨x',e,by rw [e1,List.length_set],λm=>by rw [e2 m,adl_step h0 hi (by omega) hx rfl]⟩
theorem Ar {plow low:Int} {y:List Int} (h0:0<=plow - low) (h1:plow - low<=100000) (hp:-1000000<=plow/\plow<=1000000) (hlow:-1000000<=low/\low<=1000000) (hy:y.length<=2000) (hys:Sm y 4000000000000):∀ (n g:Nat) (x:List Int) (i0:Int),y.length - i0=n->n<g->0<=i0->plow - low+y.length<=x.length->(∀ n:Nat,(-8000000000000<=gt x n/\gt x n<=8000000000000)\/(n:Int)<plow - low+i0) ->
  ∃ x',aq.pl1021 F g plow y low x i0=aq.pj1 F low x'/\x'.length=x.length/\∀ n,gt x' n=adl x (plow - low) y i0 n:=by
 intro n
 induction n with
 | zero=>
  intro g x i0 hn hg hi hx hs
  obtain ⟨g,rfl⟩:∃ g',g=g'+1:=⟨g - 1,by omega⟩
  rw [aq.pl1021,decide_eq_false (by omega),cond_false]
  exact ⟨x,rfl,rfl,λn=>(adl_end (by omega) n).symm⟩
 | succ n ih=>
  intro g x i0 hn hg hi hx hs
  obtain ⟨g,rfl⟩:∃ g',g=g'+1:=⟨g - 1,by omega⟩
  rw [aq.pl1021,decide_eq_true (by omega),cond_true]
  have s1:=hys i0.toNat
  have s2:-8000000000000<=gt x (plow - low+i0).toNat/\gt x (plow - low+i0).toNat<=8000000000000:=by
   rcases hs (plow - low+i0).toNat with h | h
   ·exact h
   ·omega
  rw [aM (x:=plow - low) (by omega) (by omega),aM (x:=plow - low+i0) (by omega) (by omega),ix_of (by omega) (by omega),Option.bind_some,ix_of (by omega) (by omega),Option.bind_some,Option.bind_some,Option.bind_some,aM (x:=i0+1) (by omega) (by omega),aM (by omega) (by omega)]
  obtain ⟨x',e,e1,e2⟩:=ih g (x.set (plow - low+i0).toNat (gt x (plow - low+i0).toNat+gt y i0.toNat)) (i0+1) (by omega) (by omega) (by omega) (by rw [List.length_set];omega) (λm=>by
   by_cases c:m=(plow - low+i0).toNat
   ·exact .inr (by omega)
   ·rw [gt_set_ne (Ne.symm c)];rcases hs m with h | h
    ·exact .inl h
    ·exact .inr (by omega))
  exact ⟨x',e,by rw [e1,List.length_set],λm=>by rw [e2 m,adl_step h0 hi (by omega) hx rfl]⟩
theorem vN {plow low c1:Int} {y:List Int} {v:List (Int×List Int)} {a b:Int} {pC} (h0:0<=plow - low) (h1:plow - low<=100000) (hp:-1000000<=plow/\plow<=1000000) (hlow:-1000000<=low/\low<=1000000) (hy:y.length<=2000) (hys:Sm y 4000000000000):∀ (n g:Nat) (x:List Int) (i0:Int),y.length - i0=n->n<g->0<=i0->plow - low+y.length<=x.length->(∀ n:Nat,(-8000000000000<=gt x n/\gt x n<=8000000000000)\/(n:Int)<plow - low+i0) ->
  ∃ x',ap.pl8027 F pC g low c1 x v a b plow y y.length i0=pC low c1 x' v a (IntKind.i64.wrap (b+1))/\x'.length=x.length/\∀ n,gt x' n=adl x (plow - low) y i0 n:=by
 intro n
 induction n with
 | zero=>
  intro g x i0 hn hg hi hx hs
  obtain ⟨g,rfl⟩:∃ g',g=g'+1:=⟨g - 1,by omega⟩
  rw [ap.pl8027,decide_eq_false (by omega),cond_false]
  exact ⟨x,rfl,rfl,λn=>(adl_end (by omega) n).symm⟩
 | succ n ih=>
  intro g x i0 hn hg hi hx hs
  obtain ⟨g,rfl⟩:∃ g',g=g'+1:=⟨g - 1,by omega⟩
  rw [ap.pl8027,decide_eq_true (by omega),cond_true]
  have s1:=hys i0.toNat
  have s2:-8000000000000<=gt x (plow - low+i0).toNat/\gt x (plow - low+i0).toNat<=8000000000000:=by
   rcases hs (plow - low+i0).toNat with h | h
   ·exact h
   ·omega
  rw [aM (x:=plow - low) (by omega) (by omega),aM (x:=plow - low+i0) (by omega) (by omega),ix_of (by omega) (by omega),Option.bind_some,ix_of (by omega) (by omega),Option.bind_some,Option.bind_some,Option.bind_some,aM (x:=i0+1) (by omega) (by omega),aM (by omega) (by omega)]
  obtain ⟨x',e,e1,e2⟩:=ih g (x.set (plow - low+i0).toNat (gt x (plow - low+i0).toNat+gt y i0.toNat)) (i0+1) (by omega) (by omega) (by omega) (by rw [List.length_set];omega) (λm=>by
   by_cases c:m=(plow - low+i0).toNat
   ·exact .inr (by omega)
   ·rw [gt_set_ne (Ne.symm c)];rcases hs m with h | h
    ·exact .inl h
    ·exact .inr (by omega))
  exact ⟨x',e,by rw [e1,List.length_set],λm=>by rw [e2 m,adl_step h0 hi (by omega) hx rfl]⟩
theorem co_adl {x x' y:List Int} {low plow:Int} (h0:0<=plow - low) (hx':∀ n,gt x' n=adl x (plow - low) y 0 n) (e:Int):co low x' e=co low x e+co plow y e:=by
 by_cases c:low<=e
 ·obtain ⟨n,rfl⟩:∃ n:Nat,e=low+n:=⟨(e - low).toNat,by omega⟩
  rw [eW,eW,<-gt_def,<-gt_def,hx' n]
  unfold adl
  congr 1
  by_cases h:plow - low+0<=n/\(n:Int)<plow - low+y.length
  ·rw [if_pos h]
   unfold co
   rw [if_pos (by omega),gt_def,show ((n:Int) - (plow - low)).toNat=(low+n - plow).toNat by omega]
  ·rw [if_neg h]
   by_cases h2:plow<=low+n
   ·rw [nG (by omega)]
   ·rw [hG (by omega)]
 ·rw [hG (by omega),hG (by omega),hG (by omega)];rfl
theorem co_zero (low:Int) (n:Nat) (e:Int):co low (List.replicate n (0:Int)) e=0:=by
 unfold co;split
 ·rw [List.getD_eq_getElem?_getD,List.getElem?_replicate];split <;> rfl
 ·rfl
theorem gt_zero (n m:Nat):gt (List.replicate n (0:Int)) m=0:=by
 unfold gt;rw [List.getD_eq_getElem?_getD,List.getElem?_replicate];split <;> rfl
theorem Sm.adl {x x' y:List Int} {off a b:Int} (hx:Sm x a) (hy:Sm y b) (hb:0<=b) (h:∀ n,gt x' n=adl x off y 0 n):Sm x' (a+b):=by
 intro n
 rw [h n]
 have:=hx n
 unfold AE.adl
 split
 ·have:=hy (n - off).toNat;omega
 ·omega
def SumOf (p:Int) (x:List Int) (q:Int) (y:List Int) (r:Int×List Int):Prop:=Trim r.1 r.2/\∀ e,co r.1 r.2 e=co p x e+co q y e
theorem specSum {p q:Int} {x y:List Int} (hF:5000000<F) (hx:x.length<=500) (hy:y.length<=500) (hp:-600<=p/\p<=600) (hq:-600<=q/\q<=600) (hxs:Sm x 1000000000000) (hys:Sm y 1000000000000) :
  ∃ r,aq.p F p x q y=some r/\SumOf p x q y r:=by
 unfold aq.p
 by_cases h1:x.length=0
 ·rw [show ((x.length:Int) == 0)=true from beq_iff_eq.2 (by omega),cond_true]
  obtain ⟨r,e,hr⟩:=specForm (F:=F) (low:=q) (l:=y) hF (by omega) (by omega)
  rw [e,Option.bind_some]
  obtain rfl:=List.length_eq_zero_iff.1 h1
  exact ⟨_,rfl,hr.1,λe=>by rw [hr.2.1 e,gC];omega⟩
 ·rw [show ((x.length:Int) == 0)=false from beq_eq_false_iff_ne.2 (by omega),cond_false]
  by_cases h2:y.length=0
  ·rw [show ((y.length:Int) == 0)=true from beq_iff_eq.2 (by omega),cond_true]
   obtain ⟨r,e,hr⟩:=specForm (F:=F) (low:=p) (l:=x) hF (by omega) (by omega)
   rw [e,Option.bind_some]
   obtain rfl:=List.length_eq_zero_iff.1 h2
   exact ⟨_,rfl,hr.1,λe=>by rw [hr.2.1 e,gC];omega⟩
  ·rw [show ((y.length:Int) == 0)=false from beq_eq_false_iff_ne.2 (by omega),cond_false]
   rw [aM (x:=q+y.length) (by omega) (by omega),aM (x:=p+x.length) (by omega) (by omega)]
   obtain ⟨low,hlow⟩:∃ low,low=if q<p then q else p:=⟨_,rfl⟩
   obtain ⟨hi,hhi⟩:∃ hi,hi=if q+(y.length:Int)>p+x.length then q+(y.length:Int) else p+x.length:=⟨_,rfl⟩
   rw [<- hlow,<-hhi]
   have g1:low<=q/\low<=p/\-600<=low:=by rw [hlow];split <;> omega
   have g2:q+(y.length:Int)<=hi/\p+(x.length:Int)<=hi/\hi<=1100:=by rw [hhi];split <;> omega
   rw [aM (x:=hi - low) (by omega) (by omega)]
   unfold mkn
   rw [if_pos (by omega),Option.bind_some]
   obtain ⟨z1,f1,f2,f3⟩:=Aq (F:=F) (ql:=q) (q:=y) (plow:=p) (low:=low) (y:=x) (by omega) (by omega) (by omega) (by omega) (by omega) (hxs.le (by omega)) x.length F (List.replicate (hi - low).toNat 0) 0 (by omega) (by omega) (by omega) (by rw [List.length_replicate];omega) (λn=>.inl (by rw [gt_zero];omega))
   have sz1:Sm z1 1000000000000:=by
    have:=Sm.adl (x:=List.replicate (hi - low).toNat 0) (a:=0) (λn=>by rw [gt_zero];omega) hxs (by omega) f3
    exact this.le (by omega)
   rw [f1]
   unfold aq.pj2
   obtain ⟨z2,e1,e2,e3⟩:=Ar (F:=F) (plow:=q) (low:=low) (y:=y) (by omega) (by omega) (by omega) (by omega) (by omega) (hys.le (by omega)) y.length F z1 0 (by omega) (by omega) (by omega) (by rw [f2,List.length_replicate];omega) (λn=>.inl (by have:=sz1 n;omega))
   rw [e1]
   unfold aq.pj1
   obtain ⟨r,e,hr⟩:=specForm (F:=F) (low:=low) (l:=z2) hF (by rw [e2,f2,List.length_replicate];omega) (by omega)
   rw [e,Option.bind_some]
   exact ⟨_,rfl,hr.1,λe=>by rw [hr.2.1 e,co_adl (by omega) e3 e,co_adl (by omega) f3 e,co_zero];omega⟩
end Go.Proofs.Yteeahaikelpkpaa.AE
end
section
namespace Go.Proofs.Yteeahaikelpkpaa.AE
open Go Go.AE Go.Proofs
variable {F:Nat} {i j k:Int}
def Lau (low:Int) (l:List Int):Prop:=(l.length=0->low=0)/\l.length<=160/\-240<=low/\low+l.length<=241/\low<=240/\Sm l 1000000000000/\(l.length≠0->gt l 0≠0/\gt l (l.length - 1)≠0)
theorem ix_of' {α:Type} {l:List α} {i:Int} (h:0<=i/\i<l.length):ix l i=some i.toNat:=by
 unfold ix;rw [if_pos h]
theorem idx_226 {l:List Int} (hl:l.length<=160) (hs:Sm l 1000000000000):∀ (n g:Nat) (i:Int),l.length - i=n->n<g->0<=i->aV.pl13 F g l l.length i=some (-1):=by
 intro n
 induction n with
 | zero=>
  intro g i hn hg hi
  obtain ⟨g,rfl⟩:∃ g',g=g'+1:=⟨g - 1,by omega⟩
  rw [aV.pl13,decide_eq_false (by omega),cond_false]
 | succ n ih=>
  intro g i hn hg hi
  obtain ⟨g,rfl⟩:∃ g',g=g'+1:=⟨g - 1,by omega⟩
  rw [aV.pl13,decide_eq_true (by omega),cond_true,ix_of hi (by omega),Option.bind_some]
  unfold cA.p
  rw [rl,Option.bind_some,Option.bind_some,decide_eq_true (show InR _ _ _ from hs i.toNat),Bool.not_true,cond_false,aM (by omega) (by omega)]
  exact ih g (i+1) (by omega) (by omega) (by omega)
theorem high_of {low:Int} {l:List Int} (hl:l.length<=2000) (h:-1000000<=low/\low<=1000000):bp.p F low l=some (low+l.length - 1):=by
 unfold bp.p c_.p
 rw [Option.bind_some,aM (x:=low+l.length) (by omega) (by omega),aM (by omega) (by omega)]
theorem isLau {low:Int} {l:List Int} (hF:5000000<F) (h:Lau low l):bO.p F low l=some true:=by
 obtain ⟨h1,h2,h3,h4,h5,h6,h7⟩:=h
 unfold bO.p
 by_cases h0:l.length=0
 ·rw [show ((l.length:Int) == 0)=true from beq_iff_eq.2 (by omega),cond_true,h1 h0];rfl
 ·obtain ⟨a,b⟩:=h7 h0
  rw [show ((l.length:Int) == 0)=false from beq_eq_false_iff_ne.2 (by omega),cond_false,decide_eq_true (by omega),cond_true,ix_of (by omega) (by omega),Option.bind_some]
  rw [show (gt l (0:Int).toNat != 0)=true from bne_iff_ne.2 a,cond_true,aM (by omega) (by omega),ix_of (by omega) (by omega),Option.bind_some]
  rw [show (gt l ((l.length:Int) - 1).toNat != 0)=true from bne_iff_ne.2 (by rw [show ((l.length:Int) - 1).toNat=l.length - 1 by omega];exact b),cond_true,decide_eq_true (by omega),cond_true,high_of (by omega) (by omega),Option.bind_some,decide_eq_true (by omega),cond_true,decide_eq_true (by omega),cond_true]
  unfold cK.p aV.p
  rw [idx_226 h2 h6 l.length F 0 (by omega) (by omega) (by omega)]
  rfl
theorem areLau {p q:Int} {x y:List Int} (hF:5000000<F) (h1:Lau p x) (h2:Lau q y):bP.p F [(p,x),(q,y)]=some true:=by
 unfold bP.p cL.p aT.p
 obtain ⟨f,rfl⟩:∃ f,F=f+3:=⟨F - 3,by omega⟩
 have e1:=isLau (F:=f+3) (by omega) h1
 have e2:=isLau (F:=f+3) (by omega) h2
 have hx:aT.pl13 (f+3) (f+3) [(p,x),(q,y)] (([(p,x),(q,y)]:List (Int×List Int)).length:Int) 0=some (-1):=by
  rw [aT.pl13,decide_eq_true (by simp),cond_true,ix_of' (by simp),Option.bind_some]
  unfold cp.p
  rw [show gt [(p,x),(q,y)] (0:Int).toNat=(p,x) from rfl]
  simp only []
  rw [e1,Option.bind_some,Option.bind_some,Bool.not_true,cond_false,aM (by omega) (by omega)]
  rw [aT.pl13,decide_eq_true (by simp),cond_true,ix_of' (by simp),Option.bind_some]
  unfold cp.p
  rw [show gt [(p,x),(q,y)] (0+1:Int).toNat=(q,y) from rfl]
  simp only []
  rw [e2,Option.bind_some,Option.bind_some,Bool.not_true,cond_false,aM (by omega) (by omega)]
  rw [aT.pl13,decide_eq_false (by simp),cond_false]
 rw [hx];rfl
theorem implSum {p q:Int} {x y:List Int} (hF:5000000<F) (h1:Lau p x) (h2:Lau q y) (H:∀ r,SumOf p x q y r->Lau r.1 r.2) :
  ∃ r,bH.p F p x q y=some r/\SumOf p x q y r:=by
 have a:=areLau hF h1 h2
 obtain ⟨a1,a2,a3,a4,a5,a6,a7⟩:=h1
 obtain ⟨b1,b2,b3,b4,b5,b6,b7⟩:=h2
 unfold bH.p ap.p
 rw [a,Option.bind_some,Bool.not_true,cond_false,high_of (by omega) (by omega),Option.bind_some,high_of (by omega) (by omega),Option.bind_some]
 obtain ⟨low,hlow⟩:∃ low,low=if q<p then q else p:=⟨_,rfl⟩
 obtain ⟨hi,hhi⟩:∃ hi,hi=if q+(y.length:Int) - 1>p+x.length - 1 then q+(y.length:Int) - 1 else p+x.length - 1:=⟨_,rfl⟩
 rw [<- hlow,<-hhi]
 have g1:low<=q/\low<=p/\-240<=low:=by rw [hlow];split <;> omega
 have g2:q+(y.length:Int) - 1<=hi/\p+(x.length:Int) - 1<=hi/\hi<=240:=by rw [hhi];split <;> omega
 obtain ⟨top,htop⟩:∃ top,top=if low>hi then low else hi:=⟨_,rfl⟩
 rw [<- htop]
 have g3:low<=top/\hi<=top/\top<=240:=by rw [htop];split <;> omega
 rw [aM (x:=top - low) (by omega) (by omega),aM (x:=top - low+1) (by omega) (by omega)]
 unfold mkn
 rw [if_pos (by omega),Option.bind_some]
 obtain ⟨f,hf⟩:∃ f,F=f+3:=⟨F - 3,by omega⟩
 have lp:∃ z2,ap.pl125 F F low low (List.replicate (top - low+1).toNat 0) [(p,x),(q,y)] 2 0=ap.pj3 F low z2/\z2.length=(top - low+1).toNat/\∀ e,co low z2 e=co p x e+co q y e:=by
  rw [show ap.pl125 F F low low (List.replicate (top - low+1).toNat 0) [(p,x),(q,y)] 2 0=ap.pl125 F (f+3) low low (List.replicate (top - low+1).toNat 0) [(p,x),(q,y)] 2 0 by rw [hf]]
  rw [ap.pl125,decide_eq_true (by omega),cond_true,ix_of' (by simp),Option.bind_some]
  rw [show gt [(p,x),(q,y)] (0:Int).toNat=(p,x) from rfl]
  simp only []
  obtain ⟨z1,f1,f2,f3⟩:=vN (F:=F) (c1:=low) (v:=[(p,x),(q,y)]) (a:=2) (b:=0) (pC:=ap.pl125 F (f+2)) (plow:=p) (low:=low) (y:=x) (by omega) (by omega) (by omega) (by omega) (by omega) (a6.le (by omega)) x.length F (List.replicate (top - low+1).toNat 0) 0 (by omega) (by omega) (by omega) (by rw [List.length_replicate];omega) (λn=>.inl (by rw [gt_zero];omega))
  have sz1:Sm z1 1000000000000:=by
   have:=Sm.adl (x:=List.replicate (top - low+1).toNat 0) (a:=0) (λn=>by rw [gt_zero];omega) a6 (by omega) f3
   exact this.le (by omega)
  rw [f1,aM (by omega) (by omega)]
  rw [ap.pl125,decide_eq_true (by omega),cond_true,ix_of' (by simp),Option.bind_some]
  rw [show gt [(p,x),(q,y)] (0+1:Int).toNat=(q,y) from rfl]
  simp only []
  obtain ⟨z2,e1,e2,e3⟩:=vN (F:=F) (c1:=low) (v:=[(p,x),(q,y)]) (a:=2) (b:=0+1) (pC:=ap.pl125 F (f+1)) (plow:=q) (low:=low) (y:=y) (by omega) (by omega) (by omega) (by omega) (by omega) (b6.le (by omega)) y.length F z1 0 (by omega) (by omega) (by omega) (by rw [f2,List.length_replicate];omega) (λn=>.inl (by have:=sz1 n;omega))
  rw [e1,aM (by omega) (by omega)]
  rw [ap.pl125,decide_eq_false (by omega),cond_false]
  exact ⟨z2,rfl,by rw [e2,f2,List.length_replicate],λe=>by rw [co_adl (by omega) e3 e,co_adl (by omega) f3 e,co_zero];omega⟩
 obtain ⟨z2,e1,e2,e3⟩:=lp
 rw [e1]
 unfold ap.pj3 bS.p
 obtain ⟨r,e,hr⟩:=implNorm (F:=F) (low:=low) (l:=z2) hF (by omega) (by omega)
 have hs:SumOf p x q y r:=⟨hr.1,λe=>by rw [hr.2.1 e,e3 e]⟩
 rw [e,Option.bind_some,isLau hF (H r hs),Option.bind_some]
 exact ⟨_,rfl,hs⟩
theorem Trim.one {e c:Int} (hc:c≠0):Trim e [c]:=⟨λh=>(by cases h),λ_=>hc,λ_=>hc⟩
theorem mono_of {e c:Int} (hF:5000000<F) (hc:c≠0) (he:-1000<=e/\e<=1000):bG.p F c e=some (e,[c]):=by
 unfold bG.p
 obtain ⟨r,h,hr⟩:=implNorm (F:=F) (low:=e) (l:=[c]) hF (by simp) (by omega)
 rw [h,Option.bind_some]
 obtain ⟨q1,q2⟩:=hr.1.unique (Trim.one hc) hr.2.1
 rw [q1,q2]
end Go.Proofs.Yteeahaikelpkpaa.AE
end
section
namespace Go.Proofs.Yteeahaikelpkpaa.AE
open Go Go.AE Go.Proofs
variable {F:Nat} {i j k:Int}
def Letter (x:Int):Prop:=x≠0/\-24<=x/\x<=24
def Letters (l:List Int) (i:Int):Prop:=∀ n:Nat,i<=n->n<l.length->Letter (gt l n)
theorem rm {l:List Int} (hl:l.length<=2000000):∀ (n g:Nat) (i:Int),l.length - i=n->n<g->0<=i ->
  ∃ b,aD.pl13 F g l i=some b/\(b=true↔Letters l i/\l.length<=120):=by
 intro n
 induction n with
 | zero=>
  intro g i hn hg hi
  obtain ⟨g,rfl⟩:∃ g',g=g'+1:=⟨g - 1,by omega⟩
  rw [aD.pl13,decide_eq_false (by omega),cond_false]
  unfold aD.pj1
  exact ⟨_,rfl,by rw [decide_eq_true_iff];exact ⟨λh=>⟨λn h1 h2=>by omega,by omega⟩,λh=>by omega⟩⟩
 | succ n ih=>
  intro g i hn hg hi
  obtain ⟨g,rfl⟩:∃ g',g=g'+1:=⟨g - 1,by omega⟩
  rw [aD.pl13,decide_eq_true (by omega),cond_true,ix_of hi (by omega),Option.bind_some]
  by_cases h0:gt l i.toNat=0
  ·rw [show (gt l i.toNat == 0)=true from beq_iff_eq.2 h0,cond_true]
   exact ⟨_,rfl,⟨λh=>(by cases h),λh=>absurd h0 (h.1 i.toNat (by omega) (by omega)).1⟩⟩
  ·rw [show (gt l i.toNat == 0)=false from beq_eq_false_iff_ne.2 h0,cond_false,Option.bind_some,kl,Option.bind_some]
   by_cases h:InR (gt l i.toNat) (-24) 24
   ·rw [decide_eq_true h,Bool.not_true,cond_false,aM (by omega) (by omega)]
    obtain ⟨b,e,hb⟩:=ih g (i+1) (by omega) (by omega) (by omega)
    refine ⟨b,e,hb.trans ⟨λ⟨h1,h2⟩=>⟨λa h3 h4=>?_,h2⟩,λ⟨h1,h2⟩=>⟨λa h3 h4=>h1 a (by omega) h4,h2⟩⟩⟩
    by_cases e:a=i.toNat
    ·subst e;exact ⟨h0,h.1,h.2⟩
    ·exact h1 a (by omega) h4
   ·rw [decide_eq_false h,Bool.not_false,cond_true]
    exact ⟨_,rfl,⟨λh=>(by cases h),λh1=>absurd (h1.1 i.toNat (by omega) (by omega)).2 h⟩⟩
theorem letter_p {x:Int} (hx:-9223372036854775808<=x/\x<=9223372036854775807):∃ b,bX.p F x 24=some b/\(b=true↔¬ Letter x):=by
 unfold bX.p
 by_cases h0:x=0
 ·rw [show (x == 0)=true from beq_iff_eq.2 h0,cond_true]
  exact ⟨_,rfl,⟨λ_ h=>h.1 h0,λ_=>rfl⟩⟩
 ·rw [show (x == 0)=false from beq_eq_false_iff_ne.2 h0,cond_false]
  unfold cZ.p
  by_cases hn:x<0
  ·rw [decide_eq_true hn,cond_true,Option.bind_some]
   by_cases hm:x=-9223372036854775808
   ·subst hm
    exact ⟨true,by decide,⟨λ_ h=>by have:=h.2.1;omega,λ_=>rfl⟩⟩
   ·rw [aM (x:=0 - x) (by omega) (by omega),aM (x:=0 - 24) (by omega) (by omega)]
    by_cases hb:0 - x>24
    ·rw [decide_eq_true hb,cond_true]
     exact ⟨_,rfl,⟨λ_ h=>by have:=h.2.1;omega,λ_=>rfl⟩⟩
    ·rw [decide_eq_false hb,cond_false]
     exact ⟨_,rfl,by rw [decide_eq_true_iff];exact ⟨λh=>by omega,λh=>absurd ⟨h0,by omega,by omega⟩ h⟩⟩
  ·rw [decide_eq_false hn,cond_false,Option.bind_some,aM (x:=0 - 24) (by omega) (by omega)]
   by_cases hb:x>24
   ·rw [decide_eq_true hb,cond_true]
    exact ⟨_,rfl,⟨λ_ h=>by have:=h.2.2;omega,λ_=>rfl⟩⟩
   ·rw [decide_eq_false hb,cond_false]
    exact ⟨_,rfl,by rw [decide_eq_true_iff];exact ⟨λh=>by omega,λh=>absurd ⟨h0,by omega,by omega⟩ h⟩⟩
theorem As {l:List Int} (hl:l.length<=2000000) (hw:∀ n:Nat,-9223372036854775808<=gt l n/\gt l n<=9223372036854775807):∀ (n g:Nat) (i:Int),l.length - i=n->n<g->0<=i ->
  ∃ r:Int,aU.pl13 F g l 24 l.length i=some r/\(¬ r>=0↔Letters l i):=by
 intro n
 induction n with
 | zero=>
  intro g i hn hg hi
  obtain ⟨g,rfl⟩:∃ g',g=g'+1:=⟨g - 1,by omega⟩
  rw [aU.pl13,decide_eq_false (by omega),cond_false]
  exact ⟨_,rfl,⟨λ_ n h1 h2=>by omega,λ_=>by decide⟩⟩
 | succ n ih=>
  intro g i hn hg hi
  obtain ⟨g,rfl⟩:∃ g',g=g'+1:=⟨g - 1,by omega⟩
  rw [aU.pl13,decide_eq_true (by omega),cond_true,ix_of hi (by omega),Option.bind_some]
  obtain ⟨b,e,hb⟩:=letter_p (F:=F) (hw i.toNat)
  rw [e,Option.bind_some]
  cases b with
  | true=>
   rw [cond_true]
   exact ⟨_,rfl,⟨λh=>absurd hi h,λh=>absurd (h i.toNat (by omega) (by omega)) (hb.1 rfl)⟩⟩
  | false=>
   rw [cond_false,aM (by omega) (by omega)]
   have hlet:Letter (gt l i.toNat):=Classical.byContradiction λh=>by have:=hb.2 h;cases this
   obtain ⟨r,e,hr⟩:=ih g (i+1) (by omega) (by omega) (by omega)
   refine ⟨r,e,hr.trans ⟨λh1 a h3 h4=>?_,λh1 a h3 h4=>h1 a (by omega) h4⟩⟩
   by_cases e:a=i.toNat
   ·subst e;exact hlet
   ·exact h1 a (by omega) h4
theorem word_both {l:List Int} (hF:5000000<F) (hl:l.length<=2000000) (hw:∀ n:Nat,-9223372036854775808<=gt l n/\gt l n<=9223372036854775807) :
  ∃ b,aD.p F l=some b/\cC.p F l=some b/\(b=true->Letters l 0/\l.length<=120):=by
 obtain ⟨b,e,hb⟩:=rm (F:=F) hl l.length F 0 (by omega) (by omega) (by omega)
 unfold aD.p cC.p cJ.p cI.p aU.p
 rw [e]
 refine ⟨b,rfl,?_,hb.1⟩
 by_cases h:l.length<=120
 ·obtain ⟨r,e2,hr⟩:=As (F:=F) hl hw l.length F 0 (by omega) (by omega) (by omega)
  rw [decide_eq_true (by omega),cond_true,e2,Option.bind_some,Option.bind_some,Option.bind_some]
  congr 1
  rw [Bool.eq_iff_iff,hb,<-hr]
  simp [h]
 ·rw [decide_eq_false (by omega),cond_false,Option.bind_some]
  congr 1
  cases b with
  | false=>rfl
  | true=>exact absurd (hb.1 rfl).2 h
structure Inv (low:Int) (l:List Int) (e:Int) (n:Nat):Prop where
 trim:Trim low l
 box:∃ a b:Int,a<=0/\0<=b/\a<=e/\e<=b/\b - a<=n/\∀ x,co low l x≠0->a - 1<=x/\x<=b
 bd:∀ x,-(n:Int)<=co low l x/\co low l x<=n
theorem Inv.lau_of {low:Int} {l:List Int} (ht:Trim low l) {a b:Int} (ha:-121<=a) (ha0:a<=0) (hb0:0<=b) (hb:b<=121) (hab:b - a<=121) (hbox:∀ x,co low l x≠0->a - 1<=x/\x<=b) {n:Nat} (hn:n<=1000) (hbd:∀ x,-(n:Int)<=co low l x/\co low l x<=n):Lau low l:=by
 have hsm:Sm l 1000000000000:=by
  intro m
  have:=hbd (low+m)
  rw [eW,<-gt_def] at this
  omega
 by_cases h0:l.length=0
 ·have hl:=List.length_eq_zero_iff.1 h0
  have:=ht.nil hl
  exact ⟨λ_=>this,by omega,by omega,by omega,by omega,hsm,λh=>absurd h0 h⟩
 ·have hne:l≠[]:=λh=>h0 (by rw [h];rfl)
  have h1:=ht.first hne
  have h2:=ht.last hne
  have g1:=hbox (low+(0:Nat)) (by rw [eW];exact h1)
  have g2:=hbox (low+((l.length - 1:Nat):Int)) (by rw [eW];exact h2)
  exact ⟨λh=>absurd h h0,by omega,by omega,by omega,by omega,hsm,λ_=>⟨h1,h2⟩⟩
theorem Inv.lau {low:Int} {l:List Int} {e:Int} {n:Nat} (h:Inv low l e n) (hn:n<=120):Lau low l:=by
 obtain ⟨a,b,h1,h2,h3,h4,h5,h6⟩:=h.box
 exact lau_of h.trim (a:=a) (b:=b) (by omega) h1 h2 (by omega) (by omega) h6 (n:=n) (by omega) h.bd
theorem co_one (e c x:Int):co e [c] x=if x=e then c else 0:=by
 by_cases h:x=e
 ·subst h
  have:=eW x [c] 0
  rw [show x+((0:Nat):Int)=x by omega] at this
  rw [this,if_pos rfl];rfl
 ·rw [if_neg h]
  by_cases h2:x<e
  ·exact hG h2
  ·exact nG (by simp;omega)
theorem Inv.sum {low:Int} {l:List Int} {e e' e0 c:Int} {n:Nat} (h:Inv low l e n) (hn:n+1<=120) (he:e'=e+1\/e'=e - 1) (he0:e0=e\/e0=e - 1) (hc:c=1\/c=-1) {r:Int×List Int} (hr:SumOf low l e0 [c] r):Lau r.1 r.2/\Inv r.1 r.2 e' (n+1):=by
 obtain ⟨a,b,h1,h2,h3,h4,h5,h6⟩:=h.box
 have hco:∀ x,co r.1 r.2 x=co low l x+if x=e0 then c else 0:=λx=>by rw [hr.2 x,co_one]
 have hb:∀ x,co r.1 r.2 x≠0->a - 1<=x/\x<=b:=by
  intro x hx
  rw [hco] at hx
  by_cases hxe:x=e0
  ·omega
  ·rw [if_neg hxe,Int.add_zero] at hx
   exact h6 x hx
 have hbd:∀ x,-((n+1:Nat):Int)<=co r.1 r.2 x/\co r.1 r.2 x<=((n+1:Nat):Int):=by
  intro x
  have:=h.bd x
  rw [hco]
  split <;> omega
 refine ⟨lau_of hr.1 (a:=a) (b:=b) (by omega) h1 h2 (by omega) (by omega) hb (n:=n+1) (by omega) hbd,hr.1,?_,hbd⟩
 rcases he with he | he
 ·by_cases c:e'<=b
  ·exact ⟨a,b,h1,h2,by omega,c,by omega,hb⟩
  ·exact ⟨a,e',h1,by omega,by omega,by omega,by omega,λx hx=>by have:=hb x hx;omega⟩
 ·by_cases c:a<=e'
  ·exact ⟨a,b,h1,h2,c,by omega,by omega,hb⟩
  ·exact ⟨e',b,by omega,h2,by omega,by omega,by omega,λx hx=>by have:=hb x hx;omega⟩
theorem Inv.skip {low:Int} {l:List Int} {e e':Int} {n:Nat} (h:Inv low l e n) (he:e'=e+1\/e'=e - 1):Inv low l e' (n+1):=by
 obtain ⟨a,b,h1,h2,h3,h4,h5,h6⟩:=h.box
 refine ⟨h.trim,?_,λx=>by have:=h.bd x;omega⟩
 rcases he with he | he
 ·by_cases c:e'<=b
  ·exact ⟨a,b,h1,h2,by omega,c,by omega,h6⟩
  ·exact ⟨a,e',h1,by omega,by omega,by omega,by omega,λx hx=>by have:=h6 x hx;omega⟩
 ·by_cases c:a<=e'
  ·exact ⟨a,b,h1,h2,c,by omega,by omega,h6⟩
  ·exact ⟨e',b,by omega,h2,by omega,by omega,by omega,λx hx=>by have:=h6 x hx;omega⟩
theorem Inv.e_bd {low:Int} {l:List Int} {e:Int} {n:Nat} (h:Inv low l e n):-(n:Int)<=e/\e<=n:=by
 obtain ⟨a,b,h1,h2,h3,h4,h5,h6⟩:=h.box
 omega
theorem Sm.one {c:Int} (hc:c=1\/c=-1):Sm [c] 1000000000000:=by
 intro n
 match n with
 | 0=>show -1000000000000<=c/\c<=1000000000000;omega
 | n+1=>rw [gt_out (by simp)];omega
theorem Lau.one {e c:Int} (hc:c=1\/c=-1) (he:-200<=e/\e<=200):Lau e [c]:=
 ⟨λh=>(by cases h),by simp,by omega,by simp;omega,by omega,Sm.one hc,λ_=>⟨show c≠0 by omega,show c≠0 by omega⟩⟩
def foxc:List Int->Int->Int->Int->Int
 | [],_,_,_=>0
 | a :: w,g,e,x=>(if a=g/\x=e then 1 else if a=-g/\x=e - 1 then -1 else 0)+foxc w g (if a>0 then e+1 else e - 1) x
theorem term_both {low:Int} {l:List Int} {e e' e0 c:Int} {n:Nat} (hF:5000000<F) (h:Inv low l e n) (hn:n+1<=120) (he:e'=e+1\/e'=e - 1) (he0:e0=e\/e0=e - 1) (hc:c=1\/c=-1) :
  ∃ r:Int×List Int,aq.p F low l e0 [c]=some r/\bG.p F c e0=some (e0,[c])/\bH.p F low l e0 [c]=some r/\Inv r.1 r.2 e' (n+1)/\∀ x,co r.1 r.2 x=co low l x+(if x=e0 then c else 0):=by
 have hl:=h.lau (by omega)
 have heb:=h.e_bd
 obtain ⟨a1,a2,a3,a4,a5,a6,a7⟩:=hl
 obtain ⟨r,e1,hr⟩:=specSum (F:=F) (p:=low) (x:=l) (q:=e0) (y:=[c]) hF (by omega) (by simp) (by omega) (by omega) a6 (Sm.one hc)
 obtain ⟨r',e2,hr'⟩:=implSum (F:=F) (p:=low) (x:=l) (q:=e0) (y:=[c]) hF ⟨a1,a2,a3,a4,a5,a6,a7⟩ (Lau.one hc (by omega)) (λr hr=>(h.sum hn he he0 hc hr).1)
 have:r=r':=by
  obtain ⟨q1,q2⟩:=hr.1.unique hr'.1 (λx=>by rw [hr.2 x,hr'.2 x])
  exact Prod.ext q1 q2
 subst this
 exact ⟨r,e1,mono_of hF (by omega) (by omega),e2,(h.sum hn he he0 hc hr).2,λx=>by rw [hr.2 x,co_one]⟩
theorem fox_l {w:List Int} {g:Int} (hF:5000000<F) (hw:Letters w 0) (hl:w.length<=120) (hg:1<=g/\g<=24):∀ (n gs gi:Nat) (low:Int) (l:List Int) (e i:Int),w.length - i=n->n<gs->n<gi->0<=i->Inv low l e i.toNat ->
  ∃ (r:Int×List Int) (e':Int),ax.pl61 F gs w g low l e i=some r/\aw.pl61 F gi g low l e w w.length i=some r/\Inv r.1 r.2 e' w.length/\∀ x,co r.1 r.2 x=co low l x+foxc (w.drop i.toNat) g e x:=by
 intro n
 induction n with
 | zero=>
  intro gs gi low l e i hn h1 h2 hi h
  obtain ⟨gs,rfl⟩:∃ g',gs=g'+1:=⟨gs - 1,by omega⟩
  obtain ⟨gi,rfl⟩:∃ g',gi=g'+1:=⟨gi - 1,by omega⟩
  rw [ax.pl61,aw.pl61,decide_eq_false (by omega),cond_false,cond_false]
  rw [show i.toNat=w.length by omega] at h
  exact ⟨_,e,rfl,rfl,h,λx=>by rw [List.drop_eq_nil_of_le (by omega),foxc];exact (Int.add_zero _).symm⟩
 | succ n ih=>
  intro gs gi low l e i hn h1 h2 hi h
  obtain ⟨gs,rfl⟩:∃ g',gs=g'+1:=⟨gs - 1,by omega⟩
  obtain ⟨gi,rfl⟩:∃ g',gi=g'+1:=⟨gi - 1,by omega⟩
  have hx:=hw i.toNat (by omega) (by omega)
  have heb:=h.e_bd
  rw [ax.pl61,aw.pl61,decide_eq_true (by omega),cond_true,cond_true,ix_of hi (by omega),Option.bind_some,Option.bind_some,aM (x:=0 - g) (by omega) (by omega)]
  generalize hxe:gt w i.toNat=x at hx
  obtain ⟨hx0,hx1,hx2⟩:=hx
  obtain ⟨e',he',heq⟩:∃ e',(e'=e+1\/e'=e - 1)/\e'=if x>0 then e+1 else e - 1:=⟨if x>0 then e+1 else e - 1,by split <;> simp,rfl⟩
  have hiw:i.toNat<w.length:=by omega
  have hdw:w.drop i.toNat=x :: w.drop (i.toNat+1):=by
   have:w[i.toNat]=x:=by rw [<- hxe];unfold gt;simp [hiw]
   rw [<- this];exact List.drop_eq_getElem_cons hiw
  -- what comes behind the terms
  have tailS:∀ (a:Int) (b:List Int),ax.pj5 F (ax.pl61 F gs) w g a b e i=ax.pl61 F gs w g a b e' (i+1):=by
   intro a b
   unfold ax.pj5 ax.pj4
   rw [ix_of hi (by omega),Option.bind_some,hxe,aM (x:=i+1) (by omega) (by omega),aM (x:=e+1) (by omega) (by omega),aM (x:=e - 1) (by omega) (by omega),heq]
   by_cases c:x>0
   ·rw [decide_eq_true c,cond_true,if_pos c]
   ·rw [decide_eq_false c,cond_false,if_neg c]
  have sg:bT.p F x=some (e' - e):=by
   unfold bT.p
   by_cases c:x<0
   ·rw [decide_eq_true c,cond_true,heq,if_neg (by omega)];congr 1;omega
   ·rw [decide_eq_false c,cond_false,heq,if_pos (by omega)];congr 1;omega
  have tail4:∀ (a:Int) (b:List Int),aw.pj4 F (aw.pl61 F gi) g a b e x w w.length i=aw.pl61 F gi g a b e' w w.length (i+1):=by
   intro a b
   unfold aw.pj4
   rw [sg,Option.bind_some,aM (x:=i+1) (by omega) (by omega),aM (by omega) (by omega),show e+(e' - e)=e' by omega]
  have tail6:∀ (a:Int) (b:List Int),aw.pj6 F (aw.pl61 F gi) g a b e x w w.length i=aw.pl61 F gi g a b e' w w.length (i+1):=by
   intro a b
   unfold aw.pj6 aw.pj5
   rw [sg,Option.bind_some,aM (x:=i+1) (by omega) (by omega),aM (by omega) (by omega),show e+(e' - e)=e' by omega]
  have six:∀ (a:Int) (b:List Int),x≠-g->ax.pj6 F (ax.pl61 F gs) w g a b e i=ax.pl61 F gs w g a b e' (i+1):=by
   intro a b hne
   unfold ax.pj6
   rw [ix_of hi (by omega),Option.bind_some,hxe,aM (x:=0 - g) (by omega) (by omega),show (x == 0 - g)=false from beq_eq_false_iff_ne.2 (by omega),cond_false]
   exact tailS a b
  have hi1:(i+1).toNat=i.toNat+1:=by omega
  by_cases c1:x=g
  ·rw [show (x == g)=true from beq_iff_eq.2 c1,cond_true,cond_true]
   obtain ⟨r,f1,f2,f3,f4,f5⟩:=term_both (F:=F) (e0:=e) (c:=1) (e':=e') hF h (by omega) he' (.inl rfl) (.inl rfl)
   rw [f1,f2,Option.bind_some,Option.bind_some]
   simp only []
   rw [f3,Option.bind_some,six _ _ (by omega),tail4]
   obtain ⟨r',e'',k1,k2,k3,k4⟩:=ih gs gi r.1 r.2 e' (i+1) (by omega) (by omega) (by omega) (by omega) (by rw [hi1];exact f4)
   refine ⟨r',e'',k1,k2,k3,λy=>?_⟩
   rw [k4,f5,hdw,foxc,hi1,<-heq]
   by_cases cy:y=e
   ·rw [if_pos cy,if_pos ⟨c1,cy⟩];omega
   ·rw [if_neg cy,if_neg (by omega),if_neg (by omega)];omega
  ·rw [show (x == g)=false from beq_eq_false_iff_ne.2 c1,cond_false,cond_false]
   by_cases c2:x=-g
   ·rw [show (x == 0 - g)=true from beq_iff_eq.2 (by omega),cond_true,aM (x:=e - 1) (by omega) (by omega)]
    obtain ⟨r,f1,f2,f3,f4,f5⟩:=term_both (F:=F) (e0:=e - 1) (c:=-1) (e':=e') hF h (by omega) he' (.inr rfl) (.inr rfl)
    unfold ax.pj6
    rw [ix_of hi (by omega),Option.bind_some,hxe,aM (x:=0 - g) (by omega) (by omega),show (x == 0 - g)=true from beq_iff_eq.2 (by omega),cond_true,aM (x:=e - 1) (by omega) (by omega)]
    rw [f1,f2,Option.bind_some,Option.bind_some]
    simp only []
    rw [f3,Option.bind_some,tailS,tail6]
    obtain ⟨r',e'',k1,k2,k3,k4⟩:=ih gs gi r.1 r.2 e' (i+1) (by omega) (by omega) (by omega) (by omega) (by rw [hi1];exact f4)
    refine ⟨r',e'',k1,k2,k3,λy=>?_⟩
    rw [k4,f5,hdw,foxc,hi1,<-heq]
    by_cases cy:y=e - 1
    ·rw [if_pos cy,if_neg (λq=>c1 q.1),if_pos ⟨c2,cy⟩];omega
    ·rw [if_neg cy,if_neg (λq=>c1 q.1),if_neg (λq=>cy q.2)];omega
   ·rw [show (x == 0 - g)=false from beq_eq_false_iff_ne.2 (by omega),cond_false,six _ _ c2,tail6]
    obtain ⟨r',e'',k1,k2,k3,k4⟩:=ih gs gi low l e' (i+1) (by omega) (by omega) (by omega) (by omega) (by rw [hi1];exact h.skip he')
    refine ⟨r',e'',k1,k2,k3,λy=>?_⟩
    rw [k4,hdw,foxc,hi1,<-heq,if_neg (λq=>c1 q.1),if_neg (λq=>c2 q.1)]
    omega
theorem fox_val {w:List Int} {g:Int} (hF:5000000<F) (hw:Letters w 0) (hl:w.length<=120) (hg:1<=g/\g<=24) :
  ∃ low l e,bz.p F w g=some (low,l,0)/\bR.p F w g=some (low,l,0)/\Inv low l e w.length/\∀ x,co low l x=foxc w g 0 x:=by
 unfold bR.p bz.p
 have hrng:∀ n:Nat,-9223372036854775808<=gt w n/\gt w n<=9223372036854775807:=λn=>by
  by_cases h:n<w.length
  ·have:=hw n (by omega) h
   unfold Letter at this;omega
  ·have:gt w n=0:=by unfold gt;simp [Nat.not_lt.1 h]
   omega
 obtain ⟨b,e1,e2,hb⟩:=word_both (F:=F) (l:=w) hF (by omega) hrng
 have hb':b=true:=by
  cases b with
  | true=>rfl
  | false=>
   obtain ⟨b',k1,k2⟩:=rm (F:=F) (l:=w) (by omega) w.length F 0 (by omega) (by omega) (by omega)
   have k1:aD.p F w=some b':=k1
   rw [e1] at k1
   have:=Option.some.inj k1
   subst this
   exact k2.2 ⟨hw,hl⟩
 subst hb'
 rw [e1,e2,Option.bind_some,Option.bind_some]
 rw [Bool.not_true,cond_false,cond_false,kl,rl,Option.bind_some,Option.bind_some]
 have hg':InR g 1 24:=hg
 rw [decide_eq_true hg',Bool.not_true,cond_false,cond_false]
 unfold ax.p aw.p
 have hinv:Inv 0 [] 0 (0:Int).toNat:=⟨⟨λ_=>rfl,λh=>absurd rfl h,λh=>absurd rfl h⟩,⟨0,0,by omega,by omega,by omega,by omega,by omega,λx hx=>absurd (gC 0 x) hx⟩,λx=>by rw [gC];omega⟩
 obtain ⟨r,e',f1,f2,f3,f4⟩:=fox_l (F:=F) hF hw hl hg w.length F F 0 [] 0 0 (by omega) (by omega) (by omega) (by omega) hinv
 rw [f1,f2]
 exact ⟨r.1,r.2,e',rfl,rfl,f3,λx=>by rw [f4,gC];simp⟩
end Go.Proofs.Yteeahaikelpkpaa.AE
end
section
namespace Go.Proofs.Yteeahaikelpkpaa.AE
open Go Go.AE Go.Proofs
variable {F:Nat}
structure Src (c:List Int) (a s:Int):Prop where
 b:∀ n:Nat,0<=gt c n/\gt c n<=255
 l:c.length<=1000000
 a0:0<=a
 a1:a<=c.length
 s0:0<=s
 s1:s<2147483647
theorem seed_ok {s:Int} (h0:0<=s) (h1:s<2147483647):∃ t,Int.tmod (IntKind.i64.wrap ((IntKind.i64.wrap (s * 48271))+11)) 2147483647=t/\0<=t/\t<2147483647:=by
 rw [aM (x:=s * 48271) (by omega) (by omega),aM (by omega) (by omega)]
 refine ⟨_,rfl,?_⟩
 rw [Int.tmod_eq_emod_of_nonneg (by omega)]
 constructor <;> omega
theorem mod_ok {x n:Int} (hx:0<=x) (hn:1<n):∃ r,Int.tmod x n=r/\0<=r/\r<n:=by
 refine ⟨_,rfl,?_⟩
 rw [Int.tmod_eq_emod_of_nonneg hx]
 exact ⟨Int.emod_nonneg _ (by omega),Int.emod_lt_of_pos _ (by omega)⟩
theorem next {c:List Int} {a s n:Int} (h:Src c a s):∃ r a' s',aB.p F c a s n=some (r,a',s')/\Src c a' s'/\0<=r/\(n<=1->r=0)/\(1<n->r<n):=by
 obtain ⟨h1,h2,h3,h4,h5,h6⟩:=h
 unfold aB.p
 by_cases hn:n<=1
 ·rw [decide_eq_true hn,cond_true]
  exact ⟨0,a,s,rfl,⟨h1,h2,h3,h4,h5,h6⟩,Int.le_refl _,λ_=>rfl,λq=>by omega⟩
 ·rw [decide_eq_false hn,cond_false]
  obtain ⟨t,e,t0,t1⟩:=seed_ok h5 h6
  simp only [e]
  have td:0<=Int.tdiv t 11/\Int.tdiv t 11<=t:=by
   rw [Int.tdiv_eq_ediv_of_nonneg t0];constructor <;> omega
  unfold aB.pj2 aB.pj1 aB.pj3
  have n0:¬ n=0:=by omega
  simp only [if_neg n0]
  by_cases ha:a<c.length
  ·rw [decide_eq_true ha,cond_true]
   have ix0:ix c a=some a.toNat:=ix_of h3 ha
   have gb:=h1 a.toNat
   rw [ix0,Option.bind_some,aM (x:=a+1) (by omega) (by omega),aM (x:=a+1 - 1) (by omega) (by omega),show a+1 - 1=a by omega,ix0,Option.bind_some,aM (x:=gt c a.toNat) (by omega) (by omega),aM (x:=Int.tdiv t 11) (by omega) (by omega),aM (x:=Int.tdiv t 11+gt c a.toNat) (by omega) (by omega)]
   have S:Src c (a+1) t:=⟨h1,h2,by omega,by omega,t0,t1⟩
   obtain ⟨r1,m1,m2,m3⟩:=mod_ok (x:=gt c a.toNat) (n:=n) gb.1 (by omega)
   obtain ⟨r2,m4,m5,m6⟩:=mod_ok (x:=Int.tdiv t 11+gt c a.toNat) (n:=n) (by omega) (by omega)
   rw [m1,m4]
   cases decide (n<=256) <;> cases (Int.tmod (a+1) 2 == 0) <;> simp only [cond_true,cond_false]
   ·exact ⟨r2,_,_,rfl,S,m5,λq=>absurd q hn,λ_=>m6⟩
   ·exact ⟨r2,_,_,rfl,S,m5,λq=>absurd q hn,λ_=>m6⟩
   ·exact ⟨r2,_,_,rfl,S,m5,λq=>absurd q hn,λ_=>m6⟩
   ·exact ⟨r1,_,_,rfl,S,m2,λq=>absurd q hn,λ_=>m3⟩
  ·rw [decide_eq_false ha,cond_false,aM (x:=Int.tdiv t 11) (by omega) (by omega)]
   obtain ⟨r2,m4,m5,m6⟩:=mod_ok (x:=Int.tdiv t 11) (n:=n) (by omega) (by omega)
   rw [m4]
   exact ⟨r2,_,_,rfl,⟨h1,h2,h3,h4,t0,t1⟩,m5,λq=>absurd q hn,λ_=>m6⟩
theorem from_l {c:List Int} (hc:c.length<=1000000) (hb:∀ n:Nat,0<=gt c n/\gt c n<=255):∀ (n g:Nat) (s i:Int),c.length - i=n->n<g->0<=i->0<=s->s<2147483647->∃ t,aP.pl29 F g c 0 s i=some (c,0,t)/\0<=t/\t<2147483647:=by
 intro n
 induction n with
 | zero=>
  intro g s i hn hg hi h0 h1
  obtain ⟨g,rfl⟩:∃ g',g=g'+1:=⟨g - 1,by omega⟩
  rw [aP.pl29,decide_eq_false (by omega),cond_false]
  exact ⟨s,rfl,h0,h1⟩
 | succ n ih=>
  intro g s i hn hg hi h0 h1
  obtain ⟨g,rfl⟩:∃ g',g=g'+1:=⟨g - 1,by omega⟩
  rw [aP.pl29,decide_eq_true (by omega),cond_true]
  cases decide (i<64) with
  | false=>exact ⟨s,rfl,h0,h1⟩
  | true=>
   have gb:=hb i.toNat
   rw [cond_true,ix_of hi (by omega),Option.bind_some,aM (x:=gt c i.toNat) (by omega) (by omega),aM (x:=s * 37) (by omega) (by omega),aM (x:=s * 37+gt c i.toNat) (by omega) (by omega),aM (x:=i+1) (by omega) (by omega)]
   obtain ⟨r,m1,m2,m3⟩:=mod_ok (x:=s * 37+gt c i.toNat) (n:=2147483647) (by omega) (by omega)
   rw [m1]
   exact ih g r (i+1) (by omega) (by omega) (by omega) m2 m3
theorem from_ {c:List Int} (hF:5000000<F) (hc:c.length<=1000000) (hb:∀ n:Nat,0<=gt c n/\gt c n<=255):∃ t,aP.p F c=some (c,0,t)/\Src c 0 t:=by
 unfold aP.p
 obtain ⟨t,e,h0,h1⟩:=from_l (F:=F) hc hb c.length F 97531 0 (by omega) (by omega) (by omega) (by omega) (by omega)
 exact ⟨t,e,hb,hc,Int.le_refl _,by omega,h0,h1⟩
theorem apn_of {α:Type} {l m:List α} (h:l.length+m.length<=4294967296):apn l m=some (l++m):=by unfold apn;rw [if_pos h]
theorem word_l {c:List Int} {gen:Int} (hg0:0<gen) (hg:gen<=1000):∀ (n g:Nat) (a s:Int) (w:List Int) (k:Int),k.toNat=n->n<g->n<=1000->w.length<=1000 - n->Src c a s ->
  ∃ w' a' s',aK.pl29 F g c a s gen w k=some (w',a',s')/\w'.length<=1000/\Src c a' s':=by
 intro n
 induction n with
 | zero=>
  intro g a s w k hn hg hk hw h
  obtain ⟨g,rfl⟩:∃ g',g=g'+1:=⟨g - 1,by omega⟩
  rw [aK.pl29,decide_eq_false (by omega),cond_false]
  exact ⟨w,a,s,rfl,by omega,h⟩
 | succ n ih=>
  intro g a s w k hn hg hk hw h
  obtain ⟨g,rfl⟩:∃ g',g=g'+1:=⟨g - 1,by omega⟩
  rw [aK.pl29,decide_eq_true (by omega),cond_true,decide_eq_true hg0,cond_true]
  obtain ⟨r,a1,s1,e1,h1,r0,_,r1⟩:=next (F:=F) (n:=gen) h
  obtain ⟨q,a2,s2,e2,h2,_,_,_⟩:=next (F:=F) (n:=2) h1
  rw [e1,Option.bind_some]
  simp only []
  rw [e2,Option.bind_some]
  unfold aK.pj2
  have w1:∀ x:Int,apn w [x]=some (w++[x]):=λx=>apn_of (by simp;omega)
  simp only [w1,Option.bind_some]
  rw [aM (x:=k - 1) (by omega) (by omega)]
  cases (q == 0) with
  | true=>exact ih g a2 s2 _ (k - 1) (by omega) (by omega) (by omega) (by simp;omega) h2
  | false=>exact ih g a2 s2 _ (k - 1) (by omega) (by omega) (by omega) (by simp;omega) h2
theorem ones_l {a s:Int}:∀ (n g:Nat) (w:List Int) (i:Int),w.length - i=n->n<g->0<=i->w.length<=1000->∃ w',aQ.pl1915 F g w i a s=some (w',a,s)/\w'.length<=1000:=by
 intro n
 induction n with
 | zero=>
  intro g w i hn hg hi hw
  obtain ⟨g,rfl⟩:∃ g',g=g'+1:=⟨g - 1,by omega⟩
  rw [aQ.pl1915,decide_eq_false (by omega),cond_false]
  exact ⟨w,rfl,hw⟩
 | succ n ih=>
  intro g w i hn hg hi hw
  obtain ⟨g,rfl⟩:∃ g',g=g'+1:=⟨g - 1,by omega⟩
  rw [aQ.pl1915,decide_eq_true (by omega),cond_true,ix_of hi (by omega),Option.bind_some,Option.bind_some,aM (by omega) (by omega)]
  exact ih g _ (i+1) (by rw [List.length_set];omega) (by omega) (by omega) (by rw [List.length_set];exact hw)
theorem any_ {c:List Int} {a s:Int} (hF:5000000<F) (h:Src c a s):∃ w a' s',aQ.p F c a s=some (w,a',s')/\w.length<=2000/\Src c a' s':=by
 unfold aQ.p aK.p
 obtain ⟨r,a1,s1,e1,h1,r0,_,r1⟩:=next (F:=F) (n:=IntKind.i64.wrap (8+1)) h
 have r1:=r1 (by decide)
 have r1:r<9:=r1
 rw [e1,Option.bind_some]
 simp only []
 obtain ⟨w,a2,s2,e2,hw,h2⟩:=word_l (F:=F) (c:=c) (gen:=3) (by omega) (by omega) r.toNat F a1 s1 [] r rfl (by omega) (by omega) (by simp) h1
 rw [e2,Option.bind_some]
 simp only []
 obtain ⟨q,a3,s3,e3,h3,q0,_,q1⟩:=next (F:=F) (n:=20) h2
 rw [e3,Option.bind_some]
 simp only []
 cases (q == 0) with
 | true=>
  rw [cond_true]
  obtain ⟨p,a4,s4,e4,h4,p0,_,p1⟩:=next (F:=F) (n:=5) h3
  have p1:=p1 (by omega)
  rw [e4,Option.bind_some]
  simp only []
  rw [ix_of p0 (by simp;omega),Option.bind_some,apn_of (by simp;omega),Option.bind_some]
  exact ⟨_,_,_,rfl,by simp;omega,h4⟩
 | false=>
  rw [cond_false]
  cases (q == 1) with
  | true=>
   rw [cond_true]
   obtain ⟨p,a4,s4,e4,h4,p0,_,p1⟩:=next (F:=F) (n:=3) h3
   have p1:=p1 (by omega)
   rw [e4,Option.bind_some]
   simp only []
   rw [aM (by omega) (by omega)]
   unfold mkn
   rw [if_pos (by constructor <;> omega),Option.bind_some]
   obtain ⟨w',e5,h5⟩:=ones_l (F:=F) (a:=a4) (s:=s4) (119+p).toNat F (List.replicate (119+p).toNat (0:Int)) 0 (by simp) (by omega) (by omega) (by simp;omega)
   rw [e5]
   exact ⟨w',_,_,rfl,by omega,h4⟩
  | false=>
   rw [cond_false]
   exact ⟨w,_,_,rfl,by omega,h3⟩
theorem drawFox {c:List Int} (hF:5000000<F) (hc:c.length<=1000000) (hb:∀ n:Nat,0<=gt c n/\gt c n<=255):∃ w g,bV.p F c=some (w,g)/\w.length<=2000:=by
 unfold bV.p
 obtain ⟨t,e,h⟩:=from_ hF hc hb
 rw [e,Option.bind_some]
 simp only []
 obtain ⟨r,a1,s1,e1,h1,r0,_,r1⟩:=next (F:=F) (n:=10) h
 rw [e1,Option.bind_some]
 simp only []
 obtain ⟨w,a2,s2,e2,hw,h2⟩:=any_ hF h1
 rw [e2,Option.bind_some,Option.bind_some]
 simp only []
 cases (r == 0) with
 | true=>
  obtain ⟨p,a4,s4,e4,h4,p0,_,p1⟩:=next (F:=F) (n:=2) h2
  rw [cond_true,e4]
  exact ⟨w,_,rfl,hw⟩
 | false=>
  obtain ⟨p,a4,s4,e4,h4,p0,_,p1⟩:=next (F:=F) (n:=3) h2
  rw [cond_false,e4]
  exact ⟨w,_,rfl,hw⟩
theorem drawRed {c:List Int} (hF:5000000<F) (hc:c.length<=1000000) (hb:∀ n:Nat,0<=gt c n/\gt c n<=255):∃ w,bW.p F c=some w/\w.length<=2000:=by
 unfold bW.p
 obtain ⟨t,e,h⟩:=from_ hF hc hb
 rw [e,Option.bind_some]
 simp only []
 obtain ⟨w,a2,s2,e2,hw,h2⟩:=any_ hF h
 rw [e2]
 exact ⟨w,rfl,hw⟩
end Go.Proofs.Yteeahaikelpkpaa.AE
end
section
namespace Go.Proofs.Yteeahaikelpkpaa.AE
open Go Go.AE Go.Proofs
variable {F:Nat}
def exl:List Int->Int->Int
 | [],e=>e
 | a :: w,e=>exl w (if a>0 then e+1 else e - 1)
theorem exl_bd:∀ (w:List Int) (e:Int),e - w.length<=exl w e/\exl w e<=e+w.length
 | [],e=>by simp [exl]
 | a :: w,e=>by
  have:=exl_bd w (if a>0 then e+1 else e - 1)
  simp only [exl,List.length_cons]
  split at this <;> split <;> omega
theorem foxc_app (v:List Int) (g x:Int):∀ (u:List Int) (e:Int),foxc (u++v) g e x=foxc u g e x+foxc v g (exl u e) x
 | [],e=>by simp [foxc,exl]
 | a :: u,e=>by
  rw [List.cons_append,foxc,foxc,exl,foxc_app v g x u];omega
theorem foxc_shift (g x d:Int):∀ (v:List Int) (e:Int),foxc v g (e+d) x=foxc v g e (x - d)
 | [],e=>rfl
 | a :: v,e=>by
  have ih1:=foxc_shift g x d v (e+1)
  have ih2:=foxc_shift g x d v (e - 1)
  rw [foxc,foxc]
  have e1:(if a=g/\x=e+d then (1:Int) else if a=-g/\x=e+d - 1 then -1 else 0)=(if a=g/\x - d=e then 1 else if a=-g/\x - d=e - 1 then -1 else 0):=by
   have p1:(a=g/\x=e+d)↔(a=g/\x - d=e):=⟨λq=>⟨q.1,by omega⟩,λq=>⟨q.1,by omega⟩⟩
   have p2:(a=-g/\x=e+d - 1)↔(a=-g/\x - d=e - 1):=⟨λq=>⟨q.1,by omega⟩,λq=>⟨q.1,by omega⟩⟩
   simp only [p1,p2]
  rw [e1]
  congr 1
  by_cases c:a>0
  ·rw [if_pos c,if_pos c,<-ih1];congr 1;omega
  ·rw [if_neg c,if_neg c,<-ih2];congr 1;omega
theorem foxc_undo {g x y:Int} (hg:1<=g) (hy:y≠0) (w:List Int) (e:Int):foxc (-y :: y :: w) g e x=foxc w g e x:=by
 rw [foxc,foxc]
 by_cases c:y>0
 ·rw [if_neg (show ¬ (-y>0) by omega),if_pos c,show e - 1+1=e by omega,if_neg (show ¬ (-y=g/\x=e) by omega),if_neg (show ¬ (y=-g/\x=e - 1 - 1) by omega)]
  by_cases c2:y=g/\x=e - 1
  ·rw [if_pos c2,if_pos ⟨by omega,c2.2⟩];omega
  ·rw [if_neg c2,if_neg (λq=>c2 ⟨by omega,q.2⟩)];omega
 ·rw [if_pos (show -y>0 by omega),if_neg c,show e+1 - 1=e by omega,if_neg (show ¬ (-y=-g/\x=e - 1) by omega),if_neg (show ¬ (y=g/\x=e+1) by omega)]
  by_cases c2:y=-g/\x=e
  ·rw [if_pos (⟨by omega,c2.2⟩:-y=g/\x=e),if_pos c2];omega
  ·rw [if_neg (λq=>c2 ⟨by omega,q.2⟩),if_neg c2];omega
theorem redw_ok {g:Int} (hg:1<=g):∀ (w acc:List Int),(∀ y∈acc++w,Letter y)->(∀ y∈fw acc w,Letter y)/\(fw acc w).length<=acc.length+w.length/\∀ e x,foxc (fw acc w) g e x=foxc (acc++w) g e x
 | [],acc,h=>by
  rw [List.append_nil] at h ⊢
  exact ⟨h,by simp [fw],λe x=>rfl⟩
 | y :: w,acc,h=>by
  have hy:Letter y:=h y (by simp)
  rw [fw]
  by_cases c:acc.getLast?=some (IntKind.i64.wrap (0 - y))
  ·rw [if_pos c]
   have hyw:IntKind.i64.wrap (0 - y)=-y:=by unfold Letter at hy;rw [aM (by omega) (by omega)];omega
   rw [hyw] at c
   have hne:acc≠[]:=by rintro rfl;simp at c
   have hl:acc.getLast hne=-y:=by rw [List.getLast?_eq_some_getLast hne] at c;exact Option.some.inj c
   have hacc:acc=acc.dropLast++[-y]:=by rw [<- hl,List.dropLast_concat_getLast]
   obtain ⟨h1,h2,h3⟩:=redw_ok hg w acc.dropLast (λz hz=>h z (by
    rcases List.mem_append.1 hz with q | q
    ·exact List.mem_append_left _ (List.dropLast_subset _ q)
    ·exact List.mem_append_right _ (List.mem_cons_of_mem _ q)))
   refine ⟨h1,by rw [List.length_dropLast] at h2;simp only [List.length_cons];omega,λe x=>?_⟩
   rw [h3]
   conv=>rhs;rw [hacc]
   rw [List.append_assoc,foxc_app,foxc_app]
   show _=_+foxc (-y :: y :: w) g (exl acc.dropLast e) x
   rw [foxc_undo hg hy.1]
  ·rw [if_neg c]
   obtain ⟨h1,h2,h3⟩:=redw_ok hg w (acc++[y]) (λz hz=>h z (by simpa using hz))
   exact ⟨h1,by simp only [List.length_append,List.length_cons,List.length_nil] at h2 ⊢;omega,λe x=>by rw [h3];simp⟩
theorem lau_l {l:List Int} (hs:Sm l 1000000000000) (hl:l.length<=160):∀ (n g:Nat) (i:Int),l.length - i=n->n<g->0<=i->aL.pl125 F g l i=some true:=by
 intro n
 induction n with
 | zero=>
  intro g i hn hg hi
  obtain ⟨g,rfl⟩:∃ g',g=g'+1:=⟨g - 1,by omega⟩
  rw [aL.pl125,decide_eq_false (by omega)];rfl
 | succ n ih=>
  intro g i hn hg hi
  obtain ⟨g,rfl⟩:∃ g',g=g'+1:=⟨g - 1,by omega⟩
  have hb:InR (gt l i.toNat) (-1000000000000) 1000000000000:=hs i.toNat
  rw [aL.pl125,decide_eq_true (by omega),cond_true,ix_of hi (by omega),Option.bind_some,kl,Option.bind_some,decide_eq_true hb,Bool.not_true,cond_false,aM (by omega) (by omega)]
  exact ih g (i+1) (by omega) (by omega) (by omega)
theorem specLau {low:Int} {l:List Int} (hF:5000000<F) (h:Lau low l):aL.p F low l=some true:=by
 obtain ⟨h1,h2,h3,h4,h5,h6,h7⟩:=h
 unfold aL.p
 by_cases h0:l.length=0
 ·rw [show ((l.length:Int) == 0)=true from beq_iff_eq.2 (by omega),cond_true,h1 h0];rfl
 ·obtain ⟨a,b⟩:=h7 h0
  have hlow:InR low (-240) 240:=⟨by omega,h5⟩
  rw [show ((l.length:Int) == 0)=false from beq_eq_false_iff_ne.2 (by omega),cond_false,decide_eq_false (by omega),cond_false,kl,Option.bind_some,decide_eq_true hlow,Bool.not_true,cond_false,aM (x:=low+l.length) (by omega) (by omega),aM (by omega) (by omega),decide_eq_false (by omega),cond_false,ix_of (by omega) (by omega),Option.bind_some]
  rw [show (gt l (0:Int).toNat == 0)=false from beq_eq_false_iff_ne.2 a,cond_false,aM (by omega) (by omega),ix_of (by omega) (by omega),Option.bind_some]
  rw [show (gt l ((l.length:Int) - 1).toNat == 0)=false from beq_eq_false_iff_ne.2 (by rw [show ((l.length:Int) - 1).toNat=l.length - 1 by omega];exact b),cond_false]
  exact lau_l h6 h2 l.length F 0 (by omega) (by omega) (by omega)
theorem specIf {low:Int} {l:List Int} (hF:5000000<F) (h:Lau low l):bQ.p F low l=some (low,l,0):=by
 unfold bQ.p;rw [specLau hF h];rfl
theorem specAdd {p q:Int} {x y:List Int} (hF:5000000<F) (h1:Lau p x) (h2:Lau q y) (H:∀ r,SumOf p x q y r->Lau r.1 r.2):∃ r,ce.p F p x q y=some (r.1,r.2,0)/\SumOf p x q y r:=by
 unfold ce.p
 rw [specLau hF h1,specLau hF h2,Option.bind_some,Option.bind_some,Bool.not_true,cond_false,cond_false]
 obtain ⟨_,a2,a3,a4,a5,a6,_⟩:=id h1
 obtain ⟨_,b2,b3,b4,b5,b6,_⟩:=id h2
 obtain ⟨r,e,hr⟩:=specSum (F:=F) (p:=p) (x:=x) (q:=q) (y:=y) hF (by omega) (by omega) (by omega) (by omega) a6 b6
 rw [e,Option.bind_some,specIf hF (H r hr)]
 exact ⟨r,rfl,hr⟩
theorem co_shift {low e:Int} {l:List Int} (x:Int):co (low+e) l x=co low l (x - e):=by
 unfold co
 by_cases c:low+e<=x
 ·rw [if_pos c,if_pos (by omega)];congr 2;omega
 ·rw [if_neg c,if_neg (by omega)]
theorem specShift {low e:Int} {l:List Int} (hF:5000000<F) (h1:Lau low l) (he:-480<=e/\e<=480) (H:∀ r:Int×List Int,Trim r.1 r.2->(∀ x,co r.1 r.2 x=co low l (x - e))->Lau r.1 r.2) :
  ∃ r:Int×List Int,b_.p F low l e=some (r.1,r.2,0)/\Trim r.1 r.2/\(∀ x,co r.1 r.2 x=co low l (x - e))/\Lau r.1 r.2:=by
 unfold b_.p
 obtain ⟨_,a2,a3,a4,a5,a6,_⟩:=id h1
 have hr:InR e (-480) 480:=he
 rw [specLau hF h1,Option.bind_some,Bool.not_true,cond_false,kl,Option.bind_some,decide_eq_true hr,Bool.not_true,cond_false,aM (by omega) (by omega)]
 obtain ⟨r,e1,t1,t2,t3⟩:=specForm (F:=F) (low:=low+e) (l:=l) hF (by omega) (by omega)
 have t2':∀ x,co r.1 r.2 x=co low l (x - e):=λx=>by rw [t2,co_shift]
 have hl:=H r t1 t2'
 rw [e1,Option.bind_some,specIf hF hl]
 exact ⟨r,rfl,t1,t2',hl⟩
theorem like_l {l:List Int} (hl:l.length<=2000):∀ (n g:Nat) (i:Int),l.length - i=n->n<g->0<=i->aW.pl29 F g l l i=some true:=by
 intro n
 induction n with
 | zero=>
  intro g i hn hg hi
  obtain ⟨g,rfl⟩:∃ g',g=g'+1:=⟨g - 1,by omega⟩
  rw [aW.pl29,decide_eq_false (by omega)];rfl
 | succ n ih=>
  intro g i hn hg hi
  obtain ⟨g,rfl⟩:∃ g',g=g'+1:=⟨g - 1,by omega⟩
  rw [aW.pl29,decide_eq_true (by omega),cond_true,ix_of hi (by omega),Option.bind_some,Option.bind_some,bne_self_eq_false,cond_false,aM (by omega) (by omega)]
  exact ih g (i+1) (by omega) (by omega) (by omega)
theorem likeLau {low:Int} {l:List Int} (hF:5000000<F) (hl:l.length<=2000):bI.p F low l low l=some true:=by
 unfold bI.p aW.p
 rw [beq_self_eq_true,cond_true,bne_self_eq_false,cond_false,like_l hl l.length F 0 (by omega) (by omega) (by omega)]
 rfl
end Go.Proofs.Yteeahaikelpkpaa.AE
end
section
namespace Go.Proofs.Yteeahaikelpkpaa.AE
open Go Go.AE Go.Proofs
variable {F:Nat}
theorem letters_mem {l:List Int} (h:Letters l 0):∀ y∈l,Letter y:=λy hy=>by
 obtain ⟨n,hn,rfl⟩:=List.getElem_of_mem hy
 have:=h n (by omega) hn
 rwa [show gt l n=l[n] by unfold gt;simp [hn]] at this
theorem mem_letters {l:List Int} (h:∀ y∈l,Letter y):Letters l 0:=λn _ hn=>by
 rw [show gt l n=l[n] by unfold gt;simp [hn]]
 exact h _ (List.getElem_mem hn)
theorem isWord_iff {w:List Int} (hF:5000000<F) (hl:w.length<=2000000):∃ b,aD.p F w=some b/\(b=true↔Letters w 0/\w.length<=120):=
 rm (F:=F) hl w.length F 0 (by omega) (by omega) (by omega)
theorem core {u v:List Int} {g e:Int} (hF:5000000<F) (hu:Letters u 0) (hv:Letters v 0) (hl:u.length+v.length<=120) (hg:1<=g/\g<=24) (he:e=exl u 0) :
  aC.pj2 F u g v (u++v) e=some true:=by
 have hw:Letters (u++v) 0:=mem_letters λy hy=>(List.mem_append.1 hy).elim (letters_mem hu y) (letters_mem hv y)
 have hwl:(u++v).length=u.length+v.length:=List.length_append
 obtain ⟨r1,r2,r3⟩:=redw_ok hg.1 (u++v) [] (letters_mem (by rw [List.nil_append];exact hw))
 obtain ⟨la,a,ea,a1,a2,a3,a4⟩:=fox_val (F:=F) hF hu (by omega) hg
 obtain ⟨lb,b,eb,b1,b2,b3,b4⟩:=fox_val (F:=F) hF hv (by omega) hg
 obtain ⟨lc,c,ec,c1,c2,c3,c4⟩:=fox_val (F:=F) hF hw (by omega) hg
 obtain ⟨ld,d,ed,d1,d2,d3,d4⟩:=fox_val (F:=F) hF (mem_letters r1) (by simp only [List.length_nil] at r2;omega) hg
 have eb':=exl_bd u 0
 have hla:=a3.lau (by omega)
 have hlb:=b3.lau (by omega)
 have hlc:=c3.lau (by omega)
 have hld:=d3.lau (by simp only [List.length_nil] at r2;omega)
 unfold aC.pj2
 rw [a1,Option.bind_some]
 simp only []
 rw [b1,Option.bind_some]
 simp only []
 rw [c1,Option.bind_some]
 simp only []
 obtain ⟨m,m1,m2,m3,m4⟩:=specShift (F:=F) (low:=lb) (l:=b) (e:=e) hF hlb (by omega) (λr hr1 hr2=>by
  obtain ⟨p,q,k1,k2,_,_,k3,k4⟩:=b3.box
  refine Inv.lau_of hr1 (a:=if p+e<0 then p+e else 0) (b:=if 0<q+e then q+e else 0) (by split <;> omega) (by split <;> omega) (by split <;> omega) (by split <;> omega) (by split <;> split <;> omega) (λx hx=>?_) (n:=v.length) (by omega) (λx=>by rw [hr2];exact b3.bd _)
  rw [hr2] at hx
  have:=k4 _ hx
  split <;> split <;> omega)
 rw [m1,Option.bind_some]
 simp only []
 have hsum:∀ x,co la a x+co m.1 m.2 x=co lc c x:=λx=>by
  rw [a4,m3,b4,c4,foxc_app,<-he]
  rw [show foxc v g e x=foxc v g (0+e) x by rw [Int.zero_add],foxc_shift]
 have huni:∀ r:Int×List Int,SumOf la a m.1 m.2 r->r=(lc,c):=λr hr=>by
  obtain ⟨q1,q2⟩:=hr.1.unique c3.trim (λx=>by rw [hr.2,hsum])
  exact Prod.ext q1 q2
 obtain ⟨r,s1,s2⟩:=specAdd (F:=F) hF hla m4 (λr hr=>by rw [huni r hr];exact hlc)
 obtain rfl:=huni r s2
 rw [s1,Option.bind_some,a2,Option.bind_some]
 simp only []
 rw [bne_self_eq_false,cond_false,likeLau hF (by have:=hla.2.1;omega),Option.bind_some,Bool.not_true,cond_false]
 unfold ck.p bc.p
 obtain ⟨z,z1,z2⟩:=isWord_iff (F:=F) (w:=u++v) hF (by omega)
 obtain rfl:z=true:=z2.2 ⟨hw,by omega⟩
 rw [z1,Option.bind_some,Bool.not_true,cond_false,if_pos ⟨by omega,by omega⟩,Option.bind_some,Option.bind_some,d1,Option.bind_some]
 simp only []
 have hdc:(ld,d)=(lc,c):=by
  obtain ⟨q1,q2⟩:=d3.trim.unique c3.trim (λx=>by rw [d4,c4,r3];rfl)
  rw [q1,q2]
 obtain ⟨rfl,rfl⟩:ld=lc/\d=c:=⟨congrArg Prod.fst hdc,congrArg Prod.snd hdc⟩
 rw [show (IntKind.i64.wrap ((IntKind.i64.wrap ((IntKind.i64.wrap ((IntKind.i64.wrap ((IntKind.i64.wrap ((0:Int)+0))+0))+0))+0))+0) == 0)=true by decide,cond_true]
 rw [likeLau hF (by have:=hlc.2.1;omega)]
 rfl
theorem sum_l {u v w:List Int} {g:Int} (hl:u.length<=120):∀ (n k:Nat) (e i:Int),u.length - i=n->n<k->0<=i->-i<=e->e<=i->aC.pl1021 F k u g v w e i=aC.pj2 F u g v w (exl (u.drop i.toNat) e):=by
 intro n
 induction n with
 | zero=>
  intro k e i hn hk hi h1 h2
  obtain ⟨k,rfl⟩:∃ g',k=g'+1:=⟨k - 1,by omega⟩
  rw [aC.pl1021,decide_eq_false (by omega),cond_false,List.drop_eq_nil_of_le (by omega),exl]
 | succ n ih=>
  intro k e i hn hk hi h1 h2
  obtain ⟨k,rfl⟩:∃ g',k=g'+1:=⟨k - 1,by omega⟩
  have hiw:i.toNat<u.length:=by omega
  have hdw:u.drop i.toNat=gt u i.toNat :: u.drop (i.toNat+1):=by
   have:u[i.toNat]=gt u i.toNat:=by unfold gt;simp [hiw]
   rw [<- this];exact List.drop_eq_getElem_cons hiw
  rw [aC.pl1021,decide_eq_true (by omega),cond_true,ix_of hi (by omega),Option.bind_some,hdw,exl]
  unfold aC.pj3
  rw [aM (x:=i+1) (by omega) (by omega),aM (x:=e+1) (by omega) (by omega),aM (x:=e - 1) (by omega) (by omega)]
  have hi1:(i+1).toNat=i.toNat+1:=by omega
  by_cases c:gt u i.toNat>0
  ·rw [decide_eq_true c,cond_true,if_pos c,ih k (e+1) (i+1) (by omega) (by omega) (by omega) (by omega) (by omega),hi1]
  ·rw [decide_eq_false c,cond_false,if_neg c,ih k (e - 1) (i+1) (by omega) (by omega) (by omega) (by omega) (by omega),hi1]
theorem FnFox_pure:∀ (aj:List Int),aj.length<=maxLen->(∀ x∈aj,(Lit.int .u8 x).wf=true)->∃ F,aC.p F aj=some true:=by
 intro code _ hb
 obtain ⟨F,hF⟩:∃ F:Nat,F=1000000000000000:=⟨_,rfl⟩
 refine ⟨F,?_⟩
 have hF5:5000000<F:=by omega
 have hb1:∀ x∈code,0<=x/\x<=255:=λx hx=>by
  have:=hb x hx
  have h2:IntKind.u8.min<=x/\x<=IntKind.u8.max:=by simpa [Lit.wf] using this
  have h3:IntKind.u8.min=0:=by decide
  have h4:IntKind.u8.max=255:=by decide
  omega
 have hb2:∀ n:Nat,0<=gt code n/\gt code n<=255:=λn=>by
  by_cases h:n<code.length
  ·rw [show gt code n=code[n] by unfold gt;simp [h]];exact hb1 _ (List.getElem_mem h)
  ·rw [show gt code n=0 by unfold gt;simp [Nat.not_lt.1 h]];omega
 unfold aC.p cw.p
 rw [Option.bind_some]
 by_cases hbig:(code.length:Int)>4096
 ·rw [decide_eq_true hbig,cond_true]
 ·rw [decide_eq_false hbig,cond_false]
  obtain ⟨u,g,e1,hu⟩:=drawFox (F:=F) hF5 (by omega) hb2
  rw [e1,Option.bind_some]
  unfold cz.p
  rw [apn_of (by simp;omega),Option.bind_some,Option.bind_some]
  obtain ⟨v,e2,hv⟩:=drawRed (F:=F) (c:=[29,IntKind.u8.wrap (29+7),IntKind.u8.wrap (3 * 29)]++code) hF5 (by simp;omega) (λn=>by
   rw [show IntKind.u8.wrap (29+7)=36 by decide,show IntKind.u8.wrap (3 * 29)=87 by decide]
   match n with
   | 0=>exact ⟨show (0:Int)<=29 by decide,show (29:Int)<=255 by decide⟩
   | 1=>exact ⟨show (0:Int)<=36 by decide,show (36:Int)<=255 by decide⟩
   | 2=>exact ⟨show (0:Int)<=87 by decide,show (87:Int)<=255 by decide⟩
   | n+3=>exact hb2 n)
  rw [e2,Option.bind_some,apn_of (by simp;omega),Option.bind_some,apn_of (by simp;omega),Option.bind_some,List.nil_append]
  simp only []
  obtain ⟨x,x1,x2⟩:=isWord_iff (F:=F) (w:=u) hF5 (by omega)
  obtain ⟨y,y1,y2⟩:=isWord_iff (F:=F) (w:=v) hF5 (by omega)
  obtain ⟨z,z1,z2⟩:=isWord_iff (F:=F) (w:=u++v) hF5 (by simp;omega)
  rw [x1,y1,z1]
  simp only [Option.bind_some]
  cases x with
  | false=>rfl
  | true=>
   cases y with
   | false=>rfl
   | true=>
    cases z with
    | false=>rfl
    | true=>
     have X:=x2.1 rfl
     have Y:=y2.1 rfl
     have Z:=z2.1 rfl
     simp only [Bool.not_true,cond_false]
     by_cases c1:g<1
     ·rw [decide_eq_true c1,cond_true]
     ·rw [decide_eq_false c1,cond_false]
      by_cases c2:g>24
      ·rw [decide_eq_true c2,cond_true]
      ·rw [decide_eq_false c2,cond_false]
       rw [sum_l (F:=F) X.2 u.length F 0 0 (by omega) (by omega) (by omega) (by omega) (by omega)]
       exact core hF5 X.1 Y.1 (by have:=Z.2;rw [List.length_append] at this;omega) ⟨by omega,by omega⟩ rfl
end Go.Proofs.Yteeahaikelpkpaa.AE
end
