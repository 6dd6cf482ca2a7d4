import Derived.Test.YtodfdhnlhiaohaaE2
import Derived.Test.YtodfdhnlhiaohaaP2
set_option linter.unusedVariables false
set_option linter.unusedSimpArgs false
section
namespace Go.AE
def co (low:Int) (l:List Int) (e:Int):Int:=if low<=e then l.getD (e - low).toNat 0 else 0
structure Trim (low:Int) (l:List Int):Prop where
 nil:l=[]->low=0
 first:l≠[]->l.getD 0 0≠0
 last:l≠[]->l.getD (l.length - 1) 0≠0
theorem ip (low:Int) (l:List Int) (i:Nat):co low l (low+i)=l.getD i 0:=by
 unfold co;rw [if_pos (by omega)];congr 1;omega
theorem lL {low:Int} {l:List Int} {e:Int} (h:e<low):co low l e=0:=by unfold co;rw [if_neg (by omega)]
theorem zU {low:Int} {l:List Int} {e:Int} (h:low+l.length<=e):co low l e=0:=by
 unfold co;split
 ·rw [List.getD_eq_getElem?_getD,List.getElem?_eq_none (by omega)];rfl
 ·rfl
theorem mX (low e:Int):co low [] e=0:=by unfold co;split <;> rfl
theorem Trim.le {low low':Int} {l l':List Int} (h:Trim low l) (he:∀ e,co low l e=co low' l' e) (hl:l≠[]):low'<=low/\low+l.length<=low'+l'.length:=by
 have hpos:0<l.length:=List.length_pos_iff.2 hl
 constructor
 ·rcases Int.lt_or_le low low' with c | c
  ·exfalso
   have:=he (low+(0:Nat))
   rw [ip,lL (by omega)] at this
   exact h.first hl this
  ·exact c
 ·rcases Int.lt_or_le (low'+l'.length) (low+l.length) with c | c
  ·exfalso
   have:=he (low+((l.length - 1:Nat):Int))
   rw [ip,zU (by omega)] at this
   exact h.last hl this
  ·exact c
theorem Trim.unique {low low':Int} {l l':List Int} (h:Trim low l) (h':Trim low' l') (he:∀ e,co low l e=co low' l' e):low=low'/\l=l':=by
 by_cases c:l=[]
 ·by_cases c':l'=[]
  ·exact ⟨by rw [h.nil c,h'.nil c'],by rw [c,c']⟩
  ·exfalso
   have:=he (low'+(0:Nat))
   rw [ip,c,mX] at this
   exact h'.first c' this.symm
 ·by_cases c':l'=[]
  ·exfalso
   have:=he (low+(0:Nat))
   rw [ip,c',mX] at this
   exact h.first c this
  ·have a:=h.le he c
   have b:=h'.le (λe=>(he e).symm) c'
   have e1:low=low':=by omega
   have e2:l.length=l'.length:=by omega
   refine ⟨e1,List.ext_getElem e2 λi h1 h2=>?_⟩
   have:=he (low+(i:Nat))
   rw [ip,e1,ip] at this
   simpa [List.getD_eq_getElem?_getD,List.getElem?_eq_getElem h1,List.getElem?_eq_getElem h2] using this
theorem IX {low:Int} {l:List Int} {a b:Nat} (hab:a<=b) (hb:b<=l.length) (h1:∀ i,i<a->l.getD i 0=0) (h2:∀ i,b<=i->l.getD i 0=0) (e:Int):co (low+a) ((l.take b).drop a) e=co low l e:=by
 rcases Int.lt_or_le e low with c | c
 ·rw [lL (by omega),lL c]
 ·obtain ⟨i,rfl⟩:∃ i:Nat,e=low+i:=⟨(e - low).toNat,by omega⟩
  rw [ip]
  by_cases ca:i<a
  ·rw [lL (by omega),h1 i ca]
  ·by_cases cb:b<=i
   ·rw [zU (by simp;omega),h2 i cb]
   ·have:low+(i:Int)=(low+(a:Int))+((i - a:Nat):Int):=by omega
    rw [this,ip]
    simp only [List.getD_eq_getElem?_getD,List.getElem?_drop,List.getElem?_take]
    rw [show a+(i - a)=i by omega,if_pos (by omega)]
end Go.AE
end
section
namespace Go.Proofs.Ytodfdhnlhiaohaa.AE.FF
open Go Go.AE Go.Proofs
variable {F:Nat} {i j k:Int}
theorem gt_set_eq {l:List Int} {n:Nat} {x:Int} (h:n<l.length):gt (l.set n x) n=x:=by
 unfold gt;rw [List.getD_eq_getElem?_getD,List.getElem?_set_self h];rfl
theorem gt_set_ne {l:List Int} {n m:Nat} {x:Int} (h:n≠m):gt (l.set n x) m=gt l m:=by
 unfold gt;rw [List.getD_eq_getElem?_getD,List.getD_eq_getElem?_getD,List.getElem?_set_ne h]
theorem ix_of {l:List Int} (h0:0<=i) (h:i<l.length):ix l i=some i.toNat:=by
 unfold ix;rw [if_pos ⟨h0,h⟩]
def InR (x a b:Int):Prop:=a<=x/\x<=b
instance (x a b:Int):Decidable (InR x a b):=by unfold InR;infer_instance
theorem Ir {x a b:Int}:dx.p F x a b=some (decide (InR x a b)):=by
 unfold dx.p InR
 by_cases h:x>=a
 ·rw [decide_eq_true h,cond_true];congr 1;simp only [ge_iff_le] at h;simp [h]
 ·rw [decide_eq_false h,cond_false];congr 1;simp only [ge_iff_le] at h;simp [h]
theorem oR {x a b:Int}:de.p F x a b=some (decide (InR x a b)):=by
 unfold de.p InR
 by_cases h:a<=x
 ·rw [decide_eq_true h,cond_true];congr 1;simp [h]
 ·rw [decide_eq_false h,cond_false];congr 1;simp [h]
end Go.Proofs.Ytodfdhnlhiaohaa.AE.FF
end
section
namespace Go.Proofs.Ytodfdhnlhiaohaa.AE.FF
open Go Go.AE Go.Proofs
variable {F:Nat} {i j k:Int}
theorem gt_def (l:List Int) (n:Nat):gt l n=l.getD n 0:=rfl
theorem cutf_of {l:List Int} {a b:Int} (h0:0<=a) (h1:a<=b) (h2:b<=l.length):cutf l a b=some ((l.take b.toNat).drop a.toNat):=by
 unfold cutf;rw [if_pos ⟨h0,h1,h2⟩]
theorem apn_nil {l:List Int} (h:l.length<=1000000):apn ([]:List Int) l=some l:=by
 unfold apn;rw [if_pos (by simp;omega),List.nil_append]
def Form (low:Int) (l:List Int) (r:Int×List Int):Prop:=Trim r.1 r.2/\(∀ e,co r.1 r.2 e=co low l e)/\r.2.length<=l.length
theorem form_cut {low:Int} {l:List Int} {a b:Int} (ha:0<=a) (hab:a<b) (hb:b<=l.length) (h1:∀ n:Nat,(n:Int)<a->gt l n=0) (h2:∀ n:Nat,b<=n->gt l n=0) (h3:gt l a.toNat≠0) (h4:gt l (b - 1).toNat≠0) :
  Form low l (low+a,(l.take b.toNat).drop a.toNat):=by
 have hlen:((l.take b.toNat).drop a.toNat).length=b.toNat - a.toNat:=by rw [List.length_drop,List.length_take];omega
 have get:∀ n:Nat,n<b.toNat - a.toNat->((l.take b.toNat).drop a.toNat).getD n 0=l.getD (a.toNat+n) 0:=by
  intro n hn
  simp only [List.getD_eq_getElem?_getD,List.getElem?_drop,List.getElem?_take]
  rw [if_pos (by omega)]
 refine ⟨⟨λh=>?_,λ_=>?_,λ_=>?_⟩,λe=>?_,?_⟩
 ·have:=congrArg List.length h
  rw [hlen,List.length_nil] at this;omega
 ·show ((l.take b.toNat).drop a.toNat).getD 0 0≠0
  rw [get 0 (by omega)];exact h3
 ·show ((l.take b.toNat).drop a.toNat).getD (((l.take b.toNat).drop a.toNat).length - 1) 0≠0
  rw [hlen,get _ (by omega),show a.toNat+(b.toNat - a.toNat - 1)=(b - 1).toNat by omega];exact h4
 ·have:=IX (low:=low) (l:=l) (a:=a.toNat) (b:=b.toNat) (by omega) (by omega) (λn h=>h1 n (by omega)) (λn h=>h2 n (by omega)) e
  rw [Int.toNat_of_nonneg ha] at this
  exact this
 ·show ((l.take b.toNat).drop a.toNat).length<=_
  rw [hlen];omega
theorem form_nil {low:Int} {l:List Int} (h:∀ n:Nat,gt l n=0):Form low l (0,[]):=by
 refine ⟨⟨λ_=>rfl,λh=>absurd rfl h,λh=>absurd rfl h⟩,λe=>?_,Nat.zero_le _⟩
 show co 0 [] e=_
 rw [mX]
 unfold co;split
 ·exact (h _).symm
 ·rfl
theorem gt_out {l:List Int} {n:Nat} (h:l.length<=n):gt l n=0:=by
 unfold gt;rw [List.getD_eq_getElem?_getD,List.getElem?_eq_none h];rfl
theorem specForm_b {low:Int} {l:List Int} (hl:l.length<=2000) (hlow:-1000000<=low/\low<=1000000) {a:Int} (ha:0<=a) (h1:∀ n:Nat,(n:Int)<a->gt l n=0) (h3:a<l.length->gt l a.toNat≠0):∀ (n g:Nat) (b:Int),b - a=n->n<g->b<=l.length->(∀ n:Nat,b<=n->gt l n=0) ->
  ∃ r,aP.pl30 F g low l a b=some r/\Form low l r:=by
 intro n
 induction n with
 | zero=>
  intro g b hn hg hb h2
  obtain ⟨g,rfl⟩:∃ g',g=g'+1:=⟨g - 1,by omega⟩
  rw [aP.pl30,decide_eq_false (by omega),cond_false]
  unfold aP.pj1
  rw [show (a==b)=true from beq_iff_eq.2 (by omega),cond_true]
  refine ⟨_,rfl,form_nil λn=>?_⟩
  by_cases h:(n:Int)<a
  ·exact h1 n h
  ·exact h2 n (by omega)
 | succ n ih=>
  intro g b hn hg hb h2
  obtain ⟨g,rfl⟩:∃ g',g=g'+1:=⟨g - 1,by omega⟩
  rw [aP.pl30,decide_eq_true (by omega),cond_true,bg (by omega) (by omega),ix_of (by omega) (by omega),Option.bind_some]
  by_cases h:gt l (b - 1).toNat=0
  ·rw [h,show ((0:Int)==0)=true from rfl,cond_true]
   refine ih g (b - 1) (by omega) (by omega) (by omega) λm hm=>?_
   by_cases e:m=(b - 1).toNat
   ·subst e;exact h
   ·exact h2 m (by omega)
  ·rw [show (gt l (b - 1).toNat==0)=false from beq_eq_false_iff_ne.2 h,cond_false]
   unfold aP.pj1
   rw [show (a==b)=false from beq_eq_false_iff_ne.2 (by omega),cond_false,cutf_of ha (by omega) hb,Option.bind_some,apn_nil (by rw [List.length_drop,List.length_take];omega),Option.bind_some,bg (by omega) (by omega)]
   exact ⟨_,rfl,form_cut ha (by omega) hb h1 h2 (h3 (by omega)) h⟩
theorem specForm_a {low:Int} {l:List Int} (hF:5000000<F) (hl:l.length<=2000) (hlow:-1000000<=low/\low<=1000000):∀ (n g:Nat) (a:Int),l.length - a=n->n<g->0<=a->(∀ n:Nat,(n:Int)<a->gt l n=0) ->
  ∃ r,aP.pl14 F g low l a l.length=some r/\Form low l r:=by
 intro n
 induction n with
 | zero=>
  intro g a hn hg ha h1
  obtain ⟨g,rfl⟩:∃ g',g=g'+1:=⟨g - 1,by omega⟩
  rw [aP.pl14,decide_eq_false (by omega),cond_false]
  exact specForm_b hl hlow ha h1 (λh=>by omega) 0 F l.length (by omega) (by omega) (by omega) (λn h=>gt_out (by omega))
 | succ n ih=>
  intro g a hn hg ha h1
  obtain ⟨g,rfl⟩:∃ g',g=g'+1:=⟨g - 1,by omega⟩
  rw [aP.pl14,decide_eq_true (by omega),cond_true,ix_of (by omega) (by omega),Option.bind_some]
  by_cases h:gt l a.toNat=0
  ·rw [h,show ((0:Int)==0)=true from rfl,cond_true,bg (by omega) (by omega)]
   refine ih g (a+1) (by omega) (by omega) (by omega) λm hm=>?_
   by_cases e:m=a.toNat
   ·subst e;exact h
   ·exact h1 m (by omega)
  ·rw [show (gt l a.toNat==0)=false from beq_eq_false_iff_ne.2 h,cond_false]
   exact specForm_b hl hlow ha h1 (λ_=>h) (l.length - a).toNat F l.length (by omega) (by omega) (by omega) (λn h=>gt_out (by omega))
theorem specForm {low:Int} {l:List Int} (hF:5000000<F) (hl:l.length<=2000) (hlow:-1000000<=low/\low<=1000000):∃ r,aP.p F low l=some r/\Form low l r:=
 specForm_a hF hl hlow l.length F 0 (by omega) (by omega) (by omega) (λn h=>by omega)
theorem Form.trans {low low':Int} {l l':List Int} {r:Int×List Int} (h:Form low' l' r) (he:∀ e,co low' l' e=co low l e) (hl:l'.length<=l.length):Form low l r:=
 ⟨h.1,λe=>(h.2.1 e).trans (he e),by have:=h.2.2;omega⟩
theorem implNorm_b {low:Int} (hlow:-2000000<=low/\low<=2000000):∀ (n g:Nat) (l:List Int),l.length=n->n<g->n<=2000->(l≠[]->gt l 0≠0) ->
  ∃ r,aL.pl14 F g low l=some r/\Form low l r:=by
 intro n
 induction n with
 | zero=>
  intro g l hn hg hl h0
  obtain ⟨g,rfl⟩:∃ g',g=g'+1:=⟨g - 1,by omega⟩
  obtain rfl:=List.length_eq_zero_iff.1 hn
  rw [aL.pl14,decide_eq_false (by decide),cond_false]
  exact ⟨_,rfl,form_nil λn=>gt_out (Nat.zero_le _)⟩
 | succ n ih=>
  intro g l hn hg hl h0
  obtain ⟨g,rfl⟩:∃ g',g=g'+1:=⟨g - 1,by omega⟩
  rw [aL.pl14,decide_eq_true (by omega),cond_true,bg (by omega) (by omega),ix_of (by omega) (by omega),Option.bind_some]
  have hne:l≠[]:=λh=>by rw [h] at hn;cases hn
  by_cases h:gt l ((l.length:Int) - 1).toNat=0
  ·rw [h,show ((0:Int)==0)=true from rfl,cond_true,cutf_of (by omega) (by omega) (by omega),Option.bind_some]
   have hh:((l.take ((l.length:Int) - 1).toNat).drop (0:Int).toNat)=l.take n:=by rw [show ((l.length:Int) - 1).toNat=n by omega];rfl
   rw [hh]
   obtain ⟨r,e,hr⟩:=ih g (l.take n) (by rw [List.length_take];omega) (by omega) (by omega) (λhne2=>by
    have:gt (l.take n) 0=gt l 0:=by
     have hn0:0<n:=by
      rcases Nat.eq_zero_or_pos n with e | e
      ·exact absurd (by rw [e];rfl) hne2
      ·exact e
     unfold gt;simp only [List.getD_eq_getElem?_getD];rw [List.getElem?_take_of_lt hn0]
    rw [this];exact h0 hne)
   refine ⟨r,e,hr.trans (λx=>?_) (by rw [List.length_take];omega)⟩
   have:=IX (low:=low) (l:=l) (a:=0) (b:=n) (by omega) (by omega) (λi hi=>by omega) (λi hi=>by
    by_cases e:i=n
    ·subst e;rw [show ((l.length:Int) - 1).toNat=i by omega] at h;exact h
    ·exact gt_out (by omega)) x
   rw [show low+((0:Nat):Int)=low by omega,List.drop_zero] at this
   exact this
  ·rw [show (gt l ((l.length:Int) - 1).toNat==0)=false from beq_eq_false_iff_ne.2 h,cond_false]
   unfold aL.pj1 eB.p
   rw [show ((l.length:Int)==0)=false from beq_eq_false_iff_ne.2 (by omega),cond_false,apn_nil (by omega),Option.bind_some]
   refine ⟨_,rfl,?_⟩
   have:=form_cut (low:=low) (l:=l) (a:=0) (b:=l.length) (by omega) (by omega) (by omega) (λn h=>by omega) (λn h=>gt_out (by omega)) (h0 hne) h
   rw [Int.add_zero,Int.toNat_natCast,List.take_length] at this
   exact this
theorem implNorm_a (hF:5000000<F):∀ (n g:Nat) (low:Int) (l:List Int),l.length=n->n<g->n<=2000->-1000000<=low->low+n<=1002000 ->
  ∃ r,aL.pl6 F g low l=some r/\Form low l r:=by
 intro n
 induction n with
 | zero=>
  intro g low l hn hg hl h0 h1
  obtain ⟨g,rfl⟩:∃ g',g=g'+1:=⟨g - 1,by omega⟩
  rw [aL.pl6,decide_eq_false (by omega),cond_false]
  exact implNorm_b ⟨by omega,by omega⟩ 0 F l hn (by omega) (by omega) (λh=>absurd (List.length_eq_zero_iff.1 hn) h)
 | succ n ih=>
  intro g low l hn hg hl h0 h1
  obtain ⟨g,rfl⟩:∃ g',g=g'+1:=⟨g - 1,by omega⟩
  rw [aL.pl6,decide_eq_true (by omega),cond_true,ix_of (by omega) (by omega),Option.bind_some]
  by_cases h:gt l (0:Int).toNat=0
  ·rw [h,show ((0:Int)==0)=true from rfl,cond_true,cutf_of (by omega) (by omega) (by omega),Option.bind_some,bg (by omega) (by omega),Int.toNat_natCast,List.take_length]
   obtain ⟨r,e,hr⟩:=ih g (low+1) (l.drop (1:Int).toNat) (by rw [List.length_drop,hn];rfl) (by omega) (by omega) (by omega) (by omega)
   refine ⟨r,e,hr.trans (λx=>?_) (by rw [List.length_drop];omega)⟩
   have:=IX (low:=low) (l:=l) (a:=1) (b:=l.length) (by omega) (by omega) (λi hi=>by rw [show i=0 by omega];exact h) (λi hi=>gt_out (by omega)) x
   rw [List.take_length] at this
   exact this
  ·rw [show (gt l (0:Int).toNat==0)=false from beq_eq_false_iff_ne.2 h,cond_false]
   exact implNorm_b ⟨by omega,by omega⟩ (n+1) F l hn (by omega) (by omega) (λ_=>h)
theorem implNorm {low:Int} {l:List Int} (hF:5000000<F) (hl:l.length<=2000) (hlow:-1000000<=low/\low<=1000000):∃ r,aL.p F low l=some r/\Form low l r:=
 implNorm_a hF l.length F low l rfl (by omega) (by omega) (by omega) (by omega)
end Go.Proofs.Ytodfdhnlhiaohaa.AE.FF
end
section
namespace Go.Proofs.Ytodfdhnlhiaohaa.AE.FF
open Go Go.AE Go.Proofs
variable {F:Nat} {i j k:Int}
def adl (x:List Int) (off:Int) (y:List Int) (i0:Int) (n:Nat):Int:=gt x n+(if off+i0<=n/\(n:Int)<off+y.length then gt y (n - off).toNat else 0)
def Sm (x:List Int) (m:Int):Prop:=∀ n:Nat,-m<=gt x n/\gt x n<=m
theorem Sm.le {x:List Int} {m m':Int} (h:Sm x m) (hm:m<=m'):Sm x m':=λn=>by have:=h n;omega
theorem adl_step {x y:List Int} {off i0 v:Int} (ho:0<=off) (hi:0<=i0) (hiy:i0<y.length) (hx:off+y.length<=x.length) (hv:v=gt x (off+i0).toNat+gt y i0.toNat) (n:Nat) :
  adl (x.set (off+i0).toNat v) off y (i0+1) n=adl x off y i0 n:=by
 unfold adl
 by_cases e:n=(off+i0).toNat
 ·subst e
  rw [gt_set_eq (by omega),if_neg (by omega),if_pos (by omega),hv,show (((off+i0).toNat:Int) - off).toNat=i0.toNat by omega];omega
 ·rw [gt_set_ne (Ne.symm e)]
  by_cases c:off+(i0+1)<=n/\(n:Int)<off+y.length
  ·rw [if_pos c,if_pos (by omega)]
  ·rw [if_neg c,if_neg (by omega)]
theorem adl_end {x y:List Int} {off i0:Int} (h:y.length<=i0) (n:Nat):adl x off y i0 n=gt x n:=by
 unfold adl;rw [if_neg (by omega)];omega
theorem ZW {plow low:Int} {y:List Int} {ql:Int} {q:List Int} (h0:0<=plow - low) (h1:plow - low<=100000) (hp:-1000000<=plow/\plow<=1000000) (hlow:-1000000<=low/\low<=1000000) (hy:y.length<=2000) (hys:Sm y 4000000000000):∀ (n g:Nat) (x:List Int) (i0:Int),y.length - i0=n->n<g->0<=i0->plow - low+y.length<=x.length->(∀ n:Nat,(-4000000000000<=gt x n/\gt x n<=4000000000000)\/(n:Int)<plow - low+i0) ->
  ∃ x',aJ.pl509 F g plow y ql q low x i0=aJ.pj2 F ql q low x'/\x'.length=x.length/\∀ n,gt x' n=adl x (plow - low) y i0 n:=by
 intro n
 induction n with
 | zero=>
  intro g x i0 hn hg hi hx hs
  obtain ⟨g,rfl⟩:∃ g',g=g'+1:=⟨g - 1,by omega⟩
  rw [aJ.pl509,decide_eq_false (by omega),cond_false]
  exact ⟨x,rfl,rfl,λn=>(adl_end (by omega) n).symm⟩
 | succ n ih=>
  intro g x i0 hn hg hi hx hs
  obtain ⟨g,rfl⟩:∃ g',g=g'+1:=⟨g - 1,by omega⟩
  rw [aJ.pl509,decide_eq_true (by omega),cond_true]
  have s1:=hys i0.toNat
  have s2:-4000000000000<=gt x (plow - low+i0).toNat/\gt x (plow - low+i0).toNat<=4000000000000:=by
   rcases hs (plow - low+i0).toNat with h | h
   ·exact h
   ·omega
  rw [bg (x:=plow - low) (by omega) (by omega),bg (x:=plow - low+i0) (by omega) (by omega),ix_of (by omega) (by omega),Option.bind_some,ix_of (by omega) (by omega),Option.bind_some,Option.bind_some,Option.bind_some,bg (x:=i0+1) (by omega) (by omega),bg (by omega) (by omega)]
  obtain ⟨x',e,e1,e2⟩:=ih g (x.set (plow - low+i0).toNat (gt x (plow - low+i0).toNat+gt y i0.toNat)) (i0+1) (by omega) (by omega) (by omega) (by rw [List.length_set];omega) (λm=>by
   by_cases c:m=(plow - low+i0).toNat
   ·exact .inr (by omega)
   ·rw [gt_set_ne (Ne.symm c)];rcases hs m with h | h
    ·exact .inl h
    ·exact .inr (by omega))
  exact ⟨x',e,by rw [e1,List.length_set],λm=>by rw [e2 m,adl_step h0 hi (by omega) hx rfl]⟩
theorem ZX {plow low:Int} {y:List Int} (h0:0<=plow - low) (h1:plow - low<=100000) (hp:-1000000<=plow/\plow<=1000000) (hlow:-1000000<=low/\low<=1000000) (hy:y.length<=2000) (hys:Sm y 4000000000000):∀ (n g:Nat) (x:List Int) (i0:Int),y.length - i0=n->n<g->0<=i0->plow - low+y.length<=x.length->(∀ n:Nat,(-8000000000000<=gt x n/\gt x n<=8000000000000)\/(n:Int)<plow - low+i0) ->
  ∃ x',aJ.pl1021 F g plow y low x i0=aJ.pj1 F low x'/\x'.length=x.length/\∀ n,gt x' n=adl x (plow - low) y i0 n:=by
 intro n
 induction n with
 | zero=>
  intro g x i0 hn hg hi hx hs
  obtain ⟨g,rfl⟩:∃ g',g=g'+1:=⟨g - 1,by omega⟩
  rw [aJ.pl1021,decide_eq_false (by omega),cond_false]
  exact ⟨x,rfl,rfl,λn=>(adl_end (by omega) n).symm⟩
 | succ n ih=>
  intro g x i0 hn hg hi hx hs
  obtain ⟨g,rfl⟩:∃ g',g=g'+1:=⟨g - 1,by omega⟩
  rw [aJ.pl1021,decide_eq_true (by omega),cond_true]
  have s1:=hys i0.toNat
  have s2:-8000000000000<=gt x (plow - low+i0).toNat/\gt x (plow - low+i0).toNat<=8000000000000:=by
   rcases hs (plow - low+i0).toNat with h | h
   ·exact h
   ·omega
  rw [bg (x:=plow - low) (by omega) (by omega),bg (x:=plow - low+i0) (by omega) (by omega),ix_of (by omega) (by omega),Option.bind_some,ix_of (by omega) (by omega),Option.bind_some,Option.bind_some,Option.bind_some,bg (x:=i0+1) (by omega) (by omega),bg (by omega) (by omega)]
  obtain ⟨x',e,e1,e2⟩:=ih g (x.set (plow - low+i0).toNat (gt x (plow - low+i0).toNat+gt y i0.toNat)) (i0+1) (by omega) (by omega) (by omega) (by rw [List.length_set];omega) (λm=>by
   by_cases c:m=(plow - low+i0).toNat
   ·exact .inr (by omega)
   ·rw [gt_set_ne (Ne.symm c)];rcases hs m with h | h
    ·exact .inl h
    ·exact .inr (by omega))
  exact ⟨x',e,by rw [e1,List.length_set],λm=>by rw [e2 m,adl_step h0 hi (by omega) hx rfl]⟩
theorem QI {plow low c1:Int} {y:List Int} {v:List (Int×List Int)} {a b:Int} {pC} (h0:0<=plow - low) (h1:plow - low<=100000) (hp:-1000000<=plow/\plow<=1000000) (hlow:-1000000<=low/\low<=1000000) (hy:y.length<=2000) (hys:Sm y 4000000000000):∀ (n g:Nat) (x:List Int) (i0:Int),y.length - i0=n->n<g->0<=i0->plow - low+y.length<=x.length->(∀ n:Nat,(-8000000000000<=gt x n/\gt x n<=8000000000000)\/(n:Int)<plow - low+i0) ->
  ∃ x',aE.pl8027 F pC g low c1 x v a b plow y y.length i0=pC low c1 x' v a (IntKind.i64.wrap (b+1))/\x'.length=x.length/\∀ n,gt x' n=adl x (plow - low) y i0 n:=by
 intro n
 induction n with
 | zero=>
  intro g x i0 hn hg hi hx hs
  obtain ⟨g,rfl⟩:∃ g',g=g'+1:=⟨g - 1,by omega⟩
  rw [aE.pl8027,decide_eq_false (by omega),cond_false]
  exact ⟨x,rfl,rfl,λn=>(adl_end (by omega) n).symm⟩
 | succ n ih=>
  intro g x i0 hn hg hi hx hs
  obtain ⟨g,rfl⟩:∃ g',g=g'+1:=⟨g - 1,by omega⟩
  rw [aE.pl8027,decide_eq_true (by omega),cond_true]
  have s1:=hys i0.toNat
  have s2:-8000000000000<=gt x (plow - low+i0).toNat/\gt x (plow - low+i0).toNat<=8000000000000:=by
   rcases hs (plow - low+i0).toNat with h | h
   ·exact h
   ·omega
  rw [bg (x:=plow - low) (by omega) (by omega),bg (x:=plow - low+i0) (by omega) (by omega),ix_of (by omega) (by omega),Option.bind_some,ix_of (by omega) (by omega),Option.bind_some,Option.bind_some,Option.bind_some,bg (x:=i0+1) (by omega) (by omega),bg (by omega) (by omega)]
  obtain ⟨x',e,e1,e2⟩:=ih g (x.set (plow - low+i0).toNat (gt x (plow - low+i0).toNat+gt y i0.toNat)) (i0+1) (by omega) (by omega) (by omega) (by rw [List.length_set];omega) (λm=>by
   by_cases c:m=(plow - low+i0).toNat
   ·exact .inr (by omega)
   ·rw [gt_set_ne (Ne.symm c)];rcases hs m with h | h
    ·exact .inl h
    ·exact .inr (by omega))
  exact ⟨x',e,by rw [e1,List.length_set],λm=>by rw [e2 m,adl_step h0 hi (by omega) hx rfl]⟩
theorem co_adl {x x' y:List Int} {low plow:Int} (h0:0<=plow - low) (hx':∀ n,gt x' n=adl x (plow - low) y 0 n) (e:Int):co low x' e=co low x e+co plow y e:=by
 by_cases c:low<=e
 ·obtain ⟨n,rfl⟩:∃ n:Nat,e=low+n:=⟨(e - low).toNat,by omega⟩
  rw [ip,ip,<-gt_def,<-gt_def,hx' n]
  unfold adl
  congr 1
  by_cases h:plow - low+0<=n/\(n:Int)<plow - low+y.length
  ·rw [if_pos h]
   unfold co
   rw [if_pos (by omega),gt_def,show ((n:Int) - (plow - low)).toNat=(low+n - plow).toNat by omega]
  ·rw [if_neg h]
   by_cases h2:plow<=low+n
   ·rw [zU (by omega)]
   ·rw [lL (by omega)]
 ·rw [lL (by omega),lL (by omega),lL (by omega)];rfl
theorem co_zero (low:Int) (n:Nat) (e:Int):co low (List.replicate n (0:Int)) e=0:=by
 unfold co;split
 ·rw [List.getD_eq_getElem?_getD,List.getElem?_replicate];split <;> rfl
 ·rfl
theorem gt_zero (n m:Nat):gt (List.replicate n (0:Int)) m=0:=by
 unfold gt;rw [List.getD_eq_getElem?_getD,List.getElem?_replicate];split <;> rfl
theorem Sm.adl {x x' y:List Int} {off a b:Int} (hx:Sm x a) (hy:Sm y b) (hb:0<=b) (h:∀ n,gt x' n=adl x off y 0 n):Sm x' (a+b):=by
 intro n
 rw [h n]
 have:=hx n
 unfold FF.adl
 split
 ·have:=hy (n - off).toNat;omega
 ·omega
def SumOf (p:Int) (x:List Int) (q:Int) (y:List Int) (r:Int×List Int):Prop:=Trim r.1 r.2/\∀ e,co r.1 r.2 e=co p x e+co q y e
theorem specSum {p q:Int} {x y:List Int} (hF:5000000<F) (hx:x.length<=500) (hy:y.length<=500) (hp:-600<=p/\p<=600) (hq:-600<=q/\q<=600) (hxs:Sm x 1000000000000) (hys:Sm y 1000000000000) :
  ∃ r,aJ.p F p x q y=some r/\SumOf p x q y r:=by
 unfold aJ.p
 by_cases h1:x.length=0
 ·rw [show ((x.length:Int)==0)=true from beq_iff_eq.2 (by omega),cond_true]
  obtain ⟨r,e,hr⟩:=specForm (F:=F) (low:=q) (l:=y) hF (by omega) (by omega)
  rw [e,Option.bind_some]
  obtain rfl:=List.length_eq_zero_iff.1 h1
  exact ⟨_,rfl,hr.1,λe=>by rw [hr.2.1 e,mX];omega⟩
 ·rw [show ((x.length:Int)==0)=false from beq_eq_false_iff_ne.2 (by omega),cond_false]
  by_cases h2:y.length=0
  ·rw [show ((y.length:Int)==0)=true from beq_iff_eq.2 (by omega),cond_true]
   obtain ⟨r,e,hr⟩:=specForm (F:=F) (low:=p) (l:=x) hF (by omega) (by omega)
   rw [e,Option.bind_some]
   obtain rfl:=List.length_eq_zero_iff.1 h2
   exact ⟨_,rfl,hr.1,λe=>by rw [hr.2.1 e,mX];omega⟩
  ·rw [show ((y.length:Int)==0)=false from beq_eq_false_iff_ne.2 (by omega),cond_false]
   rw [bg (x:=q+y.length) (by omega) (by omega),bg (x:=p+x.length) (by omega) (by omega)]
   obtain ⟨low,hlow⟩:∃ low,low=if q<p then q else p:=⟨_,rfl⟩
   obtain ⟨hi,hhi⟩:∃ hi,hi=if q+(y.length:Int)>p+x.length then q+(y.length:Int) else p+x.length:=⟨_,rfl⟩
   rw [<- hlow,<-hhi]
   have g1:low<=q/\low<=p/\-600<=low:=by rw [hlow];split <;> omega
   have g2:q+(y.length:Int)<=hi/\p+(x.length:Int)<=hi/\hi<=1100:=by rw [hhi];split <;> omega
   rw [bg (x:=hi - low) (by omega) (by omega)]
   unfold mkn
   rw [if_pos (by omega),Option.bind_some]
   obtain ⟨z1,f1,f2,f3⟩:=ZW (F:=F) (ql:=q) (q:=y) (plow:=p) (low:=low) (y:=x) (by omega) (by omega) (by omega) (by omega) (by omega) (hxs.le (by omega)) x.length F (List.replicate (hi - low).toNat 0) 0 (by omega) (by omega) (by omega) (by rw [List.length_replicate];omega) (λn=>.inl (by rw [gt_zero];omega))
   have sz1:Sm z1 1000000000000:=by
    have:=Sm.adl (x:=List.replicate (hi - low).toNat 0) (a:=0) (λn=>by rw [gt_zero];omega) hxs (by omega) f3
    exact this.le (by omega)
   rw [f1]
   unfold aJ.pj2
   obtain ⟨z2,e1,e2,e3⟩:=ZX (F:=F) (plow:=q) (low:=low) (y:=y) (by omega) (by omega) (by omega) (by omega) (by omega) (hys.le (by omega)) y.length F z1 0 (by omega) (by omega) (by omega) (by rw [f2,List.length_replicate];omega) (λn=>.inl (by have:=sz1 n;omega))
   rw [e1]
   unfold aJ.pj1
   obtain ⟨r,e,hr⟩:=specForm (F:=F) (low:=low) (l:=z2) hF (by rw [e2,f2,List.length_replicate];omega) (by omega)
   rw [e,Option.bind_some]
   exact ⟨_,rfl,hr.1,λe=>by rw [hr.2.1 e,co_adl (by omega) e3 e,co_adl (by omega) f3 e,co_zero];omega⟩
end Go.Proofs.Ytodfdhnlhiaohaa.AE.FF
end
section
namespace Go.Proofs.Ytodfdhnlhiaohaa.AE.FF
open Go Go.AE Go.Proofs
variable {F:Nat} {i j k:Int}
def Lau (low:Int) (l:List Int):Prop:=(l.length=0->low=0)/\l.length<=160/\-240<=low/\low+l.length<=241/\low<=240/\Sm l 1000000000000/\(l.length≠0->gt l 0≠0/\gt l (l.length - 1)≠0)
theorem ix_of' {α:Type} {l:List α} {i:Int} (h:0<=i/\i<l.length):ix l i=some i.toNat:=by
 unfold ix;rw [if_pos h]
theorem idx_226 {l:List Int} (hl:l.length<=160) (hs:Sm l 1000000000000):∀ (n g:Nat) (i:Int),l.length - i=n->n<g->0<=i->bN.pl13 F g l l.length i=some (-1):=by
 intro n
 induction n with
 | zero=>
  intro g i hn hg hi
  obtain ⟨g,rfl⟩:∃ g',g=g'+1:=⟨g - 1,by omega⟩
  rw [bN.pl13,decide_eq_false (by omega),cond_false]
 | succ n ih=>
  intro g i hn hg hi
  obtain ⟨g,rfl⟩:∃ g',g=g'+1:=⟨g - 1,by omega⟩
  rw [bN.pl13,decide_eq_true (by omega),cond_true,ix_of hi (by omega),Option.bind_some]
  unfold ef.p
  rw [oR,Option.bind_some,Option.bind_some,decide_eq_true (show InR _ _ _ from hs i.toNat),Bool.not_true,cond_false,bg (by omega) (by omega)]
  exact ih g (i+1) (by omega) (by omega) (by omega)
theorem high_of {low:Int} {l:List Int} (hl:l.length<=2000) (h:-1000000<=low/\low<=1000000):cn.p F low l=some (low+l.length - 1):=by
 unfold cn.p fz.p
 rw [Option.bind_some,bg (x:=low+l.length) (by omega) (by omega),bg (by omega) (by omega)]
theorem isLau {low:Int} {l:List Int} (hF:5000000<F) (h:Lau low l):dD.p F low l=some true:=by
 obtain ⟨h1,h2,h3,h4,h5,h6,h7⟩:=h
 unfold dD.p
 by_cases h0:l.length=0
 ·rw [show ((l.length:Int)==0)=true from beq_iff_eq.2 (by omega),cond_true,h1 h0];rfl
 ·obtain ⟨a,b⟩:=h7 h0
  rw [show ((l.length:Int)==0)=false from beq_eq_false_iff_ne.2 (by omega),cond_false,decide_eq_true (by omega),cond_true,ix_of (by omega) (by omega),Option.bind_some]
  rw [show (gt l (0:Int).toNat != 0)=true from bne_iff_ne.2 a,cond_true,bg (by omega) (by omega),ix_of (by omega) (by omega),Option.bind_some]
  rw [show (gt l ((l.length:Int) - 1).toNat != 0)=true from bne_iff_ne.2 (by rw [show ((l.length:Int) - 1).toNat=l.length - 1 by omega];exact b),cond_true,decide_eq_true (by omega),cond_true,high_of (by omega) (by omega),Option.bind_some,decide_eq_true (by omega),cond_true,decide_eq_true (by omega),cond_true]
  unfold eC.p bN.p
  rw [idx_226 h2 h6 l.length F 0 (by omega) (by omega) (by omega)]
  rfl
theorem areLau {p q:Int} {x y:List Int} (hF:5000000<F) (h1:Lau p x) (h2:Lau q y):dr.p F [(p,x),(q,y)]=some true:=by
 unfold dr.p eD.p bK.p
 obtain ⟨f,rfl⟩:∃ f,F=f+3:=⟨F - 3,by omega⟩
 have e1:=isLau (F:=f+3) (by omega) h1
 have e2:=isLau (F:=f+3) (by omega) h2
 have hx:bK.pl13 (f+3) (f+3) [(p,x),(q,y)] (([(p,x),(q,y)]:List (Int×List Int)).length:Int) 0=some (-1):=by
  rw [bK.pl13,decide_eq_true (by simp),cond_true,ix_of' (by simp),Option.bind_some]
  unfold dY.p
  rw [show gt [(p,x),(q,y)] (0:Int).toNat=(p,x) from rfl]
  simp only []
  rw [e1,Option.bind_some,Option.bind_some,Bool.not_true,cond_false,bg (by omega) (by omega)]
  rw [bK.pl13,decide_eq_true (by simp),cond_true,ix_of' (by simp),Option.bind_some]
  unfold dY.p
  rw [show gt [(p,x),(q,y)] (0+1:Int).toNat=(q,y) from rfl]
  simp only []
  rw [e2,Option.bind_some,Option.bind_some,Bool.not_true,cond_false,bg (by omega) (by omega)]
  rw [bK.pl13,decide_eq_false (by simp),cond_false]
 rw [hx];rfl
theorem implSum {p q:Int} {x y:List Int} (hF:5000000<F) (h1:Lau p x) (h2:Lau q y) (H:∀ r,SumOf p x q y r->Lau r.1 r.2) :
  ∃ r,dc.p F p x q y=some r/\SumOf p x q y r:=by
 have a:=areLau hF h1 h2
 obtain ⟨a1,a2,a3,a4,a5,a6,a7⟩:=h1
 obtain ⟨b1,b2,b3,b4,b5,b6,b7⟩:=h2
 unfold dc.p aE.p
 rw [a,Option.bind_some,Bool.not_true,cond_false,high_of (by omega) (by omega),Option.bind_some,high_of (by omega) (by omega),Option.bind_some]
 obtain ⟨low,hlow⟩:∃ low,low=if q<p then q else p:=⟨_,rfl⟩
 obtain ⟨hi,hhi⟩:∃ hi,hi=if q+(y.length:Int) - 1>p+x.length - 1 then q+(y.length:Int) - 1 else p+x.length - 1:=⟨_,rfl⟩
 rw [<- hlow,<-hhi]
 have g1:low<=q/\low<=p/\-240<=low:=by rw [hlow];split <;> omega
 have g2:q+(y.length:Int) - 1<=hi/\p+(x.length:Int) - 1<=hi/\hi<=240:=by rw [hhi];split <;> omega
 obtain ⟨top,htop⟩:∃ top,top=if low>hi then low else hi:=⟨_,rfl⟩
 rw [<- htop]
 have g3:low<=top/\hi<=top/\top<=240:=by rw [htop];split <;> omega
 rw [bg (x:=top - low) (by omega) (by omega),bg (x:=top - low+1) (by omega) (by omega)]
 unfold mkn
 rw [if_pos (by omega),Option.bind_some]
 obtain ⟨f,hf⟩:∃ f,F=f+3:=⟨F - 3,by omega⟩
 have lp:∃ z2,aE.pl125 F F low low (List.replicate (top - low+1).toNat 0) [(p,x),(q,y)] 2 0=aE.pj3 F low z2/\z2.length=(top - low+1).toNat/\∀ e,co low z2 e=co p x e+co q y e:=by
  rw [show aE.pl125 F F low low (List.replicate (top - low+1).toNat 0) [(p,x),(q,y)] 2 0=aE.pl125 F (f+3) low low (List.replicate (top - low+1).toNat 0) [(p,x),(q,y)] 2 0 by rw [hf]]
  rw [aE.pl125,decide_eq_true (by omega),cond_true,ix_of' (by simp),Option.bind_some]
  rw [show gt [(p,x),(q,y)] (0:Int).toNat=(p,x) from rfl]
  simp only []
  obtain ⟨z1,f1,f2,f3⟩:=QI (F:=F) (c1:=low) (v:=[(p,x),(q,y)]) (a:=2) (b:=0) (pC:=aE.pl125 F (f+2)) (plow:=p) (low:=low) (y:=x) (by omega) (by omega) (by omega) (by omega) (by omega) (a6.le (by omega)) x.length F (List.replicate (top - low+1).toNat 0) 0 (by omega) (by omega) (by omega) (by rw [List.length_replicate];omega) (λn=>.inl (by rw [gt_zero];omega))
  have sz1:Sm z1 1000000000000:=by
   have:=Sm.adl (x:=List.replicate (top - low+1).toNat 0) (a:=0) (λn=>by rw [gt_zero];omega) a6 (by omega) f3
   exact this.le (by omega)
  rw [f1,bg (by omega) (by omega)]
  rw [aE.pl125,decide_eq_true (by omega),cond_true,ix_of' (by simp),Option.bind_some]
  rw [show gt [(p,x),(q,y)] (0+1:Int).toNat=(q,y) from rfl]
  simp only []
  obtain ⟨z2,e1,e2,e3⟩:=QI (F:=F) (c1:=low) (v:=[(p,x),(q,y)]) (a:=2) (b:=0+1) (pC:=aE.pl125 F (f+1)) (plow:=q) (low:=low) (y:=y) (by omega) (by omega) (by omega) (by omega) (by omega) (b6.le (by omega)) y.length F z1 0 (by omega) (by omega) (by omega) (by rw [f2,List.length_replicate];omega) (λn=>.inl (by have:=sz1 n;omega))
  rw [e1,bg (by omega) (by omega)]
  rw [aE.pl125,decide_eq_false (by omega),cond_false]
  exact ⟨z2,rfl,by rw [e2,f2,List.length_replicate],λe=>by rw [co_adl (by omega) e3 e,co_adl (by omega) f3 e,co_zero];omega⟩
 obtain ⟨z2,e1,e2,e3⟩:=lp
 rw [e1]
 unfold aE.pj3 dE.p
 obtain ⟨r,e,hr⟩:=implNorm (F:=F) (low:=low) (l:=z2) hF (by omega) (by omega)
 have hs:SumOf p x q y r:=⟨hr.1,λe=>by rw [hr.2.1 e,e3 e]⟩
 rw [e,Option.bind_some,isLau hF (H r hs),Option.bind_some]
 exact ⟨_,rfl,hs⟩
theorem Trim.one {e c:Int} (hc:c≠0):Trim e [c]:=⟨λh=>(by cases h),λ_=>hc,λ_=>hc⟩
theorem mono_of {e c:Int} (hF:5000000<F) (hc:c≠0) (he:-1000<=e/\e<=1000):db.p F c e=some (e,[c]):=by
 unfold db.p
 obtain ⟨r,h,hr⟩:=implNorm (F:=F) (low:=e) (l:=[c]) hF (by simp) (by omega)
 rw [h,Option.bind_some]
 obtain ⟨q1,q2⟩:=hr.1.unique (Trim.one hc) hr.2.1
 rw [q1,q2]
end Go.Proofs.Ytodfdhnlhiaohaa.AE.FF
end
section
namespace Go.Proofs.Ytodfdhnlhiaohaa.AE.FF
open Go Go.AE Go.Proofs
variable {F:Nat} {i j k:Int}
def Letter (x:Int):Prop:=x≠0/\-100<=x/\x<=100
def Letters (l:List Int) (i:Int):Prop:=∀ n:Nat,i<=n->n<l.length->Letter (gt l n)
structure Inv (low:Int) (l:List Int) (e:Int) (n:Nat):Prop where
 trim:Trim low l
 box:∃ a b:Int,a<=0/\0<=b/\a<=e/\e<=b/\b - a<=n/\∀ x,co low l x≠0->a - 1<=x/\x<=b
 bd:∀ x,-(n:Int)<=co low l x/\co low l x<=n
theorem Inv.lau_of {low:Int} {l:List Int} (ht:Trim low l) {a b:Int} (ha:-121<=a) (ha0:a<=0) (hb0:0<=b) (hb:b<=121) (hab:b - a<=121) (hbox:∀ x,co low l x≠0->a - 1<=x/\x<=b) {n:Nat} (hn:n<=1000) (hbd:∀ x,-(n:Int)<=co low l x/\co low l x<=n):Lau low l:=by
 have hsm:Sm l 1000000000000:=by
  intro m
  have:=hbd (low+m)
  rw [ip,<-gt_def] at this
  omega
 by_cases h0:l.length=0
 ·have hl:=List.length_eq_zero_iff.1 h0
  have:=ht.nil hl
  exact ⟨λ_=>this,by omega,by omega,by omega,by omega,hsm,λh=>absurd h0 h⟩
 ·have hne:l≠[]:=λh=>h0 (by rw [h];rfl)
  have h1:=ht.first hne
  have h2:=ht.last hne
  have g1:=hbox (low+(0:Nat)) (by rw [ip];exact h1)
  have g2:=hbox (low+((l.length - 1:Nat):Int)) (by rw [ip];exact h2)
  exact ⟨λh=>absurd h h0,by omega,by omega,by omega,by omega,hsm,λ_=>⟨h1,h2⟩⟩
theorem Inv.lau {low:Int} {l:List Int} {e:Int} {n:Nat} (h:Inv low l e n) (hn:n<=120):Lau low l:=by
 obtain ⟨a,b,h1,h2,h3,h4,h5,h6⟩:=h.box
 exact lau_of h.trim (a:=a) (b:=b) (by omega) h1 h2 (by omega) (by omega) h6 (n:=n) (by omega) h.bd
theorem co_one (e c x:Int):co e [c] x=if x=e then c else 0:=by
 by_cases h:x=e
 ·subst h
  have:=ip x [c] 0
  rw [show x+((0:Nat):Int)=x by omega] at this
  rw [this,if_pos rfl];rfl
 ·rw [if_neg h]
  by_cases h2:x<e
  ·exact lL h2
  ·exact zU (by simp;omega)
theorem Inv.sum {low:Int} {l:List Int} {e e' e0 c:Int} {n:Nat} (h:Inv low l e n) (hn:n+1<=120) (he:e'=e+1\/e'=e - 1) (he0:e0=e\/e0=e - 1) (hc:c=1\/c=-1) {r:Int×List Int} (hr:SumOf low l e0 [c] r):Lau r.1 r.2/\Inv r.1 r.2 e' (n+1):=by
 obtain ⟨a,b,h1,h2,h3,h4,h5,h6⟩:=h.box
 have hco:∀ x,co r.1 r.2 x=co low l x+if x=e0 then c else 0:=λx=>by rw [hr.2 x,co_one]
 have hb:∀ x,co r.1 r.2 x≠0->a - 1<=x/\x<=b:=by
  intro x hx
  rw [hco] at hx
  by_cases hxe:x=e0
  ·omega
  ·rw [if_neg hxe,Int.add_zero] at hx
   exact h6 x hx
 have hbd:∀ x,-((n+1:Nat):Int)<=co r.1 r.2 x/\co r.1 r.2 x<=((n+1:Nat):Int):=by
  intro x
  have:=h.bd x
  rw [hco]
  split <;> omega
 refine ⟨lau_of hr.1 (a:=a) (b:=b) (by omega) h1 h2 (by omega) (by omega) hb (n:=n+1) (by omega) hbd,hr.1,?_,hbd⟩
 rcases he with he | he
 ·by_cases c:e'<=b
  ·exact ⟨a,b,h1,h2,by omega,c,by omega,hb⟩
  ·exact ⟨a,e',h1,by omega,by omega,by omega,by omega,λx hx=>by have:=hb x hx;omega⟩
 ·by_cases c:a<=e'
  ·exact ⟨a,b,h1,h2,c,by omega,by omega,hb⟩
  ·exact ⟨e',b,by omega,h2,by omega,by omega,by omega,λx hx=>by have:=hb x hx;omega⟩
theorem Inv.skip {low:Int} {l:List Int} {e e':Int} {n:Nat} (h:Inv low l e n) (he:e'=e+1\/e'=e - 1):Inv low l e' (n+1):=by
 obtain ⟨a,b,h1,h2,h3,h4,h5,h6⟩:=h.box
 refine ⟨h.trim,?_,λx=>by have:=h.bd x;omega⟩
 rcases he with he | he
 ·by_cases c:e'<=b
  ·exact ⟨a,b,h1,h2,by omega,c,by omega,h6⟩
  ·exact ⟨a,e',h1,by omega,by omega,by omega,by omega,λx hx=>by have:=h6 x hx;omega⟩
 ·by_cases c:a<=e'
  ·exact ⟨a,b,h1,h2,c,by omega,by omega,h6⟩
  ·exact ⟨e',b,by omega,h2,by omega,by omega,by omega,λx hx=>by have:=h6 x hx;omega⟩
theorem Inv.e_bd {low:Int} {l:List Int} {e:Int} {n:Nat} (h:Inv low l e n):-(n:Int)<=e/\e<=n:=by
 obtain ⟨a,b,h1,h2,h3,h4,h5,h6⟩:=h.box
 omega
theorem Sm.one {c:Int} (hc:c=1\/c=-1):Sm [c] 1000000000000:=by
 intro n
 match n with
 | 0=>show -1000000000000<=c/\c<=1000000000000;omega
 | n+1=>rw [gt_out (by simp)];omega
theorem Lau.one {e c:Int} (hc:c=1\/c=-1) (he:-200<=e/\e<=200):Lau e [c]:=
 ⟨λh=>(by cases h),by simp,by omega,by simp;omega,by omega,Sm.one hc,λ_=>⟨show c≠0 by omega,show c≠0 by omega⟩⟩
def foxc:List Int->Int->Int->Int->Int
 | [],_,_,_=>0
 | a::w,g,e,x=>(if a=g/\x=e then 1 else if a=-g/\x=e - 1 then -1 else 0)+foxc w g (if a>0 then e+1 else e - 1) x
theorem term_both {low:Int} {l:List Int} {e e' e0 c:Int} {n:Nat} (hF:5000000<F) (h:Inv low l e n) (hn:n+1<=120) (he:e'=e+1\/e'=e - 1) (he0:e0=e\/e0=e - 1) (hc:c=1\/c=-1) :
  ∃ r:Int×List Int,aJ.p F low l e0 [c]=some r/\db.p F c e0=some (e0,[c])/\dc.p F low l e0 [c]=some r/\Inv r.1 r.2 e' (n+1)/\∀ x,co r.1 r.2 x=co low l x+(if x=e0 then c else 0):=by
 have hl:=h.lau (by omega)
 have heb:=h.e_bd
 obtain ⟨a1,a2,a3,a4,a5,a6,a7⟩:=hl
 obtain ⟨r,e1,hr⟩:=specSum (F:=F) (p:=low) (x:=l) (q:=e0) (y:=[c]) hF (by omega) (by simp) (by omega) (by omega) a6 (Sm.one hc)
 obtain ⟨r',e2,hr'⟩:=implSum (F:=F) (p:=low) (x:=l) (q:=e0) (y:=[c]) hF ⟨a1,a2,a3,a4,a5,a6,a7⟩ (Lau.one hc (by omega)) (λr hr=>(h.sum hn he he0 hc hr).1)
 have:r=r':=by
  obtain ⟨q1,q2⟩:=hr.1.unique hr'.1 (λx=>by rw [hr.2 x,hr'.2 x])
  exact Prod.ext q1 q2
 subst this
 exact ⟨r,e1,mono_of hF (by omega) (by omega),e2,(h.sum hn he he0 hc hr).2,λx=>by rw [hr.2 x,co_one]⟩
theorem fox_l {w:List Int} {g:Int} (hF:5000000<F) (hw:Letters w 0) (hl:w.length<=120) (hg:1<=g/\g<=100):∀ (n gs gi:Nat) (low:Int) (l:List Int) (e i:Int),w.length - i=n->n<gs->n<gi->0<=i->Inv low l e i.toNat ->
  ∃ (r:Int×List Int) (e':Int),aK.pl61 F gs w g low l e i=some r/\aM.pl61 F gi g low l e w w.length i=some r/\Inv r.1 r.2 e' w.length/\∀ x,co r.1 r.2 x=co low l x+foxc (w.drop i.toNat) g e x:=by
 intro n
 induction n with
 | zero=>
  intro gs gi low l e i hn h1 h2 hi h
  obtain ⟨gs,rfl⟩:∃ g',gs=g'+1:=⟨gs - 1,by omega⟩
  obtain ⟨gi,rfl⟩:∃ g',gi=g'+1:=⟨gi - 1,by omega⟩
  rw [aK.pl61,aM.pl61,decide_eq_false (by omega),cond_false,cond_false]
  rw [show i.toNat=w.length by omega] at h
  exact ⟨_,e,rfl,rfl,h,λx=>by rw [List.drop_eq_nil_of_le (by omega),foxc];exact (Int.add_zero _).symm⟩
 | succ n ih=>
  intro gs gi low l e i hn h1 h2 hi h
  obtain ⟨gs,rfl⟩:∃ g',gs=g'+1:=⟨gs - 1,by omega⟩
  obtain ⟨gi,rfl⟩:∃ g',gi=g'+1:=⟨gi - 1,by omega⟩
  have hx:=hw i.toNat (by omega) (by omega)
  have heb:=h.e_bd
  rw [aK.pl61,aM.pl61,decide_eq_true (by omega),cond_true,cond_true,ix_of hi (by omega),Option.bind_some,Option.bind_some,bg (x:=0 - g) (by omega) (by omega)]
  generalize hxe:gt w i.toNat=x at hx
  obtain ⟨hx0,hx1,hx2⟩:=hx
  obtain ⟨e',he',heq⟩:∃ e',(e'=e+1\/e'=e - 1)/\e'=if x>0 then e+1 else e - 1:=⟨if x>0 then e+1 else e - 1,by split <;> simp,rfl⟩
  have hiw:i.toNat<w.length:=by omega
  have hdw:w.drop i.toNat=x::w.drop (i.toNat+1):=by
   have:w[i.toNat]=x:=by rw [<- hxe];unfold gt;simp [hiw]
   rw [<- this];exact List.drop_eq_getElem_cons hiw
  -- what comes behind the terms
  have tailS:∀ (a:Int) (b:List Int),aK.pj5 F (aK.pl61 F gs) w g a b e i=aK.pl61 F gs w g a b e' (i+1):=by
   intro a b
   unfold aK.pj5 aK.pj4
   rw [ix_of hi (by omega),Option.bind_some,hxe,bg (x:=i+1) (by omega) (by omega),bg (x:=e+1) (by omega) (by omega),bg (x:=e - 1) (by omega) (by omega),heq]
   by_cases c:x>0
   ·rw [decide_eq_true c,cond_true,if_pos c]
   ·rw [decide_eq_false c,cond_false,if_neg c]
  have sg:dZ.p F x=some (e' - e):=by
   unfold dZ.p
   by_cases c:x<0
   ·rw [decide_eq_true c,cond_true,heq,if_neg (by omega)];congr 1;omega
   ·rw [decide_eq_false c,cond_false,heq,if_pos (by omega)];congr 1;omega
  have tail4:∀ (a:Int) (b:List Int),aM.pj4 F (aM.pl61 F gi) g a b e x w w.length i=aM.pl61 F gi g a b e' w w.length (i+1):=by
   intro a b
   unfold aM.pj4
   rw [sg,Option.bind_some,bg (x:=i+1) (by omega) (by omega),bg (by omega) (by omega),show e+(e' - e)=e' by omega]
  have tail6:∀ (a:Int) (b:List Int),aM.pj6 F (aM.pl61 F gi) g a b e x w w.length i=aM.pl61 F gi g a b e' w w.length (i+1):=by
   intro a b
   unfold aM.pj6 aM.pj5
   rw [sg,Option.bind_some,bg (x:=i+1) (by omega) (by omega),bg (by omega) (by omega),show e+(e' - e)=e' by omega]
  have six:∀ (a:Int) (b:List Int),x≠-g->aK.pj6 F (aK.pl61 F gs) w g a b e i=aK.pl61 F gs w g a b e' (i+1):=by
   intro a b hne
   unfold aK.pj6
   rw [ix_of hi (by omega),Option.bind_some,hxe,bg (x:=0 - g) (by omega) (by omega),show (x==0 - g)=false from beq_eq_false_iff_ne.2 (by omega),cond_false]
   exact tailS a b
  have hi1:(i+1).toNat=i.toNat+1:=by omega
  by_cases c1:x=g
  ·rw [show (x==g)=true from beq_iff_eq.2 c1,cond_true,cond_true]
   obtain ⟨r,f1,f2,f3,f4,f5⟩:=term_both (F:=F) (e0:=e) (c:=1) (e':=e') hF h (by omega) he' (.inl rfl) (.inl rfl)
   rw [f1,f2,Option.bind_some,Option.bind_some]
   simp only []
   rw [f3,Option.bind_some,six _ _ (by omega),tail4]
   obtain ⟨r',e'',k1,k2,k3,k4⟩:=ih gs gi r.1 r.2 e' (i+1) (by omega) (by omega) (by omega) (by omega) (by rw [hi1];exact f4)
   refine ⟨r',e'',k1,k2,k3,λy=>?_⟩
   rw [k4,f5,hdw,foxc,hi1,<-heq]
   by_cases cy:y=e
   ·rw [if_pos cy,if_pos ⟨c1,cy⟩];omega
   ·rw [if_neg cy,if_neg (by omega),if_neg (by omega)];omega
  ·rw [show (x==g)=false from beq_eq_false_iff_ne.2 c1,cond_false,cond_false]
   by_cases c2:x=-g
   ·rw [show (x==0 - g)=true from beq_iff_eq.2 (by omega),cond_true,bg (x:=e - 1) (by omega) (by omega)]
    obtain ⟨r,f1,f2,f3,f4,f5⟩:=term_both (F:=F) (e0:=e - 1) (c:=-1) (e':=e') hF h (by omega) he' (.inr rfl) (.inr rfl)
    unfold aK.pj6
    rw [ix_of hi (by omega),Option.bind_some,hxe,bg (x:=0 - g) (by omega) (by omega),show (x==0 - g)=true from beq_iff_eq.2 (by omega),cond_true,bg (x:=e - 1) (by omega) (by omega)]
    rw [f1,f2,Option.bind_some,Option.bind_some]
    simp only []
    rw [f3,Option.bind_some,tailS,tail6]
    obtain ⟨r',e'',k1,k2,k3,k4⟩:=ih gs gi r.1 r.2 e' (i+1) (by omega) (by omega) (by omega) (by omega) (by rw [hi1];exact f4)
    refine ⟨r',e'',k1,k2,k3,λy=>?_⟩
    rw [k4,f5,hdw,foxc,hi1,<-heq]
    by_cases cy:y=e - 1
    ·rw [if_pos cy,if_neg (λq=>c1 q.1),if_pos ⟨c2,cy⟩];omega
    ·rw [if_neg cy,if_neg (λq=>c1 q.1),if_neg (λq=>cy q.2)];omega
   ·rw [show (x==0 - g)=false from beq_eq_false_iff_ne.2 (by omega),cond_false,six _ _ c2,tail6]
    obtain ⟨r',e'',k1,k2,k3,k4⟩:=ih gs gi low l e' (i+1) (by omega) (by omega) (by omega) (by omega) (by rw [hi1];exact h.skip he')
    refine ⟨r',e'',k1,k2,k3,λy=>?_⟩
    rw [k4,hdw,foxc,hi1,<-heq,if_neg (λq=>c1 q.1),if_neg (λq=>c2 q.1)]
    omega
theorem fox_row {w:List Int} {g:Int} (hF:5000000<F) (hw:Letters w 0) (hl:w.length<=120) (hg:1<=g/\g<=100) :
  ∃ r:Int×List Int,aM.p F w g=some r/\aK.p F w g=some r/\Trim r.1 r.2/\Lau r.1 r.2/\∀ x,co r.1 r.2 x=foxc w g 0 x:=by
 unfold aK.p aM.p
 have hinv:Inv 0 [] 0 (0:Int).toNat:=⟨⟨λ_=>rfl,λh=>absurd rfl h,λh=>absurd rfl h⟩,⟨0,0,by omega,by omega,by omega,by omega,by omega,λx hx=>absurd (mX 0 x) hx⟩,λx=>by rw [mX];omega⟩
 obtain ⟨r,e',f1,f2,f3,f4⟩:=fox_l (F:=F) hF hw hl hg w.length F F 0 [] 0 0 (by omega) (by omega) (by omega) (by omega) hinv
 rw [f1,f2]
 exact ⟨r,rfl,rfl,f3.trim,f3.lau hl,λx=>by rw [f4,mX];simp⟩
end Go.Proofs.Ytodfdhnlhiaohaa.AE.FF
end
section
namespace Go.Proofs.Ytodfdhnlhiaohaa.AE.DD
open Go Go.AE Go.Proofs
variable {F:Nat}
section
variable {α:Type} [Inhabited α]
theorem gset_eq {l:List α} {n:Nat} {x:α} (h:n<l.length):gt (l.set n x) n=x:=by
 unfold gt;rw [List.getD_eq_getElem?_getD,List.getElem?_set_self h];rfl
theorem gset_ne {l:List α} {n m:Nat} {x:α} (h:n≠m):gt (l.set n x) m=gt l m:=by
 unfold gt;rw [List.getD_eq_getElem?_getD,List.getD_eq_getElem?_getD,List.getElem?_set_ne h]
theorem gt_out {l:List α} {n:Nat} (h:l.length<=n):gt l n=default:=by
 unfold gt;rw [List.getD_eq_getElem?_getD,List.getElem?_eq_none h];rfl
theorem gext {l m:List α} (h:l.length=m.length) (hh:∀ n:Nat,n<l.length->gt l n=gt m n):l=m:=by
 apply List.ext_getElem?
 intro n
 by_cases hn:n<l.length
 ·rw [fE hn,fE (by omega),hh n hn]
 ·rw [List.getElem?_eq_none (by omega),List.getElem?_eq_none (by omega)]
theorem gmem {l:List α} {n:Nat} (h:n<l.length):gt l n∈l:=List.mem_of_getElem? (fE h)
theorem gapp_lt {l m:List α} {n:Nat} (h:n<l.length):gt (l++m) n=gt l n:=by
 unfold gt;rw [List.getD_eq_getElem?_getD,List.getD_eq_getElem?_getD,List.getElem?_append_left h]
theorem gapp_eq {l:List α} {x:α}:gt (l++[x]) l.length=x:=by
 unfold gt;rw [List.getD_eq_getElem?_getD,List.getElem?_append_right (Nat.le_refl _),Nat.sub_self];rfl
theorem grep {n m:Nat} {x:α} (h:m<n):gt (List.replicate n x) m=x:=by
 unfold gt;rw [List.getD_eq_getElem?_getD,List.getElem?_replicate,if_pos h];rfl
theorem mem_gt {l:List α} {x:α} (h:x∈l):∃ n,n<l.length/\gt l n=x:=by
 obtain ⟨n,hn⟩:=List.getElem?_of_mem h
 have hl:=(List.getElem?_eq_some_iff.1 hn).1
 refine ⟨n,hl,?_⟩
 rw [fE hl] at hn;exact Option.some.inj hn
end
section
variable {α:Type}
theorem ix_of {l:List α} {i:Int} (h0:0<=i) (h:i<l.length):ix l i=some i.toNat:=by
 unfold ix;rw [if_pos ⟨h0,h⟩]
theorem ixn {l:List α} {n:Nat} (h:n<l.length):ix l (n:Int)=some n:=by
 rw [ix_of (by omega) (by omega)];simp
theorem apn_of {l m:List α} (h:l.length+m.length<=4294967296):apn l m=some (l++m):=by unfold apn;rw [if_pos h]
theorem mkn_of {n:Nat} {x:α} (h:n<=4294967296):mkn (n:Int) x=some (List.replicate n x):=by
 unfold mkn;rw [if_pos (by omega)];simp
end
theorem wn {i:Nat} (h:i<=4294967296):IntKind.i64.wrap (i:Int)=(i:Int):=bg (by omega) (by omega)
theorem ws {i:Nat} (h:i<=4294967296):IntKind.i64.wrap ((i:Int)+1)=((i+1:Nat):Int):=by rw [bg (by omega) (by omega)];omega
theorem dT {i n:Nat} (h:i<n):decide ((i:Int)<(n:Int))=true:=decide_eq_true (by omega)
theorem dF {i n:Nat} (h:n<=i):decide ((i:Int)<(n:Int))=false:=decide_eq_false (by omega)
abbrev Cr:=Int×Int×Int×Int×Int
theorem toCr_l {l:List Cr} (hl:l.length<=2000000):∀ (n g:Nat) (m:List Cr) (i:Nat),l.length - i=n->n<g->i<=l.length->m.length=l.length->(∀ a:Nat,a<i->gt m a=gt l a) ->
  bM.pl29 F g l m (i:Int)=some l:=by
 intro n
 induction n with
 | zero=>
  intro g m i hn hg hi hm hh
  obtain ⟨g,rfl⟩:∃ g',g=g'+1:=⟨g - 1,by omega⟩
  rw [bM.pl29,dF (by omega),cond_false]
  rw [gext hm (λa h=>hh a (by omega))]
 | succ n ih=>
  intro g m i hn hg hi hm hh
  obtain ⟨g,rfl⟩:∃ g',g=g'+1:=⟨g - 1,by omega⟩
  rw [bM.pl29,dT (by omega),cond_true,ixn (by omega),ixn (by omega),ws (by omega)]
  simp only [Option.bind_some,eR.p]
  refine ih g _ (i+1) (by omega) (by omega) (by omega) (by simp only [List.length_set];exact hm) λa ha=>?_
  by_cases e:a=i
  ·subst e
   have h1:a<m.length:=by omega
   simp only [gset_eq,List.length_set,h1]
  ·simp only [gset_ne (Ne.symm e)];exact hh a (by omega)
theorem toDg {l:List Cr} {c:Int} (hF:5000000<F) (hl:l.length<=2000000):dj.p F l c=some (l,c):=by
 unfold dj.p bM.p
 rw [mkn_of (by omega),Option.bind_some]
 have:=toCr_l (F:=F) hl l.length F (List.replicate l.length (0,0,0,0,0)) 0 (by omega) (by omega) (by omega) (by simp) (λa h=>by omega)
 rw [show ((0:Nat):Int)=0 from rfl] at this
 rw [this];rfl
theorem eqCr_l {l:List Cr} (hl:l.length<=2000000):∀ (n g:Nat) (i:Nat),l.length - i=n->n<g->bC.pl29 F g l l (i:Int)=some true:=by
 intro n
 induction n with
 | zero=>
  intro g i hn hg
  obtain ⟨g,rfl⟩:∃ g',g=g'+1:=⟨g - 1,by omega⟩
  rw [bC.pl29,dF (by omega),cond_false]
 | succ n ih=>
  intro g i hn hg
  obtain ⟨g,rfl⟩:∃ g',g=g'+1:=⟨g - 1,by omega⟩
  rw [bC.pl29,dT (by omega),cond_true,ixn (by omega),ws (by omega)]
  simp only [Option.bind_some,eV.p,bne_self_eq_false,cond_false,Bool.not_true]
  exact ih g (i+1) (by omega) (by omega)
theorem eqDg {l:List Cr} {c:Int} (hF:5000000<F) (hl:l.length<=2000000):ew.p F l c l c=some true:=by
 unfold ew.p bC.p
 have:=eqCr_l (F:=F) hl l.length F 0 (by omega) (by omega)
 rw [show ((0:Nat):Int)=0 from rfl] at this
 simp only [bne_self_eq_false,cond_false,this,Option.bind_some,Bool.not_true]
theorem szDg {l:List Cr} (hl:l.length<=2000000):dV.p F l 1048576=some (if 1048576<l.length then (-1:Int) else (1048576:Int) - (l.length:Int)):=by
 unfold dV.p eX.p
 rw [bg (by omega) (by omega)]
 by_cases h:1048576<l.length
 ·rw [decide_eq_true (show (1048576:Int) - l.length<0 by omega),cond_true,Option.bind_some,if_pos h];rfl
 ·rw [decide_eq_false (show ¬ (1048576:Int) - l.length<0 by omega),cond_false,Option.bind_some,if_neg h,decide_eq_false (by omega),cond_false]
theorem maxLen_le:maxLen<=9223372036854775807:=by decide
theorem szBig {l:List Cr} (hm:l.length<=maxLen) (h:1048576<l.length):dV.p F l 1048576=some (-1):=by
 unfold dV.p eX.p
 have:=maxLen_le
 rw [bg (by omega) (by omega),decide_eq_true (by omega),cond_true];rfl
theorem Ir {x a b:Int}:dx.p F x a b=some (decide (a<=x/\x<=b)):=by
 unfold dx.p
 by_cases h:x>=a
 ·rw [decide_eq_true h,cond_true];congr 1;simp only [ge_iff_le] at h;simp [h]
 ·rw [decide_eq_false h,cond_false];congr 1;simp only [ge_iff_le] at h;simp [h]
theorem oR {x a b:Int}:de.p F x a b=some (decide (a<=x/\x<=b)):=by
 unfold de.p
 by_cases h:a<=x
 ·rw [decide_eq_true h,cond_true];congr 1;simp [h]
 ·rw [decide_eq_false h,cond_false];congr 1;simp [h]
end Go.Proofs.Ytodfdhnlhiaohaa.AE.DD
end
section
namespace Go.Proofs.Ytodfdhnlhiaohaa.AE.DD
open Go Go.AE Go.Proofs
variable {F:Nat}
def en (x:Cr) (p:Nat):Int:=gt [x.1,x.2.1,x.2.2.1,x.2.2.2.1] p
def sg (x:Cr):Int:=x.2.2.2.2
def ent (x:Cr) (p:Nat):Bool:=p==0 || (p:Int)==2+sg x
def SgOk (x:Cr):Prop:=sg x=1\/sg x=-1
instance (x:Cr):Decidable (SgOk x):=by unfold SgOk;infer_instance
abbrev Tb:=List (Int×Int)×List (Int×Int)
def stp (x:Cr) (i p:Nat) (t:Tb):Option Tb:=
 bif ent x p then (if 0<=en x p/\en x p<t.2.length/\(gt t.2 (en x p).toNat).1<0 then some (t.1,t.2.set (en x p).toNat ((i:Int),(p:Int))) else none)
 else (if 0<=en x p/\en x p<t.1.length/\(gt t.1 (en x p).toNat).1<0 then some (t.1.set (en x p).toNat ((i:Int),(p:Int)),t.2) else none)
theorem i_ent {x:Cr} {p:Nat} (hs:SgOk x):dN.p F (sg x) (p:Int)=some (ent x p):=by
 have hw:IntKind.i64.wrap (2+sg x)=2+sg x:=by rcases hs with h | h <;> rw [h] <;> decide
 unfold dN.p ent
 rw [hw]
 by_cases h:p=0
 ·subst h;simp
 ·have e:((p:Int)==0)=false:=by simpa using h
  have e':(p==0)=false:=by simpa using h
  rw [e,e',cond_false,Bool.false_or]
theorem s_ent {x:Cr} {p:Nat} (hs:SgOk x) (hp:p<4):cB.p F (sg x) (p:Int)=some (ent x p):=by
 unfold cB.p ent
 have:p=0\/p=1\/p=2\/p=3:=by omega
 rcases hs with h | h <;> rw [h] <;> rcases this with rfl | rfl | rfl | rfl <;> rfl
theorem s_end {x:Cr} {p:Nat} (hp:p<4):cA.p F x.1 x.2.1 x.2.2.1 x.2.2.2.1 (p:Int)=some (en x p):=by
 unfold cA.p
 rw [ixn (by simpa using hp)];rfl
theorem i_has {l:List (Int×Int)} {a:Int} (hl:l.length<=1000):dC.p F l a=some (decide (0<=a/\a<l.length)):=by
 unfold dC.p fu.p
 rw [Option.bind_some,bg (by omega) (by omega),oR,Option.bind_some]
 congr 1
 apply decide_eq_decide.2
 omega
theorem set2 {l:List (Int×Int)} {n:Nat} {i p:Int} (h:n<l.length):(l.set n (i,(gt l n).2)).set n ((gt (l.set n (i,(gt l n).2)) n).1,p)=l.set n (i,p):=by
 rw [gset_eq h,List.set_set]
theorem arr_step {C:List (Int×Int)->List (Int×Int)->List Cr->Int->Int->Option (List (Int×Int)×List (Int×Int)×Bool)} {k:Nat} {t:Tb} {D:List Cr} {y:Int} {i p:Nat} {x:Cr} (hs:SgOk x) (hp:p<4) (h1:t.1.length<=1000) (h2:t.2.length<=1000) :
  aX.pl3931 F C (k+1) t.1 t.2 D y (i:Int) (sg x) (i:Int) x.1 x.2.1 x.2.2.1 x.2.2.2.1 (p:Int) =
   match stp x i p t with | none=>some (t.1,t.2,false) | some t'=>aX.pl3931 F C k t'.1 t'.2 D y (i:Int) (sg x) (i:Int) x.1 x.2.1 x.2.2.1 x.2.2.2.1 ((p+1:Nat):Int):=by
 rw [aX.pl3931,show decide ((p:Int)<4)=true from decide_eq_true (by omega),cond_true,if_pos ⟨by omega,by omega⟩,i_ent hs,Option.bind_some,ws (by omega)]
 have he:gt [x.1,x.2.1,x.2.2.1,x.2.2.2.1] ((p:Int)).toNat=en x p:=by rw [Int.toNat_natCast];rfl
 simp only [he]
 unfold stp
 cases ent x p with
 | true=>
  rw [cond_true,cond_true,i_has h2,Option.bind_some]
  by_cases c1:0<=en x p/\en x p<t.2.length
  ·rw [decide_eq_true c1,Bool.not_true,cond_false,ix_of c1.1 c1.2]
   simp only [Option.bind_some]
   by_cases c2:(gt t.2 (en x p).toNat).1<0
   ·rw [if_pos ⟨c1.1,c1.2,c2⟩,decide_eq_false (show ¬ (gt t.2 (en x p).toNat).1>=0 by omega),cond_false]
    simp only [set2 (show (en x p).toNat<t.2.length by omega)]
   ·rw [if_neg (λh=>c2 h.2.2),decide_eq_true (show (gt t.2 (en x p).toNat).1>=0 by omega),cond_true]
  ·rw [decide_eq_false c1,Bool.not_false,cond_true,if_neg (λh=>c1 ⟨h.1,h.2.1⟩)]
 | false=>
  rw [cond_false,cond_false,i_has h1,Option.bind_some]
  by_cases c1:0<=en x p/\en x p<t.1.length
  ·rw [decide_eq_true c1,Bool.not_true,cond_false,ix_of c1.1 c1.2]
   simp only [Option.bind_some]
   by_cases c2:(gt t.1 (en x p).toNat).1<0
   ·rw [if_pos ⟨c1.1,c1.2,c2⟩,decide_eq_false (show ¬ (gt t.1 (en x p).toNat).1>=0 by omega),cond_false]
    simp only [set2 (show (en x p).toNat<t.1.length by omega)]
   ·rw [if_neg (λh=>c2 h.2.2),decide_eq_true (show (gt t.1 (en x p).toNat).1>=0 by omega),cond_true]
  ·rw [decide_eq_false c1,Bool.not_false,cond_true,if_neg (λh=>c1 ⟨h.1,h.2.1⟩)]
theorem stp_len {x:Cr} {i p:Nat} {t t':Tb} (h:stp x i p t=some t'):t'.1.length=t.1.length/\t'.2.length=t.2.length:=by
 unfold stp at h
 cases e:ent x p with
 | true=>rw [e,cond_true] at h;obtain ⟨_,h⟩:=eW h;cases h;simp
 | false=>rw [e,cond_false] at h;obtain ⟨_,h⟩:=eW h;cases h;simp
def Mk (u:List Bool) (t:List (Int×Int)):Prop:=u.length=t.length/\∀ a:Nat,a<t.length->gt u a=decide (0<=(gt t a).1)
theorem Mk.set {u:List Bool} {t:List (Int×Int)} (h:Mk u t) {a i p:Nat} (ha:a<t.length):Mk (u.set a true) (t.set a ((i:Int),(p:Int))):=by
 refine ⟨by simpa using h.1,λb hb=>?_⟩
 rw [List.length_set] at hb
 by_cases e:a=b
 ·subst e
  rw [gset_eq (by rw [h.1];exact ha),gset_eq ha]
  exact (decide_eq_true (Int.natCast_nonneg i)).symm
 ·rw [gset_ne e,gset_ne e];exact h.2 b hb
theorem cnt_step {C:List Cr->Int->List Bool->List Bool->Int->Option Bool} {k:Nat} {t:Tb} {u v:List Bool} {D:List Cr} {y:Int} {i p:Nat} {x:Cr} (hs:SgOk x) (hp:p<4) (h1:t.1.length<=1000) (h12:t.2.length=t.1.length) (hu:Mk u t.2) (hv:Mk v t.1) :
  (stp x i p t=none/\aW.pl3927 F C (k+1) D (t.1.length:Int) u v y x.1 x.2.1 x.2.2.1 x.2.2.2.1 (sg x) (p:Int)=some false) \/
  (∃ t' u' v',stp x i p t=some t'/\Mk u' t'.2/\Mk v' t'.1/\aW.pl3927 F C (k+1) D (t.1.length:Int) u v y x.1 x.2.1 x.2.2.1 x.2.2.2.1 (sg x) (p:Int)=aW.pl3927 F C k D (t.1.length:Int) u' v' y x.1 x.2.1 x.2.2.1 x.2.2.2.1 (sg x) ((p+1:Nat):Int)):=by
 rw [aW.pl3927,show decide ((p:Int)<4)=true from decide_eq_true (by omega),cond_true,s_end hp,Option.bind_some,bg (x:=(t.1.length:Int) - 1) (by omega) (by omega),Ir,Option.bind_some,s_ent hs hp,Option.bind_some,ws (by omega)]
 unfold stp
 by_cases c1:0<=en x p/\en x p<t.1.length
 ·rw [decide_eq_true (show 0<=en x p/\en x p<=(t.1.length:Int) - 1 by omega),Bool.not_true,cond_false]
  cases ent x p with
  | true=>
   simp only [cond_true]
   rw [ix_of c1.1 (by rw [hu.1,h12];exact c1.2)]
   simp only [Option.bind_some]
   rw [hu.2 _ (by omega)]
   by_cases c2:(gt t.2 (en x p).toNat).1<0
   ·right
    refine ⟨_,u.set (en x p).toNat true,v,if_pos ⟨c1.1,by rw [h12];exact c1.2,c2⟩,hu.set (by omega),hv,?_⟩
    rw [decide_eq_false (by omega),cond_false]
   ·left
    exact ⟨if_neg (λh=>c2 h.2.2),by rw [decide_eq_true (by omega),cond_true]⟩
  | false=>
   simp only [cond_false]
   rw [ix_of c1.1 (by rw [hv.1];exact c1.2)]
   simp only [Option.bind_some]
   rw [hv.2 _ (by omega)]
   by_cases c2:(gt t.1 (en x p).toNat).1<0
   ·right
    refine ⟨_,u,v.set (en x p).toNat true,if_pos ⟨c1.1,c1.2,c2⟩,hu,hv.set (by omega),?_⟩
    rw [decide_eq_false (by omega),cond_false]
   ·left
    exact ⟨if_neg (λh=>c2 h.2.2),by rw [decide_eq_true (by omega),cond_true]⟩
 ·left
  rw [decide_eq_false (show ¬ (0<=en x p/\en x p<=(t.1.length:Int) - 1) by omega),Bool.not_false,cond_true]
  refine ⟨?_,rfl⟩
  cases ent x p with
  | true=>rw [cond_true];exact if_neg (λh=>c1 ⟨h.1,by rw [<- h12];exact h.2.1⟩)
  | false=>rw [cond_false];exact if_neg (λh=>c1 ⟨h.1,h.2.1⟩)
end Go.Proofs.Ytodfdhnlhiaohaa.AE.DD
end
section
namespace Go.Proofs.Ytodfdhnlhiaohaa.AE.DD
open Go Go.AE Go.Proofs
variable {F:Nat}
def stp4 (x:Cr) (i:Nat) (t:Tb):Option Tb:=(stp x i 0 t).bind λt=>(stp x i 1 t).bind λt=>(stp x i 2 t).bind λt=>stp x i 3 t
def run (i:Nat):List Cr->Tb->Option Tb
 | [],t=>some t
 | x::D,t=>(stp4 x i t).bind (run (i+1) D)
theorem stp4_len {x:Cr} {i:Nat} {t t':Tb} (h:stp4 x i t=some t'):t'.1.length=t.1.length/\t'.2.length=t.2.length:=by
 unfold stp4 at h
 obtain ⟨a,h1,h⟩:=ah h
 obtain ⟨b,h2,h⟩:=ah h
 obtain ⟨c,h3,h⟩:=ah h
 have e1:=stp_len h1;have e2:=stp_len h2;have e3:=stp_len h3;have e4:=stp_len h
 omega
theorem arr4 {C:List (Int×Int)->List (Int×Int)->List Cr->Int->Int->Option (List (Int×Int)×List (Int×Int)×Bool)} {k:Nat} {t:Tb} {D:List Cr} {y:Int} {i:Nat} {x:Cr} (hs:SgOk x) (hi:i<=1000) (h1:t.1.length<=1000) (h2:t.2.length<=1000) :
  (stp4 x i t=none/\∃ a b,aX.pl3931 F C (k+5) t.1 t.2 D y (i:Int) (sg x) (i:Int) x.1 x.2.1 x.2.2.1 x.2.2.2.1 0=some (a,b,false)) \/
  (∃ t',stp4 x i t=some t'/\aX.pl3931 F C (k+5) t.1 t.2 D y (i:Int) (sg x) (i:Int) x.1 x.2.1 x.2.2.1 x.2.2.2.1 0=C t'.1 t'.2 D y ((i+1:Nat):Int)):=by
 unfold stp4
 have s0:=arr_step (F:=F) (C:=C) (k:=k+4) (t:=t) (D:=D) (y:=y) (i:=i) (p:=0) hs (by decide) h1 h2
 rw [show ((0:Nat):Int)=0 from rfl] at s0
 rw [s0]
 cases e0:stp x i 0 t with
 | none=>exact .inl ⟨rfl,_,_,rfl⟩
 | some a=>
  have l0:=stp_len e0
  have s1:=arr_step (F:=F) (C:=C) (k:=k+3) (t:=a) (D:=D) (y:=y) (i:=i) (p:=1) hs (by decide) (by omega) (by omega)
  simp only [Option.bind_some]
  rw [show ((0+1:Nat):Int)=((1:Nat):Int) from rfl,s1]
  cases e1:stp x i 1 a with
  | none=>exact .inl ⟨rfl,_,_,rfl⟩
  | some b=>
   have l1:=stp_len e1
   have s2:=arr_step (F:=F) (C:=C) (k:=k+2) (t:=b) (D:=D) (y:=y) (i:=i) (p:=2) hs (by decide) (by omega) (by omega)
   simp only [Option.bind_some]
   rw [show ((1+1:Nat):Int)=((2:Nat):Int) from rfl,s2]
   cases e2:stp x i 2 b with
   | none=>exact .inl ⟨rfl,_,_,rfl⟩
   | some c=>
    have l2:=stp_len e2
    have s3:=arr_step (F:=F) (C:=C) (k:=k+1) (t:=c) (D:=D) (y:=y) (i:=i) (p:=3) hs (by decide) (by omega) (by omega)
    simp only [Option.bind_some]
    rw [show ((2+1:Nat):Int)=((3:Nat):Int) from rfl,s3]
    cases e3:stp x i 3 c with
    | none=>exact .inl ⟨rfl,_,_,rfl⟩
    | some d=>
     right
     refine ⟨d,rfl,?_⟩
     show aX.pl3931 F C (k+1) d.1 d.2 D y (i:Int) (sg x) (i:Int) x.1 x.2.1 x.2.2.1 x.2.2.2.1 ((3+1:Nat):Int)=_
     rw [aX.pl3931,show decide (((3+1:Nat):Int)<4)=false by decide,cond_false,ws (by omega)]
theorem arr_run {D:List Cr} (hD:D.length<=100) (hs:∀ x∈D,SgOk x) (hF:100<F):∀ (n g i:Nat) (t:Tb),D.length - i=n->n<g->i<=D.length->t.1.length<=1000->t.2.length<=1000 ->
  (run i (D.drop i) t=none/\∃ a b,aX.pl61 F g t.1 t.2 D (D.length:Int) (i:Int)=some (a,b,false)) \/
  (∃ t',run i (D.drop i) t=some t'/\aX.pl61 F g t.1 t.2 D (D.length:Int) (i:Int)=some (t'.1,t'.2,true)):=by
 intro n
 induction n with
 | zero=>
  intro g i t hn hg hi h1 h2
  obtain ⟨g,rfl⟩:∃ g',g=g'+1:=⟨g - 1,by omega⟩
  right
  refine ⟨t,?_,?_⟩
  ·rw [List.drop_eq_nil_of_le (by omega)];rfl
  ·rw [aX.pl61,dF (by omega),cond_false]
 | succ n ih=>
  intro g i t hn hg hi h1 h2
  obtain ⟨g,rfl⟩:∃ g',g=g'+1:=⟨g - 1,by omega⟩
  have hlt:i<D.length:=by omega
  rw [aX.pl61,dT hlt,cond_true,ixn hlt,Option.bind_some]
  unfold dM.p
  rw [Option.bind_some]
  have hd:D.drop i=gt D i::D.drop (i+1):=by
   rw [List.drop_eq_getElem_cons hlt]
   congr 1
   have:=fE hlt
   rw [List.getElem?_eq_getElem hlt] at this
   exact Option.some.inj this
  rw [hd]
  obtain ⟨f,rfl⟩:∃ f,F=f+5:=⟨F - 5,by omega⟩
  rcases arr4 (F:=f+5) (C:=aX.pl61 (f+5) g) (k:=f) (t:=t) (D:=D) (y:=(D.length:Int)) (i:=i) (hs _ (gmem hlt)) (by omega) h1 h2 with ⟨e,a,b,r⟩ | ⟨t',e,r⟩
  ·left
   refine ⟨by unfold run;rw [e];rfl,a,b,r⟩
  ·have hl:=stp4_len e
   have hr:run i (gt D i::D.drop (i+1)) t=run (i+1) (D.drop (i+1)) t':=by rw [run,e];rfl
   rw [hr]
   show (_/\∃ a b,aX.pl3931 (f+5) (aX.pl61 (f+5) g) (f+5) t.1 t.2 D (D.length:Int) (i:Int) (sg (gt D i)) (i:Int) (gt D i).1 (gt D i).2.1 (gt D i).2.2.1 (gt D i).2.2.2.1 0=_)\/(∃ t',_/\aX.pl3931 (f+5) (aX.pl61 (f+5) g) (f+5) t.1 t.2 D (D.length:Int) (i:Int) (sg (gt D i)) (i:Int) (gt D i).1 (gt D i).2.1 (gt D i).2.2.1 (gt D i).2.2.2.1 0=_)
   rw [r]
   exact ih g (i+1) t' (by omega) (by omega) (by omega) (by omega) (by omega)
theorem cnt4 {C:List Cr->Int->List Bool->List Bool->Int->Option Bool} {k:Nat} {t:Tb} {u v:List Bool} {D:List Cr} {y:Nat} {i:Nat} {x:Cr} (hs:SgOk x) (hy:y<=1000) (h1:t.1.length<=1000) (h12:t.2.length=t.1.length) (hu:Mk u t.2) (hv:Mk v t.1) :
  (stp4 x i t=none/\aW.pl3927 F C (k+5) D (t.1.length:Int) u v (y:Int) x.1 x.2.1 x.2.2.1 x.2.2.2.1 (sg x) 0=some false) \/
  (∃ t' u' v',stp4 x i t=some t'/\Mk u' t'.2/\Mk v' t'.1/\aW.pl3927 F C (k+5) D (t.1.length:Int) u v (y:Int) x.1 x.2.1 x.2.2.1 x.2.2.2.1 (sg x) 0=C D (t.1.length:Int) u' v' ((y+1:Nat):Int)):=by
 unfold stp4
 rcases cnt_step (F:=F) (C:=C) (k:=k+4) (t:=t) (D:=D) (y:=(y:Int)) (i:=i) (p:=0) hs (by decide) h1 h12 hu hv with ⟨e,r⟩ | ⟨a,u1,v1,e,hu1,hv1,r⟩
 ·exact .inl ⟨by rw [e];rfl,r⟩
 have r:aW.pl3927 F C (k+5) D (t.1.length:Int) u v (y:Int) x.1 x.2.1 x.2.2.1 x.2.2.2.1 (sg x) 0=_:=r
 rw [r,e]
 have l0:=stp_len e
 simp only [Option.bind_some]
 rcases cnt_step (F:=F) (C:=C) (k:=k+3) (t:=a) (D:=D) (y:=(y:Int)) (i:=i) (p:=1) hs (by decide) (by omega) (by omega) hu1 hv1 with ⟨e,r⟩ | ⟨b,u2,v2,e,hu2,hv2,r⟩
 ·rw [l0.1] at r
  exact .inl ⟨by rw [e];rfl,r⟩
 rw [l0.1] at r
 rw [show ((0+1:Nat):Int)=((1:Nat):Int) from rfl,r,e]
 have l1:=stp_len e
 simp only [Option.bind_some]
 rcases cnt_step (F:=F) (C:=C) (k:=k+2) (t:=b) (D:=D) (y:=(y:Int)) (i:=i) (p:=2) hs (by decide) (by omega) (by omega) hu2 hv2 with ⟨e,r⟩ | ⟨c,u3,v3,e,hu3,hv3,r⟩
 ·rw [l1.1,l0.1] at r
  exact .inl ⟨by rw [e];rfl,r⟩
 rw [l1.1,l0.1] at r
 rw [show ((1+1:Nat):Int)=((2:Nat):Int) from rfl,r,e]
 have l2:=stp_len e
 simp only [Option.bind_some]
 rcases cnt_step (F:=F) (C:=C) (k:=k+1) (t:=c) (D:=D) (y:=(y:Int)) (i:=i) (p:=3) hs (by decide) (by omega) (by omega) hu3 hv3 with ⟨e,r⟩ | ⟨d,u4,v4,e,hu4,hv4,r⟩
 ·rw [l2.1,l1.1,l0.1] at r
  exact .inl ⟨e,r⟩
 rw [l2.1,l1.1,l0.1] at r
 rw [show ((2+1:Nat):Int)=((3:Nat):Int) from rfl,r]
 refine .inr ⟨d,u4,v4,e,hu4,hv4,?_⟩
 rw [aW.pl3927,show decide (((3+1:Nat):Int)<4)=false by decide,cond_false,ws (by omega)]
theorem cnt_run {D:List Cr} {N:Nat} (hD:D.length<=100) (hN:N<=1000) (hF:100<F):∀ (n g i:Nat) (t:Tb) (u v:List Bool),D.length - i=n->n<g->i<=D.length->t.1.length=N->t.2.length=N->Mk u t.2->Mk v t.1 ->
  ∃ b,aW.pl61 F g D (N:Int) u v (i:Int)=some b/\(b=true↔(∀ x∈D.drop i,SgOk x)/\∃ t',run i (D.drop i) t=some t'):=by
 intro n
 induction n with
 | zero=>
  intro g i t u v hn hg hi h1 h2 hu hv
  obtain ⟨g,rfl⟩:∃ g',g=g'+1:=⟨g - 1,by omega⟩
  refine ⟨true,?_,?_⟩
  ·rw [aW.pl61,dF (by omega),cond_false]
  ·rw [List.drop_eq_nil_of_le (by omega)]
   simp [run]
 | succ n ih=>
  intro g i t u v hn hg hi h1 h2 hu hv
  obtain ⟨g,rfl⟩:∃ g',g=g'+1:=⟨g - 1,by omega⟩
  have hlt:i<D.length:=by omega
  have hd:D.drop i=gt D i::D.drop (i+1):=by
   rw [List.drop_eq_getElem_cons hlt]
   congr 1
   have:=fE hlt
   rw [List.getElem?_eq_getElem hlt] at this
   exact Option.some.inj this
  rw [aW.pl61,dT hlt,cond_true,ixn hlt,Option.bind_some,hd]
  obtain ⟨f,rfl⟩:∃ f,F=f+5:=⟨F - 5,by omega⟩
  by_cases hs:SgOk (gt D i)
  ·have key:aW.pl3927 (f+5) (aW.pl61 (f+5) g) (f+5) D (N:Int) u v (i:Int) (gt D i).1 (gt D i).2.1 (gt D i).2.2.1 (gt D i).2.2.2.1 (sg (gt D i)) 0=(bif sg (gt D i) != 1 then (bif sg (gt D i) != -1 then (some false) else aW.pl3927 (f+5) (aW.pl61 (f+5) g) (f+5) D (N:Int) u v (i:Int) (gt D i).1 (gt D i).2.1 (gt D i).2.2.1 (gt D i).2.2.2.1 (sg (gt D i)) 0) else aW.pl3927 (f+5) (aW.pl61 (f+5) g) (f+5) D (N:Int) u v (i:Int) (gt D i).1 (gt D i).2.1 (gt D i).2.2.1 (gt D i).2.2.2.1 (sg (gt D i)) 0):=by
    rcases hs with h | h <;> rw [h] <;> rfl
   have key:=key.symm
   unfold sg at key
   rw [key]
   subst h1
   rcases cnt4 (F:=f+5) (C:=aW.pl61 (f+5) g) (k:=f) (t:=t) (D:=D) (y:=i) (i:=i) hs (by omega) hN h2 hu hv with ⟨e,r⟩ | ⟨t',u',v',e,hu',hv',r⟩
   ·refine ⟨false,r,?_⟩
    constructor
    ·intro h;cases h
    ·rintro ⟨_,t',h⟩
     rw [run,e] at h;cases h
   ·have hl:=stp4_len e
    obtain ⟨b,q1,q2⟩:=ih g (i+1) t' u' v' (by omega) (by omega) (by omega) hl.1 (by omega) hu' hv'
    refine ⟨b,r.trans q1,q2.trans ?_⟩
    have hr:run i (gt D i::D.drop (i+1)) t=run (i+1) (D.drop (i+1)) t':=by rw [run,e];rfl
    rw [hr]
    constructor
    ·rintro ⟨a,b⟩;exact ⟨List.forall_mem_cons.2 ⟨hs,a⟩,b⟩
    ·rintro ⟨a,b⟩;exact ⟨(List.forall_mem_cons.1 a).2,b⟩
  ·refine ⟨false,?_,?_⟩
   ·have hs':¬ (sg (gt D i)=1\/sg (gt D i)=-1):=hs
    unfold sg at hs'
    rw [show ((gt D i).2.2.2.2 != 1)=true by simp;omega,cond_true,show ((gt D i).2.2.2.2 != -1)=true by simp;omega,cond_true]
   ·constructor
    ·intro h;cases h
    ·rintro ⟨a,_⟩;exact absurd ((List.forall_mem_cons.1 a).1) hs
end Go.Proofs.Ytodfdhnlhiaohaa.AE.DD
end
section
namespace Go.Proofs.Ytodfdhnlhiaohaa.AE.DD
open Go Go.AE Go.Proofs
variable {F:Nat}
def ce (b:Bool) (x:Cr):Nat->Nat
 | 0=>0
 | p+1=>ce b x p+(bif ent x p==b then 1 else 0)
theorem ce4 {b:Bool} {x:Cr} (hs:SgOk x):ce b x 4=2:=by
 rcases hs with h | h <;> cases b <;> simp only [ce,ent,h] <;> rfl
structure PS (b:Bool) (D:List Cr) (N i0 p0:Nat) (l:List (Int×Int)):Prop where
 len:l.length=N
 put:∀ i p:Nat,i<D.length->p<4->(i<i0\/i=i0/\p<p0)->ent (gt D i) p=b->0<=en (gt D i) p/\en (gt D i) p<N/\gt l (en (gt D i) p).toNat=((i:Int),(p:Int))
 get:∀ a:Nat,a<N->(gt l a).1<0\/∃ i p:Nat,i<D.length/\p<4/\(i<i0\/i=i0/\p<p0)/\ent (gt D i) p=b/\en (gt D i) p=a
 cnt:l.countP (λq=>decide (0<=q.1))=2 * i0+ce b (gt D i0) p0
variable {b:Bool} {D:List Cr} {N i0 p0:Nat} {l:List (Int×Int)}
theorem PS.put_step (h:PS b D N i0 p0 l) (hi:i0<D.length) (hp:p0<4) (he:ent (gt D i0) p0=b) (h0:0<=en (gt D i0) p0) (h1:en (gt D i0) p0<l.length) (h2:(gt l (en (gt D i0) p0).toNat).1<0) :
  PS b D N i0 (p0+1) (l.set (en (gt D i0) p0).toNat ((i0:Int),(p0:Int))) where
 len:=by rw [List.length_set];exact h.len
 put:=λi p hi' hp' hpr he'=>by
  by_cases e:i=i0/\p=p0
  ·obtain ⟨rfl,rfl⟩:=e
   exact ⟨h0,by rw [<- h.len];exact h1,gset_eq (by omega)⟩
  ·obtain ⟨q1,q2,q3⟩:=h.put i p hi' hp' (by omega) he'
   refine ⟨q1,q2,?_⟩
   rw [gset_ne,q3]
   intro e2
   rw [e2,q3] at h2
   simp only at h2;omega
 get:=λa ha=>by
  by_cases e:a=(en (gt D i0) p0).toNat
  ·right;exact ⟨i0,p0,hi,hp,by omega,he,by omega⟩
  ·rw [gset_ne (Ne.symm e)]
   rcases h.get a ha with q | ⟨i,p,q1,q2,q3,q4,q5⟩
   ·exact .inl q
   ·exact .inr ⟨i,p,q1,q2,by omega,q4,q5⟩
 cnt:=by
  have hlt:(en (gt D i0) p0).toNat<l.length:=by omega
  rw [List.countP_set hlt,h.cnt]
  have e:l[(en (gt D i0) p0).toNat]=gt l (en (gt D i0) p0).toNat:=by
   have:=fE hlt
   rw [List.getElem?_eq_getElem hlt] at this
   exact Option.some.inj this
  rw [e,if_neg (by simp;omega),if_pos (by simp),ce,he]
  simp only [beq_self_eq_true,cond_true]
  omega
theorem PS.skip_step (h:PS b D N i0 p0 l) (he:ent (gt D i0) p0=!b):PS b D N i0 (p0+1) l where
 len:=h.len
 put:=λi p hi' hp' hpr he'=>by
  refine h.put i p hi' hp' ?_ he'
  by_cases e:i=i0/\p=p0
  ·obtain ⟨rfl,rfl⟩:=e
   rw [he] at he';cases b <;> simp at he'
  ·omega
 get:=λa ha=>by
  rcases h.get a ha with q | ⟨i,p,q1,q2,q3,q4,q5⟩
  ·exact .inl q
  ·exact .inr ⟨i,p,q1,q2,by omega,q4,q5⟩
 cnt:=by
  rw [h.cnt,ce,he]
  cases b <;> simp
theorem PS.next (h:PS b D N i0 4 l) (hs:SgOk (gt D i0)):PS b D N (i0+1) 0 l where
 len:=h.len
 put:=λi p hi' hp' hpr he'=>h.put i p hi' hp' (by omega) he'
 get:=λa ha=>by
  rcases h.get a ha with q | ⟨i,p,q1,q2,q3,q4,q5⟩
  ·exact .inl q
  ·exact .inr ⟨i,p,q1,q2,by omega,q4,q5⟩
 cnt:=by rw [h.cnt,ce4 hs];simp only [ce];omega
def PT (D:List Cr) (N i0 p0:Nat) (t:Tb):Prop:=PS false D N i0 p0 t.1/\PS true D N i0 p0 t.2
theorem PT.stp {t t':Tb} (h:PT D N i0 p0 t) (hi:i0<D.length) (hp:p0<4) (e:stp (gt D i0) i0 p0 t=some t'):PT D N i0 (p0+1) t':=by
 unfold DD.stp at e
 cases he:ent (gt D i0) p0 with
 | true=>
  rw [he,cond_true] at e
  obtain ⟨⟨c0,c1,c2⟩,e⟩:=eW e
  cases e
  exact ⟨h.1.skip_step he,h.2.put_step hi hp he c0 c1 c2⟩
 | false=>
  rw [he,cond_false] at e
  obtain ⟨⟨c0,c1,c2⟩,e⟩:=eW e
  cases e
  exact ⟨h.1.put_step hi hp he c0 c1 c2,h.2.skip_step he⟩
theorem PT.stp4 {t t':Tb} (h:PT D N i0 0 t) (hi:i0<D.length) (hs:SgOk (gt D i0)) (e:stp4 (gt D i0) i0 t=some t'):PT D N (i0+1) 0 t':=by
 unfold DD.stp4 at e
 obtain ⟨a,h1,e⟩:=ah e
 obtain ⟨b,h2,e⟩:=ah e
 obtain ⟨c,h3,e⟩:=ah e
 have:=(((h.stp hi (by decide) h1).stp hi (by decide) h2).stp hi (by decide) h3).stp hi (by decide) e
 exact ⟨this.1.next hs,this.2.next hs⟩
theorem drop_cons {D:List Cr} {i:Nat} (hlt:i<D.length):D.drop i=gt D i::D.drop (i+1):=by
 rw [List.drop_eq_getElem_cons hlt]
 congr 1
 have:=fE hlt
 rw [List.getElem?_eq_getElem hlt] at this
 exact Option.some.inj this
theorem PT.run (hs:∀ x∈D,SgOk x):∀ (n i:Nat) (t t':Tb),D.length - i=n->i<=D.length->PT D N i 0 t->run i (D.drop i) t=some t'->PT D N D.length 0 t':=by
 intro n
 induction n with
 | zero=>
  intro i t t' hn hi h e
  rw [List.drop_eq_nil_of_le (by omega)] at e
  cases e
  obtain rfl:i=D.length:=by omega
  exact h
 | succ n ih=>
  intro i t t' hn hi h e
  have hlt:i<D.length:=by omega
  rw [drop_cons hlt,DD.run] at e
  obtain ⟨a,h1,e⟩:=ah e
  exact ih (i+1) a t' (by omega) (by omega) (h.stp4 hlt (hs _ (gmem hlt)) h1) e
theorem PS.start (b:Bool) (D:List Cr) (N:Nat):PS b D N 0 0 (List.replicate N (-1,0)) where
 len:=by simp
 put:=λi p _ _ h=>by omega
 get:=λa ha=>.inl (by rw [grep ha];decide)
 cnt:=by rw [List.countP_replicate];simp [ce]
structure TS (b:Bool) (D:List Cr) (l:List (Int×Int)):Prop where
 len:l.length=2 * D.length
 put:∀ i p:Nat,i<D.length->p<4->ent (gt D i) p=b->0<=en (gt D i) p/\en (gt D i) p<(2 * D.length:Nat)/\gt l (en (gt D i) p).toNat=((i:Int),(p:Int))
 get:∀ a:Nat,a<2 * D.length->∃ i p:Nat,i<D.length/\p<4/\ent (gt D i) p=b/\en (gt D i) p=a/\gt l a=((i:Int),(p:Int))
theorem PS.whole (h:PS b D (2 * D.length) D.length 0 l):TS b D l where
 len:=h.len
 put:=λi p hi hp he=>h.put i p hi hp (.inl hi) he
 get:=λa ha=>by
  have hc:=h.cnt
  rw [ce,Nat.add_zero,<-h.len,List.countP_eq_length] at hc
  have hm:=hc _ (gmem (by rw [h.len];exact ha:a<l.length))
  simp only [decide_eq_true_eq] at hm
  rcases h.get a ha with q | ⟨i,p,q1,q2,q3,q4,q5⟩
  ·omega
  ·refine ⟨i,p,q1,q2,q4,q5,?_⟩
   obtain ⟨_,_,q⟩:=h.put i p q1 q2 q3 q4
   rw [q5,Int.toNat_natCast] at q
   exact q
structure TB (D:List Cr) (t:Tb):Prop where
 sg:∀ x∈D,SgOk x
 fr:TS false D t.1
 to_:TS true D t.2
theorem run_TB {t:Tb} (hs:∀ x∈D,SgOk x) (h:run 0 D (List.replicate (2 * D.length) (-1,0),List.replicate (2 * D.length) (-1,0))=some t):TB D t:=by
 have:=PT.run (N:=2 * D.length) hs D.length 0 _ t (by omega) (by omega) ⟨PS.start _ _ _,PS.start _ _ _⟩ (by rw [List.drop_zero];exact h)
 exact ⟨hs,this.1.whole,this.2.whole⟩
end Go.Proofs.Ytodfdhnlhiaohaa.AE.DD
end
section
namespace Go.Proofs.Ytodfdhnlhiaohaa.AE.DD
open Go Go.AE Go.Proofs
variable {F:Nat}
theorem mul1:∀ m:Nat,m<64->IntKind.u64.wrap (m:Int)=(m:Int)/\bits_Mul64.p 0 1 (m:Int)=some (0,(m:Int)):=by decide
theorem rep_end {m:Nat} (hm:m<64) (hF:100<F):bi.p F [((-1),0)] (m:Int)=some (List.replicate m (-1,0)):=by
 obtain ⟨h1,h2⟩:=mul1 m hm
 unfold bi.p bi.pj2
 rw [show decide ((m:Int)<0)=false from decide_eq_false (by omega),cond_false,h1,show IntKind.u64.wrap (([((-1:Int),(0:Int))].length:Nat):Int)=1 by decide]
 have h3:bits_Mul.p F 1 (m:Int)=some (0,(m:Int)):=by
  unfold bits_Mul.p
  rw [show bits_Mul64.p F 1 (m:Int)=bits_Mul64.p 0 1 (m:Int) from rfl,h2];rfl
 rw [h3,Option.bind_some]
 simp only [show decide ((0:Int)>0)=false by decide,cond_false,show decide ((m:Int)>9223372036854775807)=false from decide_eq_false (by omega)]
 unfold bi.pj1
 rw [wn (by omega),mkn_of (by omega),Option.bind_some,Option.bind_some]
 unfold sx cpl
 cases m with
 | zero=>simp;omega
 | succ m=>
  have hl:([((-1:Int),(0:Int))].take (List.replicate (m+1) ((0:Int),(0:Int))).length++(List.replicate (m+1) ((0:Int),(0:Int))).drop [((-1:Int),(0:Int))].length)=(-1,0)::List.replicate m (0,0):=by simp
  rw [hl,if_pos ⟨by simp,by left;simp,by simp;omega,by simp;omega⟩]
  simp [gt,List.replicate_succ]
theorem arrows_whole {D:List Cr} (hD:D.length<=30) (hs:∀ x∈D,SgOk x) (hF:1000<F) :
  (run 0 D (List.replicate (2 * D.length) (-1,0),List.replicate (2 * D.length) (-1,0))=none/\∃ a b,aX.p F D=some (a,b,false)) \/
  (∃ t,run 0 D (List.replicate (2 * D.length) (-1,0),List.replicate (2 * D.length) (-1,0))=some t/\aX.p F D=some (t.1,t.2,true)):=by
 unfold aX.p
 rw [show (2:Int) * (D.length:Int)=((2 * D.length:Nat):Int) by omega,wn (by omega),rep_end (by omega) (by omega),Option.bind_some,Option.bind_some]
 have:=arr_run (F:=F) (by omega) hs (by omega) D.length F 0 (List.replicate (2 * D.length) (-1,0),List.replicate (2 * D.length) (-1,0)) (by omega) (by omega) (by omega) (by simp;omega) (by simp;omega)
 rw [List.drop_zero] at this
 exact this
theorem counts_whole {D:List Cr} (hD:D.length<=30) (hF:1000<F) :
  ∃ b,aW.p F D=some b/\(b=true↔(∀ x∈D,SgOk x)/\∃ t,run 0 D (List.replicate (2 * D.length) (-1,0),List.replicate (2 * D.length) (-1,0))=some t):=by
 unfold aW.p
 rw [show (2:Int) * (D.length:Int)=((2 * D.length:Nat):Int) by omega,wn (by omega),mkn_of (by omega),Option.bind_some,Option.bind_some]
 have hm:Mk (List.replicate (2 * D.length) false) (List.replicate (2 * D.length) ((-1:Int),(0:Int))):=⟨by simp,λa ha=>by rw [List.length_replicate] at ha;rw [grep ha,grep ha];decide⟩
 have:=cnt_run (F:=F) (D:=D) (N:=2 * D.length) (by omega) (by omega) (by omega) D.length F 0 (List.replicate (2 * D.length) (-1,0),List.replicate (2 * D.length) (-1,0)) _ _ (by omega) (by omega) (by omega) (by simp) (by simp) hm hm
 rw [List.drop_zero] at this
 exact this
variable {D:List Cr} {l:List (Int×Int)} {b:Bool}
theorem place_step {C:Int->Bool->List Cr->Int->Option (Int×Int)} {k c p:Nat} {a:Int} (hs:∀ x∈D,SgOk x) (hc:c<D.length) (hp:p<4) :
  aB.pl213 F C (k+1) a b D (c:Int) (p:Int)=(bif en (gt D c) p==a&&ent (gt D c) p==b then some ((c:Int),(p:Int)) else aB.pl213 F C k a b D (c:Int) ((p+1:Nat):Int)):=by
 rw [aB.pl213,show decide ((p:Int)<4)=true from decide_eq_true (by omega),cond_true,ixn hc,Option.bind_some,s_end hp,Option.bind_some,ws (by omega),Option.bind_some]
 have:=s_ent (F:=F) (x:=gt D c) (p:=p) (hs _ (gmem hc)) hp
 unfold sg at this
 rw [this,Option.bind_some]
 cases en (gt D c) p==a with
 | true=>rw [cond_true,Bool.true_and]
 | false=>rw [cond_false,Bool.false_and,cond_false]
theorem place_row {C:Int->Bool->List Cr->Int->Option (Int×Int)} {c:Nat} {a:Int} (hs:∀ x∈D,SgOk x) (hc:c<D.length) (hD:D.length<=100) (hno:∀ p:Nat,p<4->ent (gt D c) p=b->en (gt D c) p≠a):∀ (m k p:Nat),4 - p=m->p<=4->m<k ->
  aB.pl213 F C k a b D (c:Int) (p:Int)=C a b D ((c+1:Nat):Int):=by
 intro m
 induction m with
 | zero=>
  intro k p hm hp hk
  obtain ⟨k,rfl⟩:∃ k',k=k'+1:=⟨k - 1,by omega⟩
  obtain rfl:p=4:=by omega
  rw [aB.pl213,show decide (((4:Nat):Int)<4)=false by decide,cond_false]
  unfold aB.pj4 aB.pj3
  rw [ws (by omega)]
 | succ m ih=>
  intro k p hm hp hk
  obtain ⟨k,rfl⟩:∃ k',k=k'+1:=⟨k - 1,by omega⟩
  rw [place_step hs hc (by omega)]
  have:(en (gt D c) p==a&&ent (gt D c) p==b)=false:=by
   cases h:(en (gt D c) p==a&&ent (gt D c) p==b) with
   | false=>rfl
   | true=>
    simp only [Bool.and_eq_true,beq_iff_eq] at h
    exact absurd h.1 (hno p (by omega) h.2)
  rw [this,cond_false]
  exact ih k (p+1) (by omega) (by omega) (by omega)
theorem place_hit {C:Int->Bool->List Cr->Int->Option (Int×Int)} {c p0:Nat} {a:Int} (hs:∀ x∈D,SgOk x) (hc:c<D.length) (hp0:p0<4) (hy:en (gt D c) p0=a) (hb:ent (gt D c) p0=b) (hno:∀ p:Nat,p<p0->ent (gt D c) p=b->en (gt D c) p≠a):∀ (m k p:Nat),p0 - p=m->p<=p0->m<k ->
  aB.pl213 F C k a b D (c:Int) (p:Int)=some ((c:Int),(p0:Int)):=by
 intro m
 induction m with
 | zero=>
  intro k p hm hp hk
  obtain ⟨k,rfl⟩:∃ k',k=k'+1:=⟨k - 1,by omega⟩
  obtain rfl:p=p0:=by omega
  rw [place_step hs hc hp0,hy,hb]
  simp
 | succ m ih=>
  intro k p hm hp hk
  obtain ⟨k,rfl⟩:∃ k',k=k'+1:=⟨k - 1,by omega⟩
  rw [place_step hs hc (by omega)]
  have:(en (gt D c) p==a&&ent (gt D c) p==b)=false:=by
   cases h:(en (gt D c) p==a&&ent (gt D c) p==b) with
   | false=>rfl
   | true=>
    simp only [Bool.and_eq_true,beq_iff_eq] at h
    exact absurd h.1 (hno p (by omega) h.2)
  rw [this,cond_false]
  exact ih k (p+1) (by omega) (by omega) (by omega)
theorem place_of {a:Nat} (hs:∀ x∈D,SgOk x) (h:TS b D l) (ha:a<2 * D.length) (hD:D.length<=30) (hF:1000<F):aB.p F D (a:Int) b=some (gt l a):=by
 obtain ⟨i0,p0,hi,hp,hb,hy,e⟩:=h.get a ha
 rw [e]
 have uniq:∀ i p:Nat,i<D.length->p<4->ent (gt D i) p=b->en (gt D i) p=a->i=i0/\p=p0:=λi p q1 q2 q3 q4=>by
  obtain ⟨_,_,q⟩:=h.put i p q1 q2 q3
  rw [q4,Int.toNat_natCast,e] at q
  simp only [Prod.mk.injEq] at q
  omega
 unfold aB.p
 have key:∀ (m g c:Nat),i0 - c=m->c<=i0->m<g->aB.pl13 F g (a:Int) b D (c:Int)=some ((i0:Int),(p0:Int)):=by
  intro m
  induction m with
  | zero=>
   intro g c hm hc hg
   obtain ⟨g,rfl⟩:∃ k',g=k'+1:=⟨g - 1,by omega⟩
   obtain rfl:c=i0:=by omega
   rw [aB.pl13,dT hi,cond_true]
   exact place_hit hs hi hp hy hb (λp q1 q2 q3=>by have:=uniq c p hi (by omega) q2 q3;omega) p0 F 0 (by omega) (by omega) (by omega)
  | succ m ih=>
   intro g c hm hc hg
   obtain ⟨g,rfl⟩:∃ k',g=k'+1:=⟨g - 1,by omega⟩
   rw [aB.pl13,dT (by omega),cond_true]
   have:=place_row (F:=F) (C:=aB.pl13 F g) (c:=c) (a:=(a:Int)) hs (by omega) (by omega) (λp q1 q2 q3=>by have:=uniq c p (by omega) q1 q2 q3;omega) 4 F 0 (by omega) (by omega) (by omega)
   have this:aB.pl213 F (aB.pl13 F g) F (a:Int) b D (c:Int) 0=_:=this
   rw [this]
   exact ih g (c+1) (by omega) (by omega) (by omega)
 exact key i0 F 0 (by omega) (by omega) (by omega)
def oth (D:List Cr) (t:Tb) (c p:Nat):Int×Int:=bif ent (gt D c) p then gt t.1 (en (gt D c) p).toNat else gt t.2 (en (gt D c) p).toNat
def suc (D:List Cr) (t:Tb) (k:Nat):Nat:=4 * (oth D t (k / 4) ((k+1) % 4)).1.toNat+(oth D t (k / 4) ((k+1) % 4)).2.toNat
theorem oth_is {t:Tb} (h:TB D t) {c p:Nat} (hc:c<D.length) (hp:p<4):∃ i q:Nat,oth D t c p=((i:Int),(q:Int))/\i<D.length/\q<4/\ent (gt D i) q=!(ent (gt D c) p)/\en (gt D i) q=en (gt D c) p:=by
 unfold oth
 cases he:ent (gt D c) p with
 | true=>
  obtain ⟨h0,h1,_⟩:=h.to_.put c p hc hp he
  obtain ⟨i,q,a1,a2,a3,a4,a5⟩:=h.fr.get (en (gt D c) p).toNat (by omega)
  exact ⟨i,q,a5,a1,a2,a3,by omega⟩
 | false=>
  obtain ⟨h0,h1,_⟩:=h.fr.put c p hc hp he
  obtain ⟨i,q,a1,a2,a3,a4,a5⟩:=h.to_.get (en (gt D c) p).toNat (by omega)
  exact ⟨i,q,a5,a1,a2,a3,by omega⟩
theorem oth_oth {t:Tb} (h:TB D t) {c p i q:Nat} (hc:c<D.length) (hp:p<4) (e:oth D t c p=((i:Int),(q:Int))) (hi:i<D.length) (hq:q<4):oth D t i q=((c:Int),(p:Int)):=by
 obtain ⟨i',q',e',_,_,e3,e4⟩:=oth_is h hc hp
 rw [e] at e'
 simp only [Prod.mk.injEq,Int.natCast_inj] at e'
 obtain ⟨rfl,rfl⟩:=e'
 unfold oth
 rw [e3,e4]
 cases he:ent (gt D c) p with
 | true=>exact (h.to_.put c p hc hp he).2.2
 | false=>exact (h.fr.put c p hc hp he).2.2
theorem suc_lt {t:Tb} (h:TB D t) {k:Nat} (hk:k<4 * D.length):suc D t k<4 * D.length:=by
 obtain ⟨i,q,e,h1,h2,_⟩:=oth_is h (c:=k / 4) (p:=(k+1) % 4) (by omega) (by omega)
 unfold suc
 rw [e];simp only [Int.toNat_natCast];omega
theorem suc_inj {t:Tb} (h:TB D t) {k k':Nat} (hk:k<4 * D.length) (hk':k'<4 * D.length) (e:suc D t k=suc D t k'):k=k':=by
 obtain ⟨i,q,e1,h1,h2,_⟩:=oth_is h (c:=k / 4) (p:=(k+1) % 4) (by omega) (by omega)
 obtain ⟨i',q',e1',h1',h2',_⟩:=oth_is h (c:=k' / 4) (p:=(k'+1) % 4) (by omega) (by omega)
 unfold suc at e
 rw [e1,e1'] at e
 simp only [Int.toNat_natCast] at e
 obtain rfl:i=i':=by omega
 obtain rfl:q=q':=by omega
 have a:=oth_oth h (by omega) (by omega) e1 h1 h2
 have b:=oth_oth h (by omega) (by omega) e1' h1 h2
 rw [a] at b
 simp only [Prod.mk.injEq,Int.natCast_inj] at b
 omega
theorem tdiv4 (k:Nat):Int.tdiv (k:Int) 4=((k / 4:Nat):Int):=by
 rw [Int.tdiv_eq_ediv_of_nonneg (by omega)];omega
theorem tmod4 (k:Nat):Int.tmod (k:Int) 4=((k % 4:Nat):Int):=by
 rw [Int.tmod_eq_emod_of_nonneg (by omega)];omega
theorem ZY {t:Tb} (h:TB D t) {k:Nat} (hk:k<4 * D.length) (hD:D.length<=30) (hF:1000<F):cJ.p F D (k:Int)=some ((suc D t k:Nat):Int):=by
 have hc:k / 4<D.length:=by omega
 unfold cJ.p
 rw [tdiv4,tmod4,ws (by omega),tmod4,wn (by omega),ixn hc,Option.bind_some,show (k % 4+1) % 4=(k+1) % 4 by omega,s_end (by omega),Option.bind_some]
 have:=s_ent (F:=F) (x:=gt D (k / 4)) (p:=(k+1) % 4) (h.sg _ (gmem hc)) (by omega)
 unfold sg at this
 rw [this,Option.bind_some]
 obtain ⟨i,q,e,h1,h2,_⟩:=oth_is h (c:=k / 4) (p:=(k+1) % 4) hc (by omega)
 have hpl:aB.p F D (en (gt D (k / 4)) ((k+1) % 4)) (!(ent (gt D (k / 4)) ((k+1) % 4)))=some (oth D t (k / 4) ((k+1) % 4)):=by
  unfold oth
  cases he:ent (gt D (k / 4)) ((k+1) % 4) with
  | true=>
   obtain ⟨h0,h1,_⟩:=h.to_.put _ _ hc (by omega) he
   have:=place_of (F:=F) (a:=(en (gt D (k / 4)) ((k+1) % 4)).toNat) h.sg h.fr (by omega) hD hF
   rw [Int.toNat_of_nonneg h0] at this
   exact this
  | false=>
   obtain ⟨h0,h1,_⟩:=h.fr.put _ _ hc (by omega) he
   have:=place_of (F:=F) (a:=(en (gt D (k / 4)) ((k+1) % 4)).toNat) h.sg h.to_ (by omega) hD hF
   rw [Int.toNat_of_nonneg h0] at this
   exact this
 rw [hpl,Option.bind_some]
 unfold suc
 rw [e]
 simp only [Int.toNat_natCast]
 rw [bg (x:=4 * (i:Int)) (by omega) (by omega),bg (by omega) (by omega)]
 congr 1
theorem ZZ {t:Tb} (h:TB D t) {c p:Nat} (hc:c<D.length) (hp:p<4):cV.p F D t.1 t.2 (c:Int) (p:Int)=some (oth D t c p):=by
 unfold cV.p dM.p
 rw [ixn hc,Option.bind_some,Option.bind_some,if_pos ⟨by omega,by omega⟩]
 have:=i_ent (F:=F) (x:=gt D c) (p:=p) (h.sg _ (gmem hc))
 unfold sg at this
 rw [this,Option.bind_some]
 have he:gt [(gt D c).1,(gt D c).2.1,(gt D c).2.2.1,(gt D c).2.2.2.1] ((p:Int)).toNat=en (gt D c) p:=by rw [Int.toNat_natCast];rfl
 simp only [he]
 unfold oth
 cases hb:ent (gt D c) p with
 | true=>
  obtain ⟨h0,h1,_⟩:=h.to_.put c p hc hp hb
  rw [cond_true,cond_true,ix_of h0 (by rw [h.fr.len];exact h1),Option.bind_some]
 | false=>
  obtain ⟨h0,h1,_⟩:=h.fr.put c p hc hp hb
  rw [cond_false,cond_false,ix_of h0 (by rw [h.to_.len];exact h1),Option.bind_some]
end Go.Proofs.Ytodfdhnlhiaohaa.AE.DD
end
section
namespace Go.Proofs.Ytodfdhnlhiaohaa.AE.DD
open Go Go.AE Go.Proofs
inductive Orb (σ:Nat->Nat):List Bool->Nat->List Int->List Bool->List Int->Prop where
 | stop {done:List Bool} {k:Nat} {acc:List Int} (h:gt done k=true):Orb σ done k acc done acc
 | go {done done':List Bool} {k:Nat} {acc acc':List Int} (h:gt done k=false) (t:Orb σ (done.set k true) (σ k) (acc++[(k:Int)]) done' acc'):Orb σ done k acc done' acc'
inductive Orbs (σ:Nat->Nat) (M:Nat):List Bool->Nat->List (List Int)->List (List Int)->Prop where
 | fin {done:List Bool} {k:Nat} {out:List (List Int)} (h:M<=k):Orbs σ M done k out out
 | skip {done:List Bool} {k:Nat} {out R:List (List Int)} (h:k<M) (hd:gt done k=true) (t:Orbs σ M done (k+1) out R):Orbs σ M done k out R
 | go {done done':List Bool} {k:Nat} {acc:List Int} {out R:List (List Int)} (h:k<M) (hd:gt done k=false) (o:Orb σ done k [] done' acc) (t:Orbs σ M done' (k+1) (out++[acc]) R):Orbs σ M done k out R
def nf (done:List Bool):Nat:=done.countP (λb=>!b)
theorem gt_eq {α:Type} [Inhabited α] {l:List α} {n:Nat} (h:n<l.length):l[n]=gt l n:=by
 have:=fE h
 rw [List.getElem?_eq_getElem h] at this
 exact Option.some.inj this
theorem nf_set {done:List Bool} {k:Nat} (hk:k<done.length) (h:gt done k=false):nf (done.set k true)+1=nf done:=by
 unfold nf
 rw [List.countP_set hk,gt_eq hk,h]
 have:0<done.countP (λb=>!b):=List.countP_pos_iff.2 ⟨false,by rw [<- h];exact gmem hk,rfl⟩
 simp;omega
theorem nf_le (done:List Bool):nf done<=done.length:=List.countP_le_length
def Con (σ:Nat->Nat) (M x y:Nat):Prop:=∀ S:Nat->Prop,(∀ k,k<M->(S k↔S (σ k)))->(S x↔S y)
section
variable {σ:Nat->Nat} {M:Nat}
theorem orb_spec (hlt:∀ x,x<M->σ x<M) (hinj:∀ x y,x<M->y<M->σ x=σ y->x=y) {done:List Bool} {k:Nat} (hl:done.length=M) (hk:k<M) (hd:gt done k=false) (hc:∀ x,x<M->(gt done x=true↔gt done (σ x)=true)) :
  ∀ (n:Nat) (dn:List Bool) (at_:Nat) (acc:List Int),nf dn=n->dn.length=M->at_<M->(∀ x,x<M->(gt dn x=true↔gt done x=true\/(x:Int)∈acc)) ->
   (∀ z∈acc,∃ x:Nat,x<M/\z=x/\gt done x=false/\Con σ M k x)->Con σ M k at_->(∀ x,x<M->(x:Int)∈acc->gt dn (σ x)=true\/σ x=at_)->(∀ x,x<M->gt dn (σ x)=true->gt dn x=true\/σ x=k) ->
   (gt dn at_=true->at_=k)->((acc=[]/\at_=k)\/∃ y,y<M/\gt dn y=true/\σ y=at_)->acc.length+nf dn<=M ->
   ∃ done' acc',Orb σ dn at_ acc done' acc'/\done'.length=M/\(∀ x,x<M->(gt done' x=true↔gt done x=true\/(x:Int)∈acc'))/\(∀ z∈acc',∃ x:Nat,x<M/\z=x/\gt done x=false/\Con σ M k x)/\(k:Int)∈acc'/\(∀ x:Nat,x<M->(x:Int)∈acc'->((σ x:Nat):Int)∈acc')/\(∀ x,x<M->(gt done' x=true↔gt done' (σ x)=true))/\acc'.length<=M:=by
 have fin_:∀ (dn:List Bool) (acc:List Int) (k':Nat),dn.length=M->gt dn k'=true->(k':Int)∈acc->(∀ x,x<M->(gt dn x=true↔gt done x=true\/(x:Int)∈acc))->(∀ z∈acc,∃ x:Nat,x<M/\z=x/\gt done x=false/\Con σ M k' x) ->
   (∀ x,x<M->(x:Int)∈acc->gt dn (σ x)=true\/σ x=k')->(∀ x,x<M->gt dn (σ x)=true->gt dn x=true\/σ x=k')->((acc=[]/\k'=k')\/∃ y,y<M/\gt dn y=true/\σ y=k')->acc.length<=M ->
   ∃ done' acc',Orb σ dn k' acc done' acc'/\done'.length=M/\(∀ x,x<M->(gt done' x=true↔gt done x=true\/(x:Int)∈acc'))/\(∀ z∈acc',∃ x:Nat,x<M/\z=x/\gt done x=false/\Con σ M k' x)/\(k':Int)∈acc'/\(∀ x:Nat,x<M->(x:Int)∈acc'->((σ x:Nat):Int)∈acc')/\(∀ x,x<M->(gt done' x=true↔gt done' (σ x)=true))/\acc'.length<=M:=by
  intro dn acc k' h1 hat hka i2 i3 i5 i6 i8 i9
  have hs:∀ x,x<M->(x:Int)∈acc->gt dn (σ x)=true:=λx hx hxa=>by
   rcases i5 x hx hxa with q | q
   ·exact q
   ·rw [q];exact hat
  refine ⟨dn,acc,.stop hat,h1,i2,i3,hka,λx hx hxa=>?_,λx hx=>⟨λq=>?_,λq=>?_⟩,i9⟩
  ·rcases (i2 _ (hlt x hx)).1 (hs x hx hxa) with q | q
   ·obtain ⟨y,hy,e,hf,_⟩:=i3 _ hxa
    obtain rfl:x=y:=by omega
    rw [(hc x hx).2 q] at hf;cases hf
   ·exact q
  ·rcases (i2 x hx).1 q with q | q
   ·exact (i2 _ (hlt x hx)).2 (.inl ((hc x hx).1 q))
   ·exact hs x hx q
  ·rcases i6 x hx q with q | q
   ·exact q
   ·rcases i8 with ⟨e,_⟩ | ⟨y,hy,hyd,e⟩
    ·rw [e] at hka;cases hka
    ·rw [hinj x y hx hy (q.trans e.symm)];exact hyd
 intro n
 induction n with
 | zero=>
  intro dn at_ acc hn h1 h2 i2 i3 i4 i5 i6 i7 i8 i9
  have hat:gt dn at_=true:=by
   cases h:gt dn at_ with
   | true=>rfl
   | false=>have:=nf_set (by omega) h;omega
  obtain rfl:=i7 hat
  have hka:(at_:Int)∈acc:=by rcases (i2 at_ hk).1 hat with q | q;(rw [hd] at q;cases q);exact q
  exact fin_ dn acc at_ h1 hat hka i2 i3 i5 i6 i8 (by omega)
 | succ n ih=>
  intro dn at_ acc hn h1 h2 i2 i3 i4 i5 i6 i7 i8 i9
  cases hat:gt dn at_ with
  | true=>
   obtain rfl:=i7 hat
   have hka:(at_:Int)∈acc:=by rcases (i2 at_ hk).1 hat with q | q;(rw [hd] at q;cases q);exact q
   exact fin_ dn acc at_ h1 hat hka i2 i3 i5 i6 i8 (by omega)
  | false=>
   have hset:∀ x,x<M->(gt (dn.set at_ true) x=true↔gt dn x=true\/x=at_):=λx hx=>by
    by_cases e:at_=x
    ·subst e;rw [gset_eq (by omega)];simp
    ·rw [gset_ne e];constructor
     ·exact .inl
     ·rintro (q | q);exact q;exact absurd q.symm e
   have hnd:gt done at_=false:=by
    cases h:gt done at_ with
    | false=>rfl
    | true=>rw [(i2 at_ h2).2 (.inl h)] at hat;cases hat
   have hstep:Con σ M k (σ at_):=λS hS=>(i4 S hS).trans (hS at_ h2)
   obtain ⟨done',acc',o,q1,q2,q3,q4,q5⟩:=ih (dn.set at_ true) (σ at_) (acc++[(at_:Int)]) (by have:=nf_set (by omega) hat;omega) (by rw [List.length_set];exact h1) (hlt _ h2)
    (λx hx=>by
     rw [hset x hx,i2 x hx]
     simp only [List.mem_append,List.mem_singleton,Int.natCast_inj,or_assoc])
    (λz hz=>by
     rcases List.mem_append.1 hz with hz | hz
     ·exact i3 z hz
     ·exact ⟨at_,h2,by simpa using hz,hnd,i4⟩)
    hstep
    (λx hx hxa=>by
     rcases List.mem_append.1 hxa with hxa | hxa
     ·left;rw [hset _ (hlt x hx)]
      rcases i5 x hx hxa with q | q
      ·exact .inl q
      ·exact .inr q
     ·right;obtain rfl:x=at_:=by have:=List.mem_singleton.1 hxa;omega
      rfl)
    (λx hx hs=>by
     rw [hset _ (hlt x hx)] at hs
     rw [hset x hx]
     rcases hs with q | q
     ·rcases i6 x hx q with q | q
      ·exact .inl (.inl q)
      ·exact .inr q
     ·rcases i8 with ⟨_,e⟩ | ⟨y,hy,hyd,e⟩
      ·exact .inr (q.trans e)
      ·exact .inl (.inl (by rw [hinj x y hx hy (q.trans e.symm)];exact hyd)))
    (λhs=>by
     rw [hset _ (hlt _ h2)] at hs
     rcases hs with q | q
     ·rcases i6 at_ h2 q with q | q
      ·rw [hat] at q;cases q
      ·exact q
     ·rcases i8 with ⟨_,e⟩ | ⟨y,hy,hyd,e⟩
      ·exact q.trans e
      ·have:=hinj y at_ hy h2 (e.trans q.symm)
       rw [this,hat] at hyd;cases hyd)
    (.inr ⟨at_,h2,by rw [hset _ h2];exact .inr rfl,rfl⟩)
    (by have:=nf_set (by omega) hat;rw [List.length_append,List.length_singleton];omega)
   exact ⟨done',acc',.go hat o,q1,q2,q3,q4,q5⟩
theorem orb_one (hlt:∀ x,x<M->σ x<M) (hinj:∀ x y,x<M->y<M->σ x=σ y->x=y) {done:List Bool} {k:Nat} (hl:done.length=M) (hk:k<M) (hd:gt done k=false) (hc:∀ x,x<M->(gt done x=true↔gt done (σ x)=true)) :
  ∃ done' acc',Orb σ done k [] done' acc'/\done'.length=M/\(∀ x,x<M->(gt done' x=true↔gt done x=true\/(x:Int)∈acc'))/\(∀ z∈acc',∃ x:Nat,x<M/\z=x/\gt done x=false/\Con σ M k x)/\(k:Int)∈acc'/\(∀ x:Nat,x<M->(x:Int)∈acc'->((σ x:Nat):Int)∈acc')/\(∀ x,x<M->(gt done' x=true↔gt done' (σ x)=true))/\acc'.length<=M:=
 orb_spec hlt hinj hl hk hd hc (nf done) done k [] rfl hl hk (λx hx=>by simp) (λz hz=>by cases hz) (λS hS=>Iff.rfl) (λx hx h=>by cases h) (λx hx h=>.inl ((hc x hx).2 h)) (λh=>absurd (hd.symm.trans h) (by decide)) (.inl ⟨rfl,rfl⟩) (by have:=nf_le done;simp;omega)
structure Part (σ:Nat->Nat) (M:Nat) (R:List (List Int)) (done:List Bool):Prop where
 len:done.length=M
 mem:∀ x:Nat,x<M->(gt done x=true↔∃ j,j<R.length/\(x:Int)∈gt R j)
 elt:∀ j,j<R.length->∀ z∈gt R j,∃ x:Nat,x<M/\z=x
 one:∀ (x:Nat) (j j':Nat),j<R.length->j'<R.length->(x:Int)∈gt R j->(x:Int)∈gt R j'->j=j'
 suc:∀ (x:Nat) (j:Nat),x<M->j<R.length->(x:Int)∈gt R j->((σ x:Nat):Int)∈gt R j
 con:∀ (x y:Nat) (j:Nat),j<R.length->(x:Int)∈gt R j->(y:Int)∈gt R j->Con σ M x y
 ne:∀ j,j<R.length->gt R j≠[]
 clo:∀ x,x<M->(gt done x=true↔gt done (σ x)=true)
 sz:∀ j,j<R.length->(gt R j).length<=M
theorem Con.symm {x y:Nat} (h:Con σ M x y):Con σ M y x:=λS hS=>(h S hS).symm
theorem Con.trans {x y z:Nat} (h:Con σ M x y) (h':Con σ M y z):Con σ M x z:=λS hS=>(h S hS).trans (h' S hS)
theorem Part.start (hlt:∀ x,x<M->σ x<M):Part σ M [] (List.replicate M false) where
 len:=by simp
 mem:=λx hx=>by rw [grep hx];simp
 elt:=λj hj=>by simp at hj
 one:=λx j j' hj=>by simp at hj
 suc:=λx j _ hj=>by simp at hj
 con:=λx y j hj=>by simp at hj
 ne:=λj hj=>by simp at hj
 clo:=λx hx=>by rw [grep hx,grep (hlt x hx)]
 sz:=λj hj=>by simp at hj
theorem Part.add {R:List (List Int)} {done done':List Bool} {k:Nat} {acc:List Int} (h:Part σ M R done) (q1:done'.length=M) (q2:∀ x,x<M->(gt done' x=true↔gt done x=true\/(x:Int)∈acc)) (q3:∀ z∈acc,∃ x:Nat,x<M/\z=x/\gt done x=false/\Con σ M k x) (q4:(k:Int)∈acc)
  (q5:∀ x:Nat,x<M->(x:Int)∈acc->((σ x:Nat):Int)∈acc) (q6:∀ x,x<M->(gt done' x=true↔gt done' (σ x)=true)) (q7:acc.length<=M):Part σ M (R++[acc]) done':=by
 have hg:∀ j,j<(R++[acc]).length->(j<R.length/\gt (R++[acc]) j=gt R j)\/(j=R.length/\gt (R++[acc]) j=acc):=λj hj=>by
  simp only [List.length_append,List.length_singleton] at hj
  by_cases e:j<R.length
  ·exact .inl ⟨e,gapp_lt e⟩
  ·obtain rfl:j=R.length:=by omega
   exact .inr ⟨rfl,gapp_eq⟩
 have hlast:R.length<(R++[acc]).length:=by simp
 refine ⟨q1,λx hx=>?_,λj hj z hz=>?_,λx j j' hj hj' hm hm'=>?_,λx j hx hj hm=>?_,λx y j hj hx hy=>?_,λj hj=>?_,q6,λj hj=>?_⟩
 ·rw [q2 x hx,h.mem x hx]
  constructor
  ·rintro (⟨j,hj,hm⟩ | hm)
   ·exact ⟨j,by simp;omega,by rw [gapp_lt hj];exact hm⟩
   ·exact ⟨R.length,hlast,by rw [gapp_eq];exact hm⟩
  ·rintro ⟨j,hj,hm⟩
   rcases hg j hj with ⟨e,g⟩ | ⟨e,g⟩
   ·exact .inl ⟨j,e,by rw [<- g];exact hm⟩
   ·exact .inr (by rw [<- g];exact hm)
 ·rcases hg j hj with ⟨e,g⟩ | ⟨e,g⟩
  ·rw [g] at hz;exact h.elt j e z hz
  ·rw [g] at hz;obtain ⟨x,a,b,_⟩:=q3 z hz;exact ⟨x,a,b⟩
 ·have cross:∀ j,j<R.length->(x:Int)∈gt R j->(x:Int)∈acc->False:=λj hj h1 h2=>by
   obtain ⟨y,a,b,c,_⟩:=q3 _ h2
   obtain rfl:x=y:=by omega
   have:=(h.mem x a).2 ⟨j,hj,h1⟩
   rw [c] at this;cases this
  rcases hg j hj with ⟨e,g⟩ | ⟨e,g⟩ <;> rcases hg j' hj' with ⟨e',g'⟩ | ⟨e',g'⟩ <;> rw [g] at hm <;> rw [g'] at hm'
  ·exact h.one x j j' e e' hm hm'
  ·exact (cross j e hm hm').elim
  ·exact (cross j' e' hm' hm).elim
  ·omega
 ·rcases hg j hj with ⟨e,g⟩ | ⟨e,g⟩ <;> rw [g] at hm ⊢
  ·exact h.suc x j hx e hm
  ·exact q5 x hx hm
 ·rcases hg j hj with ⟨e,g⟩ | ⟨e,g⟩ <;> rw [g] at hx hy
  ·exact h.con x y j e hx hy
  ·obtain ⟨x',_,e1,_,c1⟩:=q3 _ hx
   obtain ⟨y',_,e2,_,c2⟩:=q3 _ hy
   obtain rfl:x=x':=by omega
   obtain rfl:y=y':=by omega
   exact c1.symm.trans c2
 ·rcases hg j hj with ⟨e,g⟩ | ⟨e,g⟩ <;> rw [g]
  ·exact h.ne j e
  ·intro e2;rw [e2] at q4;cases q4
 ·rcases hg j hj with ⟨e,g⟩ | ⟨e,g⟩ <;> rw [g]
  ·exact h.sz j e
  ·exact q7
theorem orbs_all (hlt:∀ x,x<M->σ x<M) (hinj:∀ x y,x<M->y<M->σ x=σ y->x=y):∀ (n k:Nat) (done:List Bool) (out:List (List Int)),M - k=n->k<=M->Part σ M out done->(∀ x,x<k->gt done x=true) ->
  ∃ R done',Orbs σ M done k out R/\Part σ M R done'/\(∀ x,x<M->gt done' x=true)/\R.length<=out.length+n:=by
 intro n
 induction n with
 | zero=>
  intro k done out hn hk h hd
  exact ⟨out,done,.fin (by omega),h,λx hx=>hd x (by omega),by omega⟩
 | succ n ih=>
  intro k done out hn hk h hd
  cases hdk:gt done k with
  | true=>
   obtain ⟨R,done',o,q1,q2,q3⟩:=ih (k+1) done out (by omega) (by omega) h (λx hx=>by
    by_cases e:x=k
    ·subst e;exact hdk
    ·exact hd x (by omega))
   exact ⟨R,done',.skip (by omega) hdk o,q1,q2,by omega⟩
  | false=>
   obtain ⟨d',acc,o,q1,q2,q3,q4,q5,q6,q7⟩:=orb_one hlt hinj h.len (by omega) hdk h.clo
   obtain ⟨R,done',o',r1,r2,r3⟩:=ih (k+1) d' (out++[acc]) (by omega) (by omega) (h.add q1 q2 q3 q4 q5 q6 q7) (λx hx=>by
    rw [q2 x (by omega)]
    by_cases e:x=k
    ·subst e;exact .inr q4
    ·exact .inl (hd x (by omega)))
   rw [List.length_append,List.length_singleton] at r3
   exact ⟨R,done',.go (by omega) hdk o o',r1,r2,by omega⟩
theorem orbs_whole (hlt:∀ x,x<M->σ x<M) (hinj:∀ x y,x<M->y<M->σ x=σ y->x=y) :
  ∃ R done',Orbs σ M (List.replicate M false) 0 [] R/\Part σ M R done'/\(∀ x,x<M->gt done' x=true)/\R.length<=M:=by
 obtain ⟨R,d,o,q1,q2,q3⟩:=orbs_all hlt hinj M 0 _ [] (by omega) (by omega) (Part.start hlt) (λx hx=>by omega)
 exact ⟨R,d,o,q1,q2,by simpa using q3⟩
theorem Orb.acc_ne {done done':List Bool} {k:Nat} {acc acc':List Int} (h:Orb σ done k acc done' acc'):acc≠[]->acc'≠[]:=by
 induction h with
 | stop h=>exact id
 | go h t ih=>exact λ_=>ih (by simp)
theorem Orb.len {done done':List Bool} {k:Nat} {acc acc':List Int} (h:Orb σ done k acc done' acc'):done'.length=done.length:=by
 induction h with
 | stop h=>rfl
 | go h t ih=>rw [ih,List.length_set]
end
end Go.Proofs.Ytodfdhnlhiaohaa.AE.DD
end
section
namespace Go.Proofs.Ytodfdhnlhiaohaa.AE.DD
open Go Go.AE Go.Proofs
variable {F:Nat} {D:List Cr} {t:Tb}
theorem s_orb {C:List Cr->List (List Int)->List Bool->Int->Option (List (List Int))} (h:TB D t) (hD:D.length<=30) (hF:1000<F) {out:List (List Int)} {k0:Int} {dn dn':List Bool} {at_:Nat} {acc acc':List Int} (o:Orb (suc D t) dn at_ acc dn' acc') :
  ∀ g,dn.length=4 * D.length->at_<4 * D.length->nf dn<g->acc.length+nf dn<=1000->aF.pl7853 F C g D out dn k0 acc (at_:Int)=aF.pj6 F C D out dn' k0 acc':=by
 induction o with
 | stop hd=>
  intro g hl hat hg hb
  obtain ⟨g,rfl⟩:∃ g',g=g'+1:=⟨g - 1,by omega⟩
  rw [aF.pl7853,ixn (by omega),Option.bind_some,hd,Bool.not_true,cond_false]
 | @go done done' k acc acc' hd t' ih=>
  intro g hl hat hg hb
  obtain ⟨g,rfl⟩:∃ g',g=g'+1:=⟨g - 1,by omega⟩
  have hn:=nf_set (by omega:k<done.length) hd
  rw [aF.pl7853,ixn (by omega),Option.bind_some,hd,Bool.not_false,cond_true,Option.bind_some,Option.bind_some,apn_of (by simp;omega),Option.bind_some,ZY h hat hD hF,Option.bind_some]
  exact ih g (by rw [List.length_set];exact hl) (suc_lt h hat) (by omega) (by rw [List.length_append,List.length_singleton];omega)
theorem s_orbs (h:TB D t) (hD:D.length<=30) (hF:1000<F) {dn:List Bool} {k:Nat} {out R:List (List Int)} (o:Orbs (suc D t) (4 * D.length) dn k out R) :
  ∀ g,dn.length=4 * D.length->4 * D.length - k<g->out.length<=k->aF.pl61 F g D out dn (k:Int)=some R:=by
 induction o with
 | fin hk=>
  intro g hl hg hb
  obtain ⟨g,rfl⟩:∃ g',g=g'+1:=⟨g - 1,by omega⟩
  rw [aF.pl61,dF (by omega),cond_false]
 | skip hk hd t' ih=>
  intro g hl hg hb
  obtain ⟨g,rfl⟩:∃ g',g=g'+1:=⟨g - 1,by omega⟩
  rw [aF.pl61,dT (by omega),cond_true,ixn (by omega),Option.bind_some,hd,cond_true]
  unfold aF.pj4
  rw [ws (by omega)]
  exact ih g hl (by omega) (by omega)
 | @go done done' k acc out R hk hd o' t' ih=>
  intro g hl hg hb
  obtain ⟨g,rfl⟩:∃ g',g=g'+1:=⟨g - 1,by omega⟩
  have:=nf_le done
  rw [aF.pl61,dT (by omega),cond_true,ixn (by omega),Option.bind_some,hd,cond_false,s_orb h hD hF o' F hl hk (by omega) (by simp;omega)]
  unfold aF.pj6 aF.pj5
  rw [apn_of (by simp;omega),Option.bind_some,ws (by omega)]
  exact ih g (by rw [o'.len];exact hl) (by omega) (by rw [List.length_append,List.length_singleton];omega)
theorem i_next (h:TB D t) {k:Nat} (hk:k<4 * D.length) (hD:D.length<=30) {β:Type} (f:Int->Option β) :
  ((cV.p F D t.1 t.2 (IntKind.i64.wrap (Int.tdiv (k:Int) 4)) (Int.tmod (IntKind.i64.wrap ((k:Int)+1)) 4)).bind λr=>f (IntKind.i64.wrap ((IntKind.i64.wrap (4 * r.1))+r.2)))=f ((suc D t k:Nat):Int):=by
 rw [tdiv4,ws (by omega),tmod4,wn (by omega),ZZ h (by omega) (by omega),Option.bind_some]
 obtain ⟨i,q,e,h1,h2,_⟩:=oth_is h (c:=k / 4) (p:=(k+1) % 4) (by omega) (by omega)
 unfold suc
 rw [e]
 simp only [Int.toNat_natCast]
 rw [bg (x:=4 * (i:Int)) (by omega) (by omega),bg (by omega) (by omega)]
 congr 1
theorem i_orb {C:List Cr->List (Int×Int)->List (Int×Int)->List (List Int)->List Bool->Int->Int->Option (List (List Int))} (h:TB D t) (hD:D.length<=30) (hF:1000<F) {out:List (List Int)} {n k0:Int} {dn dn':List Bool} {at_:Nat} {acc acc':List Int} (o:Orb (suc D t) dn at_ acc dn' acc') :
  ∀ g,dn.length=4 * D.length->at_<4 * D.length->nf dn<g->acc.length+nf dn<=1000->aD.pl15725 F C g D t.1 t.2 out dn n k0 acc (at_:Int)=aD.pj6 F C D t.1 t.2 out dn' acc' n k0:=by
 induction o with
 | stop hd=>
  intro g hl hat hg hb
  obtain ⟨g,rfl⟩:∃ g',g=g'+1:=⟨g - 1,by omega⟩
  rw [aD.pl15725,ixn (by omega),Option.bind_some,hd,Bool.not_true,cond_false]
 | @go done done' k acc acc' hd t' ih=>
  intro g hl hat hg hb
  obtain ⟨g,rfl⟩:∃ g',g=g'+1:=⟨g - 1,by omega⟩
  have hn:=nf_set (by omega:k<done.length) hd
  rw [aD.pl15725,ixn (by omega),Option.bind_some,hd,Bool.not_false,cond_true,Option.bind_some,Option.bind_some,apn_of (by simp;omega),Option.bind_some,i_next h hat hD]
  exact ih g (by rw [List.length_set];exact hl) (suc_lt h hat) (by omega) (by rw [List.length_append,List.length_singleton];omega)
theorem i_orbs (h:TB D t) (hD:D.length<=30) (hF:1000<F) {dn:List Bool} {k:Nat} {out R:List (List Int)} (o:Orbs (suc D t) (4 * D.length) dn k out R) :
  ∀ g,dn.length=4 * D.length->4 * D.length - k<g->out.length<=k->aD.pl61 F g D t.1 t.2 out dn ((4 * D.length:Nat):Int) (k:Int)=some R:=by
 induction o with
 | fin hk=>
  intro g hl hg hb
  obtain ⟨g,rfl⟩:∃ g',g=g'+1:=⟨g - 1,by omega⟩
  rw [aD.pl61,dF (by omega),cond_false]
 | @skip done k out R hk hd t' ih=>
  intro g hl hg hb
  obtain ⟨g,rfl⟩:∃ g',g=g'+1:=⟨g - 1,by omega⟩
  have:=nf_le done
  rw [aD.pl61,dT (by omega),cond_true,i_orb h hD hF (.stop hd) F hl hk (by omega) (by simp;omega)]
  unfold aD.pj6 aD.pj5 aD.pj4
  rw [show decide ((([]:List Int).length:Int)>0)=false by decide,cond_false,ws (by omega)]
  exact ih g hl (by omega) (by omega)
 | @go done done' k acc out R hk hd o' t' ih=>
  intro g hl hg hb
  obtain ⟨g,rfl⟩:∃ g',g=g'+1:=⟨g - 1,by omega⟩
  have:=nf_le done
  have hne:acc≠[]:=by
   cases o' with
   | stop hd'=>rw [hd] at hd';cases hd'
   | go _ t2=>exact t2.acc_ne (by simp)
  have:=List.length_pos_iff.2 hne
  rw [aD.pl61,dT (by omega),cond_true,i_orb h hD hF o' F hl hk (by omega) (by simp;omega)]
  unfold aD.pj6 aD.pj5 aD.pj4
  rw [decide_eq_true (by omega),cond_true,apn_of (by simp;omega),Option.bind_some,ws (by omega)]
  exact ih g (by rw [o'.len];exact hl) (by omega) (by rw [List.length_append,List.length_singleton];omega)
structure Rg (D:List Cr) (t:Tb) (R:List (List Int)):Prop where
 part:∃ done,Part (suc D t) (4 * D.length) R done/\∀ x,x<4 * D.length->gt done x=true
 le:R.length<=4 * D.length
theorem regions_both (h:TB D t) (hD:D.length<=30) (hF:1000<F):∃ R,Rg D t R/\aF.p F D=some R/\aD.p F D t.1 t.2=some R:=by
 obtain ⟨R,done,o,q1,q2,q3⟩:=orbs_whole (σ:=suc D t) (M:=4 * D.length) (λx hx=>suc_lt h hx) (λx y hx hy e=>suc_inj h hx hy e)
 refine ⟨R,⟨⟨done,q1,q2⟩,q3⟩,?_,?_⟩
 ·unfold aF.p
  rw [show (4:Int) * (D.length:Int)=((4 * D.length:Nat):Int) by omega,wn (by omega),mkn_of (by omega),Option.bind_some]
  exact s_orbs h hD hF o F (by simp) (by omega) (by simp)
 ·unfold aD.p
  rw [show (4:Int) * (D.length:Int)=((4 * D.length:Nat):Int) by omega,wn (by omega),mkn_of (by omega),Option.bind_some,List.length_replicate]
  exact i_orbs h hD hF o F (by simp) (by omega) (by simp)
end Go.Proofs.Ytodfdhnlhiaohaa.AE.DD
end
section
namespace Go.Proofs.Ytodfdhnlhiaohaa.AE.DD
open Go Go.AE Go.Proofs
variable {F:Nat}
structure UF (s t:List Int) (n:Nat):Prop where
 ls:s.length=n
 lt:t.length=n
 eq:∀ i j:Nat,i<n->j<n->(gt s i=gt s j↔gt t i=gt t j)
 low:∀ i:Nat,i<n->∃ r:Nat,gt t i=(r:Int)/\r<=i/\gt t r=(r:Int)
 sr:∀ i:Nat,i<n->0<=gt s i/\gt s i<(n:Int)
def cntg (n:Nat):List Int:=(List.range n).map λk:Nat=>(k:Int)
theorem cntg_len (n:Nat):(cntg n).length=n:=by simp [cntg]
theorem gt_cntg {n k:Nat} (h:k<n):gt (cntg n) k=(k:Int):=by
 have:=fE (l:=cntg n) (n:=k) (by rw [cntg_len];exact h)
 unfold cntg at this ⊢
 rw [List.getElem?_map,List.getElem?_range h] at this
 exact (Option.some.inj this).symm
theorem cntg_succ (n:Nat):cntg (n+1)=cntg n++[(n:Int)]:=by simp [cntg,List.range_succ]
theorem UF.start (n:Nat):UF (cntg n) (cntg n) n where
 ls:=cntg_len n
 lt:=cntg_len n
 eq:=λi j hi hj=>Iff.rfl
 low:=λi hi=>⟨i,gt_cntg hi,Nat.le_refl _,gt_cntg hi⟩
 sr:=λi hi=>by rw [gt_cntg hi];omega
def rel (l:List Int) (a b:Int):List Int:=l.map λx=>if x=a then b else x
theorem rel_len (l:List Int) (a b:Int):(rel l a b).length=l.length:=by simp [rel]
theorem gt_rel {l:List Int} {a b:Int} {j:Nat} (h:j<l.length):gt (rel l a b) j=if gt l j=a then b else gt l j:=by
 have:=fE (l:=rel l a b) (n:=j) (by rw [rel_len];exact h)
 unfold rel at this ⊢
 rw [List.getElem?_map,fE h] at this
 exact (Option.some.inj this).symm
theorem UF.union {s t:List Int} {n i k:Nat} (h:UF s t n) (hi:i<n) (hk:k<n) {hi_ lo:Int} (hx:(hi_=gt t i/\lo=gt t k)\/(hi_=gt t k/\lo=gt t i)) (hle:lo<=hi_):UF (rel s (gt s k) (gt s i)) (rel t hi_ lo) n:=by
 have gs:∀ j,j<n->gt (rel s (gt s k) (gt s i)) j=if gt s j=gt s k then gt s i else gt s j:=λj hj=>gt_rel (by rw [h.ls];exact hj)
 have gtt:∀ j,j<n->gt (rel t hi_ lo) j=if gt t j=hi_ then lo else gt t j:=λj hj=>gt_rel (by rw [h.lt];exact hj)
 have mem:∀ j,j<n->((gt s j=gt s i\/gt s j=gt s k)↔(gt t j=hi_\/gt t j=lo)):=λj hj=>by
  rw [h.eq j i hj hi,h.eq j k hj hk]
  rcases hx with ⟨a,b⟩ | ⟨a,b⟩ <;> rw [a,b]
  exact or_comm
 have sA:∀ j,j<n->(gt s j=gt s i\/gt s j=gt s k)->gt (rel s (gt s k) (gt s i)) j=gt s i:=λj hj hA=>by
  rw [gs j hj];split
  ·rfl
  ·rename_i q;exact hA.resolve_right q
 have sN:∀ j,j<n->¬ (gt s j=gt s i\/gt s j=gt s k)->gt (rel s (gt s k) (gt s i)) j=gt s j:=λj hj hA=>by
  rw [gs j hj,if_neg (λq=>hA (.inr q))]
 have tA:∀ j,j<n->(gt s j=gt s i\/gt s j=gt s k)->gt (rel t hi_ lo) j=lo:=λj hj hA=>by
  rw [gtt j hj];split
  ·rfl
  ·rename_i q;exact ((mem j hj).1 hA).resolve_left q
 have tN:∀ j,j<n->¬ (gt s j=gt s i\/gt s j=gt s k)->gt (rel t hi_ lo) j=gt t j:=λj hj hA=>by
  rw [gtt j hj,if_neg (λq=>hA ((mem j hj).2 (.inl q)))]
 refine ⟨by rw [rel_len];exact h.ls,by rw [rel_len];exact h.lt,λa b ha hb=>?_,λa ha=>?_,λa ha=>?_⟩
 ·by_cases qa:gt s a=gt s i\/gt s a=gt s k <;> by_cases qb:gt s b=gt s i\/gt s b=gt s k
  ·rw [sA a ha qa,sA b hb qb,tA a ha qa,tA b hb qb];simp
  ·rw [sA a ha qa,sN b hb qb,tA a ha qa,tN b hb qb]
   constructor
   ·intro e;exact absurd (.inl e.symm) qb
   ·intro e;exact absurd ((mem b hb).2 (.inr e.symm)) qb
  ·rw [sN a ha qa,sA b hb qb,tN a ha qa,tA b hb qb]
   constructor
   ·intro e;exact absurd (.inl e) qa
   ·intro e;exact absurd ((mem a ha).2 (.inr e)) qa
  ·rw [sN a ha qa,sN b hb qb,tN a ha qa,tN b hb qb];exact h.eq a b ha hb
 ·by_cases qa:gt s a=gt s i\/gt s a=gt s k
  ·rw [tA a ha qa]
   obtain ⟨r,e1,e2,e3⟩:=h.low a ha
   have hlo:∃ m:Nat,m<n/\lo=gt t m/\(gt s m=gt s i\/gt s m=gt s k):=by
    rcases hx with ⟨_,b⟩ | ⟨_,b⟩
    ·exact ⟨k,hk,b,.inr rfl⟩
    ·exact ⟨i,hi,b,.inl rfl⟩
   obtain ⟨m,hm,em,qm⟩:=hlo
   obtain ⟨r',f1,f2,f3⟩:=h.low m hm
   have hl:lo=(r':Int):=em.trans f1
   have hle2:lo<=gt t a:=by
    rcases (mem a ha).1 qa with q | q
    ·rw [q];exact hle
    ·rw [q];exact Int.le_refl _
   refine ⟨r',hl,by omega,?_⟩
   rw [tA r' (by omega) ?_,hl]
   rw [h.eq r' i (by omega) hi,h.eq r' k (by omega) hk,f3,<-f1]
   rcases hx with ⟨a1,b⟩ | ⟨a1,b⟩
   ·right;rw [<- b];exact em.symm
   ·left;rw [<- b];exact em.symm
  ·rw [tN a ha qa]
   obtain ⟨r,e1,e2,e3⟩:=h.low a ha
   refine ⟨r,e1,e2,?_⟩
   rw [tN r (by omega),e3]
   intro q
   have:gt s r=gt s a:=(h.eq r a (by omega) ha).2 (e3.trans e1.symm)
   rw [this] at q;exact qa q
 ·rw [gs a ha];split
  ·exact h.sr i hi
  ·exact h.sr a ha
structure Cls (u:List Int) (n:Nat) (E:Nat->Nat->Prop):Prop where
 sound:∀ a b:Nat,E a b->a<n->b<n->gt u a=gt u b
 least:∀ S:Nat->Prop,(∀ a b,E a b->(S a↔S b))->∀ i j:Nat,i<n->j<n->gt u i=gt u j->(S i↔S j)
theorem Cls.start (n:Nat):Cls (cntg n) n (λ_ _=>False) where
 sound:=λa b h=>h.elim
 least:=λS hS i j hi hj h=>by rw [gt_cntg hi,gt_cntg hj] at h;rw [show i=j by omega]
theorem Cls.union {u:List Int} {n i k:Nat} {E E':Nat->Nat->Prop} (h:Cls u n E) (hl:u.length=n) (hi:i<n) (hk:k<n) (hE:∀ a b,E' a b↔E a b\/(a=i/\b=k)) {hi_ lo:Int} (hx:(hi_=gt u i/\lo=gt u k)\/(hi_=gt u k/\lo=gt u i)):Cls (rel u hi_ lo) n E':=by
 have g:∀ j,j<n->gt (rel u hi_ lo) j=if gt u j=hi_ then lo else gt u j:=λj hj=>gt_rel (by rw [hl];exact hj)
 refine ⟨λa b e ha hb=>?_,λS hS x y hx' hy' e=>?_⟩
 ·rw [g a ha,g b hb]
  rcases (hE a b).1 e with q | ⟨rfl,rfl⟩
  ·rw [h.sound a b q ha hb]
  ·rcases hx with ⟨q1,q2⟩ | ⟨q1,q2⟩ <;> subst q1 q2 <;> split <;> split <;> simp_all
 ·have hS0:∀ a b,E a b->(S a↔S b):=λa b q=>hS a b ((hE a b).2 (.inl q))
  have hik:S i↔S k:=hS i k ((hE i k).2 (.inr ⟨rfl,rfl⟩))
  have L:=h.least S hS0
  have toi:∀ z,z<n->(gt u z=hi_\/gt u z=lo)->(S z↔S i):=λz hz q=>by
   have:gt u z=gt u i\/gt u z=gt u k:=by
    rcases hx with ⟨q1,q2⟩ | ⟨q1,q2⟩ <;> rw [q1,q2] at q
    ·exact q
    ·exact q.symm
   rcases this with q | q
   ·exact L z i hz hi q
   ·exact (L z k hz hk q).trans hik.symm
  rw [g x hx',g y hy'] at e
  by_cases cx:gt u x=hi_ <;> by_cases cy:gt u y=hi_
  ·exact L x y hx' hy' (cx.trans cy.symm)
  ·rw [if_pos cx,if_neg cy] at e
   exact (toi x hx' (.inl cx)).trans (toi y hy' (.inr e.symm)).symm
  ·rw [if_neg cx,if_pos cy] at e
   exact (toi x hx' (.inr e)).trans (toi y hy' (.inl cy)).symm
  ·rw [if_neg cx,if_neg cy] at e
   exact L x y hx' hy' e
def rk (t:List Int):Nat->Nat
 | 0=>0
 | k+1=>rk t k+(bif gt t k==(k:Int) then 1 else 0)
def num (t:List Int) (n:Nat):List Int:=(List.range n).map λj=>((rk t (gt t j).toNat:Nat):Int)
theorem num_len (t:List Int) (n:Nat):(num t n).length=n:=by simp [num]
theorem num_succ (t:List Int) (n:Nat):num t (n+1)=num t n++[((rk t (gt t n).toNat:Nat):Int)]:=by simp [num,List.range_succ]
theorem gt_num {t:List Int} {n k:Nat} (h:k<n):gt (num t n) k=((rk t (gt t k).toNat:Nat):Int):=by
 have:=fE (l:=num t n) (n:=k) (by rw [num_len];exact h)
 unfold num at this ⊢
 rw [List.getElem?_map,List.getElem?_range h] at this
 exact (Option.some.inj this).symm
theorem rk_le (t:List Int):∀ k,rk t k<=k
 | 0=>Nat.le_refl _
 | k+1=>by have:=rk_le t k;unfold rk;cases gt t k==(k:Int) <;> simp <;> omega
theorem rk_mono (t:List Int) {a b:Nat} (h:a<=b):rk t a<=rk t b:=by
 induction h with
 | refl=>exact Nat.le_refl _
 | step _ ih=>exact Nat.le_trans ih (by rw [rk];omega)
theorem rk_root {t:List Int} {r k:Nat} (h:gt t r=(r:Int)) (hk:r<k):rk t r<rk t k:=by
 have:rk t (r+1)=rk t r+1:=by rw [rk,h];simp
 have:=rk_mono t (show r+1<=k by omega)
 omega
def rts (s t:List Int):Nat->List Int
 | 0=>[]
 | k+1=>bif gt t k==(k:Int) then rts s t k++[gt s k] else rts s t k
theorem rts_len (s t:List Int):∀ k,(rts s t k).length=rk t k
 | 0=>rfl
 | k+1=>by unfold rts rk;cases gt t k==(k:Int) <;> simp [rts_len s t k]
theorem rts_mem {s t:List Int} {n:Nat} (h:UF s t n):∀ k,k<=n->∀ i:Nat,i<n->(gt s i∈rts s t k↔(gt t i).toNat<k)
 | 0,_,i,hi=>by simp [rts]
 | k+1,hk,i,hi=>by
  obtain ⟨r,e1,e2,e3⟩:=h.low i hi
  have ih:=rts_mem h k (by omega) i hi
  have hrk:(gt t i).toNat=r:=by rw [e1];simp
  rw [hrk] at ih ⊢
  unfold rts
  cases hq:gt t k==(k:Int) with
  | true=>
   have hq:gt t k=(k:Int):=by simpa using hq
   rw [cond_true,List.mem_append,ih,List.mem_singleton,h.eq i k hi (by omega),e1,hq]
   omega
  | false=>
   have hq:gt t k≠(k:Int):=by simpa using hq
   rw [cond_false,ih]
   constructor
   ·omega
   ·intro q
    have:r≠k:=λe=>hq (by rw [e] at e3;exact e3)
    omega
theorem rts_idx {s t:List Int} {n:Nat} (h:UF s t n):∀ k,k<=n->∀ i:Nat,i<n->(gt t i).toNat<k->(rts s t k).idxOf (gt s i)=rk t (gt t i).toNat
 | 0,_,i,hi,hlt=>absurd hlt (Nat.not_lt_zero _)
 | k+1,hk,i,hi,hlt=>by
  obtain ⟨r,e1,e2,e3⟩:=h.low i hi
  have hrk:(gt t i).toNat=r:=by rw [e1];simp
  by_cases c:(gt t i).toNat<k
  ·have ih:=rts_idx h k (by omega) i hi c
   have hm:=(rts_mem h k (by omega) i hi).2 c
   unfold rts
   cases gt t k==(k:Int) with
   | true=>rw [cond_true,List.idxOf_append,if_pos hm,ih]
   | false=>rw [cond_false,ih]
  ·have hm:gt s i ∉ rts s t k:=λq=>c ((rts_mem h k (by omega) i hi).1 q)
   obtain rfl:r=k:=by omega
   have hs:gt s i=gt s r:=(h.eq i r hi (by omega)).2 (e1.trans e3.symm)
   unfold rts
   rw [e3,beq_self_eq_true,cond_true,List.idxOf_append,if_neg hm,hs,hrk,rts_len]
   simp
theorem nst_is {s t:List Int} {n:Nat} (h:UF s t n):∀ k,k<=n->nst s k=(rts s t k,num t k)
 | 0,_=>rfl
 | k+1,hk=>by
  have ih:=nst_is h k (by omega)
  have hks:k<n:=by omega
  have hg:s.getD k 0=gt s k:=rfl
  obtain ⟨r,e1,e2,e3⟩:=h.low k hks
  have hrk:(gt t k).toNat=r:=by rw [e1];simp
  unfold nst
  simp only [hg,ih]
  have hc:(rts s t k).contains (gt s k)=decide (r<k):=by
   have:=rts_mem h k (by omega) k hks
   rw [hrk] at this
   rw [Bool.eq_iff_iff,decide_eq_true_eq,<-this];simp
  rw [hc,num_succ]
  have hr:(bif decide (r<k) then rts s t k else rts s t k++[gt s k])=rts s t (k+1):=by
   conv=>rhs;unfold rts
   by_cases c:r<k
   ·rw [decide_eq_true c,cond_true,show (gt t k==(k:Int))=false by rw [e1];simp;omega,cond_false]
   ·rw [decide_eq_false c,cond_false,show (gt t k==(k:Int))=true by rw [e1];simp;omega,cond_true]
  rw [hr,rts_idx h (k+1) hk k hks (by omega)]
theorem nums_is {s t:List Int} {n:Nat} (h:UF s t n):jl s=num t n:=by
 unfold jl
 rw [h.ls,nst_is h n (Nat.le_refl _)]
theorem i_numbered {s t:List Int} {n:Nat} (h:UF s t n) (hn:n<=1000):ct.p F s=some (num t n):=by
 unfold ct.p
 rw [if_pos,nums_is h]
 refine ⟨by rw [h.ls];omega,?_⟩
 unfold wfs
 rw [List.all_eq_true]
 intro x hx
 obtain ⟨j,hj,rfl⟩:=mem_gt hx
 have:=h.sr j (by rw [<- h.ls];exact hj)
 have h3:IntKind.i64.min=-9223372036854775808:=by decide
 have h4:IntKind.i64.max=9223372036854775807:=by decide
 simp only [Lit.wf,Bool.and_eq_true,decide_eq_true_eq]
 omega
theorem max_l {t:List Int} {n:Nat} (hl:∀ i:Nat,i<n->∃ r:Nat,gt t i=(r:Int)/\r<=i/\gt t r=(r:Int)) (hn:n<=1000):∀ (m g i:Nat),n - i=m->m<g->1<=i->i<=n ->
  bu.pl61 F g (num t n) ((rk t i:Nat) - 1:Int) (i:Int)=some ((rk t n:Nat) - 1:Int):=by
 intro m
 induction m with
 | zero=>
  intro g i hm hg h1 hi
  obtain ⟨g,rfl⟩:∃ g',g=g'+1:=⟨g - 1,by omega⟩
  rw [bu.pl61,dF (by rw [num_len];omega),cond_false,show i=n by omega]
 | succ m ih=>
  intro g i hm hg h1 hi
  obtain ⟨g,rfl⟩:∃ g',g=g'+1:=⟨g - 1,by omega⟩
  rw [bu.pl61,dT (by rw [num_len];omega),cond_true,ixn (by rw [num_len];omega),Option.bind_some,gt_num (by omega),ws (by omega)]
  obtain ⟨r,e1,e2,e3⟩:=hl i (by omega)
  have hrk:(gt t i).toNat=r:=by rw [e1];simp
  rw [hrk]
  have key:(if ((rk t r:Nat):Int)>((rk t i:Nat):Int) - 1 then ((rk t r:Nat):Int) else ((rk t i:Nat):Int) - 1)=((rk t (i+1):Nat):Int) - 1:=by
   by_cases c:r=i
   ·subst c
    have:rk t (r+1)=rk t r+1:=by rw [rk,e3];simp
    rw [if_pos (by omega),this];omega
   ·have h5:rk t (i+1)=rk t i:=by rw [rk,show (gt t i==(i:Int))=false by rw [e1];simp;omega];rfl
    have:=rk_root e3 (show r<i by omega)
    rw [if_neg (by omega),h5]
  rw [key]
  exact ih g (i+1) (by omega) (by omega) (by omega) (by omega)
theorem i_classCount {t:List Int} {n:Nat} (hl:∀ i:Nat,i<n->∃ r:Nat,gt t i=(r:Int)/\r<=i/\gt t r=(r:Int)) (hn:n<=1000) (hF:2000<F):da.p F (num t n)=some ((rk t n:Nat):Int):=by
 unfold da.p
 rw [num_len]
 cases n with
 | zero=>simp [rk]
 | succ n=>
  rw [show (((n+1:Nat):Int)==0)=false by simp;omega,cond_false]
  unfold bu.p bu.pj1
  rw [num_len,decide_eq_false (by omega),cond_false,show (0:Int)=((0:Nat):Int) from rfl,ixn (by rw [num_len];omega),Option.bind_some,gt_num (by omega)]
  obtain ⟨r,e1,e2,e3⟩:=hl 0 (by omega)
  have h0:gt t 0=0:=by rw [e1];omega
  have:=max_l (F:=F) hl hn n F 1 (by omega) (by omega) (Nat.le_refl _) (by omega)
  have hr1:rk t 1=1:=by rw [rk,rk,h0];rfl
  rw [hr1] at this
  rw [h0]
  have this:bu.pl61 F F (num t (n+1)) (((rk t (0:Int).toNat:Nat):Int)) 1=_:=this
  have:=rk_le t (n+1)
  rw [‹bu.pl61 F F _ _ _=_›,Option.bind_some,bg (by omega) (by omega)]
  congr 1;omega
end Go.Proofs.Ytodfdhnlhiaohaa.AE.DD
end
section
namespace Go.Proofs.Ytodfdhnlhiaohaa.AE.DD
open Go Go.AE Go.Proofs
variable {F:Nat}
def RelTo (l0:List Int) (a b:Int) (k:Nat) (l:List Int):Prop:=l.length=l0.length/\(∀ j,j<k->gt l j=if gt l0 j=a then b else gt l0 j)/\(∀ j,k<=j->gt l j=gt l0 j)
theorem RelTo.start (l0:List Int) (a b:Int):RelTo l0 a b 0 l0:=⟨rfl,λj hj=>by omega,λj hj=>rfl⟩
theorem RelTo.fin {l0 l:List Int} {a b:Int} {k:Nat} (h:RelTo l0 a b k l) (hk:l0.length<=k):l=rel l0 a b:=by
 refine gext (by rw [rel_len];exact h.1) λn hn=>?_
 rw [gt_rel (by rw [<- h.1];exact hn),h.2.1 n (by have:=h.1;omega)]
theorem RelTo.hit {l0 l:List Int} {a b:Int} {k:Nat} (h:RelTo l0 a b k l) (hk:k<l0.length) (e:gt l k=a):RelTo l0 a b (k+1) (l.set k b):=by
 refine ⟨by rw [List.length_set];exact h.1,λj hj=>?_,λj hj=>?_⟩
 ·by_cases c:k=j
  ·subst c;rw [gset_eq (by rw [h.1];exact hk),if_pos (by rw [<- h.2.2 k (Nat.le_refl _)];exact e)]
  ·rw [gset_ne c];exact h.2.1 j (by omega)
 ·rw [gset_ne (by omega)];exact h.2.2 j (by omega)
theorem RelTo.miss {l0 l:List Int} {a b:Int} {k:Nat} (h:RelTo l0 a b k l) (e:gt l k≠a):RelTo l0 a b (k+1) l:=by
 refine ⟨h.1,λj hj=>?_,λj hj=>h.2.2 j (by omega)⟩
 by_cases c:j=k
 ·subst c;rw [if_neg (by rw [<- h.2.2 j (Nat.le_refl _)];exact e)];exact h.2.2 j (Nat.le_refl _)
 ·exact h.2.1 j (by omega)
theorem union_l {l0:List Int} {a b:Int} (hl:l0.length<=1000):∀ (m g k:Nat) (l:List Int),l0.length - k=m->m<g->k<=l0.length->RelTo l0 a b k l ->
  bf.pl7 F g l a b ((l0.length:Nat):Int) (k:Int)=some (rel l0 a b):=by
 intro m
 induction m with
 | zero=>
  intro g k l hm hg hk h
  obtain ⟨g,rfl⟩:∃ g',g=g'+1:=⟨g - 1,by omega⟩
  rw [bf.pl7,dF (by omega),cond_false,h.fin (by omega)]
 | succ m ih=>
  intro g k l hm hg hk h
  obtain ⟨g,rfl⟩:∃ g',g=g'+1:=⟨g - 1,by omega⟩
  rw [bf.pl7,dT (by omega),cond_true,ixn (by rw [h.1];omega),Option.bind_some]
  unfold bf.pj2
  rw [ws (by omega)]
  by_cases e:gt l k=a
  ·rw [show (gt l k==a)=true by simpa using e,cond_true,Option.bind_some,Option.bind_some]
   exact ih g (k+1) _ (by omega) (by omega) (by omega) (h.hit (by omega) e)
  ·rw [show (gt l k==a)=false by simpa using e,cond_false]
   exact ih g (k+1) _ (by omega) (by omega) (by omega) (h.miss e)
theorem i_union {s:List Int} {i k:Nat} (hi:i<s.length) (hk:k<s.length) (hl:s.length<=1000) (hF:2000<F):bf.p F s (i:Int) (k:Int)=some (rel s (gt s k) (gt s i)):=by
 unfold bf.p
 rw [ixn hk,Option.bind_some,ixn hi,Option.bind_some]
 exact union_l hl s.length F 0 s (by omega) (by omega) (by omega) (.start _ _ _)
theorem counting_l {n:Nat} (hn:n<=1000):∀ (m g k:Nat),n - k=m->m<g->k<=n->bB.pl29 F g (cntg k) (n:Int) (k:Int)=some (cntg n):=by
 intro m
 induction m with
 | zero=>
  intro g k hm hg hk
  obtain ⟨g,rfl⟩:∃ g',g=g'+1:=⟨g - 1,by omega⟩
  rw [bB.pl29,dF (by omega),cond_false,show k=n by omega]
 | succ m ih=>
  intro g k hm hg hk
  obtain ⟨g,rfl⟩:∃ g',g=g'+1:=⟨g - 1,by omega⟩
  rw [bB.pl29,dT (by omega),cond_true,apn_of (by rw [cntg_len];simp;omega),Option.bind_some,ws (by omega),<-cntg_succ]
  exact ih g (k+1) (by omega) (by omega) (by omega)
theorem i_counting {n:Nat} (hn:n<=1000) (hF:2000<F):bB.p F (n:Int)=some (cntg n):=by
 unfold bB.p
 exact counting_l hn n F 0 (by omega) (by omega) (by omega)
theorem ifmax (x y:Int):(if y>x then y else x)=max x y:=by
 rw [Int.max_def];split <;> split <;> omega
theorem ifmin (x y:Int):(if y<x then y else x)=min x y:=by
 rw [Int.min_def];split <;> split <;> omega
theorem sparts_in {C:List Cr->List Int->Int->Option (List Int)} {D:List Cr} {y5:Nat} {x y:Int} {l0:List Int} (hl:l0.length<=1000) (hy:y5<=1000):∀ (m g k:Nat) (l:List Int),l0.length - k=m->m<g->k<=l0.length->RelTo l0 (max x y) (min x y) k l ->
  av.pl7855 F C g D l (y5:Int) x y (k:Int)=C D (rel l0 (max x y) (min x y)) ((y5+1:Nat):Int):=by
 intro m
 induction m with
 | zero=>
  intro g k l hm hg hk h
  obtain ⟨g,rfl⟩:∃ g',g=g'+1:=⟨g - 1,by omega⟩
  rw [av.pl7855,dF (by rw [h.1];omega),cond_false,h.fin (by omega)]
  unfold av.pj7 av.pj6
  rw [ws (by omega)]
 | succ m ih=>
  intro g k l hm hg hk h
  obtain ⟨g,rfl⟩:∃ g',g=g'+1:=⟨g - 1,by omega⟩
  rw [av.pl7855,dT (by rw [h.1];omega),cond_true,ixn (by rw [h.1];omega),Option.bind_some,ifmax,ifmin]
  unfold av.pj8
  rw [ws (by omega)]
  by_cases e:gt l k=max x y
  ·rw [show (gt l k==max x y)=true by simpa using e,cond_true,Option.bind_some,Option.bind_some]
   exact ih g (k+1) _ (by omega) (by omega) (by omega) (h.hit (by omega) e)
  ·rw [show (gt l k==max x y)=false by simpa using e,cond_false]
   exact ih g (k+1) _ (by omega) (by omega) (by omega) (h.miss e)
theorem fr_get {D:List Cr} {t:Tb} (h:TB D t) {a:Nat} (ha:a<2 * D.length):∃ i p:Nat,gt t.1 a=((i:Int),(p:Int))/\i<D.length/\p<4:=by
 obtain ⟨i,p,q1,q2,_,_,q5⟩:=h.fr.get a ha;exact ⟨i,p,q5,q1,q2⟩
theorem to_get {D:List Cr} {t:Tb} (h:TB D t) {a:Nat} (ha:a<2 * D.length):∃ i p:Nat,gt t.2 a=((i:Int),(p:Int))/\i<D.length/\p<4:=by
 obtain ⟨i,p,q1,q2,_,_,q5⟩:=h.to_.get a ha;exact ⟨i,p,q5,q1,q2⟩
def Ep (t:Tb) (k:Nat) (a b:Nat):Prop:=∃ x:Nat,x<k/\(gt t.1 x).1=(a:Int)/\(gt t.2 x).1=(b:Int)
theorem parts_l {D:List Cr} {t:Tb} (h:TB D t) (hD:D.length<=30) (hF:5000<F):∀ (m g k:Nat) (s u:List Int),2 * D.length - k=m->m<g->k<=2 * D.length->UF s u D.length->Cls u D.length (Ep t k) ->
  ∃ s' u',UF s' u' D.length/\Cls u' D.length (Ep t (2 * D.length))/\bx.pl29 F g t.1 t.2 s ((2 * D.length:Nat):Int) (k:Int)=some (num u' D.length)/\av.pl61 F g D u (k:Int)=some u':=by
 intro m
 induction m with
 | zero=>
  intro g k s u hm hg hk hu hc
  obtain ⟨g,rfl⟩:∃ g',g=g'+1:=⟨g - 1,by omega⟩
  refine ⟨s,u,hu,by rw [show 2 * D.length=k by omega];exact hc,?_,?_⟩
  ·rw [bx.pl29,dF (by omega),cond_false,i_numbered hu (by omega),Option.bind_some]
  ·rw [av.pl61,show (2:Int) * (D.length:Int)=((2 * D.length:Nat):Int) by omega,wn (by omega),dF (by omega),cond_false]
 | succ m ih=>
  intro g k s u hm hg hk hu hc
  obtain ⟨g,rfl⟩:∃ g',g=g'+1:=⟨g - 1,by omega⟩
  have hkl:k<2 * D.length:=by omega
  obtain ⟨i,p,e1,hi,_⟩:=fr_get h hkl
  obtain ⟨j,q,e2,hj,_⟩:=to_get h hkl
  have hu':=hu.union hi hj (hi_:=max (gt u j) (gt u i)) (lo:=min (gt u j) (gt u i)) (by omega) (by omega)
  have hc':=hc.union hu.lt hi hj (E':=Ep t (k+1)) (λa b=>by
   constructor
   ·rintro ⟨x,hx,a1,a2⟩
    by_cases e:x=k
    ·subst e;rw [e1] at a1;rw [e2] at a2;exact .inr ⟨by simp only at a1;omega,by simp only at a2;omega⟩
    ·exact .inl ⟨x,by omega,a1,a2⟩
   ·rintro (⟨x,hx,a1,a2⟩ | ⟨rfl,rfl⟩)
    ·exact ⟨x,by omega,a1,a2⟩
    ·exact ⟨k,by omega,by rw [e1],by rw [e2]⟩) (hi_:=max (gt u j) (gt u i)) (lo:=min (gt u j) (gt u i)) (by omega)
  obtain ⟨s',u',q1,qc,q2,q3⟩:=ih g (k+1) _ _ (by omega) (by omega) (by omega) hu' hc'
  refine ⟨s',u',q1,qc,?_,?_⟩
  ·rw [bx.pl29,dT hkl,cond_true,ixn (by rw [h.fr.len];exact hkl),Option.bind_some,ixn (by rw [h.to_.len];exact hkl),Option.bind_some,e1,e2]
   simp only
   rw [i_union (by rw [hu.ls];exact hi) (by rw [hu.ls];exact hj) (by rw [hu.ls];omega) (by omega),Option.bind_some,ws (by omega)]
   exact q2
  ·rw [av.pl61,show (2:Int) * (D.length:Int)=((2 * D.length:Nat):Int) by omega,wn (by omega),dT hkl,cond_true,place_of h.sg h.to_ hkl hD (by omega),Option.bind_some,place_of h.sg h.fr hkl hD (by omega),Option.bind_some,e1,e2]
   simp only
   rw [ixn (by rw [hu.lt];exact hj),Option.bind_some,ixn (by rw [hu.lt];exact hi),Option.bind_some]
   have:=sparts_in (F:=F) (C:=av.pl61 F g) (D:=D) (y5:=k) (x:=gt u j) (y:=gt u i) (l0:=u) (by rw [hu.lt];omega) (by omega) u.length F 0 u (by omega) (by rw [hu.lt];omega) (by omega) (.start _ _ _)
   have this:av.pl7855 F (av.pl61 F g) F D u (k:Int) (gt u j) (gt u i) 0=_:=this
   rw [this]
   exact q3
theorem sparts_start {D:List Cr} (hD:D.length<=30):∀ (m g k:Nat),D.length - k=m->m<g->k<=D.length->av.pl29 F g D (cntg k) (k:Int)=av.pl61 F F D (cntg D.length) 0:=by
 intro m
 induction m with
 | zero=>
  intro g k hm hg hk
  obtain ⟨g,rfl⟩:∃ g',g=g'+1:=⟨g - 1,by omega⟩
  rw [av.pl29,dF (by omega),cond_false,show k=D.length by omega]
  rfl
 | succ m ih=>
  intro g k hm hg hk
  obtain ⟨g,rfl⟩:∃ g',g=g'+1:=⟨g - 1,by omega⟩
  rw [av.pl29,dT (by omega),cond_true,apn_of (by rw [cntg_len];simp;omega),Option.bind_some,ws (by omega),<-cntg_succ]
  exact ih g (k+1) (by omega) (by omega) (by omega)
theorem parts_both {D:List Cr} {t:Tb} (h:TB D t) (hD:D.length<=30) (hF:5000<F):∃ s u,UF s u D.length/\Cls u D.length (Ep t (2 * D.length))/\bx.p F D t.1 t.2=some (num u D.length)/\av.p F D=some u:=by
 obtain ⟨s,u,q1,qc,q2,q3⟩:=parts_l h hD hF (2 * D.length) F 0 (cntg D.length) (cntg D.length) (by omega) (by omega) (by omega) (UF.start _) (by
  have:=Cls.start D.length
  rw [show (λ_ _=>False)=Ep t 0 from by funext a b;exact propext ⟨λq=>q.elim,λ⟨x,hx,_⟩=>absurd hx (Nat.not_lt_zero _)⟩] at this
  exact this)
 refine ⟨s,u,q1,qc,?_,?_⟩
 ·unfold bx.p cl.p
  rw [Option.bind_some,i_counting (by omega) (by omega),Option.bind_some,h.fr.len]
  exact q2
 ·unfold av.p
  have:=sparts_start (F:=F) hD D.length F 0 (by omega) (by omega) (by omega)
  exact this.trans q3
theorem pcount_l {u:List Int} (hn:u.length<=1000):∀ (m g k:Nat),u.length - k=m->m<g->k<=u.length->bj.pl61 F g ((rk u k:Nat):Int) u (k:Int)=some ((rk u u.length:Nat):Int):=by
 intro m
 induction m with
 | zero=>
  intro g k hm hg hk
  obtain ⟨g,rfl⟩:∃ g',g=g'+1:=⟨g - 1,by omega⟩
  rw [bj.pl61,dF (by omega),cond_false,show k=u.length by omega]
 | succ m ih=>
  intro g k hm hg hk
  obtain ⟨g,rfl⟩:∃ g',g=g'+1:=⟨g - 1,by omega⟩
  have:=rk_le u k
  rw [bj.pl61,dT (by omega),cond_true,ixn (by omega),Option.bind_some]
  unfold bj.pj2
  rw [ws (i:=k) (by omega),ws (by omega)]
  have:=ih g (k+1) (by omega) (by omega) (by omega)
  rw [rk] at this
  cases hb:gt u k==(k:Int) with
  | true=>rw [hb] at this;rw [cond_true];exact this
  | false=>rw [hb] at this;rw [cond_false];exact this
end Go.Proofs.Ytodfdhnlhiaohaa.AE.DD
end
section
namespace Go.Proofs.Ytodfdhnlhiaohaa.AE.DD
open Go Go.AE Go.Proofs
variable {F:Nat}
theorem sgn_l {D:List Cr} (hD:D.length<=1000):∀ (m g k:Nat),D.length - k=m->m<g->k<=D.length ->
  ∃ r:Int,bJ.pl13 F g D (D.length:Int) (k:Int)=some r/\(r>=0↔¬ ∀ x∈D.drop k,SgOk x):=by
 intro m
 induction m with
 | zero=>
  intro g k hm hg hk
  obtain ⟨g,rfl⟩:∃ g',g=g'+1:=⟨g - 1,by omega⟩
  refine ⟨-1,?_,?_⟩
  ·rw [bJ.pl13,dF (by omega),cond_false]
  ·rw [List.drop_eq_nil_of_le (by omega)];simp
 | succ m ih=>
  intro g k hm hg hk
  obtain ⟨g,rfl⟩:∃ g',g=g'+1:=⟨g - 1,by omega⟩
  have hlt:k<D.length:=by omega
  rw [bJ.pl13,dT hlt,cond_true,ixn hlt,Option.bind_some,drop_cons hlt]
  unfold eT.p
  by_cases c:SgOk (gt D k)
  ·have:(bif ((gt D k).2.2.2.2 != 1) then (some ((gt D k).2.2.2.2 != (-1))) else (some false))=some false:=by
    have c':sg (gt D k)=1\/sg (gt D k)=-1:=c
    unfold sg at c'
    rcases c' with e | e <;> rw [e] <;> rfl
   rw [this,Option.bind_some,cond_false,ws (by omega)]
   obtain ⟨r,q1,q2⟩:=ih g (k+1) (by omega) (by omega) (by omega)
   refine ⟨r,q1,q2.trans (not_congr ?_)⟩
   constructor
   ·exact λa=>List.forall_mem_cons.2 ⟨c,a⟩
   ·exact λa=>(List.forall_mem_cons.1 a).2
  ·have:(bif ((gt D k).2.2.2.2 != 1) then (some ((gt D k).2.2.2.2 != (-1))) else (some false))=some true:=by
    have c':¬ (sg (gt D k)=1\/sg (gt D k)=-1):=c
    unfold sg at c'
    rw [show ((gt D k).2.2.2.2 != 1)=true by simp;omega,cond_true,show ((gt D k).2.2.2.2 != -1)=true by simp;omega]
   rw [this,Option.bind_some,cond_true]
   refine ⟨(k:Int),rfl,⟨λ_ a=>c (List.forall_mem_cons.1 a).1,λ_=>by omega⟩⟩
theorem sgn_all {D:List Cr} (hD:D.length<=1000) (hF:2000<F):et.p F D=some (decide (¬ ∀ x∈D,SgOk x)):=by
 unfold et.p bJ.p
 obtain ⟨r,q1,q2⟩:=sgn_l (F:=F) hD D.length F 0 (by omega) (by omega) (by omega)
 have q1:bJ.pl13 F F D (D.length:Int) 0=some r:=q1
 rw [q1,Option.bind_some]
 rw [List.drop_zero] at q2
 congr 1
 exact decide_eq_decide.2 q2
structure DG (F:Nat) (D:List Cr) (c:Int) (t:Tb) (R:List (List Int)) (s u:List Int):Prop where
 len:D.length<=10
 c0:0<=c
 c8:c<=8
 tb:TB D t
 rg:Rg D t R
 sR:aF.p F D=some R
 iR:aD.p F D t.1 t.2=some R
 uf:UF s u D.length
 cls:Cls u D.length (Ep t (2 * D.length))
 iP:bx.p F D t.1 t.2=some (num u D.length)
 sP:av.p F D=some u
 euler:R.length=D.length+2 * rk u D.length
 draw:cH.p F D c=some (t.1,t.2,true)
theorem partCount {D:List Cr} {u:List Int} (hu:u.length<=1000) (hF:2000<F) (e:av.p F D=some u):bj.p F D=some ((rk u u.length:Nat):Int):=by
 unfold bj.p
 rw [e,Option.bind_some]
 exact pcount_l (F:=F) hu u.length F 0 (by omega) (by omega) (by omega)
theorem isDr {D:List Cr} {c:Int} (hl:D.length<=2000000) (hF:5000000<F) :
  (dz.p F D c=some false/\∃ x y,cH.p F D c=some (x,y,false))\/(dz.p F D c=some true/\∃ t R s u,DG F D c t R s u):=by
 unfold dz.p
 by_cases h1:D.length<=10
 ·rw [decide_eq_false (by omega),cond_false,Ir,Option.bind_some]
  by_cases h2:0<=c/\c<=8
  ·rw [decide_eq_true h2,Bool.not_true,cond_false]
   obtain ⟨b,q1,q2⟩:=counts_whole (F:=F) (D:=D) (by omega) (by omega)
   rw [q1,Option.bind_some]
   by_cases hs:∀ x∈D,SgOk x
   ·rcases arrows_whole (F:=F) (by omega) hs (by omega) with ⟨e,x,y,r⟩ | ⟨t,e,r⟩
    ·left
     have hb:b=false:=by
      cases b with
      | false=>rfl
      | true=>obtain ⟨_,t,e'⟩:=q2.1 rfl;rw [e] at e';cases e'
     subst hb
     refine ⟨rfl,[],[],?_⟩
     unfold cH.p cl.p
     rw [Option.bind_some,decide_eq_false (by omega),cond_false,oR,Option.bind_some,decide_eq_true h2,Bool.not_true,cond_false,sgn_all (by omega) (by omega),Option.bind_some,decide_eq_false (λq=>q hs),cond_false,r,Option.bind_some]
     rfl
    ·have hb:b=true:=q2.2 ⟨hs,t,e⟩
     subst hb
     have tb:=run_TB hs e
     obtain ⟨R,rg,e1,e2⟩:=regions_both (F:=F) tb (by omega) (by omega)
     obtain ⟨s,u,uf,cls,e3,e4⟩:=parts_both (F:=F) tb (by omega) (by omega)
     have hRl:=rg.le
     have hk:=rk_le u D.length
     rw [Bool.not_true,cond_false,e1,Option.bind_some,partCount (by rw [uf.lt];omega) (by omega) e4,Option.bind_some,uf.lt,bg (x:=2 * ((rk u D.length:Nat):Int)) (by omega) (by omega),bg (by omega) (by omega)]
     have hd:cH.p F D c=(bif ((R.length:Int) != (D.length:Int)+2 * ((rk u D.length:Nat):Int)) then (some (([]:List (Int×Int)),([]:List (Int×Int)),false)) else (some (t.1,t.2,true))):=by
      unfold cH.p cl.p
      rw [Option.bind_some,decide_eq_false (by omega),cond_false,oR,Option.bind_some,decide_eq_true h2,Bool.not_true,cond_false,sgn_all (by omega) (by omega),Option.bind_some,decide_eq_false (λq=>q hs),cond_false,r,Option.bind_some]
      simp only [Bool.not_true,cond_false]
      rw [e2,Option.bind_some]
      unfold fy.p
      rw [Option.bind_some,e3,Option.bind_some,i_classCount uf.low (by omega) (by omega),Option.bind_some,bg (x:=2 * ((rk u D.length:Nat):Int)) (by omega) (by omega),bg (by omega) (by omega)]
     by_cases he:R.length=D.length+2 * rk u D.length
     ·right
      refine ⟨by congr 1;simp;omega,t,R,s,u,⟨h1,h2.1,h2.2,tb,rg,e1,e2,uf,cls,e3,e4,he,?_⟩⟩
      rw [hd,show ((R.length:Int) != (D.length:Int)+2 * ((rk u D.length:Nat):Int))=false by simp;omega,cond_false]
     ·left
      refine ⟨by congr 1;simp;omega,[],[],?_⟩
      rw [hd,show ((R.length:Int) != (D.length:Int)+2 * ((rk u D.length:Nat):Int))=true by simp;omega,cond_true]
   ·left
    have hb:b=false:=by
     cases b with
     | false=>rfl
     | true=>exact absurd (q2.1 rfl).1 hs
    subst hb
    refine ⟨rfl,[],[],?_⟩
    unfold cH.p cl.p
    rw [Option.bind_some,decide_eq_false (by omega),cond_false,oR,Option.bind_some,decide_eq_true h2,Bool.not_true,cond_false,sgn_all (by omega) (by omega),Option.bind_some,decide_eq_true hs,cond_true]
  ·left
   rw [decide_eq_false h2,Bool.not_false,cond_true]
   refine ⟨rfl,[],[],?_⟩
   unfold cH.p cl.p
   rw [Option.bind_some,decide_eq_false (by omega),cond_false,oR,Option.bind_some,decide_eq_false h2,Bool.not_false,cond_true]
 ·left
  rw [decide_eq_true (by omega),cond_true]
  refine ⟨rfl,[],[],?_⟩
  unfold cH.p cl.p
  rw [Option.bind_some,decide_eq_true (by omega),cond_true]
end Go.Proofs.Ytodfdhnlhiaohaa.AE.DD
end
section
namespace Go.Proofs.Ytodfdhnlhiaohaa.AE.DD
open Go Go.AE Go.Proofs
variable {F:Nat}
theorem isD {D:List Cr} {c:Int} (hl:D.length<=2000000) (hF:5000000<F) :
  (dz.p F D c=some false/\dX.p F D c=some false/\∃ x y,cH.p F D c=some (x,y,false)) \/
  (dz.p F D c=some true/\dX.p F D c=some true/\∃ t R s u,DG F D c t R s u):=by
 have key:=isDr (F:=F) (c:=c) hl hF
 rcases key with ⟨a,x,y,e⟩ | ⟨a,t,R,s,u,h⟩
 ·left
  refine ⟨a,?_,x,y,e⟩
  unfold dX.p
  rw [e,Option.bind_some]
 ·right
  refine ⟨a,?_,t,R,s,u,h⟩
  unfold dX.p
  rw [h.draw,Option.bind_some]
end Go.Proofs.Ytodfdhnlhiaohaa.AE.DD
end
section
namespace Go.Proofs.Ytodfdhnlhiaohaa.AE.DD
open Go Go.AE Go.Proofs
variable {F:Nat}
theorem en_at {D:List Cr} {t:Tb} (h:TB D t) {i p:Nat} (hi:i<D.length) (hp:p<4):∃ a:Nat,en (gt D i) p=(a:Int)/\a<2 * D.length:=by
 cases he:ent (gt D i) p with
 | true=>obtain ⟨h0,h1,_⟩:=h.to_.put i p hi hp he;exact ⟨(en (gt D i) p).toNat,by omega,by omega⟩
 | false=>obtain ⟨h0,h1,_⟩:=h.fr.put i p hi hp he;exact ⟨(en (gt D i) p).toNat,by omega,by omega⟩
theorem spass_in {C:List Cr->Int->List Int->Int->Option (List Int×Int)} {D:List Cr} {c:Int} {y6:Nat} {x y:Int} {l0:List Int} (hl:l0.length<=1000) (hy:y6<=1000):∀ (m g k:Nat) (l:List Int),l0.length - k=m->m<g->k<=l0.length->RelTo l0 (max x y) (min x y) k l ->
  ak.pl1963 F C g D c l (y6:Int) x y (k:Int)=C D c (rel l0 (max x y) (min x y)) ((y6+1:Nat):Int):=by
 intro m
 induction m with
 | zero=>
  intro g k l hm hg hk h
  obtain ⟨g,rfl⟩:∃ g',g=g'+1:=⟨g - 1,by omega⟩
  rw [ak.pl1963,dF (by rw [h.1];omega),cond_false,h.fin (by omega)]
  unfold ak.pj11 ak.pj10
  rw [ws (by omega)]
 | succ m ih=>
  intro g k l hm hg hk h
  obtain ⟨g,rfl⟩:∃ g',g=g'+1:=⟨g - 1,by omega⟩
  rw [ak.pl1963,dT (by rw [h.1];omega),cond_true,ixn (by rw [h.1];omega),Option.bind_some,ifmax,ifmin]
  unfold ak.pj12
  rw [ws (by omega)]
  by_cases e:gt l k=max x y
  ·rw [show (gt l k==max x y)=true by simpa using e,cond_true,Option.bind_some,Option.bind_some]
   exact ih g (k+1) _ (by omega) (by omega) (by omega) (h.hit (by omega) e)
  ·rw [show (gt l k==max x y)=false by simpa using e,cond_false]
   exact ih g (k+1) _ (by omega) (by omega) (by omega) (h.miss e)
theorem spass_num {c:Int} {u:List Int} {n:Nat} (hn:n<=1000) (hu:u.length=n) (hl:∀ i:Nat,i<n->∃ r:Nat,gt u i=(r:Int)/\r<=i/\gt u r=(r:Int)) (hc:0<=c) (hc8:c<=1000):∀ (m g k:Nat),n - k=m->m<g->k<=n ->
  ak.pl509 F g c u (num u k) ((rk u k:Nat):Int) (k:Int)=some (num u n,((rk u n:Nat):Int)+c):=by
 intro m
 induction m with
 | zero=>
  intro g k hm hg hk
  obtain ⟨g,rfl⟩:∃ g',g=g'+1:=⟨g - 1,by omega⟩
  have:=rk_le u n
  rw [ak.pl509,dF (by omega),cond_false]
  unfold ak.pj6
  rw [show k=n by omega,bg (by omega) (by omega)]
 | succ m ih=>
  intro g k hm hg hk
  obtain ⟨g,rfl⟩:∃ g',g=g'+1:=⟨g - 1,by omega⟩
  have:=rk_le u k
  obtain ⟨r,e1,e2,e3⟩:=hl k (by omega)
  have hrk:(gt u k).toNat=r:=by rw [e1];simp
  rw [ak.pl509,dT (by omega),cond_true,ixn (by omega),Option.bind_some]
  have ih:=ih g (k+1) (by omega) (by omega) (by omega)
  rw [num_succ,hrk,rk] at ih
  unfold ak.pj7
  rw [ws (i:=k) (by omega),ws (by omega)]
  by_cases c1:r=k
  ·subst c1
   rw [e3,beq_self_eq_true,cond_true,apn_of (by rw [num_len];simp;omega),Option.bind_some]
   rw [e3,beq_self_eq_true,cond_true] at ih
   exact ih
  ·rw [e1,show ((r:Int)==(k:Int))=false by simp;omega,cond_false,Option.bind_some,e1,ixn (by rw [num_len];omega),Option.bind_some,gt_num (by omega),e3,Int.toNat_natCast,apn_of (by rw [num_len];simp;omega),Option.bind_some]
   rw [e1,show ((r:Int)==(k:Int))=false by simp;omega,cond_false,Nat.add_zero] at ih
   exact ih
def Eo (D:List Cr) (k:Nat) (a b:Nat):Prop:=∃ x:Nat,x<k/\en (gt D x) 1=(a:Int)/\en (gt D x) 3=(b:Int)
theorem pass_l {D:List Cr} {t:Tb} {c:Int} (h:TB D t) (hD:D.length<=30) (hF:5000<F) (hc:0<=c) (hc8:c<=1000):∀ (m g k:Nat) (s u:List Int),D.length - k=m->m<g->k<=D.length->UF s u (2 * D.length)->Cls u (2 * D.length) (Eo D k) ->
  ∃ s' u',UF s' u' (2 * D.length)/\Cls u' (2 * D.length) (Eo D D.length)/\ba.pl29 F g D c s (D.length:Int) (k:Int)=some (num u' (2 * D.length),((rk u' (2 * D.length):Nat):Int)+c) /\
   ak.pl61 F g D c u (k:Int)=some (num u' (2 * D.length),((rk u' (2 * D.length):Nat):Int)+c):=by
 intro m
 induction m with
 | zero=>
  intro g k s u hm hg hk hu hcl
  obtain ⟨g,rfl⟩:∃ g',g=g'+1:=⟨g - 1,by omega⟩
  have:=rk_le u (2 * D.length)
  refine ⟨s,u,hu,by rw [show D.length=k by omega] at hcl ⊢;exact hcl,?_,?_⟩
  ·rw [ba.pl29,dF (by omega),cond_false]
   unfold ba.pj1
   rw [i_numbered hu (by omega),Option.bind_some,i_classCount hu.low (by omega) (by omega),Option.bind_some,bg (by omega) (by omega)]
  ·rw [ak.pl61,dF (by omega),cond_false]
   unfold ak.pj8
   exact spass_num (by omega) hu.lt hu.low hc hc8 (2 * D.length) F 0 (by omega) (by omega) (by omega)
 | succ m ih=>
  intro g k s u hm hg hk hu hcl
  obtain ⟨g,rfl⟩:∃ g',g=g'+1:=⟨g - 1,by omega⟩
  have hkl:k<D.length:=by omega
  obtain ⟨i,e1,hi⟩:=en_at h hkl (show 1<4 by decide)
  obtain ⟨j,e2,hj⟩:=en_at h hkl (show 3<4 by decide)
  have f1:(gt D k).2.1=(i:Int):=e1
  have f2:(gt D k).2.2.2.1=(j:Int):=e2
  have hu':=hu.union hi hj (hi_:=max (gt u i) (gt u j)) (lo:=min (gt u i) (gt u j)) (by omega) (by omega)
  have hc':=hcl.union hu.lt hi hj (E':=Eo D (k+1)) (λa b=>by
   constructor
   ·rintro ⟨x,hx,a1,a2⟩
    by_cases e:x=k
    ·subst e;rw [e1] at a1;rw [e2] at a2;exact .inr ⟨by omega,by omega⟩
    ·exact .inl ⟨x,by omega,a1,a2⟩
   ·rintro (⟨x,hx,a1,a2⟩ | ⟨rfl,rfl⟩)
    ·exact ⟨x,by omega,a1,a2⟩
    ·exact ⟨k,by omega,e1,e2⟩) (hi_:=max (gt u i) (gt u j)) (lo:=min (gt u i) (gt u j)) (by omega)
  obtain ⟨s',u',q1,qc,q2,q3⟩:=ih g (k+1) _ _ (by omega) (by omega) (by omega) hu' hc'
  refine ⟨s',u',q1,qc,?_,?_⟩
  ·rw [ba.pl29,dT hkl,cond_true,ixn hkl,Option.bind_some,f1,f2,i_union (by rw [hu.ls];exact hi) (by rw [hu.ls];exact hj) (by rw [hu.ls];omega) (by omega),Option.bind_some,ws (by omega)]
   exact q2
  ·rw [ak.pl61,dT hkl,cond_true,ixn hkl]
   simp only [Option.bind_some,f1,f2]
   rw [ixn (by rw [hu.lt];exact hi),Option.bind_some,ixn (by rw [hu.lt];exact hj),Option.bind_some]
   have:=spass_in (F:=F) (C:=ak.pl61 F g) (D:=D) (c:=c) (y6:=k) (x:=gt u i) (y:=gt u j) (l0:=u) (by rw [hu.lt];omega) (by omega) u.length F 0 u (by omega) (by rw [hu.lt];omega) (by omega) (.start _ _ _)
   have this:ak.pl1963 F (ak.pl61 F g) F D c u (k:Int) (gt u i) (gt u j) 0=_:=this
   rw [this]
   exact q3
theorem spass_start {D:List Cr} {c:Int} (hD:D.length<=30):∀ (m g k:Nat),2 * D.length - k=m->m<g->k<=2 * D.length->ak.pl29 F g D c (cntg k) (k:Int)=ak.pl61 F F D c (cntg (2 * D.length)) 0:=by
 intro m
 induction m with
 | zero=>
  intro g k hm hg hk
  obtain ⟨g,rfl⟩:∃ g',g=g'+1:=⟨g - 1,by omega⟩
  rw [ak.pl29,show (2:Int) * (D.length:Int)=((2 * D.length:Nat):Int) by omega,wn (by omega),dF (by omega),cond_false,show k=2 * D.length by omega]
  rfl
 | succ m ih=>
  intro g k hm hg hk
  obtain ⟨g,rfl⟩:∃ g',g=g'+1:=⟨g - 1,by omega⟩
  rw [ak.pl29,show (2:Int) * (D.length:Int)=((2 * D.length:Nat):Int) by omega,wn (by omega),dT (by omega),cond_true,apn_of (by rw [cntg_len];simp;omega),Option.bind_some,ws (by omega),<-cntg_succ]
  exact ih g (k+1) (by omega) (by omega) (by omega)
structure OV (F:Nat) (D:List Cr) (c:Int) (u:List Int):Prop where
 uf:∃ s,UF s u (2 * D.length)
 cls:Cls u (2 * D.length) (Eo D D.length)
 i:ba.p F D c=some (num u (2 * D.length),((rk u (2 * D.length):Nat):Int)+c)
 s:ak.p F D c=some (num u (2 * D.length),((rk u (2 * D.length):Nat):Int)+c)
theorem overpasses_both {D:List Cr} {t:Tb} {c:Int} (h:TB D t) (hD:D.length<=30) (hF:5000<F) (hc:0<=c) (hc8:c<=1000):∃ u,OV F D c u:=by
 obtain ⟨s,u,q1,qc,q2,q3⟩:=pass_l h hD hF hc hc8 D.length F 0 (cntg (2 * D.length)) (cntg (2 * D.length)) (by omega) (by omega) (by omega) (UF.start _) (by
  have:=Cls.start (2 * D.length)
  rw [show (λ_ _=>False)=Eo D 0 from by funext a b;exact propext ⟨λq=>q.elim,λ⟨x,hx,_⟩=>absurd hx (Nat.not_lt_zero _)⟩] at this
  exact this)
 refine ⟨u,⟨s,q1⟩,qc,?_,?_⟩
 ·unfold ba.p cl.p
  rw [Option.bind_some,show (2:Int) * (D.length:Int)=((2 * D.length:Nat):Int) by omega,wn (by omega),i_counting (by omega) (by omega),Option.bind_some]
  exact q2
 ·unfold ak.p
  have:=spass_start (F:=F) (c:=c) hD (2 * D.length) F 0 (by omega) (by omega) (by omega)
  exact this.trans q3
end Go.Proofs.Ytodfdhnlhiaohaa.AE.DD
end
section
namespace Go.Proofs.Ytodfdhnlhiaohaa.AE
open Go Go.AE Go.Proofs
variable {F:Nat}
section
variable {α:Type} [Inhabited α]
theorem ga_lt {l:List α} {x:α} {i:Nat} (h:i<l.length):gt (l++[x]) i=gt l i:=by
 unfold gt;rw [List.getD_eq_getElem?_getD,List.getD_eq_getElem?_getD,List.getElem?_append_left h]
theorem ga_eq {l:List α} {x:α}:gt (l++[x]) l.length=x:=by
 unfold gt;rw [List.getD_eq_getElem?_getD,List.getElem?_append_right (Nat.le_refl _),Nat.sub_self];rfl
end
theorem apn1 {α:Type} {l:List α} {x:α} (h:l.length<=1000000):apn l [x]=some (l++[x]):=by unfold apn;rw [if_pos (by simp;omega)]
theorem wS {s:Nat} (h:s<=1000000000):IntKind.i64.wrap ((s:Int)+1)=((s+1:Nat):Int):=bg (by omega) (by omega)
structure Rel (D:List DD.Cr) (W:List (List Int)):Prop where
 len:W.length<=D.length
 four:∀ i:Nat,i<W.length->(gt W i).length=4
 bd:∀ i:Nat,i<W.length->∀ n:Nat,-40<=gt (gt W i) n/\gt (gt W i) n<=40
 nz:∀ i:Nat,i<W.length->∀ n:Nat,n<4->gt (gt W i) n≠0
theorem b4 {a b c d:Int} (ha:-40<=a/\a<=40) (hb:-40<=b/\b<=40) (hc:-40<=c/\c<=40) (hd:-40<=d/\d<=40):∀ n:Nat,-40<=gt [a,b,c,d] n/\gt [a,b,c,d] n<=40:=λn=>by
 match n with
 | 0=>exact ha
 | 1=>exact hb
 | 2=>exact hc
 | 3=>exact hd
 | n+4=>
  have:gt [a,b,c,d] (n+4)=0:=by unfold gt;simp
  rw [this];omega
theorem n4 {a b c d:Int} (ha:a≠0) (hb:b≠0) (hc:c≠0) (hd:d≠0):∀ n:Nat,n<4->gt [a,b,c,d] n≠0:=λn hn=>by
 match n,hn with
 | 0,_=>exact ha
 | 1,_=>exact hb
 | 2,_=>exact hc
 | 3,_=>exact hd
theorem rel_l {D:List DD.Cr} {t:DD.Tb} {p:List Int} (h:DD.TB D t) (hD:D.length<=10) (hp:p.length=2 * D.length) (hv:∀ x:Nat,x<2 * D.length->∃ v:Nat,gt p x=(v:Int)/\v<30):∀ (m g g' k:Nat) (W:List (List Int)),D.length - k=m->m<g->m<g'->k<=D.length->W.length=k->Rel D W ->
  ∃ W',bv.pl61 F g p W D (D.length:Int) (k:Int)=some W'/\bc.pl61 F g' D W p (k:Int)=some W'/\W'.length=D.length/\Rel D W':=by
 intro m
 induction m with
 | zero=>
  intro g g' k W hm hg hg' hk hW hR
  obtain ⟨g,rfl⟩:∃ g1,g=g1+1:=⟨g - 1,by omega⟩
  obtain ⟨g',rfl⟩:∃ g1,g'=g1+1:=⟨g' - 1,by omega⟩
  rw [bv.pl61,bc.pl61,decide_eq_false (by omega),cond_false,cond_false]
  exact ⟨W,rfl,rfl,by omega,hR⟩
 | succ m ih=>
  intro g g' k W hm hg hg' hk hW hR
  obtain ⟨g,rfl⟩:∃ g1,g=g1+1:=⟨g - 1,by omega⟩
  obtain ⟨g',rfl⟩:∃ g1,g'=g1+1:=⟨g' - 1,by omega⟩
  have hkl:k<D.length:=by omega
  obtain ⟨a,e0,ha⟩:=DD.en_at h hkl (show 0<4 by decide)
  obtain ⟨b,e1,hb⟩:=DD.en_at h hkl (show 1<4 by decide)
  obtain ⟨c,e2,hc⟩:=DD.en_at h hkl (show 2<4 by decide)
  have f0:(gt D k).1=(a:Int):=e0
  have f1:(gt D k).2.1=(b:Int):=e1
  have f2:(gt D k).2.2.1=(c:Int):=e2
  obtain ⟨va,g0,la⟩:=hv a ha
  obtain ⟨vb,g1,lb⟩:=hv b hb
  obtain ⟨vc,g2,lc⟩:=hv c hc
  have hsg:(gt D k).2.2.2.2=1\/(gt D k).2.2.2.2=-1:=h.sg (gt D k) (by
   have:gt D k=D[k]:=by unfold gt;simp [hkl]
   rw [this];exact List.getElem_mem _)
  obtain ⟨w,hw⟩:∃ w:List Int,w=[(vc:Int)+1,(gt D k).2.2.2.2 * ((vb:Int)+1),-((va:Int)+1),-(gt D k).2.2.2.2 * ((vb:Int)+1)]:=⟨_,rfl⟩
  have hbd:∀ n:Nat,-40<=gt w n/\gt w n<=40:=by
   rw [hw]
   rcases hsg with q | q <;> rw [q] <;> exact b4 ⟨by omega,by omega⟩ ⟨by omega,by omega⟩ ⟨by omega,by omega⟩ ⟨by omega,by omega⟩
  have hnz:∀ n:Nat,n<4->gt w n≠0:=by
   rw [hw]
   rcases hsg with q | q <;> rw [q] <;> exact n4 (by omega) (by omega) (by omega) (by omega)
  have hR':Rel D (W++[w]):=⟨by rw [List.length_append];simp;omega,λi hi=>by
   rw [List.length_append] at hi
   by_cases c:i<W.length
   ·rw [ga_lt c];exact hR.four i c
   ·have:i=W.length:=by simp at hi;omega
    subst this;rw [ga_eq,hw];rfl,λi hi=>by
   rw [List.length_append] at hi
   by_cases c:i<W.length
   ·rw [ga_lt c];exact hR.bd i c
   ·have:i=W.length:=by simp at hi;omega
    subst this;rw [ga_eq];exact hbd,λi hi=>by
   rw [List.length_append] at hi
   by_cases c:i<W.length
   ·rw [ga_lt c];exact hR.nz i c
   ·have:i=W.length:=by simp at hi;omega
    subst this;rw [ga_eq];exact hnz⟩
  obtain ⟨W',r1,r2,r3,r4⟩:=ih g g' (k+1) (W++[w]) (by omega) (by omega) (by omega) (by omega) (by rw [List.length_append];simp;omega) hR'
  have ap:apn W [w]=some (W++[w]):=apn1 (by omega)
  refine ⟨W',?_,?_,r3,r4⟩
  ·rw [bv.pl61,decide_eq_true (by omega),cond_true,DD.ixn hkl]
   simp only [Option.bind_some,f0,f1,f2]
   rw [DD.ixn (show a<p.length by omega),Option.bind_some,DD.ixn (show c<p.length by omega),Option.bind_some,DD.ixn (show b<p.length by omega),Option.bind_some,g0,g1,g2,bg (x:=(vc:Int)+1) (by omega) (by omega),bg (x:=(vb:Int)+1) (by omega) (by omega),bg (x:=(va:Int)+1) (by omega) (by omega),bg (x:=0 - ((va:Int)+1)) (by omega) (by omega),wS (by omega)]
   have hww:[(vc:Int)+1,IntKind.i64.wrap ((gt D k).2.2.2.2 * ((vb:Int)+1)),0 - ((va:Int)+1),IntKind.i64.wrap (IntKind.i64.wrap (0 - (gt D k).2.2.2.2) * ((vb:Int)+1))]=w:=by
    rw [hw]
    rcases hsg with q | q
    ·rw [q,bg (x:=1 * _) (by omega) (by omega),show IntKind.i64.wrap (0 - 1)=-1 by decide,bg (x:=-1 * _) (by omega) (by omega),Int.zero_sub]
    ·rw [q,bg (x:=-1 * _) (by omega) (by omega),show IntKind.i64.wrap (0 - -1)=1 by decide,bg (x:=1 * _) (by omega) (by omega),Int.zero_sub];rfl
   rw [hww,ap,Option.bind_some]
   exact r1
  ·rw [bc.pl61,decide_eq_true (by omega),cond_true,DD.ixn hkl]
   unfold bc.pj2
   simp only [Option.bind_some,f0,f1,f2]
   rw [DD.ixn (show a<p.length by omega),Option.bind_some,DD.ixn (show c<p.length by omega),Option.bind_some,DD.ixn (show b<p.length by omega),Option.bind_some,g0,g1,g2,bg (x:=(vc:Int)+1) (by omega) (by omega),bg (x:=(vb:Int)+1) (by omega) (by omega),bg (x:=(va:Int)+1) (by omega) (by omega),bg (x:=0 - ((va:Int)+1)) (by omega) (by omega),bg (x:=0 - ((vb:Int)+1)) (by omega) (by omega),wS (by omega)]
   rcases hsg with q | q
   ·rw [q] at hw ⊢
    rw [show ((1:Int)==1)=true from rfl,cond_true,show [(vc:Int)+1,(vb:Int)+1,0 - ((va:Int)+1),0 - ((vb:Int)+1)]=w by rw [hw];simp only [List.cons.injEq,and_true,true_and];and_intros <;> omega,ap,Option.bind_some]
    exact r2
   ·rw [q] at hw ⊢
    rw [show ((-1:Int)==1)=false from rfl,cond_false,show [(vc:Int)+1,0 - ((vb:Int)+1),0 - ((va:Int)+1),(vb:Int)+1]=w by rw [hw];simp only [List.cons.injEq,and_true,true_and];and_intros <;> omega,ap,Option.bind_some]
    exact r2
structure RX (F:Nat) (D:List DD.Cr) (c:Int) (n:Nat) (W:List (List Int)):Prop where
 wl:W.length=D.length
 rel:Rel D W
 n30:n<=30
 io:∃ l,ba.p F D c=some (l,(n:Int))
 so:∃ l,ak.p F D c=some (l,(n:Int))
 i:bv.p F D c=some W
 s:bc.p F D c=some W
theorem rx_both {D:List DD.Cr} {t:DD.Tb} {c:Int} (hF:5000000<F) (h:DD.TB D t) (hD:D.length<=10) (hc:0<=c) (hc8:c<=8):∃ n W,RX F D c n W:=by
 obtain ⟨u,o⟩:=DD.overpasses_both (F:=F) (c:=c) h (by omega) (by omega) hc (by omega)
 obtain ⟨s,uf⟩:=o.uf
 have hrk:=DD.rk_le u (2 * D.length)
 have val:∀ x:Nat,x<2 * D.length->∃ v:Nat,gt (DD.num u (2 * D.length)) x=(v:Int)/\v<30:=λx hx=>by
  obtain ⟨r,q1,q2,q3⟩:=uf.low x hx
  refine ⟨DD.rk u (gt u x).toNat,DD.gt_num hx,?_⟩
  have:=DD.rk_root q3 (show r<2 * D.length by omega)
  rw [q1,Int.toNat_natCast];omega
 obtain ⟨n,hn⟩:∃ n:Nat,((DD.rk u (2 * D.length):Nat):Int)+c=(n:Int):=⟨DD.rk u (2 * D.length)+c.toNat,by omega⟩
 obtain ⟨W,w1,w2,w3,w4⟩:=rel_l (F:=F) h hD (DD.num_len u _) val D.length F F 0 [] (by omega) (by omega) (by omega) (by omega) rfl ⟨Nat.zero_le _,λi hi=>by simp at hi,λi hi=>by simp at hi,λi hi=>by simp at hi⟩
 have oi:=o.i
 have os:=o.s
 rw [hn] at oi os
 refine ⟨n,W,w3,w4,by omega,⟨_,oi⟩,⟨_,os⟩,?_,?_⟩
 ·unfold bv.p
  rw [oi,Option.bind_some]
  exact w1
 ·unfold bc.p
  rw [os,Option.bind_some]
  exact w2
end Go.Proofs.Ytodfdhnlhiaohaa.AE
end
section
namespace Go.Proofs.Ytodfdhnlhiaohaa.AE
open Go Go.AE Go.Proofs
variable {F:Nat}
abbrev Po:=Int×List Int
def RowOk (row:List Po):Prop:=∀ x∈row,x.2.length<=160
theorem RowOk.app {row:List Po} {r:Po} (h:RowOk row) (hr:r.2.length<=160):RowOk (row++[r]):=λx hx=>by
 rcases List.mem_append.1 hx with q | q
 ·exact h x q
 ·rw [List.mem_singleton.1 q];exact hr
theorem row_i {pC} {w:List Int} {n:Nat} {acc:List (List Po)} {W:List (List Int)} {len k:Int} (hF:5000000<F) (hw:FF.Letters w 0) (hl:w.length=4) (hn:n<=30):∀ (m g g' j:Nat) (row:List Po),n - j=m->m<g->m<g'->j<=n->row.length=j->RowOk row ->
  ∃ row',row'.length=n/\RowOk row'/\aR.pl15725 F pC g (n:Int) acc W len k w row (n:Int) (j:Int)=aR.pj4 F pC (n:Int) acc row' W len k /\
   ∀ (pS:List (List Po)->Int->List (List Int)->Int->Option (List (List Po))) (i:Nat),i<W.length->gt W i=w->aQ.pl8021 F pS g' acc (n:Int) W (i:Int) row ((j:Int)+1)=aQ.pj4 F pS acc (n:Int) W (i:Int) row':=by
 intro m
 induction m with
 | zero=>
  intro g g' j row hm hg hg' hj hr ho
  obtain ⟨g,rfl⟩:∃ g1,g=g1+1:=⟨g - 1,by omega⟩
  obtain ⟨g',rfl⟩:∃ g1,g'=g1+1:=⟨g' - 1,by omega⟩
  refine ⟨row,by omega,ho,?_,λpS i hi hw=>?_⟩
  ·rw [aR.pl15725,decide_eq_false (by omega),cond_false]
  ·rw [aQ.pl8021,decide_eq_false (by omega),cond_false]
 | succ m ih=>
  intro g g' j row hm hg hg' hj hr ho
  obtain ⟨g,rfl⟩:∃ g1,g=g1+1:=⟨g - 1,by omega⟩
  obtain ⟨g',rfl⟩:∃ g1,g'=g1+1:=⟨g' - 1,by omega⟩
  obtain ⟨r,e1,e2,_,e4,_⟩:=FF.fox_row (F:=F) (w:=w) (g:=((j+1:Nat):Int)) hF hw (by omega) (by omega)
  obtain ⟨row',r1,r2,r3,r4⟩:=ih g g' (j+1) (row++[r]) (by omega) (by omega) (by omega) (by omega) (by rw [List.length_append];simp;omega) (ho.app e4.2.1)
  refine ⟨row',r1,r2,?_,λpS i hi hwi=>?_⟩
  ·rw [aR.pl15725,decide_eq_true (by omega),cond_true,wS (by omega),e1,Option.bind_some,apn1 (by omega),Option.bind_some]
   exact r3
  ·rw [aQ.pl8021,decide_eq_true (by omega),cond_true,DD.ixn hi,Option.bind_some,hwi,show (j:Int)+1=((j+1:Nat):Int) by omega,e2,Option.bind_some,apn1 (by omega),Option.bind_some,bg (by omega) (by omega)]
   exact r4 pS i hi hwi
def AM (n:Nat) (M:List (List Po)):Prop:=∀ R∈M,R.length=n/\RowOk R
theorem mat_l {D:List DD.Cr} {W:List (List Int)} {n:Nat} (hF:5000000<F) (hW:Rel D W) (hD:D.length<=10) (hn:n<=30):∀ (m g g' k:Nat) (M:List (List Po)),W.length - k=m->m<g->m<g'->k<=W.length->M.length=k->AM n M ->
  ∃ M',M'.length=W.length/\AM n M'/\aR.pl61 F g (n:Int) M W (W.length:Int) (k:Int)=some M'/\aQ.pl125 F g' M (n:Int) W (k:Int)=some M':=by
 have hWl:=hW.len
 intro m
 induction m with
 | zero=>
  intro g g' k M hm hg hg' hk hM ho
  obtain ⟨g,rfl⟩:∃ g1,g=g1+1:=⟨g - 1,by omega⟩
  obtain ⟨g',rfl⟩:∃ g1,g'=g1+1:=⟨g' - 1,by omega⟩
  refine ⟨M,by omega,ho,?_,?_⟩
  ·rw [aR.pl61,decide_eq_false (by omega),cond_false]
  ·rw [aQ.pl125,decide_eq_false (by omega),cond_false]
 | succ m ih=>
  intro g g' k M hm hg hg' hk hM ho
  obtain ⟨g,rfl⟩:∃ g1,g=g1+1:=⟨g - 1,by omega⟩
  obtain ⟨g',rfl⟩:∃ g1,g'=g1+1:=⟨g' - 1,by omega⟩
  have hkl:k<W.length:=by omega
  have h4:=hW.four k hkl
  have hlet:FF.Letters (gt W k) 0:=λi _ hi=>⟨hW.nz k hkl i (by omega),by have:=hW.bd k hkl i;omega⟩
  obtain ⟨row,r1,r2,r3,r4⟩:=row_i (F:=F) (pC:=aR.pl61 F g) (acc:=M) (W:=W) (len:=(W.length:Int)) (k:=(k:Int)) (n:=n) hF hlet h4 hn n F F 0 [] (by omega) (by omega) (by omega) (by omega) rfl (λx hx=>by cases hx)
  obtain ⟨M',m1,m2,m3,m4⟩:=ih g g' (k+1) (M++[row]) (by omega) (by omega) (by omega) (by omega) (by rw [List.length_append];simp;omega) (λR hR=>by
   rcases List.mem_append.1 hR with q | q
   ·exact ho R q
   ·rw [List.mem_singleton.1 q];exact ⟨r1,r2⟩)
  refine ⟨M',m1,m2,?_,?_⟩
  ·rw [aR.pl61,decide_eq_true (by omega),cond_true,DD.ixn hkl,Option.bind_some]
   have r3:aR.pl15725 F (aR.pl61 F g) F (n:Int) M W (W.length:Int) (k:Int) (gt W k) [] (n:Int) 0=_:=r3
   rw [r3]
   unfold aR.pj4 aR.pj3
   rw [apn1 (by omega),Option.bind_some,wS (by omega)]
   exact m3
  ·rw [aQ.pl125,decide_eq_true (by omega),cond_true]
   have r4:aQ.pl8021 F (aQ.pl125 F g') F M (n:Int) W (k:Int) [] 1=_:=r4 (aQ.pl125 F g') k hkl rfl
   rw [r4]
   unfold aQ.pj4 aQ.pj3
   rw [apn1 (by omega),Option.bind_some,wS (by omega)]
   exact m4
theorem am_both {D:List DD.Cr} {c:Int} (hl:D.length<=2000000) (hF:5000000<F):∃ (M:List (List Po)) (b:Bool),M.length<=10/\(∀ R∈M,R.length<=30/\RowOk R)/\d_.p F D c=some (M,b)/\es.p F D c=some (M,b):=by
 unfold d_.p es.p
 rcases DD.isD (F:=F) (c:=c) hl hF with ⟨a,b,_⟩ | ⟨a,b,t,R,s,u,h⟩
 ·rw [a,b];exact ⟨[],false,by simp,by simp,rfl,rfl⟩
 ·rw [a,b]
  have hD:=h.len
  obtain ⟨n,W,x⟩:=rx_both (F:=F) hF h.tb hD h.c0 h.c8
  obtain ⟨li,io⟩:=x.io
  obtain ⟨ls,so⟩:=x.so
  have hw:=x.wl
  have hn:=x.n30
  obtain ⟨M,m1,m2,m3,m4⟩:=mat_l (F:=F) (n:=n) hF x.rel hD hn W.length F F 0 [] (by omega) (by omega) (by omega) (by omega) rfl (λR hR=>by cases hR)
  have m3:aR.pl61 F F (n:Int) [] W (W.length:Int) 0=_:=m3
  have m4:aQ.pl125 F F [] (n:Int) W 0=_:=m4
  refine ⟨M,true,by omega,λR hR=>⟨by rw [(m2 R hR).1];exact hn,(m2 R hR).2⟩,?_,?_⟩
  ·unfold aR.p
   simp only [Option.bind_some,Bool.not_true,cond_false,io,x.i,m3]
  ·unfold aQ.p
   simp only [Option.bind_some,Bool.not_true,cond_false,so,x.s,m4]
end Go.Proofs.Ytodfdhnlhiaohaa.AE
end
section
namespace Go.Proofs.Ytodfdhnlhiaohaa.AE.DD
open Go Go.AE Go.Proofs
variable {F:Nat}
theorem markCr_l:∀ (n g:Nat) (l:List Cr) (i k:Nat),l.length<=2000000->l.length - i=n->n<g->k+5 * n<=100000000->∃ l' k',bU.pl13 F g l (k:Int) (i:Int)=some (((k':Nat):Int),l'):=by
 intro n
 induction n with
 | zero=>
  intro g l i k hl hn hg hk
  obtain ⟨g,rfl⟩:∃ g',g=g'+1:=⟨g - 1,by omega⟩
  rw [bU.pl13,dF (by omega),cond_false]
  exact ⟨l,k,rfl⟩
 | succ n ih=>
  intro g l i k hl hn hg hk
  obtain ⟨g,rfl⟩:∃ g',g=g'+1:=⟨g - 1,by omega⟩
  have hi:i<l.length:=by omega
  rw [bU.pl13,dT (by omega),cond_true,ixn hi]
  simp only [Option.bind_some]
  have e1:IntKind.i64.wrap ((k:Int)+1)=((k+1:Nat):Int):=ws (by omega)
  have e2:IntKind.i64.wrap (((k+1:Nat):Int)+1)=((k+2:Nat):Int):=ws (by omega)
  have e3:IntKind.i64.wrap (((k+2:Nat):Int)+1)=((k+3:Nat):Int):=ws (by omega)
  have e4:IntKind.i64.wrap (((k+3:Nat):Int)+1)=((k+4:Nat):Int):=ws (by omega)
  have e5:IntKind.i64.wrap (((k+4:Nat):Int)+1)=((k+5:Nat):Int):=ws (by omega)
  simp only [e1,e2,e3,e4,e5,ws (show i<=4294967296 by omega)]
  rw [ixn (by simp only [List.length_set];exact hi),Option.bind_some,ixn (by simp only [List.length_set];exact hi),Option.bind_some,ixn (by simp only [List.length_set];exact hi),Option.bind_some,ixn (by simp only [List.length_set];exact hi),Option.bind_some]
  exact ih g _ (i+1) (k+5) (by simp only [List.length_set];exact hl) (by simp only [List.length_set];omega) (by omega) (by omega)
theorem markDg {l:List Cr} (hF:5000000<F) (hl:l.length<=2000000):∃ l' k',ey.p F l 1=some (((k':Nat):Int),l'):=by
 obtain ⟨l',k',e⟩:=markCr_l (F:=F) l.length F l 0 1 hl (by omega) (by omega) (by omega)
 have e:bU.pl13 F F l 1 0=_:=e
 refine ⟨l',k',?_⟩
 unfold ey.p bU.p
 rw [e];rfl
end Go.Proofs.Ytodfdhnlhiaohaa.AE.DD
end
section
namespace Go.Proofs.Ytodfdhnlhiaohaa.AE.DD
open Go Go.AE Go.Proofs
variable {F:Nat}
theorem eqInt_l {l:List Int} (hl:l.length<=2000000):∀ (n g:Nat) (i:Nat),l.length - i=n->n<g->bR.pl29 F g l l (i:Int)=some true:=by
 intro n
 induction n with
 | zero=>
  intro g i hn hg
  obtain ⟨g,rfl⟩:∃ g',g=g'+1:=⟨g - 1,by omega⟩
  rw [bR.pl29,dF (by omega),cond_false]
 | succ n ih=>
  intro g i hn hg
  obtain ⟨g,rfl⟩:∃ g',g=g'+1:=⟨g - 1,by omega⟩
  rw [bR.pl29,dT (by omega),cond_true,ixn (by omega),Option.bind_some,Option.bind_some,bne_self_eq_false,cond_false,ws (by omega)]
  exact ih g (i+1) (by omega) (by omega)
theorem eqInt {l:List Int} (hF:5000000<F) (hl:l.length<=2000000):bR.p F l l=some true:=by
 unfold bR.p
 rw [bne_self_eq_false,cond_false]
 exact eqInt_l hl l.length F 0 (by omega) (by omega)
end Go.Proofs.Ytodfdhnlhiaohaa.AE.DD
end
section
namespace Go.Proofs.Ytodfdhnlhiaohaa.AE.DD
open Go Go.AE Go.Proofs
variable {F:Nat}
def Cnt (l:List Int) (k:Nat):Prop:=∀ n:Nat,n<l.length->gt l n=((k+n:Nat):Int)
theorem mark_l:∀ (n g:Nat) (l:List Int) (i k:Nat),l.length<=2000000->l.length - i=n->n<g->i<=l.length->k<=100000000 ->
  ∃ l',bL.pl13 F g l ((k+i:Nat):Int) (i:Int)=some (((k+l.length:Nat):Int),l')/\l'.length=l.length/\(∀ a:Nat,a<i->gt l' a=gt l a)/\(∀ a:Nat,i<=a->a<l.length->gt l' a=((k+a:Nat):Int)):=by
 intro n
 induction n with
 | zero=>
  intro g l i k hl hn hg hi hk
  obtain ⟨g,rfl⟩:∃ g',g=g'+1:=⟨g - 1,by omega⟩
  rw [bL.pl13,dF (by omega),cond_false]
  refine ⟨l,?_,rfl,λ_ _=>rfl,λa h1 h2=>by omega⟩
  rw [show l.length=i by omega]
 | succ n ih=>
  intro g l i k hl hn hg hi hk
  obtain ⟨g,rfl⟩:∃ g',g=g'+1:=⟨g - 1,by omega⟩
  rw [bL.pl13,dT (by omega),cond_true,ixn (by omega),Option.bind_some,Option.bind_some,ws (by omega),ws (by omega),Nat.add_assoc]
  obtain ⟨l',e1,e2,e3,e4⟩:=ih g (l.set i ((k+i:Nat):Int)) (i+1) k (by rw [List.length_set];exact hl) (by rw [List.length_set];omega) (by omega) (by rw [List.length_set];omega) hk
  rw [List.length_set] at e1 e2 e4
  refine ⟨l',e1,e2,λa h=>?_,λa h1 h2=>?_⟩
  ·rw [e3 a (by omega),gset_ne (by omega)]
  ·by_cases e:a=i
   ·rw [e3 a (by omega),e,gset_eq (by omega)]
   ·exact e4 a (by omega) h2
theorem mark {l:List Int} {k:Nat} (hF:5000000<F) (hl:l.length<=2000000) (hk2:k<=100000000) :
  ∃ l',bL.p F l (k:Int)=some (((k+l.length:Nat):Int),l')/\l'.length=l.length/\Cnt l' k:=by
 obtain ⟨l',e1,e2,e3,e4⟩:=mark_l (F:=F) l.length F l 0 k hl (by omega) (by omega) (by omega) hk2
 exact ⟨l',e1,e2,λn hn=>e4 n (by omega) (by omega)⟩
theorem held_l {l:List Int} {k:Nat} (hl:l.length<=2000000) (hk2:k<=100000000) (hc:Cnt l k):∀ (n g:Nat) (i:Nat),l.length - i=n->n<g->i<=l.length ->
  bS.pl13 F g l ((k+i:Nat):Int) (i:Int)=some ((k+l.length:Nat):Int):=by
 intro n
 induction n with
 | zero=>
  intro g i hn hg hi
  obtain ⟨g,rfl⟩:∃ g',g=g'+1:=⟨g - 1,by omega⟩
  rw [bS.pl13,dF (by omega),cond_false,show l.length=i by omega]
 | succ n ih=>
  intro g i hn hg hi
  obtain ⟨g,rfl⟩:∃ g',g=g'+1:=⟨g - 1,by omega⟩
  rw [bS.pl13,dT (by omega),cond_true,ixn (by omega),Option.bind_some,hc i (by omega),bne_self_eq_false,cond_false,ws (by omega),ws (by omega),Nat.add_assoc]
  exact ih g (i+1) (by omega) (by omega) (by omega)
theorem held {l:List Int} {k:Nat} (hF:5000000<F) (hl:l.length<=2000000) (hk2:k<=100000000) (hc:Cnt l k):bS.p F l (k:Int)=some ((k+l.length:Nat):Int):=by
 unfold bS.p
 exact held_l (F:=F) hl hk2 hc l.length F 0 (by omega) (by omega) (by omega)
end Go.Proofs.Ytodfdhnlhiaohaa.AE.DD
end
section
namespace Go.Proofs.Ytodfdhnlhiaohaa.AE
open Go Go.AE Go.Proofs
variable {F:Nat}
theorem dropd {α:Type} [Inhabited α] {l:List α} {i:Nat} (h:i<l.length):l.drop i=gt l i::l.drop (i+1):=by
 have:gt l i=l[i]:=by unfold gt;simp [h]
 rw [this];exact List.drop_eq_getElem_cons h
theorem gtmm {α:Type} [Inhabited α] {l:List α} {i:Nat} (h:i<l.length):gt l i∈l:=by
 have:gt l i=l[i]:=by unfold gt;simp [h]
 rw [this];exact List.getElem_mem _
theorem eqLau {a:Int} {l:List Int} (hF:5000000<F) (hl:l.length<=2000000):eb.p F a l a l=some true:=by
 unfold eb.p
 simp only [bne_self_eq_false,cond_false,DD.eqInt hF hl,Option.bind_some,Bool.not_true]
theorem eqLS_l {l:List Po} (hF:5000000<F) (hl:l.length<=2000000) (hr:RowOk l):∀ (n g i:Nat),l.length - i=n->n<g->bw.pl29 F g l l (i:Int)=some true:=by
 intro n
 induction n with
 | zero=>
  intro g i hn hg
  obtain ⟨g,rfl⟩:∃ g1,g=g1+1:=⟨g - 1,by omega⟩
  rw [bw.pl29,decide_eq_false (by omega),cond_false]
 | succ n ih=>
  intro g i hn hg
  obtain ⟨g,rfl⟩:∃ g1,g=g1+1:=⟨g - 1,by omega⟩
  have hi:i<l.length:=by omega
  have hx:=hr _ (gtmm hi)
  rw [bw.pl29,decide_eq_true (by omega),cond_true,DD.ixn hi,Option.bind_some,Option.bind_some,eqLau hF (by omega),Option.bind_some,Bool.not_true,cond_false,wS (by omega)]
  exact ih g (i+1) (by omega) (by omega)
theorem eqLS {l:List Po} (hF:5000000<F) (hl:l.length<=2000000) (hr:RowOk l):bw.p F l l=some true:=by
 unfold bw.p
 rw [bne_self_eq_false,cond_false]
 exact eqLS_l hF hl hr l.length F 0 (by omega) (by omega)
theorem eqLSS_l {l:List (List Po)} (hF:5000000<F) (hl:l.length<=2000000) (hr:∀ R∈l,R.length<=30/\RowOk R):∀ (n g i:Nat),l.length - i=n->n<g->bq.pl29 F g l l (i:Int)=some true:=by
 intro n
 induction n with
 | zero=>
  intro g i hn hg
  obtain ⟨g,rfl⟩:∃ g1,g=g1+1:=⟨g - 1,by omega⟩
  rw [bq.pl29,decide_eq_false (by omega),cond_false]
 | succ n ih=>
  intro g i hn hg
  obtain ⟨g,rfl⟩:∃ g1,g=g1+1:=⟨g - 1,by omega⟩
  have hi:i<l.length:=by omega
  have hx:=hr _ (gtmm hi)
  rw [bq.pl29,decide_eq_true (by omega),cond_true,DD.ixn hi,Option.bind_some,Option.bind_some,eqLS hF (by omega) hx.2,Option.bind_some,Bool.not_true,cond_false,wS (by omega)]
  exact ih g (i+1) (by omega) (by omega)
theorem eqLSS {l:List (List Po)} (hF:5000000<F) (hl:l.length<=2000000) (hr:∀ R∈l,R.length<=30/\RowOk R):bq.p F l l=some true:=by
 unfold bq.p
 rw [bne_self_eq_false,cond_false]
 exact eqLSS_l hF hl hr l.length F 0 (by omega) (by omega)
def CL:List Po->Nat->Nat->Prop
 | [],k,K=>K=k
 | x::l,k,K=>x.1=(k:Int)/\x.2.length<=2000000/\DD.Cnt x.2 (k+1)/\CL l (k+1+x.2.length) K
theorem CL.le:∀ {l:List Po} {k K:Nat},CL l k K->k<=K
 | [],k,K,h=>Nat.le_of_eq (Eq.symm h)
 | x::l,k,K,h=>by have:=CL.le h.2.2.2;omega
theorem mlsM (hF:5000000<F):∀ (l:List Po) (k:Nat),RowOk l->k+l.length * 161<=100000000->∃ (l':List Po) (K:Nat),mls (bL.p F) l (k:Int)=some ((K:Int),l')/\CL l' k K/\l'.length=l.length/\K<=k+l.length * 161
 | [],k,_,_=>⟨[],k,rfl,rfl,rfl,by omega⟩
 | x::l,k,h,hk=>by
  have hx:=h x List.mem_cons_self
  rw [List.length_cons,Nat.add_mul] at hk
  obtain ⟨x',m1,m2,m3⟩:=DD.mark (F:=F) (l:=x.2) (k:=k+1) hF (by omega) (by omega)
  obtain ⟨l',K,n1,n2,n3,n4⟩:=mlsM hF l (k+1+x.2.length) (λy hy=>h y (List.mem_cons_of_mem _ hy)) (by omega)
  refine ⟨((k:Int),x')::l',K,?_,⟨rfl,by simp only;omega,m3,by simp only;rw [m2];exact n2⟩,by rw [List.length_cons,List.length_cons,n3],by rw [List.length_cons,Nat.add_mul];omega⟩
  rw [mls,wS (by omega),m1,Option.bind_some]
  simp only []
  rw [n1];rfl
theorem heldLS_l {l:List Po} {K:Nat} (hF:5000000<F) (hl:l.length<=2000000) (hK:K<=100000000):∀ (n g i k:Nat),l.length - i=n->n<g->CL (l.drop i) k K->bE.pl13 F g l (k:Int) (i:Int)=some (K:Int):=by
 intro n
 induction n with
 | zero=>
  intro g i k hn hg hc
  obtain ⟨g,rfl⟩:∃ g1,g=g1+1:=⟨g - 1,by omega⟩
  rw [List.drop_eq_nil_of_le (by omega)] at hc
  have hc:K=k:=hc
  rw [bE.pl13,decide_eq_false (by omega),cond_false,hc]
 | succ n ih=>
  intro g i k hn hg hc
  obtain ⟨g,rfl⟩:∃ g1,g=g1+1:=⟨g - 1,by omega⟩
  have hi:i<l.length:=by omega
  rw [dropd hi] at hc
  obtain ⟨c0,c1,c2,c3⟩:=hc
  have:=c3.le
  rw [bE.pl13,decide_eq_true (by omega),cond_true,DD.ixn hi,Option.bind_some,c0,bne_self_eq_false,cond_false,Option.bind_some,wS (by omega),DD.held hF c1 (by omega) c2,Option.bind_some,decide_eq_false (by omega),cond_false,wS (by omega)]
  exact ih g (i+1) (k+1+(gt l i).2.length) (by omega) (by omega) c3
def CLS:List (List Po)->Nat->Nat->Prop
 | [],k,K=>K=k
 | x::l,k,K=>x.length<=2000000/\∃ k',CL x k k'/\CLS l k' K
theorem CLS.le:∀ {l:List (List Po)} {k K:Nat},CLS l k K->k<=K
 | [],k,K,h=>Nat.le_of_eq (Eq.symm h)
 | x::l,k,K,h=>by obtain ⟨_,k',h1,h2⟩:=h;have:=h1.le;have:=CLS.le h2;omega
theorem mlssM (hF:5000000<F):∀ (l:List (List Po)) (k:Nat),(∀ R∈l,R.length<=30/\RowOk R)->k+l.length * 5000<=100000000->∃ (l':List (List Po)) (K:Nat),mss (bX.p F) l (k:Int)=some ((K:Int),l')/\CLS l' k K/\l'.length=l.length/\K<=k+l.length * 5000
 | [],k,_,_=>⟨[],k,rfl,rfl,rfl,by omega⟩
 | x::l,k,h,hk=>by
  have hx:=h x List.mem_cons_self
  rw [List.length_cons,Nat.add_mul] at hk
  obtain ⟨x',K',m1,m2,m3,m4⟩:=mlsM hF x k hx.2 (by omega)
  obtain ⟨l',K,n1,n2,n3,n4⟩:=mlssM hF l K' (λy hy=>h y (List.mem_cons_of_mem _ hy)) (by omega)
  refine ⟨x'::l',K,?_,⟨by omega,K',m2,n2⟩,by rw [List.length_cons,List.length_cons,n3],by rw [List.length_cons,Nat.add_mul];omega⟩
  have e:bX.p F x (k:Int)=some ((K':Int),x'):=by
   unfold bX.p
   rw [if_pos (by omega)];exact m1
  rw [mss,e,Option.bind_some]
  simp only []
  rw [n1];rfl
theorem heldLSS_l {l:List (List Po)} {K:Nat} (hF:5000000<F) (hl:l.length<=2000000) (hK:K<=100000000):∀ (n g i k:Nat),l.length - i=n->n<g->CLS (l.drop i) k K->bD.pl13 F g l (k:Int) (i:Int)=some (K:Int):=by
 intro n
 induction n with
 | zero=>
  intro g i k hn hg hc
  obtain ⟨g,rfl⟩:∃ g1,g=g1+1:=⟨g - 1,by omega⟩
  rw [List.drop_eq_nil_of_le (by omega)] at hc
  have hc:K=k:=hc
  rw [bD.pl13,decide_eq_false (by omega),cond_false,hc]
 | succ n ih=>
  intro g i k hn hg hc
  obtain ⟨g,rfl⟩:∃ g1,g=g1+1:=⟨g - 1,by omega⟩
  have hi:i<l.length:=by omega
  rw [dropd hi] at hc
  obtain ⟨c1,k',c2,c3⟩:=hc
  have:=c3.le
  have:=c2.le
  have e:bE.p F (gt l i) (k:Int)=some (k':Int):=by
   unfold bE.p
   exact heldLS_l hF c1 (by omega) (gt l i).length F 0 k (by omega) (by omega) c2
  rw [bD.pl13,decide_eq_true (by omega),cond_true,DD.ixn hi,Option.bind_some,e,Option.bind_some,decide_eq_false (by omega),cond_false,wS (by omega)]
  exact ih g (i+1) k' (by omega) (by omega) c3
theorem markLSS {l:List (List Po)} {k:Nat} (hF:5000000<F) (hl:l.length<=100) (hr:∀ R∈l,R.length<=30/\RowOk R) (hk:k<=1000) :
  ∃ (l':List (List Po)) (K:Nat),ck.p F l (k:Int)=some ((K:Int),l')/\bD.p F l' (k:Int)=some (K:Int):=by
 obtain ⟨l',K,h1,h2,h3,h4⟩:=mlssM hF l k hr (by omega)
 refine ⟨l',K,?_,?_⟩
 ·unfold ck.p
  rw [if_pos (by omega)];exact h1
 ·unfold bD.p
  exact heldLSS_l hF (by omega) (by omega) l'.length F 0 k (by omega) (by omega) h2
theorem FnExactAlexanderMatrix_pure:∀ (af:List (Int×Int×Int×Int×Int)) (ag:Int),af.length<=maxLen->(∀ x∈af,(Lit.int .i64 x.1).wf=true/\(Lit.int .i64 x.2.1).wf=true/\(Lit.int .i64 x.2.2.1).wf=true/\(Lit.int .i64 x.2.2.2.1).wf=true/\(Lit.int .i64 x.2.2.2.2).wf=true)->(Lit.int .i64 ag).wf=true->∃ F,dI.p F af ag=some true:=by
 intro D c hm _ _
 obtain ⟨F,hF⟩:∃ F:Nat,F=1000000000000000:=⟨_,rfl⟩
 refine ⟨F,?_⟩
 unfold dI.p
 by_cases hl:D.length<=1048576
 ·rw [DD.szDg (by omega),Option.bind_some,if_neg (by omega),decide_eq_false (by omega),cond_false]
  have hF5:5000000<F:=by omega
  obtain ⟨M,b,hM,hr,e2,e1⟩:=am_both (F:=F) (D:=D) (c:=c) (by omega) hF5
  obtain ⟨D',k',e3⟩:=DD.markDg (F:=F) (l:=D) hF5 (by omega)
  have eqM:=eqLSS (F:=F) (l:=M) hF5 (by omega) hr
  obtain ⟨l',K,m1,m2⟩:=markLSS (F:=F) (l:=M) (k:=1) hF5 (by omega) hr (by omega)
  have m1:ck.p F M 1=_:=m1
  have m2:bD.p F l' 1=_:=m2
  simp only [DD.toDg hF5 (show D.length<=2000000 by omega),Option.bind_some,e1,e2,eqM,Bool.not_true,cond_false,bne_self_eq_false,beq_self_eq_true,DD.eqDg hF5 (show D.length<=2000000 by omega),e3,m1,m2,decide_eq_false (show ¬ ((k':Int)<0) by omega),decide_eq_false (show ¬ ((K:Int)<0) by omega)]
 ·rw [DD.szBig hm (by omega)];rfl
end Go.Proofs.Ytodfdhnlhiaohaa.AE
end
