import Derived.Test.YtodfdhnlhiaohaaE2
import Derived.Test.YtodfdhnlhiaohaaP1
set_option linter.unusedVariables false
set_option linter.unusedSimpArgs false
section
namespace Go.Proofs.Ytodfdhnlhiaohaa.AE
def sw (i:Nat) (x:Nat):Nat:=if x=i then i+1 else if x=i+1 then i else x
theorem sw_sw (i x:Nat):sw i (sw i x)=x:=by unfold sw;(repeat' split) <;> omega
theorem sw_ne {i x:Nat} (h:x≠i) (h':x≠i+1):sw i x=x:=by unfold sw;rw [if_neg h,if_neg h']
theorem sw_l (i:Nat):sw i i=i+1:=by unfold sw;rw [if_pos rfl]
theorem sw_r (i:Nat):sw i (i+1)=i:=by unfold sw;rw [if_neg (by omega),if_pos rfl]
theorem sw_lt {i n x:Nat} (hi:i+1<n) (h:x<n):sw i x<n:=by unfold sw;(repeat' split) <;> omega
theorem sw_mono {i x y:Nat} (h:x<y) (h':¬ (x=i/\y=i+1)):sw i x<sw i y:=by unfold sw;(repeat' split) <;> omega
theorem sw_comm {i j:Nat} (h:i+1<j\/j+1<i) (x:Nat):sw i (sw j x)=sw j (sw i x):=by unfold sw;(repeat' split) <;> omega
theorem sw_braid (i x:Nat):sw i (sw (i+1) (sw i x))=sw (i+1) (sw i (sw (i+1) x)):=by unfold sw;(repeat' split) <;> omega
structure Pm where
 f:Nat->Nat
 g:Nat->Nat
 gf:∀ x,g (f x)=x
 fg:∀ x,f (g x)=x
theorem Pm.ext' {p q:Pm} (h:∀ x,p.f x=q.f x):p=q:=by
 have hg:p.g=q.g:=funext λx=>by have:=p.gf (q.g x);rw [h,q.fg] at this;exact this
 have hf:p.f=q.f:=funext h
 cases p;cases q;simp only at hf hg;subst hf;subst hg;rfl
def Pm.one:Pm:=⟨id,id,λ_=>rfl,λ_=>rfl⟩
def Pm.po (p:Pm) (i:Nat):Pm:=⟨λx=>sw i (p.f x),λx=>p.g (sw i x),λx=>by rw [sw_sw,p.gf],λx=>by rw [p.fg,sw_sw]⟩
def Pm.pr (p:Pm) (i:Nat):Pm:=⟨λx=>p.f (sw i x),λx=>sw i (p.g x),λx=>by rw [p.gf,sw_sw],λx=>by rw [sw_sw,p.fg]⟩
theorem Pm.po_pr (p:Pm) (i j:Nat):(p.po i).pr j=(p.pr j).po i:=Pm.ext' λ_=>rfl
def can (n:Nat) (p q:Pm) (i:Nat):Prop:=i+1<n/\p.g i<p.g (i+1)/\q.f (i+1)<q.f i
inductive St (n:Nat):List Pm->List Pm->Prop where
 | head (p q:Pm) (B:List Pm) (i:Nat) (h:can n p q i):St n (p::q::B) (p.po i::q.pr i::B)
 | tail (p:Pm) (L L':List Pm) (h:St n L L'):St n (p::L) (p::L')
inductive Sts (n:Nat):List Pm->List Pm->Prop where
 | refl (L:List Pm):Sts n L L
 | step (L M N:List Pm) (h:St n L M) (t:Sts n M N):Sts n L N
theorem Sts.one {n:Nat} {L M:List Pm} (h:St n L M):Sts n L M:=.step _ _ _ h (.refl _)
theorem Sts.trans {n:Nat} {L M N:List Pm} (h:Sts n L M) (t:Sts n M N):Sts n L N:=by
 induction h with
 | refl=>exact t
 | step L M _ h _ ih=>exact .step _ _ _ h (ih t)
theorem Sts.tail {n:Nat} {p:Pm} {L M:List Pm} (h:Sts n L M):Sts n (p::L) (p::M):=by
 induction h with
 | refl=>exact .refl _
 | step L M N h _ ih=>exact .step _ _ _ (.tail _ _ _ h) ih
theorem St.app {n:Nat} {L M:List Pm} (h:St n L M) (B:List Pm):St n (L++B) (M++B):=by
 induction h with
 | head p q B' i h=>exact .head p q (B'++B) i h
 | tail p L L' _ ih=>exact .tail p _ _ ih
theorem Sts.app {n:Nat} {L M:List Pm} (h:Sts n L M) (B:List Pm):Sts n (L++B) (M++B):=by
 induction h with
 | refl=>exact .refl _
 | step L M N h _ ih=>exact .step _ _ _ (h.app B) ih
theorem Sts.pre {n:Nat} {L M:List Pm} (h:Sts n L M):∀ A:List Pm,Sts n (A++L) (A++M)
 | []=>h
 | _::A=>(Sts.pre h A).tail
theorem St.len {n:Nat} {L M:List Pm} (h:St n L M):M.length=L.length:=by
 induction h with
 | head=>rfl
 | tail p L L' _ ih=>simp [ih]
theorem Sts.len {n:Nat} {L M:List Pm} (h:Sts n L M):M.length=L.length:=by
 induction h with
 | refl=>rfl
 | step L M N h _ ih=>rw [ih,h.len]
theorem can_far {n:Nat} {p q:Pm} {i j:Nat} (hij:i+1<j\/j+1<i) (h:can n p q j):can n (p.po i) (q.pr i) j:=by
 obtain ⟨h1,h2,h3⟩:=h
 refine ⟨h1,?_,?_⟩
 ·show p.g (sw i j)<p.g (sw i (j+1))
  rw [sw_ne (by omega) (by omega),sw_ne (by omega) (by omega)];exact h2
 ·show q.f (sw i (j+1))<q.f (sw i j)
  rw [sw_ne (by omega) (by omega),sw_ne (by omega) (by omega)];exact h3
theorem near {n:Nat} {p q:Pm} {i:Nat} (h:can n p q i) (h':can n p q (i+1)) (B:List Pm) :
  ∃ N,Sts n (p.po i::q.pr i::B) N/\Sts n (p.po (i+1)::q.pr (i+1)::B) N:=by
 obtain ⟨a1,a2,a3⟩:=h
 obtain ⟨b1,b2,b3⟩:=h'
 have e0:sw i (i+1+1)=i+1+1:=sw_ne (by omega) (by omega)
 have e1:sw (i+1) i=i:=sw_ne (by omega) (by omega)
 refine ⟨((p.po i).po (i+1)).po i::((q.pr i).pr (i+1)).pr i::B,.step _ _ _ (.head _ _ _ (i+1) ⟨b1,?_,?_⟩) (.step _ _ _ (.head _ _ _ i ⟨a1,?_,?_⟩) (.refl _)),?_⟩
 ·show p.g (sw i (i+1))<p.g (sw i (i+1+1));rw [sw_r,e0];omega
 ·show q.f (sw i (i+1+1))<q.f (sw i (i+1));rw [sw_r,e0];omega
 ·show p.g (sw i (sw (i+1) i))<p.g (sw i (sw (i+1) (i+1)));rw [e1,sw_l,sw_l,e0];exact b2
 ·show q.f (sw i (sw (i+1) (i+1)))<q.f (sw i (sw (i+1) i));rw [e1,sw_l,sw_l,e0];exact b3
 ·have ep:((p.po i).po (i+1)).po i=((p.po (i+1)).po i).po (i+1):=Pm.ext' λx=>sw_braid i _
  have eq:((q.pr i).pr (i+1)).pr i=((q.pr (i+1)).pr i).pr (i+1):=Pm.ext' λx=>congrArg q.f (sw_braid i x)
  rw [ep,eq]
  refine .step _ _ _ (.head _ _ _ i ⟨a1,?_,?_⟩) (.step _ _ _ (.head _ _ _ (i+1) ⟨b1,?_,?_⟩) (.refl _))
  ·show p.g (sw (i+1) i)<p.g (sw (i+1) (i+1));rw [e1,sw_l];omega
  ·show q.f (sw (i+1) (i+1))<q.f (sw (i+1) i);rw [e1,sw_l];omega
  ·show p.g (sw (i+1) (sw i (i+1)))<p.g (sw (i+1) (sw i (i+1+1)));rw [sw_r,e0,e1,sw_r];exact a2
  ·show q.f (sw (i+1) (sw i (i+1+1)))<q.f (sw (i+1) (sw i (i+1)));rw [sw_r,e0,e1,sw_r];exact a3
theorem pair {n:Nat} {p q:Pm} {i j:Nat} (h:can n p q i) (h':can n p q j) (B:List Pm):∃ N,Sts n (p.po i::q.pr i::B) N/\Sts n (p.po j::q.pr j::B) N:=by
 by_cases e:i=j
 ·subst e;exact ⟨_,.refl _,.refl _⟩
 ·by_cases e1:j=i+1
  ·subst e1;exact near h h' B
  ·by_cases e2:i=j+1
   ·subst e2;obtain ⟨N,x,y⟩:=near h' h B;exact ⟨N,y,x⟩
   ·have hf:i+1<j\/j+1<i:=by omega
    refine ⟨(p.po i).po j::(q.pr i).pr j::B,.one (.head _ _ _ j (can_far hf h')),?_⟩
    rw [show (p.po i).po j=(p.po j).po i from Pm.ext' λx=>(sw_comm hf _).symm,show (q.pr i).pr j=(q.pr j).pr i from Pm.ext' λx=>congrArg q.f (sw_comm hf x)]
    exact .one (.head _ _ _ i (can_far hf.symm h))
theorem over {n:Nat} {p q r:Pm} {i j:Nat} (h:can n p q i) (h':can n q r j):can n (q.pr i) r j/\can n p (q.po j) i:=by
 obtain ⟨a1,a2,a3⟩:=h
 obtain ⟨b1,b2,b3⟩:=h'
 refine ⟨⟨b1,?_,b3⟩,⟨a1,a2,?_⟩⟩
 ·show sw i (q.g j)<sw i (q.g (j+1))
  refine sw_mono b2 λ⟨c1,c2⟩=>?_
  have:q.f i=j:=by rw [<- c1,q.fg]
  have:q.f (i+1)=j+1:=by rw [<- c2,q.fg]
  omega
 ·show sw j (q.f (i+1))<sw j (q.f i)
  refine sw_mono a3 λ⟨c1,c2⟩=>?_
  have:q.g j=i+1:=by rw [<- c1,q.gf]
  have:q.g (j+1)=i:=by rw [<- c2,q.gf]
  omega
theorem St.local_ {n:Nat}:∀ {L M N:List Pm},St n L M->St n L N->∃ O,Sts n M O/\Sts n N O:=by
 intro L M N h
 induction h generalizing N with
 | head p q B i h=>
  intro h2
  cases h2 with
  | head _ _ _ j h'=>exact pair h h' B
  | tail _ _ L' h'=>
   cases h' with
   | head _ r B j h'=>
    obtain ⟨x,y⟩:=over h h'
    refine ⟨p.po i::(q.pr i).po j::r.pr j::B,.one (.tail _ _ _ (.head _ _ _ j x)),?_⟩
    rw [<- Pm.po_pr]
    exact .one (.head _ _ _ i y)
   | tail _ _ L'' h'=>exact ⟨p.po i::q.pr i::L'',.one (.tail _ _ _ (.tail _ _ _ h')),.one (.head _ _ _ i h)⟩
 | tail p L L' h ih=>
  intro h2
  cases h2 with
  | head _ q B i h'=>
   cases h with
   | head _ r B j h=>
    obtain ⟨x,y⟩:=over h' h
    refine ⟨p.po i::(q.pr i).po j::r.pr j::B,?_,.one (.tail _ _ _ (.head _ _ _ j x))⟩
    rw [<- Pm.po_pr]
    exact .one (.head _ _ _ i y)
   | tail _ _ L'' h=>exact ⟨p.po i::q.pr i::L'',.one (.head _ _ _ i h'),.one (.tail _ _ _ (.tail _ _ _ h))⟩
  | tail _ _ L2 h'=>
   obtain ⟨O,x,y⟩:=ih h'
   exact ⟨p::O,x.tail,y.tail⟩
def su (f:Nat->Nat):Nat->Nat
 | 0=>0
 | n+1=>su f n+f n
theorem su_congr {f f':Nat->Nat}:∀ {n:Nat},(∀ x,x<n->f x=f' x)->su f n=su f' n
 | 0,_=>rfl
 | n+1,h=>by rw [su,su,su_congr (λx hx=>h x (by omega)),h n (by omega)]
theorem su_add (f f':Nat->Nat):∀ n,su (λx=>f x+f' x) n=su f n+su f' n
 | 0=>rfl
 | n+1=>by rw [su,su,su,su_add f f' n];omega
theorem su_zero:∀ n,su (λ_=>0) n=0
 | 0=>rfl
 | n+1=>by rw [su,su_zero n]
theorem su_swap (h:Nat->Nat->Nat) (b:Nat):∀ a,su (λx=>su (h x) b) a=su (λy=>su (λx=>h x y) a) b
 | 0=>(su_zero b).symm
 | a+1=>by
  rw [su,su_swap h b a,<-su_add]
  rfl
theorem su_one (c k:Nat):∀ n,su (λv=>if k=v then c * v else 0) n=if k<n then c * k else 0
 | 0=>rfl
 | n+1=>by
  rw [su,su_one c k n]
  by_cases h:k<n
  ·rw [if_pos h,if_neg (by omega),if_pos (by omega)];rfl
  ·by_cases e:k=n
   ·subst e;rw [if_neg h,if_pos rfl,if_pos (by omega)];omega
   ·rw [if_neg h,if_neg e,if_neg (by omega)]
theorem su_le {f:Nat->Nat} {c:Nat}:∀ {n:Nat},(∀ x,x<n->f x<=c)->su f n<=n * c
 | 0,_=>Nat.zero_le _
 | n+1,h=>by
  have h1:=su_le (n:=n) λx hx=>h x (by omega)
  have h2:=h n (by omega)
  rw [su,Nat.add_mul];omega
def sm (f:Nat->Nat) (n:Nat):Nat:=su (λx=>x * f x) n
theorem sm_sw (f:Nat->Nat) (i:Nat):∀ n,i+1<n->sm (λx=>f (sw i x)) n+f (i+1)=sm f n+f i
 | 0,h=>by omega
 | n+1,h=>by
  by_cases e:i+1=n
  ·subst e
   have:su (λx=>x * f (sw i x)) i=su (λx=>x * f x) i:=su_congr λx hx=>by rw [sw_ne (by omega) (by omega)]
   simp only [sm,su]
   rw [this,sw_l,sw_r]
   have e1:(i+1) * f i=i * f i+f i:=by rw [Nat.add_mul];omega
   have e2:(i+1) * f (i+1)=i * f (i+1)+f (i+1):=by rw [Nat.add_mul];omega
   omega
  ·have:=sm_sw f i n (by omega)
   simp only [sm,su] at this ⊢
   rw [sw_ne (x:=n) (by omega) (by omega)]
   omega
def ok (n:Nat) (p:Pm):Prop:=∀ x,x<n->p.f x<n/\p.g x<n
theorem sm_inv {n:Nat} {p:Pm} (h:ok n p):sm p.f n=sm p.g n:=by
 have e1:sm p.f n=su (λx=>su (λv=>if p.f x=v then x * v else 0) n) n:=su_congr λx hx=>by rw [su_one,if_pos (h x hx).1]
 have e2:sm p.g n=su (λv=>su (λx=>if p.g v=x then v * x else 0) n) n:=su_congr λx hx=>by rw [su_one,if_pos (h x hx).2]
 rw [e1,e2,su_swap]
 refine su_congr λv hv=>su_congr λx hx=>?_
 by_cases c:p.f x=v
 ·rw [if_pos c,if_pos (by rw [<- c,p.gf]),Nat.mul_comm]
 ·rw [if_neg c,if_neg λq=>c (by rw [<- q,p.fg])]
theorem ok.po {n i:Nat} {p:Pm} (h:ok n p) (hi:i+1<n):ok n (p.po i):=λx hx=>⟨sw_lt hi (h x hx).1,(h _ (sw_lt hi hx)).2⟩
theorem ok.pr {n i:Nat} {p:Pm} (h:ok n p) (hi:i+1<n):ok n (p.pr i):=λx hx=>⟨(h _ (sw_lt hi hx)).1,sw_lt hi (h x hx).2⟩
def oks (n:Nat) (L:List Pm):Prop:=∀ p∈L,ok n p
theorem St.ok {n:Nat} {L M:List Pm} (h:St n L M) (o:oks n L):oks n M:=by
 induction h with
 | head p q B i h=>
  intro x hx
  simp only [List.mem_cons] at hx
  rcases hx with rfl | rfl | hx
  ·exact (o p (by simp)).po h.1
  ·exact (o q (by simp)).pr h.1
  ·exact o x (by simp [hx])
 | tail p L L' _ ih=>
  intro x hx
  rcases List.mem_cons.1 hx with rfl | hx
  ·exact o _ List.mem_cons_self
  ·exact ih (λy hy=>o y (List.mem_cons_of_mem _ hy)) x hx
theorem Sts.ok {n:Nat} {L M:List Pm} (h:Sts n L M) (o:oks n L):oks n M:=by
 induction h with
 | refl=>exact o
 | step L M N h _ ih=>exact ih (h.ok o)
def ms (n:Nat):List Pm->Nat
 | []=>0
 | p::L=>sm p.f n * n ^ L.length+ms n L
theorem sl_less {n i:Nat} {p q:Pm} (hp:ok n p) (hq:ok n q) (h:can n p q i):sm (p.po i).f n * n+sm (q.pr i).f n<sm p.f n * n+sm q.f n:=by
 obtain ⟨h1,h2,h3⟩:=h
 have a:=sm_sw p.g i n h1
 have b:=sm_sw q.f i n h1
 have e1:sm (p.po i).f n=sm (λx=>p.g (sw i x)) n:=sm_inv (hp.po h1)
 have e2:sm (q.pr i).f n=sm (λx=>q.f (sw i x)) n:=rfl
 have e3:=sm_inv hp
 have hb:=(hq i (by omega)).1
 rw [e1,e2,e3]
 have e4:(sm (λx=>p.g (sw i x)) n+1) * n<=sm p.g n * n:=Nat.mul_le_mul_right _ (by omega)
 rw [Nat.add_mul] at e4
 omega
theorem St.less {n:Nat} {L M:List Pm} (h:St n L M) (o:oks n L):ms n M<ms n L:=by
 induction h with
 | head p q B i h=>
  have hn:0<n ^ B.length:=Nat.pow_pos (by have:=h.1;omega)
  have:=Nat.mul_lt_mul_of_pos_right (sl_less (o p (by simp)) (o q (by simp)) h) hn
  simp only [ms,List.length_cons,Nat.pow_succ]
  rw [Nat.add_mul,Nat.add_mul,Nat.mul_assoc,Nat.mul_assoc,Nat.mul_comm n] at this
  omega
 | tail p L L' h ih=>
  have:=ih (λy hy=>o y (List.mem_cons_of_mem _ hy))
  simp only [ms,h.len];omega
theorem Sts.meet {n:Nat}:∀ (k:Nat) {L M N:List Pm},ms n L<k->oks n L->Sts n L M->Sts n L N->∃ O,Sts n M O/\Sts n N O
 | 0,_,_,_,h,_,_,_=>absurd h (Nat.not_lt_zero _)
 | k+1,L,M,N,hk,o,h,h'=>by
  cases h with
  | refl=>exact ⟨N,h',.refl _⟩
  | step _ M1 _ s t=>
   cases h' with
   | refl=>exact ⟨M,.refl _,.step _ _ _ s t⟩
   | step _ N1 _ s' t'=>
    obtain ⟨O,x,y⟩:=s.local_ s'
    have l1:=s.less o
    have l2:=s'.less o
    obtain ⟨O1,u,v⟩:=Sts.meet k (by omega) (s.ok o) t x
    obtain ⟨O2,u',v'⟩:=Sts.meet k (by omega) (s'.ok o) t' (y.trans v)
    exact ⟨O2,u.trans v',u'⟩
def stuck (n:Nat) (L:List Pm):Prop:=∀ M,¬ St n L M
theorem Sts.stuck_eq {n:Nat} {L M:List Pm} (h:Sts n L M) (s:stuck n L):M=L:=by
 cases h with
 | refl=>rfl
 | step _ M1 _ a _=>exact absurd a (s M1)
theorem Sts.unique {n:Nat} {L M N:List Pm} (o:oks n L) (h:Sts n L M) (h':Sts n L N) (s:stuck n M) (s':stuck n N):M=N:=by
 obtain ⟨O,x,y⟩:=Sts.meet (ms n L+1) (Nat.lt_succ_self _) o h h'
 rw [<- x.stuck_eq s,<-y.stuck_eq s']
end Go.Proofs.Ytodfdhnlhiaohaa.AE
end
section
namespace Go.Proofs.Ytodfdhnlhiaohaa.AE
open Go Go.AE Go.Proofs
def Lt (n:Nat) (f:Nat->Int):List Int:=(List.range n).map f
variable {n F:Nat} {f h:Nat->Int}
theorem Lt_len:(Lt n f).length=n:=by unfold Lt;rw [List.length_map,List.length_range]
theorem Lt_get {k:Nat} (hk:k<n):(Lt n f)[k]?=some (f k):=by
 unfold Lt;rw [List.getElem?_map,List.getElem?_range hk];rfl
theorem gt_Lt {k:Nat} (hk:k<n):gt (Lt n f) k=f k:=by unfold gt;rw [List.getD_eq_getElem?_getD,Lt_get hk];rfl
theorem ix_Lt {i:Int} (h0:0<=i) (h1:i<n):ix (Lt n f) i=some i.toNat:=by unfold ix;rw [if_pos ⟨h0,by rw [Lt_len];exact h1⟩]
theorem Lt_congr (e:∀ k,k<n->f k=h k):Lt n f=Lt n h:=by
 unfold Lt;exact List.map_congr_left λk hk=>e k (List.mem_range.1 hk)
theorem Lt_ext {l:List Int} (hl:l.length=n) (e:∀ k,k<n->l[k]?=some (f k)):l=Lt n f:=by
 apply List.ext_getElem?
 intro k
 by_cases hk:k<n
 ·rw [e k hk,Lt_get hk]
 ·rw [List.getElem?_eq_none (by omega),List.getElem?_eq_none (by rw [Lt_len];omega)]
theorem Lt_set {i:Nat} {x:Int}:(Lt n f).set i x=Lt n λk=>if k=i then x else f k:=by
 apply Lt_ext
 ·rw [List.length_set,Lt_len]
 ·intro k hk
  by_cases e:k=i
  ·subst e;rw [List.getElem?_set_self (by rw [Lt_len];exact hk),if_pos rfl]
  ·rw [List.getElem?_set_ne (Ne.symm e),Lt_get hk,if_neg e]
theorem Lt_succ:Lt n f++[f n]=Lt (n+1) f:=by unfold Lt;rw [List.range_succ,List.map_append];rfl
theorem Lt_app {x:Int} (hn:n<=1000) (hx:x=f n):apn (Lt n f) [x]=some (Lt (n+1) f):=by
 unfold apn
 rw [if_pos (by rw [Lt_len];simp;omega),hx,Lt_succ]
def Pl (n:Nat) (p:Pm):List Int:=Lt n λk=>((p.f k:Nat):Int)
theorem Pl_len {p:Pm}:(Pl n p).length=n:=Lt_len
def Pm.inv (p:Pm):Pm:=⟨p.g,p.f,p.fg,p.gf⟩
theorem ok.inv {p:Pm} (o:ok n p):ok n p.inv:=λx hx=>⟨(o x hx).2,(o x hx).1⟩
theorem inv_step {p:Pm} {k:Nat}:(λv:Nat=>if v=p.f k then (k:Int) else if p.g v<k then ((p.g v:Nat):Int) else 0)=λv=>if p.g v<k+1 then ((p.g v:Nat):Int) else 0:=by
 funext v
 by_cases e:v=p.f k
 ·subst e;rw [if_pos rfl,p.gf,if_pos (by omega)]
 ·have:p.g v≠k:=λq=>e (by rw [<- q,p.fg])
  rw [if_neg e]
  by_cases c:p.g v<k
  ·rw [if_pos c,if_pos (by omega)]
  ·rw [if_neg c,if_neg (by omega)]
theorem Tb {p:Pm} (hn:n<=1000) (o:ok n p):∀ (m g k:Nat),n - k=m->m<g->k<=n ->
  a_.pl29 F g (Lt n λv=>if p.g v<k then ((p.g v:Nat):Int) else 0) (Pl n p) n k=some (Pl n p.inv):=by
 intro m
 induction m with
 | zero=>
  intro g k hm hg hk
  obtain ⟨g,rfl⟩:∃ g',g=g'+1:=⟨g - 1,by omega⟩
  rw [a_.pl29,decide_eq_false (by omega),cond_false]
  exact congrArg some (Lt_congr λv hv=>if_pos (by have:=(o v hv).2;omega))
 | succ m ih=>
  intro g k hm hg hk
  obtain ⟨g,rfl⟩:∃ g',g=g'+1:=⟨g - 1,by omega⟩
  have hpk:=(o k (by omega)).1
  rw [a_.pl29,decide_eq_true (by omega),cond_true]
  unfold Pl
  rw [ix_Lt (by omega) (by omega),Option.bind_some,Int.toNat_natCast,gt_Lt (by omega),ix_Lt (by omega) (by omega),Option.bind_some,Option.bind_some,Int.toNat_natCast,Lt_set,inv_step,aS (by omega) (by omega)]
  exact ih g (k+1) (by omega) (by omega) (by omega)
theorem mkn_Lt (hn:n<=1000):mkn (n:Int) (0:Int)=some (Lt n λ_=>0):=by
 unfold mkn
 rw [if_pos (by omega),Int.toNat_natCast]
 exact congrArg some (Lt_ext (by rw [List.length_replicate]) λk hk=>by rw [List.getElem?_replicate,if_pos hk])
theorem kF {p:Pm} (hn:n<=1000) (hF:n<F) (o:ok n p):a_.p F (Pl n p)=some (Pl n p.inv):=by
 unfold a_.p
 rw [Pl_len,mkn_Lt hn,Option.bind_some]
 exact Tb hn o n F 0 (by omega) hF (by omega)
theorem Tc {p:Pm} (hn:n<=1000) (o:ok n p):∀ (m g k:Nat),n - k=m->m<g->k<=n ->
  bW.pl29 F g (Pl n p) (Lt n λv=>if p.g v<k then ((p.g v:Nat):Int) else 0) k=some (Pl n p.inv):=by
 intro m
 induction m with
 | zero=>
  intro g k hm hg hk
  obtain ⟨g,rfl⟩:∃ g',g=g'+1:=⟨g - 1,by omega⟩
  rw [bW.pl29,Pl_len,decide_eq_false (by omega),cond_false]
  exact congrArg some (Lt_congr λv hv=>if_pos (by have:=(o v hv).2;omega))
 | succ m ih=>
  intro g k hm hg hk
  obtain ⟨g,rfl⟩:∃ g',g=g'+1:=⟨g - 1,by omega⟩
  have hpk:=(o k (by omega)).1
  rw [bW.pl29,Pl_len,decide_eq_true (by omega),cond_true]
  unfold Pl
  rw [ix_Lt (by omega) (by omega),Option.bind_some,Int.toNat_natCast,gt_Lt (by omega),ix_Lt (by omega) (by omega),Option.bind_some,Option.bind_some,Int.toNat_natCast,Lt_set,inv_step,aS (by omega) (by omega)]
  exact ih g (k+1) (by omega) (by omega) (by omega)
theorem Td {p:Pm} (hn:n<=1000) (hF:n<F) (o:ok n p):bW.p F (Pl n p)=some (Pl n p.inv):=by
 unfold bW.p
 rw [Pl_len,mkn_Lt hn,Option.bind_some]
 exact Tc hn o n F 0 (by omega) hF (by omega)
theorem pr_step {p:Pm} {j:Nat}:(λk:Nat=>if k=j+1 then ((p.f j:Nat):Int) else if k=j then ((p.f (j+1):Nat):Int) else ((p.f k:Nat):Int))=λk=>(((p.pr j).f k:Nat):Int):=by
 funext k
 show _=((p.f (sw j k):Nat):Int)
 unfold sw
 by_cases e:k=j
 ·subst e;rw [if_neg (by omega),if_pos rfl,if_pos rfl]
 ·by_cases e2:k=j+1
  ·subst e2;rw [if_pos rfl,if_neg (by omega),if_pos rfl]
  ·rw [if_neg e2,if_neg e,if_neg e,if_neg e2]
theorem ut {p:Pm} {j:Nat} (hn:n<=1000) (hj:j+1<n):bP.p F (Pl n p) ((j:Int)+1)=some (Pl n (p.pr j)):=by
 unfold bP.p Pl
 rw [aS (by omega) (by omega),show (j:Int)+1 - 1=j by omega]
 simp (disch:=first | omega) only [ix_Lt,Option.bind_some,Lt_set,Int.toNat_natCast,show ((j:Int)+1).toNat=j+1 by omega,gt_Lt]
 exact congrArg (λf=>some (Lt n f)) pr_step
theorem Te {p:Pm} {j:Nat} (hn:n<=1000) (hj:j+1<n):ew.p F (Pl n p) ((j:Int)+1)=some (Pl n (p.pr j)):=by
 unfold ew.p Pl apn
 rw [aS (by omega) (by omega),show (j:Int)+1 - 1=j by omega,if_pos (by rw [Lt_len];simp;omega),List.nil_append]
 simp (disch:=first | omega) only [ix_Lt,Option.bind_some,Lt_set,Int.toNat_natCast,show ((j:Int)+1).toNat=j+1 by omega,gt_Lt]
 exact congrArg (λf=>some (Lt n f)) pr_step
theorem end_l {p:Pm} {j:Nat} (hn:n<=1000) (o:ok n p) (hj:j+1<n):∀ (m g k:Nat),n - k=m->m<g->k<=n ->
  aI.pl29 F g (Pl n p) ((j:Int)+1) (Lt k λv=>(((p.po j).f v:Nat):Int)) k=some (Pl n (p.po j)):=by
 intro m
 induction m with
 | zero=>
  intro g k hm hg hk
  obtain ⟨g,rfl⟩:∃ g',g=g'+1:=⟨g - 1,by omega⟩
  obtain rfl:k=n:=by omega
  rw [aI.pl29,Pl_len,decide_eq_false (by omega),cond_false]
  rfl
 | succ m ih=>
  intro g k hm hg hk
  obtain ⟨g,rfl⟩:∃ g',g=g'+1:=⟨g - 1,by omega⟩
  have hpk:=(o k (by omega)).1
  have key:∀ x:Int,x=(((p.po j).f k:Nat):Int)->(apn (Lt k λv=>(((p.po j).f v:Nat):Int)) [x]).bind (λl=>aI.pl29 F g (Pl n p) ((j:Int)+1) l (IntKind.i64.wrap ((k:Int)+1)))=some (Pl n (p.po j)):=λx hx=>by
   rw [Lt_app (f:=λv=>(((p.po j).f v:Nat):Int)) (by omega) hx,Option.bind_some,aS (by omega) (by omega)]
   exact ih g (k+1) (by omega) (by omega) (by omega)
  have hix:ix (Pl n p) (k:Int)=some k:=by unfold Pl;rw [ix_Lt (by omega) (by omega),Int.toNat_natCast]
  have hgt:gt (Pl n p) k=((p.f k:Nat):Int):=by unfold Pl;rw [gt_Lt (by omega)]
  rw [aI.pl29,Pl_len,decide_eq_true (by omega),cond_true,hix,Option.bind_some,hgt,aS (x:=(j:Int)+1 - 1) (by omega) (by omega)]
  unfold aI.pj6 aI.pj5 aI.pj4
  have hpo:(p.po j).f k=sw j (p.f k):=rfl
  by_cases e1:p.f k=j
  ·rw [show ((((p.f k:Nat):Int))==(j:Int)+1 - 1)=true from by simp;omega,cond_true]
   exact key _ (by rw [hpo,e1,sw_l];omega)
  ·rw [show ((((p.f k:Nat):Int))==(j:Int)+1 - 1)=false from by simp;omega,cond_false]
   by_cases e2:p.f k=j+1
   ·rw [show ((((p.f k:Nat):Int))==(j:Int)+1)=true from by simp;omega,cond_true]
    exact key _ (by rw [hpo,e2,sw_r];omega)
   ·rw [show ((((p.f k:Nat):Int))==(j:Int)+1)=false from by simp;omega,cond_false,Option.bind_some]
    exact key _ (by rw [hgt,hpo,sw_ne e1 e2])
theorem zo {p:Pm} {j:Nat} (hn:n<=1000) (hF:n<F) (o:ok n p) (hj:j+1<n):aI.p F (Pl n p) ((j:Int)+1)=some (Pl n (p.po j)):=
 end_l hn o hj n F 0 (by omega) hF (by omega)
def rv (n x:Nat):Nat:=if x<n then n - 1 - x else x
theorem rv_rv (n x:Nat):rv n (rv n x)=x:=by unfold rv;by_cases h:x<n <;> simp only [h,if_true,if_false] <;> (try split) <;> omega
theorem rv_lt {n x:Nat} (h:x<n):rv n x<n:=by unfold rv;rw [if_pos h];omega
def Pm.rev (n:Nat):Pm:=⟨rv n,rv n,rv_rv n,rv_rv n⟩
theorem ok_rev:ok n (Pm.rev n):=λx hx=>⟨rv_lt hx,rv_lt hx⟩
theorem ok_one:ok n Pm.one:=λx hx=>⟨hx,hx⟩
def Pm.turn (n:Nat) (p:Pm):Pm:=⟨λx=>rv n (p.f (rv n x)),λx=>rv n (p.g (rv n x)),λx=>by rw [rv_rv,p.gf,rv_rv],λx=>by rw [rv_rv,p.fg,rv_rv]⟩
theorem ok.turn {p:Pm} (o:ok n p):ok n (p.turn n):=λx hx=>⟨rv_lt (o _ (rv_lt hx)).1,rv_lt (o _ (rv_lt hx)).2⟩
theorem turn_l {p:Pm} (hn:n<=1000) (o:ok n p):∀ (m g k:Nat),n - k=m->m<g->k<=n ->
  bx.pl61 F g ((n:Int) - 1) (Lt n λv=>if rv n v<k then (((p.turn n).f v:Nat):Int) else 0) (Pl n p) n k=some (Pl n (p.turn n)):=by
 intro m
 induction m with
 | zero=>
  intro g k hm hg hk
  obtain ⟨g,rfl⟩:∃ g',g=g'+1:=⟨g - 1,by omega⟩
  rw [bx.pl61,decide_eq_false (by omega),cond_false]
  exact congrArg some (Lt_congr λv hv=>if_pos (by have:=rv_lt hv;omega))
 | succ m ih=>
  intro g k hm hg hk
  obtain ⟨g,rfl⟩:∃ g',g=g'+1:=⟨g - 1,by omega⟩
  have hpk:=(o k (by omega)).1
  have hix:ix (Pl n p) (k:Int)=some k:=by unfold Pl;rw [ix_Lt (by omega) (by omega),Int.toNat_natCast]
  have hgt:gt (Pl n p) k=((p.f k:Nat):Int):=by unfold Pl;rw [gt_Lt (by omega)]
  rw [bx.pl61,decide_eq_true (by omega),cond_true,hix,Option.bind_some,hgt,aS (x:=(n:Int) - 1 - k) (by omega) (by omega),ix_Lt (by omega) (by omega),Option.bind_some,Option.bind_some,Lt_set,aS (x:=(k:Int)+1) (by omega) (by omega),aS (x:=(n:Int) - 1 - (p.f k:Nat)) (by omega) (by omega)]
  have e:(λv:Nat=>if v=((n:Int) - 1 - k).toNat then (n:Int) - 1 - (p.f k:Nat) else if rv n v<k then (((p.turn n).f v:Nat):Int) else 0)=λv=>if rv n v<k+1 then (((p.turn n).f v:Nat):Int) else 0:=by
   funext v
   by_cases c:v=((n:Int) - 1 - k).toNat
   ·have hv:v=n - 1 - k:=by omega
    have h1:rv n v=k:=by unfold rv;rw [if_pos (by omega)];omega
    have h2:(p.turn n).f v=n - 1 - p.f k:=by show rv n (p.f (rv n v))=_;rw [h1];unfold rv;rw [if_pos hpk]
    rw [if_pos c,h1,if_pos (by omega),h2];omega
   ·have h1:rv n v≠k:=λq=>c (by have h:=rv_rv n v;rw [q] at h;rw [<- h];unfold rv;rw [if_pos (by omega)];omega)
    rw [if_neg c]
    by_cases c2:rv n v<k
    ·rw [if_pos c2,if_pos (by omega)]
    ·rw [if_neg c2,if_neg (by omega)]
  rw [e]
  exact ih g (k+1) (by omega) (by omega) (by omega)
theorem Tf {p:Pm} (hn:n<=1000) (hF:n<F) (o:ok n p):bx.p F (Pl n p)=some (Pl n (p.turn n)):=by
 unfold bx.p db.p
 rw [Option.bind_some,Pl_len,mkn_Lt hn,Option.bind_some,aS (by omega) (by omega)]
 exact turn_l hn o n F 0 (by omega) hF (by omega)
theorem flip_l {p:Pm} (hn:n<=1000) (o:ok n p):∀ (m g k:Nat),n - k=m->m<g->k<=n ->
  bI.pl61 F g (Pl n p) n (Lt k λv=>(((p.turn n).f v:Nat):Int)) k=some (Pl n (p.turn n)):=by
 intro m
 induction m with
 | zero=>
  intro g k hm hg hk
  obtain ⟨g,rfl⟩:∃ g',g=g'+1:=⟨g - 1,by omega⟩
  obtain rfl:k=n:=by omega
  rw [bI.pl61,decide_eq_false (by omega),cond_false]
  rfl
 | succ m ih=>
  intro g k hm hg hk
  obtain ⟨g,rfl⟩:∃ g',g=g'+1:=⟨g - 1,by omega⟩
  have hk1:n - 1 - k<n:=by omega
  have hpk:=(o _ hk1).1
  have e0:((n:Int) - 1 - k)=((n - 1 - k:Nat):Int):=by omega
  have hix:ix (Pl n p) ((n:Int) - 1 - k)=some (n - 1 - k):=by unfold Pl;rw [ix_Lt (by omega) (by omega),e0,Int.toNat_natCast]
  have hgt:gt (Pl n p) (n - 1 - k)=((p.f (n - 1 - k):Nat):Int):=by unfold Pl;rw [gt_Lt (by omega)]
  have h1:rv n k=n - 1 - k:=by unfold rv;rw [if_pos (by omega)]
  have h2:(p.turn n).f k=n - 1 - p.f (n - 1 - k):=by show rv n (p.f (rv n k))=_;rw [h1];unfold rv;rw [if_pos hpk]
  rw [bI.pl61,decide_eq_true (by omega),cond_true,aS (x:=(n:Int) - 1) (by omega) (by omega),aS (x:=(n:Int) - 1 - k) (by omega) (by omega),hix,Option.bind_some,hgt,aS (x:=(n:Int) - 1 - (p.f (n - 1 - k):Nat)) (by omega) (by omega),Lt_app (by omega) (by rw [h2];omega),Option.bind_some,aS (by omega) (by omega)]
  exact ih g (k+1) (by omega) (by omega) (by omega)
theorem Tg {p:Pm} (hn:n<=1000) (hF:n<F) (o:ok n p):bI.p F (Pl n p)=some (Pl n (p.turn n)):=by
 unfold bI.p
 rw [Pl_len]
 exact flip_l hn o n F 0 (by omega) hF (by omega)
theorem count_l (hn:n<=1000):∀ (m g k:Nat),n - k=m->m<g->k<=n->bc.pl29 F g (Lt k λv=>(v:Int)) n k=some (Pl n Pm.one):=by
 intro m
 induction m with
 | zero=>
  intro g k hm hg hk
  obtain ⟨g,rfl⟩:∃ g',g=g'+1:=⟨g - 1,by omega⟩
  obtain rfl:k=n:=by omega
  rw [bc.pl29,decide_eq_false (by omega),cond_false];rfl
 | succ m ih=>
  intro g k hm hg hk
  obtain ⟨g,rfl⟩:∃ g',g=g'+1:=⟨g - 1,by omega⟩
  rw [bc.pl29,decide_eq_true (by omega),cond_true,Lt_app (by omega) rfl,Option.bind_some,aS (by omega) (by omega)]
  exact ih g (k+1) (by omega) (by omega) (by omega)
theorem kG (hn:n<=1000) (hF:n<F):bc.p F n=some (Pl n Pm.one):=count_l hn n F 0 (by omega) hF (by omega)
theorem ident_l (hn:n<=1000):∀ (m g k:Nat),n - k=m->m<g->k<=n->bD.pl29 F g n (Lt k λv=>(v:Int)) k=some (Pl n Pm.one):=by
 intro m
 induction m with
 | zero=>
  intro g k hm hg hk
  obtain ⟨g,rfl⟩:∃ g',g=g'+1:=⟨g - 1,by omega⟩
  obtain rfl:k=n:=by omega
  rw [bD.pl29,decide_eq_false (by omega),cond_false];rfl
 | succ m ih=>
  intro g k hm hg hk
  obtain ⟨g,rfl⟩:∃ g',g=g'+1:=⟨g - 1,by omega⟩
  rw [bD.pl29,decide_eq_true (by omega),cond_true,Lt_app (by omega) rfl,Option.bind_some,aS (by omega) (by omega)]
  exact ih g (k+1) (by omega) (by omega) (by omega)
theorem HA (hn:n<=1000) (hF:n<F):bD.p F n=some (Pl n Pm.one):=ident_l hn n F 0 (by omega) hF (by omega)
theorem revs_l (hn:n<=1000):∀ (m g k:Nat),n - k=m->m<g->k<=n->bE.pl29 F g n (Lt k λv=>((rv n v:Nat):Int)) k=some (Pl n (Pm.rev n)):=by
 intro m
 induction m with
 | zero=>
  intro g k hm hg hk
  obtain ⟨g,rfl⟩:∃ g',g=g'+1:=⟨g - 1,by omega⟩
  obtain rfl:k=n:=by omega
  rw [bE.pl29,decide_eq_false (by omega),cond_false];rfl
 | succ m ih=>
  intro g k hm hg hk
  obtain ⟨g,rfl⟩:∃ g',g=g'+1:=⟨g - 1,by omega⟩
  have h1:rv n k=n - 1 - k:=by unfold rv;rw [if_pos (by omega)]
  rw [bE.pl29,decide_eq_true (by omega),cond_true,aS (x:=(n:Int) - 1) (by omega) (by omega),aS (x:=(n:Int) - 1 - k) (by omega) (by omega),Lt_app (by omega) (by rw [h1];omega),Option.bind_some,aS (by omega) (by omega)]
  exact ih g (k+1) (by omega) (by omega) (by omega)
theorem HB (hn:n<=1000) (hF:n<F):bE.p F n=some (Pl n (Pm.rev n)):=revs_l hn n F 0 (by omega) hF (by omega)
theorem pi (hn:n<=6) (hF:100<F):cy.p F n=some (Pl n (Pm.rev n)):=by
 unfold cy.p
 rw [kG (by omega) (by omega),Option.bind_some]
 obtain ⟨f,rfl⟩:∃ f,F=f+20:=⟨F - 20,by omega⟩
 have:ch.p (f+20) (Pl n Pm.one)=some (Pl n (Pm.rev n)):=by
  match n,hn with
  | 0,_=>rfl
  | 1,_=>rfl
  | 2,_=>rfl
  | 3,_=>rfl
  | 4,_=>rfl
  | 5,_=>rfl
  | 6,_=>rfl
 rw [this];rfl
theorem Th {x:Int} (h0:-1000<=x) (h1:x<=1000):cE.p F x=some (if x<0 then -x else x):=by
 unfold cE.p
 by_cases h:x<0
 ·rw [decide_eq_true h,cond_true,if_pos h,aS (by omega) (by omega),Int.zero_sub]
 ·rw [decide_eq_false h,cond_false,if_neg h]
end Go.Proofs.Ytodfdhnlhiaohaa.AE
end
section
namespace Go.Proofs.Ytodfdhnlhiaohaa.AE
open Go Go.AE Go.Proofs
variable {n F:Nat}
def Ss (n:Nat) (L M:List Pm):Prop:=∃ K,St n L K/\Sts n K M
theorem Ss.sts {L M:List Pm} (h:Ss n L M):Sts n L M:=by obtain ⟨K,a,b⟩:=h;exact .step _ _ _ a b
theorem Sts.le {L M:List Pm} (h:Sts n L M) (o:oks n L):ms n M<=ms n L:=by
 induction h with
 | refl=>exact Nat.le_refl _
 | step L M N h _ ih=>exact Nat.le_trans (ih (h.ok o)) (Nat.le_of_lt (h.less o))
theorem Ss.lt {L M:List Pm} (h:Ss n L M) (o:oks n L):ms n M<ms n L:=by
 obtain ⟨K,a,b⟩:=h
 exact Nat.lt_of_le_of_lt (b.le (a.ok o)) (a.less o)
theorem Ss.trans {L M N:List Pm} (h:Ss n L M) (t:Sts n M N):Ss n L N:=by obtain ⟨K,a,b⟩:=h;exact ⟨K,a,b.trans t⟩
theorem Sts.ss {L M N:List Pm} (h:Sts n L M) (t:Ss n M N):Ss n L N:=by
 cases h with
 | refl=>exact t
 | step _ K _ a b=>exact ⟨K,a,b.trans t.sts⟩
theorem Ss.app {L M:List Pm} (h:Ss n L M) (B:List Pm):Ss n (L++B) (M++B):=by obtain ⟨K,a,b⟩:=h;exact ⟨_,a.app B,b.app B⟩
theorem Ss.tail {p:Pm} {L M:List Pm} (h:Ss n L M):Ss n (p::L) (p::M):=by obtain ⟨K,a,b⟩:=h;exact ⟨_,.tail _ _ _ a,b.tail⟩
theorem Ss.one {L M:List Pm} (h:St n L M):Ss n L M:=⟨M,h,.refl _⟩
def stk (n:Nat) (p q:Pm):Prop:=∀ j,¬ can n p q j
def Stk (n:Nat):List Pm->Prop
 | []=>True
 | [_]=>True
 | p::q::t=>stk n p q/\Stk n (q::t)
theorem Stk.stuck:∀ {L:List Pm},Stk n L->stuck n L
 | [],_,M,h=>by cases h
 | [p],_,M,h=>by cases h with | tail _ _ L' h'=>cases h'
 | p::q::t,hs,M,h=>by
  cases h with
  | head _ _ _ i h'=>exact hs.1 i h'
  | tail _ _ L' h'=>exact Stk.stuck hs.2 _ h'
theorem can_dec {p q:Pm} {j:Nat} (h1:j+1<n):can n p q j↔q.f (j+1)<q.f j/\p.g j<p.g (j+1):=⟨λh=>⟨h.2.2,h.2.1⟩,λh=>⟨h1,h.2,h.1⟩⟩
theorem ix_Pl {p:Pm} {j:Nat} (hj:j<n):ix (Pl n p) (j:Int)=some j:=by unfold Pl;rw [ix_Lt (by omega) (by omega),Int.toNat_natCast]
theorem gt_Pl {p:Pm} {j:Nat} (hj:j<n):gt (Pl n p) j=((p.f j:Nat):Int):=by unfold Pl;rw [gt_Lt hj]
theorem sh_in (hn:n<=1000) (hF:n<F) {pC}:∀ (m g j:Nat) (p q:Pm) (b a:Bool),n - (j+1)=m->m<g->j+1<=n->ok n p->ok n q ->
  ∃ p' q' c,aB.pl943 F pC g (Pl n p) (Pl n q) b a (Pl n p.inv) ((j:Int)+1)=pC (Pl n p') (Pl n q') (b || c) (a || c)/\Sts n [p,q] [p',q']/\ok n p'/\ok n q' /\
   (c=false->p'=p/\q'=q/\∀ i,j<=i->¬ can n p q i)/\(c=true->Ss n [p,q] [p',q']):=by
 intro m
 induction m with
 | zero=>
  intro g j p q b a hm hg hj o1 o2
  obtain ⟨g,rfl⟩:∃ g',g=g'+1:=⟨g - 1,by omega⟩
  rw [aB.pl943]
  unfold db.p
  rw [Option.bind_some,Pl_len,decide_eq_false (by omega),cond_false]
  refine ⟨p,q,false,?_,.refl _,o1,o2,λ_=>⟨rfl,rfl,λi hi hc=>?_⟩,λh=>by cases h⟩
  ·rw [Bool.or_false,Bool.or_false];rfl
  ·have:=hc.1;omega
 | succ m ih=>
  intro g j p q b a hm hg hj o1 o2
  obtain ⟨g,rfl⟩:∃ g',g=g'+1:=⟨g - 1,by omega⟩
  have hj1:j+1<n:=by omega
  have hw:IntKind.i64.wrap ((j:Int)+1+1)=((j+1:Nat):Int)+1:=by rw [aS (by omega) (by omega)];omega
  have hw2:IntKind.i64.wrap ((j:Int)+1 - 1)=(j:Int):=by rw [aS (by omega) (by omega)];omega
  have i1:∀ r:Pm,ix (Pl n r) ((j:Int)+1)=some (j+1):=λr=>ix_Pl (j:=j+1) (by omega)
  have i2:∀ r:Pm,ix (Pl n r) (j:Int)=some j:=λr=>ix_Pl (by omega)
  have g1:∀ r:Pm,gt (Pl n r) j=((r.f j:Nat):Int):=λr=>gt_Pl (by omega)
  have g2:∀ r:Pm,gt (Pl n r) (j+1)=((r.f (j+1):Nat):Int):=λr=>gt_Pl (by omega)
  have skip:¬ can n p q j->∃ p' q' c,aB.pl943 F pC g (Pl n p) (Pl n q) b a (Pl n p.inv) (((j+1:Nat):Int)+1)=pC (Pl n p') (Pl n q') (b || c) (a || c)/\Sts n [p,q] [p',q']/\ok n p'/\ok n q' /\
   (c=false->p'=p/\q'=q/\∀ i,j<=i->¬ can n p q i)/\(c=true->Ss n [p,q] [p',q']):=λhno=>by
   obtain ⟨p',q',c,e,h1,h2,h3,h4,h5⟩:=ih g (j+1) p q b a (by omega) (by omega) (by omega) o1 o2
   refine ⟨p',q',c,e,h1,h2,h3,λhc=>⟨(h4 hc).1,(h4 hc).2.1,λi hi=>?_⟩,h5⟩
   by_cases e:i=j
   ·subst e;exact hno
   ·exact (h4 hc).2.2 i (by omega)
  rw [aB.pl943]
  unfold db.p
  rw [Option.bind_some,Pl_len,decide_eq_true (by omega),cond_true]
  simp only [hw2,i1,i2,g1,g2,Option.bind_some]
  by_cases c1:((q.f j:Nat):Int)>((q.f (j+1):Nat):Int)
  ·rw [decide_eq_true c1,cond_true]
   by_cases c2:((p.inv.f j:Nat):Int)<((p.inv.f (j+1):Nat):Int)
   ·have hcan:can n p q j:=(can_dec hj1).2 ⟨by omega,by have:p.inv.f=p.g:=rfl;rw [this] at c2;omega⟩
    have oi:ok n (p.inv.pr j):=o1.inv.pr hj1
    rw [decide_eq_true c2,cond_true,ut hn hj1,Option.bind_some,ut hn hj1,Option.bind_some,kF hn hF oi,Option.bind_some]
    have e1:cpl (Pl n p) (Pl n (p.inv.pr j).inv)=Pl n (p.po j):=by
     unfold cpl
     rw [List.take_of_length_le (by rw [Pl_len,Pl_len];omega),List.drop_eq_nil_of_le (by rw [Pl_len,Pl_len];omega),List.append_nil]
     rfl
    rw [e1]
    unfold aB.pj8
    rw [hw]
    have e2:p.inv.pr j=(p.po j).inv:=rfl
    rw [e2]
    obtain ⟨p',q',c,e,h1,h2,h3,h4,h5⟩:=ih g (j+1) (p.po j) (q.pr j) true true (by omega) (by omega) (by omega) (o1.po hj1) (o2.pr hj1)
    refine ⟨p',q',true,?_,?_,h2,h3,(by intro h;cases h),λ_=>?_⟩
    ·rw [e];simp
    ·exact .step _ _ _ (.head p q [] j hcan) h1
    ·exact (Ss.one (.head p q [] j hcan)).trans h1
   ·rw [decide_eq_false c2,cond_false]
    unfold aB.pj8
    rw [hw]
    exact skip λh=>c2 (by have:=((can_dec hj1).1 h).2;have e:p.inv.f=p.g:=rfl;rw [e];omega)
  ·rw [decide_eq_false c1,cond_false,hw]
   exact skip λh=>c1 (by have:=((can_dec hj1).1 h).1;omega)
theorem sh_out (hn:n<=1000) (hn0:0<n) (hF:n<F):∀ (m g:Nat) (p q:Pm) (b:Bool),ms n [p,q]<m->m<g->ok n p->ok n q ->
  ∃ p' q' c,aB.pl29 F g (Pl n p) (Pl n q) b true=some (b || c,Pl n p',Pl n q')/\Sts n [p,q] [p',q']/\ok n p'/\ok n q'/\stk n p' q'/\(c=false->p'=p/\q'=q)/\(c=true->Ss n [p,q] [p',q']):=by
 intro m
 induction m with
 | zero=>intro g p q b h;omega
 | succ m ih=>
  intro g p q b hm hg o1 o2
  obtain ⟨g,rfl⟩:∃ g',g=g'+2:=⟨g - 2,by omega⟩
  rw [aB.pl29,cond_true,kF hn hF o1,Option.bind_some]
  obtain ⟨p',q',c,e,h1,h2,h3,h4,h5⟩:=sh_in (F:=F) (pC:=aB.pl29 F (g+1)) hn hF (n - 1) F 0 p q b false (by omega) (by omega) (by omega) o1 o2
  have e:aB.pl943 F (aB.pl29 F (g+1)) F (Pl n p) (Pl n q) b false (Pl n p.inv) 1=_:=e
  rw [e]
  have oo:oks n [p,q]:=λx hx=>by
   simp only [List.mem_cons,List.not_mem_nil,or_false] at hx
   rcases hx with rfl | rfl
   ·exact o1
   ·exact o2
  cases c with
  | false=>
   obtain ⟨rfl,rfl,h6⟩:=h4 rfl
   rw [Bool.or_false,Bool.or_false,aB.pl29,cond_false]
   exact ⟨p',q',false,by rw [Bool.or_false],h1,h2,h3,λj=>h6 j (Nat.zero_le _),λ_=>⟨rfl,rfl⟩,λh=>by cases h⟩
  | true=>
   rw [Bool.or_true,Bool.or_true]
   obtain ⟨p2,q2,c2,e2,k1,k2,k3,k4,k5,k6⟩:=ih (g+1) p' q' true (by have:=(h5 rfl).lt oo;omega) (by omega) h2 h3
   refine ⟨p2,q2,true,by rw [e2];simp,h1.trans k1,k2,k3,k4,?_,λ_=>(h5 rfl).trans k1⟩
   intro h;cases h
theorem oks_pair {p q:Pm} {t:List Pm} (o:oks n (p::q::t)):ok n p/\ok n q/\oks n (q::t):=⟨o p (by simp),o q (by simp),λx hx=>o x (List.mem_cons_of_mem _ hx)⟩
theorem Ti (hn:n<=1000) (hn0:0<n) {p q:Pm} (hF:n<F) (hm:ms n [p,q]+2<F) (o1:ok n p) (o2:ok n q) :
  ∃ p' q' c,aB.p F (Pl n p) (Pl n q)=some (c,Pl n p',Pl n q')/\Sts n [p,q] [p',q']/\ok n p'/\ok n q'/\stk n p' q'/\(c=false->p'=p/\q'=q)/\(c=true->Ss n [p,q] [p',q']):=by
 obtain ⟨p',q',c,e,h⟩:=sh_out (F:=F) hn hn0 hF (ms n [p,q]+1) F p q false (by omega) (by omega) o1 o2
 exact ⟨p',q',c,by unfold aB.p;rw [e,Bool.false_or],h⟩
theorem ms_pair (hn0:0<n) {p q:Pm} (o1:ok n p) (o2:ok n q):ms n [p,q]<=n * (n * n) * n+n * (n * n):=by
 have key:∀ r:Pm,ok n r->sm r.f n<=n * (n * n):=λr o=>su_le λx hx=>Nat.mul_le_mul (Nat.le_of_lt hx) (Nat.le_of_lt (o x hx).1)
 have h1:=Nat.mul_le_mul_right n (key p o1)
 have h2:=key q o2
 simp only [ms,List.length_cons,List.length_nil,Nat.pow_one,Nat.pow_zero,Nat.mul_one]
 have e:n ^ (0+1)=n:=by rw [Nat.zero_add,Nat.pow_one]
 rw [e]
 omega
theorem pas_all (hn:n<=6) (hn0:0<n) (hF:100000<F):∀ (t:List Pm) (p:Pm),oks n (p::t) ->
  ∃ c M,pas (aB.p F) (Pl n p) (t.map (Pl n))=some (c,M.map (Pl n))/\Sts n (p::t) M/\M.length=t.length+1/\(c=false->M=p::t/\Stk n (p::t))/\(c=true->Ss n (p::t) M):=by
 intro t
 induction t with
 | nil=>
  intro p o
  exact ⟨false,[p],rfl,.refl _,rfl,λ_=>⟨rfl,trivial⟩,λh=>by cases h⟩
 | cons q t ih=>
  intro p o
  obtain ⟨o1,o2,o3⟩:=oks_pair o
  have hb:=ms_pair hn0 o1 o2
  have hb2:n * (n * n) * n+n * (n * n)<=6 * (6 * 6) * 6+6 * (6 * 6):=by
   have a1:n * n<=6 * 6:=Nat.mul_le_mul hn hn
   have a2:=Nat.mul_le_mul hn a1
   have a3:=Nat.mul_le_mul a2 hn
   omega
  obtain ⟨p',q',c,e,h1,h2,h3,h4,h5,h6⟩:=Ti (F:=F) (by omega) hn0 (by omega) (by omega) o1 o2
  have o4:oks n (q'::t):=λx hx=>by
   rcases List.mem_cons.1 hx with rfl | hx
   ·exact h3
   ·exact o3 x (List.mem_cons_of_mem _ hx)
  obtain ⟨c2,M,e2,k1,k2,k3,k4⟩:=ih q' o4
  refine ⟨c || c2,p'::M,?_,?_,by simp [k2],?_,?_⟩
  ·rw [List.map_cons,pas,e,Option.bind_some,e2,Option.bind_some];rfl
  ·have:=(h1.app t).trans k1.tail
   exact this
  ·intro hc
   obtain ⟨c1,c3⟩:c=false/\c2=false:=by cases c <;> cases c2 <;> simp_all
   obtain ⟨rfl,rfl⟩:=h5 c1
   obtain ⟨rfl,h7⟩:=k3 c3
   exact ⟨rfl,h4,h7⟩
  ·intro hc
   cases c with
   | true=>exact ((h6 rfl).app t).trans k1.tail
   | false=>
    obtain ⟨rfl,rfl⟩:=h5 rfl
    exact (k4 (by simpa using hc)).tail
theorem fin_all (hn:n<=6) (hn0:0<n) (hF:100000<F):∀ (m g:Nat) (L:List Pm),ms n L<m->m<=g->oks n L->L.length<=1000 ->
  ∃ M,kQ (aB.p F) F g (L.map (Pl n))=some (M.map (Pl n))/\Sts n L M/\Stk n M/\M.length=L.length:=by
 intro m
 induction m with
 | zero=>intro g L h;omega
 | succ m ih=>
  intro g L hm hg o hl
  obtain ⟨g,rfl⟩:∃ g',g=g'+1:=⟨g - 1,by omega⟩
  rw [kQ,if_pos (by rw [List.length_map];omega)]
  match L,o,hm,hl with
  | [],_,_,_=>exact ⟨[],rfl,.refl _,trivial,rfl⟩
  | p::t,o,hm,hl=>
   obtain ⟨c,M,e,h1,h2,h3,h4⟩:=pas_all (F:=F) hn hn0 hF t p o
   rw [List.map_cons,zZ,e,Option.bind_some]
   cases c with
   | false=>
    obtain ⟨rfl,h5⟩:=h3 rfl
    exact ⟨_,rfl,h1,h5,rfl⟩
   | true=>
    rw [cond_true]
    obtain ⟨M2,e2,k1,k2,k3⟩:=ih g M (by have:=(h4 rfl).lt o;omega) (by omega) (h1.ok o) (by rw [h2];rw [List.length_cons] at hl;omega)
    exact ⟨M2,e2,h1.trans k1,k2,by rw [k3,h2];rfl⟩
end Go.Proofs.Ytodfdhnlhiaohaa.AE
end
section
namespace Go.Proofs.Ytodfdhnlhiaohaa.AE
open Go Go.AE Go.Proofs
variable {n F:Nat}
theorem slide_l (hn:n<=1000) (hF:n<F) {p q:Pm} (o1:ok n p) (o2:ok n q):∀ (m g j:Nat),n - (j+1)=m->m<g->j+1<=n ->
  (∃ i,can n p q i/\bg.pl29 F g (Pl n p) (Pl n q) (Pl n p.inv) ((j:Int)+1)=some (Pl n (p.po i),Pl n (q.pr i),true)) \/
  ((∀ i,j<=i->¬ can n p q i)/\bg.pl29 F g (Pl n p) (Pl n q) (Pl n p.inv) ((j:Int)+1)=some (Pl n p,Pl n q,false)):=by
 intro m
 induction m with
 | zero=>
  intro g j hm hg hj
  obtain ⟨g,rfl⟩:∃ g',g=g'+1:=⟨g - 1,by omega⟩
  right
  rw [bg.pl29,Pl_len,decide_eq_false (by omega),cond_false]
  exact ⟨λi hi hc=>by have:=hc.1;omega,rfl⟩
 | succ m ih=>
  intro g j hm hg hj
  obtain ⟨g,rfl⟩:∃ g',g=g'+1:=⟨g - 1,by omega⟩
  have hj1:j+1<n:=by omega
  have hw:IntKind.i64.wrap ((j:Int)+1+1)=((j+1:Nat):Int)+1:=by rw [aS (by omega) (by omega)];omega
  have hw2:IntKind.i64.wrap ((j:Int)+1 - 1)=(j:Int):=by rw [aS (by omega) (by omega)];omega
  have i1:∀ r:Pm,ix (Pl n r) ((j:Int)+1)=some (j+1):=λr=>ix_Pl (j:=j+1) (by omega)
  have i2:∀ r:Pm,ix (Pl n r) (j:Int)=some j:=λr=>ix_Pl (by omega)
  have g1:∀ r:Pm,gt (Pl n r) j=((r.f j:Nat):Int):=λr=>gt_Pl (by omega)
  have g2:∀ r:Pm,gt (Pl n r) (j+1)=((r.f (j+1):Nat):Int):=λr=>gt_Pl (by omega)
  have skip:¬ can n p q j->(∃ i,can n p q i/\bg.pl29 F g (Pl n p) (Pl n q) (Pl n p.inv) (((j+1:Nat):Int)+1)=some (Pl n (p.po i),Pl n (q.pr i),true)) \/
    ((∀ i,j<=i->¬ can n p q i)/\bg.pl29 F g (Pl n p) (Pl n q) (Pl n p.inv) (((j+1:Nat):Int)+1)=some (Pl n p,Pl n q,false)):=λhno=>by
   rcases ih g (j+1) (by omega) (by omega) (by omega) with h | ⟨h1,h2⟩
   ·exact .inl h
   ·refine .inr ⟨λi hi=>?_,h2⟩
    by_cases e:i=j
    ·subst e;exact hno
    ·exact h1 i (by omega)
  rw [bg.pl29,Pl_len,decide_eq_true (by omega),cond_true]
  simp only [hw2,i1,i2,g1,g2,Option.bind_some]
  by_cases c1:((q.f j:Nat):Int)>((q.f (j+1):Nat):Int)
  ·rw [decide_eq_true c1,cond_true]
   by_cases c2:((p.inv.f j:Nat):Int)<((p.inv.f (j+1):Nat):Int)
   ·have hcan:can n p q j:=(can_dec hj1).2 ⟨by omega,by have:p.inv.f=p.g:=rfl;rw [this] at c2;omega⟩
    rw [decide_eq_true c2,cond_true,zo hn hF o1 hj1,Option.bind_some,Te hn hj1,Option.bind_some]
    exact .inl ⟨j,hcan,rfl⟩
   ·rw [decide_eq_false c2,cond_false,hw]
    exact skip λh=>c2 (by have:=((can_dec hj1).1 h).2;have e:p.inv.f=p.g:=rfl;rw [e];omega)
  ·rw [decide_eq_false c1,cond_false,hw]
   exact skip λh=>c1 (by have:=((can_dec hj1).1 h).1;omega)
theorem Tj (hn:n<=1000) (hn0:0<n) (hF:n<F) {p q:Pm} (o1:ok n p) (o2:ok n q) :
  (∃ i,can n p q i/\bg.p F (Pl n p) (Pl n q)=some (Pl n (p.po i),Pl n (q.pr i),true))\/(stk n p q/\bg.p F (Pl n p) (Pl n q)=some (Pl n p,Pl n q,false)):=by
 unfold bg.p
 rw [Td hn hF o1,Option.bind_some]
 rcases slide_l (F:=F) hn hF o1 o2 (n - 1) F 0 (by omega) (by omega) (by omega) with h | ⟨h1,h2⟩
 ·exact .inl h
 ·exact .inr ⟨λj=>h1 j (Nat.zero_le _),h2⟩
theorem gt_of {α:Type} [Inhabited α] {l:List α} {k:Nat} {x:α} (h:l[k]?=some x):gt l k=x:=by unfold gt;rw [List.getD_eq_getElem?_getD,h];rfl
theorem ix_of {α:Type} {l:List α} {k:Nat} (h:k<l.length):ix l (k:Int)=some k:=by unfold ix;rw [if_pos ⟨by omega,by omega⟩,Int.toNat_natCast]
theorem set_mid1 {α:Type} {A B:List α} {x y:α} {k:Nat} (hk:k=A.length):(A++x::B).set k y=A++y::B:=by
 subst hk
 rw [List.set_append_right _ _ (Nat.le_refl _),Nat.sub_self];rfl
theorem get_mid1 {α:Type} {A B:List α} {x:α} {k:Nat} (hk:k=A.length):(A++x::B)[k]?=some x:=by
 subst hk
 rw [List.getElem?_append_right (Nat.le_refl _),Nat.sub_self];rfl
theorem Stk.of:∀ {L:List Pm},(∀ A p q B,L=A++p::q::B->stk n p q)->Stk n L
 | [],_=>trivial
 | [_],_=>trivial
 | p::q::t,h=>⟨h [] p q t rfl,Stk.of λA x y B e=>h (p::A) x y B (by rw [e];rfl)⟩
theorem weight_l (hn:n<=1000) (hn0:0<n) (hF:n<F):∀ (m g k:Nat) (L:List Pm),ms n L * (L.length+2)+(L.length - k)<m->m<=g->L.length<=1000->k<=L.length->oks n L->(∀ A p q B,L=A++p::q::B->A.length<k->stk n p q) ->
  ∃ M,aT.pl29 F g (L.map (Pl n)) k=some (M.map (Pl n))/\Sts n L M/\Stk n M:=by
 intro m
 induction m with
 | zero=>intro g k L h;omega
 | succ m ih=>
  intro g k L hm hg hl hk o hs
  obtain ⟨g,rfl⟩:∃ g',g=g'+1:=⟨g - 1,by omega⟩
  have hw:IntKind.i64.wrap ((k:Int)+1)=((k+1:Nat):Int):=by rw [aS (by omega) (by omega)];omega
  rw [aT.pl29,hw,List.length_map]
  by_cases c:k+1<L.length
  ·rw [decide_eq_true (by omega),cond_true]
   obtain ⟨A,p,q,B,rfl,hA⟩:∃ A p q B,L=A++p::q::B/\A.length=k:=by
    refine ⟨L.take k,L[k],L[k+1],L.drop (k+2),?_,by rw [List.length_take];omega⟩
    rw [<- List.drop_eq_getElem_cons c,<-List.drop_eq_getElem_cons (by omega),List.take_append_drop]
   have o1:ok n p:=o p (by simp)
   have o2:ok n q:=o q (by simp)
   have hA2:k=(A.map (Pl n)).length:=by rw [List.length_map];omega
   have e1:((A++p::q::B).map (Pl n))=A.map (Pl n)++Pl n p::Pl n q::B.map (Pl n):=by simp
   have i1:ix (A.map (Pl n)++Pl n p::Pl n q::B.map (Pl n)) (k:Int)=some k:=ix_of (by simp;omega)
   have i2:ix (A.map (Pl n)++Pl n p::Pl n q::B.map (Pl n)) ((k+1:Nat):Int)=some (k+1):=ix_of (by simp;omega)
   have e2:∀ x y:List Int,A.map (Pl n)++x::y::B.map (Pl n)=(A.map (Pl n)++[x])++y::B.map (Pl n):=λx y=>by simp
   have g1:gt (A.map (Pl n)++Pl n p::Pl n q::B.map (Pl n)) k=Pl n p:=gt_of (get_mid1 hA2)
   have g2:gt (A.map (Pl n)++Pl n p::Pl n q::B.map (Pl n)) (k+1)=Pl n q:=gt_of (by rw [e2];exact get_mid1 (by simp;omega))
   rw [e1,i1,Option.bind_some,i2,Option.bind_some,g1,g2]
   rcases Tj (F:=F) hn hn0 hF o1 o2 with ⟨i,hc,e⟩ | ⟨hst,e⟩
   ·have hstep:St n (A++p::q::B) (A++p.po i::q.pr i::B):=by
     have:∀ A:List Pm,St n (A++p::q::B) (A++p.po i::q.pr i::B):=λA=>by
      induction A with
      | nil=>exact .head p q B i hc
      | cons a A ih=>exact .tail _ _ _ ih
     exact this A
    have i3:ix (A.map (Pl n)++Pl n (p.po i)::Pl n q::B.map (Pl n)) ((k+1:Nat):Int)=some (k+1):=ix_of (by simp;omega)
    rw [e,Option.bind_some]
    simp only [cond_true,Option.bind_some]
    rw [set_mid1 hA2,i3,Option.bind_some,e2,set_mid1 (by simp;omega),<-e2]
    unfold aT.pj2
    have e3:A.map (Pl n)++Pl n (p.po i)::Pl n (q.pr i)::B.map (Pl n)=(A++p.po i::q.pr i::B).map (Pl n):=by simp
    have hw0:IntKind.i64.wrap ((-1:Int)+1)=((0:Nat):Int):=by rw [aS (by omega) (by omega)];rfl
    rw [e3,hw0]
    have hlen:(A++p.po i::q.pr i::B).length=(A++p::q::B).length:=by simp
    have hms:=hstep.less o
    have hmul:(ms n (A++p.po i::q.pr i::B)+1) * ((A++p::q::B).length+2)<=ms n (A++p::q::B) * ((A++p::q::B).length+2):=Nat.mul_le_mul_right _ hms
    rw [Nat.add_mul] at hmul
    obtain ⟨M,k1,k2,k3⟩:=ih g 0 (A++p.po i::q.pr i::B) (by rw [hlen];omega) (by omega) (by rw [hlen];exact hl) (Nat.zero_le _) (hstep.ok o) (λ_ _ _ _ _ h=>absurd h (Nat.not_lt_zero _))
    exact ⟨M,k1,.step _ _ _ hstep k2,k3⟩
   ·rw [e,Option.bind_some]
    simp only [cond_false]
    unfold aT.pj2
    rw [hw,<-e1]
    refine ih g (k+1) (A++p::q::B) (by omega) (by omega) hl (by omega) o λA' p' q' B' e' hlt=>?_
    by_cases c2:A'.length<k
    ·exact hs A' p' q' B' e' c2
    ·have hAA:A.length=A'.length:=by omega
     obtain ⟨_,h2⟩:=List.append_inj e' hAA
     injection h2 with h3 h4
     injection h4 with h5 h6
     rw [<- h3,<-h5];exact hst
  ·rw [decide_eq_false (by omega),cond_false]
   refine ⟨L,rfl,.refl _,Stk.of λA p q B e=>hs A p q B e ?_⟩
   have:=congrArg List.length e
   simp at this
   omega
theorem Tk (hn:n<=1000) (hn0:0<n) {L:List Pm} (hF:n<F) (hF2:ms n L * (L.length+2)+L.length+1<=F) (hl:L.length<=1000) (o:oks n L) :
  ∃ M,aT.p F (L.map (Pl n))=some (M.map (Pl n))/\Sts n L M/\Stk n M:=by
 unfold aT.p apn
 rw [if_pos (by simp;omega),List.nil_append,Option.bind_some]
 exact weight_l hn hn0 hF _ F 0 L (Nat.lt_succ_self _) (by omega) hl (Nat.zero_le _) o λ_ _ _ _ _ h=>absurd h (Nat.not_lt_zero _)
theorem same_dropS {a b:List Int} (hl:a.length=b.length) (ha:a.length<=1000):∀ (m g k:Nat),a.length - k=m->m<g->k<=a.length ->
  bl.pl29 F g a b k=some (decide (a.drop k=b.drop k)):=by
 intro m
 induction m with
 | zero=>
  intro g k hm hg hk
  obtain ⟨g,rfl⟩:∃ g',g=g'+1:=⟨g - 1,by omega⟩
  rw [bl.pl29,decide_eq_false (by omega),cond_false,List.drop_eq_nil_of_le (by omega),List.drop_eq_nil_of_le (by omega)]
  rfl
 | succ m ih=>
  intro g k hm hg hk
  obtain ⟨g,rfl⟩:∃ g',g=g'+1:=⟨g - 1,by omega⟩
  have h1:k<a.length:=by omega
  have h2:k<b.length:=by omega
  have hw:IntKind.i64.wrap ((k:Int)+1)=((k+1:Nat):Int):=by rw [aS (by omega) (by omega)];omega
  rw [bl.pl29,decide_eq_true (by omega),cond_true,ix_of h1,ix_of h2,Option.bind_some,Option.bind_some,gt_of (List.getElem?_eq_getElem h1),gt_of (List.getElem?_eq_getElem h2),hw]
  have hd:(a.drop k=b.drop k)↔(a[k]=b[k]/\a.drop (k+1)=b.drop (k+1)):=by rw [List.drop_eq_getElem_cons h1,List.drop_eq_getElem_cons h2,List.cons.injEq]
  by_cases e:a[k]=b[k]
  ·rw [e,bne_self_eq_false,cond_false]
   have hd2:(a.drop k=b.drop k)↔(a.drop (k+1)=b.drop (k+1)):=hd.trans ⟨λh=>h.2,λh=>⟨e,h⟩⟩
   rw [ih g (k+1) (by omega) (by omega) (by omega),decide_eq_decide.2 hd2]
  ·rw [show (a[k] != b[k])=true from bne_iff_ne.2 e,cond_true,decide_eq_false λh=>e (hd.1 h).1]
theorem same_dropI {a b:List Int} (hl:a.length=b.length) (ha:a.length<=1000):∀ (m g k:Nat),a.length - k=m->m<g->k<=a.length ->
  bv.pl29 F g a b a.length k=some (decide (a.drop k=b.drop k)):=by
 intro m
 induction m with
 | zero=>
  intro g k hm hg hk
  obtain ⟨g,rfl⟩:∃ g',g=g'+1:=⟨g - 1,by omega⟩
  rw [bv.pl29,decide_eq_false (by omega),cond_false,List.drop_eq_nil_of_le (by omega),List.drop_eq_nil_of_le (by omega)]
  rfl
 | succ m ih=>
  intro g k hm hg hk
  obtain ⟨g,rfl⟩:∃ g',g=g'+1:=⟨g - 1,by omega⟩
  have h1:k<a.length:=by omega
  have h2:k<b.length:=by omega
  have hw:IntKind.i64.wrap ((k:Int)+1)=((k+1:Nat):Int):=by rw [aS (by omega) (by omega)];omega
  rw [bv.pl29,decide_eq_true (by omega),cond_true,ix_of h1,ix_of h2,Option.bind_some,Option.bind_some,gt_of (List.getElem?_eq_getElem h1),gt_of (List.getElem?_eq_getElem h2),hw]
  have hd:(a.drop k=b.drop k)↔(a[k]=b[k]/\a.drop (k+1)=b.drop (k+1)):=by rw [List.drop_eq_getElem_cons h1,List.drop_eq_getElem_cons h2,List.cons.injEq]
  by_cases e:a[k]=b[k]
  ·rw [e,bne_self_eq_false,cond_false]
   have hd2:(a.drop k=b.drop k)↔(a.drop (k+1)=b.drop (k+1)):=hd.trans ⟨λh=>h.2,λh=>⟨e,h⟩⟩
   rw [ih g (k+1) (by omega) (by omega) (by omega),decide_eq_decide.2 hd2]
  ·rw [show (a[k] != b[k])=true from bne_iff_ne.2 e,cond_true,decide_eq_false λh=>e (hd.1 h).1]
theorem zp {a b:List Int} (ha:a.length<=1000) (hF:1000<F):bl.p F a b=some (decide (a=b)):=by
 unfold bl.p
 by_cases hl:a.length=b.length
 ·rw [hl,bne_self_eq_false,cond_false]
  exact same_dropS hl ha a.length F 0 (by omega) (by omega) (by omega)
 ·rw [show ((a.length:Int) != (b.length:Int))=true from bne_iff_ne.2 (by omega),cond_true,decide_eq_false λh=>hl (by rw [h])]
theorem mW {a b:List Int} (ha:a.length<=1000) (hF:1000<F):bv.p F a b=some (decide (a=b)):=by
 unfold bv.p
 by_cases hl:a.length=b.length
 ·rw [<- hl,bne_self_eq_false,cond_false]
  exact same_dropI hl ha a.length F 0 (by omega) (by omega) (by omega)
 ·rw [show ((a.length:Int) != (b.length:Int))=true from bne_iff_ne.2 (by omega),cond_true,decide_eq_false λh=>hl (by rw [h])]
theorem part_both (hn:n<=1000) (hF:2000<F) {l:List (List Int)} (hl:l.length<=1000) (hx:∀ x∈l,x.length=n):∀ (t pre:List (List Int)) (pw:Int) (acc:List (List Int)) (g:Nat),l=pre++t->t.length<g->acc.length<=pre.length->(∀ x∈acc,x.length=n) ->
  ∃ pw' out,iJ (bv.p F) (Pl n Pm.one) (Pl n (Pm.rev n)) t pw acc=some (pw',out)/\ah.pl1021 F g n l pw acc pre.length=some (pw',out)/\out.length<=l.length/\∀ x∈out,x.length=n:=by
 intro t
 induction t with
 | nil=>
  intro pre pw acc g e hg ha hxa
  obtain ⟨g,rfl⟩:∃ g',g=g'+1:=⟨g - 1,by omega⟩
  rw [List.append_nil] at e
  subst e
  rw [ah.pl1021,decide_eq_false (by omega),cond_false]
  exact ⟨pw,acc,rfl,rfl,ha,hxa⟩
 | cons x t ih=>
  intro pre pw acc g e hg ha hxa
  obtain ⟨g,rfl⟩:∃ g',g=g'+1:=⟨g - 1,by omega⟩
  rw [List.length_cons] at hg
  have hlen:l.length=pre.length+(t.length+1):=by rw [e,List.length_append,List.length_cons]
  have hxl:x.length=n:=hx x (by rw [e];simp)
  have hi:ix l (pre.length:Int)=some pre.length:=ix_of (by omega)
  have hgt:gt l pre.length=x:=gt_of (by rw [e];exact get_mid1 rfl)
  have hw:IntKind.i64.wrap ((pre.length:Int)+1)=(((pre++[x]).length:Nat):Int):=by rw [aS (by omega) (by omega),List.length_append];simp
  rw [ah.pl1021,decide_eq_true (by omega),cond_true,iJ,hi]
  simp only [Option.bind_some]
  rw [HA hn (by omega),Option.bind_some,hgt,zp (by omega) (by omega),mW (by omega) (by omega),Option.bind_some,Option.bind_some]
  unfold ah.pj9 ah.pj8 ah.pj7
  rw [hw]
  by_cases c1:x=Pl n Pm.one
  ·rw [decide_eq_true c1,cond_true,cond_true]
   exact ih (pre++[x]) pw acc g (by rw [e];simp) (by omega) (by simp;omega) hxa
  ·rw [decide_eq_false c1,cond_false,cond_false,HB hn (by omega),Option.bind_some,zp (by omega) (by omega),mW (by omega) (by omega),Option.bind_some,Option.bind_some]
   by_cases c2:x=Pl n (Pm.rev n)
   ·rw [decide_eq_true c2,cond_true,cond_true]
    exact ih (pre++[x]) (IntKind.i64.wrap (pw+1)) acc g (by rw [e];simp) (by omega) (by simp;omega) hxa
   ·have hap:apn acc [x]=some (acc++[x]):=by unfold apn;rw [if_pos (by simp;omega)]
    rw [decide_eq_false c2,cond_false,cond_false,hap,Option.bind_some,Option.bind_some]
    exact ih (pre++[x]) pw (acc++[x]) g (by rw [e];simp) (by omega) (by simp;omega) λy hy=>by
     rcases List.mem_append.1 hy with hy | hy
     ·exact hxa y hy
     ·rw [List.mem_singleton.1 hy];exact hxl
end Go.Proofs.Ytodfdhnlhiaohaa.AE
end
section
namespace Go.Proofs.Ytodfdhnlhiaohaa.AE.BB
open Go Go.AE Go.Proofs
variable {F:Nat}
section
variable {α:Type} [Inhabited α]
theorem gmem {l:List α} {n:Nat} (h:n<l.length):gt l n∈l:=List.mem_of_getElem? (jw h)
theorem mem_gt {l:List α} {x:α} (h:x∈l):∃ n,n<l.length/\gt l n=x:=by
 obtain ⟨n,hn⟩:=List.getElem?_of_mem h
 have hl:=(List.getElem?_eq_some_iff.1 hn).1
 refine ⟨n,hl,?_⟩
 rw [jw hl] at hn;exact Option.some.inj hn
end
section
variable {α:Type}
theorem ix_of {l:List α} {i:Int} (h0:0<=i) (h:i<l.length):ix l i=some i.toNat:=by
 unfold ix;rw [if_pos ⟨h0,h⟩]
theorem ixn {l:List α} {n:Nat} (h:n<l.length):ix l (n:Int)=some n:=by
 rw [ix_of (by omega) (by omega)];simp
end
theorem wn {i:Nat} (h:i<=4294967296):IntKind.i64.wrap (i:Int)=(i:Int):=aS (by omega) (by omega)
theorem ws {i:Nat} (h:i<=4294967296):IntKind.i64.wrap ((i:Int)+1)=((i+1:Nat):Int):=by rw [aS (by omega) (by omega)];omega
theorem dT {i n:Nat} (h:i<n):decide ((i:Int)<(n:Int))=true:=decide_eq_true (by omega)
theorem dF {i n:Nat} (h:n<=i):decide ((i:Int)<(n:Int))=false:=decide_eq_false (by omega)
theorem HC {x a b:Int}:dz.p F x a b=some (decide (a<=x/\x<=b)):=by
 unfold dz.p
 by_cases h:x>=a
 ·rw [decide_eq_true h,cond_true];congr 1;simp only [ge_iff_le] at h;simp [h]
 ·rw [decide_eq_false h,cond_false];congr 1;simp only [ge_iff_le] at h;simp [h]
theorem HD {x a b:Int}:dV.p F x a b=some (decide (a<=x/\x<=b)):=by
 unfold dV.p
 by_cases h:a<=x
 ·rw [decide_eq_true h,cond_true];congr 1;simp [h]
 ·rw [decide_eq_false h,cond_false];congr 1;simp [h]
end Go.Proofs.Ytodfdhnlhiaohaa.AE.BB
end
section
namespace Go.Proofs.Ytodfdhnlhiaohaa.AE.BB
open Go Go.AE Go.Proofs
variable {F:Nat}
def ltr (s x:Int):Bool:=decide (x≠0/\1 - s<=x/\x<=s - 1)
theorem Tl {s x:Int} (h1:1<=s) (h2:s<=6):dA.p F x s=some (ltr s x):=by
 unfold dA.p ltr
 rw [aS (by omega) (by omega),aS (by omega) (by omega),HC,Option.bind_some]
 by_cases h:x=0
 ·subst h;rfl
 ·rw [show (x != 0)=true by simpa using h,cond_true];congr 1;simp [h]
theorem Tn {s x:Int} (h1:1<=s) (h2:s<=6):dW.p F s x=some (ltr s x):=by
 unfold dW.p ltr
 rw [aS (by omega) (by omega),aS (by omega) (by omega),HD,Option.bind_some]
 by_cases h:x=0
 ·subst h;rfl
 ·rw [show (x != 0)=true by simpa using h,cond_true];congr 1;simp [h]
theorem drop_gt {α:Type} [Inhabited α] {l:List α} {i:Nat} (h:i<l.length):l.drop i=gt l i::l.drop (i+1):=by
 rw [List.drop_eq_getElem_cons h];congr 1
 have:=jw h;rw [List.getElem?_eq_getElem h] at this;exact Option.some.inj this
theorem sval_l {s:Int} (h1:1<=s) (h2:s<=6) {W:List Int} (hW:W.length<=1000):∀ (m g i:Nat),W.length - i=m->m<g->i<=W.length ->
  bo.pl29 F g s W (i:Int)=some ((W.drop i).all (ltr s)):=by
 intro m
 induction m with
 | zero=>
  intro g i hm hg hi
  obtain ⟨g,rfl⟩:∃ g',g=g'+1:=⟨g - 1,by omega⟩
  rw [bo.pl29,dF (by omega),cond_false,List.drop_eq_nil_of_le (by omega)];rfl
 | succ m ih=>
  intro g i hm hg hi
  obtain ⟨g,rfl⟩:∃ g',g=g'+1:=⟨g - 1,by omega⟩
  rw [bo.pl29,dT (by omega),cond_true,ixn (by omega),Option.bind_some,Tl h1 h2,Option.bind_some,drop_gt (by omega),List.all_cons,ws (by omega),ih g (i+1) (by omega) (by omega) (by omega)]
  cases ltr s (gt W i) <;> rfl
theorem ival_l {s:Int} (h1:1<=s) (h2:s<=6) {W:List Int} (hW:W.length<=1000):∀ (m g i:Nat),W.length - i=m->m<g->i<=W.length ->
  ∃ r,bS.pl13 F g W s (W.length:Int) (i:Int)=some r/\(!decide (r>=0))=(W.drop i).all (ltr s):=by
 intro m
 induction m with
 | zero=>
  intro g i hm hg hi
  obtain ⟨g,rfl⟩:∃ g',g=g'+1:=⟨g - 1,by omega⟩
  rw [bS.pl13,dF (by omega),cond_false,List.drop_eq_nil_of_le (by omega)];exact ⟨_,rfl,rfl⟩
 | succ m ih=>
  intro g i hm hg hi
  obtain ⟨g,rfl⟩:∃ g',g=g'+1:=⟨g - 1,by omega⟩
  rw [bS.pl13,dT (by omega),cond_true,ixn (by omega),Option.bind_some]
  unfold dQ.p
  rw [Tn h1 h2,Option.bind_some,Option.bind_some,drop_gt (by omega),List.all_cons,ws (by omega)]
  cases ltr s (gt W i)
  ·exact ⟨_,rfl,by simp⟩
  ·obtain ⟨r,e1,e2⟩:=ih g (i+1) (by omega) (by omega) (by omega)
   exact ⟨r,e1,by rw [e2];rfl⟩
def vb (s:Int) (W:List Int):Bool:=decide (1<=s/\s<=6)&&(decide (W.length<=24)&&W.all (ltr s))
theorem Va {s:Int} {W:List Int} (hF:1000<F):bo.p F s W=some (vb s W):=by
 unfold bo.p vb
 rw [HC,Option.bind_some]
 by_cases h:1<=s/\s<=6
 ·rw [decide_eq_true h,Bool.not_true,cond_false,Bool.true_and]
  by_cases h2:W.length<=24
  ·rw [decide_eq_false (show ¬ (W.length:Int)>24 by omega),cond_false,decide_eq_true h2,Bool.true_and]
   exact sval_l h.1 h.2 (by omega) W.length F 0 (by omega) (by omega) (by omega)
  ·rw [decide_eq_true (show (W.length:Int)>24 by omega),cond_true,decide_eq_false h2,Bool.false_and]
 ·rw [decide_eq_false h,Bool.not_false,cond_true,Bool.false_and]
theorem Vb {s:Int} {W:List Int} (hF:1000<F):b_.p F s W=some (vb s W):=by
 unfold b_.p vb
 rw [HD,Option.bind_some]
 by_cases h:1<=s/\s<=6
 ·rw [decide_eq_true h,cond_true,Bool.true_and]
  by_cases h2:W.length<=24
  ·rw [decide_eq_true (show (W.length:Int)<=24 by omega),cond_true,decide_eq_true h2,Bool.true_and]
   unfold ee.p bS.p
   obtain ⟨r,e1,e2⟩:=ival_l (F:=F) h.1 h.2 (W:=W) (by omega) W.length F 0 (by omega) (by omega) (by omega)
   rw [show ((0:Nat):Int)=0 from rfl] at e1
   rw [e1,Option.bind_some,Option.bind_some,e2,List.drop_zero]
  ·rw [decide_eq_false (show ¬ (W.length:Int)<=24 by omega),cond_false,decide_eq_false h2,Bool.false_and]
 ·rw [decide_eq_false h,cond_false,Bool.false_and]
theorem vb_of {s:Int} {W:List Int} (h:vb s W=true):1<=s/\s<=6/\W.length<=24/\∀ i:Nat,i<W.length->1<=(gt W i).natAbs/\((gt W i).natAbs:Int)<s:=by
 unfold vb at h
 simp only [Bool.and_eq_true,decide_eq_true_eq,List.all_eq_true] at h
 obtain ⟨⟨a,b⟩,c,d⟩:=h
 refine ⟨a,b,c,λi hi=>?_⟩
 have:=d (gt W i) (gmem hi)
 unfold ltr at this
 simp only [decide_eq_true_eq] at this
 omega
def ab (W:List Int) (k:Nat):Nat:=(gt W k).natAbs
def st (s:Nat) (W:List Int):Nat->List Int
 | 0=>List.replicate s (-1)
 | t+1=>((st s W t).set (ab W (t % W.length) - 1) ((2 * (t % W.length):Nat):Int)).set (ab W (t % W.length)) ((2 * (t % W.length)+1:Nat):Int)
theorem cT {s:Nat} {W:List Int} (t:Nat):(st s W t).length=s:=by
 induction t with
 | zero=>simp [st]
 | succ t ih=>simp [st,ih]
end Go.Proofs.Ytodfdhnlhiaohaa.AE.BB
end
section
namespace Go.Proofs.Ytodfdhnlhiaohaa.AE
open Go Go.AE Go.Proofs
variable {n F:Nat}
theorem ms_le (hn:n<=6):∀ (L:List Pm),oks n L->L.length<=24->ms n L<=L.length * (216 * 6 ^ 24)
 | [],_,_=>Nat.zero_le _
 | p::t,o,hl=>by
  rw [List.length_cons] at hl
  have h1:=ms_le hn t (λx hx=>o x (List.mem_cons_of_mem _ hx)) (by omega)
  have h2:sm p.f n<=n * (n * n):=su_le λx hx=>Nat.mul_le_mul (Nat.le_of_lt hx) (Nat.le_of_lt (o p List.mem_cons_self x hx).1)
  have h3:n * (n * n)<=6 * (6 * 6):=Nat.mul_le_mul hn (Nat.mul_le_mul hn hn)
  have h4:n ^ t.length<=6 ^ 24:=Nat.le_trans (Nat.pow_le_pow_left hn _) (Nat.pow_le_pow_right (by omega) (by omega))
  have h5:sm p.f n * n ^ t.length<=216 * 6 ^ 24:=Nat.mul_le_mul (by omega) h4
  rw [ms,List.length_cons,Nat.add_mul]
  omega
theorem tss_turn (hn:n<=1000) (hF:n<F):∀ (L:List Pm),oks n L->tss (bx.p F) (L.map (Pl n))=some ((L.map (Pm.turn n)).map (Pl n))
 | [],_=>rfl
 | p::t,o=>by
  rw [List.map_cons,tss,Tf hn hF (o p List.mem_cons_self),Option.bind_some,tss_turn hn hF t λx hx=>o x (List.mem_cons_of_mem _ hx)]
  rfl
theorem flips_l (hn:n<=1000) (hF:n<F) {pC} {w:List Int} {pw i x:Int}:∀ (B A:List Pm) (g:Nat),B.length<g->(A++B).length<=1000->oks n (A++B) ->
  ah.pl32093 F pC g w n pw ((A.map (Pm.turn n)++B).map (Pl n)) i x A.length=ah.pj13 F pC w n pw (((A++B).map (Pm.turn n)).map (Pl n)) i x:=by
 intro B
 induction B with
 | nil=>
  intro A g hg hl o
  obtain ⟨g,rfl⟩:∃ g',g=g'+1:=⟨g - 1,by omega⟩
  rw [ah.pl32093,decide_eq_false (by simp),cond_false,List.append_nil,List.append_nil]
 | cons p B ih=>
  intro A g hg hl o
  rw [List.length_cons] at hg
  obtain ⟨g,rfl⟩:∃ g',g=g'+1:=⟨g - 1,by omega⟩
  have e1:(A.map (Pm.turn n)++p::B).map (Pl n)=(A.map (Pm.turn n)).map (Pl n)++Pl n p::B.map (Pl n):=by rw [List.map_append,List.map_cons]
  have hA:A.length=((A.map (Pm.turn n)).map (Pl n)).length:=by rw [List.length_map,List.length_map]
  have hi:ix ((A.map (Pm.turn n)).map (Pl n)++Pl n p::B.map (Pl n)) (A.length:Int)=some A.length:=ix_of (by simp)
  have hg1:gt ((A.map (Pm.turn n)).map (Pl n)++Pl n p::B.map (Pl n)) A.length=Pl n p:=gt_of (get_mid1 hA)
  have hl2:A.length+(B.length+1)<=1000:=by rw [List.length_append,List.length_cons] at hl;exact hl
  have hw:IntKind.i64.wrap ((A.length:Int)+1)=(((A++[p]).length:Nat):Int):=by rw [aS (by omega) (by omega),List.length_append];simp
  rw [ah.pl32093,e1,decide_eq_true (by simp;omega),cond_true,hi,Option.bind_some,hg1,Tg hn hF (o p (by simp)),Option.bind_some,Option.bind_some,Option.bind_some,set_mid1 hA,hw]
  have e2:(A.map (Pm.turn n)).map (Pl n)++Pl n (p.turn n)::B.map (Pl n)=(((A++[p]).map (Pm.turn n))++B).map (Pl n):=by simp
  have e3:A++p::B=(A++[p])++B:=by simp
  rw [e2,e3]
  exact ih (A++[p]) g (by omega) (by rw [<- e3];exact hl) (by rw [<- e3];exact o)
theorem apn_map {L:List Pm} {p:Pm} (hl:L.length<=1000):apn (L.map (Pl n)) [Pl n p]=some ((L++[p]).map (Pl n)):=by
 unfold apn
 rw [if_pos (by simp;omega),List.map_append];rfl
theorem oks_snoc {L:List Pm} {p:Pm} (o:oks n L) (o1:ok n p):oks n (L++[p]):=λx hx=>by
 rcases List.mem_append.1 hx with hx | hx
 ·exact o x hx
 ·rw [List.mem_singleton.1 hx];exact o1
theorem addt {L:List Pm} {p:Pm} {j:Nat} {k pw:Int} (hn:n<=1000) (hF:n<F) (o1:ok n p) (hj:j+1<n) (hk:k=(j:Int)+1\/k=-((j:Int)+1)) (hl:L.length<=1000) :
  nn (a_.p F) (cE.p F) (bP.p F) k pw (L.map (Pl n)) (Pl n p)=some (pw,(L++[p.po j]).map (Pl n)):=by
 unfold nn
 have ha:cE.p F k=some ((j:Int)+1):=by
  rw [Th (by omega) (by omega)]
  rcases hk with hk | hk
  ·rw [hk,if_neg (by omega)]
  ·rw [hk,if_pos (by omega),Int.neg_neg]
 rw [kF hn hF o1,Option.bind_some,ha,Option.bind_some,ut hn hj,Option.bind_some,kF hn hF (o1.inv.pr hj),Option.bind_some]
 have e:Pl n (p.inv.pr j).inv=Pl n (p.po j):=rfl
 rw [e,apn_map hl,Option.bind_some]
theorem adds_both (hn:n<=6) (hF:5000<F) {w:List Int} (hw24:w.length<=24) (hv:∀ x∈w,x≠0/\1 - (n:Int)<=x/\x<=(n:Int) - 1):∀ (t pre:List Int) (g:Nat) (L:List Pm) (pw:Int),w=pre++t->t.length<g->L.length=pre.length->oks n L ->
  ∃ M pw',hZ (jx (bc.p F) (bx.p F) (cy.p F) (a_.p F) (cE.p F) (bP.p F) F n) t (pw,L.map (Pl n))=some (pw',M.map (Pl n)) /\
   ah.pl125 F g w n pw (L.map (Pl n)) pre.length=ah.pj10 F n pw' (M.map (Pl n))/\oks n M/\M.length<=24:=by
 intro t
 induction t with
 | nil=>
  intro pre g L pw e hg hL o
  obtain ⟨g,rfl⟩:∃ g',g=g'+1:=⟨g - 1,by omega⟩
  rw [List.append_nil] at e
  refine ⟨L,pw,rfl,?_,o,by rw [hL,<-e];exact hw24⟩
  rw [ah.pl125,decide_eq_false (by rw [e];omega),cond_false]
 | cons x t ih=>
  intro pre g L pw e hg hL o
  rw [List.length_cons] at hg
  obtain ⟨g,rfl⟩:∃ g',g=g'+1:=⟨g - 1,by omega⟩
  have hlen:w.length=pre.length+(t.length+1):=by rw [e,List.length_append,List.length_cons]
  have hi:ix w (pre.length:Int)=some pre.length:=ix_of (by omega)
  have hgt:gt w pre.length=x:=gt_of (by rw [e];exact get_mid1 rfl)
  have hws:IntKind.i64.wrap ((pre.length:Int)+1)=(((pre++[x]).length:Nat):Int):=by rw [aS (by omega) (by omega),List.length_append];simp
  obtain ⟨hx0,hx1,hx2⟩:=hv x (by rw [e];simp)
  rw [ah.pl125,decide_eq_true (by omega),cond_true,hi,Option.bind_some,hgt,hZ,jx,kG (by omega) (by omega),Option.bind_some]
  by_cases c:x>0
  ·obtain ⟨j,hj⟩:∃ j:Nat,x=(j:Int)+1:=⟨(x - 1).toNat,by omega⟩
   have hj1:j+1<n:=by omega
   rw [decide_eq_true c,cond_true,decide_eq_false (by omega),cond_false,addt (by omega) (by omega) ok_one hj1 (.inl hj) (by omega),Option.bind_some,HA (by omega) (by omega),Option.bind_some,hj,zo (by omega) (by omega) ok_one hj1,Option.bind_some,apn_map (by omega),Option.bind_some]
   unfold ah.pj11
   rw [hws]
   exact ih (pre++[x]) g (L++[Pm.one.po j]) pw (by rw [e];simp) (by omega) (by simp;omega) (oks_snoc o (ok_one.po hj1))
  ·obtain ⟨j,hj⟩:∃ j:Nat,x=-((j:Int)+1):=⟨(-x - 1).toNat,by omega⟩
   have hj1:j+1<n:=by omega
   have hrev:Pl n (Pm.rev n).inv=Pl n (Pm.rev n):=rfl
   have hot:oks n (L.map (Pm.turn n)):=λy hy=>by
    obtain ⟨z,hz,rfl⟩:=List.mem_map.1 hy;exact (o z hz).turn
   have hfl:=flips_l (F:=F) (pC:=ah.pl125 F g) (w:=w) (pw:=IntKind.i64.wrap (pw - 1)) (i:=pre.length) (x:=x) (n:=n) (by omega) (by omega) L [] F (by omega) (by simp;omega) o
   have hfl:ah.pl32093 F (ah.pl125 F g) F w n (IntKind.i64.wrap (pw - 1)) (L.map (Pl n)) pre.length x 0=ah.pj13 F (ah.pl125 F g) w n (IntKind.i64.wrap (pw - 1)) ((L.map (Pm.turn n)).map (Pl n)) pre.length x:=hfl
   rw [decide_eq_false (show ¬ x>0 by omega),cond_false,decide_eq_true (show x<0 by omega),cond_true,if_pos (by simp;omega),tss_turn (by omega) (by omega) L o,Option.bind_some,pi hn (by omega),Option.bind_some,kF (by omega) (by omega) ok_rev,Option.bind_some,hrev,addt (by omega) (by omega) ok_rev hj1 (.inr hj) (by simp;omega),Option.bind_some,hfl]
   unfold ah.pj13 ah.pj12
   rw [HB (by omega) (by omega),Option.bind_some,show IntKind.i64.wrap (0 - x)=(j:Int)+1 by rw [aS (by omega) (by omega)];omega,zo (by omega) (by omega) ok_rev hj1,Option.bind_some,apn_map (by simp;omega),Option.bind_some,hws]
   exact ih (pre++[x]) g (L.map (Pm.turn n)++[(Pm.rev n).po j]) (IntKind.i64.wrap (pw - 1)) (by rw [e];simp) (by omega) (by simp;omega) (oks_snoc hot (ok_rev.po hj1))
theorem form_both (hF:1000000000000000000000000000000<=F) {s:Int} {w:List Int} (hv:BB.vb s w=true) :
  ∃ pw out,bU.p F s w=some (pw,out)/\ah.p F s w=some (pw,out)/\out.length<=24/\∀ x∈out,x.length<=6:=by
 obtain ⟨h1,h2,h3,h4⟩:=BB.vb_of hv
 obtain ⟨n,rfl⟩:∃ n:Nat,s=(n:Int):=⟨s.toNat,by omega⟩
 have hn:n<=6:=by omega
 have hl:∀ x∈w,x≠0/\1 - (n:Int)<=x/\x<=(n:Int) - 1:=λx hx=>by
  obtain ⟨i,i1,i2⟩:=BB.mem_gt hx
  have:=h4 i i1
  rw [i2] at this
  omega
 obtain ⟨M,pw,e1,e2,o,hM⟩:=adds_both (F:=F) hn (by omega) h3 hl w [] F [] 0 rfl (by omega) rfl (λ_ h=>by cases h)
 have hms:=ms_le hn M o hM
 have hB:(216 * 6 ^ 24:Nat)=1023490369077469249536:=by decide
 rw [hB] at hms
 have hms2:ms n M<=24 * 1023490369077469249536:=Nat.le_trans hms (Nat.mul_le_mul_right _ hM)
 have hms3:ms n M * (M.length+2)<=(24 * 1023490369077469249536) * 26:=Nat.mul_le_mul hms2 (by omega)
 obtain ⟨A,a1,a2,a3,a4⟩:=fin_all (F:=F) hn (by omega) (by omega) (ms n M+1) (F - 1) M (by omega) (by omega) o (by omega)
 obtain ⟨B,b1,b2,b3⟩:=Tk (F:=F) (n:=n) (L:=M) (by omega) (by omega) (by omega) (by omega) (by omega) o
 have hAB:A=B:=Sts.unique o a2 b2 a3.stuck b3.stuck
 subst hAB
 obtain ⟨pw',out,c1,c2,c3,c4⟩:=part_both (F:=F) (n:=n) (by omega) (by omega) (l:=A.map (Pl n)) (by simp;omega) (λx hx=>by obtain ⟨y,_,rfl⟩:=List.mem_map.1 hx;exact Pl_len) (A.map (Pl n)) [] pw [] F rfl (by simp;omega) (by simp) (λ_ h=>by cases h)
 refine ⟨pw',out,?_,?_,by have:(A.map (Pl n)).length<=24:=(by rw [List.length_map];omega);omega,λx hx=>by rw [c4 x hx];exact hn⟩
 ·unfold bU.p nfP
  have e1:hZ (jx (bc.p F) (bx.p F) (cy.p F) (a_.p F) (cE.p F) (bP.p F) F n) w (0,[])=some (pw,M.map (Pl n)):=e1
  rw [if_pos (by omega),e1,Option.bind_some]
  unfold np
  rw [a1,Option.bind_some,kG (by omega) (by omega),Option.bind_some,pi hn (by omega),Option.bind_some,if_pos (by rw [List.length_map];omega)]
  exact c1
 ·unfold ah.p
  have e2:ah.pl125 F F w n 0 [] 0=_:=e2
  rw [e2]
  unfold ah.pj10
  rw [b1,Option.bind_some]
  exact c2
end Go.Proofs.Ytodfdhnlhiaohaa.AE
end
section
namespace Go.Proofs.Ytodfdhnlhiaohaa.AE
open Go Go.AE Go.Proofs
variable {F:Nat}
theorem rows_drop {a b:List (List Int)} (hF:2000<F) (hl:a.length=b.length) (ha:a.length<=1000) (hx:∀ x∈a,x.length<=6):∀ (m g k:Nat),a.length - k=m->m<g->k<=a.length ->
  bF.pl29 F g a b k=some (decide (a.drop k=b.drop k))/\bH.pl29 F g b a a.length k=some (decide (a.drop k=b.drop k)):=by
 intro m
 induction m with
 | zero=>
  intro g k hm hg hk
  obtain ⟨g,rfl⟩:∃ g',g=g'+1:=⟨g - 1,by omega⟩
  rw [bF.pl29,bH.pl29,decide_eq_false (by omega),cond_false,cond_false,List.drop_eq_nil_of_le (by omega),List.drop_eq_nil_of_le (by omega)]
  exact ⟨rfl,rfl⟩
 | succ m ih=>
  intro g k hm hg hk
  obtain ⟨g,rfl⟩:∃ g',g=g'+1:=⟨g - 1,by omega⟩
  have h1:k<a.length:=by omega
  have h2:k<b.length:=by omega
  have hxa:a[k].length<=6:=hx _ (List.getElem_mem _)
  have hw:IntKind.i64.wrap ((k:Int)+1)=((k+1:Nat):Int):=by rw [aS (by omega) (by omega)];omega
  have hd:(a.drop k=b.drop k)↔(a[k]=b[k]/\a.drop (k+1)=b.drop (k+1)):=by rw [List.drop_eq_getElem_cons h1,List.drop_eq_getElem_cons h2,List.cons.injEq]
  rw [bF.pl29,bH.pl29,decide_eq_true (by omega),cond_true,cond_true,ix_of h1,ix_of h2,Option.bind_some,Option.bind_some,Option.bind_some,Option.bind_some,gt_of (List.getElem?_eq_getElem h1),gt_of (List.getElem?_eq_getElem h2),hw,zp (by omega) (by omega),mW (by omega) (by omega),Option.bind_some,Option.bind_some]
  by_cases e:a[k]=b[k]
  ·have hd2:(a.drop k=b.drop k)↔(a.drop (k+1)=b.drop (k+1)):=hd.trans ⟨λh=>h.2,λh=>⟨e,h⟩⟩
   obtain ⟨q1,q2⟩:=ih g (k+1) (by omega) (by omega) (by omega)
   rw [decide_eq_true e,Bool.not_true,cond_false,cond_false,q1,q2,decide_eq_decide.2 hd2]
   exact ⟨rfl,rfl⟩
  ·rw [decide_eq_false e,Bool.not_false,cond_true,cond_true,decide_eq_false λh=>e (hd.1 h).1]
   exact ⟨rfl,rfl⟩
theorem To {pw pw':Int} {a b:List (List Int)} (hF:2000<F) (ha:a.length<=1000) (hx:∀ x∈a,x.length<=6):bF.p F pw a pw' b=some (decide (pw=pw'/\a=b)):=by
 unfold bF.p
 by_cases hp:pw=pw'
 ·rw [hp,bne_self_eq_false,cond_false]
  by_cases hl:a.length=b.length
  ·rw [hl,bne_self_eq_false,cond_false]
   have:=(rows_drop (F:=F) hF hl ha hx a.length F 0 (by omega) (by omega) (by omega)).1
   have this:bF.pl29 F F a b 0=some (decide (a=b)):=this
   rw [this]
   congr 1
   exact decide_eq_decide.2 ⟨λh=>⟨rfl,h⟩,λh=>h.2⟩
  ·rw [show ((a.length:Int) != (b.length:Int))=true from bne_iff_ne.2 (by omega),cond_true,decide_eq_false λh=>hl (by rw [h.2])]
 ·rw [show (pw != pw')=true from bne_iff_ne.2 hp,cond_true,decide_eq_false λh=>hp h.1]
theorem HE {a b:List (List Int)} (hF:2000<F) (ha:a.length<=1000) (hx:∀ x∈a,x.length<=6):bH.p F a b=some (decide (a=b)):=by
 unfold bH.p
 by_cases hl:a.length=b.length
 ·rw [show ((a.length:Int) != (b.length:Int))=false from by rw [hl,bne_self_eq_false],cond_false]
  exact (rows_drop (F:=F) hF hl ha hx a.length F 0 (by omega) (by omega) (by omega)).2
 ·rw [show ((a.length:Int) != (b.length:Int))=true from bne_iff_ne.2 (by omega),cond_true,decide_eq_false λh=>hl (by rw [h])]
theorem same_both (hF:1000000000000000000000000000000<=F) {s t:Int} {v w:List Int}:∃ b,cF.p F s v t w=some b/\cQ.p F s v t w=some b:=by
 unfold cF.p cQ.p
 rw [BB.Vb (by omega),BB.Va (by omega),BB.Vb (by omega),BB.Va (by omega),Option.bind_some,Option.bind_some]
 cases hv:BB.vb s v with
 | false=>exact ⟨false,rfl,rfl⟩
 | true=>
  simp only [Bool.not_true,cond_false,cond_true,Option.bind_some]
  cases hw:BB.vb t w with
  | false=>exact ⟨false,rfl,rfl⟩
  | true=>
   simp only [Bool.not_true,cond_false,cond_true]
   by_cases e:s=t
   ·subst e
    obtain ⟨p1,o1,e1,e2,h1,h2⟩:=form_both hF hv
    obtain ⟨p2,o2,e3,e4,h3,h4⟩:=form_both hF hw
    rw [bne_self_eq_false,cond_false,beq_self_eq_true,cond_true,e1,e2,e3,e4]
    simp only [Option.bind_some]
    rw [HE (by omega) (by omega) h2,To (by omega) (by omega) h2,Option.bind_some,Option.bind_some]
    refine ⟨_,?_,rfl⟩
    by_cases c:p1=p2
    ·subst c
     rw [beq_self_eq_true,cond_true]
     congr 1
     exact decide_eq_decide.2 ⟨λh=>⟨rfl,h⟩,λh=>h.2⟩
    ·rw [show (p1==p2)=false from beq_false_of_ne c,cond_false,decide_eq_false λh=>c h.1]
   ·rw [show (s != t)=true from bne_iff_ne.2 e,cond_true,show (s==t)=false from beq_false_of_ne e,cond_false]
    exact ⟨false,rfl,rfl⟩
end Go.Proofs.Ytodfdhnlhiaohaa.AE
end
section
namespace Go.Proofs.Ytodfdhnlhiaohaa.AE
open Go Go.AE Go.Proofs
open Classical
variable {n:Nat}
def fx (n:Nat) (p:Pm):Prop:=∀ x,n<=x->p.f x=x
def Gd (n:Nat) (p:Pm):Prop:=ok n p/\fx n p
def gds (n:Nat) (L:List Pm):Prop:=∀ p∈L,Gd n p
theorem gds.oks {L:List Pm} (h:gds n L):oks n L:=λp hp=>(h p hp).1
theorem sw_out {i x:Nat} (hi:i+1<n) (h:n<=x):sw i x=x:=sw_ne (by omega) (by omega)
theorem fx.po {p:Pm} {i:Nat} (h:fx n p) (hi:i+1<n):fx n (p.po i):=λx hx=>by show sw i (p.f x)=x;rw [h x hx,sw_out hi hx]
theorem fx.pr {p:Pm} {i:Nat} (h:fx n p) (hi:i+1<n):fx n (p.pr i):=λx hx=>by show p.f (sw i x)=x;rw [sw_out hi hx,h x hx]
theorem rv_out {x:Nat} (h:n<=x):rv n x=x:=if_neg (by omega)
theorem fx_rev:fx n (Pm.rev n):=λx hx=>rv_out hx
theorem fx_one:fx n Pm.one:=λ_ _=>rfl
theorem fx.turn {p:Pm} (h:fx n p):fx n (p.turn n):=λx hx=>by show rv n (p.f (rv n x))=x;rw [rv_out hx,h x hx,rv_out hx]
theorem Gd.po {p:Pm} {i:Nat} (h:Gd n p) (hi:i+1<n):Gd n (p.po i):=⟨h.1.po hi,h.2.po hi⟩
theorem Gd.pr {p:Pm} {i:Nat} (h:Gd n p) (hi:i+1<n):Gd n (p.pr i):=⟨h.1.pr hi,h.2.pr hi⟩
theorem Gd.turn {p:Pm} (h:Gd n p):Gd n (p.turn n):=⟨h.1.turn,h.2.turn⟩
theorem Gd_one:Gd n Pm.one:=⟨ok_one,fx_one⟩
theorem Gd_rev:Gd n (Pm.rev n):=⟨ok_rev,fx_rev⟩
theorem St.gd {L M:List Pm} (h:St n L M) (o:gds n L):gds n M:=by
 induction h with
 | head p q B i h=>
  intro x hx
  simp only [List.mem_cons] at hx
  rcases hx with rfl | rfl | hx
  ·exact (o p (by simp)).po h.1
  ·exact (o q (by simp)).pr h.1
  ·exact o x (by simp [hx])
 | tail p L L' _ ih=>
  intro x hx
  rcases List.mem_cons.1 hx with rfl | hx
  ·exact o _ List.mem_cons_self
  ·exact ih (λy hy=>o y (List.mem_cons_of_mem _ hy)) x hx
theorem Sts.gd {L M:List Pm} (h:Sts n L M) (o:gds n L):gds n M:=by
 induction h with
 | refl=>exact o
 | step L M N h _ ih=>exact ih (h.gd o)
theorem gds_app {L M:List Pm} (h:gds n L) (h':gds n M):gds n (L++M):=λx hx=>by
 rcases List.mem_append.1 hx with hx | hx
 ·exact h x hx
 ·exact h' x hx
theorem gds_cons {p:Pm} {L:List Pm} (h:Gd n p) (h':gds n L):gds n (p::L):=λx hx=>by
 rcases List.mem_cons.1 hx with rfl | hx
 ·exact h
 ·exact h' x hx
theorem gds_nil:gds n []:=λ_ h=>by cases h
theorem gds_turn {L:List Pm} (h:gds n L):gds n (L.map (Pm.turn n)):=λx hx=>by
 obtain ⟨y,hy,rfl⟩:=List.mem_map.1 hx;exact (h y hy).turn
theorem stuck.stk {L:List Pm} (h:stuck n L):Stk n L:=by
 refine Stk.of λA p q B e j hc=>?_
 subst e
 have:∀ A:List Pm,∃ M,St n (A++p::q::B) M:=λA=>by
  induction A with
  | nil=>exact ⟨_,.head p q B j hc⟩
  | cons a A ih=>obtain ⟨M,hM⟩:=ih;exact ⟨_,.tail a _ _ hM⟩
 obtain ⟨M,hM⟩:=this A
 exact h M hM
theorem ex_stk:∀ (k:Nat) (L:List Pm),ms n L<k->oks n L->∃ M,Sts n L M/\Stk n M
 | 0,_,h,_=>absurd h (Nat.not_lt_zero _)
 | k+1,L,h,o=>by
  by_cases c:stuck n L
  ·exact ⟨L,.refl _,c.stk⟩
  ·obtain ⟨M,hM⟩:∃ M,St n L M:=Classical.byContradiction λhn=>c λM hM=>hn ⟨M,hM⟩
   obtain ⟨N,h1,h2⟩:=ex_stk k M (by have:=hM.less o;omega) (hM.ok o)
   exact ⟨N,.step _ _ _ hM h1,h2⟩
theorem fall {p:Pm} (h:Gd n p) (hd:∀ i,i+1<n->p.g (i+1)<p.g i):p=Pm.rev n:=by
 have hg:∀ x,p.g x=rv n x:=by
  have up:∀ x,x<n->p.g x+x<=n - 1:=by
   intro x
   induction x with
   | zero=>intro hx;have:=(h.1 0 hx).2;omega
   | succ x ih=>intro hx;have:=ih (by omega);have:=hd x hx;omega
  have dn:∀ k x,x+k+1=n->k<=p.g x:=by
   intro k
   induction k with
   | zero=>intro x _;exact Nat.zero_le _
   | succ k ih=>intro x hx;have:=ih (x+1) (by omega);have:=hd x (by omega);omega
  intro x
  by_cases hx:x<n
  ·have h1:=up x hx
   have h2:=dn (n - 1 - x) x (by omega)
   unfold rv;rw [if_pos hx];omega
  ·rw [rv_out (by omega)]
   have:=p.gf x
   rw [h.2 x (by omega)] at this;exact this
 refine Pm.ext' λx=>?_
 have e:=p.fg (rv n x)
 rw [hg,rv_rv] at e
 exact e
theorem rise {p:Pm} (h:Gd n p) (hd:∀ i,i+1<n->p.f i<p.f (i+1)):p=Pm.one:=by
 refine Pm.ext' λx=>?_
 show p.f x=x
 have up:∀ x,x<n->x<=p.f x:=by
  intro x
  induction x with
  | zero=>intro _;exact Nat.zero_le _
  | succ x ih=>intro hx;have:=ih (by omega);have:=hd x hx;omega
 have dn:∀ k x,x+k+1=n->p.f x+k+1<=n:=by
  intro k
  induction k with
  | zero=>intro x hx;have:=(h.1 x (by omega)).1;omega
  | succ k ih=>intro x hx;have:=ih (x+1) (by omega);have:=hd x (by omega);omega
 by_cases hx:x<n
 ·have h1:=up x hx
  have h2:=dn (n - 1 - x) x (by omega)
  omega
 ·exact h.2 x (by omega)
theorem pair_inv {L M:List Pm} (h:Sts n L M):∀ p q,L=[p,q]->∃ a b,M=[a,b]/\(∀ x,b.f (a.f x)=q.f (p.f x))/\∀ x y,x<y->a.f x<a.f y->p.f x<p.f y:=by
 induction h with
 | refl L=>intro p q e;exact ⟨p,q,e,λ_=>rfl,λ_ _ _ h=>h⟩
 | step L M N s _ ih=>
  intro p q e
  subst e
  cases s with
  | head _ _ _ i hc=>
   obtain ⟨a,b,e,h1,h2⟩:=ih _ _ rfl
   refine ⟨a,b,e,λx=>by rw [h1];show q.f (sw i (sw i (p.f x)))=_;rw [sw_sw],λx y hxy hab=>?_⟩
   have h3:sw i (p.f x)<sw i (p.f y):=h2 x y hxy hab
   refine Classical.byContradiction λhn=>?_
   have h4:p.f y<p.f x:=by
    have:p.f x≠p.f y:=λq=>by have e1:=p.gf x;rw [q,p.gf] at e1;omega
    omega
   by_cases c:p.f y=i/\p.f x=i+1
   ·have e1:=p.gf y;have e2:=p.gf x
    rw [c.1] at e1;rw [c.2] at e2
    have:=hc.2.1
    omega
   ·have:=sw_mono h4 c
    omega
  | tail _ _ _ s'=>cases s' with | tail _ _ _ s2=>cases s2
theorem pair_rev {p:Pm} (h:Gd n p):Sts n [p,Pm.rev n] [Pm.rev n,p.turn n]:=by
 have hg:gds n [p,Pm.rev n]:=gds_cons h (gds_cons Gd_rev gds_nil)
 obtain ⟨M,h1,h2⟩:=ex_stk (n:=n) _ _ (Nat.lt_succ_self _) hg.oks
 obtain ⟨a,b,rfl,h3,h4⟩:=pair_inv h1 _ _ rfl
 have hm:=h1.gd hg
 have ha:Gd n a:=hm a (by simp)
 have ea:a=Pm.rev n:=by
  refine fall ha λi hi=>?_
  refine Classical.byContradiction λhn=>?_
  have hne:a.g i≠a.g (i+1):=λq=>by have e1:=a.fg i;rw [q,a.fg] at e1;omega
  have hlt:a.g i<a.g (i+1):=by omega
  refine h2.1 i ⟨hi,hlt,?_⟩
  have h5:=h4 _ _ hlt (by rw [a.fg,a.fg];omega)
  have e1:=h3 (a.g i)
  have e2:=h3 (a.g (i+1))
  rw [a.fg] at e1 e2
  rw [e1,e2]
  show rv n _<rv n _
  have k1:=(h.1 (a.g i) (ha.1 i (by omega)).2).1
  have k2:=(h.1 (a.g (i+1)) (ha.1 (i+1) hi).2).1
  unfold rv
  rw [if_pos k1,if_pos k2];omega
 subst ea
 have eb:b=p.turn n:=Pm.ext' λx=>by
  have:=h3 (rv n x)
  rw [show (Pm.rev n).f (rv n x)=x from rv_rv n x] at this
  exact this
 subst eb
 exact h1
theorem turn_turn {p:Pm}:(p.turn n).turn n=p:=Pm.ext' λx=>by show rv n (rv n (p.f (rv n (rv n x))))=_;rw [rv_rv,rv_rv]
theorem rev_front:∀ {L:List Pm},gds n L->Sts n (L.map (Pm.turn n)++[Pm.rev n]) (Pm.rev n::L)
 | [],_=>.refl _
 | p::L,h=>by
  have h1:=(rev_front (L:=L) λx hx=>h x (List.mem_cons_of_mem _ hx)).tail (p:=p.turn n)
  have h2:=(pair_rev (n:=n) (p:=p.turn n) (h p List.mem_cons_self).turn).app L
  rw [turn_turn] at h2
  exact h1.trans h2
inductive Eq1 (n:Nat):Int×List Pm->Int×List Pm->Prop where
 | sl (k:Int) (L M:List Pm) (h:Sts n L M) (g:gds n L):Eq1 n (k,L) (k,M)
 | id (k:Int) (A B:List Pm) (g:gds n (A++B)):Eq1 n (k,A++Pm.one::B) (k,A++B)
 | rv (k:Int) (L:List Pm) (g:gds n L):Eq1 n (k,Pm.rev n::L) (k+1,L)
inductive Eqv (n:Nat):Int×List Pm->Int×List Pm->Prop where
 | refl (s):Eqv n s s
 | base {s t} (h:Eq1 n s t):Eqv n s t
 | symm {s t} (h:Eqv n s t):Eqv n t s
 | trans {s t u} (h:Eqv n s t) (h':Eqv n t u):Eqv n s u
def addM (n:Nat) (s:Int×List Pm) (x:Int):Int×List Pm:=
 if x>0 then (s.1,s.2++[Pm.one.po (x - 1).toNat]) else (s.1 - 1,s.2.map (Pm.turn n)++[(Pm.rev n).po (-x - 1).toNat])
def addsM (n:Nat) (w:List Int) (s:Int×List Pm):Int×List Pm:=w.foldl (addM n) s
def lt (n:Nat) (x:Int):Prop:=x≠0/\1 - (n:Int)<=x/\x<=(n:Int) - 1
theorem rv_sw {i x:Nat} (hi:i+1<n):rv n (sw i x)=sw (n - 2 - i) (rv n x):=by
 by_cases e1:x=i
 ·subst e1
  rw [sw_l]
  unfold rv
  rw [if_pos hi,if_pos (by omega),show n - 1 - x=(n - 2 - x)+1 by omega,sw_r];omega
 ·by_cases e2:x=i+1
  ·subst e2
   rw [sw_r]
   unfold rv
   rw [if_pos (by omega),if_pos hi,show n - 1 - (i+1)=n - 2 - i by omega,sw_l];omega
  ·rw [sw_ne e1 e2]
   unfold rv
   by_cases c:x<n
   ·rw [if_pos c,sw_ne (by omega) (by omega)]
   ·rw [if_neg c,sw_ne (by omega) (by omega)]
theorem turn_po {p:Pm} {i:Nat} (hi:i+1<n):(p.po i).turn n=(p.turn n).po (n - 2 - i):=Pm.ext' λx=>rv_sw hi
theorem turn_pr {p:Pm} {i:Nat} (hi:i+1<n):(p.pr i).turn n=(p.turn n).pr (n - 2 - i):=Pm.ext' λx=>by
 show rv n (p.f (sw i (rv n x)))=rv n (p.f (rv n (sw (n - 2 - i) x)))
 rw [rv_sw (show n - 2 - i+1<n by omega),show n - 2 - (n - 2 - i)=i by omega]
theorem rv_anti {x y:Nat} (hy:y<n) (h:x<y):rv n y<rv n x:=by unfold rv;rw [if_pos hy,if_pos (by omega)];omega
theorem can.turn {p q:Pm} {i:Nat} (hp:ok n p) (hq:ok n q) (h:can n p q i):can n (p.turn n) (q.turn n) (n - 2 - i):=by
 obtain ⟨h1,h2,h3⟩:=h
 have e1:rv n (n - 2 - i)=i+1:=by unfold rv;rw [if_pos (by omega)];omega
 have e2:rv n (n - 2 - i+1)=i:=by unfold rv;rw [if_pos (by omega)];omega
 refine ⟨by omega,?_,?_⟩
 ·show rv n (p.g (rv n (n - 2 - i)))<rv n (p.g (rv n (n - 2 - i+1)))
  rw [e1,e2]
  exact rv_anti (hp _ h1).2 h2
 ·show rv n (q.f (rv n (n - 2 - i+1)))<rv n (q.f (rv n (n - 2 - i)))
  rw [e1,e2]
  exact rv_anti (hq _ (by omega)).1 h3
theorem St.turn {L M:List Pm} (h:St n L M) (o:oks n L):St n (L.map (Pm.turn n)) (M.map (Pm.turn n)):=by
 induction h with
 | head p q B i h=>
  simp only [List.map_cons]
  rw [turn_po h.1,turn_pr h.1]
  exact .head _ _ _ _ (h.turn (o p (by simp)) (o q (by simp)))
 | tail p L L' _ ih=>exact .tail _ _ _ (ih λx hx=>o x (List.mem_cons_of_mem _ hx))
theorem Sts.turn {L M:List Pm} (h:Sts n L M) (o:oks n L):Sts n (L.map (Pm.turn n)) (M.map (Pm.turn n)):=by
 induction h with
 | refl=>exact .refl _
 | step L M N h _ ih=>exact .step _ _ _ (h.turn o) (ih (h.ok o))
theorem lt_j {x:Int} (h:lt n x):(if x>0 then (x - 1).toNat else (-x - 1).toNat)+1<n:=by
 obtain ⟨h0,h1,h2⟩:=h
 split <;> omega
theorem rev_turn:(Pm.rev n).turn n=Pm.rev n:=Pm.ext' λx=>by show rv n (rv n (rv n x))=rv n x;rw [rv_rv]
theorem Eq1.add {s t:Int×List Pm} {x:Int} (hx:lt n x) (h:Eq1 n s t):Eqv n (addM n s x) (addM n t x):=by
 have hj:=lt_j hx
 unfold addM
 by_cases c:x>0
 ·simp only [if_pos c] at hj ⊢
  have g1:gds n [Pm.one.po (x - 1).toNat]:=gds_cons (Gd_one.po hj) gds_nil
  cases h with
  | sl k L M h g=>exact .base (.sl _ _ _ (h.app _) (gds_app g g1))
  | id k A B g=>
   have:=Eq1.id k A (B++[Pm.one.po (x - 1).toNat]) (by rw [<- List.append_assoc];exact gds_app g g1)
   rw [List.append_assoc,List.append_assoc]
   exact .base this
  | rv k L g=>exact .base (.rv k (L++_) (gds_app g g1))
 ·simp only [if_neg c] at hj ⊢
  have g1:gds n [(Pm.rev n).po (-x - 1).toNat]:=gds_cons (Gd_rev.po hj) gds_nil
  cases h with
  | sl k L M h g=>exact .base (.sl _ _ _ ((h.turn g.oks).app _) (gds_app (gds_turn g) g1))
  | id k A B g=>
   have e:Pm.one.turn n=Pm.one:=Pm.ext' λx=>rv_rv n x
   have:=Eq1.id (k - 1) (A.map (Pm.turn n)) (B.map (Pm.turn n)++[(Pm.rev n).po (-x - 1).toNat]) (by rw [<- List.append_assoc,<-List.map_append];exact gds_app (gds_turn g) g1)
   rw [List.map_append,List.map_append,List.map_cons,e,List.append_assoc,List.append_assoc]
   exact .base this
  | rv k L g=>
   have e:(Pm.rev n).turn n=Pm.rev n:=rev_turn
   have:=Eq1.rv (k - 1) (L.map (Pm.turn n)++[(Pm.rev n).po (-x - 1).toNat]) (gds_app (gds_turn g) g1)
   rw [List.map_cons,e]
   have e2:k+1 - 1=k - 1+1:=by omega
   simp only [e2]
   exact .base this
theorem Eqv.add {s t:Int×List Pm} {x:Int} (hx:lt n x) (h:Eqv n s t):Eqv n (addM n s x) (addM n t x):=by
 induction h with
 | refl s=>exact .refl _
 | base h=>exact h.add hx
 | symm _ ih=>exact ih.symm
 | trans _ _ ih1 ih2=>exact ih1.trans ih2
def Nf (n:Nat) (s r:Int×List Pm):Prop:=∃ M,Sts n s.2 M/\Stk n M/\r=(s.1+((M.filter λp=>decide (p=Pm.rev n)).length:Nat),M.filter λp=>decide (p≠Pm.one/\p≠Pm.rev n))
theorem Nf.fn {s r r':Int×List Pm} (g:gds n s.2) (h:Nf n s r) (h':Nf n s r'):r=r':=by
 obtain ⟨M,a1,a2,rfl⟩:=h
 obtain ⟨N,b1,b2,rfl⟩:=h'
 obtain rfl:=Sts.unique g.oks a1 b1 a2.stuck b2.stuck
 rfl
theorem Nf.ex {s:Int×List Pm} (g:gds n s.2):∃ r,Nf n s r:=by
 obtain ⟨M,h1,h2⟩:=ex_stk (n:=n) _ _ (Nat.lt_succ_self _) g.oks
 exact ⟨_,M,h1,h2,rfl⟩
end Go.Proofs.Ytodfdhnlhiaohaa.AE
end
section
namespace Go.Proofs.Ytodfdhnlhiaohaa.AE
open Go Go.AE Go.Proofs
open Classical
variable {n:Nat}
theorem one_rev (h:2<=n):Pm.one≠Pm.rev n:=λe=>by
 have:Pm.one.f 0=(Pm.rev n).f 0:=by rw [<- e]
 have h2:(Pm.rev n).f 0=n - 1:=by show rv n 0=_;unfold rv;rw [if_pos (by omega)];omega
 rw [h2] at this
 have h3:Pm.one.f 0=0:=rfl
 omega
theorem pair_one {q:Pm} (h:Gd n q):Sts n [Pm.one,q] [q,Pm.one]:=by
 have hg:gds n [Pm.one,q]:=gds_cons Gd_one (gds_cons h gds_nil)
 obtain ⟨M,h1,h2⟩:=ex_stk (n:=n) _ _ (Nat.lt_succ_self _) hg.oks
 have key:∀ {L M:List Pm},Sts n L M->∀ p r,L=[p,r]->(∀ x,r.f (p.f x)=q.f x)->(∀ x y,x<y->p.f y<p.f x->q.f y<q.f x)->∃ a b,M=[a,b]/\(∀ x,b.f (a.f x)=q.f x)/\(∀ x y,x<y->a.f y<a.f x->q.f y<q.f x):=by
  intro L M hs
  induction hs with
  | refl L=>intro p r e k1 k2;exact ⟨p,r,e,k1,k2⟩
  | step L M N s _ ih=>
   intro p r e k1 k2
   subst e
   cases s with
   | head _ _ _ i hc=>
    refine ih _ _ rfl (λx=>?_) λx y hxy hlt=>?_
    ·show r.f (sw i (sw i (p.f x)))=_;rw [sw_sw];exact k1 x
    ·have hlt:sw i (p.f y)<sw i (p.f x):=hlt
     by_cases c:p.f x=i/\p.f y=i+1
     ·rw [<- k1,<-k1,c.1,c.2];exact hc.2.2
     ·refine k2 x y hxy (Classical.byContradiction λhn=>?_)
      have hne:p.f x≠p.f y:=λq=>by have e1:=p.gf x;rw [q,p.gf] at e1;omega
      have:=sw_mono (i:=i) (show p.f x<p.f y by omega) c
      omega
   | tail _ _ _ s'=>cases s' with | tail _ _ _ s2=>cases s2
 obtain ⟨a,b,rfl,h3,h4⟩:=key h1 _ _ rfl (λ_=>rfl) (λx y hxy hlt=>absurd hlt (by show ¬ y<x;omega))
 have hm:=h1.gd hg
 have hb:b=Pm.one:=by
  refine rise (hm b (by simp)) λi hi=>?_
  refine Classical.byContradiction λhn=>?_
  have hne:b.f i≠b.f (i+1):=λq=>by have e1:=b.gf i;rw [q,b.gf] at e1;omega
  have hlt:b.f (i+1)<b.f i:=by omega
  have hna:¬ a.g i<a.g (i+1):=λhh=>h2.1 i ⟨hi,hh,hlt⟩
  have hne2:a.g i≠a.g (i+1):=λq=>by have e1:=a.fg i;rw [q,a.fg] at e1;omega
  have h5:=h4 (a.g (i+1)) (a.g i) (by omega) (by rw [a.fg,a.fg];omega)
  have e1:=h3 (a.g i)
  have e2:=h3 (a.g (i+1))
  rw [a.fg] at e1 e2
  omega
 subst hb
 have ha:a=q:=Pm.ext' h3
 subst ha
 exact h1
theorem one_end:∀ {B:List Pm},gds n B->Sts n (Pm.one::B) (B++[Pm.one])
 | [],_=>.refl _
 | q::B,h=>((pair_one (h q List.mem_cons_self)).app B).trans (one_end (B:=B) λx hx=>h x (List.mem_cons_of_mem _ hx)).tail
theorem Stk.snoc:∀ {X:List Pm},Stk n X->Stk n (X++[Pm.one])
 | [],_=>trivial
 | [p],_=>⟨λj hc=>by have h1:=hc.2.2;have h2:Pm.one.f (j+1)<Pm.one.f j:=h1;exact absurd h2 (by show ¬ j+1<j;omega),trivial⟩
 | p::q::t,h=>⟨h.1,Stk.snoc (X:=q::t) h.2⟩
theorem Stk.rev:∀ {X:List Pm},Stk n X->Stk n (Pm.rev n::X)
 | [],_=>trivial
 | q::t,h=>⟨λj hc=>by
   have h1:=hc.2.1
   have h2:rv n j<rv n (j+1):=h1
   have:=rv_anti (n:=n) (x:=j) (y:=j+1) hc.1 (by omega)
   omega,h⟩
theorem Eq1.gd {s t:Int×List Pm} (h:Eq1 n s t):gds n s.2/\gds n t.2:=by
 cases h with
 | sl k L M h g=>exact ⟨g,h.gd g⟩
 | id k A B g=>
  refine ⟨λx hx=>?_,g⟩
  rcases List.mem_append.1 hx with hx | hx
  ·exact g x (List.mem_append_left _ hx)
  ·rcases List.mem_cons.1 hx with rfl | hx
   ·exact Gd_one
   ·exact g x (List.mem_append_right _ hx)
 | rv k L g=>exact ⟨gds_cons Gd_rev g,g⟩
theorem Eq1.nf1 {s t r:Int×List Pm} (hn:2<=n) (h:Eq1 n s t) (hr:Nf n t r):Nf n s r:=by
 obtain ⟨X,h1,h2,rfl⟩:=hr
 cases h with
 | sl k L M h g=>exact ⟨X,h.trans h1,h2,rfl⟩
 | id k A B g=>
  refine ⟨X++[Pm.one],?_,h2.snoc,?_⟩
  ·have e1:Sts n (A++Pm.one::B) (A++(B++[Pm.one])):=Sts.pre (one_end λx hx=>g x (List.mem_append_right _ hx)) A
   rw [<- List.append_assoc] at e1
   exact e1.trans (h1.app _)
  ·rw [List.filter_append,List.filter_append]
   have f1:([Pm.one].filter λp=>decide (p=Pm.rev n))=[]:=by simp [one_rev hn]
   have f2:([Pm.one].filter λp=>decide (p≠Pm.one/\p≠Pm.rev n))=[]:=by simp
   rw [f1,f2,List.append_nil,List.append_nil]
 | rv k L g=>
  refine ⟨Pm.rev n::X,h1.tail,h2.rev,?_⟩
  have f1:((Pm.rev n::X).filter λp=>decide (p=Pm.rev n))=Pm.rev n::(X.filter λp=>decide (p=Pm.rev n)):=List.filter_cons_of_pos (by simp)
  have f2:((Pm.rev n::X).filter λp=>decide (p≠Pm.one/\p≠Pm.rev n))=X.filter λp=>decide (p≠Pm.one/\p≠Pm.rev n):=List.filter_cons_of_neg (by simp)
  rw [f1,f2,List.length_cons]
  refine Prod.ext ?_ rfl
  show k+1+_=k+_
  omega
theorem Eq1.nf {s t r:Int×List Pm} (hn:2<=n) (h:Eq1 n s t):Nf n s r↔Nf n t r:=by
 refine ⟨λhr=>?_,h.nf1 hn⟩
 obtain ⟨r2,h2⟩:=Nf.ex h.gd.2
 rw [Nf.fn h.gd.1 hr (h.nf1 hn h2)];exact h2
theorem Eqv.nf {s t r:Int×List Pm} (hn:2<=n) (h:Eqv n s t):Nf n s r↔Nf n t r:=by
 induction h with
 | refl=>exact Iff.rfl
 | base h=>exact h.nf hn
 | symm _ ih=>exact ih.symm
 | trans _ _ ih1 ih2=>exact ih1.trans ih2
theorem ids (k:Int):∀ (t A:List Pm),gds n (A++t)->Eqv n (k,A++t) (k,A++t.filter λp=>decide (p≠Pm.one))
 | [],A,_=>.refl _
 | p::t,A,g=>by
  by_cases e:p=Pm.one
  ·subst e
   have g2:gds n (A++t):=λx hx=>by
    rcases List.mem_append.1 hx with hx | hx
    ·exact g x (List.mem_append_left _ hx)
    ·exact g x (List.mem_append_right _ (List.mem_cons_of_mem _ hx))
   rw [List.filter_cons_of_neg (by simp)]
   exact (Eqv.base (.id k A t g2)).trans (ids k t A g2)
  ·rw [List.filter_cons_of_pos (by simpa using e)]
   have:=ids k t (A++[p]) (by rw [List.append_assoc];exact g)
   rw [List.append_assoc,List.append_assoc] at this
   exact this
theorem no_rev:∀ {t:List Pm} {p:Pm},gds n (p::t)->Stk n (p::t)->p≠Pm.rev n->∀ x∈t,x≠Pm.rev n
 | [],_,_,_,_,x,hx=>by cases hx
 | q::t,p,g,h,hp,x,hx=>by
  have hq:q≠Pm.rev n:=λe=>hp (fall (g p List.mem_cons_self) λi hi=>by
   refine Classical.byContradiction λhn=>?_
   have hne:p.g i≠p.g (i+1):=λq=>by have e1:=p.fg i;rw [q,p.fg] at e1;omega
   refine h.1 i ⟨hi,by omega,?_⟩
   rw [e];exact rv_anti hi (by omega))
  rcases List.mem_cons.1 hx with rfl | hx
  ·exact hq
  ·exact no_rev (λy hy=>g y (List.mem_cons_of_mem _ hy)) h.2 hq x hx
theorem stk_eqv (hn:2<=n):∀ (M:List Pm) (k:Int),gds n M->Stk n M->Eqv n (k,M) (k+((M.filter λp=>decide (p=Pm.rev n)).length:Nat),M.filter λp=>decide (p≠Pm.one/\p≠Pm.rev n))
 | [],k,_,_=>by
  have e:k+((([]:List Pm).filter λp=>decide (p=Pm.rev n)).length:Nat)=k:=by simp
  rw [e];exact .refl _
 | p::t,k,g,h=>by
  have gt:gds n t:=λx hx=>g x (List.mem_cons_of_mem _ hx)
  by_cases e:p=Pm.rev n
  ·subst e
   have ht:Stk n t:=by
    cases t with
    | nil=>trivial
    | cons q t=>exact h.2
   have:=stk_eqv hn t (k+1) gt ht
   rw [List.filter_cons_of_pos (by simp),List.filter_cons_of_neg (by simp),List.length_cons]
   have e2:k+(((t.filter λp=>decide (p=Pm.rev n)).length+1:Nat):Int)=k+1+((t.filter λp=>decide (p=Pm.rev n)).length:Nat):=by omega
   rw [e2]
   exact (Eqv.base (.rv k t gt)).trans this
  ·have hno:∀ x∈p::t,x≠Pm.rev n:=λx hx=>by
    rcases List.mem_cons.1 hx with rfl | hx
    ·exact e
    ·exact no_rev g h e x hx
   have f1:((p::t).filter λp=>decide (p=Pm.rev n))=[]:=List.filter_eq_nil_iff.2 λx hx=>by simpa using hno x hx
   have f2:((p::t).filter λp=>decide (p≠Pm.one/\p≠Pm.rev n))=(p::t).filter λp=>decide (p≠Pm.one):=List.filter_congr λx hx=>by
    have:=hno x hx;simp [this]
   rw [f1,f2]
   have e2:k+(([]:List Pm).length:Nat)=k:=by simp
   rw [e2]
   exact ids k (p::t) [] g
theorem Nf.eqv {s r:Int×List Pm} (hn:2<=n) (g:gds n s.2) (h:Nf n s r):Eqv n s r:=by
 obtain ⟨M,h1,h2,rfl⟩:=h
 exact (Eqv.base (.sl s.1 s.2 M h1 g)).trans (stk_eqv hn M s.1 (h1.gd g) h2)
inductive Wd (n:Nat):Pm->List Int->Prop where
 | nil:Wd n Pm.one []
 | cons (p:Pm) (j:Nat) (w:List Int) (hj:j+1<n) (hd:p.f (j+1)<p.f j) (h:Wd n (p.pr j) w):Wd n p (((j:Int)+1)::w)
theorem Wd.lt {p:Pm} {w:List Int} (h:Wd n p w):∀ x∈w,AE.lt n x:=by
 induction h with
 | nil=>intro x hx;cases hx
 | cons p j w hj hd h ih=>
  intro x hx
  rcases List.mem_cons.1 hx with rfl | hx
  ·exact ⟨by omega,by omega,by omega⟩
  ·exact ih x hx
theorem addM_pos {s:Int×List Pm} {j:Nat}:addM n s ((j:Int)+1)=(s.1,s.2++[Pm.one.po j]):=by
 unfold addM
 rw [if_pos (by omega),show ((j:Int)+1 - 1).toNat=j by omega]
theorem addM_neg {s:Int×List Pm} {j:Nat}:addM n s (-((j:Int)+1))=(s.1 - 1,s.2.map (Pm.turn n)++[(Pm.rev n).po j]):=by
 unfold addM
 rw [if_neg (by omega),show (- -((j:Int)+1) - 1).toNat=j by omega]
def cmp (n:Nat) (p:Pm):Pm:=⟨λx=>p.g (rv n x),λx=>rv n (p.f x),λx=>by rw [p.fg,rv_rv],λx=>by rw [rv_rv,p.gf]⟩
theorem Gd.cmp {p:Pm} (h:Gd n p):Gd n (cmp n p):=⟨λx hx=>⟨(h.1 _ (rv_lt hx)).2,rv_lt (h.1 x hx).1⟩,λx hx=>by
 show p.g (rv n x)=x
 rw [rv_out hx]
 have:=p.gf x
 rw [h.2 x hx] at this;exact this⟩
theorem map_turn_turn {L:List Pm}:(L.map (Pm.turn n)).map (Pm.turn n)=L:=by
 rw [List.map_map]
 have:(Pm.turn n ∘ Pm.turn n)=id:=funext λp=>turn_turn
 rw [this,List.map_id]
theorem rev_eqv {k:Int} {L:List Pm} (g:gds n L):Eqv n (k,L) (k - 1,L.map (Pm.turn n)++[Pm.rev n]):=by
 have h1:=Eqv.base (Eq1.sl (k - 1) _ _ (rev_front g) (gds_app (gds_turn g) (gds_cons Gd_rev gds_nil)))
 have h2:=Eqv.base (Eq1.rv (k - 1) L g)
 have e:k - 1+1=k:=by omega
 rw [e] at h2
 exact (h1.trans h2).symm
theorem addsM_app (u v:List Int) (s:Int×List Pm):addsM n (u++v) s=addsM n v (addsM n u s):=List.foldl_append
theorem Wd.inv {p:Pm} {w:List Int} (h:Wd n p w):∀ (k:Int) (L:List Pm),Gd n p->gds n L->Eqv n (addsM n (w.map Neg.neg).reverse (k,L)) (k - 1,L.map (Pm.turn n)++[cmp n p]):=by
 induction h with
 | nil=>
  intro k L _ g
  have e:cmp n Pm.one=Pm.rev n:=Pm.ext' λ_=>rfl
  rw [e]
  exact rev_eqv g
 | cons p j w hj hd h ih=>
  intro k L hp g
  rw [List.map_cons,List.reverse_cons,addsM_app]
  have h1:=ih k L (hp.pr hj) g
  have hx:AE.lt n (-((j:Int)+1)):=⟨by omega,by omega,by omega⟩
  have h2:=h1.add hx
  refine Eqv.trans (show Eqv n (addsM n [-((j:Int)+1)] _) _ from h2) ?_
  rw [addM_neg]
  have gL:gds n (L.map (Pm.turn n)++[cmp n p]):=gds_app (gds_turn g) (gds_cons hp.cmp gds_nil)
  refine Eqv.trans ?_ (rev_eqv gL).symm
  simp only [List.map_append,map_turn_turn,List.map_cons,List.map_nil,List.append_assoc,List.cons_append,List.nil_append]
  have hi:n - 2 - j+1<n:=by omega
  have e1:((cmp n p).turn n).po (n - 2 - j)=(cmp n (p.pr j)).turn n:=Pm.ext' λx=>by
   show sw (n - 2 - j) (rv n (p.g (rv n (rv n x))))=rv n (sw j (p.g (rv n (rv n x))))
   rw [rv_sw hj]
  have e2:(Pm.rev n).pr (n - 2 - j)=(Pm.rev n).po j:=Pm.ext' λx=>by
   show rv n (sw (n - 2 - j) x)=sw j (rv n x)
   rw [rv_sw hi,show n - 2 - (n - 2 - j)=j by omega]
  have r1:rv n (n - 2 - j)=j+1:=by unfold rv;rw [if_pos (by omega)];omega
  have r2:rv n (n - 2 - j+1)=j:=by unfold rv;rw [if_pos hi];omega
  have hc:can n ((cmp n p).turn n) (Pm.rev n) (n - 2 - j):=by
   refine ⟨hi,?_,rv_anti hi (by omega)⟩
   show rv n (rv n (p.f (rv n (n - 2 - j))))<rv n (rv n (p.f (rv n (n - 2 - j+1))))
   rw [rv_rv,rv_rv,r1,r2];exact hd
  have hs:Sts n (L++[(cmp n p).turn n,Pm.rev n]) (L++[(cmp n (p.pr j)).turn n,(Pm.rev n).po j]):=by
   have:=Sts.pre (Sts.one (.head ((cmp n p).turn n) (Pm.rev n) [] (n - 2 - j) hc)) L
   rw [e1,e2] at this
   exact this
  have g2:gds n (L++[(cmp n p).turn n,Pm.rev n]):=gds_app g (gds_cons hp.cmp.turn (gds_cons Gd_rev gds_nil))
  exact (Eqv.base (.sl _ _ _ hs g2)).symm
end Go.Proofs.Ytodfdhnlhiaohaa.AE
end
section
namespace Go.Proofs.Ytodfdhnlhiaohaa.AE
open Go Go.AE Go.Proofs
open Classical
variable {n F:Nat}
theorem Pl_inj {p q:Pm} (hp:Gd n p) (hq:Gd n q) (h:Pl n p=Pl n q):p=q:=by
 refine Pm.ext' λx=>?_
 by_cases hx:x<n
 ·have:gt (Pl n p) x=gt (Pl n q) x:=by rw [h]
  rw [gt_Pl hx,gt_Pl hx] at this
  omega
 ·rw [hp.2 x (by omega),hq.2 x (by omega)]
theorem adds2 (hn:n<=6) (hF:5000<F):∀ (t:List Int) (s:Int×List Pm),(∀ x∈t,lt n x)->s.2.length+t.length<=1000->-1000<=s.1 - t.length->s.1<=1000->oks n s.2 ->
  hZ (jx (bc.p F) (bx.p F) (cy.p F) (a_.p F) (cE.p F) (bP.p F) F n) t (s.1,s.2.map (Pl n))=some ((addsM n t s).1,(addsM n t s).2.map (Pl n))
 | [],s,_,_,_,_,_=>rfl
 | x::t,s,hx,hl,h0,h1,o=>by
  rw [List.length_cons] at hl h0
  have hx1:=hx x List.mem_cons_self
  have hj:=lt_j hx1
  have ht:=λy hy=>hx y (List.mem_cons_of_mem x hy)
  rw [hZ,jx,kG (by omega) (by omega),Option.bind_some]
  by_cases c:x>0
  ·simp only [if_pos c] at hj
   have e:addM n s x=(s.1,s.2++[Pm.one.po (x - 1).toNat]):=if_pos c
   have ih:=adds2 hn hF t (addM n s x) ht (by rw [e];simp;omega) (by rw [e];simp;omega) (by rw [e];exact h1) (by rw [e];exact oks_snoc o (ok_one.po hj))
   rw [decide_eq_false (by omega),cond_false,addt (by omega) (by omega) ok_one hj (.inl (by omega)) (by omega),Option.bind_some]
   rw [e] at ih
   exact ih.trans (by rw [<- e];rfl)
  ·simp only [if_neg c] at hj
   have e:addM n s x=(s.1 - 1,s.2.map (Pm.turn n)++[(Pm.rev n).po (-x - 1).toNat]):=if_neg c
   have hot:oks n (s.2.map (Pm.turn n)):=λy hy=>by
    obtain ⟨z,hz,rfl⟩:=List.mem_map.1 hy;exact (o z hz).turn
   have hrev:Pl n (Pm.rev n).inv=Pl n (Pm.rev n):=rfl
   have ih:=adds2 hn hF t (addM n s x) ht (by rw [e];simp;omega) (by rw [e];simp;omega) (by rw [e];simp;omega) (by rw [e];exact oks_snoc hot (ok_rev.po hj))
   rw [decide_eq_true (show x<0 by have:=hx1.1;omega),cond_true,if_pos (by simp;omega)]
   simp only []
   rw [tss_turn (by omega) (by omega) s.2 o,Option.bind_some,pi hn (by omega),Option.bind_some,kF (by omega) (by omega) ok_rev,Option.bind_some,hrev,addt (by omega) (by omega) ok_rev hj (.inr (by have:=hx1.1;omega)) (by simp;omega),Option.bind_some,aS (by omega) (by omega)]
   rw [e] at ih
   exact ih.trans (by rw [<- e];rfl)
theorem gds_addsM:∀ (t:List Int) (s:Int×List Pm),(∀ x∈t,lt n x)->gds n s.2->gds n (addsM n t s).2
 | [],_,_,g=>g
 | x::t,s,hx,g=>by
  have hx1:=hx x List.mem_cons_self
  have hj:=lt_j hx1
  refine gds_addsM t (addM n s x) (λy hy=>hx y (List.mem_cons_of_mem _ hy)) ?_
  unfold addM
  by_cases c:x>0
  ·simp only [if_pos c] at hj ⊢
   exact gds_app g (gds_cons (Gd_one.po hj) gds_nil)
  ·simp only [if_neg c] at hj ⊢
   exact gds_app (gds_turn g) (gds_cons (Gd_rev.po hj) gds_nil)
theorem addsM_bd:∀ (t:List Int) (s:Int×List Pm),(addsM n t s).2.length=s.2.length+t.length/\s.1 - t.length<=(addsM n t s).1/\(addsM n t s).1<=s.1
 | [],s=>⟨rfl,by show s.1 - (0:Nat)<=s.1;omega,Int.le_refl _⟩
 | x::t,s=>by
  obtain ⟨h1,h2,h3⟩:=addsM_bd t (addM n s x)
  have e:addsM n (x::t) s=addsM n t (addM n s x):=rfl
  have k:(addM n s x).2.length=s.2.length+1/\s.1 - 1<=(addM n s x).1/\(addM n s x).1<=s.1:=by
   unfold addM
   split
   ·refine ⟨by simp,?_,?_⟩ <;> simp only [] <;> omega
   ·refine ⟨by simp,?_,?_⟩ <;> simp only [] <;> omega
  rw [e,List.length_cons]
  omega
theorem part2 (hn:2<=n) (hn6:n<=6) (hF:2000<F):∀ (M:List Pm) (pw:Int) (acc:List Pm),gds n M->acc.length+M.length<=1000->-1000<=pw->pw+M.length<=1000 ->
  iJ (bv.p F) (Pl n Pm.one) (Pl n (Pm.rev n)) (M.map (Pl n)) pw (acc.map (Pl n))=some (pw+((M.filter λp=>decide (p=Pm.rev n)).length:Nat),(acc++M.filter λp=>decide (p≠Pm.one/\p≠Pm.rev n)).map (Pl n))
 | [],pw,acc,_,_,_,_=>by
  have e:pw+((([]:List Pm).filter λp=>decide (p=Pm.rev n)).length:Nat)=pw:=by simp
  rw [e]
  simp [iJ]
 | p::M,pw,acc,g,hl,h0,h1=>by
  rw [List.length_cons] at hl h1
  have gp:=g p List.mem_cons_self
  have gM:gds n M:=λx hx=>g x (List.mem_cons_of_mem _ hx)
  rw [List.map_cons,iJ,mW (by rw [Pl_len];omega) (by omega),Option.bind_some]
  by_cases c1:p=Pm.one
  ·subst c1
   rw [decide_eq_true rfl,cond_true,List.filter_cons_of_neg (by simpa using one_rev hn),List.filter_cons_of_neg (by simp)]
   exact part2 hn hn6 hF M pw acc gM (by omega) h0 (by omega)
  ·rw [decide_eq_false λh=>c1 (Pl_inj gp Gd_one h),cond_false,mW (by rw [Pl_len];omega) (by omega),Option.bind_some]
   by_cases c2:p=Pm.rev n
   ·subst c2
    rw [decide_eq_true rfl,cond_true,List.filter_cons_of_pos (by simp),List.filter_cons_of_neg (by simp),List.length_cons,aS (by omega) (by omega)]
    have:=part2 hn hn6 hF M (pw+1) acc gM (by omega) (by omega) (by omega)
    rw [this]
    congr 2
    omega
   ·have hap:apn (acc.map (Pl n)) [Pl n p]=some ((acc++[p]).map (Pl n)):=apn_map (by omega)
    rw [decide_eq_false λh=>c2 (Pl_inj gp Gd_rev h),cond_false,hap,Option.bind_some,List.filter_cons_of_neg (by simpa using c2),List.filter_cons_of_pos (by simp [c1,c2])]
    have:=part2 hn hn6 hF M pw (acc++[p]) gM (by simp;omega) (by omega) (by omega)
    rw [this,List.append_assoc];rfl
theorem vb_lt {w:List Int} (hv:BB.vb n w=true):1<=n/\n<=6/\w.length<=24/\∀ x∈w,lt n x:=by
 obtain ⟨h1,h2,h3,h4⟩:=BB.vb_of hv
 refine ⟨by omega,by omega,h3,λx hx=>?_⟩
 obtain ⟨i,i1,i2⟩:=BB.mem_gt hx
 have:=h4 i i1
 rw [i2] at this
 unfold lt;omega
theorem form_nf (hF:1000000000000000000000000000000<=F) (hn2:2<=n) {w:List Int} (hv:BB.vb n w=true) :
  ∃ k X,bU.p F n w=some (k,X.map (Pl n))/\Nf n (addsM n w (0,[])) (k,X)/\-24<=k/\k<=24/\gds n X/\X.length<=24:=by
 obtain ⟨h1,hn,h3,hl⟩:=vb_lt hv
 have e1:=adds2 (F:=F) hn (by omega) w (0,[]) hl (by simp;omega) (by simp;omega) (by simp) (λ_ h=>by cases h)
 have g:=gds_addsM w (0,[]) hl gds_nil
 obtain ⟨b1,b2,b3⟩:=addsM_bd (n:=n) w (0,[])
 simp only [List.length_nil,Nat.zero_add] at b1 b2 b3
 generalize hs:addsM n w (0,[])=s at *
 have hms:=ms_le hn s.2 g.oks (by omega)
 have hB:(216 * 6 ^ 24:Nat)=1023490369077469249536:=by decide
 rw [hB] at hms
 have hms2:ms n s.2<=24 * 1023490369077469249536:=Nat.le_trans hms (Nat.mul_le_mul_right _ (by omega))
 obtain ⟨A,a1,a2,a3,a4⟩:=fin_all (F:=F) hn (by omega) (by omega) (ms n s.2+1) (F - 1) s.2 (by omega) (by omega) g.oks (by omega)
 have gA:=a2.gd g
 have hp:=part2 (F:=F) hn2 hn (by omega) A s.1 [] gA (by simp;omega) (by omega) (by omega)
 have c1:(A.filter λp=>decide (p=Pm.rev n)).length<=A.length:=List.length_filter_le _ _
 have c2:(A.filter λp=>decide (p≠Pm.one/\p≠Pm.rev n)).length<=A.length:=List.length_filter_le _ _
 refine ⟨_,A.filter λp=>decide (p≠Pm.one/\p≠Pm.rev n),?_,⟨A,a2,a3,rfl⟩,by omega,by omega,λx hx=>gA x (List.mem_filter.1 hx).1,by omega⟩
 unfold bU.p nfP
 have e1:hZ (jx (bc.p F) (bx.p F) (cy.p F) (a_.p F) (cE.p F) (bP.p F) F n) w (0,[])=some (s.1,s.2.map (Pl n)):=e1
 rw [if_pos (by omega),e1,Option.bind_some]
 unfold np
 rw [a1,Option.bind_some,kG (by omega) (by omega),Option.bind_some,pi hn (by omega),Option.bind_some,if_pos (by rw [List.length_map];omega)]
 exact hp
end Go.Proofs.Ytodfdhnlhiaohaa.AE
end
section
namespace Go.Proofs.Ytodfdhnlhiaohaa.AE.SS
open Go Go.AE Go.Proofs
variable {F:Nat}
theorem ix_of {α:Type} {l:List α} {i:Int} (h0:0<=i) (h:i<l.length):ix l i=some i.toNat:=by
 unfold ix;rw [if_pos ⟨h0,h⟩]
structure Src (c:List Int) (a s:Int):Prop where
 b:∀ n:Nat,0<=gt c n/\gt c n<=255
 l:c.length<=1000000
 a0:0<=a
 a1:a<=c.length
 s0:0<=s
 s1:s<2147483647
theorem seed_ok {s:Int} (h0:0<=s) (h1:s<2147483647):∃ t,Int.tmod (IntKind.i64.wrap ((IntKind.i64.wrap (s * 48271))+11)) 2147483647=t/\0<=t/\t<2147483647:=by
 rw [aS (x:=s * 48271) (by omega) (by omega),aS (by omega) (by omega)]
 refine ⟨_,rfl,?_⟩
 rw [Int.tmod_eq_emod_of_nonneg (by omega)]
 constructor <;> omega
theorem mod_ok {x n:Int} (hx:0<=x) (hn:1<n):∃ r,Int.tmod x n=r/\0<=r/\r<n:=by
 refine ⟨_,rfl,?_⟩
 rw [Int.tmod_eq_emod_of_nonneg hx]
 exact ⟨Int.emod_nonneg _ (by omega),Int.emod_lt_of_pos _ (by omega)⟩
theorem next {c:List Int} {a s n:Int} (h:Src c a s):∃ r a' s',aD.p F c a s n=some (r,a',s')/\Src c a' s'/\0<=r/\(n<=1->r=0)/\(1<n->r<n):=by
 obtain ⟨h1,h2,h3,h4,h5,h6⟩:=h
 unfold aD.p
 by_cases hn:n<=1
 ·rw [decide_eq_true hn,cond_true]
  exact ⟨0,a,s,rfl,⟨h1,h2,h3,h4,h5,h6⟩,Int.le_refl _,λ_=>rfl,λq=>by omega⟩
 ·rw [decide_eq_false hn,cond_false]
  obtain ⟨t,e,t0,t1⟩:=seed_ok h5 h6
  simp only [e]
  have td:0<=Int.tdiv t 11/\Int.tdiv t 11<=t:=by
   rw [Int.tdiv_eq_ediv_of_nonneg t0];constructor <;> omega
  unfold aD.pj2 aD.pj1 aD.pj3
  have n0:¬ n=0:=by omega
  simp only [if_neg n0]
  by_cases ha:a<c.length
  ·rw [decide_eq_true ha,cond_true]
   have ix0:ix c a=some a.toNat:=ix_of h3 ha
   have gb:=h1 a.toNat
   rw [ix0,Option.bind_some,aS (x:=a+1) (by omega) (by omega),aS (x:=a+1 - 1) (by omega) (by omega),show a+1 - 1=a by omega,ix0,Option.bind_some,aS (x:=gt c a.toNat) (by omega) (by omega),aS (x:=Int.tdiv t 11) (by omega) (by omega),aS (x:=Int.tdiv t 11+gt c a.toNat) (by omega) (by omega)]
   have S:Src c (a+1) t:=⟨h1,h2,by omega,by omega,t0,t1⟩
   obtain ⟨r1,m1,m2,m3⟩:=mod_ok (x:=gt c a.toNat) (n:=n) gb.1 (by omega)
   obtain ⟨r2,m4,m5,m6⟩:=mod_ok (x:=Int.tdiv t 11+gt c a.toNat) (n:=n) (by omega) (by omega)
   rw [m1,m4]
   cases decide (n<=256) <;> cases (Int.tmod (a+1) 2==0) <;> simp only [cond_true,cond_false]
   ·exact ⟨r2,_,_,rfl,S,m5,λq=>absurd q hn,λ_=>m6⟩
   ·exact ⟨r2,_,_,rfl,S,m5,λq=>absurd q hn,λ_=>m6⟩
   ·exact ⟨r2,_,_,rfl,S,m5,λq=>absurd q hn,λ_=>m6⟩
   ·exact ⟨r1,_,_,rfl,S,m2,λq=>absurd q hn,λ_=>m3⟩
  ·rw [decide_eq_false ha,cond_false,aS (x:=Int.tdiv t 11) (by omega) (by omega)]
   obtain ⟨r2,m4,m5,m6⟩:=mod_ok (x:=Int.tdiv t 11) (n:=n) (by omega) (by omega)
   rw [m4]
   exact ⟨r2,_,_,rfl,⟨h1,h2,h3,h4,t0,t1⟩,m5,λq=>absurd q hn,λ_=>m6⟩
theorem from_l {c:List Int} (hc:c.length<=1000000) (hb:∀ n:Nat,0<=gt c n/\gt c n<=255):∀ (n g:Nat) (s i:Int),c.length - i=n->n<g->0<=i->0<=s->s<2147483647->∃ t,bR.pl29 F g c 0 s i=some (c,0,t)/\0<=t/\t<2147483647:=by
 intro n
 induction n with
 | zero=>
  intro g s i hn hg hi h0 h1
  obtain ⟨g,rfl⟩:∃ g',g=g'+1:=⟨g - 1,by omega⟩
  rw [bR.pl29,decide_eq_false (by omega),cond_false]
  exact ⟨s,rfl,h0,h1⟩
 | succ n ih=>
  intro g s i hn hg hi h0 h1
  obtain ⟨g,rfl⟩:∃ g',g=g'+1:=⟨g - 1,by omega⟩
  rw [bR.pl29,decide_eq_true (by omega),cond_true]
  cases decide (i<64) with
  | false=>exact ⟨s,rfl,h0,h1⟩
  | true=>
   have gb:=hb i.toNat
   rw [cond_true,ix_of hi (by omega),Option.bind_some,aS (x:=gt c i.toNat) (by omega) (by omega),aS (x:=s * 37) (by omega) (by omega),aS (x:=s * 37+gt c i.toNat) (by omega) (by omega),aS (x:=i+1) (by omega) (by omega)]
   obtain ⟨r,m1,m2,m3⟩:=mod_ok (x:=s * 37+gt c i.toNat) (n:=2147483647) (by omega) (by omega)
   rw [m1]
   exact ih g r (i+1) (by omega) (by omega) (by omega) m2 m3
theorem from_ {c:List Int} (hF:5000000<F) (hc:c.length<=1000000) (hb:∀ n:Nat,0<=gt c n/\gt c n<=255):∃ t,bR.p F c=some (c,0,t)/\Src c 0 t:=by
 unfold bR.p
 obtain ⟨t,e,h0,h1⟩:=from_l (F:=F) hc hb c.length F 97531 0 (by omega) (by omega) (by omega) (by omega) (by omega)
 exact ⟨t,e,hb,hc,Int.le_refl _,by omega,h0,h1⟩
theorem nx {c:List Int} {a s n:Int} (h:Src c a s) (hn:1<=n):∃ r a' s',aD.p F c a s n=some (r,a',s')/\Src c a' s'/\0<=r/\r<n:=by
 obtain ⟨r,a',s',e,h',r0,r1,r2⟩:=next (F:=F) (n:=n) h
 refine ⟨r,a',s',e,h',r0,?_⟩
 by_cases c:n<=1
 ·have:=r1 c;omega
 ·exact r2 (by omega)
end Go.Proofs.Ytodfdhnlhiaohaa.AE.SS
end
section
namespace Go.Proofs.Ytodfdhnlhiaohaa.AE
open Go Go.AE Go.Proofs
open Classical
variable {n F:Nat}
theorem rows_self {a:List (List Int)} (hF:2000<F) (ha:a.length<=1000) (hx:∀ x∈a,x.length<=1000):∀ (m g k:Nat),a.length - k=m->m<g->bH.pl29 F g a a a.length k=some true:=by
 intro m
 induction m with
 | zero=>
  intro g k hm hg
  obtain ⟨g,rfl⟩:∃ g',g=g'+1:=⟨g - 1,by omega⟩
  rw [bH.pl29,decide_eq_false (by omega),cond_false]
 | succ m ih=>
  intro g k hm hg
  obtain ⟨g,rfl⟩:∃ g',g=g'+1:=⟨g - 1,by omega⟩
  have h1:k<a.length:=by omega
  have hw:IntKind.i64.wrap ((k:Int)+1)=((k+1:Nat):Int):=by rw [aS (by omega) (by omega)];omega
  rw [bH.pl29,decide_eq_true (by omega),cond_true,ix_of h1,Option.bind_some,Option.bind_some,gt_of (List.getElem?_eq_getElem h1),mW (hx _ (List.getElem_mem _)) (by omega),Option.bind_some,decide_eq_true rfl,Bool.not_true,cond_false,hw]
  exact ih g (k+1) (by omega) (by omega)
structure FN (F n:Nat) (w:List Int) (k:Int) (X:List Pm):Prop where
 e:bU.p F n w=some (k,X.map (Pl n))
 g:gds n X
 l:X.length<=24
 k0:-24<=k
 k1:k<=24
 q:Eqv n (addsM n w (0,[])) (k,X)
 u:∀ u,BB.vb n u=true->Eqv n (addsM n u (0,[])) (k,X)->bU.p F n u=some (k,X.map (Pl n))
theorem fn_ex (hF:1000000000000000000000000000000<=F) {w:List Int} (hv:BB.vb n w=true):∃ k X,FN F n w k X:=by
 obtain ⟨h1,h6,h24,hl⟩:=vb_lt hv
 by_cases h2:2<=n
 ·obtain ⟨k,X,e,hN,k0,k1,g,l⟩:=form_nf hF h2 hv
  have gw:=gds_addsM w (0,[]) hl gds_nil
  refine ⟨k,X,e,g,l,k0,k1,hN.eqv h2 gw,λu hu hq=>?_⟩
  obtain ⟨k',X',e',hN',_⟩:=form_nf hF h2 hu
  have h3:=(hN.eqv h2 gw)
  have h4:=(Eqv.nf (r:=(k,X)) h2 (hq.trans h3.symm)).2 hN
  have gu:=gds_addsM u (0,[]) (vb_lt hu).2.2.2 gds_nil
  have h5:=Nf.fn gu hN' h4
  cases h5
  exact e'
 ·obtain rfl:n=1:=by omega
  have hnil:∀ u:List Int,BB.vb ((1:Nat):Int) u=true->u=[]:=λu hu=>by
   obtain ⟨_,_,_,hl⟩:=vb_lt hu
   cases u with
   | nil=>rfl
   | cons x u=>have:=hl x List.mem_cons_self;unfold lt at this;omega
  have e1:bU.p F ((1:Nat):Int) []=some (0,[]):=by
   unfold bU.p nfP np
   obtain ⟨g,hg⟩:∃ g,F - 1=g+1:=⟨F - 2,by omega⟩
   rw [if_pos (by simp;omega),hZ,Option.bind_some,hg,kQ,if_pos (by simp;omega),zZ,Option.bind_some,cond_false,Option.bind_some,kG (by omega) (by omega),Option.bind_some,pi (by omega) (by omega),Option.bind_some,if_pos (by simp;omega)]
   rfl
  obtain rfl:=hnil w hv
  exact ⟨0,[],e1,gds_nil,by simp,by omega,by omega,.refl _,λu hu _=>by rw [hnil u hu];exact e1⟩
theorem same_of {w u:List Int} {k:Int} {X:List Pm} (hF:1000000000000000000000000000000<=F) (hv:BB.vb n w=true) (hu:BB.vb n u=true) (h:FN F n w k X) (hq:Eqv n (addsM n u (0,[])) (k,X)):cF.p F n u n w=some true:=by
 have hl:=h.l
 unfold cF.p
 rw [BB.Vb (by omega),BB.Vb (by omega),hv,hu]
 simp only [Option.bind_some,Bool.not_true,cond_false,bne_self_eq_false,h.u u hu hq,h.e,beq_self_eq_true,cond_true]
 unfold bH.p
 rw [bne_self_eq_false,cond_false]
 have:=rows_self (F:=F) (a:=X.map (Pl n)) (by omega) (by simp;omega) (λx hx=>by obtain ⟨y,_,rfl⟩:=List.mem_map.1 hx;rw [Pl_len];have:=(vb_lt hv).2.1;omega) (X.map (Pl n)).length F 0 (by omega) (by simp;omega)
 have this:bH.pl29 F F (X.map (Pl n)) (X.map (Pl n)) ((X.map (Pl n)).length:Int) 0=some true:=this
 rw [this];rfl
theorem draw_l {c:List Int} {st:Int} (h6:st<=1000):∀ (m g:Nat) (a s:Int) (w:List Int) (k:Int),k.toNat=m->m<g->w.length+m<=1000->k<=1000->SS.Src c a s->∃ w' a' s',aN.pl61 F g c a s st w k=some (st,w',a',s')/\w'.length<=1000/\SS.Src c a' s':=by
 intro m
 induction m with
 | zero=>
  intro g a s w k hm hg hw hk hs
  obtain ⟨g,rfl⟩:∃ g',g=g'+1:=⟨g - 1,by omega⟩
  rw [aN.pl61,decide_eq_false (by omega),cond_false]
  exact ⟨w,a,s,rfl,by omega,hs⟩
 | succ m ih=>
  intro g a s w k hm hg hw hk hs
  obtain ⟨g,rfl⟩:∃ g',g=g'+1:=⟨g - 1,by omega⟩
  rw [aN.pl61,decide_eq_true (by omega),cond_true]
  by_cases c1:st>1
  ·obtain ⟨r,a1,s1,e1,h1,r0,r1⟩:=SS.nx (F:=F) (n:=st - 1) hs (by omega)
   obtain ⟨q,a2,s2,e2,h2,_,_⟩:=SS.nx (F:=F) (n:=2) h1 (by omega)
   rw [decide_eq_true c1,cond_true,aS (x:=st - 1) (by omega) (by omega),e1,Option.bind_some]
   simp only []
   rw [e2,Option.bind_some]
   unfold aN.pj2
   have hap:∀ x:Int,apn w [x]=some (w++[x]):=λx=>by unfold apn;rw [if_pos (by simp;omega)]
   simp only [hap,Option.bind_some]
   rw [aS (x:=k - 1) (by omega) (by omega)]
   cases (q==0)
   ·rw [cond_false];exact ih g _ _ _ _ (by omega) (by omega) (by simp;omega) (by omega) h2
   ·rw [cond_true];exact ih g _ _ _ _ (by omega) (by omega) (by simp;omega) (by omega) h2
  ·rw [decide_eq_false c1,cond_false]
   exact ⟨w,a,s,rfl,by omega,hs⟩
theorem ones_l {c:List Int} {st:Int}:∀ (m g:Nat) (a s:Int) (w:List Int),26 - w.length=m->m<g->w.length<=1000->SS.Src c a s->∃ w' a' s',bG.pl1918 F g c a s st w=some (st,w',a',s')/\w'.length<=1001:=by
 intro m
 induction m with
 | zero=>
  intro g a s w hm hg hw hs
  obtain ⟨g,rfl⟩:∃ g',g=g'+1:=⟨g - 1,by omega⟩
  obtain ⟨r,a1,s1,e1,h1,r0,r1⟩:=SS.nx (F:=F) (n:=2) hs (by omega)
  rw [bG.pl1918,e1,Option.bind_some]
  simp only []
  rw [aS (by omega) (by omega),decide_eq_false (by omega),cond_false]
  exact ⟨w,a1,s1,rfl,by omega⟩
 | succ m ih=>
  intro g a s w hm hg hw hs
  obtain ⟨g,rfl⟩:∃ g',g=g'+1:=⟨g - 1,by omega⟩
  obtain ⟨r,a1,s1,e1,h1,r0,r1⟩:=SS.nx (F:=F) (n:=2) hs (by omega)
  rw [bG.pl1918,e1,Option.bind_some]
  simp only []
  have hap:apn w [(1:Int)]=some (w++[1]):=by unfold apn;rw [if_pos (by simp;omega)]
  cases decide ((w.length:Int)<IntKind.i64.wrap (24+r)) with
  | false=>rw [cond_false];exact ⟨w,a1,s1,rfl,by omega⟩
  | true=>
   rw [cond_true]
   cases decide (st>1) with
   | false=>rw [cond_false];exact ⟨w,a1,s1,rfl,by omega⟩
   | true=>
    rw [cond_true,hap,Option.bind_some]
    exact ih g a1 s1 (w++[1]) (by simp;omega) (by omega) (by simp;omega) h1
end Go.Proofs.Ytodfdhnlhiaohaa.AE
end
section
namespace Go.Proofs.Ytodfdhnlhiaohaa.AE
open Go Go.AE Go.Proofs
open Classical
variable {n:Nat}
theorem undo {s:Int×List Pm} {x:Int} (hx:lt n x) (g:gds n s.2):Eqv n (addM n (addM n s x) (-x)) s:=by
 obtain ⟨k,L⟩:=s
 have hj:=lt_j hx
 have gt:gds n (L.map (Pm.turn n)):=gds_turn g
 by_cases c:x>0
 ·obtain ⟨j,rfl⟩:∃ j:Nat,x=(j:Int)+1:=⟨(x - 1).toNat,by omega⟩
  rw [if_pos c,show ((j:Int)+1 - 1).toNat=j by omega] at hj
  rw [addM_pos,addM_neg]
  simp only [List.map_append,List.map_cons,List.map_nil]
  rw [turn_po hj,show Pm.one.turn n=Pm.one from Pm.ext' λx=>rv_rv n x,List.append_assoc]
  refine .trans (.symm ?_) (rev_eqv (k:=k) g).symm
  refine .trans (.symm (.base (.id (k - 1) (L.map (Pm.turn n)) [Pm.rev n] (gds_app gt (gds_cons Gd_rev gds_nil))))) (.base (.sl _ _ _ ?_ (gds_app gt (gds_cons Gd_one (gds_cons Gd_rev gds_nil)))))
  have e:(Pm.rev n).pr (n - 2 - j)=(Pm.rev n).po j:=Pm.ext' λx=>by
   show rv n (sw (n - 2 - j) x)=sw j (rv n x)
   rw [rv_sw (by omega),show n - 2 - (n - 2 - j)=j by omega]
  have h:St n [Pm.one,Pm.rev n] [Pm.one.po (n - 2 - j),(Pm.rev n).po j]:=by
   have:=St.head (n:=n) Pm.one (Pm.rev n) [] (n - 2 - j) ⟨by omega,by show n - 2 - j<n - 2 - j+1;omega,rv_anti (by omega) (by omega)⟩
   rw [e] at this;exact this
  have:∀ A:List Pm,St n (A++[Pm.one,Pm.rev n]) (A++[Pm.one.po (n - 2 - j),(Pm.rev n).po j]):=λA=>by
   induction A with
   | nil=>exact h
   | cons a A ih=>exact .tail _ _ _ ih
  exact .step _ _ _ (this _) (.refl _)
 ·obtain ⟨j,rfl⟩:∃ j:Nat,x=-((j:Int)+1):=⟨(-x - 1).toNat,by have:=hx.1;omega⟩
  rw [if_neg c,show (-(-((j:Int)+1)) - 1).toNat=j by omega] at hj
  rw [addM_neg,Int.neg_neg,addM_pos]
  simp only [List.append_assoc,List.cons_append,List.nil_append]
  refine .trans ?_ (rev_eqv (k:=k) g).symm
  have e1:((Pm.rev n).po j).po j=Pm.rev n:=Pm.ext' λx=>sw_sw j _
  have e2:(Pm.one.po j).pr j=Pm.one:=Pm.ext' λx=>by show sw j (sw j x)=x;exact sw_sw j x
  have h:St n [(Pm.rev n).po j,Pm.one.po j] [Pm.rev n,Pm.one]:=by
   have:=St.head (n:=n) ((Pm.rev n).po j) (Pm.one.po j) [] j ⟨hj,by
    show rv n (sw j j)<rv n (sw j (j+1))
    rw [sw_l,sw_r];exact rv_anti hj (by omega),by
    show sw j (j+1)<sw j j
    rw [sw_l,sw_r];omega⟩
   rw [e1,e2] at this;exact this
  have:∀ A:List Pm,St n (A++[(Pm.rev n).po j,Pm.one.po j]) (A++[Pm.rev n,Pm.one]):=λA=>by
   induction A with
   | nil=>exact h
   | cons a A ih=>exact .tail _ _ _ ih
  refine .trans (.base (.sl _ _ _ (.step _ _ _ (this _) (.refl _)) (gds_app gt (gds_cons (Gd_rev.po hj) (gds_cons (Gd_one.po hj) gds_nil))))) ?_
  have:=Eq1.id (n:=n) (k - 1) (L.map (Pm.turn n)++[Pm.rev n]) [] (by rw [List.append_nil];exact gds_app gt (gds_cons Gd_rev gds_nil))
  rw [List.append_assoc,List.append_nil] at this
  exact .base this
theorem lt_neg {x:Int} (h:lt n x):lt n (-x):=by unfold lt at *;omega
theorem gds_addM {s:Int×List Pm} {x:Int} (hx:lt n x) (g:gds n s.2):gds n (addM n s x).2:=by
 have hj:=lt_j hx
 unfold addM
 split
 ·rename_i c;rw [if_pos c] at hj;exact gds_app g (gds_cons (Gd_one.po hj) gds_nil)
 ·rename_i c;rw [if_neg c] at hj;exact gds_app (gds_turn g) (gds_cons (Gd_rev.po hj) gds_nil)
theorem undos:∀ (w:List Int) (s:Int×List Pm),(∀ x∈w,lt n x)->gds n s.2->Eqv n (addsM n (w++(w.map Neg.neg).reverse) s) s
 | [],s,_,_=>.refl _
 | x::w,s,h,g=>by
  have hx:=h x List.mem_cons_self
  have hw:∀ y∈w,lt n y:=λy hy=>h y (List.mem_cons_of_mem _ hy)
  have e:addsM n (x::w++((x::w).map Neg.neg).reverse) s=addM n (addsM n (w++(w.map Neg.neg).reverse) (addM n s x)) (-x):=by
   rw [List.map_cons,List.reverse_cons,List.cons_append,<-List.append_assoc]
   show addsM n ((w++(w.map Neg.neg).reverse)++[-x]) (addM n s x)=_
   rw [addsM_app];rfl
  rw [e]
  exact (Eqv.add (lt_neg hx) (undos w _ hw (gds_addM hx g))).trans (undo hx g)
theorem neg_rev (w:List Int):(((w.map Neg.neg).reverse).map Neg.neg).reverse=w:=by
 rw [List.map_reverse,List.reverse_reverse,List.map_map]
 exact (List.map_congr_left λx _=>Int.neg_neg x).trans (List.map_id _)
def fol (L:List Pm) (y:Nat):Nat:=L.foldl (λy p=>p.f y) y
def pmo (n:Nat) (s:Int×List Pm) (x:Nat):Nat:=fol s.2 (if s.1 % 2=0 then x else rv n x)
theorem fol_app (L M:List Pm) (y:Nat):fol (L++M) y=fol M (fol L y):=List.foldl_append
theorem fol_turn:∀ (L:List Pm) (y:Nat),fol (L.map (Pm.turn n)) y=rv n (fol L (rv n y))
 | [],y=>(rv_rv n y).symm
 | p::L,y=>by
  show fol (L.map (Pm.turn n)) (rv n (p.f (rv n y)))=rv n (fol L (p.f (rv n y)))
  rw [fol_turn L,rv_rv]
theorem pmo_addM {s:Int×List Pm} {x:Int} (hx:lt n x) (y:Nat):pmo n (addM n s x) y=sw ((if x>0 then x else -x) - 1).toNat (pmo n s y):=by
 unfold addM pmo
 by_cases c:x>0
 ·simp only [if_pos c]
  rw [fol_app];rfl
 ·simp only [if_neg c]
  rw [fol_app,fol_turn]
  show sw (-x - 1).toNat (rv n (rv n _))=_
  rw [rv_rv]
  by_cases d:s.1 % 2=0
  ·rw [if_pos d,if_neg (by omega),rv_rv]
  ·rw [if_neg d,if_pos (by omega)]
theorem St.fol {L M:List Pm} (h:St n L M):∀ y,AE.fol L y=AE.fol M y:=by
 induction h with
 | head p q B i h=>
  intro y
  show AE.fol B (q.f (p.f y))=AE.fol B (q.f (sw i (sw i (p.f y))))
  rw [sw_sw]
 | tail p L L' _ ih=>exact λy=>ih (p.f y)
theorem Sts.fol {L M:List Pm} (h:Sts n L M) (y:Nat):AE.fol L y=AE.fol M y:=by
 induction h with
 | refl=>rfl
 | step L M N h _ ih=>exact (h.fol y).trans ih
theorem Eqv.pmo {s t:Int×List Pm} (h:Eqv n s t) (y:Nat):AE.pmo n s y=AE.pmo n t y:=by
 induction h with
 | refl=>rfl
 | symm _ ih=>exact ih.symm
 | trans _ _ ih ih'=>exact ih.trans ih'
 | base h=>
  unfold AE.pmo
  cases h with
  | sl k L M h g=>exact h.fol _
  | id k A B g=>show AE.fol (A++Pm.one::B) _=AE.fol (A++B) _;rw [fol_app,fol_app];rfl
  | rv k L g=>
   show AE.fol (Pm.rev n::L) (if k % 2=0 then y else rv n y)=AE.fol L (if (k+1) % 2=0 then y else rv n y)
   show AE.fol L (rv n (if k % 2=0 then y else rv n y))=_
   by_cases d:k % 2=0
   ·rw [if_pos d,if_neg (by omega)]
   ·rw [if_neg d,if_pos (by omega),rv_rv]
end Go.Proofs.Ytodfdhnlhiaohaa.AE
end
section
namespace Go.Proofs.Ytodfdhnlhiaohaa.AE
open Go Go.AE Go.Proofs
open Classical
variable {n F:Nat} {c:List Int}
def Tot {α:Type} (x:Option α) (P:α->Prop):Prop:=∃ a,x=some a/\P a
theorem Tot.cond {α:Type} {x y:Option α} {P:α->Prop} {b:Bool} (h:Tot x P) (g:Tot y P):Tot (bif b then x else y) P:=by cases b <;> assumption
abbrev DB (c:List Int) (t:Int×List Int×Int×Int):Prop:=t.1<=1000/\t.2.1.length<=1000/\SS.Src c t.2.2.1 t.2.2.2
theorem draw_b' {a s k:Int} (hF:5000000<F) (hk:0<=k) (hk9:k<=100) (hs:SS.Src c a s):Tot (aN.p F c a s k) (DB c):=by
 unfold aN.p
 obtain ⟨r,a1,s1,e1,h1,r0,r1⟩:=SS.nx (F:=F) (n:=3) hs (by omega)
 obtain ⟨q,a2,s2,e2,h2,q0,q1⟩:=SS.nx (F:=F) (n:=8) h1 (by omega)
 rw [e1,Option.bind_some]
 simp only []
 rw [e2,Option.bind_some]
 have key:∀ (st a s:Int),st<=1000->SS.Src c a s->Tot (aN.pj3 F c a s k st []) (DB c):=λst a s hst hs=>by
  unfold aN.pj3
  obtain ⟨m,a1,s1,e1,h1,r0,r1⟩:=SS.nx (F:=F) (n:=k+1) hs (by omega)
  rw [aS (x:=k+1) (by omega) (by omega),e1,Option.bind_some]
  obtain ⟨w,a',s',e,hw,h⟩:=draw_l (F:=F) (c:=c) hst m.toNat F a1 s1 [] m rfl (by omega) (by simp;omega) (by omega) h1
  exact ⟨_,e,hst,hw,h⟩
 simp only []
 cases (q==0)
 ·simp only [cond_false]
  rw [aS (by omega) (by omega)]
  exact key _ _ _ (by omega) h2
 ·simp only [cond_true]
  obtain ⟨t,a3,s3,e3,h3,t0,t1⟩:=SS.nx (F:=F) (n:=6) h2 (by omega)
  rw [e3,Option.bind_some]
  simp only []
  rw [aS (by omega) (by omega)]
  exact key _ _ _ (by omega) h3
theorem draw_any {a s:Int} (hF:5000000<F) (hs:SS.Src c a s):∃ t,bG.p F c a s=some t:=by
 unfold bG.p
 obtain ⟨⟨st,w,a1,s1⟩,e1,q1,hw,h1⟩:=draw_b' (F:=F) (k:=9) hF (by omega) (by omega) hs
 have h1:SS.Src c a1 s1:=h1
 have hw:w.length<=1000:=hw
 have q1:st<=1000:=q1
 obtain ⟨r,a2,s2,e2,h2,r0,r1⟩:=SS.nx (F:=F) (n:=16) h1 (by omega)
 obtain ⟨q,a3,s3,e3,h3,q0,_⟩:=SS.nx (F:=F) (n:=9) h2 (by omega)
 have hap:∀ x:Int,apn w [x]=some (w++[x]):=λx=>by unfold apn;rw [if_pos (by simp;omega)]
 rw [e1,Option.bind_some]
 simp only []
 rw [e2,Option.bind_some]
 simp only []
 cases (r==0)
 ·cases (r==1)
  ·cases (r==2)
   ·simp only [cond_false];exact ⟨_,rfl⟩
   ·simp only [cond_false,cond_true]
    obtain ⟨w',a4,s4,e4,_⟩:=ones_l (F:=F) (c:=c) (st:=st) (26 - w.length) F a2 s2 w rfl (by omega) hw h2
    exact ⟨_,e4⟩
  ·simp only [cond_false,cond_true,e3,hap,Option.bind_some];exact ⟨_,rfl⟩
 ·simp only [cond_true,e3,Option.bind_some];exact ⟨_,rfl⟩
theorem ix_set {l:List Int} {k:Nat} {x i:Int}:ix (l.set k x) i=ix l i:=by unfold ix;rw [List.length_set]
theorem equal_l {st0 st:Int} (hst:st0<=1000):∀ (m g:Nat) (a s:Int) (W:List Int) (i:Int),i.toNat=m->m<g->W.length<=1000->i<=100->SS.Src c a s->∃ t,ac.pl29 F g c a s st0 st W i=some t:=by
 intro m
 induction m with
 | zero=>
  intro g a s W i hm hg hW hi hs
  obtain ⟨g,rfl⟩:∃ g',g=g'+1:=⟨g - 1,by omega⟩
  rw [ac.pl29,decide_eq_false (by omega),cond_false]
  exact ⟨_,rfl⟩
 | succ m ih=>
  intro g a s W i hm hg hW hi hs
  obtain ⟨g,rfl⟩:∃ g',g=g'+1:=⟨g - 1,by omega⟩
  rw [ac.pl29,decide_eq_true (by omega),cond_true]
  by_cases hst1:¬ st0>1
  ·rw [decide_eq_false hst1,cond_false];exact ⟨_,rfl⟩
  have hst1:=Classical.not_not.1 hst1
  obtain ⟨p,a1,s1,e1,h1,p0,p1⟩:=SS.nx (F:=F) (n:=(W.length:Int)+1) hs (by omega)
  obtain ⟨q,a2,s2,e2,h2,q0,q1⟩:=SS.nx (F:=F) (n:=3) h1 (by omega)
  rw [decide_eq_true hst1,cond_true,aS (x:=(W.length:Int)+1) (by omega) (by omega),e1,Option.bind_some]
  simp only []
  rw [e2,Option.bind_some]
  simp only []
  have fin:∀ W':List Int,W'.length<=1000->∀ a s,SS.Src c a s->Tot (ac.pl29 F g c a s st0 st W' (i - 1)) λ_=>True:=λW' h a s hs=>by
   obtain ⟨t,e⟩:=ih g a s W' (i - 1) (by omega) (by omega) h (by omega) hs
   exact ⟨t,e,trivial⟩
  have hi1:IntKind.i64.wrap (i - 1)=i - 1:=aS (by omega) (by omega)
  suffices h:Tot _ (λ_=>True) from ⟨h.choose,h.choose_spec.1⟩
  simp only [ac.pj23,ac.pj24,ac.pj25,ac.pj26,ac.pj27,ac.pj28,ac.pj29,ac.pj30,ac.pj31,ac.pj32,ac.pj33,ac.pj34,ac.pj35,ac.pj36,ac.pj37,ac.pj38,ac.pj39,ac.pj40,ac.pj41,ac.pj42,ac.pj43,ac.pj44,hi1,aS (x:=p+2) (by omega) (by omega),aS (x:=p+1) (by omega) (by omega),aS (x:=(W.length:Int)+2) (by omega) (by omega)]
  have c1:cutf W 0 p=some (W.take p.toNat):=by
   unfold cutf
   rw [if_pos (by omega)];simp
  have c2:cutf W p (W.length:Int)=some (W.drop p.toNat):=by
   unfold cutf
   rw [if_pos (by omega)];simp
  have ap:∀ {l m:List Int},l.length<=100->m.length<=100->apn l m=some (l++m):=λh h'=>by unfold apn;rw [if_pos (by omega)]
  by_cases hp:p+2<(W.length:Int)
  ·have x0:ix W p=some p.toNat:=SS.ix_of p0 (by omega)
   have x1:ix W (p+1)=some (p+1).toNat:=SS.ix_of (by omega) (by omega)
   have x2:ix W (p+2)=some (p+2).toNat:=SS.ix_of (by omega) hp
   simp only [decide_eq_true hp,cond_true]
   refine Tot.cond ?_ ?_
   ·by_cases hl:(W.length:Int)+2<=24
    ·have t1:(W.take p.toNat).length<=24:=by rw [List.length_take];omega
     have t2:(W.drop p.toNat).length<=24:=by rw [List.length_drop];omega
     obtain ⟨x,a3,s3,e3,h3,x0,x1⟩:=SS.nx (F:=F) (n:=st0 - 1) h2 (by omega)
     rw [decide_eq_true hl,cond_true,aS (x:=st0 - 1) (by omega) (by omega),e3,Option.bind_some]
     simp only []
     rw [c1,Option.bind_some,ap (by simp) (by omega),Option.bind_some,ap (by simp;omega) (by simp),Option.bind_some,c2,Option.bind_some,ap (by simp;omega) (by omega),Option.bind_some]
     exact fin _ (by simp;omega) _ _ h3
    ·rw [decide_eq_false hl,cond_false]
     simp only [aR.p,ix_set,x0,x1,x2,Option.bind_some]
     repeat' first
      | exact fin _ (by first | exact hW | (simp only [List.length_set];exact hW)) _ _ h2
      | refine Tot.cond ?_ ?_
   ·simp only [aR.p,ix_set,x0,x1,x2,Option.bind_some]
    repeat' first
     | exact fin _ (by first | exact hW | (simp only [List.length_set];exact hW)) _ _ h2
     | refine Tot.cond ?_ ?_
  ·simp only [decide_eq_false hp,cond_false]
   refine Tot.cond ?_ (fin _ hW _ _ h2)
   by_cases hl:(W.length:Int)+2<=24
   ·have t1:(W.take p.toNat).length<=24:=by rw [List.length_take];omega
    have t2:(W.drop p.toNat).length<=24:=by rw [List.length_drop];omega
    obtain ⟨x,a3,s3,e3,h3,x0,x1⟩:=SS.nx (F:=F) (n:=st0 - 1) h2 (by omega)
    rw [decide_eq_true hl,cond_true,aS (x:=st0 - 1) (by omega) (by omega),e3,Option.bind_some]
    simp only []
    rw [c1,Option.bind_some,ap (by simp) (by omega),Option.bind_some,ap (by simp;omega) (by simp),Option.bind_some,c2,Option.bind_some,ap (by simp;omega) (by omega),Option.bind_some]
    exact fin _ (by simp;omega) _ _ h3
   ·rw [decide_eq_false hl,cond_false]
    exact fin _ hW _ _ h2
theorem draw_same (hF:5000000<F) (hc:c.length<=1000000) (hb:∀ m:Nat,0<=gt c m/\gt c m<=255):∃ s v t w,di.p F c=some (s,v,t,w):=by
 unfold di.p
 obtain ⟨t,e0,h0⟩:=SS.from_ (F:=F) hF hc hb
 obtain ⟨⟨st,w,a1,s1⟩,e1,q1,hw,h1⟩:=draw_b' (F:=F) (k:=8) hF (by omega) (by omega) h0
 have h1:SS.Src c a1 s1:=h1
 have hw:w.length<=1000:=hw
 have q1:st<=1000:=q1
 obtain ⟨r,a2,s2,e2,h2,r0,r1⟩:=SS.nx (F:=F) (n:=3) h1 (by omega)
 rw [e0,Option.bind_some]
 simp only []
 rw [e1,Option.bind_some]
 simp only []
 rw [e2,Option.bind_some]
 simp only []
 cases (r==0) with
 | true=>
  obtain ⟨t,e3⟩:=draw_any (F:=F) hF h2
  rw [cond_true,e3];exact ⟨_,_,_,_,rfl⟩
 | false=>
  unfold ac.p cp.p
  have hap:apn ([]:List Int) w=some w:=by unfold apn;rw [if_pos (by simp;omega),List.nil_append]
  obtain ⟨k,a3,s3,e3,h3,k0,k1⟩:=SS.nx (F:=F) (n:=6) h2 (by omega)
  rw [cond_false,hap,Option.bind_some,Option.bind_some,e3,Option.bind_some]
  obtain ⟨t,e4⟩:=equal_l (F:=F) (c:=c) (st0:=st) (st:=st) q1 k.toNat F a3 s3 w k rfl (by omega) hw (by omega) h3
  simp only []
  rw [e4];exact ⟨_,_,_,_,rfl⟩
end Go.Proofs.Ytodfdhnlhiaohaa.AE
end
section
namespace Go.Proofs.Ytodfdhnlhiaohaa.AE
open Go Go.AE Go.Proofs
open Classical
variable {n F:Nat}
def prs (w:List Int) (p:Pm):Pm:=w.foldl (λp x=>p.pr ((if x>0 then x else -x) - 1).toNat) p
theorem prs_g:∀ (w:List Int) (p:Pm) (s:Int×List Pm),(∀ x∈w,lt n x)->(∀ y,pmo n s y=p.g y)->∀ y,pmo n (addsM n w s) y=(prs w p).g y
 | [],_,_,_,h=>h
 | x::w,p,s,hw,h=>prs_g w _ _ (λy hy=>hw y (List.mem_cons_of_mem _ hy)) λy=>by
  rw [pmo_addM (hw x List.mem_cons_self),h y];rfl
theorem bperm_l (hn:n<=6) (hF:2000<F) {W:List Int} (hW:W.length<=24):∀ (t pre:List Int) (g:Nat) (p:Pm),W=pre++t->t.length<g->(∀ x∈t,lt n x)->ok n p ->
  bJ.pl61 F g (Pl n p) W W.length pre.length=some (Pl n (prs t p).inv):=by
 intro t
 induction t with
 | nil=>
  intro pre g p e hg ht o
  obtain ⟨g,rfl⟩:∃ g',g=g'+1:=⟨g - 1,by omega⟩
  rw [List.append_nil] at e
  subst e
  rw [bJ.pl61,decide_eq_false (by omega),cond_false,kF (by omega) (by omega) o];rfl
 | cons x t ih=>
  intro pre g p e hg ht o
  rw [List.length_cons] at hg
  obtain ⟨g,rfl⟩:∃ g',g=g'+1:=⟨g - 1,by omega⟩
  have hx:=ht x List.mem_cons_self
  have hlen:W.length=pre.length+(t.length+1):=by rw [e,List.length_append,List.length_cons]
  have hi:ix W (pre.length:Int)=some pre.length:=ix_of (by omega)
  have hgt:gt W pre.length=x:=gt_of (by rw [e];exact get_mid1 rfl)
  have hj:=lt_j hx
  obtain ⟨k,hk⟩:∃ k:Nat,(if x>0 then x else -x)=(k:Int)+1:=⟨((if x>0 then x else -x) - 1).toNat,by have:=hx.1;split <;> omega⟩
  have hk1:k+1<n:=by split at hk <;> split at hj <;> omega
  have hab:cE.p F x=some ((k:Int)+1):=by
   unfold cE.p
   have hx0:=hx.1
   obtain ⟨_,b1,b2⟩:=hx
   by_cases c:x<0
   ·rw [decide_eq_true c,cond_true,aS (by omega) (by omega),<-hk,if_neg (by omega),Int.zero_sub]
   ·rw [decide_eq_false c,cond_false,<-hk]
    rw [if_pos (by omega)]
  rw [bJ.pl61,decide_eq_true (by omega),cond_true,hi,Option.bind_some,hgt,hab,Option.bind_some,ut (by omega) hk1,Option.bind_some,aS (by omega) (by omega)]
  have:=ih (pre++[x]) g (p.pr k) (by rw [e];simp) (by omega) (λy hy=>ht y (List.mem_cons_of_mem _ hy)) (o.pr hk1)
  rw [List.length_append,List.length_singleton] at this
  rw [show (pre.length:Int)+1=((pre.length+1:Nat):Int) by omega,this]
  show _=some (Pl n (prs t (p.pr ((if x>0 then x else -x) - 1).toNat)).inv)
  rw [hk,show ((k:Int)+1 - 1).toNat=k by omega]
theorem bperm (hF:2000<F) {w:List Int} (hv:BB.vb n w=true):bJ.p F n w=some (Pl n (prs w Pm.one).inv):=by
 obtain ⟨h1,h6,h24,hl⟩:=vb_lt hv
 unfold bJ.p
 rw [BB.Vb (by omega),hv,Option.bind_some,Bool.not_true,cond_false,kG (by omega) (by omega),Option.bind_some]
 exact bperm_l h6 hF h24 w [] F Pm.one rfl (by omega) hl ok_one
theorem like_l {l:List Int} (hl:l.length<=1000000):∀ (m g:Nat) (i:Int),l.length - i=m->m<g->0<=i->bQ.pl29 F g l l i=some true:=by
 intro m
 induction m with
 | zero=>
  intro g i hm hg hi
  obtain ⟨g,rfl⟩:∃ g',g=g'+1:=⟨g - 1,by omega⟩
  rw [bQ.pl29,decide_eq_false (by omega),cond_false]
 | succ m ih=>
  intro g i hm hg hi
  obtain ⟨g,rfl⟩:∃ g',g=g'+1:=⟨g - 1,by omega⟩
  have hix:ix l i=some i.toNat:=SS.ix_of hi (by omega)
  rw [bQ.pl29,decide_eq_true (by omega),cond_true,hix,Option.bind_some,Option.bind_some,bne_self_eq_false,cond_false,aS (by omega) (by omega)]
  exact ih g (i+1) (by omega) (by omega) (by omega)
theorem like_self {l:List Int} (hF:2000000<F) (hl:l.length<=1000000):bQ.p F l l=some true:=by
 unfold bQ.p
 rw [bne_self_eq_false,cond_false]
 exact like_l hl l.length F 0 (by omega) (by omega) (by omega)
theorem facs_same {s t:Int} {v w:List Int} {L:List (List Int)} (hF:2000000<F) (hL:L.length<=1000) (hx:∀ x∈L,x.length<=1000):∀ (m g i:Nat),L.length - i=m->m<g->aX.pl131069 F g s v t w L L i=aX.pj1 F s v t w:=by
 intro m
 induction m with
 | zero=>
  intro g i hm hg
  obtain ⟨g,rfl⟩:∃ g',g=g'+1:=⟨g - 1,by omega⟩
  rw [aX.pl131069,decide_eq_false (by omega),cond_false]
 | succ m ih=>
  intro g i hm hg
  obtain ⟨g,rfl⟩:∃ g',g=g'+1:=⟨g - 1,by omega⟩
  have hi:i<L.length:=by omega
  have hw:IntKind.i64.wrap ((i:Int)+1)=((i+1:Nat):Int):=by rw [aS (by omega) (by omega)];omega
  rw [aX.pl131069,decide_eq_true (by omega),cond_true,ix_of hi,Option.bind_some,Option.bind_some,gt_of (List.getElem?_eq_getElem hi),like_self hF (by have:=hx _ (List.getElem_mem hi);omega),Option.bind_some,Bool.not_true,cond_false,hw]
  exact ih g (i+1) (by omega) (by omega)
theorem vb_inv {w:List Int} (hv:BB.vb n w=true):BB.vb n (w.map Neg.neg).reverse=true:=by
 unfold BB.vb at hv ⊢
 simp only [Bool.and_eq_true,decide_eq_true_eq,List.all_eq_true,List.length_reverse,List.length_map] at hv ⊢
 refine ⟨hv.1,hv.2.1,λx hx=>?_⟩
 rw [List.mem_reverse] at hx
 obtain ⟨y,hy,rfl⟩:=List.mem_map.1 hx
 have:=hv.2.2 y hy
 unfold BB.ltr at this ⊢
 have this:=of_decide_eq_true this
 exact decide_eq_true (by omega)
theorem inv_p (hF:2000<F) {w:List Int} (hv:BB.vb n w=true):de.p F n w=some ((n:Int),(w.map Neg.neg).reverse,0):=by
 obtain ⟨h1,h6,h24,hl⟩:=vb_lt hv
 unfold de.p dB.p
 have hw:wfs w=true:=by
  unfold wfs
  rw [List.all_eq_true]
  intro x hx
  obtain ⟨_,b1,b2⟩:=hl x hx
  have h3:IntKind.i64.min=-9223372036854775808:=by decide
  have h4:IntKind.i64.max=9223372036854775807:=by decide
  simp only [Lit.wf,h3,h4]
  simp;omega
 rw [BB.Vb (by omega),hv,Option.bind_some,Bool.not_true,cond_false,if_pos ⟨by omega,hw⟩,Option.bind_some]
 unfold ngv
 congr 3
 congr 1
 refine List.map_congr_left λx hx=>?_
 obtain ⟨_,b1,b2⟩:=hl x hx
 rw [aS (by omega) (by omega),Int.zero_sub]
theorem comp_p (hF:5000000<F) {u v:List Int} (hu:BB.vb n u=true) (hv:BB.vb n v=true):dc.p F n u n v=some (if u.length+v.length>24 then (0,[],3) else ((n:Int),u++v,0)):=by
 obtain ⟨_,_,a24,_⟩:=vb_lt hu
 obtain ⟨_,_,b24,_⟩:=vb_lt hv
 unfold dc.p bs.p
 rw [BB.Vb (by omega),BB.Vb (by omega),hu,hv]
 simp only [Option.bind_some,Bool.not_true,cond_false,bne_self_eq_false]
 rw [aS (by omega) (by omega)]
 by_cases h:u.length+v.length>24
 ·rw [decide_eq_true (by omega),cond_true,if_pos h]
 ·rw [decide_eq_false (by omega),cond_false,if_neg h,if_pos (by simp;omega)];simp
theorem vb_app {u v:List Int} (hu:BB.vb n u=true) (hv:BB.vb n v=true) (h:¬ u.length+v.length>24):BB.vb n (u++v)=true:=by
 unfold BB.vb at hu hv ⊢
 simp only [Bool.and_eq_true,decide_eq_true_eq,List.all_append] at hu hv ⊢
 exact ⟨hu.1,by rw [List.length_append];omega,hu.2.2,hv.2.2⟩
theorem none_ok (hF:1000000000000000000000000000000<=F) {u:List Int} (hn:1<=n/\n<=6) (hu:BB.vb n u=true) (h:Eqv n (addsM n u (0,[])) (0,[])):cF.p F n u n []=some true:=by
 have hv:BB.vb n []=true:=by
  unfold BB.vb
  simp only [Bool.and_eq_true,decide_eq_true_eq]
  exact ⟨⟨by omega,by omega⟩,by simp,rfl⟩
 obtain ⟨k,X,hf⟩:=fn_ex hF hv
 exact same_of hF hv hu hf (h.trans hf.q)
theorem map_inj:∀ {X Y:List Pm},gds n X->gds n Y->X.map (Pl n)=Y.map (Pl n)->X=Y
 | [],[],_,_,_=>rfl
 | [],b::Y,_,_,h=>by cases h
 | a::X,[],_,_,h=>by cases h
 | a::X,b::Y,g1,g2,h=>by
  rw [List.map_cons,List.map_cons,List.cons.injEq] at h
  rw [Pl_inj (g1 a List.mem_cons_self) (g2 b List.mem_cons_self) h.1,map_inj (X:=X) (Y:=Y) (λp hp=>g1 p (List.mem_cons_of_mem _ hp)) (λp hp=>g2 p (List.mem_cons_of_mem _ hp)) h.2]
theorem tail_ok (hF:1000000000000000000000000000000<=F) {t:Int} {v w:List Int} (hv:BB.vb n v=true) {b:Bool} (hi:cF.p F n v t w=some b) (hb:b=true) :
  ∃ k X,t=n/\FN F n v k X/\FN F n w k X/\aX.pl131069 F F n v n w (X.map (Pl n)) (X.map (Pl n)) 0=some true/\BB.vb n w=true:=by
 subst hb
 unfold cF.p at hi
 rw [BB.Vb (by omega),hv,BB.Vb (by omega)] at hi
 simp only [Option.bind_some,Bool.not_true,cond_false] at hi
 cases hw:BB.vb t w with
 | false=>rw [hw] at hi;cases hi
 | true=>
  rw [hw] at hi
  simp only [Bool.not_true,cond_false] at hi
  by_cases e:(n:Int)=t
  ·subst e
   obtain ⟨k,X,fv⟩:=fn_ex hF hv
   obtain ⟨k',X',fw⟩:=fn_ex hF hw
   have l1:=fv.l
   obtain ⟨h1,h6,h24,hl⟩:=vb_lt hv
   rw [bne_self_eq_false,cond_false,fv.e,fw.e] at hi
   simp only [Option.bind_some] at hi
   have hxl:∀ x∈X.map (Pl n),x.length<=6:=λx hx=>by
    obtain ⟨y,_,rfl⟩:=List.mem_map.1 hx
    rw [Pl_len];exact h6
   rw [HE (by omega) (by simp;omega) hxl] at hi
   have hkk:k=k':=Classical.byContradiction λq=>by
    rw [show (k==k')=false from beq_false_of_ne q] at hi;cases hi
   subst hkk
   have hXX:X.map (Pl n)=X'.map (Pl n):=Classical.byContradiction λq=>by
    rw [decide_eq_false q,beq_self_eq_true] at hi;cases hi
   have hX:X=X':=map_inj fv.g fw.g hXX
   subst hX
   refine ⟨k,X,rfl,fv,fw,?_,hw⟩
   have:=facs_same (F:=F) (s:=n) (t:=n) (v:=v) (w:=w) (L:=X.map (Pl n)) (by omega) (by simp;omega) (λx hx=>by have:=hxl x hx;omega) (X.map (Pl n)).length F 0 (by omega) (by simp;omega)
   have this:aX.pl131069 F F n v n w (X.map (Pl n)) (X.map (Pl n)) 0=_:=this
   rw [this]
   unfold aX.pj1
   rw [bperm (by omega) hv,bperm (by omega) hw]
   have hg:∀ y,(prs v Pm.one).g y=(prs w Pm.one).g y:=λy=>by
    have q0:∀ y,pmo n (0,[]) y=Pm.one.g y:=λy=>rfl
    rw [<- prs_g v Pm.one (0,[]) hl q0 y,<-prs_g w Pm.one (0,[]) (vb_lt hw).2.2.2 q0 y]
    exact (fv.q.trans fw.q.symm).pmo y
   have hp:Pl n (prs v Pm.one).inv=Pl n (prs w Pm.one).inv:=by
    congr 1
    exact Pm.ext' hg
   rw [hp]
   simp only [Option.bind_some]
   rw [like_self (by omega) (by rw [Pl_len];omega)];rfl
  ·rw [show ((n:Int) != t)=true from bne_iff_ne.2 e,cond_true] at hi
   cases hi
theorem FnBraidGroup_pure:∀ (ar:List Int),ar.length<=maxLen->(∀ x∈ar,(Lit.int .u8 x).wf=true)->∃ F,aX.p F ar=some true:=by
 intro c _ hx
 obtain ⟨F,hF⟩:∃ F:Nat,F=1000000000000000000000000000000:=⟨_,rfl⟩
 refine ⟨F,?_⟩
 unfold aX.p eE.p
 rw [Option.bind_some]
 by_cases hb:(c.length:Int)>4096
 ·rw [decide_eq_true hb,cond_true]
 rw [decide_eq_false hb,cond_false]
 have hby:∀ m:Nat,0<=gt c m/\gt c m<=255:=λm=>by
  by_cases hm:m<c.length
  ·have h1:gt c m=c[m]:=gt_of (List.getElem?_eq_getElem hm)
   have:=hx _ (List.getElem_mem hm)
   rw [h1]
   have h2:IntKind.u8.min<=c[m]/\c[m]<=IntKind.u8.max:=by simpa [Lit.wf] using this
   have h3:IntKind.u8.min=0:=by decide
   have h4:IntKind.u8.max=255:=by decide
   omega
  ·have h1:gt c m=0:=by unfold gt;rw [List.getD_eq_getElem?_getD,List.getElem?_eq_none (by omega)];rfl
   rw [h1];omega
 obtain ⟨s,v,t,w,e1⟩:=draw_same (F:=F) (by omega) (by omega) hby
 rw [e1,Option.bind_some]
 simp only []
 obtain ⟨b,i1,i2⟩:=same_both (F:=F) (s:=s) (t:=t) (v:=v) (w:=w) (by omega)
 rw [i1,i2]
 simp only [Option.bind_some,beq_self_eq_true,Bool.not_true,cond_false]
 cases hv:BB.vb s v with
 | false=>
  unfold de.p
  rw [BB.Vb (by omega),hv,BB.Va (by omega),hv];rfl
 | true=>
  obtain ⟨n,rfl⟩:∃ n:Nat,s=(n:Int):=⟨s.toNat,by have:=BB.vb_of hv;omega⟩
  obtain ⟨h1,h6,h24,hl⟩:=vb_lt hv
  have hvi:=vb_inv hv
  rw [inv_p (by omega) hv]
  simp only [Option.bind_some,bne_self_eq_false,cond_false]
  rw [comp_p (by omega) hv hvi,comp_p (by omega) hvi hv]
  simp only [Option.bind_some,List.length_reverse,List.length_map]
  have tl:∀ b',cF.p F n v t w=some b'->(bif (!b') then (some true) else ((cJ.p F n v).bind λr82=>(cJ.p F t w).bind λr90=>(bif (r82.2.2 != 0) then (some false) else (bif (r90.2.2 != 0) then (some false) else (bif (r82.1 != r90.1) then (some false) else (bif ((r82.2.1.length:Int) != (r90.2.1.length:Int)) then (some false) else (aX.pl131069 F F n v t w r82.2.1 r90.2.1 0)))))))=some true:=λb' hb'=>by
   cases b' with
   | false=>rfl
   | true=>
    obtain ⟨k,X,rfl,fv,fw,e,hw⟩:=tail_ok (F:=F) (by omega) hv hb' rfl
    unfold cJ.p
    rw [BB.Vb (by omega),BB.Vb (by omega),hv,hw]
    simp only [Option.bind_some,Bool.not_true,cond_false,fv.e,fw.e,bne_self_eq_false]
    exact e
  by_cases h:v.length+v.length>24
  ·simp only [if_pos h]
   rw [show ((3:Int)==0)=false from rfl,cond_false]
   exact tl b i1
  ·simp only [if_neg h,beq_self_eq_true,cond_true]
   have u1:=undos (n:=n) v (0,[]) hl gds_nil
   have hli:=(vb_lt hvi).2.2.2
   have u2:=undos (n:=n) (v.map Neg.neg).reverse (0,[]) hli gds_nil
   rw [neg_rev] at u2
   rw [none_ok (by omega) ⟨h1,h6⟩ (vb_app hv hvi (by simp;omega)) u1,none_ok (by omega) ⟨h1,h6⟩ (vb_app hvi hv (by simp;omega)) u2]
   simp only [Option.bind_some,Bool.not_true,cond_false]
   exact tl b i1
end Go.Proofs.Ytodfdhnlhiaohaa.AE
end
