import Derived.Test.YtodfdhnlhiaohaaE2
import Derived.Test.YtodfdhnlhiaohaaP1
set_option linter.unusedVariables false
set_option linter.unusedSimpArgs false
section
namespace Go.Proofs.Ytodfdhnlhiaohaa.AE
def sw (i:Nat) (x:Nat):Nat:=if x=i then i+1 else if x=i+1 then i else x
theorem sw_sw (i x:Nat):sw i (sw i x)=x:=by unfold sw;(repeat' split) <;> omega
theorem sw_ne {i x:Nat} (h:x≠i) (h':x≠i+1):sw i x=x:=by unfold sw;rw [if_neg h,if_neg h']
theorem sw_l (i:Nat):sw i i=i+1:=by unfold sw;rw [if_pos rfl]
theorem sw_r (i:Nat):sw i (i+1)=i:=by unfold sw;rw [if_neg (by omega),if_pos rfl]
theorem sw_lt {i n x:Nat} (hi:i+1<n) (h:x<n):sw i x<n:=by unfold sw;(repeat' split) <;> omega
theorem sw_mono {i x y:Nat} (h:x<y) (h':¬ (x=i/\y=i+1)):sw i x<sw i y:=by unfold sw;(repeat' split) <;> omega
theorem sw_comm {i j:Nat} (h:i+1<j\/j+1<i) (x:Nat):sw i (sw j x)=sw j (sw i x):=by unfold sw;(repeat' split) <;> omega
theorem sw_braid (i x:Nat):sw i (sw (i+1) (sw i x))=sw (i+1) (sw i (sw (i+1) x)):=by unfold sw;(repeat' split) <;> omega
structure Pm where
 f:Nat->Nat
 g:Nat->Nat
 gf:∀ x,g (f x)=x
 fg:∀ x,f (g x)=x
theorem Pm.ext' {p q:Pm} (h:∀ x,p.f x=q.f x):p=q:=by
 have hg:p.g=q.g:=funext λx=>by have:=p.gf (q.g x);rw [h,q.fg] at this;exact this
 have hf:p.f=q.f:=funext h
 cases p;cases q;simp only at hf hg;subst hf;subst hg;rfl
def Pm.one:Pm:=⟨id,id,λ_=>rfl,λ_=>rfl⟩
def Pm.po (p:Pm) (i:Nat):Pm:=⟨λx=>sw i (p.f x),λx=>p.g (sw i x),λx=>by rw [sw_sw,p.gf],λx=>by rw [p.fg,sw_sw]⟩
def Pm.pr (p:Pm) (i:Nat):Pm:=⟨λx=>p.f (sw i x),λx=>sw i (p.g x),λx=>by rw [p.gf,sw_sw],λx=>by rw [sw_sw,p.fg]⟩
theorem Pm.po_pr (p:Pm) (i j:Nat):(p.po i).pr j=(p.pr j).po i:=Pm.ext' λ_=>rfl
def can (n:Nat) (p q:Pm) (i:Nat):Prop:=i+1<n/\p.g i<p.g (i+1)/\q.f (i+1)<q.f i
inductive St (n:Nat):List Pm->List Pm->Prop where
 | head (p q:Pm) (B:List Pm) (i:Nat) (h:can n p q i):St n (p::q::B) (p.po i::q.pr i::B)
 | tail (p:Pm) (L L':List Pm) (h:St n L L'):St n (p::L) (p::L')
inductive Sts (n:Nat):List Pm->List Pm->Prop where
 | refl (L:List Pm):Sts n L L
 | step (L M N:List Pm) (h:St n L M) (t:Sts n M N):Sts n L N
theorem Sts.one {n:Nat} {L M:List Pm} (h:St n L M):Sts n L M:=.step _ _ _ h (.refl _)
theorem Sts.trans {n:Nat} {L M N:List Pm} (h:Sts n L M) (t:Sts n M N):Sts n L N:=by
 induction h with
 | refl=>exact t
 | step L M _ h _ ih=>exact .step _ _ _ h (ih t)
theorem Sts.tail {n:Nat} {p:Pm} {L M:List Pm} (h:Sts n L M):Sts n (p::L) (p::M):=by
 induction h with
 | refl=>exact .refl _
 | step L M N h _ ih=>exact .step _ _ _ (.tail _ _ _ h) ih
theorem St.app {n:Nat} {L M:List Pm} (h:St n L M) (B:List Pm):St n (L++B) (M++B):=by
 induction h with
 | head p q B' i h=>exact .head p q (B'++B) i h
 | tail p L L' _ ih=>exact .tail p _ _ ih
theorem Sts.app {n:Nat} {L M:List Pm} (h:Sts n L M) (B:List Pm):Sts n (L++B) (M++B):=by
 induction h with
 | refl=>exact .refl _
 | step L M N h _ ih=>exact .step _ _ _ (h.app B) ih
theorem Sts.pre {n:Nat} {L M:List Pm} (h:Sts n L M):∀ A:List Pm,Sts n (A++L) (A++M)
 | []=>h
 | _::A=>(Sts.pre h A).tail
theorem St.len {n:Nat} {L M:List Pm} (h:St n L M):M.length=L.length:=by
 induction h with
 | head=>rfl
 | tail p L L' _ ih=>simp [ih]
theorem Sts.len {n:Nat} {L M:List Pm} (h:Sts n L M):M.length=L.length:=by
 induction h with
 | refl=>rfl
 | step L M N h _ ih=>rw [ih,h.len]
theorem can_far {n:Nat} {p q:Pm} {i j:Nat} (hij:i+1<j\/j+1<i) (h:can n p q j):can n (p.po i) (q.pr i) j:=by
 obtain ⟨h1,h2,h3⟩:=h
 refine ⟨h1,?_,?_⟩
 ·show p.g (sw i j)<p.g (sw i (j+1))
  rw [sw_ne (by omega) (by omega),sw_ne (by omega) (by omega)];exact h2
 ·show q.f (sw i (j+1))<q.f (sw i j)
  rw [sw_ne (by omega) (by omega),sw_ne (by omega) (by omega)];exact h3
theorem near {n:Nat} {p q:Pm} {i:Nat} (h:can n p q i) (h':can n p q (i+1)) (B:List Pm) :
  ∃ N,Sts n (p.po i::q.pr i::B) N/\Sts n (p.po (i+1)::q.pr (i+1)::B) N:=by
 obtain ⟨a1,a2,a3⟩:=h
 obtain ⟨b1,b2,b3⟩:=h'
 have e0:sw i (i+1+1)=i+1+1:=sw_ne (by omega) (by omega)
 have e1:sw (i+1) i=i:=sw_ne (by omega) (by omega)
 refine ⟨((p.po i).po (i+1)).po i::((q.pr i).pr (i+1)).pr i::B,.step _ _ _ (.head _ _ _ (i+1) ⟨b1,?_,?_⟩) (.step _ _ _ (.head _ _ _ i ⟨a1,?_,?_⟩) (.refl _)),?_⟩
 ·show p.g (sw i (i+1))<p.g (sw i (i+1+1));rw [sw_r,e0];omega
 ·show q.f (sw i (i+1+1))<q.f (sw i (i+1));rw [sw_r,e0];omega
 ·show p.g (sw i (sw (i+1) i))<p.g (sw i (sw (i+1) (i+1)));rw [e1,sw_l,sw_l,e0];exact b2
 ·show q.f (sw i (sw (i+1) (i+1)))<q.f (sw i (sw (i+1) i));rw [e1,sw_l,sw_l,e0];exact b3
 ·have ep:((p.po i).po (i+1)).po i=((p.po (i+1)).po i).po (i+1):=Pm.ext' λx=>sw_braid i _
  have eq:((q.pr i).pr (i+1)).pr i=((q.pr (i+1)).pr i).pr (i+1):=Pm.ext' λx=>congrArg q.f (sw_braid i x)
  rw [ep,eq]
  refine .step _ _ _ (.head _ _ _ i ⟨a1,?_,?_⟩) (.step _ _ _ (.head _ _ _ (i+1) ⟨b1,?_,?_⟩) (.refl _))
  ·show p.g (sw (i+1) i)<p.g (sw (i+1) (i+1));rw [e1,sw_l];omega
  ·show q.f (sw (i+1) (i+1))<q.f (sw (i+1) i);rw [e1,sw_l];omega
  ·show p.g (sw (i+1) (sw i (i+1)))<p.g (sw (i+1) (sw i (i+1+1)));rw [sw_r,e0,e1,sw_r];exact a2
  ·show q.f (sw (i+1) (sw i (i+1+1)))<q.f (sw (i+1) (sw i (i+1)));rw [sw_r,e0,e1,sw_r];exact a3
theorem pair {n:Nat} {p q:Pm} {i j:Nat} (h:can n p q i) (h':can n p q j) (B:List Pm):∃ N,Sts n (p.po i::q.pr i::B) N/\Sts n (p.po j::q.pr j::B) N:=by
 by_cases e:i=j
 ·subst e;exact ⟨_,.refl _,.refl _⟩
 ·by_cases e1:j=i+1
  ·subst e1;exact near h h' B
  ·by_cases e2:i=j+1
   ·subst e2;obtain ⟨N,x,y⟩:=near h' h B;exact ⟨N,y,x⟩
   ·have hf:i+1<j\/j+1<i:=by omega
    refine ⟨(p.po i).po j::(q.pr i).pr j::B,.one (.head _ _ _ j (can_far hf h')),?_⟩
    rw [show (p.po i).po j=(p.po j).po i from Pm.ext' λx=>(sw_comm hf _).symm,show (q.pr i).pr j=(q.pr j).pr i from Pm.ext' λx=>congrArg q.f (sw_comm hf x)]
    exact .one (.head _ _ _ i (can_far hf.symm h))
theorem over {n:Nat} {p q r:Pm} {i j:Nat} (h:can n p q i) (h':can n q r j):can n (q.pr i) r j/\can n p (q.po j) i:=by
 obtain ⟨a1,a2,a3⟩:=h
 obtain ⟨b1,b2,b3⟩:=h'
 refine ⟨⟨b1,?_,b3⟩,⟨a1,a2,?_⟩⟩
 ·show sw i (q.g j)<sw i (q.g (j+1))
  refine sw_mono b2 λ⟨c1,c2⟩=>?_
  have:q.f i=j:=by rw [<- c1,q.fg]
  have:q.f (i+1)=j+1:=by rw [<- c2,q.fg]
  omega
 ·show sw j (q.f (i+1))<sw j (q.f i)
  refine sw_mono a3 λ⟨c1,c2⟩=>?_
  have:q.g j=i+1:=by rw [<- c1,q.gf]
  have:q.g (j+1)=i:=by rw [<- c2,q.gf]
  omega
theorem St.local_ {n:Nat}:∀ {L M N:List Pm},St n L M->St n L N->∃ O,Sts n M O/\Sts n N O:=by
 intro L M N h
 induction h generalizing N with
 | head p q B i h=>
  intro h2
  cases h2 with
  | head _ _ _ j h'=>exact pair h h' B
  | tail _ _ L' h'=>
   cases h' with
   | head _ r B j h'=>
    obtain ⟨x,y⟩:=over h h'
    refine ⟨p.po i::(q.pr i).po j::r.pr j::B,.one (.tail _ _ _ (.head _ _ _ j x)),?_⟩
    rw [<- Pm.po_pr]
    exact .one (.head _ _ _ i y)
   | tail _ _ L'' h'=>exact ⟨p.po i::q.pr i::L'',.one (.tail _ _ _ (.tail _ _ _ h')),.one (.head _ _ _ i h)⟩
 | tail p L L' h ih=>
  intro h2
  cases h2 with
  | head _ q B i h'=>
   cases h with
   | head _ r B j h=>
    obtain ⟨x,y⟩:=over h' h
    refine ⟨p.po i::(q.pr i).po j::r.pr j::B,?_,.one (.tail _ _ _ (.head _ _ _ j x))⟩
    rw [<- Pm.po_pr]
    exact .one (.head _ _ _ i y)
   | tail _ _ L'' h=>exact ⟨p.po i::q.pr i::L'',.one (.head _ _ _ i h'),.one (.tail _ _ _ (.tail _ _ _ h))⟩
  | tail _ _ L2 h'=>
   obtain ⟨O,x,y⟩:=ih h'
   exact ⟨p::O,x.tail,y.tail⟩
def su (f:Nat->Nat):Nat->Nat
 | 0=>0
 | n+1=>su f n+f n
theorem su_congr {f f':Nat->Nat}:∀ {n:Nat},(∀ x,x<n->f x=f' x)->su f n=su f' n
 | 0,_=>rfl
 | n+1,h=>by rw [su,su,su_congr (λx hx=>h x (by omega)),h n (by omega)]
theorem su_add (f f':Nat->Nat):∀ n,su (λx=>f x+f' x) n=su f n+su f' n
 | 0=>rfl
 | n+1=>by rw [su,su,su,su_add f f' n];omega
theorem su_zero:∀ n,su (λ_=>0) n=0
 | 0=>rfl
 | n+1=>by rw [su,su_zero n]
theorem su_swap (h:Nat->Nat->Nat) (b:Nat):∀ a,su (λx=>su (h x) b) a=su (λy=>su (λx=>h x y) a) b
 | 0=>(su_zero b).symm
 | a+1=>by
  rw [su,su_swap h b a,<-su_add]
  rfl
theorem su_one (c k:Nat):∀ n,su (λv=>if k=v then c * v else 0) n=if k<n then c * k else 0
 | 0=>rfl
 | n+1=>by
  rw [su,su_one c k n]
  by_cases h:k<n
  ·rw [if_pos h,if_neg (by omega),if_pos (by omega)];rfl
  ·by_cases e:k=n
   ·subst e;rw [if_neg h,if_pos rfl,if_pos (by omega)];omega
   ·rw [if_neg h,if_neg e,if_neg (by omega)]
theorem su_le {f:Nat->Nat} {c:Nat}:∀ {n:Nat},(∀ x,x<n->f x<=c)->su f n<=n * c
 | 0,_=>Nat.zero_le _
 | n+1,h=>by
  have h1:=su_le (n:=n) λx hx=>h x (by omega)
  have h2:=h n (by omega)
  rw [su,Nat.add_mul];omega
def sm (f:Nat->Nat) (n:Nat):Nat:=su (λx=>x * f x) n
theorem sm_sw (f:Nat->Nat) (i:Nat):∀ n,i+1<n->sm (λx=>f (sw i x)) n+f (i+1)=sm f n+f i
 | 0,h=>by omega
 | n+1,h=>by
  by_cases e:i+1=n
  ·subst e
   have:su (λx=>x * f (sw i x)) i=su (λx=>x * f x) i:=su_congr λx hx=>by rw [sw_ne (by omega) (by omega)]
   simp only [sm,su]
   rw [this,sw_l,sw_r]
   have e1:(i+1) * f i=i * f i+f i:=by rw [Nat.add_mul];omega
   have e2:(i+1) * f (i+1)=i * f (i+1)+f (i+1):=by rw [Nat.add_mul];omega
   omega
  ·have:=sm_sw f i n (by omega)
   simp only [sm,su] at this ⊢
   rw [sw_ne (x:=n) (by omega) (by omega)]
   omega
def ok (n:Nat) (p:Pm):Prop:=∀ x,x<n->p.f x<n/\p.g x<n
theorem sm_inv {n:Nat} {p:Pm} (h:ok n p):sm p.f n=sm p.g n:=by
 have e1:sm p.f n=su (λx=>su (λv=>if p.f x=v then x * v else 0) n) n:=su_congr λx hx=>by rw [su_one,if_pos (h x hx).1]
 have e2:sm p.g n=su (λv=>su (λx=>if p.g v=x then v * x else 0) n) n:=su_congr λx hx=>by rw [su_one,if_pos (h x hx).2]
 rw [e1,e2,su_swap]
 refine su_congr λv hv=>su_congr λx hx=>?_
 by_cases c:p.f x=v
 ·rw [if_pos c,if_pos (by rw [<- c,p.gf]),Nat.mul_comm]
 ·rw [if_neg c,if_neg λq=>c (by rw [<- q,p.fg])]
theorem ok.po {n i:Nat} {p:Pm} (h:ok n p) (hi:i+1<n):ok n (p.po i):=λx hx=>⟨sw_lt hi (h x hx).1,(h _ (sw_lt hi hx)).2⟩
theorem ok.pr {n i:Nat} {p:Pm} (h:ok n p) (hi:i+1<n):ok n (p.pr i):=λx hx=>⟨(h _ (sw_lt hi hx)).1,sw_lt hi (h x hx).2⟩
def oks (n:Nat) (L:List Pm):Prop:=∀ p∈L,ok n p
theorem St.ok {n:Nat} {L M:List Pm} (h:St n L M) (o:oks n L):oks n M:=by
 induction h with
 | head p q B i h=>
  intro x hx
  simp only [List.mem_cons] at hx
  rcases hx with rfl | rfl | hx
  ·exact (o p (by simp)).po h.1
  ·exact (o q (by simp)).pr h.1
  ·exact o x (by simp [hx])
 | tail p L L' _ ih=>
  intro x hx
  rcases List.mem_cons.1 hx with rfl | hx
  ·exact o _ List.mem_cons_self
  ·exact ih (λy hy=>o y (List.mem_cons_of_mem _ hy)) x hx
theorem Sts.ok {n:Nat} {L M:List Pm} (h:Sts n L M) (o:oks n L):oks n M:=by
 induction h with
 | refl=>exact o
 | step L M N h _ ih=>exact ih (h.ok o)
def ms (n:Nat):List Pm->Nat
 | []=>0
 | p::L=>sm p.f n * n ^ L.length+ms n L
theorem sl_less {n i:Nat} {p q:Pm} (hp:ok n p) (hq:ok n q) (h:can n p q i):sm (p.po i).f n * n+sm (q.pr i).f n<sm p.f n * n+sm q.f n:=by
 obtain ⟨h1,h2,h3⟩:=h
 have a:=sm_sw p.g i n h1
 have b:=sm_sw q.f i n h1
 have e1:sm (p.po i).f n=sm (λx=>p.g (sw i x)) n:=sm_inv (hp.po h1)
 have e2:sm (q.pr i).f n=sm (λx=>q.f (sw i x)) n:=rfl
 have e3:=sm_inv hp
 have hb:=(hq i (by omega)).1
 rw [e1,e2,e3]
 have e4:(sm (λx=>p.g (sw i x)) n+1) * n<=sm p.g n * n:=Nat.mul_le_mul_right _ (by omega)
 rw [Nat.add_mul] at e4
 omega
theorem St.less {n:Nat} {L M:List Pm} (h:St n L M) (o:oks n L):ms n M<ms n L:=by
 induction h with
 | head p q B i h=>
  have hn:0<n ^ B.length:=Nat.pow_pos (by have:=h.1;omega)
  have:=Nat.mul_lt_mul_of_pos_right (sl_less (o p (by simp)) (o q (by simp)) h) hn
  simp only [ms,List.length_cons,Nat.pow_succ]
  rw [Nat.add_mul,Nat.add_mul,Nat.mul_assoc,Nat.mul_assoc,Nat.mul_comm n] at this
  omega
 | tail p L L' h ih=>
  have:=ih (λy hy=>o y (List.mem_cons_of_mem _ hy))
  simp only [ms,h.len];omega
theorem Sts.meet {n:Nat}:∀ (k:Nat) {L M N:List Pm},ms n L<k->oks n L->Sts n L M->Sts n L N->∃ O,Sts n M O/\Sts n N O
 | 0,_,_,_,h,_,_,_=>absurd h (Nat.not_lt_zero _)
 | k+1,L,M,N,hk,o,h,h'=>by
  cases h with
  | refl=>exact ⟨N,h',.refl _⟩
  | step _ M1 _ s t=>
   cases h' with
   | refl=>exact ⟨M,.refl _,.step _ _ _ s t⟩
   | step _ N1 _ s' t'=>
    obtain ⟨O,x,y⟩:=s.local_ s'
    have l1:=s.less o
    have l2:=s'.less o
    obtain ⟨O1,u,v⟩:=Sts.meet k (by omega) (s.ok o) t x
    obtain ⟨O2,u',v'⟩:=Sts.meet k (by omega) (s'.ok o) t' (y.trans v)
    exact ⟨O2,u.trans v',u'⟩
def stuck (n:Nat) (L:List Pm):Prop:=∀ M,¬ St n L M
theorem Sts.stuck_eq {n:Nat} {L M:List Pm} (h:Sts n L M) (s:stuck n L):M=L:=by
 cases h with
 | refl=>rfl
 | step _ M1 _ a _=>exact absurd a (s M1)
theorem Sts.unique {n:Nat} {L M N:List Pm} (o:oks n L) (h:Sts n L M) (h':Sts n L N) (s:stuck n M) (s':stuck n N):M=N:=by
 obtain ⟨O,x,y⟩:=Sts.meet (ms n L+1) (Nat.lt_succ_self _) o h h'
 rw [<- x.stuck_eq s,<-y.stuck_eq s']
end Go.Proofs.Ytodfdhnlhiaohaa.AE
end
section
namespace Go.Proofs.Ytodfdhnlhiaohaa.AE
open Go Go.AE Go.Proofs
def Lt (n:Nat) (f:Nat->Int):List Int:=(List.range n).map f
variable {n F:Nat} {f h:Nat->Int}
theorem Lt_len:(Lt n f).length=n:=by unfold Lt;rw [List.length_map,List.length_range]
theorem Lt_get {k:Nat} (hk:k<n):(Lt n f)[k]?=some (f k):=by
 unfold Lt;rw [List.getElem?_map,List.getElem?_range hk];rfl
theorem gt_Lt {k:Nat} (hk:k<n):gt (Lt n f) k=f k:=by unfold gt;rw [List.getD_eq_getElem?_getD,Lt_get hk];rfl
theorem ix_Lt {i:Int} (h0:0<=i) (h1:i<n):ix (Lt n f) i=some i.toNat:=by unfold ix;rw [if_pos ⟨h0,by rw [Lt_len];exact h1⟩]
theorem Lt_congr (e:∀ k,k<n->f k=h k):Lt n f=Lt n h:=by
 unfold Lt;exact List.map_congr_left λk hk=>e k (List.mem_range.1 hk)
theorem Lt_ext {l:List Int} (hl:l.length=n) (e:∀ k,k<n->l[k]?=some (f k)):l=Lt n f:=by
 apply List.ext_getElem?
 intro k
 by_cases hk:k<n
 ·rw [e k hk,Lt_get hk]
 ·rw [List.getElem?_eq_none (by omega),List.getElem?_eq_none (by rw [Lt_len];omega)]
theorem Lt_set {i:Nat} {x:Int}:(Lt n f).set i x=Lt n λk=>if k=i then x else f k:=by
 apply Lt_ext
 ·rw [List.length_set,Lt_len]
 ·intro k hk
  by_cases e:k=i
  ·subst e;rw [List.getElem?_set_self (by rw [Lt_len];exact hk),if_pos rfl]
  ·rw [List.getElem?_set_ne (Ne.symm e),Lt_get hk,if_neg e]
theorem Lt_succ:Lt n f++[f n]=Lt (n+1) f:=by unfold Lt;rw [List.range_succ,List.map_append];rfl
theorem Lt_app {x:Int} (hn:n<=1000) (hx:x=f n):apn (Lt n f) [x]=some (Lt (n+1) f):=by
 unfold apn
 rw [if_pos (by rw [Lt_len];simp;omega),hx,Lt_succ]
def Pl (n:Nat) (p:Pm):List Int:=Lt n λk=>((p.f k:Nat):Int)
theorem Pl_len {p:Pm}:(Pl n p).length=n:=Lt_len
def Pm.inv (p:Pm):Pm:=⟨p.g,p.f,p.fg,p.gf⟩
theorem ok.inv {p:Pm} (o:ok n p):ok n p.inv:=λx hx=>⟨(o x hx).2,(o x hx).1⟩
theorem inv_step {p:Pm} {k:Nat}:(λv:Nat=>if v=p.f k then (k:Int) else if p.g v<k then ((p.g v:Nat):Int) else 0)=λv=>if p.g v<k+1 then ((p.g v:Nat):Int) else 0:=by
 funext v
 by_cases e:v=p.f k
 ·subst e;rw [if_pos rfl,p.gf,if_pos (by omega)]
 ·have:p.g v≠k:=λq=>e (by rw [<- q,p.fg])
  rw [if_neg e]
  by_cases c:p.g v<k
  ·rw [if_pos c,if_pos (by omega)]
  ·rw [if_neg c,if_neg (by omega)]
theorem yt {p:Pm} (hn:n<=1000) (o:ok n p):∀ (m g k:Nat),n - k=m->m<g->k<=n ->
  aD.pl29 F g (Lt n λv=>if p.g v<k then ((p.g v:Nat):Int) else 0) (Pl n p) n k=some (Pl n p.inv):=by
 intro m
 induction m with
 | zero=>
  intro g k hm hg hk
  obtain ⟨g,rfl⟩:∃ g',g=g'+1:=⟨g - 1,by omega⟩
  rw [aD.pl29,decide_eq_false (by omega),cond_false]
  exact congrArg some (Lt_congr λv hv=>if_pos (by have:=(o v hv).2;omega))
 | succ m ih=>
  intro g k hm hg hk
  obtain ⟨g,rfl⟩:∃ g',g=g'+1:=⟨g - 1,by omega⟩
  have hpk:=(o k (by omega)).1
  rw [aD.pl29,decide_eq_true (by omega),cond_true]
  unfold Pl
  rw [ix_Lt (by omega) (by omega),Option.bind_some,Int.toNat_natCast,gt_Lt (by omega),ix_Lt (by omega) (by omega),Option.bind_some,Option.bind_some,Int.toNat_natCast,Lt_set,inv_step,bp (by omega) (by omega)]
  exact ih g (k+1) (by omega) (by omega) (by omega)
theorem mkn_Lt (hn:n<=1000):mkn (n:Int) (0:Int)=some (Lt n λ_=>0):=by
 unfold mkn
 rw [if_pos (by omega),Int.toNat_natCast]
 exact congrArg some (Lt_ext (by rw [List.length_replicate]) λk hk=>by rw [List.getElem?_replicate,if_pos hk])
theorem kI {p:Pm} (hn:n<=1000) (hF:n<F) (o:ok n p):aD.p F (Pl n p)=some (Pl n p.inv):=by
 unfold aD.p
 rw [Pl_len,mkn_Lt hn,Option.bind_some]
 exact yt hn o n F 0 (by omega) hF (by omega)
theorem yu {p:Pm} (hn:n<=1000) (o:ok n p):∀ (m g k:Nat),n - k=m->m<g->k<=n ->
  bh.pl29 F g (Pl n p) (Lt n λv=>if p.g v<k then ((p.g v:Nat):Int) else 0) k=some (Pl n p.inv):=by
 intro m
 induction m with
 | zero=>
  intro g k hm hg hk
  obtain ⟨g,rfl⟩:∃ g',g=g'+1:=⟨g - 1,by omega⟩
  rw [bh.pl29,Pl_len,decide_eq_false (by omega),cond_false]
  exact congrArg some (Lt_congr λv hv=>if_pos (by have:=(o v hv).2;omega))
 | succ m ih=>
  intro g k hm hg hk
  obtain ⟨g,rfl⟩:∃ g',g=g'+1:=⟨g - 1,by omega⟩
  have hpk:=(o k (by omega)).1
  rw [bh.pl29,Pl_len,decide_eq_true (by omega),cond_true]
  unfold Pl
  rw [ix_Lt (by omega) (by omega),Option.bind_some,Int.toNat_natCast,gt_Lt (by omega),ix_Lt (by omega) (by omega),Option.bind_some,Option.bind_some,Int.toNat_natCast,Lt_set,inv_step,bp (by omega) (by omega)]
  exact ih g (k+1) (by omega) (by omega) (by omega)
theorem yv {p:Pm} (hn:n<=1000) (hF:n<F) (o:ok n p):bh.p F (Pl n p)=some (Pl n p.inv):=by
 unfold bh.p
 rw [Pl_len,mkn_Lt hn,Option.bind_some]
 exact yu hn o n F 0 (by omega) hF (by omega)
theorem pr_step {p:Pm} {j:Nat}:(λk:Nat=>if k=j+1 then ((p.f j:Nat):Int) else if k=j then ((p.f (j+1):Nat):Int) else ((p.f k:Nat):Int))=λk=>(((p.pr j).f k:Nat):Int):=by
 funext k
 show _=((p.f (sw j k):Nat):Int)
 unfold sw
 by_cases e:k=j
 ·subst e;rw [if_neg (by omega),if_pos rfl,if_pos rfl]
 ·by_cases e2:k=j+1
  ·subst e2;rw [if_pos rfl,if_neg (by omega),if_pos rfl]
  ·rw [if_neg e2,if_neg e,if_neg e,if_neg e2]
theorem pM {p:Pm} {j:Nat} (hn:n<=1000) (hj:j+1<n):bu.p F (Pl n p) ((j:Int)+1)=some (Pl n (p.pr j)):=by
 unfold bu.p Pl
 rw [bp (by omega) (by omega),show (j:Int)+1 - 1=j by omega]
 simp (disch:=first | omega) only [ix_Lt,Option.bind_some,Lt_set,Int.toNat_natCast,show ((j:Int)+1).toNat=j+1 by omega,gt_Lt]
 exact congrArg (λf=>some (Lt n f)) pr_step
theorem yw {p:Pm} {j:Nat} (hn:n<=1000) (hj:j+1<n):da.p F (Pl n p) ((j:Int)+1)=some (Pl n (p.pr j)):=by
 unfold da.p Pl apn
 rw [bp (by omega) (by omega),show (j:Int)+1 - 1=j by omega,if_pos (by rw [Lt_len];simp;omega),List.nil_append]
 simp (disch:=first | omega) only [ix_Lt,Option.bind_some,Lt_set,Int.toNat_natCast,show ((j:Int)+1).toNat=j+1 by omega,gt_Lt]
 exact congrArg (λf=>some (Lt n f)) pr_step
theorem end_l {p:Pm} {j:Nat} (hn:n<=1000) (o:ok n p) (hj:j+1<n):∀ (m g k:Nat),n - k=m->m<g->k<=n ->
  ap.pl29 F g (Pl n p) ((j:Int)+1) (Lt k λv=>(((p.po j).f v:Nat):Int)) k=some (Pl n (p.po j)):=by
 intro m
 induction m with
 | zero=>
  intro g k hm hg hk
  obtain ⟨g,rfl⟩:∃ g',g=g'+1:=⟨g - 1,by omega⟩
  obtain rfl:k=n:=by omega
  rw [ap.pl29,Pl_len,decide_eq_false (by omega),cond_false]
  rfl
 | succ m ih=>
  intro g k hm hg hk
  obtain ⟨g,rfl⟩:∃ g',g=g'+1:=⟨g - 1,by omega⟩
  have hpk:=(o k (by omega)).1
  have key:∀ x:Int,x=(((p.po j).f k:Nat):Int)->(apn (Lt k λv=>(((p.po j).f v:Nat):Int)) [x]).bind (λl=>ap.pl29 F g (Pl n p) ((j:Int)+1) l (IntKind.i64.wrap ((k:Int)+1)))=some (Pl n (p.po j)):=λx hx=>by
   rw [Lt_app (f:=λv=>(((p.po j).f v:Nat):Int)) (by omega) hx,Option.bind_some,bp (by omega) (by omega)]
   exact ih g (k+1) (by omega) (by omega) (by omega)
  have hix:ix (Pl n p) (k:Int)=some k:=by unfold Pl;rw [ix_Lt (by omega) (by omega),Int.toNat_natCast]
  have hgt:gt (Pl n p) k=((p.f k:Nat):Int):=by unfold Pl;rw [gt_Lt (by omega)]
  rw [ap.pl29,Pl_len,decide_eq_true (by omega),cond_true,hix,Option.bind_some,hgt,bp (x:=(j:Int)+1 - 1) (by omega) (by omega)]
  unfold ap.pj6 ap.pj5 ap.pj4
  have hpo:(p.po j).f k=sw j (p.f k):=rfl
  by_cases e1:p.f k=j
  ·rw [show ((((p.f k:Nat):Int))==(j:Int)+1 - 1)=true from by simp;omega,cond_true]
   exact key _ (by rw [hpo,e1,sw_l];omega)
  ·rw [show ((((p.f k:Nat):Int))==(j:Int)+1 - 1)=false from by simp;omega,cond_false]
   by_cases e2:p.f k=j+1
   ·rw [show ((((p.f k:Nat):Int))==(j:Int)+1)=true from by simp;omega,cond_true]
    exact key _ (by rw [hpo,e2,sw_r];omega)
   ·rw [show ((((p.f k:Nat):Int))==(j:Int)+1)=false from by simp;omega,cond_false,Option.bind_some]
    exact key _ (by rw [hgt,hpo,sw_ne e1 e2])
theorem pN {p:Pm} {j:Nat} (hn:n<=1000) (hF:n<F) (o:ok n p) (hj:j+1<n):ap.p F (Pl n p) ((j:Int)+1)=some (Pl n (p.po j)):=
 end_l hn o hj n F 0 (by omega) hF (by omega)
def rv (n x:Nat):Nat:=if x<n then n - 1 - x else x
theorem rv_rv (n x:Nat):rv n (rv n x)=x:=by unfold rv;by_cases h:x<n <;> simp only [h,if_true,if_false] <;> (try split) <;> omega
theorem rv_lt {n x:Nat} (h:x<n):rv n x<n:=by unfold rv;rw [if_pos h];omega
def Pm.rev (n:Nat):Pm:=⟨rv n,rv n,rv_rv n,rv_rv n⟩
theorem ok_rev:ok n (Pm.rev n):=λx hx=>⟨rv_lt hx,rv_lt hx⟩
theorem ok_one:ok n Pm.one:=λx hx=>⟨hx,hx⟩
def Pm.turn (n:Nat) (p:Pm):Pm:=⟨λx=>rv n (p.f (rv n x)),λx=>rv n (p.g (rv n x)),λx=>by rw [rv_rv,p.gf,rv_rv],λx=>by rw [rv_rv,p.fg,rv_rv]⟩
theorem ok.turn {p:Pm} (o:ok n p):ok n (p.turn n):=λx hx=>⟨rv_lt (o _ (rv_lt hx)).1,rv_lt (o _ (rv_lt hx)).2⟩
theorem turn_l {p:Pm} (hn:n<=1000) (o:ok n p):∀ (m g k:Nat),n - k=m->m<g->k<=n ->
  aQ.pl61 F g ((n:Int) - 1) (Lt n λv=>if rv n v<k then (((p.turn n).f v:Nat):Int) else 0) (Pl n p) n k=some (Pl n (p.turn n)):=by
 intro m
 induction m with
 | zero=>
  intro g k hm hg hk
  obtain ⟨g,rfl⟩:∃ g',g=g'+1:=⟨g - 1,by omega⟩
  rw [aQ.pl61,decide_eq_false (by omega),cond_false]
  exact congrArg some (Lt_congr λv hv=>if_pos (by have:=rv_lt hv;omega))
 | succ m ih=>
  intro g k hm hg hk
  obtain ⟨g,rfl⟩:∃ g',g=g'+1:=⟨g - 1,by omega⟩
  have hpk:=(o k (by omega)).1
  have hix:ix (Pl n p) (k:Int)=some k:=by unfold Pl;rw [ix_Lt (by omega) (by omega),Int.toNat_natCast]
  have hgt:gt (Pl n p) k=((p.f k:Nat):Int):=by unfold Pl;rw [gt_Lt (by omega)]
  rw [aQ.pl61,decide_eq_true (by omega),cond_true,hix,Option.bind_some,hgt,bp (x:=(n:Int) - 1 - k) (by omega) (by omega),ix_Lt (by omega) (by omega),Option.bind_some,Option.bind_some,Lt_set,bp (x:=(k:Int)+1) (by omega) (by omega),bp (x:=(n:Int) - 1 - (p.f k:Nat)) (by omega) (by omega)]
  have e:(λv:Nat=>if v=((n:Int) - 1 - k).toNat then (n:Int) - 1 - (p.f k:Nat) else if rv n v<k then (((p.turn n).f v:Nat):Int) else 0)=λv=>if rv n v<k+1 then (((p.turn n).f v:Nat):Int) else 0:=by
   funext v
   by_cases c:v=((n:Int) - 1 - k).toNat
   ·have hv:v=n - 1 - k:=by omega
    have h1:rv n v=k:=by unfold rv;rw [if_pos (by omega)];omega
    have h2:(p.turn n).f v=n - 1 - p.f k:=by show rv n (p.f (rv n v))=_;rw [h1];unfold rv;rw [if_pos hpk]
    rw [if_pos c,h1,if_pos (by omega),h2];omega
   ·have h1:rv n v≠k:=λq=>c (by have h:=rv_rv n v;rw [q] at h;rw [<- h];unfold rv;rw [if_pos (by omega)];omega)
    rw [if_neg c]
    by_cases c2:rv n v<k
    ·rw [if_pos c2,if_pos (by omega)]
    ·rw [if_neg c2,if_neg (by omega)]
  rw [e]
  exact ih g (k+1) (by omega) (by omega) (by omega)
theorem yx {p:Pm} (hn:n<=1000) (hF:n<F) (o:ok n p):aQ.p F (Pl n p)=some (Pl n (p.turn n)):=by
 unfold aQ.p bR.p
 rw [Option.bind_some,Pl_len,mkn_Lt hn,Option.bind_some,bp (by omega) (by omega)]
 exact turn_l hn o n F 0 (by omega) hF (by omega)
theorem flip_l {p:Pm} (hn:n<=1000) (o:ok n p):∀ (m g k:Nat),n - k=m->m<g->k<=n ->
  aX.pl61 F g (Pl n p) n (Lt k λv=>(((p.turn n).f v:Nat):Int)) k=some (Pl n (p.turn n)):=by
 intro m
 induction m with
 | zero=>
  intro g k hm hg hk
  obtain ⟨g,rfl⟩:∃ g',g=g'+1:=⟨g - 1,by omega⟩
  obtain rfl:k=n:=by omega
  rw [aX.pl61,decide_eq_false (by omega),cond_false]
  rfl
 | succ m ih=>
  intro g k hm hg hk
  obtain ⟨g,rfl⟩:∃ g',g=g'+1:=⟨g - 1,by omega⟩
  have hk1:n - 1 - k<n:=by omega
  have hpk:=(o _ hk1).1
  have e0:((n:Int) - 1 - k)=((n - 1 - k:Nat):Int):=by omega
  have hix:ix (Pl n p) ((n:Int) - 1 - k)=some (n - 1 - k):=by unfold Pl;rw [ix_Lt (by omega) (by omega),e0,Int.toNat_natCast]
  have hgt:gt (Pl n p) (n - 1 - k)=((p.f (n - 1 - k):Nat):Int):=by unfold Pl;rw [gt_Lt (by omega)]
  have h1:rv n k=n - 1 - k:=by unfold rv;rw [if_pos (by omega)]
  have h2:(p.turn n).f k=n - 1 - p.f (n - 1 - k):=by show rv n (p.f (rv n k))=_;rw [h1];unfold rv;rw [if_pos hpk]
  rw [aX.pl61,decide_eq_true (by omega),cond_true,bp (x:=(n:Int) - 1) (by omega) (by omega),bp (x:=(n:Int) - 1 - k) (by omega) (by omega),hix,Option.bind_some,hgt,bp (x:=(n:Int) - 1 - (p.f (n - 1 - k):Nat)) (by omega) (by omega),Lt_app (by omega) (by rw [h2];omega),Option.bind_some,bp (by omega) (by omega)]
  exact ih g (k+1) (by omega) (by omega) (by omega)
theorem yy {p:Pm} (hn:n<=1000) (hF:n<F) (o:ok n p):aX.p F (Pl n p)=some (Pl n (p.turn n)):=by
 unfold aX.p
 rw [Pl_len]
 exact flip_l hn o n F 0 (by omega) hF (by omega)
theorem count_l (hn:n<=1000):∀ (m g k:Nat),n - k=m->m<g->k<=n->aH.pl29 F g (Lt k λv=>(v:Int)) n k=some (Pl n Pm.one):=by
 intro m
 induction m with
 | zero=>
  intro g k hm hg hk
  obtain ⟨g,rfl⟩:∃ g',g=g'+1:=⟨g - 1,by omega⟩
  obtain rfl:k=n:=by omega
  rw [aH.pl29,decide_eq_false (by omega),cond_false];rfl
 | succ m ih=>
  intro g k hm hg hk
  obtain ⟨g,rfl⟩:∃ g',g=g'+1:=⟨g - 1,by omega⟩
  rw [aH.pl29,decide_eq_true (by omega),cond_true,Lt_app (by omega) rfl,Option.bind_some,bp (by omega) (by omega)]
  exact ih g (k+1) (by omega) (by omega) (by omega)
theorem pO (hn:n<=1000) (hF:n<F):aH.p F n=some (Pl n Pm.one):=count_l hn n F 0 (by omega) hF (by omega)
theorem ident_l (hn:n<=1000):∀ (m g k:Nat),n - k=m->m<g->k<=n->aU.pl29 F g n (Lt k λv=>(v:Int)) k=some (Pl n Pm.one):=by
 intro m
 induction m with
 | zero=>
  intro g k hm hg hk
  obtain ⟨g,rfl⟩:∃ g',g=g'+1:=⟨g - 1,by omega⟩
  obtain rfl:k=n:=by omega
  rw [aU.pl29,decide_eq_false (by omega),cond_false];rfl
 | succ m ih=>
  intro g k hm hg hk
  obtain ⟨g,rfl⟩:∃ g',g=g'+1:=⟨g - 1,by omega⟩
  rw [aU.pl29,decide_eq_true (by omega),cond_true,Lt_app (by omega) rfl,Option.bind_some,bp (by omega) (by omega)]
  exact ih g (k+1) (by omega) (by omega) (by omega)
theorem tj (hn:n<=1000) (hF:n<F):aU.p F n=some (Pl n Pm.one):=ident_l hn n F 0 (by omega) hF (by omega)
theorem revs_l (hn:n<=1000):∀ (m g k:Nat),n - k=m->m<g->k<=n->aV.pl29 F g n (Lt k λv=>((rv n v:Nat):Int)) k=some (Pl n (Pm.rev n)):=by
 intro m
 induction m with
 | zero=>
  intro g k hm hg hk
  obtain ⟨g,rfl⟩:∃ g',g=g'+1:=⟨g - 1,by omega⟩
  obtain rfl:k=n:=by omega
  rw [aV.pl29,decide_eq_false (by omega),cond_false];rfl
 | succ m ih=>
  intro g k hm hg hk
  obtain ⟨g,rfl⟩:∃ g',g=g'+1:=⟨g - 1,by omega⟩
  have h1:rv n k=n - 1 - k:=by unfold rv;rw [if_pos (by omega)]
  rw [aV.pl29,decide_eq_true (by omega),cond_true,bp (x:=(n:Int) - 1) (by omega) (by omega),bp (x:=(n:Int) - 1 - k) (by omega) (by omega),Lt_app (by omega) (by rw [h1];omega),Option.bind_some,bp (by omega) (by omega)]
  exact ih g (k+1) (by omega) (by omega) (by omega)
theorem tl (hn:n<=1000) (hF:n<F):aV.p F n=some (Pl n (Pm.rev n)):=revs_l hn n F 0 (by omega) hF (by omega)
theorem tn (hn:n<=6) (hF:100<F):bB.p F n=some (Pl n (Pm.rev n)):=by
 unfold bB.p
 rw [pO (by omega) (by omega),Option.bind_some]
 obtain ⟨f,rfl⟩:∃ f,F=f+20:=⟨F - 20,by omega⟩
 have:bo.p (f+20) (Pl n Pm.one)=some (Pl n (Pm.rev n)):=by
  match n,hn with
  | 0,_=>rfl
  | 1,_=>rfl
  | 2,_=>rfl
  | 3,_=>rfl
  | 4,_=>rfl
  | 5,_=>rfl
  | 6,_=>rfl
 rw [this];rfl
theorem yz {x:Int} (h0:-1000<=x) (h1:x<=1000):ce.p F x=some (if x<0 then -x else x):=by
 unfold ce.p
 by_cases h:x<0
 ·rw [decide_eq_true h,cond_true,if_pos h,bp (by omega) (by omega),Int.zero_sub]
 ·rw [decide_eq_false h,cond_false,if_neg h]
end Go.Proofs.Ytodfdhnlhiaohaa.AE
end
section
namespace Go.Proofs.Ytodfdhnlhiaohaa.AE
open Go Go.AE Go.Proofs
variable {n F:Nat}
def Ss (n:Nat) (L M:List Pm):Prop:=∃ K,St n L K/\Sts n K M
theorem Ss.sts {L M:List Pm} (h:Ss n L M):Sts n L M:=by obtain ⟨K,a,b⟩:=h;exact .step _ _ _ a b
theorem Sts.le {L M:List Pm} (h:Sts n L M) (o:oks n L):ms n M<=ms n L:=by
 induction h with
 | refl=>exact Nat.le_refl _
 | step L M N h _ ih=>exact Nat.le_trans (ih (h.ok o)) (Nat.le_of_lt (h.less o))
theorem Ss.lt {L M:List Pm} (h:Ss n L M) (o:oks n L):ms n M<ms n L:=by
 obtain ⟨K,a,b⟩:=h
 exact Nat.lt_of_le_of_lt (b.le (a.ok o)) (a.less o)
theorem Ss.trans {L M N:List Pm} (h:Ss n L M) (t:Sts n M N):Ss n L N:=by obtain ⟨K,a,b⟩:=h;exact ⟨K,a,b.trans t⟩
theorem Sts.ss {L M N:List Pm} (h:Sts n L M) (t:Ss n M N):Ss n L N:=by
 cases h with
 | refl=>exact t
 | step _ K _ a b=>exact ⟨K,a,b.trans t.sts⟩
theorem Ss.app {L M:List Pm} (h:Ss n L M) (B:List Pm):Ss n (L++B) (M++B):=by obtain ⟨K,a,b⟩:=h;exact ⟨_,a.app B,b.app B⟩
theorem Ss.tail {p:Pm} {L M:List Pm} (h:Ss n L M):Ss n (p::L) (p::M):=by obtain ⟨K,a,b⟩:=h;exact ⟨_,.tail _ _ _ a,b.tail⟩
theorem Ss.one {L M:List Pm} (h:St n L M):Ss n L M:=⟨M,h,.refl _⟩
def stk (n:Nat) (p q:Pm):Prop:=∀ j,¬ can n p q j
def Stk (n:Nat):List Pm->Prop
 | []=>True
 | [_]=>True
 | p::q::t=>stk n p q/\Stk n (q::t)
theorem Stk.stuck:∀ {L:List Pm},Stk n L->stuck n L
 | [],_,M,h=>by cases h
 | [p],_,M,h=>by cases h with | tail _ _ L' h'=>cases h'
 | p::q::t,hs,M,h=>by
  cases h with
  | head _ _ _ i h'=>exact hs.1 i h'
  | tail _ _ L' h'=>exact Stk.stuck hs.2 _ h'
theorem can_dec {p q:Pm} {j:Nat} (h1:j+1<n):can n p q j↔q.f (j+1)<q.f j/\p.g j<p.g (j+1):=⟨λh=>⟨h.2.2,h.2.1⟩,λh=>⟨h1,h.2,h.1⟩⟩
theorem ix_Pl {p:Pm} {j:Nat} (hj:j<n):ix (Pl n p) (j:Int)=some j:=by unfold Pl;rw [ix_Lt (by omega) (by omega),Int.toNat_natCast]
theorem gt_Pl {p:Pm} {j:Nat} (hj:j<n):gt (Pl n p) j=((p.f j:Nat):Int):=by unfold Pl;rw [gt_Lt hj]
theorem sh_in (hn:n<=1000) (hF:n<F) {pC}:∀ (m g j:Nat) (p q:Pm) (b a:Bool),n - (j+1)=m->m<g->j+1<=n->ok n p->ok n q ->
  ∃ p' q' c,aj.pl943 F pC g (Pl n p) (Pl n q) b a (Pl n p.inv) ((j:Int)+1)=pC (Pl n p') (Pl n q') (b || c) (a || c)/\Sts n [p,q] [p',q']/\ok n p'/\ok n q' /\
   (c=false->p'=p/\q'=q/\∀ i,j<=i->¬ can n p q i)/\(c=true->Ss n [p,q] [p',q']):=by
 intro m
 induction m with
 | zero=>
  intro g j p q b a hm hg hj o1 o2
  obtain ⟨g,rfl⟩:∃ g',g=g'+1:=⟨g - 1,by omega⟩
  rw [aj.pl943]
  unfold bR.p
  rw [Option.bind_some,Pl_len,decide_eq_false (by omega),cond_false]
  refine ⟨p,q,false,?_,.refl _,o1,o2,λ_=>⟨rfl,rfl,λi hi hc=>?_⟩,λh=>by cases h⟩
  ·rw [Bool.or_false,Bool.or_false];rfl
  ·have:=hc.1;omega
 | succ m ih=>
  intro g j p q b a hm hg hj o1 o2
  obtain ⟨g,rfl⟩:∃ g',g=g'+1:=⟨g - 1,by omega⟩
  have hj1:j+1<n:=by omega
  have hw:IntKind.i64.wrap ((j:Int)+1+1)=((j+1:Nat):Int)+1:=by rw [bp (by omega) (by omega)];omega
  have hw2:IntKind.i64.wrap ((j:Int)+1 - 1)=(j:Int):=by rw [bp (by omega) (by omega)];omega
  have i1:∀ r:Pm,ix (Pl n r) ((j:Int)+1)=some (j+1):=λr=>ix_Pl (j:=j+1) (by omega)
  have i2:∀ r:Pm,ix (Pl n r) (j:Int)=some j:=λr=>ix_Pl (by omega)
  have g1:∀ r:Pm,gt (Pl n r) j=((r.f j:Nat):Int):=λr=>gt_Pl (by omega)
  have g2:∀ r:Pm,gt (Pl n r) (j+1)=((r.f (j+1):Nat):Int):=λr=>gt_Pl (by omega)
  have skip:¬ can n p q j->∃ p' q' c,aj.pl943 F pC g (Pl n p) (Pl n q) b a (Pl n p.inv) (((j+1:Nat):Int)+1)=pC (Pl n p') (Pl n q') (b || c) (a || c)/\Sts n [p,q] [p',q']/\ok n p'/\ok n q' /\
   (c=false->p'=p/\q'=q/\∀ i,j<=i->¬ can n p q i)/\(c=true->Ss n [p,q] [p',q']):=λhno=>by
   obtain ⟨p',q',c,e,h1,h2,h3,h4,h5⟩:=ih g (j+1) p q b a (by omega) (by omega) (by omega) o1 o2
   refine ⟨p',q',c,e,h1,h2,h3,λhc=>⟨(h4 hc).1,(h4 hc).2.1,λi hi=>?_⟩,h5⟩
   by_cases e:i=j
   ·subst e;exact hno
   ·exact (h4 hc).2.2 i (by omega)
  rw [aj.pl943]
  unfold bR.p
  rw [Option.bind_some,Pl_len,decide_eq_true (by omega),cond_true]
  simp only [hw2,i1,i2,g1,g2,Option.bind_some]
  by_cases c1:((q.f j:Nat):Int)>((q.f (j+1):Nat):Int)
  ·rw [decide_eq_true c1,cond_true]
   by_cases c2:((p.inv.f j:Nat):Int)<((p.inv.f (j+1):Nat):Int)
   ·have hcan:can n p q j:=(can_dec hj1).2 ⟨by omega,by have:p.inv.f=p.g:=rfl;rw [this] at c2;omega⟩
    have oi:ok n (p.inv.pr j):=o1.inv.pr hj1
    rw [decide_eq_true c2,cond_true,pM hn hj1,Option.bind_some,pM hn hj1,Option.bind_some,kI hn hF oi,Option.bind_some]
    have e1:cpl (Pl n p) (Pl n (p.inv.pr j).inv)=Pl n (p.po j):=by
     unfold cpl
     rw [List.take_of_length_le (by rw [Pl_len,Pl_len];omega),List.drop_eq_nil_of_le (by rw [Pl_len,Pl_len];omega),List.append_nil]
     rfl
    rw [e1]
    unfold aj.pj8
    rw [hw]
    have e2:p.inv.pr j=(p.po j).inv:=rfl
    rw [e2]
    obtain ⟨p',q',c,e,h1,h2,h3,h4,h5⟩:=ih g (j+1) (p.po j) (q.pr j) true true (by omega) (by omega) (by omega) (o1.po hj1) (o2.pr hj1)
    refine ⟨p',q',true,?_,?_,h2,h3,(by intro h;cases h),λ_=>?_⟩
    ·rw [e];simp
    ·exact .step _ _ _ (.head p q [] j hcan) h1
    ·exact (Ss.one (.head p q [] j hcan)).trans h1
   ·rw [decide_eq_false c2,cond_false]
    unfold aj.pj8
    rw [hw]
    exact skip λh=>c2 (by have:=((can_dec hj1).1 h).2;have e:p.inv.f=p.g:=rfl;rw [e];omega)
  ·rw [decide_eq_false c1,cond_false,hw]
   exact skip λh=>c1 (by have:=((can_dec hj1).1 h).1;omega)
theorem sh_out (hn:n<=1000) (hn0:0<n) (hF:n<F):∀ (m g:Nat) (p q:Pm) (b:Bool),ms n [p,q]<m->m<g->ok n p->ok n q ->
  ∃ p' q' c,aj.pl29 F g (Pl n p) (Pl n q) b true=some (b || c,Pl n p',Pl n q')/\Sts n [p,q] [p',q']/\ok n p'/\ok n q'/\stk n p' q'/\(c=false->p'=p/\q'=q)/\(c=true->Ss n [p,q] [p',q']):=by
 intro m
 induction m with
 | zero=>intro g p q b h;omega
 | succ m ih=>
  intro g p q b hm hg o1 o2
  obtain ⟨g,rfl⟩:∃ g',g=g'+2:=⟨g - 2,by omega⟩
  rw [aj.pl29,cond_true,kI hn hF o1,Option.bind_some]
  obtain ⟨p',q',c,e,h1,h2,h3,h4,h5⟩:=sh_in (F:=F) (pC:=aj.pl29 F (g+1)) hn hF (n - 1) F 0 p q b false (by omega) (by omega) (by omega) o1 o2
  have e:aj.pl943 F (aj.pl29 F (g+1)) F (Pl n p) (Pl n q) b false (Pl n p.inv) 1=_:=e
  rw [e]
  have oo:oks n [p,q]:=λx hx=>by
   simp only [List.mem_cons,List.not_mem_nil,or_false] at hx
   rcases hx with rfl | rfl
   ·exact o1
   ·exact o2
  cases c with
  | false=>
   obtain ⟨rfl,rfl,h6⟩:=h4 rfl
   rw [Bool.or_false,Bool.or_false,aj.pl29,cond_false]
   exact ⟨p',q',false,by rw [Bool.or_false],h1,h2,h3,λj=>h6 j (Nat.zero_le _),λ_=>⟨rfl,rfl⟩,λh=>by cases h⟩
  | true=>
   rw [Bool.or_true,Bool.or_true]
   obtain ⟨p2,q2,c2,e2,k1,k2,k3,k4,k5,k6⟩:=ih (g+1) p' q' true (by have:=(h5 rfl).lt oo;omega) (by omega) h2 h3
   refine ⟨p2,q2,true,by rw [e2];simp,h1.trans k1,k2,k3,k4,?_,λ_=>(h5 rfl).trans k1⟩
   intro h;cases h
theorem oks_pair {p q:Pm} {t:List Pm} (o:oks n (p::q::t)):ok n p/\ok n q/\oks n (q::t):=⟨o p (by simp),o q (by simp),λx hx=>o x (List.mem_cons_of_mem _ hx)⟩
theorem yA (hn:n<=1000) (hn0:0<n) {p q:Pm} (hF:n<F) (hm:ms n [p,q]+2<F) (o1:ok n p) (o2:ok n q) :
  ∃ p' q' c,aj.p F (Pl n p) (Pl n q)=some (c,Pl n p',Pl n q')/\Sts n [p,q] [p',q']/\ok n p'/\ok n q'/\stk n p' q'/\(c=false->p'=p/\q'=q)/\(c=true->Ss n [p,q] [p',q']):=by
 obtain ⟨p',q',c,e,h⟩:=sh_out (F:=F) hn hn0 hF (ms n [p,q]+1) F p q false (by omega) (by omega) o1 o2
 exact ⟨p',q',c,by unfold aj.p;rw [e,Bool.false_or],h⟩
theorem ms_pair (hn0:0<n) {p q:Pm} (o1:ok n p) (o2:ok n q):ms n [p,q]<=n * (n * n) * n+n * (n * n):=by
 have key:∀ r:Pm,ok n r->sm r.f n<=n * (n * n):=λr o=>su_le λx hx=>Nat.mul_le_mul (Nat.le_of_lt hx) (Nat.le_of_lt (o x hx).1)
 have h1:=Nat.mul_le_mul_right n (key p o1)
 have h2:=key q o2
 simp only [ms,List.length_cons,List.length_nil,Nat.pow_one,Nat.pow_zero,Nat.mul_one]
 have e:n ^ (0+1)=n:=by rw [Nat.zero_add,Nat.pow_one]
 rw [e]
 omega
theorem pas_all (hn:n<=6) (hn0:0<n) (hF:100000<F):∀ (t:List Pm) (p:Pm),oks n (p::t) ->
  ∃ c M,pas (aj.p F) (Pl n p) (t.map (Pl n))=some (c,M.map (Pl n))/\Sts n (p::t) M/\M.length=t.length+1/\(c=false->M=p::t/\Stk n (p::t))/\(c=true->Ss n (p::t) M):=by
 intro t
 induction t with
 | nil=>
  intro p o
  exact ⟨false,[p],rfl,.refl _,rfl,λ_=>⟨rfl,trivial⟩,λh=>by cases h⟩
 | cons q t ih=>
  intro p o
  obtain ⟨o1,o2,o3⟩:=oks_pair o
  have hb:=ms_pair hn0 o1 o2
  have hb2:n * (n * n) * n+n * (n * n)<=6 * (6 * 6) * 6+6 * (6 * 6):=by
   have a1:n * n<=6 * 6:=Nat.mul_le_mul hn hn
   have a2:=Nat.mul_le_mul hn a1
   have a3:=Nat.mul_le_mul a2 hn
   omega
  obtain ⟨p',q',c,e,h1,h2,h3,h4,h5,h6⟩:=yA (F:=F) (by omega) hn0 (by omega) (by omega) o1 o2
  have o4:oks n (q'::t):=λx hx=>by
   rcases List.mem_cons.1 hx with rfl | hx
   ·exact h3
   ·exact o3 x (List.mem_cons_of_mem _ hx)
  obtain ⟨c2,M,e2,k1,k2,k3,k4⟩:=ih q' o4
  refine ⟨c || c2,p'::M,?_,?_,by simp [k2],?_,?_⟩
  ·rw [List.map_cons,pas,e,Option.bind_some,e2,Option.bind_some];rfl
  ·have:=(h1.app t).trans k1.tail
   exact this
  ·intro hc
   obtain ⟨c1,c3⟩:c=false/\c2=false:=by cases c <;> cases c2 <;> simp_all
   obtain ⟨rfl,rfl⟩:=h5 c1
   obtain ⟨rfl,h7⟩:=k3 c3
   exact ⟨rfl,h4,h7⟩
  ·intro hc
   cases c with
   | true=>exact ((h6 rfl).app t).trans k1.tail
   | false=>
    obtain ⟨rfl,rfl⟩:=h5 rfl
    exact (k4 (by simpa using hc)).tail
theorem fin_all (hn:n<=6) (hn0:0<n) (hF:100000<F):∀ (m g:Nat) (L:List Pm),ms n L<m->m<=g->oks n L->L.length<=1000 ->
  ∃ M,jK (aj.p F) F g (L.map (Pl n))=some (M.map (Pl n))/\Sts n L M/\Stk n M/\M.length=L.length:=by
 intro m
 induction m with
 | zero=>intro g L h;omega
 | succ m ih=>
  intro g L hm hg o hl
  obtain ⟨g,rfl⟩:∃ g',g=g'+1:=⟨g - 1,by omega⟩
  rw [jK,if_pos (by rw [List.length_map];omega)]
  match L,o,hm,hl with
  | [],_,_,_=>exact ⟨[],rfl,.refl _,trivial,rfl⟩
  | p::t,o,hm,hl=>
   obtain ⟨c,M,e,h1,h2,h3,h4⟩:=pas_all (F:=F) hn hn0 hF t p o
   rw [List.map_cons,uH,e,Option.bind_some]
   cases c with
   | false=>
    obtain ⟨rfl,h5⟩:=h3 rfl
    exact ⟨_,rfl,h1,h5,rfl⟩
   | true=>
    rw [cond_true]
    obtain ⟨M2,e2,k1,k2,k3⟩:=ih g M (by have:=(h4 rfl).lt o;omega) (by omega) (h1.ok o) (by rw [h2];rw [List.length_cons] at hl;omega)
    exact ⟨M2,e2,h1.trans k1,k2,by rw [k3,h2];rfl⟩
end Go.Proofs.Ytodfdhnlhiaohaa.AE
end
section
namespace Go.Proofs.Ytodfdhnlhiaohaa.AE
open Go Go.AE Go.Proofs
variable {n F:Nat}
theorem slide_l (hn:n<=1000) (hF:n<F) {p q:Pm} (o1:ok n p) (o2:ok n q):∀ (m g j:Nat),n - (j+1)=m->m<g->j+1<=n ->
  (∃ i,can n p q i/\ay.pl29 F g (Pl n p) (Pl n q) (Pl n p.inv) ((j:Int)+1)=some (Pl n (p.po i),Pl n (q.pr i),true)) \/
  ((∀ i,j<=i->¬ can n p q i)/\ay.pl29 F g (Pl n p) (Pl n q) (Pl n p.inv) ((j:Int)+1)=some (Pl n p,Pl n q,false)):=by
 intro m
 induction m with
 | zero=>
  intro g j hm hg hj
  obtain ⟨g,rfl⟩:∃ g',g=g'+1:=⟨g - 1,by omega⟩
  right
  rw [ay.pl29,Pl_len,decide_eq_false (by omega),cond_false]
  exact ⟨λi hi hc=>by have:=hc.1;omega,rfl⟩
 | succ m ih=>
  intro g j hm hg hj
  obtain ⟨g,rfl⟩:∃ g',g=g'+1:=⟨g - 1,by omega⟩
  have hj1:j+1<n:=by omega
  have hw:IntKind.i64.wrap ((j:Int)+1+1)=((j+1:Nat):Int)+1:=by rw [bp (by omega) (by omega)];omega
  have hw2:IntKind.i64.wrap ((j:Int)+1 - 1)=(j:Int):=by rw [bp (by omega) (by omega)];omega
  have i1:∀ r:Pm,ix (Pl n r) ((j:Int)+1)=some (j+1):=λr=>ix_Pl (j:=j+1) (by omega)
  have i2:∀ r:Pm,ix (Pl n r) (j:Int)=some j:=λr=>ix_Pl (by omega)
  have g1:∀ r:Pm,gt (Pl n r) j=((r.f j:Nat):Int):=λr=>gt_Pl (by omega)
  have g2:∀ r:Pm,gt (Pl n r) (j+1)=((r.f (j+1):Nat):Int):=λr=>gt_Pl (by omega)
  have skip:¬ can n p q j->(∃ i,can n p q i/\ay.pl29 F g (Pl n p) (Pl n q) (Pl n p.inv) (((j+1:Nat):Int)+1)=some (Pl n (p.po i),Pl n (q.pr i),true)) \/
    ((∀ i,j<=i->¬ can n p q i)/\ay.pl29 F g (Pl n p) (Pl n q) (Pl n p.inv) (((j+1:Nat):Int)+1)=some (Pl n p,Pl n q,false)):=λhno=>by
   rcases ih g (j+1) (by omega) (by omega) (by omega) with h | ⟨h1,h2⟩
   ·exact .inl h
   ·refine .inr ⟨λi hi=>?_,h2⟩
    by_cases e:i=j
    ·subst e;exact hno
    ·exact h1 i (by omega)
  rw [ay.pl29,Pl_len,decide_eq_true (by omega),cond_true]
  simp only [hw2,i1,i2,g1,g2,Option.bind_some]
  by_cases c1:((q.f j:Nat):Int)>((q.f (j+1):Nat):Int)
  ·rw [decide_eq_true c1,cond_true]
   by_cases c2:((p.inv.f j:Nat):Int)<((p.inv.f (j+1):Nat):Int)
   ·have hcan:can n p q j:=(can_dec hj1).2 ⟨by omega,by have:p.inv.f=p.g:=rfl;rw [this] at c2;omega⟩
    rw [decide_eq_true c2,cond_true,pN hn hF o1 hj1,Option.bind_some,yw hn hj1,Option.bind_some]
    exact .inl ⟨j,hcan,rfl⟩
   ·rw [decide_eq_false c2,cond_false,hw]
    exact skip λh=>c2 (by have:=((can_dec hj1).1 h).2;have e:p.inv.f=p.g:=rfl;rw [e];omega)
  ·rw [decide_eq_false c1,cond_false,hw]
   exact skip λh=>c1 (by have:=((can_dec hj1).1 h).1;omega)
theorem yB (hn:n<=1000) (hn0:0<n) (hF:n<F) {p q:Pm} (o1:ok n p) (o2:ok n q) :
  (∃ i,can n p q i/\ay.p F (Pl n p) (Pl n q)=some (Pl n (p.po i),Pl n (q.pr i),true))\/(stk n p q/\ay.p F (Pl n p) (Pl n q)=some (Pl n p,Pl n q,false)):=by
 unfold ay.p
 rw [yv hn hF o1,Option.bind_some]
 rcases slide_l (F:=F) hn hF o1 o2 (n - 1) F 0 (by omega) (by omega) (by omega) with h | ⟨h1,h2⟩
 ·exact .inl h
 ·exact .inr ⟨λj=>h1 j (Nat.zero_le _),h2⟩
theorem gt_of {α:Type} [Inhabited α] {l:List α} {k:Nat} {x:α} (h:l[k]?=some x):gt l k=x:=by unfold gt;rw [List.getD_eq_getElem?_getD,h];rfl
theorem ix_of {α:Type} {l:List α} {k:Nat} (h:k<l.length):ix l (k:Int)=some k:=by unfold ix;rw [if_pos ⟨by omega,by omega⟩,Int.toNat_natCast]
theorem set_mid1 {α:Type} {A B:List α} {x y:α} {k:Nat} (hk:k=A.length):(A++x::B).set k y=A++y::B:=by
 subst hk
 rw [List.set_append_right _ _ (Nat.le_refl _),Nat.sub_self];rfl
theorem get_mid1 {α:Type} {A B:List α} {x:α} {k:Nat} (hk:k=A.length):(A++x::B)[k]?=some x:=by
 subst hk
 rw [List.getElem?_append_right (Nat.le_refl _),Nat.sub_self];rfl
theorem Stk.of:∀ {L:List Pm},(∀ A p q B,L=A++p::q::B->stk n p q)->Stk n L
 | [],_=>trivial
 | [_],_=>trivial
 | p::q::t,h=>⟨h [] p q t rfl,Stk.of λA x y B e=>h (p::A) x y B (by rw [e];rfl)⟩
theorem weight_l (hn:n<=1000) (hn0:0<n) (hF:n<F):∀ (m g k:Nat) (L:List Pm),ms n L * (L.length+2)+(L.length - k)<m->m<=g->L.length<=1000->k<=L.length->oks n L->(∀ A p q B,L=A++p::q::B->A.length<k->stk n p q) ->
  ∃ M,av.pl29 F g (L.map (Pl n)) k=some (M.map (Pl n))/\Sts n L M/\Stk n M:=by
 intro m
 induction m with
 | zero=>intro g k L h;omega
 | succ m ih=>
  intro g k L hm hg hl hk o hs
  obtain ⟨g,rfl⟩:∃ g',g=g'+1:=⟨g - 1,by omega⟩
  have hw:IntKind.i64.wrap ((k:Int)+1)=((k+1:Nat):Int):=by rw [bp (by omega) (by omega)];omega
  rw [av.pl29,hw,List.length_map]
  by_cases c:k+1<L.length
  ·rw [decide_eq_true (by omega),cond_true]
   obtain ⟨A,p,q,B,rfl,hA⟩:∃ A p q B,L=A++p::q::B/\A.length=k:=by
    refine ⟨L.take k,L[k],L[k+1],L.drop (k+2),?_,by rw [List.length_take];omega⟩
    rw [<- List.drop_eq_getElem_cons c,<-List.drop_eq_getElem_cons (by omega),List.take_append_drop]
   have o1:ok n p:=o p (by simp)
   have o2:ok n q:=o q (by simp)
   have hA2:k=(A.map (Pl n)).length:=by rw [List.length_map];omega
   have e1:((A++p::q::B).map (Pl n))=A.map (Pl n)++Pl n p::Pl n q::B.map (Pl n):=by simp
   have i1:ix (A.map (Pl n)++Pl n p::Pl n q::B.map (Pl n)) (k:Int)=some k:=ix_of (by simp;omega)
   have i2:ix (A.map (Pl n)++Pl n p::Pl n q::B.map (Pl n)) ((k+1:Nat):Int)=some (k+1):=ix_of (by simp;omega)
   have e2:∀ x y:List Int,A.map (Pl n)++x::y::B.map (Pl n)=(A.map (Pl n)++[x])++y::B.map (Pl n):=λx y=>by simp
   have g1:gt (A.map (Pl n)++Pl n p::Pl n q::B.map (Pl n)) k=Pl n p:=gt_of (get_mid1 hA2)
   have g2:gt (A.map (Pl n)++Pl n p::Pl n q::B.map (Pl n)) (k+1)=Pl n q:=gt_of (by rw [e2];exact get_mid1 (by simp;omega))
   rw [e1,i1,Option.bind_some,i2,Option.bind_some,g1,g2]
   rcases yB (F:=F) hn hn0 hF o1 o2 with ⟨i,hc,e⟩ | ⟨hst,e⟩
   ·have hstep:St n (A++p::q::B) (A++p.po i::q.pr i::B):=by
     have:∀ A:List Pm,St n (A++p::q::B) (A++p.po i::q.pr i::B):=λA=>by
      induction A with
      | nil=>exact .head p q B i hc
      | cons a A ih=>exact .tail _ _ _ ih
     exact this A
    have i3:ix (A.map (Pl n)++Pl n (p.po i)::Pl n q::B.map (Pl n)) ((k+1:Nat):Int)=some (k+1):=ix_of (by simp;omega)
    rw [e,Option.bind_some]
    simp only [cond_true,Option.bind_some]
    rw [set_mid1 hA2,i3,Option.bind_some,e2,set_mid1 (by simp;omega),<-e2]
    unfold av.pj2
    have e3:A.map (Pl n)++Pl n (p.po i)::Pl n (q.pr i)::B.map (Pl n)=(A++p.po i::q.pr i::B).map (Pl n):=by simp
    have hw0:IntKind.i64.wrap ((-1:Int)+1)=((0:Nat):Int):=by rw [bp (by omega) (by omega)];rfl
    rw [e3,hw0]
    have hlen:(A++p.po i::q.pr i::B).length=(A++p::q::B).length:=by simp
    have hms:=hstep.less o
    have hmul:(ms n (A++p.po i::q.pr i::B)+1) * ((A++p::q::B).length+2)<=ms n (A++p::q::B) * ((A++p::q::B).length+2):=Nat.mul_le_mul_right _ hms
    rw [Nat.add_mul] at hmul
    obtain ⟨M,k1,k2,k3⟩:=ih g 0 (A++p.po i::q.pr i::B) (by rw [hlen];omega) (by omega) (by rw [hlen];exact hl) (Nat.zero_le _) (hstep.ok o) (λ_ _ _ _ _ h=>absurd h (Nat.not_lt_zero _))
    exact ⟨M,k1,.step _ _ _ hstep k2,k3⟩
   ·rw [e,Option.bind_some]
    simp only [cond_false]
    unfold av.pj2
    rw [hw,<-e1]
    refine ih g (k+1) (A++p::q::B) (by omega) (by omega) hl (by omega) o λA' p' q' B' e' hlt=>?_
    by_cases c2:A'.length<k
    ·exact hs A' p' q' B' e' c2
    ·have hAA:A.length=A'.length:=by omega
     obtain ⟨_,h2⟩:=List.append_inj e' hAA
     injection h2 with h3 h4
     injection h4 with h5 h6
     rw [<- h3,<-h5];exact hst
  ·rw [decide_eq_false (by omega),cond_false]
   refine ⟨L,rfl,.refl _,Stk.of λA p q B e=>hs A p q B e ?_⟩
   have:=congrArg List.length e
   simp at this
   omega
theorem yC (hn:n<=1000) (hn0:0<n) {L:List Pm} (hF:n<F) (hF2:ms n L * (L.length+2)+L.length+1<=F) (hl:L.length<=1000) (o:oks n L) :
  ∃ M,av.p F (L.map (Pl n))=some (M.map (Pl n))/\Sts n L M/\Stk n M:=by
 unfold av.p apn
 rw [if_pos (by simp;omega),List.nil_append,Option.bind_some]
 exact weight_l hn hn0 hF _ F 0 L (Nat.lt_succ_self _) (by omega) hl (Nat.zero_le _) o λ_ _ _ _ _ h=>absurd h (Nat.not_lt_zero _)
theorem same_drop {a b:List Int} (hl:a.length=b.length) (ha:a.length<=1000):∀ (m g k:Nat),a.length - k=m->m<g->k<=a.length ->
  aF.pl29 F g a b k=some (decide (a.drop k=b.drop k))/\aN.pl29 F g a b a.length k=some (decide (a.drop k=b.drop k)):=by
 intro m
 induction m with
 | zero=>
  intro g k hm hg hk
  obtain ⟨g,rfl⟩:∃ g',g=g'+1:=⟨g - 1,by omega⟩
  rw [aF.pl29,aN.pl29,decide_eq_false (by omega),cond_false,cond_false,List.drop_eq_nil_of_le (by omega),List.drop_eq_nil_of_le (by omega)]
  exact ⟨rfl,rfl⟩
 | succ m ih=>
  intro g k hm hg hk
  obtain ⟨g,rfl⟩:∃ g',g=g'+1:=⟨g - 1,by omega⟩
  have h1:k<a.length:=by omega
  have h2:k<b.length:=by omega
  have hw:IntKind.i64.wrap ((k:Int)+1)=((k+1:Nat):Int):=by rw [bp (by omega) (by omega)];omega
  rw [aF.pl29,aN.pl29,decide_eq_true (by omega),cond_true,cond_true,ix_of h1,ix_of h2,Option.bind_some,Option.bind_some,Option.bind_some,Option.bind_some,gt_of (List.getElem?_eq_getElem h1),gt_of (List.getElem?_eq_getElem h2),hw]
  have hd:(a.drop k=b.drop k)↔(a[k]=b[k]/\a.drop (k+1)=b.drop (k+1)):=by rw [List.drop_eq_getElem_cons h1,List.drop_eq_getElem_cons h2,List.cons.injEq]
  by_cases e:a[k]=b[k]
  ·rw [e,bne_self_eq_false,cond_false,cond_false]
   obtain ⟨q1,q2⟩:=ih g (k+1) (by omega) (by omega) (by omega)
   have hd2:(a.drop k=b.drop k)↔(a.drop (k+1)=b.drop (k+1)):=hd.trans ⟨λh=>h.2,λh=>⟨e,h⟩⟩
   rw [q1,q2,decide_eq_decide.2 hd2]
   exact ⟨rfl,rfl⟩
  ·rw [show (a[k] != b[k])=true from bne_iff_ne.2 e,cond_true,cond_true,decide_eq_false λh=>e (hd.1 h).1]
   exact ⟨rfl,rfl⟩
theorem pP {a b:List Int} (ha:a.length<=1000) (hF:1000<F):aF.p F a b=some (decide (a=b)):=by
 unfold aF.p
 by_cases hl:a.length=b.length
 ·rw [hl,bne_self_eq_false,cond_false]
  exact (same_drop hl ha a.length F 0 (by omega) (by omega) (by omega)).1
 ·rw [show ((a.length:Int) != (b.length:Int))=true from bne_iff_ne.2 (by omega),cond_true,decide_eq_false λh=>hl (by rw [h])]
theorem pQ {a b:List Int} (ha:a.length<=1000) (hF:1000<F):aN.p F a b=some (decide (a=b)):=by
 unfold aN.p
 by_cases hl:a.length=b.length
 ·rw [<- hl,bne_self_eq_false,cond_false]
  exact (same_drop hl ha a.length F 0 (by omega) (by omega) (by omega)).2
 ·rw [show ((a.length:Int) != (b.length:Int))=true from bne_iff_ne.2 (by omega),cond_true,decide_eq_false λh=>hl (by rw [h])]
theorem part_both (hn:n<=1000) (hF:2000<F) {l:List (List Int)} (hl:l.length<=1000) (hx:∀ x∈l,x.length=n):∀ (t pre:List (List Int)) (pw:Int) (acc:List (List Int)) (g:Nat),l=pre++t->t.length<g->acc.length<=pre.length->(∀ x∈acc,x.length=n) ->
  ∃ pw' out,gU (aN.p F) (Pl n Pm.one) (Pl n (Pm.rev n)) t pw acc=some (pw',out)/\ae.pl1021 F g n l pw acc pre.length=some (pw',out)/\out.length<=l.length/\∀ x∈out,x.length=n:=by
 intro t
 induction t with
 | nil=>
  intro pre pw acc g e hg ha hxa
  obtain ⟨g,rfl⟩:∃ g',g=g'+1:=⟨g - 1,by omega⟩
  rw [List.append_nil] at e
  subst e
  rw [ae.pl1021,decide_eq_false (by omega),cond_false]
  exact ⟨pw,acc,rfl,rfl,ha,hxa⟩
 | cons x t ih=>
  intro pre pw acc g e hg ha hxa
  obtain ⟨g,rfl⟩:∃ g',g=g'+1:=⟨g - 1,by omega⟩
  rw [List.length_cons] at hg
  have hlen:l.length=pre.length+(t.length+1):=by rw [e,List.length_append,List.length_cons]
  have hxl:x.length=n:=hx x (by rw [e];simp)
  have hi:ix l (pre.length:Int)=some pre.length:=ix_of (by omega)
  have hgt:gt l pre.length=x:=gt_of (by rw [e];exact get_mid1 rfl)
  have hw:IntKind.i64.wrap ((pre.length:Int)+1)=(((pre++[x]).length:Nat):Int):=by rw [bp (by omega) (by omega),List.length_append];simp
  rw [ae.pl1021,decide_eq_true (by omega),cond_true,gU,hi]
  simp only [Option.bind_some]
  rw [tj hn (by omega),Option.bind_some,hgt,pP (by omega) (by omega),pQ (by omega) (by omega),Option.bind_some,Option.bind_some]
  unfold ae.pj9 ae.pj8 ae.pj7
  rw [hw]
  by_cases c1:x=Pl n Pm.one
  ·rw [decide_eq_true c1,cond_true,cond_true]
   exact ih (pre++[x]) pw acc g (by rw [e];simp) (by omega) (by simp;omega) hxa
  ·rw [decide_eq_false c1,cond_false,cond_false,tl hn (by omega),Option.bind_some,pP (by omega) (by omega),pQ (by omega) (by omega),Option.bind_some,Option.bind_some]
   by_cases c2:x=Pl n (Pm.rev n)
   ·rw [decide_eq_true c2,cond_true,cond_true]
    exact ih (pre++[x]) (IntKind.i64.wrap (pw+1)) acc g (by rw [e];simp) (by omega) (by simp;omega) hxa
   ·have hap:apn acc [x]=some (acc++[x]):=by unfold apn;rw [if_pos (by simp;omega)]
    rw [decide_eq_false c2,cond_false,cond_false,hap,Option.bind_some,Option.bind_some]
    exact ih (pre++[x]) pw (acc++[x]) g (by rw [e];simp) (by omega) (by simp;omega) λy hy=>by
     rcases List.mem_append.1 hy with hy | hy
     ·exact hxa y hy
     ·rw [List.mem_singleton.1 hy];exact hxl
end Go.Proofs.Ytodfdhnlhiaohaa.AE
end
section
namespace Go.Proofs.Ytodfdhnlhiaohaa.AE.BB
open Go Go.AE Go.Proofs
variable {F:Nat}
section
variable {α:Type} [Inhabited α]
theorem gset_eq {l:List α} {n:Nat} {x:α} (h:n<l.length):gt (l.set n x) n=x:=by
 unfold gt;rw [List.getD_eq_getElem?_getD,List.getElem?_set_self h];rfl
theorem gset_ne {l:List α} {n m:Nat} {x:α} (h:n≠m):gt (l.set n x) m=gt l m:=by
 unfold gt;rw [List.getD_eq_getElem?_getD,List.getD_eq_getElem?_getD,List.getElem?_set_ne h]
theorem gext {l m:List α} (h:l.length=m.length) (hh:∀ n:Nat,n<l.length->gt l n=gt m n):l=m:=by
 apply List.ext_getElem?
 intro n
 by_cases hn:n<l.length
 ·rw [gn hn,gn (by omega),hh n hn]
 ·rw [List.getElem?_eq_none (by omega),List.getElem?_eq_none (by omega)]
theorem gmem {l:List α} {n:Nat} (h:n<l.length):gt l n∈l:=List.mem_of_getElem? (gn h)
theorem mem_gt {l:List α} {x:α} (h:x∈l):∃ n,n<l.length/\gt l n=x:=by
 obtain ⟨n,hn⟩:=List.getElem?_of_mem h
 have hl:=(List.getElem?_eq_some_iff.1 hn).1
 refine ⟨n,hl,?_⟩
 rw [gn hl] at hn;exact Option.some.inj hn
end
section
variable {α:Type}
theorem ix_of {l:List α} {i:Int} (h0:0<=i) (h:i<l.length):ix l i=some i.toNat:=by
 unfold ix;rw [if_pos ⟨h0,h⟩]
theorem ixn {l:List α} {n:Nat} (h:n<l.length):ix l (n:Int)=some n:=by
 rw [ix_of (by omega) (by omega)];simp
theorem mkn_of {n:Nat} {x:α} (h:n<=4294967296):mkn (n:Int) x=some (List.replicate n x):=by
 unfold mkn;rw [if_pos (by omega)];simp
end
theorem wn {i:Nat} (h:i<=4294967296):IntKind.i64.wrap (i:Int)=(i:Int):=bp (by omega) (by omega)
theorem ws {i:Nat} (h:i<=4294967296):IntKind.i64.wrap ((i:Int)+1)=((i+1:Nat):Int):=by rw [bp (by omega) (by omega)];omega
theorem dT {i n:Nat} (h:i<n):decide ((i:Int)<(n:Int))=true:=decide_eq_true (by omega)
theorem dF {i n:Nat} (h:n<=i):decide ((i:Int)<(n:Int))=false:=decide_eq_false (by omega)
theorem maxLen_le:maxLen<=9223372036854775807:=by decide
theorem tp {x a b:Int}:cw.p F x a b=some (decide (a<=x/\x<=b)):=by
 unfold cw.p
 by_cases h:x>=a
 ·rw [decide_eq_true h,cond_true];congr 1;simp only [ge_iff_le] at h;simp [h]
 ·rw [decide_eq_false h,cond_false];congr 1;simp only [ge_iff_le] at h;simp [h]
theorem tq {x a b:Int}:cP.p F x a b=some (decide (a<=x/\x<=b)):=by
 unfold cP.p
 by_cases h:a<=x
 ·rw [decide_eq_true h,cond_true];congr 1;simp [h]
 ·rw [decide_eq_false h,cond_false];congr 1;simp [h]
theorem eqInt_l {l:List Int} (hl:l.length<=2000000):∀ (n g:Nat) (i:Nat),l.length - i=n->n<g->bm.pl29 F g l l (i:Int)=some true:=by
 intro n
 induction n with
 | zero=>
  intro g i hn hg
  obtain ⟨g,rfl⟩:∃ g',g=g'+1:=⟨g - 1,by omega⟩
  rw [bm.pl29,dF (by omega),cond_false]
 | succ n ih=>
  intro g i hn hg
  obtain ⟨g,rfl⟩:∃ g',g=g'+1:=⟨g - 1,by omega⟩
  rw [bm.pl29,dT (by omega),cond_true,ixn (by omega),Option.bind_some,Option.bind_some,bne_self_eq_false,cond_false,ws (by omega)]
  exact ih g (i+1) (by omega) (by omega)
theorem eqInt {l:List Int} (hF:5000000<F) (hl:l.length<=2000000):bm.p F l l=some true:=by
 unfold bm.p
 rw [bne_self_eq_false,cond_false]
 exact eqInt_l hl l.length F 0 (by omega) (by omega)
theorem toInt_l {l:List Int} (hl:l.length<=2000000):∀ (n g:Nat) (m:List Int) (i:Nat),l.length - i=n->n<g->i<=l.length->m.length=l.length->(∀ a:Nat,a<i->gt m a=gt l a) ->
  bs.pl29 F g l m (i:Int)=some l:=by
 intro n
 induction n with
 | zero=>
  intro g m i hn hg hi hm hh
  obtain ⟨g,rfl⟩:∃ g',g=g'+1:=⟨g - 1,by omega⟩
  rw [bs.pl29,dF (by omega),cond_false]
  rw [gext hm (λa h=>hh a (by omega))]
 | succ n ih=>
  intro g m i hn hg hi hm hh
  obtain ⟨g,rfl⟩:∃ g',g=g'+1:=⟨g - 1,by omega⟩
  rw [bs.pl29,dT (by omega),cond_true,ixn (by omega),ixn (by omega),ws (by omega)]
  simp only [Option.bind_some]
  refine ih g _ (i+1) (by omega) (by omega) (by omega) (by simp only [List.length_set];exact hm) λa ha=>?_
  by_cases e:a=i
  ·subst e
   have h1:a<m.length:=by omega
   simp only [gset_eq,h1]
  ·simp only [gset_ne (Ne.symm e)];exact hh a (by omega)
theorem toBr {l:List Int} {c:Int} (hF:5000000<F) (hl:l.length<=2000000):bQ.p F c l=some (c,l):=by
 unfold bQ.p bs.p
 rw [mkn_of (by omega),Option.bind_some]
 have:=toInt_l (F:=F) hl l.length F (List.replicate l.length 0) 0 (by omega) (by omega) (by omega) (by simp) (λa h=>by omega)
 rw [show ((0:Nat):Int)=0 from rfl] at this
 rw [this];rfl
end Go.Proofs.Ytodfdhnlhiaohaa.AE.BB
end
section
namespace Go.Proofs.Ytodfdhnlhiaohaa.AE.BB
open Go Go.AE Go.Proofs
variable {F:Nat}
def ltr (s x:Int):Bool:=decide (x≠0/\1 - s<=x/\x<=s - 1)
theorem yD {s x:Int} (h1:1<=s) (h2:s<=6):cx.p F x s=some (ltr s x):=by
 unfold cx.p ltr
 rw [bp (by omega) (by omega),bp (by omega) (by omega),tp,Option.bind_some]
 by_cases h:x=0
 ·subst h;rfl
 ·rw [show (x != 0)=true by simpa using h,cond_true];congr 1;simp [h]
theorem yE {s x:Int} (h1:1<=s) (h2:s<=6):cQ.p F s x=some (ltr s x):=by
 unfold cQ.p ltr
 rw [bp (by omega) (by omega),bp (by omega) (by omega),tq,Option.bind_some]
 by_cases h:x=0
 ·subst h;rfl
 ·rw [show (x != 0)=true by simpa using h,cond_true];congr 1;simp [h]
theorem drop_gt {α:Type} [Inhabited α] {l:List α} {i:Nat} (h:i<l.length):l.drop i=gt l i::l.drop (i+1):=by
 rw [List.drop_eq_getElem_cons h];congr 1
 have:=gn h;rw [List.getElem?_eq_getElem h] at this;exact Option.some.inj this
theorem sval_l {s:Int} (h1:1<=s) (h2:s<=6) {W:List Int} (hW:W.length<=1000):∀ (m g i:Nat),W.length - i=m->m<g->i<=W.length ->
  aS.pl29 F g s W (i:Int)=some ((W.drop i).all (ltr s)):=by
 intro m
 induction m with
 | zero=>
  intro g i hm hg hi
  obtain ⟨g,rfl⟩:∃ g',g=g'+1:=⟨g - 1,by omega⟩
  rw [aS.pl29,dF (by omega),cond_false,List.drop_eq_nil_of_le (by omega)];rfl
 | succ m ih=>
  intro g i hm hg hi
  obtain ⟨g,rfl⟩:∃ g',g=g'+1:=⟨g - 1,by omega⟩
  rw [aS.pl29,dT (by omega),cond_true,ixn (by omega),Option.bind_some,yD h1 h2,Option.bind_some,drop_gt (by omega),List.all_cons,ws (by omega),ih g (i+1) (by omega) (by omega) (by omega)]
  cases ltr s (gt W i) <;> rfl
theorem ival_l {s:Int} (h1:1<=s) (h2:s<=6) {W:List Int} (hW:W.length<=1000):∀ (m g i:Nat),W.length - i=m->m<g->i<=W.length ->
  ∃ r,bc.pl13 F g W s (W.length:Int) (i:Int)=some r/\(!decide (r>=0))=(W.drop i).all (ltr s):=by
 intro m
 induction m with
 | zero=>
  intro g i hm hg hi
  obtain ⟨g,rfl⟩:∃ g',g=g'+1:=⟨g - 1,by omega⟩
  rw [bc.pl13,dF (by omega),cond_false,List.drop_eq_nil_of_le (by omega)];exact ⟨_,rfl,rfl⟩
 | succ m ih=>
  intro g i hm hg hi
  obtain ⟨g,rfl⟩:∃ g',g=g'+1:=⟨g - 1,by omega⟩
  rw [bc.pl13,dT (by omega),cond_true,ixn (by omega),Option.bind_some]
  unfold cH.p
  rw [yE h1 h2,Option.bind_some,Option.bind_some,drop_gt (by omega),List.all_cons,ws (by omega)]
  cases ltr s (gt W i)
  ·exact ⟨_,rfl,by simp⟩
  ·obtain ⟨r,e1,e2⟩:=ih g (i+1) (by omega) (by omega) (by omega)
   exact ⟨r,e1,by rw [e2];rfl⟩
def vb (s:Int) (W:List Int):Bool:=decide (1<=s/\s<=6)&&(decide (W.length<=24)&&W.all (ltr s))
theorem Am {s:Int} {W:List Int} (hF:1000<F):aS.p F s W=some (vb s W):=by
 unfold aS.p vb
 rw [tp,Option.bind_some]
 by_cases h:1<=s/\s<=6
 ·rw [decide_eq_true h,Bool.not_true,cond_false,Bool.true_and]
  by_cases h2:W.length<=24
  ·rw [decide_eq_false (show ¬ (W.length:Int)>24 by omega),cond_false,decide_eq_true h2,Bool.true_and]
   exact sval_l h.1 h.2 (by omega) W.length F 0 (by omega) (by omega) (by omega)
  ·rw [decide_eq_true (show (W.length:Int)>24 by omega),cond_true,decide_eq_false h2,Bool.false_and]
 ·rw [decide_eq_false h,Bool.not_false,cond_true,Bool.false_and]
theorem An {s:Int} {W:List Int} (hF:1000<F):cy.p F s W=some (vb s W):=by
 unfold cy.p vb
 rw [tq,Option.bind_some]
 by_cases h:1<=s/\s<=6
 ·rw [decide_eq_true h,cond_true,Bool.true_and]
  by_cases h2:W.length<=24
  ·rw [decide_eq_true (show (W.length:Int)<=24 by omega),cond_true,decide_eq_true h2,Bool.true_and]
   unfold cU.p bc.p
   obtain ⟨r,e1,e2⟩:=ival_l (F:=F) h.1 h.2 (W:=W) (by omega) W.length F 0 (by omega) (by omega) (by omega)
   rw [show ((0:Nat):Int)=0 from rfl] at e1
   rw [e1,Option.bind_some,Option.bind_some,e2,List.drop_zero]
  ·rw [decide_eq_false (show ¬ (W.length:Int)<=24 by omega),cond_false,decide_eq_false h2,Bool.false_and]
 ·rw [decide_eq_false h,cond_false,Bool.false_and]
theorem vb_of {s:Int} {W:List Int} (h:vb s W=true):1<=s/\s<=6/\W.length<=24/\∀ i:Nat,i<W.length->1<=(gt W i).natAbs/\((gt W i).natAbs:Int)<s:=by
 unfold vb at h
 simp only [Bool.and_eq_true,decide_eq_true_eq,List.all_eq_true] at h
 obtain ⟨⟨a,b⟩,c,d⟩:=h
 refine ⟨a,b,c,λi hi=>?_⟩
 have:=d (gt W i) (gmem hi)
 unfold ltr at this
 simp only [decide_eq_true_eq] at this
 omega
def ab (W:List Int) (k:Nat):Nat:=(gt W k).natAbs
def st (s:Nat) (W:List Int):Nat->List Int
 | 0=>List.replicate s (-1)
 | t+1=>((st s W t).set (ab W (t % W.length) - 1) ((2 * (t % W.length):Nat):Int)).set (ab W (t % W.length)) ((2 * (t % W.length)+1:Nat):Int)
theorem dV {s:Nat} {W:List Int} (t:Nat):(st s W t).length=s:=by
 induction t with
 | zero=>simp [st]
 | succ t ih=>simp [st,ih]
end Go.Proofs.Ytodfdhnlhiaohaa.AE.BB
end
section
namespace Go.Proofs.Ytodfdhnlhiaohaa.AE
open Go Go.AE Go.Proofs
variable {n F:Nat}
theorem ms_le (hn:n<=6):∀ (L:List Pm),oks n L->L.length<=24->ms n L<=L.length * (216 * 6 ^ 24)
 | [],_,_=>Nat.zero_le _
 | p::t,o,hl=>by
  rw [List.length_cons] at hl
  have h1:=ms_le hn t (λx hx=>o x (List.mem_cons_of_mem _ hx)) (by omega)
  have h2:sm p.f n<=n * (n * n):=su_le λx hx=>Nat.mul_le_mul (Nat.le_of_lt hx) (Nat.le_of_lt (o p List.mem_cons_self x hx).1)
  have h3:n * (n * n)<=6 * (6 * 6):=Nat.mul_le_mul hn (Nat.mul_le_mul hn hn)
  have h4:n ^ t.length<=6 ^ 24:=Nat.le_trans (Nat.pow_le_pow_left hn _) (Nat.pow_le_pow_right (by omega) (by omega))
  have h5:sm p.f n * n ^ t.length<=216 * 6 ^ 24:=Nat.mul_le_mul (by omega) h4
  rw [ms,List.length_cons,Nat.add_mul]
  omega
theorem tss_turn (hn:n<=1000) (hF:n<F):∀ (L:List Pm),oks n L->tss (aQ.p F) (L.map (Pl n))=some ((L.map (Pm.turn n)).map (Pl n))
 | [],_=>rfl
 | p::t,o=>by
  rw [List.map_cons,tss,yx hn hF (o p List.mem_cons_self),Option.bind_some,tss_turn hn hF t λx hx=>o x (List.mem_cons_of_mem _ hx)]
  rfl
theorem flips_l (hn:n<=1000) (hF:n<F) {pC} {w:List Int} {pw i x:Int}:∀ (B A:List Pm) (g:Nat),B.length<g->(A++B).length<=1000->oks n (A++B) ->
  ae.pl32093 F pC g w n pw ((A.map (Pm.turn n)++B).map (Pl n)) i x A.length=ae.pj13 F pC w n pw (((A++B).map (Pm.turn n)).map (Pl n)) i x:=by
 intro B
 induction B with
 | nil=>
  intro A g hg hl o
  obtain ⟨g,rfl⟩:∃ g',g=g'+1:=⟨g - 1,by omega⟩
  rw [ae.pl32093,decide_eq_false (by simp),cond_false,List.append_nil,List.append_nil]
 | cons p B ih=>
  intro A g hg hl o
  rw [List.length_cons] at hg
  obtain ⟨g,rfl⟩:∃ g',g=g'+1:=⟨g - 1,by omega⟩
  have e1:(A.map (Pm.turn n)++p::B).map (Pl n)=(A.map (Pm.turn n)).map (Pl n)++Pl n p::B.map (Pl n):=by rw [List.map_append,List.map_cons]
  have hA:A.length=((A.map (Pm.turn n)).map (Pl n)).length:=by rw [List.length_map,List.length_map]
  have hi:ix ((A.map (Pm.turn n)).map (Pl n)++Pl n p::B.map (Pl n)) (A.length:Int)=some A.length:=ix_of (by simp)
  have hg1:gt ((A.map (Pm.turn n)).map (Pl n)++Pl n p::B.map (Pl n)) A.length=Pl n p:=gt_of (get_mid1 hA)
  have hl2:A.length+(B.length+1)<=1000:=by rw [List.length_append,List.length_cons] at hl;exact hl
  have hw:IntKind.i64.wrap ((A.length:Int)+1)=(((A++[p]).length:Nat):Int):=by rw [bp (by omega) (by omega),List.length_append];simp
  rw [ae.pl32093,e1,decide_eq_true (by simp;omega),cond_true,hi,Option.bind_some,hg1,yy hn hF (o p (by simp)),Option.bind_some,Option.bind_some,Option.bind_some,set_mid1 hA,hw]
  have e2:(A.map (Pm.turn n)).map (Pl n)++Pl n (p.turn n)::B.map (Pl n)=(((A++[p]).map (Pm.turn n))++B).map (Pl n):=by simp
  have e3:A++p::B=(A++[p])++B:=by simp
  rw [e2,e3]
  exact ih (A++[p]) g (by omega) (by rw [<- e3];exact hl) (by rw [<- e3];exact o)
theorem apn_map {L:List Pm} {p:Pm} (hl:L.length<=1000):apn (L.map (Pl n)) [Pl n p]=some ((L++[p]).map (Pl n)):=by
 unfold apn
 rw [if_pos (by simp;omega),List.map_append];rfl
theorem oks_snoc {L:List Pm} {p:Pm} (o:oks n L) (o1:ok n p):oks n (L++[p]):=λx hx=>by
 rcases List.mem_append.1 hx with hx | hx
 ·exact o x hx
 ·rw [List.mem_singleton.1 hx];exact o1
theorem addt {L:List Pm} {p:Pm} {j:Nat} {k pw:Int} (hn:n<=1000) (hF:n<F) (o1:ok n p) (hj:j+1<n) (hk:k=(j:Int)+1\/k=-((j:Int)+1)) (hl:L.length<=1000) :
  jI (aD.p F) (ce.p F) (bu.p F) k pw (L.map (Pl n)) (Pl n p)=some (pw,(L++[p.po j]).map (Pl n)):=by
 unfold jI
 have ha:ce.p F k=some ((j:Int)+1):=by
  rw [yz (by omega) (by omega)]
  rcases hk with hk | hk
  ·rw [hk,if_neg (by omega)]
  ·rw [hk,if_pos (by omega),Int.neg_neg]
 rw [kI hn hF o1,Option.bind_some,ha,Option.bind_some,pM hn hj,Option.bind_some,kI hn hF (o1.inv.pr hj),Option.bind_some]
 have e:Pl n (p.inv.pr j).inv=Pl n (p.po j):=rfl
 rw [e,apn_map hl,Option.bind_some]
theorem adds_both (hn:n<=6) (hF:5000<F) {w:List Int} (hw24:w.length<=24) (hv:∀ x∈w,x≠0/\1 - (n:Int)<=x/\x<=(n:Int) - 1):∀ (t pre:List Int) (g:Nat) (L:List Pm) (pw:Int),w=pre++t->t.length<g->L.length=pre.length->oks n L ->
  ∃ M pw',gV (jJ (aH.p F) (aQ.p F) (bB.p F) (aD.p F) (ce.p F) (bu.p F) F n) t (pw,L.map (Pl n))=some (pw',M.map (Pl n)) /\
   ae.pl125 F g w n pw (L.map (Pl n)) pre.length=ae.pj10 F n pw' (M.map (Pl n))/\oks n M/\M.length<=24:=by
 intro t
 induction t with
 | nil=>
  intro pre g L pw e hg hL o
  obtain ⟨g,rfl⟩:∃ g',g=g'+1:=⟨g - 1,by omega⟩
  rw [List.append_nil] at e
  refine ⟨L,pw,rfl,?_,o,by rw [hL,<-e];exact hw24⟩
  rw [ae.pl125,decide_eq_false (by rw [e];omega),cond_false]
 | cons x t ih=>
  intro pre g L pw e hg hL o
  rw [List.length_cons] at hg
  obtain ⟨g,rfl⟩:∃ g',g=g'+1:=⟨g - 1,by omega⟩
  have hlen:w.length=pre.length+(t.length+1):=by rw [e,List.length_append,List.length_cons]
  have hi:ix w (pre.length:Int)=some pre.length:=ix_of (by omega)
  have hgt:gt w pre.length=x:=gt_of (by rw [e];exact get_mid1 rfl)
  have hws:IntKind.i64.wrap ((pre.length:Int)+1)=(((pre++[x]).length:Nat):Int):=by rw [bp (by omega) (by omega),List.length_append];simp
  obtain ⟨hx0,hx1,hx2⟩:=hv x (by rw [e];simp)
  rw [ae.pl125,decide_eq_true (by omega),cond_true,hi,Option.bind_some,hgt,gV,jJ,pO (by omega) (by omega),Option.bind_some]
  by_cases c:x>0
  ·obtain ⟨j,hj⟩:∃ j:Nat,x=(j:Int)+1:=⟨(x - 1).toNat,by omega⟩
   have hj1:j+1<n:=by omega
   rw [decide_eq_true c,cond_true,decide_eq_false (by omega),cond_false,addt (by omega) (by omega) ok_one hj1 (.inl hj) (by omega),Option.bind_some,tj (by omega) (by omega),Option.bind_some,hj,pN (by omega) (by omega) ok_one hj1,Option.bind_some,apn_map (by omega),Option.bind_some]
   unfold ae.pj11
   rw [hws]
   exact ih (pre++[x]) g (L++[Pm.one.po j]) pw (by rw [e];simp) (by omega) (by simp;omega) (oks_snoc o (ok_one.po hj1))
  ·obtain ⟨j,hj⟩:∃ j:Nat,x=-((j:Int)+1):=⟨(-x - 1).toNat,by omega⟩
   have hj1:j+1<n:=by omega
   have hrev:Pl n (Pm.rev n).inv=Pl n (Pm.rev n):=rfl
   have hot:oks n (L.map (Pm.turn n)):=λy hy=>by
    obtain ⟨z,hz,rfl⟩:=List.mem_map.1 hy;exact (o z hz).turn
   have hfl:=flips_l (F:=F) (pC:=ae.pl125 F g) (w:=w) (pw:=IntKind.i64.wrap (pw - 1)) (i:=pre.length) (x:=x) (n:=n) (by omega) (by omega) L [] F (by omega) (by simp;omega) o
   have hfl:ae.pl32093 F (ae.pl125 F g) F w n (IntKind.i64.wrap (pw - 1)) (L.map (Pl n)) pre.length x 0=ae.pj13 F (ae.pl125 F g) w n (IntKind.i64.wrap (pw - 1)) ((L.map (Pm.turn n)).map (Pl n)) pre.length x:=hfl
   rw [decide_eq_false (show ¬ x>0 by omega),cond_false,decide_eq_true (show x<0 by omega),cond_true,if_pos (by simp;omega),tss_turn (by omega) (by omega) L o,Option.bind_some,tn hn (by omega),Option.bind_some,kI (by omega) (by omega) ok_rev,Option.bind_some,hrev,addt (by omega) (by omega) ok_rev hj1 (.inr hj) (by simp;omega),Option.bind_some,hfl]
   unfold ae.pj13 ae.pj12
   rw [tl (by omega) (by omega),Option.bind_some,show IntKind.i64.wrap (0 - x)=(j:Int)+1 by rw [bp (by omega) (by omega)];omega,pN (by omega) (by omega) ok_rev hj1,Option.bind_some,apn_map (by simp;omega),Option.bind_some,hws]
   exact ih (pre++[x]) g (L.map (Pm.turn n)++[(Pm.rev n).po j]) (IntKind.i64.wrap (pw - 1)) (by rw [e];simp) (by omega) (by simp;omega) (oks_snoc hot (ok_rev.po hj1))
theorem form_both (hF:1000000000000000000000000000000<=F) {s:Int} {w:List Int} (hv:BB.vb s w=true) :
  ∃ pw out,bG.p F s w=some (pw,out)/\ae.p F s w=some (pw,out)/\out.length<=24/\∀ x∈out,x.length<=6:=by
 obtain ⟨h1,h2,h3,h4⟩:=BB.vb_of hv
 obtain ⟨n,rfl⟩:∃ n:Nat,s=(n:Int):=⟨s.toNat,by omega⟩
 have hn:n<=6:=by omega
 have hl:∀ x∈w,x≠0/\1 - (n:Int)<=x/\x<=(n:Int) - 1:=λx hx=>by
  obtain ⟨i,i1,i2⟩:=BB.mem_gt hx
  have:=h4 i i1
  rw [i2] at this
  omega
 obtain ⟨M,pw,e1,e2,o,hM⟩:=adds_both (F:=F) hn (by omega) h3 hl w [] F [] 0 rfl (by omega) rfl (λ_ h=>by cases h)
 have hms:=ms_le hn M o hM
 have hB:(216 * 6 ^ 24:Nat)=1023490369077469249536:=by decide
 rw [hB] at hms
 have hms2:ms n M<=24 * 1023490369077469249536:=Nat.le_trans hms (Nat.mul_le_mul_right _ hM)
 have hms3:ms n M * (M.length+2)<=(24 * 1023490369077469249536) * 26:=Nat.mul_le_mul hms2 (by omega)
 obtain ⟨A,a1,a2,a3,a4⟩:=fin_all (F:=F) hn (by omega) (by omega) (ms n M+1) (F - 1) M (by omega) (by omega) o (by omega)
 obtain ⟨B,b1,b2,b3⟩:=yC (F:=F) (n:=n) (L:=M) (by omega) (by omega) (by omega) (by omega) (by omega) o
 have hAB:A=B:=Sts.unique o a2 b2 a3.stuck b3.stuck
 subst hAB
 obtain ⟨pw',out,c1,c2,c3,c4⟩:=part_both (F:=F) (n:=n) (by omega) (by omega) (l:=A.map (Pl n)) (by simp;omega) (λx hx=>by obtain ⟨y,_,rfl⟩:=List.mem_map.1 hx;exact Pl_len) (A.map (Pl n)) [] pw [] F rfl (by simp;omega) (by simp) (λ_ h=>by cases h)
 refine ⟨pw',out,?_,?_,by have:(A.map (Pl n)).length<=24:=(by rw [List.length_map];omega);omega,λx hx=>by rw [c4 x hx];exact hn⟩
 ·unfold bG.p nfP
  have e1:gV (jJ (aH.p F) (aQ.p F) (bB.p F) (aD.p F) (ce.p F) (bu.p F) F n) w (0,[])=some (pw,M.map (Pl n)):=e1
  rw [if_pos (by omega),e1,Option.bind_some]
  unfold mV
  rw [a1,Option.bind_some,pO (by omega) (by omega),Option.bind_some,tn hn (by omega),Option.bind_some,if_pos (by rw [List.length_map];omega)]
  exact c1
 ·unfold ae.p
  have e2:ae.pl125 F F w n 0 [] 0=_:=e2
  rw [e2]
  unfold ae.pj10
  rw [b1,Option.bind_some]
  exact c2
end Go.Proofs.Ytodfdhnlhiaohaa.AE
end
section
namespace Go.Proofs.Ytodfdhnlhiaohaa.AE
open Go Go.AE Go.Proofs
variable {F:Nat}
theorem rows_drop {a b:List (List Int)} (hF:2000<F) (hl:a.length=b.length) (ha:a.length<=1000) (hx:∀ x∈a,x.length<=6):∀ (m g k:Nat),a.length - k=m->m<g->k<=a.length ->
  aW.pl29 F g a b k=some (decide (a.drop k=b.drop k))/\ba.pl29 F g b a a.length k=some (decide (a.drop k=b.drop k)):=by
 intro m
 induction m with
 | zero=>
  intro g k hm hg hk
  obtain ⟨g,rfl⟩:∃ g',g=g'+1:=⟨g - 1,by omega⟩
  rw [aW.pl29,ba.pl29,decide_eq_false (by omega),cond_false,cond_false,List.drop_eq_nil_of_le (by omega),List.drop_eq_nil_of_le (by omega)]
  exact ⟨rfl,rfl⟩
 | succ m ih=>
  intro g k hm hg hk
  obtain ⟨g,rfl⟩:∃ g',g=g'+1:=⟨g - 1,by omega⟩
  have h1:k<a.length:=by omega
  have h2:k<b.length:=by omega
  have hxa:a[k].length<=6:=hx _ (List.getElem_mem _)
  have hw:IntKind.i64.wrap ((k:Int)+1)=((k+1:Nat):Int):=by rw [bp (by omega) (by omega)];omega
  have hd:(a.drop k=b.drop k)↔(a[k]=b[k]/\a.drop (k+1)=b.drop (k+1)):=by rw [List.drop_eq_getElem_cons h1,List.drop_eq_getElem_cons h2,List.cons.injEq]
  rw [aW.pl29,ba.pl29,decide_eq_true (by omega),cond_true,cond_true,ix_of h1,ix_of h2,Option.bind_some,Option.bind_some,Option.bind_some,Option.bind_some,gt_of (List.getElem?_eq_getElem h1),gt_of (List.getElem?_eq_getElem h2),hw,pP (by omega) (by omega),pQ (by omega) (by omega),Option.bind_some,Option.bind_some]
  by_cases e:a[k]=b[k]
  ·have hd2:(a.drop k=b.drop k)↔(a.drop (k+1)=b.drop (k+1)):=hd.trans ⟨λh=>h.2,λh=>⟨e,h⟩⟩
   obtain ⟨q1,q2⟩:=ih g (k+1) (by omega) (by omega) (by omega)
   rw [decide_eq_true e,Bool.not_true,cond_false,cond_false,q1,q2,decide_eq_decide.2 hd2]
   exact ⟨rfl,rfl⟩
  ·rw [decide_eq_false e,Bool.not_false,cond_true,cond_true,decide_eq_false λh=>e (hd.1 h).1]
   exact ⟨rfl,rfl⟩
theorem yF {pw pw':Int} {a b:List (List Int)} (hF:2000<F) (ha:a.length<=1000) (hx:∀ x∈a,x.length<=6):aW.p F pw a pw' b=some (decide (pw=pw'/\a=b)):=by
 unfold aW.p
 by_cases hp:pw=pw'
 ·rw [hp,bne_self_eq_false,cond_false]
  by_cases hl:a.length=b.length
  ·rw [hl,bne_self_eq_false,cond_false]
   have:=(rows_drop (F:=F) hF hl ha hx a.length F 0 (by omega) (by omega) (by omega)).1
   have this:aW.pl29 F F a b 0=some (decide (a=b)):=this
   rw [this]
   congr 1
   exact decide_eq_decide.2 ⟨λh=>⟨rfl,h⟩,λh=>h.2⟩
  ·rw [show ((a.length:Int) != (b.length:Int))=true from bne_iff_ne.2 (by omega),cond_true,decide_eq_false λh=>hl (by rw [h.2])]
 ·rw [show (pw != pw')=true from bne_iff_ne.2 hp,cond_true,decide_eq_false λh=>hp h.1]
theorem yG {a b:List (List Int)} (hF:2000<F) (ha:a.length<=1000) (hx:∀ x∈a,x.length<=6):ba.p F a b=some (decide (a=b)):=by
 unfold ba.p
 by_cases hl:a.length=b.length
 ·rw [show ((a.length:Int) != (b.length:Int))=false from by rw [hl,bne_self_eq_false],cond_false]
  exact (rows_drop (F:=F) hF hl ha hx a.length F 0 (by omega) (by omega) (by omega)).2
 ·rw [show ((a.length:Int) != (b.length:Int))=true from bne_iff_ne.2 (by omega),cond_true,decide_eq_false λh=>hl (by rw [h])]
theorem same_both (hF:1000000000000000000000000000000<=F) {s t:Int} {v w:List Int}:∃ b,cl.p F s v t w=some b/\ck.p F s v t w=some b:=by
 unfold cl.p ck.p
 rw [BB.An (by omega),BB.Am (by omega),BB.An (by omega),BB.Am (by omega),Option.bind_some,Option.bind_some]
 cases hv:BB.vb s v with
 | false=>exact ⟨false,rfl,rfl⟩
 | true=>
  simp only [Bool.not_true,cond_false,cond_true,Option.bind_some]
  cases hw:BB.vb t w with
  | false=>exact ⟨false,rfl,rfl⟩
  | true=>
   simp only [Bool.not_true,cond_false,cond_true]
   by_cases e:s=t
   ·subst e
    obtain ⟨p1,o1,e1,e2,h1,h2⟩:=form_both hF hv
    obtain ⟨p2,o2,e3,e4,h3,h4⟩:=form_both hF hw
    rw [bne_self_eq_false,cond_false,beq_self_eq_true,cond_true,e1,e2,e3,e4]
    simp only [Option.bind_some]
    rw [yG (by omega) (by omega) h2,yF (by omega) (by omega) h2,Option.bind_some,Option.bind_some]
    refine ⟨_,?_,rfl⟩
    by_cases c:p1=p2
    ·subst c
     rw [beq_self_eq_true,cond_true]
     congr 1
     exact decide_eq_decide.2 ⟨λh=>⟨rfl,h⟩,λh=>h.2⟩
    ·rw [show (p1==p2)=false from beq_false_of_ne c,cond_false,decide_eq_false λh=>c h.1]
   ·rw [show (s != t)=true from bne_iff_ne.2 e,cond_true,show (s==t)=false from beq_false_of_ne e,cond_false]
    exact ⟨false,rfl,rfl⟩
theorem szB {l:List Int} {k:Int} (hk0:0<=k) (hk:k<=1048576) (hm:l.length<=9223372036854775807):∃ r,cj.p F l k=some r/\(¬ r<0->l.length<=2000000/\0<=r/\r<=1048576):=by
 unfold cj.p du.p
 rw [bp (by omega) (by omega)]
 by_cases h:k - l.length<0
 ·rw [decide_eq_true h,cond_true]
  exact ⟨-1,rfl,λh=>absurd (by decide) h⟩
 ·rw [decide_eq_false h,cond_false,Option.bind_some,decide_eq_false h,cond_false]
  exact ⟨_,rfl,λ_=>by omega⟩
theorem FnExactSameBraid_pure:∀ (aa:Int) (az:List Int) (ak:Int) (bK:List Int),(Lit.int .i64 aa).wf=true->az.length<=maxLen->(∀ x∈az,(Lit.int .i64 x).wf=true)->(Lit.int .i64 ak).wf=true->bK.length<=maxLen->(∀ x∈bK,(Lit.int .i64 x).wf=true)->∃ F,ch.p F aa az ak bK=some true:=by
 intro s v t w _ hm _ _ hm' _
 obtain ⟨F,hF⟩:∃ F:Nat,F=1000000000000000000000000000000:=⟨_,rfl⟩
 refine ⟨F,?_⟩
 unfold ch.p
 obtain ⟨r,e,hr⟩:=szB (F:=F) (l:=v) (k:=1048576) (by omega) (by omega) (by have:=BB.maxLen_le;omega)
 rw [e,Option.bind_some]
 by_cases h:r<0
 ·rw [decide_eq_true h,cond_true]
 obtain ⟨hl,hr0,hr1⟩:=hr h
 rw [decide_eq_false h,cond_false]
 obtain ⟨r',e',hr'⟩:=szB (F:=F) (l:=w) (k:=r) (by omega) (by omega) (by have:=BB.maxLen_le;omega)
 rw [e',Option.bind_some]
 by_cases h':r'<0
 ·rw [decide_eq_true h',cond_true]
 obtain ⟨hl',_,_⟩:=hr' h'
 rw [decide_eq_false h',cond_false]
 have hF5:5000000<F:=by omega
 obtain ⟨b,e1,e2⟩:=same_both (F:=F) (by omega) (s:=s) (t:=t) (v:=v) (w:=w)
 have eb:∀ (s:Int) (w:List Int),w.length<=2000000->cA.p F s w s w=some true:=λs w hW=>by
  unfold cA.p;rw [bne_self_eq_false,cond_false,BB.eqInt hF5 hW];rfl
 simp only [BB.toBr hF5 hl,BB.toBr hF5 hl',Option.bind_some,e1,e2,eb s v hl,eb t w hl',Bool.not_true,cond_false,beq_self_eq_true]
end Go.Proofs.Ytodfdhnlhiaohaa.AE
end
