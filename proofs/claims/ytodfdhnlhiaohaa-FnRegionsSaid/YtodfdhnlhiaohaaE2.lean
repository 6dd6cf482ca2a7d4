import Derived.Test.YtodfdhnlhiaohaaE1
import Derived.Below
import Derived.Deep.Slices
import Derived.Lib.SmallJoins
import Derived.WideShapes
import Derived.Maps.OwnSet
import Derived.Maps.AppendAt
import Derived.WalkKit
set_option linter.unusedVariables false
set_option linter.unusedSimpArgs false
section
namespace Go.AE
variable {P:Program} {R:Type}
noncomputable instance decCons (H H':Hp):Decidable (aO H H'):=Classical.propDecidable _
def Hp.new (H:Hp) (cells:List AV):Option Hp:=some (H++[⟨cells,true,true⟩])
def bp (l:List (FuncId×(List AV->Hp->OA))):Orc R:=λf args H K=>((l.find? λp=>p.1==f).bind λp=>p.2 args H).bind λr=>K r.1 r.2
theorem XF {l:List (FuncId×(List AV->Hp->OA))} (h:∀ p∈l,∀ args H v H',p.2 args H=some (v,H')->T P p.1 args H v H'):COk P (bp l:Orc R):=by
 intro f args H K r hr
 unfold bp at hr
 obtain ⟨q,h1,h2⟩:=af hr
 obtain ⟨p,h3,h4⟩:=af h1
 have h5:=List.find?_some h3
 have h6:=List.mem_of_find?_eq_some h3
 simp at h5
 subst h5
 exact ⟨q.1,q.2,h p h6 args H q.1 q.2 h4,h2⟩
section
variable {Y:Tabs} {C:Orc R} {PN:Nat->List Nat} {LH:Nat->List Nat->Nat->Tm->Hp->Option R} {F:Nat}
def h_:Code->Bool
 | .seq a b=>h_ a&&h_ b
 | .cond _ a b=>h_ a&&h_ b
 | .block _ b=>h_ b
 | .loop _=>false
 | _=>true
theorem wR:∀ {c:Code} {ks:List Nat} {p:Nat} {Kn:Tm->Hp->Option R} {Kx:Nat->Tm->Hp->Option R} {Kr:Tm->Hp->Option R},h_ c=true->ae Y C PN LH F ks p c Kn Kx Kr:=by
 intro c
 induction c with
 | seq a b iha ihb=>intro ks p Kn Kx Kr h;simp only [h_,Bool.and_eq_true] at h;exact ⟨iha h.1,ihb h.2⟩
 | cond c a b iha ihb=>intro ks p Kn Kx Kr h;simp only [h_,Bool.and_eq_true] at h;exact ⟨iha h.1,ihb h.2⟩
 | block id b ih=>intro ks p Kn Kx Kr h;exact ih h
 | loop b ih=>intro ks p Kn Kx Kr h;cases h
 | _=>intros;trivial
theorem ae.seq {ks:List Nat} {p:Nat} {a b:Code} {Kn:Tm->Hp->Option R} {Kx:Nat->Tm->Hp->Option R} {Kr:Tm->Hp->Option R}
  (h1:ae Y C PN LH F ks (2 * p) a (λtm H=>bX Y C PN LH F ks (2 * p+1) b tm H Kn Kx Kr) Kx Kr) (h2:ae Y C PN LH F ks (2 * p+1) b Kn Kx Kr):ae Y C PN LH F ks p (.seq a b) Kn Kx Kr:=⟨h1,h2⟩
theorem ae.cond {ks:List Nat} {p:Nat} {c:Operand} {a b:Code} {Kn:Tm->Hp->Option R} {Kx:Nat->Tm->Hp->Option R} {Kr:Tm->Hp->Option R}
  (h1:ae Y C PN LH F ks (2 * p) a Kn Kx Kr) (h2:ae Y C PN LH F ks (2 * p+1) b Kn Kx Kr):ae Y C PN LH F ks p (.cond c a b) Kn Kx Kr:=⟨h1,h2⟩
theorem ae.block {ks:List Nat} {p id:Nat} {b:Code} {Kn:Tm->Hp->Option R} {Kx:Nat->Tm->Hp->Option R} {Kr:Tm->Hp->Option R}
  (h:ae Y C PN LH F ks p b Kn (λj tm H=>bif j.beq id then Kn tm H else Kx j tm H) Kr):ae Y C PN LH F ks p (.block id b) Kn Kx Kr:=h
theorem ae.loop {ks:List Nat} {p:Nat} {b:Code} {Kn:Tm->Hp->Option R} {Kx:Nat->Tm->Hp->Option R} {Kr:Tm->Hp->Option R} (h0:∀ tm H,LH p ks 0 tm H=none)
  (h1:∀ k tm H r,LH p ks (k+1) tm H=some r->bX Y C PN LH F (k::ks) (2 * p) b tm H (LH p ks k) Kx Kr=some r)
  (h2:∀ k,ae Y C PN LH F (k::ks) (2 * p) b (LH p ks k) Kx Kr):ae Y C PN LH F ks p (.loop b) Kn Kx Kr:=⟨h0,λk=>⟨h1 k,h2 k⟩⟩
end
theorem XG {α:Type} {x:Option α} (h:∀ r,x=some r->False):x=none:=by
 cases x with
 | none=>rfl
 | some r=>exact absurd rfl (λe=>h r e)
section
variable {Y:Tabs} {C:Orc R} {PN:Nat->List Nat} {LH:Nat->List Nat->Nat->Tm->Hp->Option R} {F:Nat} {ks:List Nat} {p:Nat} {a b:Code} {Kn:Tm->Hp->Option R} {Kx:Nat->Tm->Hp->Option R} {Kr:Tm->Hp->Option R}
theorem ae.rt (h2:ae Y C PN LH F ks (2 * p+1) b Kn Kx Kr) (h:h_ a=true:=by kernel_rfl):ae Y C PN LH F ks p (.seq a b) Kn Kx Kr:=⟨wR h,h2⟩
theorem ae.lt (h1:ae Y C PN LH F ks (2 * p) a (λtm H=>bX Y C PN LH F ks (2 * p+1) b tm H Kn Kx Kr) Kx Kr) (h:h_ b=true:=by kernel_rfl):ae Y C PN LH F ks p (.seq a b) Kn Kx Kr:=⟨h1,wR h⟩
theorem ae.no (h:h_ a=true:=by kernel_rfl):ae Y C PN LH F ks p a Kn Kx Kr:=wR h
end
theorem ae.la {R:Type} {Y:Tabs} {C:Orc R} {PN:Nat->List Nat} {LH:Nat->List Nat->Nat->Tm->Hp->Option R} {F:Nat} {ks:List Nat} {p:Nat} {b:Code} {Kn:Tm->Hp->Option R} {Kx:Nat->Tm->Hp->Option R} {Kr:Tm->Hp->Option R}
  (h:∀ n tm H r,LH p ks n tm H=some r->∃ k,n=k+1/\bX Y C PN LH F (k::ks) (2 * p) b tm H (LH p ks k) Kx Kr=some r)
  (h2:∀ k,ae Y C PN LH F (k::ks) (2 * p) b (LH p ks k) Kx Kr):ae Y C PN LH F ks p (.loop b) Kn Kx Kr:=
 ae.loop (λtm H=>XG λr e=>by obtain ⟨k,q,_⟩:=h 0 tm H r e;cases q) (λk tm H r e=>by obtain ⟨k',q,g⟩:=h (k+1) tm H r e;cases q;exact g) h2
def bW (tm:Tm):List (Nat×AV)->Prop
 | []=>True
 | p::l=>tm p.1=p.2/\bW tm l
def FI (tm:Tm):List (Nat×AV)->Tm
 | []=>tm
 | p::l=>Tm.put (FI tm l) p.1 p.2
theorem ca {tm:Tm}:∀ {l:List (Nat×AV)},bW tm l->FI tm l=tm
 | [],_=>rfl
 | p::l,h=>by rw [FI,ca h.2];exact Tm.put_same h.1
section
variable {Y:Tabs} {PN:Nat->List Nat} {LH:Nat->List Nat->Nat->Tm->Hp->OA} {TB:Nat->List (List Nat)} {F:Nat}
noncomputable def kk (Y:Tabs) (fn:Func) (tm:Tm) (H:Hp):OA:=jR Y.ty H tm fn.results.toList λv=>some (v,H)
def nox (_:Nat) (_:Tm) (_:Hp):OA:=none
noncomputable def lh0 (_:Nat) (_:List Nat) (_:Nat) (_:Tm) (_:Hp):OA:=none
def bm {α:Type} (_:Nat):List α:=[]
def cT {α:Type} (l:List (Nat×List α)) (i:Nat):List α:=(l.lookup i).getD []
def LOk (Y:Tabs) (C:Orc (AV×Hp)) (PN:Nat->List Nat) (LH:Nat->List Nat->Nat->Tm->Hp->OA) (F:Nat) (fn:Func):Prop:=ae Y C PN LH F [] 1 (fn.body.getD .skip) (kk Y fn) nox (kk Y fn)
noncomputable def EXe (Y:Tabs) (C:Orc (AV×Hp)) (PN:Nat->List Nat) (LH:Nat->List Nat->Nat->Tm->Hp->OA) (F:Nat) (fn:Func) (args:List AV) (H:Hp):OA:=bX Y C PN LH F [] 1 (fn.body.getD .skip) (jS args) H (kk Y fn) nox (kk Y fn)
def wQ (PN : Nat → List Nat) (TB : Nat → List (List Nat)) (fn : Func) (m : Nat) : Bool := fn.body.isSome && ((!(fn.name == "runtime.NumGoroutine")) && (fT PN fn.ntmps TB (fn.body.getD .skip) && Nat.ble m fn.ntmps))
def Ok (P:Program) (n:FuncId) (g:List AV->Hp->OA):Prop:=∀ args H v H',g args H=some (v,H')->T P n args H v H'
abbrev Cs:=List (FuncId×(List AV->Hp->OA))
theorem cj:∀ p∈([]:Cs),Ok P p.1 p.2:=λp h=>by cases h
theorem aX {n:FuncId} {g:List AV->Hp->OA} {l:Cs} (h:Ok P n g) (t:∀ p∈l,Ok P p.1 p.2):∀ p∈(n,g)::l,Ok P p.1 p.2:=λp hp=>by
 rcases List.mem_cons.1 hp with rfl | hp
 ·exact h
 ·exact t p hp
theorem T.of2 {fn:Func} {n:FuncId} {cs:Cs} {args:List AV} {H:Hp} {v:AV} {H':Hp} (hm:P.follows .mixedOrders=true) (hX:bU P Y.ty) (hcs:∀ p∈cs,Ok P p.1 p.2) (hf:P.funcs[n]?=some fn) (hl:LOk Y (bp cs) PN LH F fn)
  (h:EXe Y (bp cs) PN LH F fn args H=some (v,H')) (hk:wQ PN TB fn args.length=true):T P n args H v H':=by
 unfold wQ at hk
 simp only [Bool.and_eq_true,Bool.not_eq_true'] at hk
 obtain ⟨h1,h2,h3,h4⟩:=hk
 obtain ⟨code,hb⟩:=Option.isSome_iff_exists.1 h1
 have e:fn.body.getD .skip=code:=by rw [hb];rfl
 unfold LOk at hl
 unfold EXe at h
 rw [e] at hl h h3
 exact T.of (Y:=Y) (C:=bp cs) (PN:=PN) (LH:=LH) (F:=F) (TB:=TB) (fn:=fn) (code:=code) hm hX (XF hcs) hf h2 hb h3 (Nat.le_of_ble_eq_true h4) hl h
end
end Go.AE
end
section
namespace Go.AE
open Go.RowKit
variable {P:Program}
def RoH (H:Hp):Prop:=∀ (b:Nat) (blk:Blk),H[b]?=some blk->blk.own=false/\blk.live=true
structure Ro (Φ:Phi) (H:Hp) (w:World):Prop where
 ro:RoH H
 rel:Rel Φ (·<H.length) H w
theorem RoH.snoc {H:Hp} (h:RoH H) (cells:List AV):RoH (H++[⟨cells,false,true⟩]):=by
 intro b blk hb
 rcases Nat.lt_or_ge b H.length with h1 | h1
 ·rw [List.getElem?_append_left h1] at hb;exact h b blk hb
 ·rw [List.getElem?_append_right h1] at hb
  have:blk=⟨cells,false,true⟩:=by
   cases e:b - H.length with
   | zero=>rw [e] at hb;simpa using hb.symm
   | succ n=>rw [e] at hb;simp at hb
  subst this;exact ⟨rfl,rfl⟩
theorem Ro.nil (Φ:Phi) (w:World):Ro Φ [] w:=
 ⟨λb blk h=>by simp at h,⟨λb h=>h,λb blk h=>absurd h (Nat.not_lt_zero _),λb blk h=>absurd h (Nat.not_lt_zero _),λb blk h=>absurd h (Nat.not_lt_zero _),λb blk b' blk' h=>absurd h (Nat.not_lt_zero _),λb blk b' blk' h=>absurd h (Nat.not_lt_zero _)⟩⟩
theorem Ro.snoc {Φ:Phi} {H:Hp} {w:World} (h:Ro Φ H w) (B O K:Nat) (cells:List AV) (hok:∀ v∈cells,v.ok Φ (·<H.length)/\v.isCell=true)
  (hc:∀ i v,cells[i]?=some v->w.cell? ⟨B,O+i,none⟩=some (v.toV Φ)):Ro (Φ.put H.length B O K) (H++[⟨cells,false,true⟩]) w:=by
 have hag:Φ.agree (Φ.put H.length B O K) (·<H.length):=Phi.put_agree (by simp)
 have hlen:∀ b,b<H.length->b<(H++[(⟨cells,false,true⟩:Blk)]).length:=λb hb=>by simp;omega
 have up:∀ v:AV,v.ok Φ (·<H.length)->v.ok (Φ.put H.length B O K) (·<(H++[(⟨cells,false,true⟩:Blk)]).length)/\v.toV (Φ.put H.length B O K)=v.toV Φ:=λv hv=>
  ⟨AV.ok_agree hag hlen _ hv,(AV.toV_agree hag _ (AV.ok_inS _ hv))⟩
 have hro:=h.ro.snoc cells
 have noown:∀ (b:Nat) (blk:Blk),(H++[(⟨cells,false,true⟩:Blk)])[b]?=some blk->blk.own=true->False:=λb blk hb ho=>by
  have:=(hro b blk hb).1;rw [this] at ho;cases ho
 refine ⟨hro,⟨λb hb=>hb,λb blk hb hx hl v hv=>?_,λb blk hb hx hl i v hv=>?_,λb blk hb hx hl ho=>(noown b blk hx ho).elim,λb blk b' blk' hb hb' hx hx' hl hl' ho=>(noown b blk hx ho).elim,λb blk b' blk' hb hb' hx hx' hl hl' ho=>(noown b blk hx ho).elim⟩⟩
 ·rcases Nat.lt_or_ge b H.length with h1 | h1
  ·rw [List.getElem?_append_left h1] at hx
   obtain ⟨c1,c2⟩:=h.rel.closed b blk h1 hx hl v hv
   exact ⟨(up v c1).1,c2⟩
  ·rw [List.getElem?_append_right h1] at hx
   have hb0:b - H.length=0:=by simp at hb;omega
   rw [hb0] at hx
   simp at hx;subst hx
   exact ⟨(up v (hok v hv).1).1,(hok v hv).2⟩
 ·rcases Nat.lt_or_ge b H.length with h1 | h1
  ·rw [List.getElem?_append_left h1] at hx
   have c1:=(h.rel.closed b blk h1 hx hl v (List.mem_of_getElem? hv)).1
   rw [(up v c1).2]
   have:=h.rel.cell b blk h1 hx hl i v hv
   obtain ⟨a1,a2,a3⟩:=hag b h1
   rw [a1,a2];exact this
  ·rw [List.getElem?_append_right h1] at hx
   have hb0:b - H.length=0:=by simp at hb;omega
   have hbe:b=H.length:=by simp at hb;omega
   rw [hb0] at hx
   simp at hx;subst hx
   have c1:=(hok v (List.mem_of_getElem? hv)).1
   rw [(up v c1).2,hbe,Phi.put_b,Phi.put_o]
   exact hc i v hv
theorem Ro.wf {Φ:Phi} {H:Hp} {w:World} (h:Ro Φ H w):WF H:=λb blk hb hl v hv=>
 AV.ok_inS _ (h.rel.closed b blk (List.getElem?_eq_some_iff.1 hb).1 hb hl v hv).1
theorem Ro.noown {Φ:Phi} {H:Hp} {w:World} (h:Ro Φ H w) {S:Nat->Prop} (k:Nat):¬ Own Φ S H k:=λ⟨b,blk,_,hb,ho,_⟩=>by
 have:=(h.ro b blk hb).1;rw [this] at ho;cases ho
theorem T.calls {f:FuncId} {args:List AV} {H H':Hp} {v:AV} {Φ:Phi} {w:World} (t:T P f args H v H') (h:Ro Φ H w) (ha:∀ a∈args,a.ok Φ (·<H.length)) :
  Calls P f (AV.toVs Φ args).toArray w λe w'=>∃ Φ',e=.returned (v.toV Φ')/\Below w.heap.size w w'/\Rel Φ' (·<H'.length) H' w'/\v.ok Φ' (·<H'.length) /\
   (∀ k,k<w.heap.size->¬ Own Φ' (·<H'.length) H' k):=by
 refine (t.run h.wf Φ _ w h.rel ha).mono λe w' ⟨Φ',he,hp,hv⟩=>?_
 have hext:ext (·<H.length) H H'=(·<H'.length):=by
  funext b;simp only [ext];apply propext
  have:=hp.len
  constructor
  ·rintro (q | q) <;> omega
  ·intro q
   by_cases c:b<H.length
   ·exact .inl c
   ·exact .inr ⟨by omega,q⟩
 have hrel:=hp.rel
 rw [hext] at hrel hv
 refine ⟨Φ',he,⟨hp.os,hp.tape,hp.output,hp.size,λk hk=>hp.frame k hk (h.noown k)⟩,hrel,hv,λk hk ho=>?_⟩
 rw [<- hext] at ho
 exact h.noown k (hp.own k hk ho)
theorem Ro.ints {Φ:Phi} {H:Hp} {w:World} (h:Ro Φ H w) (B O:Nat) (k:IntKind) (l:List Int) (hc:∀ i x,l[i]?=some x->w.cell? ⟨B,O+i,none⟩=some (.int k x)) :
  Ro (Φ.put H.length B O 0) (H++[⟨l.map (AV.int k),false,true⟩]) w:=
 h.snoc B O 0 _ (λv hv=>by obtain ⟨x,_,rfl⟩:=List.mem_map.1 hv;simp [AV.ok,AV.isCell]) (λi v hv=>by
  rw [List.getElem?_map] at hv
  obtain ⟨x,hx,rfl⟩:=Option.map_eq_some_iff.1 hv
  exact hc i x hx)
end Go.AE
end
section
namespace Go.AE
open Go.RowKit
theorem bo {x:Int} (h0:-9223372036854775808<=x) (h1:x<=9223372036854775807):IntKind.i64.wrap x=x:=by
 simp only [IntKind.wrap,IntKind.signed,IntKind.bits]
 simp
 omega
end Go.AE
end
section
namespace Go.AE
def At (H:Hp) (b:Nat) (cells:List AV):Prop:=H[b]?=some ⟨cells,true,true⟩
def dd (B:Nat->Prop) (H H':Hp):Prop:=H.length<=H'.length/\∀ b,b<H.length->¬ B b->H'[b]?=H[b]?
theorem dd.refl (B:Nat->Prop) (H:Hp):dd B H H:=⟨Nat.le_refl _,λ_ _ _=>rfl⟩
theorem dd.trans {B:Nat->Prop} {H H' H'':Hp} (h:dd B H H') (h':dd B H' H''):dd B H H'':=
 ⟨Nat.le_trans h.1 h'.1,λb hb hn=>(h'.2 b (Nat.lt_of_lt_of_le hb h.1) hn).trans (h.2 b hb hn)⟩
theorem dd.mono {B B':Nat->Prop} {H H':Hp} (h:dd B H H') (hB:∀ b,B b->B' b):dd B' H H':=⟨h.1,λb hb hn=>h.2 b hb (λq=>hn (hB b q))⟩
theorem dd.push (B:Nat->Prop) (H l:Hp):dd B H (H++l):=⟨by simp,λb hb _=>by rw [List.getElem?_append_left hb]⟩
theorem dd.pre {B:Nat->Prop} {H H':Hp} (h:H <+: H'):dd B H H':=by obtain ⟨l,rfl⟩:=h;exact dd.push B H l
theorem dd.set (H:Hp) (b:Nat) (x:Blk):dd (·=b) H (H.set b x):=⟨by simp,λc _ hn=>by rw [List.getElem?_set_ne (λq=>hn q.symm)]⟩
theorem At.lt {H:Hp} {b:Nat} {cells:List AV} (h:At H b cells):b<H.length:=(List.getElem?_eq_some_iff.1 h).1
theorem At.keep {B:Nat->Prop} {H H':Hp} {b:Nat} {cells:List AV} (h:At H b cells) (hk:dd B H H') (hb:¬ B b):At H' b cells:=(hk.2 b h.lt hb).trans h
theorem At.new (H:Hp) (cells:List AV):At (H++[⟨cells,true,true⟩]) H.length cells:=by unfold At;simp
theorem At.cell {H:Hp} {b:Nat} {cells:List AV} (h:At H b cells) (o:Nat):H.cell b o=cells[o]?:=by unfold Hp.cell;rw [h];rfl
theorem At.ldI {H:Hp} {b:Nat} {cells:List AV} (h:At H b cells) {k:IntKind} {o:Nat} {n:Int} (hc:cells[o]?=some (.int k n)):H.ldI k b o=some n:=by
 unfold Hp.ldI;rw [h.cell,hc];simp [AV.asI]
theorem At.ldB {H:Hp} {b:Nat} {cells:List AV} (h:At H b cells) {o:Nat} {n:Bool} (hc:cells[o]?=some (.bool n)):H.ldB b o=some n:=by
 unfold Hp.ldB;rw [h.cell,hc];simp [AV.asB]
theorem At.ldSl {H:Hp} {b:Nat} {cells:List AV} (h:At H b cells) {o:Nat} {s:Sl} (hc:cells[o]?=some (.sl s)):H.ldSl b o=some s:=by
 unfold Hp.ldSl;rw [h.cell,hc];simp [AV.asSl]
theorem At.st {H:Hp} {b:Nat} {cells:List AV} (h:At H b cells) {o:Nat} {v:AV} (ho:o<cells.length) (hv:v.isCell=true) :
  H.st b o v=some (H.set b ⟨cells.set o v,true,true⟩)/\At (H.set b ⟨cells.set o v,true,true⟩) b (cells.set o v):=by
 constructor
 ·unfold Hp.st;rw [h];simp [hv,ho]
 ·unfold At;rw [List.getElem?_set_self h.lt]
theorem Hp.kill_keep (H:Hp) (b:Nat):dd (·=b) H (H.kill b):=by
 unfold Hp.kill
 split
 ·exact dd.set H b _
 ·exact dd.refl _ _
end Go.AE
end
section
namespace Go.AE
structure Ow where
 t:Bool
 s:Sl
 z:Nat
 pre:List AV
 cells:List AV
 rest:List AV
inductive Rs where
 | blk (b:Nat) (cells:List AV)
 | ow (t:Bool) (s:Sl) (z:Nat) (pre cells rest:List AV)
 | many (l:List Ow)
abbrev Rs.own (s:Sl) (z:Nat) (cells:List AV):Rs:=.ow true s z [] cells []
def lvs (t:Bool) (s:Sl):Bool:=match t with | true=>decide (s.c≠.ex 0) | false=>decide (s.n≠0)
def dI (t:Bool) (s:Sl):Option Nat:=if lvs t s=true then s.a.map (·.1) else none
theorem jT {t:Bool} {s:Sl} (h:lvs t s=true):dI t s=s.a.map (·.1):=if_pos h
theorem lj {t:Bool} {s:Sl} {b:Nat} (h:dI t s=some b):lvs t s=true/\s.a.map (·.1)=some b:=by
 unfold dI at h
 split at h
 ·exact ⟨by assumption,h⟩
 ·cases h
def Rs.has:Rs->Nat->Prop
 | .blk b _,c=>b=c
 | .ow t s _ _ _ _,c=>dI t s=some c
 | .many l,c=>∃ q∈l,dI q.t q.s=some c
def Sl.fits (s:Sl) (z:Nat):Prop:=match s.c with | .ex c=>s.n<=c | .full z'=>z'=z/\s.a.isSome=true | .tip z' _=>z'=z/\s.a.isSome=true/\s.n=0
def owk (H:Hp) (t:Bool) (s:Sl) (z:Nat) (pre cells rest:List AV):Prop:=cells.length=s.n * z/\0<z/\(lvs t s=false->s.n=0)/\(lvs t s=true->∃ p,s.a=some p/\s.ad=s.a/\p.2=pre.length/\At H p.1 (pre++cells++rest))/\s.fits z/\(t=true->pre=[]/\rest=[]/\(lvs true s=true->s.c=.full z\/s.c=.ex s.n))
def Rs.ok (H:Hp):Rs->Prop
 | .blk b cells=>At H b cells
 | .ow t s z pre cells rest=>owk H t s z pre cells rest
 | .many l=>(∀ q∈l,owk H q.t q.s q.z q.pre q.cells q.rest)/\∀ (i j:Nat) (q q':Ow),l[i]?=some q->l[j]?=some q'->i≠j->∀ b,dI q.t q.s=some b->dI q'.t q'.s≠some b
def inK (R:List Rs) (b:Nat):Prop:=∃ r∈R,r.has b
structure W (H:Hp) (R:List Rs):Prop where
 ok:∀ r∈R,r.ok H
 nd:∀ (i j:Nat) (r r':Rs),R[i]?=some r->R[j]?=some r'->i≠j->∀ b,r.has b->¬ r'.has b
structure Fr (H:Hp) (R:List Rs) (H':Hp) (R':List Rs):Prop where
 len:H.length<=H'.length
 keep:∀ b,b<H.length->¬ inK R b->H'[b]?=H[b]?
 sub:∀ b,inK R' b->inK R b\/H.length<=b
theorem Fr.refl (H:Hp) (R:List Rs):Fr H R H R:=⟨Nat.le_refl _,λ_ _ _=>rfl,λ_ h=>.inl h⟩
theorem Fr.trans {H H' H'':Hp} {R R' R'':List Rs} (h:Fr H R H' R') (h':Fr H' R' H'' R''):Fr H R H'' R'' where
 len:=Nat.le_trans h.len h'.len
 keep:=λb hb hn=>(h'.keep b (Nat.lt_of_lt_of_le hb h.len) (λq=>(h.sub b q).elim hn (λq=>by omega))).trans (h.keep b hb hn)
 sub:=λb hb=>(h'.sub b hb).elim (h.sub b) (λq=>.inr (Nat.le_trans h.len q))
theorem NX {H H':Hp} {t:Bool} {s:Sl} {z:Nat} {pre cells rest:List AV} (h:owk H t s z pre cells rest) (hk:∀ b,dI t s=some b->H'[b]?=H[b]?):owk H' t s z pre cells rest:=by
 obtain ⟨h1,h2,h3,h4,h5⟩:=h
 refine ⟨h1,h2,h3,λhc=>?_,h5⟩
 obtain ⟨p,g1,g2,g3,g4⟩:=h4 hc
 exact ⟨p,g1,g2,g3,(hk p.1 (by rw [jT hc,g1];rfl)).trans g4⟩
theorem sS {H:Hp} {t:Bool} {s:Sl} {z:Nat} {pre cells rest:List AV} (h:owk H t s z pre cells rest) {b:Nat} (hb:dI t s=some b):At H b (pre++cells++rest):=by
 obtain ⟨h1,h2,h3,h4,h5⟩:=h
 obtain ⟨hc,hb⟩:=lj hb
 obtain ⟨p,g1,g2,g3,g4⟩:=h4 hc
 rw [g1] at hb;cases hb;exact g4
theorem Rs.ok_keep {H H':Hp} {r:Rs} (h:r.ok H) (hk:∀ b,r.has b->H'[b]?=H[b]?):r.ok H':=by
 cases r with
 | blk b cells=>exact (hk b rfl).trans h
 | ow t s z pre cells rest=>exact NX h hk
 | many l=>exact ⟨λq hq=>NX (h.1 q hq) (λb hb=>hk b ⟨q,hq,hb⟩),h.2⟩
theorem Rs.ok_lt {H:Hp} {r:Rs} (h:r.ok H) {b:Nat} (hb:r.has b):b<H.length:=by
 cases r with
 | blk b' cells=>cases hb;exact At.lt h
 | ow t s z pre cells rest=>exact (sS h hb).lt
 | many l=>obtain ⟨q,hq,hb⟩:=hb;exact (sS (h.1 q hq) hb).lt
theorem Rs.key_own {H:Hp} {t:Bool} {s:Sl} {z:Nat} {pre cells rest:List AV} (h:Rs.ok H (.ow t s z pre cells rest)) {b:Nat} (hb:Rs.has (.ow t s z pre cells rest) b):At H b (pre++cells++rest):=sS h hb
theorem W.lt {H:Hp} {R:List Rs} (w:W H R) {b:Nat} (hb:inK R b):b<H.length:=by
 obtain ⟨r,hr,hk⟩:=hb;exact Rs.ok_lt (w.ok r hr) hk
theorem W.upd {H H':Hp} {R:List Rs} {i:Nat} {r r':Rs} (w:W H R) (hi:R[i]?=some r) (hl:H.length<=H'.length) (hk:∀ b,b<H.length->¬ r.has b->H'[b]?=H[b]?) (hr:r'.ok H')
  (hkey:∀ b,r'.has b->r.has b\/H.length<=b):W H' (R.set i r')/\Fr H R H' (R.set i r'):=by
 have hlt:i<R.length:=(List.getElem?_eq_some_iff.1 hi).1
 have get:∀ j x,(R.set i r')[j]?=some x->(j=i/\x=r')\/(j≠i/\R[j]?=some x):=λj x hx=>by
  by_cases e:i=j
  ·subst e;rw [List.getElem?_set_self hlt] at hx;cases hx;exact .inl ⟨rfl,rfl⟩
  ·rw [List.getElem?_set_ne e] at hx;exact .inr ⟨λq=>e q.symm,hx⟩
 refine ⟨⟨λx hx=>?_,λj j' x x' hx hx' hne b hb hb'=>?_⟩,⟨hl,λb hb hn=>hk b hb (λq=>hn ⟨r,List.mem_of_getElem? hi,q⟩),λb hb=>?_⟩⟩
 ·obtain ⟨j,hj⟩:=List.getElem?_of_mem hx
  rcases get j x hj with ⟨_,rfl⟩ | ⟨hne,hx'⟩
  ·exact hr
  ·exact Rs.ok_keep (w.ok x (List.mem_of_getElem? hx')) (λb hb=>hk b (Rs.ok_lt (w.ok x (List.mem_of_getElem? hx')) hb) (w.nd j i x r hx' hi hne b hb))
 ·rcases get j x hx with ⟨e,ex⟩ | ⟨hn,gx⟩
  ·rcases get j' x' hx' with ⟨e',ex'⟩ | ⟨hn',gx'⟩
   ·exact hne (e.trans e'.symm)
   ·rw [ex] at hb
    rcases hkey b hb with q | q
    ·exact w.nd i j' r x' hi gx' (λe=>hn' e.symm) b q hb'
    ·have:=Rs.ok_lt (w.ok x' (List.mem_of_getElem? gx')) hb';omega
  ·rcases get j' x' hx' with ⟨e',ex'⟩ | ⟨hn',gx'⟩
   ·rw [ex'] at hb'
    rcases hkey b hb' with q | q
    ·exact w.nd j i x r gx hi hn b hb q
    ·have:=Rs.ok_lt (w.ok x (List.mem_of_getElem? gx)) hb;omega
   ·exact w.nd j j' x x' gx gx' hne b hb hb'
 ·obtain ⟨x,hx,hb⟩:=hb
  obtain ⟨j,hj⟩:=List.getElem?_of_mem hx
  rcases get j x hj with ⟨_,rfl⟩ | ⟨_,hx'⟩
  ·rcases hkey b hb with q | q
   ·exact .inl ⟨r,List.mem_of_getElem? hi,q⟩
   ·exact .inr q
  ·exact .inl ⟨x,List.mem_of_getElem? hx',hb⟩
theorem W.cons {H H':Hp} {R:List Rs} {r:Rs} (w:W H R) (hl:H.length<=H'.length) (hk:∀ b,b<H.length->H'[b]?=H[b]?) (hr:r.ok H') (hkey:∀ b,r.has b->H.length<=b) :
  W H' (r::R)/\Fr H R H' (r::R):=by
 refine ⟨⟨λx hx=>?_,λj j' x x' hx hx' hne b hb hb'=>?_⟩,⟨hl,λb hb _=>hk b hb,λb hb=>?_⟩⟩
 ·rcases List.mem_cons.1 hx with rfl | hx
  ·exact hr
  ·exact Rs.ok_keep (w.ok x hx) (λb hb=>hk b (Rs.ok_lt (w.ok x hx) hb))
 ·cases j with
  | zero=>
   cases j' with
   | zero=>exact hne rfl
   | succ j'=>
    simp only [List.getElem?_cons_zero,List.getElem?_cons_succ] at hx hx'
    cases hx
    have:=hkey b hb
    have:=Rs.ok_lt (w.ok x' (List.mem_of_getElem? hx')) hb';omega
  | succ j=>
   cases j' with
   | zero=>
    simp only [List.getElem?_cons_zero,List.getElem?_cons_succ] at hx hx'
    cases hx'
    have:=hkey b hb'
    have:=Rs.ok_lt (w.ok x (List.mem_of_getElem? hx)) hb;omega
   | succ j'=>exact w.nd j j' x x' hx hx' (λe=>hne (by rw [e])) b hb hb'
 ·obtain ⟨x,hx,hb⟩:=hb
  rcases List.mem_cons.1 hx with rfl | hx
  ·exact .inr (hkey b hb)
  ·exact .inl ⟨x,hx,hb⟩
theorem W.re {H:Hp} {R R':List Rs} (w:W H R) (f:Nat->Nat) (hf:∀ j r,R'[j]?=some r->R[f j]?=some r) (hi:∀ j j',j<R'.length->j'<R'.length->j≠j'->f j≠f j'):W H R'/\Fr H R H R':=by
 refine ⟨⟨λx hx=>?_,λj j' x x' hx hx' hne b hb hb'=>?_⟩,⟨Nat.le_refl _,λ_ _ _=>rfl,λb hb=>?_⟩⟩
 ·obtain ⟨j,hj⟩:=List.getElem?_of_mem hx
  exact w.ok x (List.mem_of_getElem? (hf j x hj))
 ·exact w.nd _ _ x x' (hf j x hx) (hf j' x' hx') (hi j j' (List.getElem?_eq_some_iff.1 hx).1 (List.getElem?_eq_some_iff.1 hx').1 hne) b hb hb'
 ·obtain ⟨x,hx,hb⟩:=hb
  obtain ⟨j,hj⟩:=List.getElem?_of_mem hx
  exact .inl ⟨x,List.mem_of_getElem? (hf j x hj),hb⟩
def nth:List Rs->Nat->Rs
 | [],_=>.blk 0 []
 | r::_,0=>r
 | _::R,n+1=>nth R n
def pks (R:List Rs):List Nat->List Rs->List Rs
 | [],T=>T
 | i::is,T=>nth R i::pks R is T
def pk (R:List Rs) (ixs:List Nat) (n:Nat):List Rs:=pks R ixs (R.drop n)
theorem NY:∀ (R:List Rs) (i:Nat),nth R i=(R[i]?).getD (.blk 0 [])
 | [],_=>by simp [nth]
 | r::_,0=>by simp [nth]
 | _::R,n+1=>by simp [nth,NY R n]
theorem XH (R:List Rs) (ixs:List Nat) (n:Nat):pk R ixs n=(ixs.map λi=>(R[i]?).getD (.blk 0 []))++R.drop n:=by
 unfold pk
 induction ixs with
 | nil=>rfl
 | cons i is ih=>rw [pks,ih,NY];rfl
theorem W.pick {H:Hp} {R:List Rs} (w:W H R) (ixs:List Nat) (n:Nat) (hn:n<=R.length) (h:decide (ixs.Nodup)=true) (h':ixs.all (·<n)=true):W H (pk R ixs n)/\Fr H R H (pk R ixs n):=by
 have h1:ixs.Nodup:=of_decide_eq_true h
 have h2:∀ i∈ixs,i<n:=λi hi=>by have:=List.all_eq_true.1 h' i hi;simpa using this
 refine w.re (λj=>if c:j<ixs.length then ixs[j] else j - ixs.length+n) (λj r hj=>?_) (λj j' hj hj' hne=>?_)
 ·rw [XH] at hj
  by_cases c:j<ixs.length
  ·rw [List.getElem?_append_left (by simpa using c),List.getElem?_map,List.getElem?_eq_getElem c] at hj
   simp only [c,dite_true,Option.map_some,Option.some.injEq] at hj ⊢
   have:=h2 _ (List.getElem_mem c)
   have hh:ixs[j]<R.length:=by omega
   rw [List.getElem?_eq_getElem hh] at hj ⊢
   simpa using hj
  ·rw [List.getElem?_append_right (by simpa using Nat.le_of_not_lt c),List.getElem?_drop] at hj
   simp only [c,dite_false]
   simp only [List.length_map] at hj
   rw [<- hj];congr 1;omega
 ·by_cases c:j<ixs.length
  ·by_cases c':j'<ixs.length
   ·simp only [c,c',dite_true]
    intro e
    exact hne (List.getElem_inj h1 |>.1 e)
   ·simp only [c,c',dite_true,dite_false]
    have:=h2 _ (List.getElem_mem c)
    omega
  ·by_cases c':j'<ixs.length
   ·simp only [c,c',dite_true,dite_false]
    have:=h2 _ (List.getElem_mem c')
    omega
   ·simp only [c,c',dite_false];omega
theorem W.right {H:Hp} {Rb R:List Rs} (w:W H (Rb++R)):W H R/\Fr H (Rb++R) H R:=
 w.re (λj=>Rb.length+j) (λj r hj=>by rw [List.getElem?_append_right (by omega)];rw [<- hj];congr 1;omega) (λj j' _ _ h e=>h (by omega))
theorem W.apart {H:Hp} {Rb R:List Rs} (w:W H (Rb++R)) {r:Rs} (hr:r∈Rb) {b:Nat} (hb:r.has b):¬ inK R b:=by
 rintro ⟨x,hx,hk⟩
 obtain ⟨i,hi⟩:=List.getElem?_of_mem hr
 obtain ⟨j,hj⟩:=List.getElem?_of_mem hx
 have hil:i<Rb.length:=(List.getElem?_eq_some_iff.1 hi).1
 exact w.nd i (Rb.length+j) r x (by rw [List.getElem?_append_left hil];exact hi) (by rw [List.getElem?_append_right (by omega),<-hj];congr 1;omega) (by omega) b hb hk
theorem W.frame {H H':Hp} {Rb R R':List Rs} (w:W H (Rb++R)) (w':W H' R') (st:Fr H R H' R'):W H' (Rb++R')/\Fr H (Rb++R) H' (Rb++R'):=by
 have hmem:∀ r∈Rb,r∈Rb++R:=λr hr=>List.mem_append_left _ hr
 have hb':∀ r∈Rb,∀ b,r.has b->b<H.length/\¬ inK R b:=λr hr b hb=>⟨Rs.ok_lt (w.ok r (hmem r hr)) hb,w.apart hr hb⟩
 have hb'':∀ r∈Rb,∀ b,r.has b->¬ inK R' b:=λr hr b hb q=>by
  obtain ⟨h1,h2⟩:=hb' r hr b hb
  rcases st.sub b q with q | q
  ·exact h2 q
  ·omega
 have hle:∀ {i:Nat} {x:Rs},(Rb++R')[i]?=some x->(i<Rb.length/\Rb[i]?=some x)\/(Rb.length<=i/\R'[i - Rb.length]?=some x):=λ{i x} hx=>by
  by_cases c:i<Rb.length
  ·rw [List.getElem?_append_left c] at hx;exact .inl ⟨c,hx⟩
  ·rw [List.getElem?_append_right (by omega)] at hx;exact .inr ⟨by omega,hx⟩
 refine ⟨⟨λx hx=>?_,λj j' x x' hx hx' hne b hb hc=>?_⟩,⟨st.len,λb hb hn=>st.keep b hb (λ⟨x,hx,hk⟩=>hn ⟨x,List.mem_append_right _ hx,hk⟩),λb hb=>?_⟩⟩
 ·rcases List.mem_append.1 hx with hx | hx
  ·exact Rs.ok_keep (w.ok x (hmem x hx)) (λb hb=>st.keep b (hb' x hx b hb).1 (hb' x hx b hb).2)
  ·exact w'.ok x hx
 ·rcases hle hx with ⟨c,hx⟩ | ⟨c,hx⟩
  ·rcases hle hx' with ⟨c',hx'⟩ | ⟨c',hx'⟩
   ·exact w.nd j j' x x' (by rw [List.getElem?_append_left c];exact hx) (by rw [List.getElem?_append_left c'];exact hx') hne b hb hc
   ·exact hb'' x (List.mem_of_getElem? hx) b hb ⟨x',List.mem_of_getElem? hx',hc⟩
  ·rcases hle hx' with ⟨c',hx'⟩ | ⟨c',hx'⟩
   ·exact hb'' x' (List.mem_of_getElem? hx') b hc ⟨x,List.mem_of_getElem? hx,hb⟩
   ·exact w'.nd _ _ x x' hx hx' (by omega) b hb hc
 ·obtain ⟨x,hx,hk⟩:=hb
  rcases List.mem_append.1 hx with hx | hx
  ·exact .inl ⟨x,hmem x hx,hk⟩
  ·rcases st.sub b ⟨x,hx,hk⟩ with ⟨y,hy,hk'⟩ | q
   ·exact .inl ⟨y,List.mem_append_right _ hy,hk'⟩
   ·exact .inr q
theorem W.cons_of {H H':Hp} {R Rn:List Rs} (w:W H R) (w':W H' (Rn++R)) (st:Fr H R H' (Rn++R)):aO H H':=by
 intro b hb
 by_cases c:inK R b
 ·obtain ⟨r,hr,hk⟩:=c
  have h1:=w.ok r hr
  have h2:=w'.ok r (List.mem_append_right _ hr)
  cases r with
  | blk b' cells=>cases hk;exact Eq.trans (show H'[b]?=_ from h2) (Eq.symm h1)
  | ow t s z pre cells rest=>exact Eq.trans (show H'[b]?=_ from Rs.key_own h2 hk) (Eq.symm (Rs.key_own h1 hk))
  | many l=>obtain ⟨q,hq,hb⟩:=hk;exact Eq.trans (show H'[b]?=_ from sS (h2.1 q hq) hb) (Eq.symm (sS (h1.1 q hq) hb))
 ·exact st.keep b hb c
structure Ety (α:Type) where
 z:Nat
 rep:Hp->List Rs->List AV->α->Prop
 len:∀ {H R c x},rep H R c x->c.length=z
 cell:∀ {H R c x},rep H R c x->∀ v∈c,v.isCell=true
 stab:∀ {H R H' R' c x},Fr H R H' R'->rep H R c x->rep H' R' c x
inductive CR {α:Type} (E:Ety α) (H:Hp) (R:List Rs):List AV->List α->Prop where
 | nil:CR E H R [] []
 | cons {c cs:List AV} {x:α} {l:List α} (h:E.rep H R c x) (t:CR E H R cs l):CR E H R (c++cs) (x::l)
section
variable {α:Type} {E:Ety α} {H H':Hp} {R R':List Rs} {cells:List AV} {l:List α}
theorem CR.step (st:Fr H R H' R') (h:CR E H R cells l):CR E H' R' cells l:=by
 induction h with
 | nil=>exact .nil
 | cons h t ih=>exact .cons (E.stab st h) ih
theorem CR.length (h:CR E H R cells l):cells.length=l.length * E.z:=by
 induction h with
 | nil=>simp
 | cons h t ih=>rw [List.length_append,ih,E.len h,List.length_cons,Nat.succ_mul];omega
theorem CR.app {cells':List AV} {l':List α} (h:CR E H R cells l) (h':CR E H R cells' l'):CR E H R (cells++cells') (l++l'):=by
 induction h with
 | nil=>exact h'
 | cons h t ih=>rw [List.append_assoc];exact .cons h ih
theorem CR.drop (h:CR E H R cells l):∀ n,CR E H R (cells.drop (n * E.z)) (l.drop n):=by
 induction h with
 | nil=>intro n;simp;exact .nil
 | @cons c cs x l h t ih=>
  intro n
  cases n with
  | zero=>simp;exact .cons h t
  | succ n=>
   have e:(c++cs).drop ((n+1) * E.z)=cs.drop (n * E.z):=by
    rw [List.drop_append,E.len h,List.drop_eq_nil_of_le (by rw [E.len h,Nat.succ_mul];omega),List.nil_append,Nat.succ_mul];congr 1;omega
   rw [e];exact ih n
theorem CR.take (h:CR E H R cells l):∀ n,CR E H R (cells.take (n * E.z)) (l.take n):=by
 induction h with
 | nil=>intro n;simp;exact .nil
 | @cons c cs x l h t ih=>
  intro n
  cases n with
  | zero=>simp;exact .nil
  | succ n=>
   have e:(c++cs).take ((n+1) * E.z)=c++cs.take (n * E.z):=by
    rw [List.take_append,E.len h,List.take_of_length_le (by rw [E.len h,Nat.succ_mul];omega),Nat.succ_mul];congr 2;omega
   rw [e];exact .cons h (ih n)
theorem CR.head {x:α} {l:List α} (h:CR E H R cells (x::l)):E.rep H R (cells.take E.z) x:=by
 cases h with
 | @cons c cs _ _ h t=>rw [List.take_append,E.len h,List.take_of_length_le (by rw [E.len h];omega)];simpa using h
theorem CR.chunk (h:CR E H R cells l) {n:Nat} {x:α} (hx:l[n]?=some x):E.rep H R ((cells.drop (n * E.z)).take E.z) x:=by
 have h1:=h.drop n
 have hlt:n<l.length:=(List.getElem?_eq_some_iff.1 hx).1
 rw [List.drop_eq_getElem_cons hlt] at h1
 have h2:=h1.head
 rw [List.getElem?_eq_getElem hlt] at hx
 cases hx;exact h2
theorem CR.set (h:CR E H R cells l):∀ {n j:Nat} {v:AV} {x':α},n<l.length->j<E.z->E.rep H R (((cells.drop (n * E.z)).take E.z).set j v) x'->CR E H R (cells.set (n * E.z+j) v) (l.set n x'):=by
 induction h with
 | nil=>intro n j v x' hn;simp at hn
 | @cons c cs x l h t ih=>
  intro n j v x' hn hj hr
  cases n with
  | zero=>
   have e:((c++cs).drop (0 * E.z)).take E.z=c:=by rw [Nat.zero_mul,List.drop_zero,List.take_append,E.len h,List.take_of_length_le (by rw [E.len h];omega)];simp
   rw [e] at hr
   have:(c++cs).set (0 * E.z+j) v=c.set j v++cs:=by rw [Nat.zero_mul,Nat.zero_add,List.set_append_left _ _ (by rw [E.len h];exact hj)]
   rw [this];exact .cons hr t
  | succ n=>
   have e:((c++cs).drop ((n+1) * E.z))=cs.drop (n * E.z):=by
    rw [List.drop_append,E.len h,List.drop_eq_nil_of_le (by rw [E.len h,Nat.succ_mul];omega),List.nil_append,Nat.succ_mul];congr 1;omega
   rw [e] at hr
   have:(c++cs).set ((n+1) * E.z+j) v=c++cs.set (n * E.z+j) v:=by
    rw [List.set_append_right _ _ (by rw [E.len h,Nat.succ_mul];omega),E.len h,Nat.succ_mul];congr 2;omega
   rw [this];exact .cons h (ih (by simpa using hn) hj hr)
theorem CR.zrow {c:List AV} {x:α} (h:E.rep H R c x):∀ n,CR E H R (zrow n c) (List.replicate n x):=by
 intro n
 rw [wX]
 induction n with
 | zero=>exact .nil
 | succ n ih=>rw [List.replicate_succ,List.flatten_cons,List.replicate_succ];exact .cons h ih
end
structure ROs {α:Type} (E:Ety α) (H:Hp) (R:List Rs) (s:Sl) (l:List α):Prop where
 n:s.n=l.length
 fit:s.fits E.z
 ex:∃ cells,CR E H R cells l/\Sl.row H s E.z=some cells/\∀ p,s.n≠0->s.a=some p->p.1<H.length/\¬ inK R p.1
theorem Sl.row_keep {H H':Hp} {s:Sl} {z:Nat} (h:∀ p,s.n≠0->s.a=some p->H'[p.1]?=H[p.1]?):Sl.row H' s z=Sl.row H s z:=by
 unfold Sl.row
 split
 ·rfl
 ·rename_i hn
  split
  ·rename_i p hp;unfold Hp.row;rw [h p hn (Sl.ad_some hp).1]
  ·rfl
theorem Sl.ad_ex {s:Sl} {c:Nat} (h:s.c=.ex c):s.ad=s.a:=by unfold Sl.ad;rw [h]
theorem Sl.ad_full {s:Sl} {c:Nat} (h:s.c=.full c):s.ad=s.a:=by unfold Sl.ad;rw [h]
theorem ROs.ad {α:Type} {E:Ety α} {H:Hp} {R:List Rs} {s:Sl} {l:List α} (h:ROs E H R s l) (hn:s.n≠0):s.ad=s.a:=by
 have hf:=h.fit
 cases hc:s.c with
 | ex c=>exact Sl.ad_ex hc
 | full c=>exact Sl.ad_full hc
 | tip z o=>unfold Sl.fits at hf;rw [hc] at hf;exact absurd hf.2.2 hn
theorem XI {pre cells rest:List AV} {i:Nat} (h:i<cells.length):(pre++cells++rest)[pre.length+i]?=cells[i]?:=by
 rw [List.append_assoc,List.getElem?_append_right (by omega),Nat.add_sub_cancel_left,List.getElem?_append_left h]
theorem XJ {pre cells rest:List AV} {i:Nat} {v:AV} (h:i<cells.length):(pre++cells++rest).set (pre.length+i) v=pre++cells.set i v++rest:=by
 rw [List.append_assoc,List.set_append_right _ _ (by omega),Nat.add_sub_cancel_left,List.set_append_left _ _ h,<-List.append_assoc]
theorem Rs.full {H:Hp} {t:Bool} {s:Sl} {z:Nat} {pre cells rest:List AV} (h:Rs.ok H (.ow t s z pre cells rest)) (hn:s.n≠0) :
  ∃ p,s.a=some p/\s.ad=some p/\p.2=pre.length/\At H p.1 (pre++cells++rest)/\lvs t s=true:=by
 obtain ⟨h1,h2,h3,h4,h5⟩:=h
 have hl:lvs t s=true:=by
  cases e:lvs t s with
  | true=>rfl
  | false=>exact absurd (h3 e) hn
 obtain ⟨p,g1,g2,g3,g4⟩:=h4 hl
 exact ⟨p,g1,by rw [g2,g1],g3,g4,hl⟩
theorem ROs.step {α:Type} {E:Ety α} {H H':Hp} {R R':List Rs} {s:Sl} {l:List α} (st:Fr H R H' R') (h:ROs E H R s l):ROs E H' R' s l:=by
 obtain ⟨hn,hf,cells,hc,hr,ho⟩:=h
 refine ⟨hn,hf,cells,hc.step st,?_,λp h0 hp=>⟨Nat.lt_of_lt_of_le (ho p h0 hp).1 st.len,λq=>?_⟩⟩
 ·rw [Sl.row_keep λp h0 hp=>st.keep _ (ho p h0 hp).1 (ho p h0 hp).2];exact hr
 ·rcases st.sub _ q with q | q
  ·exact (ho p h0 hp).2 q
  ·have:=(ho p h0 hp).1;omega
def dk (k:IntKind):Ety Int:=⟨1,λ_ _ c x=>c=[.int k x],λh=>by rw [h];rfl,λh v hv=>by rw [h] at hv;cases List.mem_singleton.1 hv;rfl,λ_ h=>h⟩
abbrev eI:=dk .i64
def bI:Ety Bool:=⟨1,λ_ _ c x=>c=[.bool x],λh=>by rw [h];rfl,λh v hv=>by rw [h] at hv;cases List.mem_singleton.1 hv;rfl,λ_ h=>h⟩
def eSl {α:Type} (E:Ety α):Ety (List α):=⟨1,λH R c x=>∃ s,c=[.sl s]/\ROs E H R s x,λ⟨_,h,_⟩=>by rw [h];rfl,λ⟨_,h,_⟩ v hv=>by rw [h] at hv;cases List.mem_singleton.1 hv;rfl,λst ⟨s,h,h'⟩=>⟨s,h,h'.step st⟩⟩
def aa {α β:Type} (E:Ety α) (F:Ety β):Ety (α×β):=⟨E.z+F.z,λH R c x=>∃ c1 c2,c=c1++c2/\E.rep H R c1 x.1/\F.rep H R c2 x.2,
 λ⟨c1,c2,h,h1,h2⟩=>by rw [h,List.length_append,E.len h1,F.len h2],λ⟨c1,c2,h,h1,h2⟩ v hv=>by
  rw [h] at hv
  rcases List.mem_append.1 hv with hv | hv
  ·exact E.cell h1 v hv
  ·exact F.cell h2 v hv,λst ⟨c1,c2,h,h1,h2⟩=>⟨c1,c2,h,E.stab st h1,F.stab st h2⟩⟩
theorem CR.ints (k:IntKind) (H:Hp) (R:List Rs):∀ l:List Int,CR (dk k) H R (l.map (AV.int k)) l
 | []=>.nil
 | x::l=>.cons (c:=[.int k x]) rfl (CR.ints k H R l)
theorem CR.ints_eq {k:IntKind} {H:Hp} {R:List Rs} {cells:List AV} {l:List Int} (h:CR (dk k) H R cells l):cells=l.map (AV.int k):=by
 induction h with
 | nil=>rfl
 | cons h t ih=>rw [ih,show _=_ from h];rfl
def Ety.Flat {α:Type} (E:Ety α):Prop:=∀ {H R H' R' c x},E.rep H R c x->E.rep H' R' c x
theorem cv (k:IntKind):(dk k).Flat:=λh=>h
theorem dp {α β:Type} {E:Ety α} {F:Ety β} (h:E.Flat) (h':F.Flat):(aa E F).Flat:=λ⟨c1,c2,q,q1,q2⟩=>⟨c1,c2,q,h q1,h' q2⟩
theorem CR.flat {α:Type} {E:Ety α} (hE:E.Flat) {H H':Hp} {R R':List Rs} {cells:List AV} {l:List α} (h:CR E H R cells l):CR E H' R' cells l:=by
 induction h with
 | nil=>exact .nil
 | cons h t ih=>exact .cons (hE h) ih
end Go.AE
end
section
namespace Go.AE
def ix {α:Type} (l:List α) (i:Int):Option Nat:=if 0<=i/\i<l.length then some i.toNat else none
def gt {α:Type} [Inhabited α] (l:List α) (n:Nat):α:=l.getD n default
def apn {α:Type} (l xs:List α):Option (List α):=if l.length+xs.length<=4294967296 then some (l++xs) else none
def mkn {α:Type} (n:Int) (x:α):Option (List α):=if 0<=n/\n<=4294967296 then some (List.replicate n.toNat x) else none
def jU {α:Type} (l:List α) (a b:Int):Option (List α):=if 0<=a/\a<=b/\b<=l.length/\a<l.length then some ((l.take b.toNat).drop a.toNat) else none
def cpl {α:Type} (d s:List α):List α:=s.take d.length++d.drop s.length
abbrev Rt (x:OA) (Q:AV->Hp->Prop):Prop:=∃ v H',x=some (v,H')/\Q v H'
theorem aj {α:Type} {x:Option α} {a:α} {K:α->OA} {Q:AV->Hp->Prop} (h:x=some a) (g:∃ v H',K a=some (v,H')/\Q v H'):∃ v H',x.bind K=some (v,H')/\Q v H':=by
 rw [h];exact g
theorem MY {c:Prop} [Decidable c] {x:OA} {Q:AV->Hp->Prop} (h:¬ c) (g:∃ v H',x=some (v,H')/\Q v H'):∃ v H',(if c then none else x)=some (v,H')/\Q v H':=by
 rw [if_neg h];exact g
theorem fZ {c:Prop} [Decidable c] {x:OA} {Q:AV->Hp->Prop} (h:c) (g:∃ v H',x=some (v,H')/\Q v H'):∃ v H',(if c then x else none)=some (v,H')/\Q v H':=by
 rw [if_pos h];exact g
theorem aB {c:Bool} {ρ:Type} {px py:Option ρ} {r:ρ} {x y:OA} {Q:AV->Hp->Prop} (hp:(bif c then px else py)=some r) (f:px=some r->∃ v H',x=some (v,H')/\Q v H') (g:py=some r->∃ v H',y=some (v,H')/\Q v H'):∃ v H',(bif c then x else y)=some (v,H')/\Q v H':=by
 cases c
 ·exact g hp
 ·exact f hp
theorem aE {ρ:Type} {a r:ρ} {v:AV} {H:Hp} {Q:ρ->AV->Hp->Prop} (hp:some a=some r) (q:Q a v H):∃ v' H',some (v,H)=some (v',H')/\Q r v' H':=by
 obtain rfl:=Option.some.inj hp
 exact ⟨v,H,rfl,q⟩
theorem WM {c:Prop} {x:OA} {Q:AV->Hp->Prop} (h:c) (g:∃ v H',x=some (v,H')/\Q v H'):∃ v H',ifW c x=some (v,H')/\Q v H':=by
 unfold ifW;rw [if_pos h];exact g
theorem wT (v:AV) (H:Hp):kT v H v H=some ():=by unfold kT;exact if_pos ⟨rfl,rfl⟩
theorem kU {α β:Type} {x:Option α} {a:α} {f:α->Option β} {r:Option β} (h:x=some a) (g:f a=r):x.bind f=r:=by subst h;exact g
theorem MX {α:Type} {c:Prop} [Decidable c] {x:Option α} {r:α} (h:(if c then none else x)=some r):¬ c/\x=some r:=by
 split at h
 ·cases h
 ·exact ⟨by assumption,h⟩
theorem eD {α:Type} {c:Prop} [Decidable c] {x:Option α} {r:α} (h:(if c then x else none)=some r):c/\x=some r:=by
 split at h
 ·exact ⟨by assumption,h⟩
 ·cases h
theorem FJ {α:Type} {l:List α} {i:Int} {n:Nat} (h:ix l i=some n):n<l.length/\(n:Int)=i:=by
 unfold ix at h;obtain ⟨⟨h0,h1⟩,h2⟩:=eD h;cases h2;omega
theorem eS {α:Type} [Inhabited α] {l:List α} {n:Nat} (h:n<l.length):l[n]?=some (gt l n):=by
 unfold gt;rw [List.getD_eq_getElem?_getD,List.getElem?_eq_getElem h];rfl
theorem aC {H:Hp} {b o:Nat} {k:IntKind} {n:Int} (h:H.cell b o=some (.int k n)):H.ldI k b o=some n:=by unfold Hp.ldI;rw [h];simp [AV.asI]
theorem mL {H:Hp} {b o:Nat} {n:Bool} (h:H.cell b o=some (.bool n)):H.ldB b o=some n:=by unfold Hp.ldB;rw [h];rfl
theorem kV {H:Hp} {b o:Nat} {n:Sl} (h:H.cell b o=some (.sl n)):H.ldSl b o=some n:=by unfold Hp.ldSl;rw [h];rfl
theorem XM (k:IntKind) (n:Int):(AV.int k n).asI k=some n:=by simp [AV.asI]
section
variable {H:Hp} {R:List Rs}
theorem getElem?_app_lt {H:Hp} {x:Blk} {b:Nat} (h:b<H.length):(H++[x])[b]?=H[b]?:=List.getElem?_append_left h
theorem W.new (w:W H R) (cells:List AV):∃ H',Hp.new H cells=some H'/\W H' (.blk H.length cells::R)/\Fr H R H' (.blk H.length cells::R):=
 ⟨_,rfl,w.cons (by simp) (λb hb=>getElem?_app_lt hb) (At.new H cells) (λb hb=>by cases hb;exact Nat.le_refl _)⟩
theorem Rs.ok_new {H:Hp} {cells:List AV} {n z:Nat} (h:cells.length=n * z) (hz:0<z):Rs.ok (H++[⟨cells,true,true⟩]) (.own ⟨some (H.length,0),n,.ex n⟩ z cells):=
 ⟨h,hz,λe=>by cases n with
  | zero=>rfl
  | succ n=>simp [lvs] at e,λ_=>⟨_,rfl,rfl,rfl,by simpa using At.new H cells⟩,Nat.le_refl n,λ_=>⟨rfl,rfl,λ_=>.inr rfl⟩⟩
theorem W.newS (w:W H R) (cells:List AV) (n z:Nat) (h:cells.length=n * z) (hz:0<z) :
  ∃ H',Hp.new H cells=some H'/\W H' (.own ⟨some (H.length,0),n,.ex n⟩ z cells::R)/\Fr H R H' (.own ⟨some (H.length,0),n,.ex n⟩ z cells::R):=
 ⟨_,rfl,w.cons (by simp) (λb hb=>getElem?_app_lt hb) (Rs.ok_new h hz) (λb hb=>by obtain ⟨_,hb⟩:=lj (show dI _ _=some b from hb);cases hb;exact Nat.le_refl _)⟩
theorem W.nilS (w:W H R) (z:Nat) (hz:0<z):W H (.own ⟨none,0,.ex 0⟩ z []::R)/\Fr H R H (.own ⟨none,0,.ex 0⟩ z []::R):=
 w.cons (Nat.le_refl _) (λ_ _=>rfl) ⟨by simp,hz,λ_=>rfl,λh=>by simp [lvs] at h,Nat.le_refl 0,λ_=>⟨rfl,rfl,λh=>by simp [lvs] at h⟩⟩ (λb hb=>by obtain ⟨hc,hb⟩:=lj (show dI _ _=some b from hb);cases hb)
theorem W.at_ (w:W H R) {i:Nat} {b:Nat} {cells:List AV} (hi:R[i]?=some (.blk b cells)):At H b cells:=w.ok _ (List.mem_of_getElem? hi)
theorem W.ld (w:W H R) {i:Nat} {b:Nat} {cells:List AV} {o:Nat} {v:AV} (hi:R[i]?=some (.blk b cells)) (hv:cells[o]?=some v):H.cell b o=some v:=by
 rw [(w.at_ hi).cell];exact hv
theorem W.st (w:W H R) {i:Nat} {b:Nat} {cells:List AV} {o:Nat} {v:AV} (hi:R[i]?=some (.blk b cells)) (ho:o<cells.length) (hv:v.isCell=true) :
  ∃ H',H.st b o v=some H'/\W H' (R.set i (.blk b (cells.set o v)))/\Fr H R H' (R.set i (.blk b (cells.set o v))):=by
 obtain ⟨e1,e2⟩:=(w.at_ hi).st ho hv
 exact ⟨_,e1,w.upd hi (by simp) (λc _ hc=>by rw [List.getElem?_set_ne (λq=>hc (by rw [q];rfl))]) e2 (λc hc=>.inl hc)⟩
theorem W.own_n (w:W H R) {i:Nat} {α:Type} {E:Ety α} {t:Bool} {s:Sl} {pre cells rest:List AV} {l:List α} (hi:R[i]?=some (.ow t s E.z pre cells rest)) (cr:CR E H R cells l):s.n=l.length:=by
 obtain ⟨h1,h2,_⟩:=w.ok _ (List.mem_of_getElem? hi)
 have h3:=cr.length
 rw [h1] at h3
 exact Nat.eq_of_mul_eq_mul_right h2 h3
theorem row_cell {H:Hp} {b o n:Nat} {cells:List AV} (h:H.row b o n=some cells) {j:Nat} {v:AV} (hv:cells[j]?=some v):H.cell b (o+j)=some v:=by
 unfold Hp.row at h
 split at h
 ·rename_i k hk
  obtain ⟨h1,h2⟩:=eD h
  cases h2
  simp only [Bool.and_eq_true,decide_eq_true_eq] at h1
  unfold Hp.cell
  simp only [hk,h1.1,if_true]
  rw [List.getElem?_take] at hv
  split at hv
  ·rw [List.getElem?_drop] at hv;exact hv
  ·cases hv
 ·cases h
theorem NZ {cells:List AV} {n z j:Nat} {v:AV} (h:((cells.drop (n * z)).take z)[j]?=some v):cells[n * z+j]?=some v/\j<z:=by
 rw [List.getElem?_take] at h
 split at h
 ·rw [List.getElem?_drop] at h;exact ⟨h,by assumption⟩
 ·cases h
theorem W.ixo (w:W H R) {i:Nat} {α:Type} [Inhabited α] {E:Ety α} {t:Bool} {s:Sl} {z:Nat} {pre cells rest:List AV} {l:List α} {k:Int} {n:Nat} (hi:R[i]?=some (.ow t s E.z pre cells rest)) (hz:z=E.z) (cr:CR E H R cells l) (hn:ix l k=some n) :
  ∃ p cs,Sl.idx s k z=some p/\E.rep H R cs (gt l n)/\∀ j v,cs[j]?=some v->H.cell p.1 (p.2+j)=some v:=by
 subst hz
 have hsn:=w.own_n hi cr
 have hok:=w.ok _ (List.mem_of_getElem? hi)
 obtain ⟨g1,g2⟩:=FJ hn
 have g3:=cr.chunk (eS g1)
 obtain ⟨p,e1,e2,e3,e4,_⟩:=Rs.full hok (by omega)
 refine ⟨(p.1,p.2+k.toNat * E.z),_,?_,g3,λj v hj=>?_⟩
 ·unfold Sl.idx
  rw [if_pos ⟨by omega,by omega⟩,e2];rfl
 ·obtain ⟨q1,q2⟩:=NZ hj
  have:k.toNat=n:=by omega
  simp only [this]
  rw [e4.cell,e3,Nat.add_assoc,XI (List.getElem?_eq_some_iff.1 q1).1];exact q1
theorem ROs.ixr {α:Type} [Inhabited α] {E:Ety α} {s:Sl} {z:Nat} {l:List α} {k:Int} {n:Nat} (h:ROs E H R s l) (hz:z=E.z) (hn:ix l k=some n) :
  ∃ p cs,Sl.idx s k z=some p/\E.rep H R cs (gt l n)/\∀ j v,cs[j]?=some v->H.cell p.1 (p.2+j)=some v:=by
 subst hz
 have had:=h.ad
 obtain ⟨hsn,hf,cells,cr,hrow,ho⟩:=h
 obtain ⟨g1,g2⟩:=FJ hn
 have g3:=cr.chunk (eS g1)
 obtain ⟨a,m,c⟩:=s
 unfold Sl.row at hrow
 simp only at hsn hrow had
 rw [if_neg (by omega),had (by omega)] at hrow
 cases a with
 | none=>cases hrow
 | some p=>
  refine ⟨(p.1,p.2+k.toNat * E.z),_,?_,g3,λj v hj=>?_⟩
  ·unfold Sl.idx
   simp only at hsn ⊢
   rw [if_pos ⟨by omega,by omega⟩,had (by omega)];rfl
  ·obtain ⟨q1,q2⟩:=NZ hj
   have:k.toNat=n:=by omega
   simp only [this]
   rw [Nat.add_assoc];exact row_cell hrow q1
theorem W.sto (w:W H R) {i:Nat} {α:Type} [Inhabited α] {E:Ety α} {t:Bool} {s:Sl} {z:Nat} {pre cells rest:List AV} {l:List α} {k:Int} {n j:Nat} {p:Nat×Nat} {v:AV} {x':α} (hi:R[i]?=some (.ow t s E.z pre cells rest)) (hz:z=E.z) (cr:CR E H R cells l)
  (hn:(n:Int)=k) (hnl:n<l.length) (hp:Sl.idx s k z=some p) (hj:j<E.z) (hv:v.isCell=true) (hr:∀ cs,E.rep H R cs (gt l n)->E.rep H R (cs.set j v) x') :
  ∃ H' cells',H.st p.1 (p.2+j) v=some H'/\W H' (R.set i (.ow t s E.z pre cells' rest))/\Fr H R H' (R.set i (.ow t s E.z pre cells' rest))/\CR E H' (R.set i (.ow t s E.z pre cells' rest)) cells' (l.set n x'):=by
 subst hz
 have hsn:=w.own_n hi cr
 have hok:=w.ok _ (List.mem_of_getElem? hi)
 obtain ⟨q,e1,e2,e3,e4,e5⟩:=Rs.full hok (by omega)
 obtain ⟨h1,h2,h3,h4,h5,h6⟩:=hok
 unfold Sl.idx at hp
 obtain ⟨_,hp⟩:=eD hp
 rw [e2] at hp
 cases hp
 have hk:k.toNat=n:=by omega
 have hlt:n * E.z+j<cells.length:=by
  rw [cr.length]
  have:(n+1) * E.z<=l.length * E.z:=Nat.mul_le_mul_right _ hnl
  rw [Nat.succ_mul] at this;omega
 obtain ⟨s1,s2⟩:=e4.st (o:=pre.length+(n * E.z+j)) (v:=v) (by simp only [List.length_append];omega) hv
 rw [XJ hlt] at s1 s2
 have key:=w.upd (H':=H.set q.1 ⟨pre++cells.set (n * E.z+j) v++rest,true,true⟩) (r':=.ow t s E.z pre (cells.set (n * E.z+j) v) rest) hi (by simp) (λb _ hb=>by rw [List.getElem?_set_ne (λe=>hb (by rw [<- e];show dI _ _=_;rw [jT e5,e1];rfl))])
  ⟨by rw [List.length_set];exact h1,h2,h3,λ_=>⟨q,e1,by rw [e2,e1],e3,s2⟩,h5,h6⟩ (λb hb=>.inl hb)
 refine ⟨_,_,?_,key.1,key.2,?_⟩
 ·simp only [hk,e3,Nat.add_assoc];exact s1
 ·exact (cr.set hnl hj (hr _ (cr.chunk (eS hnl)))).step key.2
theorem XN {α:Type} {n:Int} {x:α} {l:List α} (h:mkn n x=some l):(0<=n/\n<=4294967296)/\l=List.replicate n.toNat x:=by
 unfold mkn at h;obtain ⟨h1,h2⟩:=eD h;cases h2;exact ⟨h1,rfl⟩
theorem W.mkS (w:W H R) {α:Type} {E:Ety α} {zero:List AV} {bytes:Nat} {n:Int} {x:α} {l:List α} (hx:E.rep H R zero x) (hz:0<E.z) (hb:bytes<=16384) (hl:mkn n x=some l) :
  ∃ H' cells,Hp.mk H zero bytes n n=some (⟨some (H.length,0),l.length,.ex l.length⟩,H')/\W H' (.own ⟨some (H.length,0),l.length,.ex l.length⟩ E.z cells::R)/\Fr H R H' (.own ⟨some (H.length,0),l.length,.ex l.length⟩ E.z cells::R) /\
   CR E H' (.own ⟨some (H.length,0),l.length,.ex l.length⟩ E.z cells::R) cells l:=by
 obtain ⟨⟨h0,h1⟩,rfl⟩:=XN hl
 have key:=w.cons (H':=H++[⟨zrow n.toNat zero,true,true⟩]) (r:=.own ⟨some (H.length,0),(List.replicate n.toNat x).length,.ex (List.replicate n.toNat x).length⟩ E.z (zrow n.toNat zero)) (by simp) (λb hb=>getElem?_app_lt hb)
  (Rs.ok_new (by rw [sI,E.len hx,List.length_replicate]) hz) (λb hb=>by obtain ⟨_,hb⟩:=lj (show dI _ _=some b from hb);cases hb;exact Nat.le_refl _)
 refine ⟨_,_,?_,key.1,key.2,(CR.zrow hx _).step key.2⟩
 unfold Hp.mk
 have:n * (bytes:Int)<=4294967296 * 16384:=by
  have a1:n * (bytes:Int)<=n * 16384:=Int.mul_le_mul_of_nonneg_left (by omega) h0
  omega
 rw [if_pos ⟨h0,Int.le_refl _,by omega,by omega⟩]
 simp
theorem XO {α:Type} {l m x:List α} (h:apn l m=some x):l.length+m.length<=4294967296/\x=l++m:=by
 unfold apn at h;obtain ⟨h1,h2⟩:=eD h;cases h2;exact ⟨h1,rfl⟩
theorem W.app (w:W H R) {i:Nat} {α:Type} {E:Ety α} {s:Sl} {z bytes n:Nat} {cells xs:List AV} {l m x:List α} (hi:R[i]?=some (.own s E.z cells)) (hz:z=E.z) (cr:CR E H R cells l) (hm:CR E H R xs m) (hn:n=m.length) (hb:bytes<=16384) (hx:apn l m=some x) :
  ∃ a c H',Hp.app H z bytes s n xs=some (⟨a,x.length,c⟩,H')/\W H' (R.set i (.own ⟨a,x.length,c⟩ E.z (cells++xs)))/\Fr H R H' (R.set i (.own ⟨a,x.length,c⟩ E.z (cells++xs))) /\
   CR E H' (R.set i (.own ⟨a,x.length,c⟩ E.z (cells++xs))) (cells++xs) x/\((∃ c,s.c=.ex c)->aO H H'):=by
 subst hz hn
 obtain ⟨hlen,rfl⟩:=XO hx
 have hsn:=w.own_n hi cr
 have hxl:=hm.length
 have hxx:(l++m).length=s.n+m.length:=by rw [List.length_append,hsn]
 obtain ⟨h1,h2,h3,h4,h5,h6⟩:=w.ok _ (List.mem_of_getElem? hi)
 obtain ⟨_,_,h6⟩:=h6 rfl
 have hcond:(s.n+m.length) * bytes<=70368744177664/\s.n+m.length<=70368744177664/\bytes<=70368744177664/\0<E.z:=by
  refine ⟨?_,by omega,by omega,h2⟩
  have:=Nat.mul_le_mul (show s.n+m.length<=4294967296 by omega) hb
  omega
 obtain ⟨a,sn,c⟩:=s
 simp only at hsn hxx h1 h3 hcond h6
 have same:∀ (hm0:m=[]) (c':Cap),Hp.app H E.z bytes ⟨a,sn,c⟩ m.length xs=some (⟨a,sn+m.length,c⟩,H) ->
   ∃ a' c' H',Hp.app H E.z bytes ⟨a,sn,c⟩ m.length xs=some (⟨a',(l++m).length,c'⟩,H')/\W H' (R.set i (.own ⟨a',(l++m).length,c'⟩ E.z (cells++xs)))/\Fr H R H' (R.set i (.own ⟨a',(l++m).length,c'⟩ E.z (cells++xs))) /\
   CR E H' (R.set i (.own ⟨a',(l++m).length,c'⟩ E.z (cells++xs))) (cells++xs) (l++m)/\((∃ k,c=.ex k)->aO H H'):=λhm0 _ e=>by
  subst hm0
  have hxs:xs=[]:=List.length_eq_zero_iff.1 (by simpa using hxl)
  subst hxs
  have hr:(R.set i (.own ⟨a,(l++[]).length,c⟩ E.z (cells++[])))=R:=by
   rw [List.append_nil,List.append_nil]
   apply List.ext_getElem?
   intro j
   by_cases ej:i=j
   ·subst ej;rw [List.getElem?_set_self (List.getElem?_eq_some_iff.1 hi).1,hi,hsn]
   ·rw [List.getElem?_set_ne ej]
  refine ⟨a,c,H,?_,?_,?_,?_,λ_=>aO.refl H⟩
  ·rw [e,hxx]
  ·rw [hr];exact w
  ·rw [hr];exact Fr.refl _ _
  ·rw [hr,List.append_nil,List.append_nil];exact cr
 have big:∀ (H1:Hp),(H1=H\/¬ ∃ k,c=.ex k)->H.length=H1.length->(∀ b,b<H.length->¬ Rs.has (.own ⟨a,sn,c⟩ E.z cells) b->H1[b]?=H[b]?)->Hp.app H E.z bytes ⟨a,sn,c⟩ m.length xs=some (⟨some (H.length,0),sn+m.length,.full E.z⟩,H1++[⟨cells++xs,true,true⟩]) ->
   ∃ a' c' H',Hp.app H E.z bytes ⟨a,sn,c⟩ m.length xs=some (⟨a',(l++m).length,c'⟩,H')/\W H' (R.set i (.own ⟨a',(l++m).length,c'⟩ E.z (cells++xs)))/\Fr H R H' (R.set i (.own ⟨a',(l++m).length,c'⟩ E.z (cells++xs))) /\
   CR E H' (R.set i (.own ⟨a',(l++m).length,c'⟩ E.z (cells++xs))) (cells++xs) (l++m)/\((∃ k,c=.ex k)->aO H H'):=λH1 hx1 hl1 hk1 e=>by
  have hat:At (H1++[⟨cells++xs,true,true⟩]) H.length (cells++xs):=by rw [hl1];exact At.new H1 _
  have key:=w.upd (H':=H1++[⟨cells++xs,true,true⟩]) (r':=.own ⟨some (H.length,0),(l++m).length,.full E.z⟩ E.z (cells++xs)) hi (by simp [hl1]) (λb hb hne=>by
    rw [List.getElem?_append_left (by omega)];exact hk1 b hb hne)
   ⟨by rw [List.length_append,h1,hxl,hxx,Nat.add_mul],h2,(λe=>by simp [lvs] at e),λ_=>⟨_,rfl,rfl,rfl,by simpa using hat⟩,⟨rfl,rfl⟩,λ_=>⟨rfl,rfl,λ_=>.inl rfl⟩⟩ (λb hb=>by obtain ⟨_,hb⟩:=lj (show dI _ _=some b from hb);cases hb;exact .inr (Nat.le_refl _))
  refine ⟨_,_,_,?_,key.1,key.2,?_,λhc=>?_⟩
  ·rw [e,hxx]
  ·exact (cr.app hm).step key.2
  ·rcases hx1 with hx1 | hx1
   ·rw [hx1];exact aO.snoc H _
   ·exact absurd hc hx1
 have hpos:m≠[]->0<m.length:=λh=>List.length_pos_iff.2 h
 by_cases hcx:c=.ex 0
 ·have g1:sn=0:=h3 (by simp [lvs,hcx])
  subst g1 hcx
  have hc0:cells=[]:=List.length_eq_zero_iff.1 (by simpa using h1)
  by_cases hm0:m=[]
  ·refine same hm0 (.ex 0) ?_
   unfold Hp.app
   rw [if_pos hcond]
   subst hm0
   have hxs:xs=[]:=List.length_eq_zero_iff.1 (by simpa using hxl)
   subst hxs
   cases a <;> simp [stN]
  ·refine big H (.inl rfl) rfl (λ_ _ _=>rfl) ?_
   unfold Hp.app
   rw [if_pos hcond]
   have:=hpos hm0
   simp only
   rw [if_neg (by omega)]
   simp [Sl.row,hc0]
 ·have hlv:lvs true ⟨a,sn,c⟩=true:=by simp [lvs,hcx]
  obtain ⟨p,ep,_,g1,g2⟩:=h4 hlv
  have g3:=h6 hlv
  rw [List.nil_append,List.append_nil] at g2
  simp only [List.length_nil] at g1
  have ep:a=some p:=ep
  subst ep
  have hrow:Sl.row H ⟨some p,sn,c⟩ E.z=some cells:=by
   unfold Sl.row
   by_cases hs0:sn=0
   ·rw [if_pos hs0,List.length_eq_zero_iff.1 (show cells.length=0 by rw [h1,hs0,Nat.zero_mul])]
   ·have e:Sl.ad ⟨some p,sn,c⟩=some p:=by rcases g3 with rfl | rfl <;> rfl
    rw [if_neg hs0,e]
    unfold Hp.row
    simp only
    rw [show H[p.1]?=some ⟨cells,true,true⟩ from g2]
    simp [g1,h1,List.take_of_length_le (Nat.le_of_eq h1)]
  rcases g3 with rfl | rfl
  ·by_cases hm0:m=[]
   ·refine same hm0 (.ex 0) ?_
    unfold Hp.app
    rw [if_pos hcond]
    subst hm0
    have hxs:xs=[]:=List.length_eq_zero_iff.1 (by simpa using hxl)
    subst hxs
    have hown:H.ownc p.1=some cells:=by unfold Hp.ownc;rw [show H[p.1]?=some ⟨cells,true,true⟩ from g2];rfl
    simp only [Option.bind_some,hown,if_true,List.length_nil,Nat.add_zero,g1,Nat.zero_add]
    rw [if_pos (by omega)]
    simp [stN]
   ·refine big (H.kill p.1) (.inr (λ⟨k,hk⟩=>by cases hk)) (Hp.kill_length _ _).symm (λb hb hne=>?_) ?_
    ·exact (Hp.kill_keep H p.1).2 b hb (λe=>hne (by rw [e];show dI _ _=_;rw [jT hlv];rfl))
    ·unfold Hp.app
     rw [if_pos hcond]
     have hown:H.ownc p.1=some cells:=by unfold Hp.ownc;rw [show H[p.1]?=some ⟨cells,true,true⟩ from g2];rfl
     have:=hpos hm0
     have hz1:1 * E.z<=m.length * E.z:=Nat.mul_le_mul_right _ this
     simp only [Option.bind_some,hown,if_true,g1,Nat.zero_add]
     rw [if_neg (by rw [Nat.add_mul];omega),if_pos h1.symm]
     simp
  ·by_cases hm0:m=[]
   ·refine same hm0 (.ex 0) ?_
    unfold Hp.app
    rw [if_pos hcond]
    subst hm0
    have hxs:xs=[]:=List.length_eq_zero_iff.1 (by simpa using hxl)
    subst hxs
    simp [stN]
   ·refine big H (.inl rfl) rfl (λ_ _ _=>rfl) ?_
    unfold Hp.app
    rw [if_pos hcond]
    have:=hpos hm0
    simp only
    rw [if_neg (by omega)]
    simp [hrow]
theorem W.rowo (w:W H R) {i:Nat} {t:Bool} {s:Sl} {z:Nat} {pre cells rest:List AV} (hi:R[i]?=some (.ow t s z pre cells rest)):Sl.row H s z=some cells:=by
 have hok:=w.ok _ (List.mem_of_getElem? hi)
 have h1:=hok.1
 unfold Sl.row
 by_cases hs0:s.n=0
 ·rw [if_pos hs0,List.length_eq_zero_iff.1 (show cells.length=0 by rw [h1,hs0,Nat.zero_mul])]
 ·obtain ⟨p,e1,e2,e3,e4,_⟩:=Rs.full hok hs0
  rw [if_neg hs0,e2]
  unfold Hp.row
  simp only
  rw [show H[p.1]?=some ⟨pre++cells++rest,true,true⟩ from e4]
  simp only [Bool.true_and,e3,<-h1]
  rw [if_pos (by simp),List.append_assoc,List.drop_append_of_le_length (Nat.le_refl _),List.drop_length,List.nil_append,List.take_left]
theorem ROs.row {α:Type} {E:Ety α} {s:Sl} {l:List α} (h:ROs E H R s l) {z:Nat} (hz:z=E.z):∃ cells,Sl.row H s z=some cells/\CR E H R cells l:=by
 subst hz
 obtain ⟨hsn,hf,cells,cr,hrow,ho⟩:=h
 exact ⟨cells,hrow,cr⟩
theorem W.borrow {Rb:List Rs} (w:W H (Rb++R)) {i:Nat} {α:Type} {E:Ety α} {t:Bool} {s:Sl} {pre cells rest:List AV} {l:List α} (hi:Rb[i]?=some (.ow t s E.z pre cells rest)) (cr:CR E H (Rb++R) cells l):ROs E H R s l:=by
 have hil:i<Rb.length:=(List.getElem?_eq_some_iff.1 hi).1
 have hi':(Rb++R)[i]?=some (.ow t s E.z pre cells rest):=by rw [List.getElem?_append_left hil];exact hi
 have hsn:=w.own_n hi' cr
 have hok:=w.ok _ (List.mem_of_getElem? hi')
 have hst:=w.right.2
 have hrow:=w.rowo hi'
 have hk:∀ p,s.n≠0->s.a=some p->Rs.has (.ow t s E.z pre cells rest) p.1:=λp h0 hp=>by
  obtain ⟨_,_,_,_,_,e5⟩:=Rs.full hok h0
  show dI t s=_;rw [jT e5,hp];rfl
 exact ⟨hsn,hok.2.2.2.2.1,cells,cr.step hst,hrow,λp h0 hp=>⟨Rs.ok_lt hok (hk p h0 hp),w.apart (List.mem_of_getElem? hi) (hk p h0 hp)⟩⟩
theorem N_ {b o n j m:Nat} {cells:List AV} (h:H.row b o n=some cells) (hm:j+m<=n):H.row b (o+j) m=some ((cells.drop j).take m):=by
 unfold Hp.row at h ⊢
 split at h
 ·rename_i k hk
  obtain ⟨h1,h2⟩:=eD h
  cases h2
  simp only [Bool.and_eq_true,decide_eq_true_eq] at h1
  simp only [h1.1,Bool.true_and]
  rw [if_pos (by rw [decide_eq_true_eq];omega)]
  congr 1
  rw [List.drop_take,List.take_take,List.drop_drop,Nat.min_eq_left (by omega)]
 ·cases h
theorem Oa {α:Type} {l x:List α} {a b:Int} (h:jU l a b=some x):(0<=a/\a<=b/\b<=l.length)/\x=(l.take b.toNat).drop a.toNat/\a<l.length:=by
 unfold jU at h;obtain ⟨⟨h1,h2,h3,h4⟩,h5⟩:=eD h;cases h5;exact ⟨⟨h1,h2,h3⟩,rfl,h4⟩
end
end Go.AE
end
section
namespace Go.AE
variable {H:Hp} {R:List Rs} {Q:AV->Hp->Prop}
theorem aY (w:W H R) {cells:List AV} {K:Hp->OA} (g:∀ H',W H' (.blk H.length cells::R)->Fr H R H' (.blk H.length cells::R)->∃ v H'',K H'=some (v,H'')/\Q v H'') :
  ∃ v H'',(Hp.new H cells).bind K=some (v,H'')/\Q v H'':=by
 obtain ⟨H',e,w',s⟩:=w.new cells;exact aj e (g H' w' s)
theorem dl {α:Type} (E:Ety α) (w:W H R) {cells:List AV} {n:Nat} {l:List α} {K:Hp->OA} (hz:Nat.blt 0 E.z=true) (cr:CR E H R cells l) (hn:n=l.length)
  (g:∀ H',W H' (.own ⟨some (H.length,0),n,.ex n⟩ E.z cells::R)->Fr H R H' (.own ⟨some (H.length,0),n,.ex n⟩ E.z cells::R)->CR E H' (.own ⟨some (H.length,0),n,.ex n⟩ E.z cells::R) cells l->∃ v H'',K H'=some (v,H'')/\Q v H'') :
  ∃ v H'',(Hp.new H cells).bind K=some (v,H'')/\Q v H'':=by
 obtain ⟨H',e,w',s⟩:=w.newS cells n E.z (by rw [hn];exact cr.length) (Nat.le_of_ble_eq_true hz)
 exact aj e (g H' w' s (cr.step s))
theorem XP (w:W H R) {i:Nat} {b:Nat} {cells:List AV} {o:Nat} {v:AV} {K:Hp->OA} (hi:R[i]?=some (.blk b cells)) (ho:Nat.blt o cells.length=true) (hv:v.isCell=true)
  (g:∀ H',W H' (R.set i (.blk b (cells.set o v)))->Fr H R H' (R.set i (.blk b (cells.set o v)))->∃ v H'',K H'=some (v,H'')/\Q v H''):∃ v' H'',(Hp.st H b o v).bind K=some (v',H'')/\Q v' H'':=by
 obtain ⟨H',e,w',s⟩:=w.st hi (Nat.le_of_ble_eq_true ho) hv
 exact aj e (g H' w' s)
theorem lI (w:W H R) (i:Nat) {b o:Nat} {cells:List AV} {k:IntKind} {n:Int} {K:_->OA} (g:∃ v H',K n=some (v,H')/\Q v H') (hi:R[i]?=some (.blk b cells):=by exact rfl) (hv:cells[o]?=some (.int k n):=by exact rfl):∃ v H',(H.ldI k b o).bind K=some (v,H')/\Q v H':=aj (aC (w.ld hi hv)) g
theorem lSl (w:W H R) (i:Nat) {b o:Nat} {cells:List AV} {n:Sl} {K:_->OA} (g:∃ v H',K n=some (v,H')/\Q v H') (hi:R[i]?=some (.blk b cells):=by exact rfl) (hv:cells[o]?=some (.sl n):=by exact rfl):∃ v H',(H.ldSl b o).bind K=some (v,H')/\Q v H':=aj (kV (w.ld hi hv)) g
theorem br {α:Type} {a:α} {K:α->OA} (g:∃ v H',K a=some (v,H')/\Q v H'):∃ v H',(some a).bind K=some (v,H')/\Q v H':=g
theorem ak (w:W H R) (i:Nat) {b:Nat} {cells:List AV} {o:Nat} {v:AV} {K:Hp->OA}
  (g:∀ H',W H' (R.set i (.blk b (cells.set o v)))->Fr H R H' (R.set i (.blk b (cells.set o v)))->∃ v H'',K H'=some (v,H'')/\Q v H'') (hi:R[i]?=some (.blk b cells):=by exact rfl) (ho:Nat.blt o cells.length=true:=by exact rfl) (hv:v.isCell=true:=by exact rfl):∃ v' H'',(Hp.st H b o v).bind K=some (v',H'')/\Q v' H'':=XP w hi ho hv g
theorem aT {α:Type} {l l':List α} {n:Nat} {x:α} (h:some (l.set n x)=some l'):l'.length=l.length:=by cases h;simp
theorem bV {α:Type} [Inhabited α] (E:Ety α) (w:W H R) {i:Nat} {t:Bool} {s:Sl} {z:Nat} {pre cells rest:List AV} {l l':List α} {k:Int} {n j:Nat} {p:Nat×Nat} {v:AV} {x':α} {K:Hp->OA} (hi:R[i]?=some (.ow t s E.z pre cells rest)) (hz:z=E.z) (cr:CR E H R cells l)
  (hn:ix l k=some n) (hp:Sl.idx s k z=some p) (hx:some (l.set n x')=some l') (hj:Nat.blt j E.z=true) (hv:v.isCell=true) (hr:∀ cs,E.rep H R cs (gt l n)->E.rep H R (cs.set j v) x')
  (g:∀ H' cells',W H' (R.set i (.ow t s E.z pre cells' rest))->Fr H R H' (R.set i (.ow t s E.z pre cells' rest))->CR E H' (R.set i (.ow t s E.z pre cells' rest)) cells' l'->∃ v H'',K H'=some (v,H'')/\Q v H'') :
  ∃ v' H'',(Hp.st H p.1 (p.2+j) v).bind K=some (v',H'')/\Q v' H'':=by
 obtain ⟨g1,g2⟩:=FJ hn
 obtain ⟨H',cells',e,w',s',c'⟩:=w.sto hi hz cr g2 g1 hp (Nat.le_of_ble_eq_true hj) hv hr
 cases hx
 exact aj e (g H' cells' w' s' c')
theorem jN {α:Type} (E:Ety α) (x:α) (w:W H R) {zero:List AV} {bytes:Nat} {n:Int} {l:List α} {K:Sl×Hp->OA} (hx:E.rep H R zero x) (hz:Nat.blt 0 E.z=true) (hb:Nat.ble bytes 16384=true) (hl:mkn n x=some l)
  (g:∀ H' cells,W H' (.own ⟨some (H.length,0),l.length,.ex l.length⟩ E.z cells::R)->Fr H R H' (.own ⟨some (H.length,0),l.length,.ex l.length⟩ E.z cells::R) ->
   CR E H' (.own ⟨some (H.length,0),l.length,.ex l.length⟩ E.z cells::R) cells l->∃ v H'',K (⟨some (H.length,0),l.length,.ex l.length⟩,H')=some (v,H'')/\Q v H'') :
  ∃ v' H'',(Hp.mk H zero bytes n n).bind K=some (v',H'')/\Q v' H'':=by
 obtain ⟨H',cells,e,w',s',c'⟩:=w.mkS hx (Nat.le_of_ble_eq_true hz) (Nat.le_of_ble_eq_true hb) hl
 exact aj e (g H' cells w' s' c')
theorem fQ {α:Type} (E:Ety α) (w:W H R) {i:Nat} {s:Sl} {z bytes n:Nat} {cells xs:List AV} {l m x:List α} {K:Sl×Hp->OA} (hi:R[i]?=some (.own s E.z cells)) (hz:z=E.z) (cr:CR E H R cells l) (hm:CR E H R xs m) (hn:n=m.length)
  (hb:Nat.ble bytes 16384=true) (hx:apn l m=some x)
  (g:∀ a c H',W H' (R.set i (.own ⟨a,x.length,c⟩ E.z (cells++xs)))->Fr H R H' (R.set i (.own ⟨a,x.length,c⟩ E.z (cells++xs))) ->
   CR E H' (R.set i (.own ⟨a,x.length,c⟩ E.z (cells++xs))) (cells++xs) x->((∃ c,s.c=.ex c)->aO H H')->∃ v H'',K (⟨a,x.length,c⟩,H')=some (v,H'')/\Q v H'') :
  ∃ v' H'',(Hp.app H z bytes s n xs).bind K=some (v',H'')/\Q v' H'':=by
 obtain ⟨a,c,H',e,w',s',c',x'⟩:=w.app hi hz cr hm hn (Nat.le_of_ble_eq_true hb) hx
 exact aj e (g a c H' w' s' c' x')
theorem aM {x:OA} {K:AV×Hp->OA} {Q1:AV->Hp->Prop} (h:∃ u H1,x=some (u,H1)/\Q1 u H1) (g:∀ u H1,Q1 u H1->∃ v H',K (u,H1)=some (v,H')/\Q v H') :
  ∃ v H',x.bind K=some (v,H')/\Q v H':=by
 obtain ⟨u,H1,e,q⟩:=h;rw [e];exact g u H1 q
theorem W.frz (w:W H R) {i:Nat} {α:Type} (E:Ety α) {t:Bool} {s:Sl} {pre cells rest:List AV} {l:List α} (hi:R[i]?=some (.ow t s E.z pre cells rest)) (cr:CR E H R cells l):W H (R.eraseIdx i)/\Fr H R H (R.eraseIdx i)/\ROs E H (R.eraseIdx i) s l:=by
 have hil:i<R.length:=(List.getElem?_eq_some_iff.1 hi).1
 have key:W H ([.ow t s E.z pre cells rest]++R.eraseIdx i)/\Fr H R H ([.ow t s E.z pre cells rest]++R.eraseIdx i):=by
  refine w.re (λj=>if j=0 then i else if j - 1<i then j - 1 else j) (λj r hj=>?_) (λj j' hj hj' hne=>?_)
  ·cases j with
   | zero=>simp at hj;simp [hi,hj]
   | succ j=>
    simp only [List.singleton_append,List.getElem?_cons_succ,List.getElem?_eraseIdx] at hj
    simp only [Nat.succ_ne_zero,if_false,Nat.add_sub_cancel]
    split at hj
    ·rename_i c;rw [if_pos c];exact hj
    ·rename_i c;rw [if_neg c];exact hj
  ·split <;> split <;> (try split) <;> (try split) <;> omega
 exact ⟨key.1.right.1,key.2.trans key.1.right.2,key.1.borrow (i:=0) rfl (cr.step key.2)⟩
theorem W.right1 {r:Rs} (w:W H (r::R)):W H R/\Fr H (r::R) H R:=W.right (Rb:=[r]) w
theorem W.borrow1 {α:Type} (E:Ety α) {t:Bool} {s:Sl} {pre cells rest:List AV} {l:List α} (w:W H (.ow t s E.z pre cells rest::R)) (cr:CR E H (.ow t s E.z pre cells rest::R) cells l):ROs E H R s l:=
 W.borrow (Rb:=[.ow t s E.z pre cells rest]) w (i:=0) rfl cr
theorem W.frame1 {H':Hp} {r:Rs} {R':List Rs} (w:W H (r::R)) (w':W H' R') (st:Fr H R H' R'):W H' (r::R')/\Fr H (r::R) H' (r::R'):=W.frame (Rb:=[r]) w w' st
theorem W.pick' (w:W H R) (ixs:List Nat) (n:Nat) (h:decide (ixs.Nodup)=true) (h':ixs.all (·<n)=true) (hn:(n==0 || (R[n - 1]?).isSome)=true):W H (pk R ixs n)/\Fr H R H (pk R ixs n):=by
 refine w.pick ixs n ?_ h h'
 cases n with
 | zero=>omega
 | succ n=>
  simp only [Nat.add_sub_cancel] at hn
  have:(R[n]?).isSome=true:=by simpa using hn
  rcases Nat.lt_or_ge n R.length with c | c
  ·omega
  ·rw [List.getElem?_eq_none c] at this;cases this
theorem W.pp (w:W H R) (ixs:List Nat) (n:Nat) (h:decide (ixs.Nodup)=true:=by exact rfl) (h':ixs.all (·<n)=true:=by exact rfl) (hn:(n==0 || (R[n - 1]?).isSome)=true:=by exact rfl):W H (pk R ixs n)/\Fr H R H (pk R ixs n):=w.pick' ixs n h h' hn
theorem eQ {α:Type} {l l':List α} {k:Int} {n:Nat} (h:ix l k=some n) (e:l'.length=l.length):ix l' k=some n:=by
 unfold ix at h ⊢;rw [e];exact h
theorem ROs.nil {α:Type} {E:Ety α}:ROs E H R ⟨none,0,.ex 0⟩ []:=⟨rfl,Nat.le_refl _,[],.nil,rfl,λp h0 _=>absurd rfl h0⟩
theorem CR.cons1 {α:Type} {E:Ety α} {v:AV} {vs:List AV} {x:α} {l:List α} (h:E.rep H R [v] x) (t:CR E H R vs l):CR E H R (v::vs) (x::l):=CR.cons h t
theorem Nc {k:IntKind} {cells:List AV} {l:List Int} {i:Nat} (e:cells=l.map (AV.int k)) (h:i<l.length):cells[i]?=some (.int k (gt l i)):=by
 rw [e,List.getElem?_map,eS h];rfl
theorem aO.tr {H H' H'':Hp} {R R':List Rs} (h:aO H H') (s:Fr H R H' R') (h':aO H' H''):aO H H'':=λb hb=>(h' b (Nat.lt_of_lt_of_le hb s.len)).trans (h b hb)
def Out (H0:Hp) (Ri:List Rs) (H:Hp) (R:List Rs) (P:List Rs->Prop):Prop:=W H R/\Fr H0 Ri H R/\P R
def Inn (H:Hp) (R:List Rs) (P:List Rs->Prop):Prop:=W H R/\P R
theorem W.rf (_:W H R):Fr H R H R:=Fr.refl H R
theorem CR.empty {α:Type} {E:Ety α}:CR E H R [] []:=.nil
theorem Na {α:Type} {l m l':List α} (h:some (cpl l m)=some l'):l'.length=l.length:=by
 cases h;unfold cpl;simp only [List.length_append,List.length_take,List.length_drop];omega
theorem xc {b:Nat}:∀ (xs:List AV) (o:Nat) (H:Hp) (cells:List AV) (K:Hp->Option (Nat×Hp)),At H b cells->o+xs.length<=cells.length->(∀ v∈xs,v.isCell=true) ->
  ∃ H',stN H b o xs K=K H'/\At H' b (cells.take o++xs++cells.drop (o+xs.length))/\dd (·=b) H H'/\H'.length=H.length
 | [],o,H,cells,K,ha,hl,hc=>⟨H,rfl,by simpa using ha,dd.refl _ _,rfl⟩
 | x::xs,o,H,cells,K,ha,hl,hc=>by
  simp only [List.length_cons] at hl
  obtain ⟨e1,e2⟩:=ha.st (o:=o) (v:=x) (by omega) (hc x (by simp))
  obtain ⟨H',g1,g2,g3,g4⟩:=xc xs (o+1) _ _ K e2 (by simp;omega) (λv hv=>hc v (by simp [hv]))
  refine ⟨H',?_,?_,(dd.set H b _).trans g3,by rw [g4];simp⟩
  ·unfold stN;rw [e1];exact g1
  ·have e:(cells.set o x).take (o+1)++xs++(cells.set o x).drop (o+1+xs.length)=cells.take o++(x::xs)++cells.drop (o+(x::xs).length):=by
    rw [List.drop_set_of_lt (by omega),List.length_cons,show o+1+xs.length=o+(xs.length+1) by omega]
    congr 1
    rw [List.take_add_one,List.take_set_of_le (Nat.le_refl _),List.getElem?_set_self (by omega)]
    simp
   rw [<- e];exact g2
theorem CR.cell {α:Type} {E:Ety α} {cells:List AV} {l:List α} (h:CR E H R cells l):∀ v∈cells,v.isCell=true:=by
 induction h with
 | nil=>intro v hv;cases hv
 | cons h t ih=>
  intro v hv
  rcases List.mem_append.1 hv with hv | hv
  ·exact E.cell h v hv
  ·exact ih v hv
theorem MZ {α:Type} (E:Ety α) (w:W H R) {i:Nat} {t:Bool} {d s:Sl} {z:Nat} {pre cd rest cs:List AV} {l m l':List α} {K:Nat×Hp->OA} (hi:R[i]?=some (.ow t d E.z pre cd rest)) (hz:z=E.z) (cr:CR E H R cd l) (hr:Sl.row H s E.z=some cs) (cm:CR E H R cs m)
  (hd:d.n=l.length) (hs:s.n=m.length) (hx:some (cpl l m)=some l')
  (g:∀ cd' H',W H' (R.set i (.ow t d E.z pre cd' rest))->Fr H R H' (R.set i (.ow t d E.z pre cd' rest))->CR E H' (R.set i (.ow t d E.z pre cd' rest)) cd' l'->∃ v H'',K (min s.n d.n,H')=some (v,H'')/\Q v H'') :
  ∃ v' H'',(Hp.cpy H z d s).bind K=some (v',H'')/\Q v' H'':=by
 subst hz
 cases hx
 have hok:=w.ok _ (List.mem_of_getElem? hi)
 have hset:∀ cd',cd'=cd->R.set i (.ow t d E.z pre cd' rest)=R:=λcd' e=>by
  subst e
  apply List.ext_getElem?
  intro j
  by_cases ej:i=j
  ·subst ej;rw [List.getElem?_set_self (List.getElem?_eq_some_iff.1 hi).1,hi]
  ·rw [List.getElem?_set_ne ej]
 have hrow:Sl.row H ⟨s.a,min s.n d.n,s.c⟩ E.z=some (cs.take (min s.n d.n * E.z)):=by
  unfold Sl.row at hr ⊢
  by_cases h0:min s.n d.n=0
  ·simp [h0]
  ·rw [if_neg h0]
   rw [if_neg (by omega)] at hr
   have e:Sl.ad ⟨s.a,min s.n d.n,s.c⟩=s.ad:=rfl
   rw [e]
   cases hsa:s.ad with
   | none=>rw [hsa] at hr;cases hr
   | some p=>
    rw [hsa] at hr
    have q:=N_ (j:=0) (m:=min s.n d.n * E.z) (show H.row p.1 p.2 (s.n * E.z)=some cs from hr) (by rw [Nat.zero_add];exact Nat.mul_le_mul_right _ (by omega))
    simpa using q
 have hcl:=cm.length
 have hdl:=cr.length
 have hmin:min s.n d.n * E.z<=cd.length:=by rw [hdl,<-hd];exact Nat.mul_le_mul_right _ (by omega)
 have hxl:(cs.take (min s.n d.n * E.z)).length=min s.n d.n * E.z:=by
  rw [List.length_take,hcl,<-hs];exact Nat.min_eq_left (Nat.mul_le_mul_right _ (by omega))
 have hcr:CR E H R (cs.take (min s.n d.n * E.z)++cd.drop (min s.n d.n * E.z)) (cpl l m):=by
  have e:cpl l m=m.take (min s.n d.n)++l.drop (min s.n d.n):=by
   unfold cpl
   rw [hs,hd]
   rcases Nat.le_total m.length l.length with q | q
   ·rw [Nat.min_eq_left q,List.take_of_length_le q,List.take_of_length_le (Nat.le_refl _)]
   ·rw [Nat.min_eq_right q,List.drop_eq_nil_of_le q,List.drop_eq_nil_of_le (Nat.le_refl _)]
  rw [e];exact (cm.take _).app (cr.drop _)
 by_cases hm0:min s.n d.n=0
 ·have e1:Hp.cpy H E.z d s=some (min s.n d.n,H):=by
   unfold Hp.cpy
   cases hda:d.ad with
   | none=>simp [hm0]
   | some p=>
    simp only
    rw [hrow,hm0]
    simp [stN]
  have hcd:cd=cs.take (min s.n d.n * E.z)++cd.drop (min s.n d.n * E.z):=by rw [hm0];simp
  refine aj e1 (g cd H ?_ ?_ ?_)
  ·rw [hset cd rfl];exact w
  ·rw [hset cd rfl];exact Fr.refl _ _
  ·rw [hset cd rfl];rw [<- hcd] at hcr;exact hcr
 ·obtain ⟨p,e1,e2,e3,e4,e5⟩:=Rs.full hok (by omega)
  obtain ⟨h1,h2,h3,h4,h5,h6⟩:=hok
  obtain ⟨H',g1,g2,g3,g4⟩:=xc (cs.take (min s.n d.n * E.z)) pre.length H (pre++cd++rest) (λH'=>some (min s.n d.n,H')) e4 (by rw [hxl];simp only [List.length_append];omega) (λv hv=>cm.cell v (List.mem_of_mem_take hv))
  have e6:Hp.cpy H E.z d s=some (min s.n d.n,H'):=by
   unfold Hp.cpy
   rw [e2]
   simp only
   rw [hrow,e3]
   exact g1
  have e7:(pre++cd++rest).take pre.length++cs.take (min s.n d.n * E.z)++(pre++cd++rest).drop (pre.length+(cs.take (min s.n d.n * E.z)).length)=pre++(cs.take (min s.n d.n * E.z)++cd.drop (min s.n d.n * E.z))++rest:=by
   rw [hxl,List.append_assoc pre,List.take_left,<-List.drop_drop,List.drop_left,List.drop_append_of_le_length hmin]
   simp
  rw [e7] at g2
  have key:=w.upd (H':=H') (r':=.ow t d E.z pre (cs.take (min s.n d.n * E.z)++cd.drop (min s.n d.n * E.z)) rest) hi (by omega) (λb hb hne=>g3.2 b hb (λe=>hne (by rw [e];show dI t d=_;rw [jT e5,e1];rfl)))
   ⟨by rw [List.length_append,hxl,List.length_drop];omega,h2,h3,λ_=>⟨p,e1,by rw [e2,e1],e3,g2⟩,h5,h6⟩ (λb hb=>.inl hb)
  exact aj e6 (g _ H' key.1 key.2 (hcr.step key.2))
theorem W.cutv {α:Type} {E:Ety α} (w:W H R) {i:Nat} {t:Bool} {s:Sl} {pre cells rest:List AV} {l x:List α} {a b:Int} (hi:R[i]?=some (.ow t s E.z pre cells rest)) (cr:CR E H R cells l) (hx:jU l a b=some x) :
  ∃ c',Sl.cut s E.z a b=some ⟨s.a.map (λp=>(p.1,p.2+a.toNat * E.z)),x.length,c'⟩/\(∀ z o,c'≠.tip z o)/\s.ad=s.a:=by
 obtain ⟨⟨h1,h2,h3⟩,rfl,h4⟩:=Oa hx
 have hsn:=w.own_n hi cr
 have hok:=w.ok _ (List.mem_of_getElem? hi)
 obtain ⟨p,e1,e2,_⟩:=Rs.full hok (by omega)
 have hf:=hok.2.2.2.2.1
 obtain ⟨sa,sn,sc⟩:=s
 simp only at hsn e1 e2
 subst e1
 have hxl:((l.take b.toNat).drop a.toNat).length=b.toNat - a.toNat:=by rw [List.length_drop,List.length_take];omega
 unfold Sl.cut
 unfold Sl.fits at hf
 cases sc with
 | full z'=>
  obtain ⟨hf,_⟩:=hf
  subst hf
  simp only [Option.bind_some]
  rw [if_pos ⟨by omega,by omega,by omega,trivial⟩,if_pos (by omega)]
  exact ⟨_,by rw [hxl];rfl,λz o e=>(by cases e),rfl⟩
 | ex c=>
  simp only at hf ⊢
  rw [if_pos ⟨by omega,by omega,by omega⟩,if_neg (by omega)]
  exact ⟨_,by rw [hxl],λz o e=>(by cases e),rfl⟩
 | tip z' o=>exact absurd hf.2.2 (show ¬ sn=0 by omega)
end Go.AE
end
section
namespace Go.AE
open Go.RowKit Go.ChangeShapes Go.WideShapes Go.Joins Go.Deep
variable {P:Program}
def Oc {α:Type} (P:Program) (t:TypeId) (E:Ety α) (ok:α->Prop):Prop:=
 ∀ {H:Type} {enc:TypeId×Value->H} {w:World} {fuel:Nat} {cs:List Value} {y:DataW H×List MemPlace},DataW.trod enc P w 0 (λ_=>true) true fuel t cs=some y ->
  ∃ cells x,(∀ Φ,AV.toVs Φ cells=cs)/\(∀ Φ S,∀ v∈cells,v.ok Φ S/\v.isCell=true)/\(∀ H R,E.rep H R cells x)/\ok x
theorem XR {t:TypeId} {k:IntKind} (ht:P.underlying t=some (.int k)):Oc P t (dk k) (λn=>(Lit.int k n).wf=true):=λh=>by
 obtain ⟨n,rfl,_,hw⟩:=DataW.trod_int ht h
 exact ⟨[.int k n],n,λ_=>by simp [AV.toVs,AV.toV],λ_ _ v hv=>by cases List.mem_singleton.1 hv;simp [AV.ok,AV.isCell],λ_ _=>rfl,hw⟩
theorem Od {w:World} {r:Reach} {b:Nat} {u:TypeId} {a:Addr} {n m:Nat} (h:Cell.okWide P w r b u (.slice (some a) n m)):a.spot=none:=by
 unfold Cell.okWide Cell.ok at h
 split at h <;> (try split at h) <;> simp_all [World.has]
theorem XS {w:World} {r:Reach} {b:Nat} {t e:TypeId} {a:Addr} {n m:Nat} (ht:P.underlying t=some (.slice e)) (h:Value.okWide P w r b t (.slice (some a) n m)):a.spot=none:=by
 simp only [Value.okWide,ht] at h;exact Od h
theorem CR.of_list {α:Type} {E:Ety α} {H:Hp} {R:List Rs}:∀ (L:List (List AV×α)),(∀ p∈L,E.rep H R p.1 p.2)->CR E H R (L.map (·.1)).flatten (L.map (·.2))
 | [],_=>.nil
 | p::L,h=>.cons (h p (by simp)) (CR.of_list L λq hq=>h q (by simp [hq]))
theorem XT {L:List (List AV)} {z:Nat} (hz:∀ c∈L,c.length=z):∀ {i:Nat} {v:AV},L.flatten[i]?=some v->∃ j k c,L[j]?=some c/\c[k]?=some v/\i=j * z+k/\k<z:=by
 induction L with
 | nil=>intro i v h;simp at h
 | cons c L ih=>
  intro i v h
  have hc:=hz c (by simp)
  rw [List.flatten_cons,List.getElem?_append] at h
  split at h
  ·rename_i hi;exact ⟨0,i,c,rfl,h,by omega,by omega⟩
  ·rename_i hi
   obtain ⟨j,k,c',h1,h2,h3,h4⟩:=ih (λc hc=>hz c (by simp [hc])) h
   exact ⟨j+1,k,c',by simpa using h1,h2,by rw [Nat.succ_mul];omega,h4⟩
theorem Ro.slice {α:Type} [Inhabited α] {E:Ety α} {ok:α->Prop} {Φ:Phi} {H:Hp} {w:World} (ro:Ro Φ H w) {t e:TypeId} (he:Oc P e E ok) (hz:P.cellsOf e=E.z) (ht:P.underlying t=some (.slice e)) {X:Type} {enc:TypeId×Value->X} {fuel:Nat} {v:Value} {y:DataW X×List MemPlace}
  (h:DataW.trod enc P w 0 (λ_=>true) true fuel t [v]=some y) (hs:∀ a n m,v=.slice (some a) n m->a.spot=none) :
  ∃ (Φ':Phi) (H':Hp) (s:Sl) (l:List α),Ro Φ' H' w/\H <+: H'/\Φ.agree Φ' (·<H.length)/\(AV.sl s).toV Φ'=v/\(AV.sl s).ok Φ' (·<H'.length)/\ROs E H' [] s l/\l.length<=maxLen/\∀ x∈l,ok x:=by
 rcases open_slice ht h with ⟨hv,_⟩ | ⟨a,len,cap,m,n,D,Pl,hv,_,hl,hm,hmm,_,hi⟩
 ·cases hv
  exact ⟨Φ,H,⟨none,0,.ex 0⟩,[],ro,List.prefix_refl _,Phi.agree_refl _ _,by simp [AV.toV,Sl.toV],by simp [AV.ok],ROs.nil,by simp,λx hx=>by cases hx⟩
 ·cases hv
  have hsp:=hs a len cap rfl
  have hcap:m=cap:=by simpa using hmm
  obtain ⟨X,hX⟩:=choose_lt (α:=List AV×α) (n:=len) (p:=λi x=>∃ cs',w.cells? 0 (a.add (i * P.cellsOf e)) (P.cellsOf e)=some cs'/\(∀ Φ,AV.toVs Φ x.1=cs')/\(∀ Φ S,∀ v∈x.1,v.ok Φ S/\v.isCell=true)/\(∀ H R,E.rep H R x.1 x.2)/\ok x.2) (λi hlt=>by
   obtain ⟨cs',h1,h2⟩:=hi i (by omega)
   obtain ⟨c,x,q1,q2,q3,q4⟩:=he h2
   exact ⟨(c,x),cs',h1,q1,q2,q3,q4⟩)
  have hL:∀ p∈(List.range len).map X,∃ i,i<len/\p=X i:=λp hp=>by
   obtain ⟨i,hi,rfl⟩:=List.mem_map.1 hp
   exact ⟨i,List.mem_range.1 hi,rfl⟩
  have hrep:∀ H R,∀ p∈(List.range len).map X,E.rep H R p.1 p.2:=λH R p hp=>by
   obtain ⟨i,hi,rfl⟩:=hL p hp
   obtain ⟨_,_,_,_,h3,_⟩:=hX i hi
   exact h3 H R
  have hlen:∀ c∈((List.range len).map X).map (·.1),c.length=E.z:=λc hc=>by
   obtain ⟨p,hp,rfl⟩:=List.mem_map.1 hc
   exact E.len (hrep [] [] p hp)
  have hcells:∀ v∈(((List.range len).map X).map (·.1)).flatten,∀ Φ S,v.ok Φ S/\v.isCell=true:=λv hv Φ S=>by
   obtain ⟨c,hc,hv⟩:=List.mem_flatten.1 hv
   obtain ⟨p,hp,rfl⟩:=List.mem_map.1 hc
   obtain ⟨i,hi,rfl⟩:=hL p hp
   obtain ⟨_,_,_,h2,_⟩:=hX i hi
   exact h2 Φ S v hv
  have hcr:∀ H R,CR E H R (((List.range len).map X).map (·.1)).flatten (((List.range len).map X).map (·.2)):=λH R=>CR.of_list _ (hrep H R)
  have hll:(((List.range len).map X).map (·.2)).length=len:=by simp
  have hfl:(((List.range len).map X).map (·.1)).flatten.length=len * E.z:=by rw [(hcr [] []).length,hll]
  have hro:=ro.snoc a.block a.off 0 (((List.range len).map X).map (·.1)).flatten (λv hv=>hcells v hv _ _) (λi v hv=>by
   obtain ⟨j,k,c,g1,g2,g3,g4⟩:=XT hlen hv
   obtain ⟨hj,hc⟩:=List.getElem?_eq_some_iff.1 g1
   have hj':j<len:=by simpa using hj
   have hc':(X j).1=c:=by simpa using hc
   obtain ⟨cs',h1,h2,h3,h4,h5⟩:=hX j hj'
   obtain ⟨_,hcl,hat⟩:=World.cells?_some h1
   have hk:=hat k (by rw [hz];exact g4)
   have e1:cs'[k]?=some (v.toV Φ):=by rw [<- h2 Φ,jo,hc',g2];rfl
   rw [e1,hz] at hk
   rw [<- hk]
   congr 1
   obtain ⟨ab,ao,as⟩:=a
   simp only at hsp
   subst hsp
   rw [Addr.add_none,Addr.add_none]
   simp only [g3,Nat.add_assoc])
  refine ⟨Φ.put H.length a.block a.off 0,H++[⟨(((List.range len).map X).map (·.1)).flatten,false,true⟩],⟨some (H.length,0),len,.ex cap⟩,((List.range len).map X).map (·.2),hro,List.prefix_append _ _,Phi.put_agree (by simp),?_,?_,?_,?_,?_⟩
  ·simp only [AV.toV,Sl.toV,Option.map_some,Phi.put_b,Phi.put_o,Nat.add_zero]
   obtain ⟨ab,ao,as⟩:=a
   simp only at hsp
   subst hsp;rfl
  ·simp only [AV.ok]
   intro p hp
   cases hp
   exact ⟨by simp,λz hz=>by cases hz⟩
  ·refine ⟨hll.symm,hl,_,hcr _ _,?_,λp h0 hp=>by cases hp;exact ⟨by simp,λ⟨r,hr,_⟩=>by cases hr⟩⟩
   generalize (((List.range len).map X).map (·.1)).flatten=C at hfl ⊢
   unfold Sl.row
   by_cases h0:len=0
   ·have:C=[]:=List.length_eq_zero_iff.1 (by rw [hfl,h0,Nat.zero_mul])
    rw [if_pos h0,this]
   ·rw [if_neg h0]
    rw [Sl.ad_ex rfl]
    unfold Hp.row
    have e:(H++[(⟨C,false,true⟩:Blk)])[H.length]?=some ⟨C,false,true⟩:=by simp
    simp only [e]
    rw [if_pos (by simp [hfl]),List.drop_zero,<-hfl,List.take_length]
  ·rw [hll];omega
  ·intro x hx
   obtain ⟨p,hp,rfl⟩:=List.mem_map.1 hx
   obtain ⟨i,hi,rfl⟩:=hL p hp
   obtain ⟨_,_,_,_,_,h5⟩:=hX i hi
   exact h5
theorem Fr.pre {H H':Hp} (h:H <+: H'):Fr H [] H' []:=
 ⟨h.length_le,λb hb _=>by obtain ⟨l,rfl⟩:=h;exact List.getElem?_append_left hb,λb ⟨r,hr,_⟩=>by cases hr⟩
theorem W.none (H:Hp):W H []:=⟨λr hr=>absurd hr (List.not_mem_nil),λi j r r' h=>absurd h (by simp)⟩
end Go.AE
end
section
namespace Go.AE
open Go.RowKit
theorem Rel.newAt {Φ:Phi} {S:Nat->Prop} {H:Hp} {w w':World} (h:Rel Φ S H w) (cs:List AV) (c:Array Value) (T:TypeId) (B:Nat) (hw:Below w.heap.size w w') (hB:w.heap.size<=B) (hBc:w'.heap[B]?=some (.cells c T (0,0)))
  (hcl:∀ v∈cs,v.ok Φ S/\v.isCell=true) (hlen:cs.length<=c.size) (hc:∀ (i:Nat) (v:AV),cs[i]?=some v->c[i]?=some (v.toV Φ)) :
  Post Φ S H w (Φ.put H.length B 0 c.size) (H++[⟨cs,true,true⟩]) w':=by
 have hS:¬ S H.length:=λq=>Nat.lt_irrefl _ (h.lt _ q)
 have hag:Φ.agree (Φ.put H.length B 0 c.size) S:=Phi.put_agree hS
 have hold:∀ b blk,S b->(H++[(⟨cs,true,true⟩:Blk)])[b]?=some blk->H[b]?=some blk:=λb blk hb hx=>by
  rwa [List.getElem?_append_left (h.lt b hb)] at hx
 have hnew:∀ blk,(H++[(⟨cs,true,true⟩:Blk)])[H.length]?=some blk->blk=⟨cs,true,true⟩:=λblk hx=>by
  simpa using hx.symm
 have hne:∀ b,S b->b≠H.length:=λb hb e=>hS (e ▸ hb)
 have hbn:∀ b,S b->(Φ.put H.length B 0 c.size).b b=Φ.b b:=λb hb=>(hag b hb).1
 have hown:∀ b blk,S b->H[b]?=some blk->blk.live=true->blk.own=true->Φ.b b<w.heap.size:=λb blk hb h1 h2 h3=>by
  obtain ⟨c',T',e,_⟩:=h.own b blk hb h1 h2 h3
  exact (Array.getElem?_eq_some_iff.1 e).1
 refine ⟨hag,by simp,⟨?_,?_,?_,?_,?_,?_⟩,?_,hw.os,hw.tape,hw.output,hw.size,?_,?_⟩
 ·intro b hb
  rcases dV hb with hb | rfl
  ·have:=h.lt b hb;simp;omega
  ·simp
 ·intro b blk hb hx hl v hv
  have himp:∀ b,S b->ext S H (H++[(⟨cs,true,true⟩:Blk)]) b:=λb hb=>.inl hb
  rcases dV hb with hb | rfl
  ·obtain ⟨q1,q2⟩:=h.closed b blk hb (hold b blk hb hx) hl v hv
   exact ⟨AV.ok_agree hag himp v q1,q2⟩
  ·obtain rfl:=hnew blk hx
   obtain ⟨q1,q2⟩:=hcl v hv
   exact ⟨AV.ok_agree hag himp v q1,q2⟩
 ·intro b blk hb hx hl i v hv
  rcases dV hb with hb | rfl
  ·have hc':=h.cell b blk hb (hold b blk hb hx) hl i v hv
   have hin:=AV.ok_inS v (h.closed b blk hb (hold b blk hb hx) hl v (List.mem_of_getElem? hv)).1
   rw [(hag b hb).1,(hag b hb).2.1,AV.toV_agree hag v hin]
   exact (hw.cell (cell?_lt hc')).trans hc'
  ·obtain rfl:=hnew blk hx
   have hin:=AV.ok_inS v (hcl v (List.mem_of_getElem? hv)).1
   rw [Phi.put_b,Phi.put_o,AV.toV_agree hag v hin]
   unfold World.cell?
   simp only [hBc]
   simpa using hc i v hv
 ·intro b blk hb hx hl ho
  rcases dV hb with hb | rfl
  ·obtain ⟨c',T',e,e2,e3⟩:=h.own b blk hb (hold b blk hb hx) hl ho
   refine ⟨c',T',?_,?_,?_⟩
   ·rw [(hag b hb).1]
    exact (hw.block _ (Array.getElem?_eq_some_iff.1 e).1).trans e
   ·rw [(hag b hb).2.1,(hag b hb).2.2];exact e2
   ·rw [(hag b hb).2.2];exact e3
  ·obtain rfl:=hnew blk hx
   refine ⟨c,T,?_,?_,?_⟩
   ·rw [Phi.put_b];exact hBc
   ·rw [Phi.put_o,Phi.put_k];omega
   ·rw [Phi.put_k];exact hlen
 ·intro b blk b' blk' hb hb' hx hx' hl hl' ho ho' e
  rcases dV hb with hb | rfl
  ·rcases dV hb' with hb' | rfl
   ·rw [hbn b hb,hbn b' hb'] at e
    exact h.inj b blk b' blk' hb hb' (hold b blk hb hx) (hold b' blk' hb' hx') hl hl' ho ho' e
   ·rw [hbn b hb,Phi.put_b] at e
    have:=hown b blk hb (hold b blk hb hx) hl ho
    omega
  ·rcases dV hb' with hb' | rfl
   ·rw [hbn b' hb',Phi.put_b] at e
    have:=hown b' blk' hb' (hold b' blk' hb' hx') hl' ho'
    omega
   ·rfl
 ·intro b blk b' blk' hb hb' hx hx' hl hl' ho ho' hne' e
  rcases dV hb' with hb' | rfl
  ·rcases dV hb with hb | rfl
   ·rw [hbn b hb,hbn b' hb'] at e
    exact h.ro b blk b' blk' hb hb' (hold b blk hb hx) (hold b' blk' hb' hx') hl hl' ho ho' hne' e
   ·rw [hbn b' hb',Phi.put_b] at e
    obtain ⟨v,hv⟩:∃ v,blk'.cells[0]?=some v:=by
     cases hcs:blk'.cells with
     | nil=>exact absurd hcs hne'
     | cons v l=>exact ⟨v,rfl⟩
    have:=cell?_lt (h.cell b' blk' hb' (hold b' blk' hb' hx') hl' 0 v hv)
    simp at this
    omega
  ·obtain rfl:=hnew blk' hx'
   simp at ho'
 ·rintro k hk ⟨b,blk,hb,hx,ho,hl,rfl⟩
  rcases dV hb with hb | rfl
  ·exact ⟨b,blk,hb,hold b blk hb hx,ho,hl,(hbn b hb).symm⟩
  ·rw [Phi.put_b] at hk;omega
 ·intro k hk _
  exact hw.block k hk
 ·intro b blk hb hx hl ho
  rcases dV hb with hb | rfl
  ·exact ⟨hb,hold b blk hb hx⟩
  ·obtain rfl:=hnew blk hx
   simp at ho
theorem Rel.sameAt {Φ:Phi} {S:Nat->Prop} {H:Hp} {w w':World} (h:Rel Φ S H w) (hw:Below w.heap.size w w'):Post Φ S H w Φ H w':=by
 have key:∀ {b:Nat} {x:Obj},w.heap[b]?=some x->w'.heap[b]?=some x:=λ{b x} e=>(hw.block _ (Array.getElem?_eq_some_iff.1 e).1).trans e
 refine ⟨Phi.agree_refl _ _,Nat.le_refl _,?_,?_,hw.os,hw.tape,hw.output,hw.size,λk hk _=>hw.block k hk,λb blk hb hx _ _=>by rw [jl] at hb;exact ⟨hb,hx⟩⟩
 ·rw [jl]
  refine ⟨h.lt,h.closed,λb blk hb hx hl i v hv=>?_,λb blk hb hx hl ho=>?_,h.inj,h.ro⟩
  ·have hc':=h.cell b blk hb hx hl i v hv
   exact (hw.cell (cell?_lt hc')).trans hc'
  ·obtain ⟨c,T,e,e2,e3⟩:=h.own b blk hb hx hl ho
   exact ⟨c,T,key e,e2,e3⟩
 ·intro k _ ho;rw [jl] at ho;exact ho
end Go.AE
end
section
namespace Go.AE
open Go.RowKit Go.Maps
def nst (zs:List Int):Nat->List Int×List Int
 | 0=>([],[])
 | k+1=>(bif (nst zs k).1.contains (zs.getD k 0) then (nst zs k).1 else (nst zs k).1++[zs.getD k 0],
   (nst zs k).2++[(((bif (nst zs k).1.contains (zs.getD k 0) then (nst zs k).1 else (nst zs k).1++[zs.getD k 0]).idxOf (zs.getD k 0):Nat):Int)])
def ia (zs:List Int):List Int:=(nst zs zs.length).2
theorem MW (zs:List Int):∀ k,(nst zs k).1.length<=k
 | 0=>Nat.le_refl _
 | k+1=>by
  have:=MW zs k
  unfold nst
  cases (nst zs k).1.contains (zs.getD k 0) <;> simp <;> omega
theorem xd (zs:List Int):∀ k,(nst zs k).2.length=k
 | 0=>rfl
 | k+1=>by
  unfold nst
  simp [xd zs k]
theorem XU {l m:List Int} {x:Int} (h:x∈l):(l++m).idxOf x=l.idxOf x:=by
 rw [List.idxOf_append,if_pos h]
theorem WK {l:List Int} (h:∀ n∈l,(Lit.int .i64 n).wf=true) (k:Nat):(Lit.int .i64 (l.getD k 0)).wf=true:=by
 rw [List.getD_eq_getElem?_getD]
 by_cases hk:k<l.length
 ·rw [List.getElem?_eq_getElem hk];exact h _ (List.getElem_mem hk)
 ·rw [List.getElem?_eq_none (by omega)];decide
theorem wS {w:World} {base:Nat} {e:TypeId} {size:Nat} {v:Value} {n:Nat} {xs:List Value} (h:w.ownsRow base e size v n xs) {b:Nat} (hb:b<base):some b≠v.ownBlock:=λe1=>by
 have:=(h.lt b e1.symm).1
 omega
structure ND (D:DataW Unit) (seen:List Int):Prop where
 map:IsMap D
 has:∀ x:Int,Maps.has D (.int .i64 x)=seen.contains x
 at_:∀ x:Int,seen.contains x=true->∀ z,D.atKey (.int .i64 x) z=.lit (.int .i64 (seen.idxOf x:Nat))
 size:Maps.size D=seen.length
theorem ND.nil:ND (.map []) []:=⟨isMap_empty,λx=>rfl,λx h=>by simp at h,rfl⟩
theorem ND.new {D:DataW Unit} {seen:List Int} (h:ND D seen) (ht:Tidy D) {x:Int} (hx:seen.contains x=false):ND (D.put (.int .i64 x) (.lit (.int .i64 (Maps.size D:Nat)))) (seen++[x]) where
 map:=h.map.put _ _
 has:=λy=>by
  by_cases e:y=x
  ·subst e;rw [has_put_same h.map (show WideAt.IsKeyLit (.int .i64 y) from trivial)];simp
  ·rw [has_put_other (λq=>e (by cases q;rfl)),h.has];simp [e]
 at_:=λy hy z=>by
  by_cases e:y=x
  ·subst e
   rw [atKey_put_same h.map (show WideAt.IsKeyLit (.int .i64 y) from trivial),h.size]
   have:y ∉ seen:=by simpa using hx
   rw [List.idxOf_append,if_neg this];simp
  ·have hm:y∈seen:=by simpa [e] using hy
   rw [atKey_put_other (λq=>e (by cases q;rfl)),h.at_ y (by simpa using hm),XU hm]
 size:=by
  have h1:=size_put (k:=.int .i64 x) ht (.lit (.int .i64 (Maps.size D:Nat)))
  rw [h.has x,hx] at h1
  rw [h1,h.size];simp
end Go.AE
end
section
namespace Go.AE
open Go.RowKit
def pQ:List AV->Option (List Int)
 | []=>some []
 | v::l=>(v.asI .i64).bind λn=>(pQ l).bind λm=>some (n::m)
theorem Oe:∀ {l:List AV} {m:List Int},pQ l=some m->l=m.map (AV.int .i64)
 | [],m,h=>by cases h;rfl
 | v::l,m,h=>by
  unfold pQ at h
  obtain ⟨n,h1,h⟩:=af h
  obtain ⟨m',h2,h⟩:=af h
  cases h
  rw [AV.asI_some h1,Oe h2];rfl
theorem Nd:∀ (m:List Int),pQ (m.map (AV.int .i64))=some m
 | []=>rfl
 | n::m=>by rw [List.map_cons,pQ,XM,Option.bind_some,Nd m];rfl
def wfs (l:List Int):Bool:=l.all λn=>(Lit.int .i64 n).wf
noncomputable def sF (a:Sl) (H:Hp):OA:=
 (Sl.row H a 1).bind λcells=>(pQ cells).bind λl=>
  if l.length<=4294967296/\wfs l=true then (if a.n=0 then some (.sl ⟨none,0,.ex 0⟩,H) else some (.sl ⟨some (H.length,0),l.length,.full 1⟩,H++[⟨(ia l).map (AV.int .i64),true,true⟩])) else none
theorem WL {P : Program} {f : FuncId} {fn : Func} (hf : P.funcs[f]? = some fn) (hname : (fn.name == "runtime.NumGoroutine") = false) (hb : fn.body.isSome = true) (vs : Array Value) (w : World) : (callFunc f vs).run P w = .ok (.enter f vs) w := by
 have h1 : fn.name ≠ "runtime.NumGoroutine" := by simpa using hname
 obtain ⟨code,hc⟩:=Option.isSome_iff_exists.1 hb
 simp [callFunc,hf,h1,hc,mark]
structure NumOk (P:Program) (f:FuncId) (e:TypeId):Prop where
 nil_:∀ (a:Option Addr) (cap:Nat) (w:World),Calls P f #[.slice a 0 cap] w λe w'=>e=.returned (.slice none 0 0)/\Below w.heap.size w w'
 any:∀ (b off len cap:Nat) (zs:List Int) (w:World),len<=4294967296->len<=zs.length->b<w.heap.size->(∀ j,j<zs.length->w.cell? ⟨b,off+j,none⟩=some (.int .i64 (zs.getD j 0)))->(∀ n∈zs,(Lit.int .i64 n).wf=true) ->
  Calls P f #[.slice (some ⟨b,off,none⟩) len cap] w λr w'=>∃ v,r=.returned v/\w'.ownsRow (w.heap.size+1) e 1 v len ((nst zs len).2.map (Value.int .i64))/\Below w.heap.size w w'
theorem NumOk.T {P:Program} {f:FuncId} {e:TypeId} (k:NumOk P f e) (he:∀ (vs:Array Value) (w:World),(callFunc f vs).run P w=.ok (.enter f vs) w) {a:Sl} {H H':Hp} {v:AV} (h:sF a H=some (v,H')):Go.AE.T P f [.sl a] H v H' where
 enters:=he
 run:=λhw Φ S w hr hok=>by
  unfold sF at h
  obtain ⟨cells,h1,hA⟩:=af h
  obtain ⟨l,h2,hB⟩:=af hA
  obtain ⟨⟨h3,h4⟩,hC⟩:=eD hB
  clear h hA hB
  obtain rfl:=Oe h2
  have hsok:=hok (.sl a) (by simp)
  simp only [AV.ok] at hsok
  obtain ⟨sa,sn,sc⟩:=a
  by_cases h0:sn=0
  ·subst h0
   rw [if_pos rfl] at hC
   cases hC
   refine (k.nil_ _ _ w).mono λr w' ⟨q1,q2⟩=>⟨Φ,?_,hr.sameAt q2,?_⟩
   ·rw [q1];simp [AV.toV,Sl.toV]
   ·simp [AV.ok]
  ·rw [if_neg h0] at hC
   cases hC
   unfold Sl.row at h1
   rw [if_neg h0] at h1
   cases had:Sl.ad ⟨sa,sn,sc⟩ with
   | none=>rw [had] at h1;cases h1
   | some p=>
    rw [had] at h1
    obtain ⟨e1,e2⟩:=Sl.ad_some had
    simp only at e1
    subst e1
    obtain ⟨g1,g2⟩:=Hp.row_cell h1
    have hlen:l.length=sn:=by simpa using g1
    have hS:=(hsok p rfl).1
    have hcell:∀ j,j<l.length->w.cell? ⟨Φ.b p.1,Φ.o p.1+p.2+j,none⟩=some (.int .i64 (l.getD j 0)):=λj hj=>by
     have:=(hr.cell_of hS (g2 j (.int .i64 (l.getD j 0)) (by rw [List.getElem?_map,List.getElem?_eq_getElem hj,List.getD_eq_getElem?_getD,List.getElem?_eq_getElem hj];rfl))).1
     rw [<- Nat.add_assoc] at this
     simpa [AV.toV] using this
    have hb:Φ.b p.1<w.heap.size:=cell?_lt (hcell 0 (by omega))
    have hv:∃ cap,AV.toVs Φ [.sl ⟨some p,sn,sc⟩]=[.slice (some ⟨Φ.b p.1,Φ.o p.1+p.2,none⟩) sn cap]:=by
     have:=Sl.adr_of (Φ:=Φ) had
     unfold Sl.adr at this
     simp only [AV.toVs,AV.toV,Sl.toV]
     simp only at this
     rw [this]
     exact ⟨_,rfl⟩
    obtain ⟨cap,hv⟩:=hv
    rw [hv]
    refine (k.any (Φ.b p.1) (Φ.o p.1+p.2) sn cap l w (by omega) (by omega) hb hcell (λn hn=>List.all_eq_true.1 h4 n hn)).mono λr w' ⟨u,q1,q2,q3⟩=>?_
    obtain ⟨x1,x2⟩:=q2
    rcases x2 with ⟨_,x3⟩ | ⟨g,cap',cur,rfl,y1,y2,y3,y4,y5,y6⟩
    ·exact absurd x3 h0
    ·have hcs:((ia l).map (AV.int .i64)).length=sn:=by unfold ia;rw [List.length_map,xd,hlen]
     have hpost:=hr.newAt ((ia l).map (AV.int .i64)) cur e g q3 (by omega) y2 (λv hv=>by obtain ⟨x,_,rfl⟩:=List.mem_map.1 hv;simp [AV.ok,AV.isCell]) (by rw [hcs];omega) (λi v hv=>by
      rw [List.getElem?_map] at hv
      obtain ⟨x,hx,rfl⟩:=Option.map_eq_some_iff.1 hv
      have hi:i<sn:=by
       have:=(List.getElem?_eq_some_iff.1 hx).1
       unfold ia at this;rw [xd] at this;omega
      have:(cur.toList.take (sn * 1))[i]?=some (.int .i64 x):=by
       rw [y6,List.getElem?_map,<-hlen]
       unfold ia at hx;rw [hx];rfl
      rw [List.getElem?_take] at this
      rw [if_pos (by omega)] at this
      simpa [AV.toV] using this)
     refine ⟨_,?_,hpost,?_⟩
     ·rw [q1]
      simp only [AV.toV,Sl.toV,Option.map_some,Phi.put_b,Phi.put_o,Phi.put_k]
      rw [hlen]
      congr 2
      simp [y5]
     ·simp only [AV.ok]
      intro q hq
      cases hq
      refine ⟨.inr ⟨Nat.le_refl _,by simp⟩,λz hz=>?_⟩
      cases hz
      rw [Phi.put_k]
      simp only
      omega
 wf:=λhw hi=>by
  unfold sF at h
  obtain ⟨cells,h1,hA⟩:=af h
  obtain ⟨l,h2,hB⟩:=af hA
  obtain ⟨⟨h3,h4⟩,hC⟩:=eD hB
  clear h hA hB
  split at hC
  ·cases hC;exact ⟨hw,by simp [AV.inS],Nat.le_refl _⟩
  ·cases hC
   exact ⟨hw.new _ (λv hv=>by obtain ⟨x,_,rfl⟩:=List.mem_map.1 hv;simp [AV.inS]) true true,by simp [AV.inS],by simp⟩
theorem W.newF {H:Hp} {R:List Rs} (w:W H R) (cells:List AV) (n z:Nat) (h:cells.length=n * z) (hz:0<z) :
  ∃ H',H'=H++[⟨cells,true,true⟩]/\W H' (.own ⟨some (H.length,0),n,.full z⟩ z cells::R)/\Fr H R H' (.own ⟨some (H.length,0),n,.full z⟩ z cells::R):=
 ⟨_,rfl,w.cons (by simp) (λb hb=>getElem?_app_lt hb) ⟨h,hz,(λe=>by simp [lvs] at e),λ_=>⟨_,rfl,rfl,rfl,by simpa using At.new H cells⟩,⟨rfl,rfl⟩,λ_=>⟨rfl,rfl,λ_=>.inl rfl⟩⟩ (λb hb=>by obtain ⟨_,hb⟩:=lj (show dI _ _=some b from hb);cases hb;exact Nat.le_refl _)⟩
theorem Fk (l:List Int):(ia l).length=l.length:=by unfold ia;exact xd l _
end Go.AE
end
section
namespace Go.AE
theorem pR {R:List Rs} {i:Nat} {r:Rs} (hi:R[i]?=some r):R.set i r=R:=by
 apply List.ext_getElem?
 intro j
 by_cases ej:i=j
 ·subst ej;rw [List.getElem?_set_self (List.getElem?_eq_some_iff.1 hi).1,hi]
 ·rw [List.getElem?_set_ne ej]
theorem XV {H:Hp} {b:Nat} {cells:List AV} (h:At H b cells) {o n:Nat} (hl:o+n<=cells.length):H.row b o n=some ((cells.drop o).take n):=by
 unfold Hp.row
 rw [show H[b]?=some ⟨cells,true,true⟩ from h]
 simp [hl]
theorem Of {a:ON} {n:Nat} {c:Cap} (h:∀ z o,c≠.tip z o):Sl.ad ⟨a,n,c⟩=a:=by
 cases c with
 | tip z o=>exact absurd rfl (h z o)
 | _=>rfl
theorem XW {α:Type} [Inhabited α] (E:Ety α) {z:Nat} (hz:z=E.z) {L:Nat->Sl->Int->Hp->OA}
  (hL:∀ g s n H,L (g+1) s n H=(bif (decide (n<(s.n:Int))) then ((Sl.cut s z n (s.n:Int)).bind λa=>(Sl.cut s z 0 n).bind λb=>(Hp.cpy H z a b).bind λc=>L g s (IntKind.i64.wrap (n+(c.1:Int))) c.2) else (some ((.sl s),H))))
  (a:α) {s:Sl} {i:Nat}:∀ (g k:Nat) {H:Hp} {R:List Rs} {cells:List AV} {l:List α},W H R->R[i]?=some (.own s E.z cells)->CR E H R cells l->l.length<=4294967296->l.length - k<g->1<=k->l.take k=List.replicate (min k l.length) a ->
  ∃ H' cells',L g s k H=some (.sl s,H')/\W H' (R.set i (.own s E.z cells'))/\Fr H R H' (R.set i (.own s E.z cells'))/\CR E H' (R.set i (.own s E.z cells')) cells' (List.replicate l.length a):=by
 subst hz
 intro g
 induction g with
 | zero=>intro k H R cells l _ _ _ _ h;exact absurd h (Nat.not_lt_zero _)
 | succ g ih=>
  intro k H R cells l w hi cr hb hg hk ht
  have hsn:=w.own_n hi cr
  rw [hL]
  by_cases hlt:k<s.n
  ·rw [show decide ((k:Int)<(s.n:Int))=true from decide_eq_true (by omega),cond_true]
   obtain ⟨c1,e1,t1,ad1⟩:=w.cutv (a:=(k:Int)) (b:=(s.n:Int)) hi cr (x:=l.drop k) (by
    unfold jU;rw [if_pos ⟨by omega,by omega,by omega,by omega⟩];congr 1
    rw [List.take_of_length_le (by omega)];rfl)
   obtain ⟨c2,e2,t2,_⟩:=w.cutv (a:=0) (b:=(k:Int)) hi cr (x:=l.take k) (by
    unfold jU;rw [if_pos ⟨by omega,by omega,by omega,by omega⟩];congr 1)
   have hok:=w.ok _ (List.mem_of_getElem? hi)
   obtain ⟨p,p1,p2,p3,p4,p5⟩:=Rs.full hok (by omega)
   obtain ⟨h1,h2,h3,h4,h5,h6⟩:=hok
   simp only [List.length_nil] at p3
   simp only [List.nil_append,List.append_nil] at p4
   rw [e1,e2,Option.bind_some,Option.bind_some]
   have hm:min (l.take k).length (l.drop k).length=min k (s.n - k):=by rw [List.length_take,List.length_drop];omega
   have hmz:k * E.z+min k (s.n - k) * E.z<=cells.length:=by rw [h1,<-Nat.add_mul];exact Nat.mul_le_mul_right _ (by omega)
   have hrow:Sl.row H ⟨s.a.map (λp=>(p.1,p.2+(0:Int).toNat * E.z)),min k (s.n - k),c2⟩ E.z=some (cells.take (min k (s.n - k) * E.z)):=by
    unfold Sl.row
    rw [if_neg (show ¬ min k (s.n - k)=0 by omega),Of t2,p1]
    simp only [Option.map_some]
    rw [XV p4 (by rw [p3];simp;omega),p3]
    simp
   have hxl:(cells.take (min k (s.n - k) * E.z)).length=min k (s.n - k) * E.z:=by rw [List.length_take];omega
   obtain ⟨H',g1,g2,g3,g4⟩:=xc (cells.take (min k (s.n - k) * E.z)) (k * E.z) H cells (λH'=>some (min k (s.n - k),H')) p4 (by rw [hxl];exact hmz) (λv hv=>cr.cell v (List.mem_of_mem_take hv))
   have hcpy:Hp.cpy H E.z ⟨s.a.map (λp=>(p.1,p.2+(k:Int).toNat * E.z)),(l.drop k).length,c1⟩ ⟨s.a.map (λp=>(p.1,p.2+(0:Int).toNat * E.z)),(l.take k).length,c2⟩=some (min k (s.n - k),H'):=by
    unfold Hp.cpy
    rw [Of t1,p1]
    simp only [Option.map_some]
    rw [hm]
    rw [p1] at hrow
    simp only [Option.map_some] at hrow
    rw [hrow,Option.bind_some,p3]
    simpa using g1
   rw [hcpy,Option.bind_some]
   rw [hxl] at g2
   -- the new row
   have hnew:CR E H R (cells.take (k * E.z)++cells.take (min k (s.n - k) * E.z)++cells.drop (k * E.z+min k (s.n - k) * E.z)) (l.take k++l.take (min k (s.n - k))++l.drop (k+min k (s.n - k))):=by
    have:=((cr.take k).app (cr.take (min k (s.n - k)))).app (cr.drop (k+min k (s.n - k)))
    rw [Nat.add_mul] at this
    exact this
   have hl2:(l.take k++l.take (min k (s.n - k))++l.drop (k+min k (s.n - k))).length=l.length:=by
    simp only [List.length_append,List.length_take,List.length_drop];omega
   have key:=w.upd (H':=H') (r':=.own s E.z (cells.take (k * E.z)++cells.take (min k (s.n - k) * E.z)++cells.drop (k * E.z+min k (s.n - k) * E.z))) hi (by omega) (λb hb hne=>g3.2 b hb (λe=>hne (by rw [e];show dI true s=_;rw [jT p5,p1];rfl)))
    ⟨by rw [hnew.length,hl2,hsn],h2,h3,λ_=>⟨p,p1,by rw [p2,p1],p3,by simpa using g2⟩,h5,h6⟩ (λb hb=>.inl hb)
   have hi':(R.set i (.own s E.z (cells.take (k * E.z)++cells.take (min k (s.n - k) * E.z)++cells.drop (k * E.z+min k (s.n - k) * E.z))))[i]?=some (.own s E.z _):=List.getElem?_set_self (List.getElem?_eq_some_iff.1 hi).1
   have hwr:IntKind.i64.wrap ((k:Int)+((min k (s.n - k):Nat):Int))=((k+min k (s.n - k):Nat):Int):=by rw [bo (by omega) (by omega)];omega
   obtain ⟨H2,cells2,q1,q2,q3,q4⟩:=ih (k+min k (s.n - k)) key.1 hi' (hnew.step key.2) (by rw [hl2];exact hb) (by rw [hl2];omega) (by omega) (by
    rw [hl2]
    have ht2:l.take (min k (s.n - k))=List.replicate (min k (s.n - k)) a:=by
     have:=congrArg (List.take (min k (s.n - k))) ht
     rw [List.take_take,List.take_replicate] at this
     rw [Nat.min_eq_left (by omega)] at this
     rw [this];congr 1;omega
    have hk1:l.take k=List.replicate k a:=by rw [ht];congr 1;omega
    rw [List.take_left' (by simp only [List.length_append,List.length_take];omega),ht2,hk1,List.replicate_append_replicate]
    congr 1;omega)
   refine ⟨H2,cells2,?_,?_,?_,?_⟩
   ·show L g s (IntKind.i64.wrap ((k:Int)+((min k (s.n - k):Nat):Int))) H'=_
    rw [hwr];exact q1
   ·rw [List.set_set] at q2;exact q2
   ·rw [List.set_set] at q3;exact key.2.trans q3
   ·rw [List.set_set,hl2] at q4;exact q4
  ·rw [show decide ((k:Int)<(s.n:Int))=false from decide_eq_false (by omega),cond_false]
   have e:l=List.replicate l.length a:=by
    rw [List.take_of_length_le (by omega)] at ht
    rw [Nat.min_eq_right (by omega)] at ht
    exact ht
   refine ⟨H,cells,rfl,?_,?_,?_⟩
   ·rw [pR hi];exact w
   ·rw [pR hi];exact Fr.refl _ _
   ·rw [pR hi,<-e];exact cr
def kW {α:Type} [Inhabited α] (F:Nat) (l:List α) (k:Int):Option (List α):=
 if 0<=k/\(k=1\/l.length=0)/\l.length<F/\l.length<=4294967296 then some (List.replicate l.length (gt l 0)) else none
theorem M_ {α:Type} [Inhabited α] (E:Ety α) {z:Nat} (hz:z=E.z) {L:Nat->Sl->Int->Hp->OA}
  (hL:∀ g s n H,L (g+1) s n H=(bif (decide (n<(s.n:Int))) then ((Sl.cut s z n (s.n:Int)).bind λa=>(Sl.cut s z 0 n).bind λb=>(Hp.cpy H z a b).bind λc=>L g s (IntKind.i64.wrap (n+(c.1:Int))) c.2) else (some ((.sl s),H))))
  {s:Sl} {i:Nat} {F:Nat} {k:Int} {H:Hp} {R:List Rs} {cells:List AV} {l l':List α} {Q:AV->Hp->Prop} (w:W H R) (hi:R[i]?=some (.own s E.z cells)) (cr:CR E H R cells l) (hx:kW F l k=some l')
  (g:∀ H' cells',W H' (R.set i (.own s E.z cells'))->Fr H R H' (R.set i (.own s E.z cells'))->CR E H' (R.set i (.own s E.z cells')) cells' l'->∃ v H'',some (AV.sl s,H')=some (v,H'')/\Q v H'') :
  ∃ v H'',L F s k H=some (v,H'')/\Q v H'':=by
 unfold kW at hx
 obtain ⟨⟨h0,hk,h1,h2⟩,h3⟩:=eD hx
 cases h3
 by_cases hl:l.length=0
 ·have hl0:l=[]:=List.length_eq_zero_iff.1 hl
  subst hl0
  have hsn:=w.own_n (E:=E) (t:=true) (pre:=[]) (rest:=[]) (by rw [<- hz] at hi ⊢;exact hi) cr
  obtain ⟨f,rfl⟩:∃ f,F=f+1:=⟨F - 1,by omega⟩
  rw [hL,show decide (k<(s.n:Int))=false from decide_eq_false (by rw [hsn];simp;omega),cond_false]
  refine g H cells ?_ ?_ ?_
  ·rw [pR hi];exact w
  ·rw [pR hi];exact Fr.refl _ _
  ·rw [pR hi];exact cr
 obtain rfl:k=1:=by omega
 obtain ⟨H',cells',e,q1,q2,q3⟩:=XW E hz hL (gt l 0) F 1 w hi cr h2 (by omega) (Nat.le_refl _) (by
  cases l with
  | nil=>rfl
  | cons x l=>simp [gt])
 have e:L F s (1:Int) H=_:=e
 rw [e]
 exact g H' cells' q1 q2 q3
theorem Nb {α:Type} [Inhabited α] {F:Nat} {l l':List α} {k:Int} (h:kW F l k=some l'):l'.length=l.length:=by
 unfold kW at h;obtain ⟨_,h⟩:=eD h;cases h;simp
end Go.AE
end
