import Derived.Test.YtokekkacliomkaaE2
import Derived.Test.YtokekkacliomkaaProg
set_option linter.unusedVariables false
set_option linter.unusedSimpArgs false
section
namespace Go.Proofs.Ytokekkacliomkaa.AE
open Go Go.AE Go.Proofs
def tyl:List (TypeId×TI):=[
 (2,⟨.int .i64,false,1,8,[.int .i64 0],[.int .i64]⟩),
 (3,⟨.int .i64,false,1,8,[.int .i64 0],[.int .i64]⟩),
 (4,⟨.bool,false,1,1,[.bool false],[.bool]⟩),
 (5,⟨.int .u8,false,1,1,[.int .u8 0],[.int .u8]⟩),
 (22,⟨.slice 5,false,1,24,[.sl ⟨none,0,.ex 0⟩],[.sl]⟩),
 (24,⟨.slice 2,false,1,24,[.sl ⟨none,0,.ex 0⟩],[.sl]⟩),
 (26,⟨.struct [(0,2),(1,2),(2,24)],true,3,40,[.int .i64 0,.int .i64 0,.sl ⟨none,0,.ex 0⟩],[.int .i64,.int .i64,.sl]⟩),
 (48,⟨.struct [(0,26),(3,26),(6,26),(9,26),(12,26)],true,15,200,[.int .i64 0,.int .i64 0,.sl ⟨none,0,.ex 0⟩,.int .i64 0,.int .i64 0,.sl ⟨none,0,.ex 0⟩,.int .i64 0,.int .i64 0,.sl ⟨none,0,.ex 0⟩,.int .i64 0,.int .i64 0,.sl ⟨none,0,.ex 0⟩,.int .i64 0,.int .i64 0,.sl ⟨none,0,.ex 0⟩],[.int .i64,.int .i64,.sl,.int .i64,.int .i64,.sl,.int .i64,.int .i64,.sl,.int .i64,.int .i64,.sl,.int .i64,.int .i64,.sl]⟩),
 (76,⟨.slice 24,false,1,24,[.sl ⟨none,0,.ex 0⟩],[.sl]⟩),
 (143,⟨.struct [(0,22),(1,3),(2,2)],true,3,40,[.sl ⟨none,0,.ex 0⟩,.int .i64 0,.int .i64 0],[.sl,.int .i64,.int .i64]⟩),
 (154,⟨.struct [(0,48),(15,4)],true,16,208,[.int .i64 0,.int .i64 0,.sl ⟨none,0,.ex 0⟩,.int .i64 0,.int .i64 0,.sl ⟨none,0,.ex 0⟩,.int .i64 0,.int .i64 0,.sl ⟨none,0,.ex 0⟩,.int .i64 0,.int .i64 0,.sl ⟨none,0,.ex 0⟩,.int .i64 0,.int .i64 0,.sl ⟨none,0,.ex 0⟩,.bool false],[.int .i64,.int .i64,.sl,.int .i64,.int .i64,.sl,.int .i64,.int .i64,.sl,.int .i64,.int .i64,.sl,.int .i64,.int .i64,.sl,.bool]⟩)]
def shl:List (Nat×Shp):=[(2,(.leaf (.int .i64))),(3,(.leaf (.int .i64))),(4,(.leaf (.bool))),(24,(.leaf (.sl))),(26,(.agg [.int .i64,.int .i64,.sl])),(33,(.tup [(.leaf (.int .i64)),(.leaf (.int .i64))])),(42,(.tup [(.leaf (.sl)),(.leaf (.int .i64))])),(49,(.tup [(.agg [.int .i64,.int .i64,.sl,.int .i64,.int .i64,.sl,.int .i64,.int .i64,.sl,.int .i64,.int .i64,.sl,.int .i64,.int .i64,.sl]),(.leaf (.int .i64))])),(73,(.tup [(.leaf (.int .i64)),(.leaf (.bool))])),(88,(.leaf (.ptr))),(106,(.leaf (.ptr))),(151,(.leaf (.ptr))),(207,(.tup [(.leaf (.int .i64)),(.leaf (.int .i64)),(.leaf (.bool))]))]
def tabs:Tabs:=⟨Dp tyl,λt=>shl.lookup t⟩
theorem tabs_ok:c_ Try.prog tabs.ty:=Nq (by kernel_rfl)
theorem mixed:Try.prog.follows .mixedOrders=true:=by kernel_rfl
abbrev LO:=LOk tabs
noncomputable abbrev EX:=EXe tabs
theorem okT {PN:Nat->List Nat} {LH:Nat->List Nat->Nat->Tm->Hp->OA} {TB:Nat->List (List Nat)} {F:Nat} {fn:Func} {n:FuncId} {cs:Cs} {args:List AV} {H:Hp} {v:AV} {H':Hp} (hf:Try.prog.funcs[n]?=some fn) (hcs:∀ p∈cs,Ok Try.prog p.1 p.2) (hl:LO (bU cs) PN LH F fn) (h:EX (bU cs) PN LH F fn args H=some (v,H')) (hk:zp PN TB fn args.length=true):Go.AE.T Try.prog n args H v H':=T.of2 mixed tabs_ok hcs hf hl h hk
theorem ok0 {fn:Func} {n:FuncId} {args:List AV} {H:Hp} {v:AV} {H':Hp} (hf:Try.prog.funcs[n]?=some fn) (h:EX (bU []) cj lh0 0 fn args H=some (v,H')) (hn:ly (fn.body.getD .skip)=true) (hk:zp cj cj fn args.length=true):Go.AE.T Try.prog n args H v H':=okT hf dr (zq hn) h hk
abbrev PQ:=Int->Int->Sl->Int->Int->Hp->OA
abbrev PR:=List Int
abbrev PS:=List Rs
abbrev PT:=Int->Int->Sl->Hp->OA
abbrev PU:=Nat->Nat->Int->Hp->OA
abbrev PW:=List Nat
abbrev PX:=Int->Hp->OA
abbrev PY:=Sl->Hp->OA
abbrev PZ:=List AV
abbrev P_:=Nat->Nat->Int->Int->Int->Hp->OA
abbrev Qa:=Int->Int->Sl->Int->Hp->OA
abbrev Qb:=Int->Int->Hp->OA
abbrev Qc:=Nat->Nat->Int->Int->Int->Int->Hp->OA
abbrev Qd:=Int->Int->List Int->Int->Int->Int->Int->Option (Int×List Int)
abbrev Qe:=Int->Int->Int->Hp->OA
abbrev Qf:=Nat->Nat->Nat->Nat->Int->Int->Hp->OA
abbrev Qg:=Int×Int×List Int
abbrev Qh:=Int×List Int
abbrev Qi:=Nat->Nat->Int->Int->Hp->OA
abbrev Qj:=Int->Nat->Nat->Int->Int->Int->Hp->OA
abbrev Qk:=Int->Int->List Int->Int->Int->Int->Option (Int)
abbrev Ql:=Nat->Nat->Int->Int->Sl->Int->Int->Int->Hp->OA
abbrev Qm:=Sl->Nat->Nat->Nat->Nat->Hp->OA
abbrev Qn:=Bool×List Int×List Int×List Int×List Int×List Int
abbrev Qo:=Nat->Nat->Nat->Nat->Nat->Nat->Int->Int->Hp->OA
abbrev Qp:=Int->Nat->Nat->Nat->Nat->Hp->OA
abbrev Qq:=Nat->Nat->Hp->OA
abbrev Qr:=Nat->Nat->Int->Int->Int->Int->Int->Int->Hp->OA
abbrev Qs:=Int->Nat->Nat->Int->Int->Int->Int->Hp->OA
abbrev Qt:=Int->Int->List Int->Int->Int->Int->Int->Int->Int->Option (Int×List Int)
abbrev Qu:=Int->Int->List Int->Int->Int->Option (Bool)
abbrev Qv:=Int->Int->List Int->Int->Int->Int->Int->Option (Int)
abbrev Qw:=Int×Int×Bool
abbrev Qx:=Int->Int->Int->Bool->Nat->Nat->Int->Hp->OA
abbrev Qy:=Int->List Int->Int->Int->Int->Option (Int)
abbrev Qz:=Int->List Int->Int->Int->List Int->Int->Int->Option (Int×Int×List Int)
abbrev QA:=Int->Int->Int->Bool->Int->Int->List Int->Int->Option (Int×Int×Bool)
abbrev QB:=Int->List Int->Int->Int->List Int->Int->Int->List Int->Int->Int->List Int->Int->List Int->Bool->Int->Option (List Int×List Int×List Int×List Int×List Int×Bool)
abbrev QC:=Nat->Nat->Int->Sl->Int->Int->Hp->OA
abbrev QD:=Nat->Nat->Int->Nat->Nat->Int->Hp->OA
abbrev QE:=Int×Int×List Int×Int×Int
abbrev QF:=Bool×List Int
abbrev QG:=List Int×List Int×List Int×List Int×List Int×Bool
abbrev QH:=List Int×Int
abbrev QI:=AV->Hp->Prop
abbrev QJ:=Int×Int×Int
abbrev QK:=AV×Hp->OA
abbrev QL:=List Int×List Int×List Int×Bool
abbrev QM:=Int->Int->Int->Bool->Nat->Nat->Int->Int->Hp->OA
abbrev QN:=Nat->Nat->Sl->Int->Int->Hp->OA
abbrev QO:=List Int×Int×Int
abbrev QP:=List Int->Int->Int->Int->Int->List Int->Int->Int->Option (Int×Int×List Int×Int×Int)
abbrev QQ:=Int->Int->Int->Bool->Int->Int->List Int->Int->Int->Option (Int×Int×Bool)
abbrev QR:=Int->List Int->Int->Int->List Int->Int->Int->List Int->Int->Int->List Int->Int->List Int->Bool->Int->Int->Int->Int->Option (Bool×List Int×List Int×List Int×List Int×List Int)
abbrev QT:=List Int->List Int->Int->Int->List Int->Int->Int->List Int->Int->List Int->Bool->Int->Int->Int->Option (Bool×List Int×List Int×List Int×List Int×List Int)
abbrev QU:=Int->List Int->List Int->Int->Int->Option (List Int×Int)
abbrev QV:=List Int->Int->Int->Option (Int)
abbrev QW:=Int->Int->Nat->Nat->Int->Int->Hp->OA
abbrev QX:=Int->Int->Int->List Int->Int->Int->Option (List Int)
abbrev QY:=Nat->Nat->Int->Int->Int->Nat->Nat->Int->Int->Hp->OA
abbrev QZ:=Bool->Int->Int->Int->Int->List Int->Int->Int->Option (Bool×List Int)
abbrev Q_:=Int×Int×List Int×Int×Int×List Int×Int×Int×List Int×Int×Int×List Int×Int×Int×List Int×Int
end Go.Proofs.Ytokekkacliomkaa.AE
end
