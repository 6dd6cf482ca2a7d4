import Derived.Test.YtppbogklbhfboaaGreatE2
import Derived.Test.YtppbogklbhfboaaGreatProg
set_option linter.unusedVariables false
set_option linter.unusedSimpArgs false
section
namespace Go.Proofs.YtppbogklbhfboaaGreat.AE
open Go Go.AE Go.Proofs
def tyl:List (TypeId×TI):=[
 (2,⟨.int .i64,false,1,8,[.int .i64 0],[.int .i64]⟩),
 (3,⟨.int .i64,false,1,8,[.int .i64 0],[.int .i64]⟩),
 (4,⟨.bool,false,1,1,[.bool false],[.bool]⟩),
 (22,⟨.slice 80,false,1,24,[.sl ⟨none,0,.ex 0⟩],[.sl]⟩),
 (24,⟨.struct [(0,22),(1,2)],true,2,32,[.sl ⟨none,0,.ex 0⟩,.int .i64 0],[.sl,.int .i64]⟩),
 (28,⟨.slice 73,false,1,24,[.sl ⟨none,0,.ex 0⟩],[.sl]⟩),
 (30,⟨.struct [(0,28),(1,2)],true,2,32,[.sl ⟨none,0,.ex 0⟩,.int .i64 0],[.sl,.int .i64]⟩),
 (34,⟨.slice 2,false,1,24,[.sl ⟨none,0,.ex 0⟩],[.sl]⟩),
 (47,⟨.struct [(0,2),(1,2),(2,34)],true,3,40,[.int .i64 0,.int .i64 0,.sl ⟨none,0,.ex 0⟩],[.int .i64,.int .i64,.sl]⟩),
 (69,⟨.slice 34,false,1,24,[.sl ⟨none,0,.ex 0⟩],[.sl]⟩),
 (73,⟨.struct [(0,2),(1,2),(2,2),(3,2),(4,2)],true,5,40,[.int .i64 0,.int .i64 0,.int .i64 0,.int .i64 0,.int .i64 0],[.int .i64,.int .i64,.int .i64,.int .i64,.int .i64]⟩),
 (77,⟨.struct [(0,47),(3,47),(6,47),(9,47),(12,47),(15,4)],true,16,208,[.int .i64 0,.int .i64 0,.sl ⟨none,0,.ex 0⟩,.int .i64 0,.int .i64 0,.sl ⟨none,0,.ex 0⟩,.int .i64 0,.int .i64 0,.sl ⟨none,0,.ex 0⟩,.int .i64 0,.int .i64 0,.sl ⟨none,0,.ex 0⟩,.int .i64 0,.int .i64 0,.sl ⟨none,0,.ex 0⟩,.bool false],[.int .i64,.int .i64,.sl,.int .i64,.int .i64,.sl,.int .i64,.int .i64,.sl,.int .i64,.int .i64,.sl,.int .i64,.int .i64,.sl,.bool]⟩),
 (80,⟨.struct [(0,2),(1,2),(2,2),(3,2),(4,2)],true,5,40,[.int .i64 0,.int .i64 0,.int .i64 0,.int .i64 0,.int .i64 0],[.int .i64,.int .i64,.int .i64,.int .i64,.int .i64]⟩),
 (87,⟨.struct [(0,47),(3,47),(6,47),(9,47),(12,47)],true,15,200,[.int .i64 0,.int .i64 0,.sl ⟨none,0,.ex 0⟩,.int .i64 0,.int .i64 0,.sl ⟨none,0,.ex 0⟩,.int .i64 0,.int .i64 0,.sl ⟨none,0,.ex 0⟩,.int .i64 0,.int .i64 0,.sl ⟨none,0,.ex 0⟩,.int .i64 0,.int .i64 0,.sl ⟨none,0,.ex 0⟩],[.int .i64,.int .i64,.sl,.int .i64,.int .i64,.sl,.int .i64,.int .i64,.sl,.int .i64,.int .i64,.sl,.int .i64,.int .i64,.sl]⟩),
 (94,⟨.slice 4,false,1,24,[.sl ⟨none,0,.ex 0⟩],[.sl]⟩),
 (101,⟨.slice 132,false,1,24,[.sl ⟨none,0,.ex 0⟩],[.sl]⟩),
 (103,⟨.struct [(0,101),(1,101)],true,2,48,[.sl ⟨none,0,.ex 0⟩,.sl ⟨none,0,.ex 0⟩],[.sl,.sl]⟩),
 (111,⟨.struct [(0,87),(15,4)],true,16,208,[.int .i64 0,.int .i64 0,.sl ⟨none,0,.ex 0⟩,.int .i64 0,.int .i64 0,.sl ⟨none,0,.ex 0⟩,.int .i64 0,.int .i64 0,.sl ⟨none,0,.ex 0⟩,.int .i64 0,.int .i64 0,.sl ⟨none,0,.ex 0⟩,.int .i64 0,.int .i64 0,.sl ⟨none,0,.ex 0⟩,.bool false],[.int .i64,.int .i64,.sl,.int .i64,.int .i64,.sl,.int .i64,.int .i64,.sl,.int .i64,.int .i64,.sl,.int .i64,.int .i64,.sl,.bool]⟩),
 (132,⟨.struct [(0,2),(1,2)],true,2,16,[.int .i64 0,.int .i64 0],[.int .i64,.int .i64]⟩),
 (133,⟨.arr 4 2,true,4,32,[.int .i64 0,.int .i64 0,.int .i64 0,.int .i64 0],[.int .i64,.int .i64,.int .i64,.int .i64]⟩),
 (141,⟨.int .u64,false,1,8,[.int .u64 0],[.int .u64]⟩),
 (149,⟨.int .u64,false,1,8,[.int .u64 0],[.int .u64]⟩)]
def shl:List (Nat×Shp):=[(2,(.leaf (.int .i64))),(3,(.leaf (.int .i64))),(4,(.leaf (.bool))),(26,(.tup [(.leaf (.int .i64)),(.leaf (.int .i64))])),(28,(.leaf (.sl))),(30,(.agg [.sl,.int .i64])),(34,(.leaf (.sl))),(47,(.agg [.int .i64,.int .i64,.sl])),(49,(.tup [(.leaf (.sl)),(.leaf (.bool))])),(52,(.tup [(.leaf (.int .i64)),(.leaf (.bool))])),(57,(.tup [(.leaf (.sl)),(.leaf (.int .i64))])),(69,(.leaf (.sl))),(73,(.agg [.int .i64,.int .i64,.int .i64,.int .i64,.int .i64])),(74,(.leaf (.ptr))),(84,(.leaf (.ptr))),(88,(.tup [(.agg [.int .i64,.int .i64,.sl,.int .i64,.int .i64,.sl,.int .i64,.int .i64,.sl,.int .i64,.int .i64,.sl,.int .i64,.int .i64,.sl]),(.leaf (.int .i64))])),(99,(.tup [(.leaf (.bool)),(.leaf (.bool))])),(101,(.leaf (.sl))),(104,(.tup [(.agg [.sl,.sl]),(.leaf (.bool))])),(108,(.leaf (.ptr))),(132,(.agg [.int .i64,.int .i64])),(133,(.agg [.int .i64,.int .i64,.int .i64,.int .i64])),(137,(.tup [(.leaf (.int .i64)),(.leaf (.int .i64)),(.leaf (.bool))])),(142,(.tup [(.leaf (.int .u64)),(.leaf (.int .u64))])),(150,(.tup [(.leaf (.int .u64)),(.leaf (.int .u64))]))]
def tabs:Tabs:=⟨OU tyl,λt=>shl.lookup t⟩
theorem tabs_ok:fR Tryz.prog tabs.ty:=afI (by kernel_rfl)
theorem mixed:Tryz.prog.follows .mixedOrders=true:=by kernel_rfl
abbrev LO:=LOk tabs
noncomputable abbrev EX:=EXe tabs
theorem okT {PN:Nat->List Nat} {LH:Nat->List Nat->Nat->Tm->Hp->OA} {TB:Nat->List (List Nat)} {F:Nat} {fn:Func} {n:FuncId} {cs:Cs} {args:List AV} {H:Hp} {v:AV} {H':Hp} (hf:Tryz.prog.funcs[n]?=some fn) (hcs:∀ p∈cs,Ok Tryz.prog p.1 p.2) (hl:LO (bh cs) PN LH F fn) (h:EX (bh cs) PN LH F fn args H=some (v,H')) (hk:OW PN TB fn args.length=true):Go.AE.T Tryz.prog n args H v H':=T.of2 mixed tabs_ok hcs hf hl h hk
end Go.Proofs.YtppbogklbhfboaaGreat.AE
end
