import Derived.Test.YtnkgeongfneafaaE2
import Derived.Test.YtnkgeongfneafaaProg
set_option linter.unusedVariables false
set_option linter.unusedSimpArgs false
section
namespace Go.Proofs.Ytnkgeongfneafaa.AE
open Go Go.AE Go.Proofs
def tyl:List (TypeId×TI):=[
 (2,⟨.int .i64,false,1,8,[.int .i64 0],[.int .i64]⟩),
 (3,⟨.int .i64,false,1,8,[.int .i64 0],[.int .i64]⟩),
 (4,⟨.bool,false,1,1,[.bool false],[.bool]⟩),
 (27,⟨.slice 2,false,1,24,[.sl ⟨none,0,.ex 0⟩],[.sl]⟩),
 (29,⟨.struct [(0,2),(1,2),(2,27)],true,3,40,[.int .i64 0,.int .i64 0,.sl ⟨none,0,.ex 0⟩],[.int .i64,.int .i64,.sl]⟩),
 (32,⟨.struct [(0,29),(3,29),(6,29),(9,29),(12,29)],true,15,200,[.int .i64 0,.int .i64 0,.sl ⟨none,0,.ex 0⟩,.int .i64 0,.int .i64 0,.sl ⟨none,0,.ex 0⟩,.int .i64 0,.int .i64 0,.sl ⟨none,0,.ex 0⟩,.int .i64 0,.int .i64 0,.sl ⟨none,0,.ex 0⟩,.int .i64 0,.int .i64 0,.sl ⟨none,0,.ex 0⟩],[.int .i64,.int .i64,.sl,.int .i64,.int .i64,.sl,.int .i64,.int .i64,.sl,.int .i64,.int .i64,.sl,.int .i64,.int .i64,.sl]⟩),
 (57,⟨.struct [(0,2),(1,27)],true,2,32,[.int .i64 0,.sl ⟨none,0,.ex 0⟩],[.int .i64,.sl]⟩),
 (64,⟨.struct [(0,2),(1,27)],true,2,32,[.int .i64 0,.sl ⟨none,0,.ex 0⟩],[.int .i64,.sl]⟩),
 (70,⟨.slice 27,false,1,24,[.sl ⟨none,0,.ex 0⟩],[.sl]⟩),
 (97,⟨.struct [(0,29),(3,29),(6,29),(9,29),(12,29),(15,4)],true,16,208,[.int .i64 0,.int .i64 0,.sl ⟨none,0,.ex 0⟩,.int .i64 0,.int .i64 0,.sl ⟨none,0,.ex 0⟩,.int .i64 0,.int .i64 0,.sl ⟨none,0,.ex 0⟩,.int .i64 0,.int .i64 0,.sl ⟨none,0,.ex 0⟩,.int .i64 0,.int .i64 0,.sl ⟨none,0,.ex 0⟩,.bool false],[.int .i64,.int .i64,.sl,.int .i64,.int .i64,.sl,.int .i64,.int .i64,.sl,.int .i64,.int .i64,.sl,.int .i64,.int .i64,.sl,.bool]⟩),
 (120,⟨.struct [(0,32),(15,4)],true,16,208,[.int .i64 0,.int .i64 0,.sl ⟨none,0,.ex 0⟩,.int .i64 0,.int .i64 0,.sl ⟨none,0,.ex 0⟩,.int .i64 0,.int .i64 0,.sl ⟨none,0,.ex 0⟩,.int .i64 0,.int .i64 0,.sl ⟨none,0,.ex 0⟩,.int .i64 0,.int .i64 0,.sl ⟨none,0,.ex 0⟩,.bool false],[.int .i64,.int .i64,.sl,.int .i64,.int .i64,.sl,.int .i64,.int .i64,.sl,.int .i64,.int .i64,.sl,.int .i64,.int .i64,.sl,.bool]⟩)]
def shl:List (Nat×Shp):=[(2,(.leaf (.int .i64))),(3,(.leaf (.int .i64))),(4,(.leaf (.bool))),(27,(.leaf (.sl))),(29,(.agg [.int .i64,.int .i64,.sl])),(33,(.tup [(.agg [.int .i64,.int .i64,.sl,.int .i64,.int .i64,.sl,.int .i64,.int .i64,.sl,.int .i64,.int .i64,.sl,.int .i64,.int .i64,.sl]),(.leaf (.int .i64))])),(35,(.tup [(.leaf (.sl)),(.leaf (.int .i64))])),(57,(.agg [.int .i64,.sl])),(58,(.tup [(.agg [.int .i64,.sl]),(.leaf (.int .i64))])),(92,(.tup [(.leaf (.sl)),(.leaf (.bool))])),(94,(.leaf (.ptr))),(107,(.leaf (.ptr))),(117,(.leaf (.ptr))),(122,(.tup [(.leaf (.int .i64)),(.leaf (.bool))])),(126,(.tup [(.leaf (.bool)),(.leaf (.bool))])),(146,(.tup [(.leaf (.int .i64)),(.leaf (.int .i64)),(.leaf (.bool))]))]
def tabs:Tabs:=⟨BS tyl,λt=>shl.lookup t⟩
theorem tabs_ok:fp Try.prog tabs.ty:=Mo (by kernel_rfl)
theorem mixed:Try.prog.follows .mixedOrders=true:=by kernel_rfl
abbrev LO:=LOk tabs
noncomputable abbrev EX:=EXe tabs
theorem okT {PN:Nat->List Nat} {LH:Nat->List Nat->Nat->Tm->Hp->OA} {TB:Nat->List (List Nat)} {F:Nat} {fn:Func} {n:FuncId} {cs:Cs} {args:List AV} {H:Hp} {v:AV} {H':Hp} (hf:Try.prog.funcs[n]?=some fn) (hcs:∀ p∈cs,Ok Try.prog p.1 p.2) (hl:LO (bG cs) PN LH F fn) (h:EX (bG cs) PN LH F fn args H=some (v,H')) (hk:BT PN TB fn args.length=true):Go.AE.T Try.prog n args H v H':=T.of2 mixed tabs_ok hcs hf hl h hk
end Go.Proofs.Ytnkgeongfneafaa.AE
end
