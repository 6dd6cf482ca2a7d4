import Derived.Test.YteeahaikelpkpaaE2
import Derived.Test.YteeahaikelpkpaaProg
set_option linter.unusedVariables false
set_option linter.unusedSimpArgs false
section
namespace Go.Proofs.Yteeahaikelpkpaa.AE
open Go Go.AE Go.Proofs
def tyl:List (TypeId×TI):=[
 (2,⟨.int .i64,false,1,8,[.int .i64 0],[.int .i64]⟩),
 (3,⟨.int .i64,false,1,8,[.int .i64 0],[.int .i64]⟩),
 (5,⟨.int .u8,false,1,1,[.int .u8 0],[.int .u8]⟩),
 (22,⟨.slice 5,false,1,24,[.sl ⟨none,0,.ex 0⟩],[.sl]⟩),
 (24,⟨.slice 2,false,1,24,[.sl ⟨none,0,.ex 0⟩],[.sl]⟩),
 (33,⟨.struct [(0,2),(1,24)],true,2,32,[.int .i64 0,.sl ⟨none,0,.ex 0⟩],[.int .i64,.sl]⟩),
 (140,⟨.struct [(0,22),(1,3),(2,2)],true,3,40,[.sl ⟨none,0,.ex 0⟩,.int .i64 0,.int .i64 0],[.sl,.int .i64,.int .i64]⟩),
 (196,⟨.slice 33,false,1,24,[.sl ⟨none,0,.ex 0⟩],[.sl]⟩)]
def shl:List (Nat×Shp):=[(2,(.leaf (.int .i64))),(3,(.leaf (.int .i64))),(4,(.leaf (.bool))),(22,(.leaf (.sl))),(24,(.leaf (.sl))),(33,(.agg [.int .i64,.sl])),(34,(.tup [(.agg [.int .i64,.sl]),(.leaf (.int .i64))])),(52,(.tup [(.leaf (.sl)),(.leaf (.int .i64))])),(96,(.leaf (.ptr)))]
def tabs:Tabs:=⟨rn tyl,λt=>shl.lookup t⟩
theorem tabs_ok:bt Try.prog tabs.ty:=Au (by kernel_rfl)
theorem mixed:Try.prog.follows .mixedOrders=true:=by kernel_rfl
abbrev LO:=LOk tabs
noncomputable abbrev EX:=EXe tabs
theorem okT {PN:Nat->List Nat} {LH:Nat->List Nat->Nat->Tm->Hp->OA} {TB:Nat->List (List Nat)} {F:Nat} {fn:Func} {n:FuncId} {cs:Cs} {args:List AV} {H:Hp} {v:AV} {H':Hp} (hf:Try.prog.funcs[n]?=some fn) (hcs:∀ p∈cs,Ok Try.prog p.1 p.2) (hl:LO (aR cs) PN LH F fn) (h:EX (aR cs) PN LH F fn args H=some (v,H')) (hk:rp PN TB fn args.length=true):Go.AE.T Try.prog n args H v H':=T.of2 mixed tabs_ok hcs hf hl h hk
end Go.Proofs.Yteeahaikelpkpaa.AE
end
