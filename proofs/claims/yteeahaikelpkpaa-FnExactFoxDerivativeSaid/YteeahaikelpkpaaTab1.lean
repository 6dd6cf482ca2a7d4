import Derived.Test.YteeahaikelpkpaaE2
import Derived.Test.YteeahaikelpkpaaProg
set_option linter.unusedVariables false
set_option linter.unusedSimpArgs false
section
namespace Go.Proofs.Yteeahaikelpkpaa.AE
open Go Go.AE Go.Proofs
abbrev OA := Option (AV × Hp)
abbrev ON := Option (Nat × Nat)
def tyl:List (TypeId×TI):=[
 (2,⟨.int .i64,false,1,8,[.int .i64 0],[.int .i64]⟩),
 (3,⟨.int .i64,false,1,8,[.int .i64 0],[.int .i64]⟩),
 (24,⟨.slice 2,false,1,24,[.sl ⟨none,0,.ex 0⟩],[.sl]⟩),
 (33,⟨.struct [(0,2),(1,24)],true,2,32,[.int .i64 0,.sl ⟨none,0,.ex 0⟩],[.int .i64,.sl]⟩),
 (196,⟨.slice 33,false,1,24,[.sl ⟨none,0,.ex 0⟩],[.sl]⟩)]
def shl:List (Nat×Shp):=[(2,(.leaf (.int .i64))),(3,(.leaf (.int .i64))),(4,(.leaf (.bool))),(24,(.leaf (.sl))),(33,(.agg [.int .i64,.sl])),(34,(.tup [(.agg [.int .i64,.sl]),(.leaf (.int .i64))]))]
def tabs:Tabs:=⟨mkTab tyl,fun t=>shl.lookup t⟩
theorem tabs_ok:TabOk Try.prog tabs.ty:=mkTab_ok (by kernel_rfl)
theorem mixed:Try.prog.follows .mixedOrders = true:=by kernel_rfl
end Go.Proofs.Yteeahaikelpkpaa.AE
end
