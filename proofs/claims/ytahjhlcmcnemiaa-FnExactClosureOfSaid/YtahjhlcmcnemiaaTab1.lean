import Derived.Test.YtahjhlcmcnemiaaE2
import Derived.Test.YtahjhlcmcnemiaaProg
set_option linter.unusedVariables false
set_option linter.unusedSimpArgs false
section
namespace Go.Proofs.Ytahjhlcmcnemiaa.AE
open Go Go.AE Go.Proofs
abbrev OA := Option (AV × Hp)
abbrev ON := Option (Nat × Nat)
def tyl:List (TypeId×TI):=[
 (2,⟨.int .i64,false,1,8,[.int .i64 0],[.int .i64]⟩),
 (3,⟨.int .i64,false,1,8,[.int .i64 0],[.int .i64]⟩),
 (4,⟨.bool,false,1,1,[.bool false],[.bool]⟩),
 (22,⟨.slice 2,false,1,24,[.sl ⟨none,0,.ex 0⟩],[.sl]⟩),
 (30,⟨.struct [(0,2),(1,22)],true,2,32,[.int .i64 0,.sl ⟨none,0,.ex 0⟩],[.int .i64,.sl]⟩),
 (33,⟨.struct [(0,2),(1,22)],true,2,32,[.int .i64 0,.sl ⟨none,0,.ex 0⟩],[.int .i64,.sl]⟩),
 (49,⟨.slice 74,false,1,24,[.sl ⟨none,0,.ex 0⟩],[.sl]⟩),
 (51,⟨.struct [(0,49),(1,2)],true,2,32,[.sl ⟨none,0,.ex 0⟩,.int .i64 0],[.sl,.int .i64]⟩),
 (74,⟨.struct [(0,2),(1,2),(2,2),(3,2),(4,2)],true,5,40,[.int .i64 0,.int .i64 0,.int .i64 0,.int .i64 0,.int .i64 0],[.int .i64,.int .i64,.int .i64,.int .i64,.int .i64]⟩),
 (78,⟨.slice 4,false,1,24,[.sl ⟨none,0,.ex 0⟩],[.sl]⟩),
 (84,⟨.int .u64,false,1,8,[.int .u64 0],[.int .u64]⟩),
 (92,⟨.int .u64,false,1,8,[.int .u64 0],[.int .u64]⟩)]
def shl:List (Nat×Shp):=[(2,(.leaf (.int .i64))),(3,(.leaf (.int .i64))),(4,(.leaf (.bool))),(22,(.leaf (.sl))),(33,(.agg [.int .i64,.sl])),(51,(.agg [.sl,.int .i64])),(52,(.tup [(.agg [.sl,.int .i64]),(.leaf (.int .i64))])),(85,(.tup [(.leaf (.int .u64)),(.leaf (.int .u64))])),(93,(.tup [(.leaf (.int .u64)),(.leaf (.int .u64))]))]
def tabs:Tabs:=⟨mkTab tyl,fun t=>shl.lookup t⟩
theorem tabs_ok:TabOk Try.prog tabs.ty:=mkTab_ok (by kernel_rfl)
theorem mixed:Try.prog.follows .mixedOrders = true:=by kernel_rfl
end Go.Proofs.Ytahjhlcmcnemiaa.AE
end
