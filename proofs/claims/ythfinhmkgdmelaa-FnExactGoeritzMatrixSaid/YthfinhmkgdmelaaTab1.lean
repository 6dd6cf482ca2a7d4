import Derived.Test.YthfinhmkgdmelaaE2
import Derived.Test.YthfinhmkgdmelaaProg
set_option linter.unusedVariables false
set_option linter.unusedSimpArgs false
section
namespace Go.Proofs.Ythfinhmkgdmelaa.AE
open Go Go.AE Go.Proofs
abbrev OA := Option (AV × Hp)
abbrev ON := Option (Nat × Nat)
def tyl:List (TypeId×TI):=[
 (2,⟨.int .i64,false,1,8,[.int .i64 0],[.int .i64]⟩),
 (3,⟨.int .i64,false,1,8,[.int .i64 0],[.int .i64]⟩),
 (4,⟨.bool,false,1,1,[.bool false],[.bool]⟩),
 (22,⟨.slice 124,false,1,24,[.sl ⟨none,0,.ex 0⟩],[.sl]⟩),
 (24,⟨.struct [(0,22),(1,2)],true,2,32,[.sl ⟨none,0,.ex 0⟩,.int .i64 0],[.sl,.int .i64]⟩),
 (26,⟨.slice 2,false,1,24,[.sl ⟨none,0,.ex 0⟩],[.sl]⟩),
 (29,⟨.slice 89,false,1,24,[.sl ⟨none,0,.ex 0⟩],[.sl]⟩),
 (31,⟨.struct [(0,29),(1,2)],true,2,32,[.sl ⟨none,0,.ex 0⟩,.int .i64 0],[.sl,.int .i64]⟩),
 (49,⟨.struct [(0,2),(1,2),(2,26)],true,3,40,[.int .i64 0,.int .i64 0,.sl ⟨none,0,.ex 0⟩],[.int .i64,.int .i64,.sl]⟩),
 (55,⟨.slice 26,false,1,24,[.sl ⟨none,0,.ex 0⟩],[.sl]⟩),
 (82,⟨.slice 144,false,1,24,[.sl ⟨none,0,.ex 0⟩],[.sl]⟩),
 (84,⟨.struct [(0,82),(1,82)],true,2,48,[.sl ⟨none,0,.ex 0⟩,.sl ⟨none,0,.ex 0⟩],[.sl,.sl]⟩),
 (89,⟨.struct [(0,2),(1,2),(2,2),(3,2),(4,2)],true,5,40,[.int .i64 0,.int .i64 0,.int .i64 0,.int .i64 0,.int .i64 0],[.int .i64,.int .i64,.int .i64,.int .i64,.int .i64]⟩),
 (124,⟨.struct [(0,2),(1,2),(2,2),(3,2),(4,2)],true,5,40,[.int .i64 0,.int .i64 0,.int .i64 0,.int .i64 0,.int .i64 0],[.int .i64,.int .i64,.int .i64,.int .i64,.int .i64]⟩),
 (132,⟨.slice 4,false,1,24,[.sl ⟨none,0,.ex 0⟩],[.sl]⟩),
 (138,⟨.arr 2 2,true,2,16,[.int .i64 0,.int .i64 0],[.int .i64,.int .i64]⟩),
 (139,⟨.slice 138,false,1,24,[.sl ⟨none,0,.ex 0⟩],[.sl]⟩),
 (144,⟨.struct [(0,2),(1,2)],true,2,16,[.int .i64 0,.int .i64 0],[.int .i64,.int .i64]⟩),
 (162,⟨.arr 4 2,true,4,32,[.int .i64 0,.int .i64 0,.int .i64 0,.int .i64 0],[.int .i64,.int .i64,.int .i64,.int .i64]⟩),
 (165,⟨.int .u64,false,1,8,[.int .u64 0],[.int .u64]⟩),
 (183,⟨.int .u64,false,1,8,[.int .u64 0],[.int .u64]⟩)]
def shl:List (Nat×Shp):=[(2,(.leaf (.int .i64))),(3,(.leaf (.int .i64))),(4,(.leaf (.bool))),(26,(.leaf (.sl))),(29,(.leaf (.sl))),(31,(.agg [.sl,.int .i64])),(38,(.tup [(.leaf (.int .i64)),(.leaf (.int .i64))])),(49,(.agg [.int .i64,.int .i64,.sl])),(55,(.leaf (.sl))),(62,(.tup [(.agg [.int .i64,.int .i64,.sl]),(.leaf (.int .i64))])),(82,(.leaf (.sl))),(85,(.tup [(.agg [.sl,.sl]),(.leaf (.bool))])),(89,(.agg [.int .i64,.int .i64,.int .i64,.int .i64,.int .i64])),(136,(.leaf (.ptr))),(144,(.agg [.int .i64,.int .i64])),(162,(.agg [.int .i64,.int .i64,.int .i64,.int .i64])),(166,(.tup [(.leaf (.int .u64)),(.leaf (.int .u64))])),(184,(.tup [(.leaf (.int .u64)),(.leaf (.int .u64))]))]
def tabs:Tabs:=⟨mkTab tyl,fun t=>shl.lookup t⟩
theorem tabs_ok:TabOk Try.prog tabs.ty:=mkTab_ok (by kernel_rfl)
theorem mixed:Try.prog.follows .mixedOrders = true:=by kernel_rfl
end Go.Proofs.Ythfinhmkgdmelaa.AE
end
