import Derived.Test.YtppbogklbhfboaaE2
import Derived.Test.YtppbogklbhfboaaProg
set_option linter.unusedVariables false
set_option linter.unusedSimpArgs false
section
namespace Go.Proofs.Ytppbogklbhfboaa.AE
open Go Go.AE Go.Proofs
abbrev OA := Option (AV × Hp)
abbrev ON := Option (Nat × Nat)
def tyl:List (TypeId×TI):=[
 (2,⟨.int .i64,false,1,8,[.int .i64 0],[.int .i64]⟩),
 (3,⟨.int .i64,false,1,8,[.int .i64 0],[.int .i64]⟩),
 (4,⟨.bool,false,1,1,[.bool false],[.bool]⟩),
 (22,⟨.slice 86,false,1,24,[.sl ⟨none,0,.ex 0⟩],[.sl]⟩),
 (24,⟨.struct [(0,22),(1,2)],true,2,32,[.sl ⟨none,0,.ex 0⟩,.int .i64 0],[.sl,.int .i64]⟩),
 (28,⟨.slice 84,false,1,24,[.sl ⟨none,0,.ex 0⟩],[.sl]⟩),
 (30,⟨.struct [(0,28),(1,2)],true,2,32,[.sl ⟨none,0,.ex 0⟩,.int .i64 0],[.sl,.int .i64]⟩),
 (34,⟨.slice 2,false,1,24,[.sl ⟨none,0,.ex 0⟩],[.sl]⟩),
 (53,⟨.struct [(0,2),(1,2),(2,34)],true,3,40,[.int .i64 0,.int .i64 0,.sl ⟨none,0,.ex 0⟩],[.int .i64,.int .i64,.sl]⟩),
 (56,⟨.slice 129,false,1,24,[.sl ⟨none,0,.ex 0⟩],[.sl]⟩),
 (58,⟨.struct [(0,56),(1,56)],true,2,48,[.sl ⟨none,0,.ex 0⟩,.sl ⟨none,0,.ex 0⟩],[.sl,.sl]⟩),
 (76,⟨.slice 34,false,1,24,[.sl ⟨none,0,.ex 0⟩],[.sl]⟩),
 (84,⟨.struct [(0,2),(1,2),(2,2),(3,2),(4,2)],true,5,40,[.int .i64 0,.int .i64 0,.int .i64 0,.int .i64 0,.int .i64 0],[.int .i64,.int .i64,.int .i64,.int .i64,.int .i64]⟩),
 (86,⟨.struct [(0,2),(1,2),(2,2),(3,2),(4,2)],true,5,40,[.int .i64 0,.int .i64 0,.int .i64 0,.int .i64 0,.int .i64 0],[.int .i64,.int .i64,.int .i64,.int .i64,.int .i64]⟩),
 (98,⟨.arr 2 2,true,2,16,[.int .i64 0,.int .i64 0],[.int .i64,.int .i64]⟩),
 (99,⟨.slice 98,false,1,24,[.sl ⟨none,0,.ex 0⟩],[.sl]⟩),
 (122,⟨.slice 4,false,1,24,[.sl ⟨none,0,.ex 0⟩],[.sl]⟩),
 (129,⟨.struct [(0,2),(1,2)],true,2,16,[.int .i64 0,.int .i64 0],[.int .i64,.int .i64]⟩),
 (130,⟨.arr 4 2,true,4,32,[.int .i64 0,.int .i64 0,.int .i64 0,.int .i64 0],[.int .i64,.int .i64,.int .i64,.int .i64]⟩),
 (139,⟨.int .u64,false,1,8,[.int .u64 0],[.int .u64]⟩),
 (162,⟨.int .u64,false,1,8,[.int .u64 0],[.int .u64]⟩)]
def shl:List (Nat×Shp):=[(2,(.leaf (.int .i64))),(3,(.leaf (.int .i64))),(4,(.leaf (.bool))),(26,(.tup [(.leaf (.int .i64)),(.leaf (.int .i64))])),(28,(.leaf (.sl))),(30,(.agg [.sl,.int .i64])),(34,(.leaf (.sl))),(53,(.agg [.int .i64,.int .i64,.sl])),(56,(.leaf (.sl))),(59,(.tup [(.agg [.sl,.sl]),(.leaf (.bool))])),(76,(.leaf (.sl))),(84,(.agg [.int .i64,.int .i64,.int .i64,.int .i64,.int .i64])),(95,(.leaf (.ptr))),(129,(.agg [.int .i64,.int .i64])),(130,(.agg [.int .i64,.int .i64,.int .i64,.int .i64])),(140,(.tup [(.leaf (.int .u64)),(.leaf (.int .u64))])),(163,(.tup [(.leaf (.int .u64)),(.leaf (.int .u64))]))]
def tabs:Tabs:=⟨mkTab tyl,fun t=>shl.lookup t⟩
theorem tabs_ok:TabOk Try.prog tabs.ty:=mkTab_ok (by kernel_rfl)
theorem mixed:Try.prog.follows .mixedOrders = true:=by kernel_rfl
end Go.Proofs.Ytppbogklbhfboaa.AE
end
