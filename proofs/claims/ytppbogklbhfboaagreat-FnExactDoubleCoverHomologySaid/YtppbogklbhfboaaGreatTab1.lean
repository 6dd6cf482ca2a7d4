import Derived.Test.YtppbogklbhfboaaGreatE2
import Derived.Test.YtppbogklbhfboaaGreatProg
set_option linter.unusedVariables false
set_option linter.unusedSimpArgs false
section
namespace Go.Proofs.YtppbogklbhfboaaGreat.AE
open Go Go.AE Go.Proofs
def tyl:List (TypeId×TI):=[
 (2,⟨.int .i64,false,1,8,[.int .i64 0],[.int .i64]⟩),
 (3,⟨.int .i64,false,1,8,[.int .i64 0],[.int .i64]⟩),
 (4,⟨.bool,false,1,1,[.bool false],[.bool]⟩),
 (22,⟨.slice 80,false,1,24,[.sl ⟨none,0,.ex 0⟩],[.sl]⟩),
 (24,⟨.struct [(0,22),(1,2)],true,2,32,[.sl ⟨none,0,.ex 0⟩,.int .i64 0],[.sl,.int .i64]⟩),
 (28,⟨.slice 73,false,1,24,[.sl ⟨none,0,.ex 0⟩],[.sl]⟩),
 (30,⟨.struct [(0,28),(1,2)],true,2,32,[.sl ⟨none,0,.ex 0⟩,.int .i64 0],[.sl,.int .i64]⟩),
 (34,⟨.slice 2,false,1,24,[.sl ⟨none,0,.ex 0⟩],[.sl]⟩),
 (36,⟨.struct [(0,2),(1,34)],true,2,32,[.int .i64 0,.sl ⟨none,0,.ex 0⟩],[.int .i64,.sl]⟩),
 (47,⟨.struct [(0,2),(1,2),(2,34)],true,3,40,[.int .i64 0,.int .i64 0,.sl ⟨none,0,.ex 0⟩],[.int .i64,.int .i64,.sl]⟩),
 (69,⟨.slice 34,false,1,24,[.sl ⟨none,0,.ex 0⟩],[.sl]⟩),
 (73,⟨.struct [(0,2),(1,2),(2,2),(3,2),(4,2)],true,5,40,[.int .i64 0,.int .i64 0,.int .i64 0,.int .i64 0,.int .i64 0],[.int .i64,.int .i64,.int .i64,.int .i64,.int .i64]⟩),
 (77,⟨.struct [(0,47),(3,47),(6,47),(9,47),(12,47),(15,4)],true,16,208,[.int .i64 0,.int .i64 0,.sl ⟨none,0,.ex 0⟩,.int .i64 0,.int .i64 0,.sl ⟨none,0,.ex 0⟩,.int .i64 0,.int .i64 0,.sl ⟨none,0,.ex 0⟩,.int .i64 0,.int .i64 0,.sl ⟨none,0,.ex 0⟩,.int .i64 0,.int .i64 0,.sl ⟨none,0,.ex 0⟩,.bool false],[.int .i64,.int .i64,.sl,.int .i64,.int .i64,.sl,.int .i64,.int .i64,.sl,.int .i64,.int .i64,.sl,.int .i64,.int .i64,.sl,.bool]⟩),
 (80,⟨.struct [(0,2),(1,2),(2,2),(3,2),(4,2)],true,5,40,[.int .i64 0,.int .i64 0,.int .i64 0,.int .i64 0,.int .i64 0],[.int .i64,.int .i64,.int .i64,.int .i64,.int .i64]⟩),
 (87,⟨.struct [(0,47),(3,47),(6,47),(9,47),(12,47)],true,15,200,[.int .i64 0,.int .i64 0,.sl ⟨none,0,.ex 0⟩,.int .i64 0,.int .i64 0,.sl ⟨none,0,.ex 0⟩,.int .i64 0,.int .i64 0,.sl ⟨none,0,.ex 0⟩,.int .i64 0,.int .i64 0,.sl ⟨none,0,.ex 0⟩,.int .i64 0,.int .i64 0,.sl ⟨none,0,.ex 0⟩],[.int .i64,.int .i64,.sl,.int .i64,.int .i64,.sl,.int .i64,.int .i64,.sl,.int .i64,.int .i64,.sl,.int .i64,.int .i64,.sl]⟩),
 (94,⟨.slice 4,false,1,24,[.sl ⟨none,0,.ex 0⟩],[.sl]⟩),
 (101,⟨.slice 132,false,1,24,[.sl ⟨none,0,.ex 0⟩],[.sl]⟩),
 (103,⟨.struct [(0,101),(1,101)],true,2,48,[.sl ⟨none,0,.ex 0⟩,.sl ⟨none,0,.ex 0⟩],[.sl,.sl]⟩),
 (111,⟨.struct [(0,87),(15,4)],true,16,208,[.int .i64 0,.int .i64 0,.sl ⟨none,0,.ex 0⟩,.int .i64 0,.int .i64 0,.sl ⟨none,0,.ex 0⟩,.int .i64 0,.int .i64 0,.sl ⟨none,0,.ex 0⟩,.int .i64 0,.int .i64 0,.sl ⟨none,0,.ex 0⟩,.int .i64 0,.int .i64 0,.sl ⟨none,0,.ex 0⟩,.bool false],[.int .i64,.int .i64,.sl,.int .i64,.int .i64,.sl,.int .i64,.int .i64,.sl,.int .i64,.int .i64,.sl,.int .i64,.int .i64,.sl,.bool]⟩),
 (132,⟨.struct [(0,2),(1,2)],true,2,16,[.int .i64 0,.int .i64 0],[.int .i64,.int .i64]⟩),
 (133,⟨.arr 4 2,true,4,32,[.int .i64 0,.int .i64 0,.int .i64 0,.int .i64 0],[.int .i64,.int .i64,.int .i64,.int .i64]⟩),
 (141,⟨.int .u64,false,1,8,[.int .u64 0],[.int .u64]⟩),
 (149,⟨.int .u64,false,1,8,[.int .u64 0],[.int .u64]⟩)]
def shl:List (Nat×Shp):=[(2,(.leaf (.int .i64))),(3,(.leaf (.int .i64))),(4,(.leaf (.bool))),(26,(.tup [(.leaf (.int .i64)),(.leaf (.int .i64))])),(28,(.leaf (.sl))),(30,(.agg [.sl,.int .i64])),(34,(.leaf (.sl))),(37,(.tup [(.agg [.int .i64,.sl]),(.leaf (.int .i64))])),(47,(.agg [.int .i64,.int .i64,.sl])),(49,(.tup [(.leaf (.sl)),(.leaf (.bool))])),(52,(.tup [(.leaf (.int .i64)),(.leaf (.bool))])),(57,(.tup [(.leaf (.sl)),(.leaf (.int .i64))])),(69,(.leaf (.sl))),(73,(.agg [.int .i64,.int .i64,.int .i64,.int .i64,.int .i64])),(74,(.leaf (.ptr))),(84,(.leaf (.ptr))),(88,(.tup [(.agg [.int .i64,.int .i64,.sl,.int .i64,.int .i64,.sl,.int .i64,.int .i64,.sl,.int .i64,.int .i64,.sl,.int .i64,.int .i64,.sl]),(.leaf (.int .i64))])),(99,(.tup [(.leaf (.bool)),(.leaf (.bool))])),(101,(.leaf (.sl))),(104,(.tup [(.agg [.sl,.sl]),(.leaf (.bool))])),(108,(.leaf (.ptr))),(132,(.agg [.int .i64,.int .i64])),(133,(.agg [.int .i64,.int .i64,.int .i64,.int .i64])),(137,(.tup [(.leaf (.int .i64)),(.leaf (.int .i64)),(.leaf (.bool))])),(142,(.tup [(.leaf (.int .u64)),(.leaf (.int .u64))])),(150,(.tup [(.leaf (.int .u64)),(.leaf (.int .u64))]))]
def tabs:Tabs:=⟨Ty tyl,λt=>shl.lookup t⟩
theorem tabs_ok:fK Tryz.prog tabs.ty:=ak2 (by kernel_rfl)
theorem mixed:Tryz.prog.follows .mixedOrders=true:=by kernel_rfl
abbrev LO:=LOk tabs
noncomputable abbrev EX:=EXe tabs
theorem okT {PN:Nat->List Nat} {LH:Nat->List Nat->Nat->Tm->Hp->OA} {TB:Nat->List (List Nat)} {F:Nat} {fn:Func} {n:FuncId} {cs:Cs} {args:List AV} {H:Hp} {v:AV} {H':Hp} (hf:Tryz.prog.funcs[n]?=some fn) (hcs:∀ p∈cs,Ok Tryz.prog p.1 p.2) (hl:LO (bl cs) PN LH F fn) (h:EX (bl cs) PN LH F fn args H=some (v,H')) (hk:JC PN TB fn args.length=true):Go.AE.T Tryz.prog n args H v H':=T.of2 mixed tabs_ok hcs hf hl h hk
theorem ok0 {fn:Func} {n:FuncId} {args:List AV} {H:Hp} {v:AV} {H':Hp} (hf:Tryz.prog.funcs[n]?=some fn) (h:EX (bl []) bf lh0 0 fn args H=some (v,H')) (hn:qs (fn.body.getD .skip)=true) (hk:JC bf bf fn args.length=true):Go.AE.T Tryz.prog n args H v H':=okT hf cD (JD hn) h hk
abbrev am3:=List Int
abbrev am4:=Int->Int->Sl->Int->Int->Hp->OA
abbrev am5:=List Rs
abbrev am6:=List Nat
abbrev am7:=Sl->Hp->OA
abbrev am8:=Sl->Int->Hp->OA
abbrev am9:=Nat->Nat->Int->Hp->OA
abbrev am_:=Int->Hp->OA
abbrev ana:=Int->Int->Hp->OA
abbrev anb:=List AV
abbrev anc:=Int->Int->Sl->Hp->OA
abbrev ane:=Int->Int->Int->Int->Int->Int->Hp->OA
abbrev anf:=Nat->Nat->Int->Int->Int->Hp->OA
abbrev ang:=Int->Int->Int->Hp->OA
abbrev anh:=List (Int×Int×Int×Int×Int)
abbrev ani:=Sl->Int->Int->Hp->OA
abbrev anj:=Nat->Nat->Int->Int->Sl->Int->Int->Int->Hp->OA
abbrev ank:=Int->Int->Sl->Int->Hp->OA
abbrev anl:=Int->Int->Int->Int->Int->Hp->OA
abbrev anm:=List Int×Int
abbrev ann:=Int×Int×List Int
abbrev ano:=Bool×List Int×List Int×List Int×List Int×List Int
abbrev anp:=List (List Int)
abbrev anq:=Sl->Int->Int->Bool->Hp->OA
abbrev anr:=Nat->Nat->Nat->Nat->Int->Int->Hp->OA
abbrev ans:=List (Int×Int)
abbrev ant:=Nat->Nat->Sl->Int->Hp->OA
abbrev anu:=Sl->Int->Sl->Sl->Int->Int->Hp->OA
abbrev anv:=Bool×List Int
abbrev anw:=Nat->Nat->Int->Int->Hp->OA
abbrev anx:=Int×List Int×Int
abbrev anz:=Sl->Nat->Nat->Nat->Nat->Hp->OA
abbrev anA:=Int×Int
abbrev anB:=Int->Sl->Int->Hp->OA
abbrev anC:=Nat->Nat->Sl->Sl->Int->Hp->OA
abbrev anD:=Nat->Nat->Nat->Nat->Sl->Sl->Int->Int->Hp->OA
abbrev anE:=Int->Nat->Nat->Nat->Nat->Hp->OA
abbrev anF:=Int->Int->Int->Int->Int->Int->Int->Int->Int->Int->Hp->OA
abbrev anG:=List (Int×Int×Int×Int×Int)->List (List Int)->List Bool->Int->Option (List (List Int))
abbrev anH:=List (Int×Int×Int×Int×Int)->List (Int×Int)->List (Int×Int)->List (List Int)->List Bool->Int->Int->Option (List (List Int))
abbrev anI:=Nat->Nat->Nat->Nat->Int->Hp->OA
abbrev anJ:=Sl->Int->Sl->Sl->Hp->OA
abbrev anK:=Nat->Nat->Nat->Nat->Nat->Nat->Int->Int->Hp->OA
abbrev anL:=Sl->Sl->Hp->OA
abbrev anM:=List (Int×Int×Int×Int×Int)->List Int->Int->Option (List Int)
abbrev anN:=List (Int×Int×Int×Int×Int)->Int->List Int->Int->Option (List Int×Int)
abbrev anO:=List Int×List Int×List Int×Bool
abbrev anP:=Int×Int×Bool
abbrev anQ:=Int->Bool->Nat->Nat->Int->Hp->OA
abbrev anR:=Nat->Nat->Int->Int->Int->Int->Hp->OA
abbrev anS:=Nat->Nat->Nat->Nat->Nat->Nat->Int->Hp->OA
abbrev anT:=Int->Int->Int->Bool->Nat->Nat->Int->Hp->OA
abbrev anU:=Int->Bool->List (Int×Int×Int×Int×Int)->Int->Option (Int×Int)
abbrev anV:=Int->Int->List Int->Int->List Int->Int->Int->List Int->Int->Int->List Int->Int->List Int->Int->Int->Int->Int->Option (Bool×List Int×List Int×List Int×List Int×List Int)
abbrev anW:=Int->Int->List Int->Int->Int->Option (Int)
abbrev anX:=Int->Int->Int->Int->List Int->Int->Int->List Int->Int->Int->List Int->Int->Int->List Int->Int->Int->List Int->Bool->Int->Option (Int×Int×List Int×Int×Int×List Int×Int×Int×List Int×Int×Int×List Int×Int×Int×List Int×Bool)
abbrev anY:=Int->List Int->Int->Int->List Int->Int->Option (Int×List Int×Int)
abbrev anZ:=Int->List Int->Int->Int->List Int->Int->Int->Option (Int×Int×List Int)
abbrev an0:=Int->Int->Int->Bool->Int->Int->List Int->Int->Option (Int×Int×Bool)
abbrev an1:=Int->List Int->Int->Int->List Int->Int->Int->List Int->Int->Int->List Int->Int->List Int->Bool->Int->Option (List Int×List Int×List Int×List Int×List Int×Bool)
abbrev an2:=Nat->Nat->Sl->Int->Int->Int->Int->Hp->OA
abbrev an3:=Sl->Sl->Int->Hp->OA
abbrev an4:=Nat->Nat->Int->Nat->Nat->Int->Hp->OA
abbrev an5:=List Bool
abbrev an6:=Int->List Int->List Int->Int->Int->Option (List Int×Int)
abbrev an7:=Bool×Bool×List Int×List Int×List Int×List Int×List Int×Bool
abbrev an8:=Int×Int×List Int×Int×Int×List Int×Int×Int×List Int×Int×Int×List Int×Int×Int×List Int×Bool
abbrev an9:=List Int×List Int×List Int×List Int×List Int×Bool
abbrev an_:=Nat->Nat->Sl->Sl->Int->Int->Hp->OA
abbrev aoa:=Nat->Nat->Int->Sl->Int->Int->Hp->OA
abbrev aob:=Nat->Nat->Hp->OA
abbrev aoc:=Int->Sl->Int->Sl->Hp->OA
abbrev aod:=Sl->Int->Sl->Int->Hp->OA
abbrev aoe:=AV->Hp->Prop
abbrev aof:=List Int×Bool
abbrev aog:=List Int->Int->Int->Option (Int)
abbrev aoh:=Int×(List (Int×Int×Int×Int×Int))
abbrev aoi:=Int×List Int
abbrev aoj:=AV×Hp->OA
abbrev aok:=Int×Bool
abbrev aol:=List Int->Int->Int->Option (List Int)
abbrev aom:=Nat->Nat->Int->Sl->Sl->Int->Hp->OA
abbrev aon:=Nat->Nat->Int->Int->Int->Int->Int->Hp->OA
abbrev aoo:=Nat->Nat->Nat->Nat->Sl->Int->Hp->OA
abbrev aoq:=Nat->Nat->Nat->Nat->Sl->Int->Int->Hp->OA
abbrev aor:=Sl->Int->Int->Sl->Int->Int->Hp->OA
abbrev aos:=Int->Int->Int->Bool->Nat->Nat->Int->Int->Hp->OA
abbrev aot:=Nat->Nat->Sl->Int->Int->Hp->OA
abbrev aou:=List (Int×Int×Int×Int×Int)->Int->List Bool->List Bool->Int->Option (Bool)
abbrev aov:=List (Int×Int×Int×Int×Int)->List Int->Int->Int->Int->Int->Option (List Int)
abbrev aow:=Int->List Int->Int->Option (Int)
abbrev aox:=List (Int×Int×Int×Int×Int)->Int->List Int->Int->Int->Int->Int->Option (List Int×Int)
abbrev aoy:=Int->Int->List Int->Int->List Int->Int->Int->List Int->Int->Int->List Int->Int->List Int->Int->Int->Int->Int->Int->Option (Bool×List Int×List Int×List Int×List Int×List Int)
abbrev aoz:=Int->Int->Int->List Int->Bool->List Int->Int->Option (List Int×Bool)
abbrev aoA:=List Int->List Int->Int->Option (List Int)
abbrev aoB:=List (Int×Int)->List (Int×Int)->List (Int×Int×Int×Int×Int)->Int->Int->Option ((List (Int×Int))×(List (Int×Int))×Bool)
abbrev aoC:=List Int->Int->Int->Int->Int->Option (List Int)
abbrev aoD:=Int->Int->Int->Bool->Int->Int->List Int->Int->Int->Option (Int×Int×Bool)
abbrev aoE:=Int->List Int->Int->Int->List Int->Int->Int->List Int->Int->Int->List Int->Int->List Int->Bool->Int->Int->Int->Int->Option (Bool×List Int×List Int×List Int×List Int×List Int)
abbrev aoF:=List Int->List Int->Int->Int->List Int->Int->Int->List Int->Int->List Int->Bool->Int->Int->Int->Option (Bool×List Int×List Int×List Int×List Int×List Int)
abbrev aoG:=Int×Int×Int×Int×Int
abbrev aoH:=Int->Int->Nat->Nat->Int->Hp->OA
abbrev aoI:=Nat->Nat->Int->Int->Int->Nat->Nat->Int->Hp->OA
abbrev aoJ:=Int->Int->List Int->Int->List Int->Int->Int->List Int->Int->Int->List Int->Int->List Int->Bool->Int->Int->Option (Bool×Bool×List Int×List Int×List Int×List Int×List Int×Bool)
abbrev aoK:=Int->Int->Nat->Nat->Int->Int->Hp->OA
abbrev aoL:=Int->Int->Int->List Int->Int->Int->Option (List Int)
abbrev aoM:=Nat->Nat->Int->Int->Int->Nat->Nat->Int->Int->Hp->OA
abbrev aoN:=Bool->Int->Int->Int->Int->List Int->Int->Int->Option (Bool×List Int)
abbrev aoO:=Int×Int×List Int×Int×Int×List Int×Int×Int×List Int×Int×Int×List Int×Int×Int×List Int×Int
end Go.Proofs.YtppbogklbhfboaaGreat.AE
end
