import Derived.Test.YtodfdhnlhiaohaaE2
import Derived.Test.YtodfdhnlhiaohaaProg
set_option linter.unusedVariables false
set_option linter.unusedSimpArgs false
section
namespace Go.Proofs.Ytodfdhnlhiaohaa.AE
open Go Go.AE Go.Proofs
def tyl:List (TypeId×TI):=[
 (2,⟨.int .i64,false,1,8,[.int .i64 0],[.int .i64]⟩),
 (3,⟨.int .i64,false,1,8,[.int .i64 0],[.int .i64]⟩),
 (4,⟨.bool,false,1,1,[.bool false],[.bool]⟩),
 (22,⟨.slice 145,false,1,24,[.sl ⟨none,0,.ex 0⟩],[.sl]⟩),
 (24,⟨.struct [(0,22),(1,2)],true,2,32,[.sl ⟨none,0,.ex 0⟩,.int .i64 0],[.sl,.int .i64]⟩),
 (26,⟨.slice 47,false,1,24,[.sl ⟨none,0,.ex 0⟩],[.sl]⟩),
 (28,⟨.struct [(0,2),(1,26)],true,2,32,[.int .i64 0,.sl ⟨none,0,.ex 0⟩],[.int .i64,.sl]⟩),
 (31,⟨.slice 143,false,1,24,[.sl ⟨none,0,.ex 0⟩],[.sl]⟩),
 (33,⟨.struct [(0,31),(1,2)],true,2,32,[.sl ⟨none,0,.ex 0⟩,.int .i64 0],[.sl,.int .i64]⟩),
 (47,⟨.slice 2,false,1,24,[.sl ⟨none,0,.ex 0⟩],[.sl]⟩),
 (123,⟨.slice 170,false,1,24,[.sl ⟨none,0,.ex 0⟩],[.sl]⟩),
 (125,⟨.struct [(0,123),(1,123)],true,2,48,[.sl ⟨none,0,.ex 0⟩,.sl ⟨none,0,.ex 0⟩],[.sl,.sl]⟩),
 (143,⟨.struct [(0,2),(1,2),(2,2),(3,2),(4,2)],true,5,40,[.int .i64 0,.int .i64 0,.int .i64 0,.int .i64 0,.int .i64 0],[.int .i64,.int .i64,.int .i64,.int .i64,.int .i64]⟩),
 (145,⟨.struct [(0,2),(1,2),(2,2),(3,2),(4,2)],true,5,40,[.int .i64 0,.int .i64 0,.int .i64 0,.int .i64 0,.int .i64 0],[.int .i64,.int .i64,.int .i64,.int .i64,.int .i64]⟩),
 (168,⟨.slice 4,false,1,24,[.sl ⟨none,0,.ex 0⟩],[.sl]⟩),
 (170,⟨.struct [(0,2),(1,2)],true,2,16,[.int .i64 0,.int .i64 0],[.int .i64,.int .i64]⟩),
 (199,⟨.arr 4 2,true,4,32,[.int .i64 0,.int .i64 0,.int .i64 0,.int .i64 0],[.int .i64,.int .i64,.int .i64,.int .i64]⟩),
 (202,⟨.int .u64,false,1,8,[.int .u64 0],[.int .u64]⟩),
 (232,⟨.int .u64,false,1,8,[.int .u64 0],[.int .u64]⟩)]
def shl:List (Nat×Shp):=[(2,(.leaf (.int .i64))),(3,(.leaf (.int .i64))),(4,(.leaf (.bool))),(26,(.leaf (.sl))),(29,(.tup [(.agg [.int .i64,.sl]),(.leaf (.int .i64))])),(31,(.leaf (.sl))),(33,(.agg [.sl,.int .i64])),(47,(.leaf (.sl))),(91,(.tup [(.leaf (.sl)),(.leaf (.int .i64))])),(123,(.leaf (.sl))),(126,(.tup [(.agg [.sl,.sl]),(.leaf (.bool))])),(143,(.agg [.int .i64,.int .i64,.int .i64,.int .i64,.int .i64])),(170,(.agg [.int .i64,.int .i64])),(199,(.agg [.int .i64,.int .i64,.int .i64,.int .i64])),(203,(.tup [(.leaf (.int .u64)),(.leaf (.int .u64))])),(205,(.tup [(.leaf (.int .i64)),(.leaf (.int .i64))])),(233,(.tup [(.leaf (.int .u64)),(.leaf (.int .u64))]))]
def tabs:Tabs:=⟨yr tyl,λt=>shl.lookup t⟩
theorem tabs_ok:bJ Try.prog tabs.ty:=IL (by kernel_rfl)
theorem mixed:Try.prog.follows .mixedOrders=true:=by kernel_rfl
abbrev LO:=LOk tabs
noncomputable abbrev EX:=EXe tabs
theorem okT {PN:Nat->List Nat} {LH:Nat->List Nat->Nat->Tm->Hp->OA} {TB:Nat->List (List Nat)} {F:Nat} {fn:Func} {n:FuncId} {cs:Cs} {args:List AV} {H:Hp} {v:AV} {H':Hp} (hf:Try.prog.funcs[n]?=some fn) (hcs:∀ p∈cs,Ok Try.prog p.1 p.2) (hl:LO (aS cs) PN LH F fn) (h:EX (aS cs) PN LH F fn args H=some (v,H')) (hk:sE PN TB fn args.length=true):Go.AE.T Try.prog n args H v H':=T.of2 mixed tabs_ok hcs hf hl h hk
theorem ok0 {fn:Func} {n:FuncId} {args:List AV} {H:Hp} {v:AV} {H':Hp} (hf:Try.prog.funcs[n]?=some fn) (h:EX (aS []) aK lh0 0 fn args H=some (v,H')) (hn:gy (fn.body.getD .skip)=true) (hk:sE aK aK fn args.length=true):Go.AE.T Try.prog n args H v H':=okT hf bB (sF hn) h hk
abbrev KN:=Sl->Int->Hp->OA
abbrev KO:=List Rs
abbrev KP:=Sl->Hp->OA
abbrev KQ:=List Nat
abbrev KR:=Int->Int->Int->Int->Int->Int->Hp->OA
abbrev KS:=List Int
abbrev KT:=List (Int×Int×Int×Int×Int)
abbrev KU:=Sl->Int->Int->Hp->OA
abbrev KV:=List (List Int)
abbrev KW:=List AV
abbrev KX:=Int->Int->Int->Int->Int->Hp->OA
abbrev KY:=Int->Int->Int->Hp->OA
abbrev KZ:=Sl->Int->Int->Bool->Hp->OA
abbrev K_:=Int->Hp->OA
abbrev La:=List Int×Int
abbrev Lb:=List (Int×Int)
abbrev Lc:=Nat->Nat->Sl->Int->Hp->OA
abbrev Ld:=Sl->Sl->Hp->OA
abbrev Le:=Int->Int->Hp->OA
abbrev Lf:=Sl->Int->Sl->Sl->Int->Int->Hp->OA
abbrev Lg:=Nat->Nat->Sl->Sl->Int->Hp->OA
abbrev Lh:=Int×Int
abbrev Li:=Int->Sl->Int->Hp->OA
abbrev Lj:=Nat->Nat->Nat->Nat->Sl->Sl->Int->Int->Hp->OA
abbrev Lk:=Int->Int->Int->Int->Int->Int->Int->Int->Int->Int->Hp->OA
abbrev Ll:=List (Int×Int×Int×Int×Int)->List (List Int)->List Bool->Int->Option (List (List Int))
abbrev Lm:=List (Int×Int×Int×Int×Int)->List (Int×Int)->List (Int×Int)->List (List Int)->List Bool->Int->Int->Option (List (List Int))
abbrev Ln:=Sl->Int->Sl->Sl->Hp->OA
abbrev Lo:=List (Int×Int×Int×Int×Int)->List Int->Int->Option (List Int)
abbrev Lq:=List (Int×Int×Int×Int×Int)->Int->List Int->Int->Option (List Int×Int)
abbrev Lr:=Int->Bool->Nat->Nat->Int->Hp->OA
abbrev Lt:=Int->Bool->List (Int×Int×Int×Int×Int)->Int->Option (Int×Int)
abbrev Lu:=Nat->Nat->Sl->Int->Int->Int->Int->Hp->OA
abbrev Lv:=List Bool
abbrev Lw:=Int×List (List Int)×Int
abbrev Lx:=Nat->Nat->Sl->Sl->Int->Int->Hp->OA
abbrev Ly:=Sl->Sl->Int->Hp->OA
abbrev Lz:=Int->Sl->Int->Sl->Hp->OA
abbrev LA:=Sl->Int->Sl->Int->Hp->OA
abbrev LB:=Int×(List (Int×Int×Int×Int×Int))
abbrev LC:=Nat->Nat->Nat->Nat->Sl->Int->Int->Hp->OA
abbrev LD:=Int×List Int
abbrev LE:=Int×List (List Int)
abbrev LF:=Nat->Nat->Int->Sl->Sl->Int->Hp->OA
abbrev LG:=Sl->Int->Int->Sl->Int->Int->Hp->OA
abbrev LI:=List (Int×Int×Int×Int×Int)->Int->List Bool->List Bool->Int->Option (Bool)
abbrev LJ:=List (Int×Int×Int×Int×Int)->List Int->Int->Int->Int->Int->Option (List Int)
abbrev LL:=Int->List Int->Int->Option (Int)
abbrev LM:=List (Int×Int×Int×Int×Int)->Int->List Int->Int->Int->Int->Int->Option (List Int×Int)
abbrev LN:=Int->List Int->List Int->Int->Int->Option (List Int×Int)
abbrev LP:=List (Int×Int×Int×Int×Int)->List (List Int)->List Int->Int->Option (List (List Int))
abbrev LQ:=List (Int×Int)->List (Int×Int)->List (Int×Int×Int×Int×Int)->Int->Int->Option ((List (Int×Int))×(List (Int×Int))×Bool)
abbrev LR:=List Int->Int->Int->Int->Int->Option (List Int)
abbrev LS:=Int×Int×Int×Int×Int
abbrev LT:=List Int->Int->Int->Option (Int)
end Go.Proofs.Ytodfdhnlhiaohaa.AE
end
