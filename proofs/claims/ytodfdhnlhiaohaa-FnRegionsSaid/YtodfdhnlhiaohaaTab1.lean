import Derived.Test.YtodfdhnlhiaohaaE2
import Derived.Test.YtodfdhnlhiaohaaProg
set_option linter.unusedVariables false
set_option linter.unusedSimpArgs false
section
namespace Go.Proofs.Ytodfdhnlhiaohaa.AE
open Go Go.AE Go.Proofs
def tyl:List (TypeId×TI):=[
 (2,⟨.int .i64,false,1,8,[.int .i64 0],[.int .i64]⟩),
 (3,⟨.int .i64,false,1,8,[.int .i64 0],[.int .i64]⟩),
 (4,⟨.bool,false,1,1,[.bool false],[.bool]⟩),
 (5,⟨.int .u8,false,1,1,[.int .u8 0],[.int .u8]⟩),
 (26,⟨.slice 47,false,1,24,[.sl ⟨none,0,.ex 0⟩],[.sl]⟩),
 (31,⟨.slice 143,false,1,24,[.sl ⟨none,0,.ex 0⟩],[.sl]⟩),
 (33,⟨.struct [(0,31),(1,2)],true,2,32,[.sl ⟨none,0,.ex 0⟩,.int .i64 0],[.sl,.int .i64]⟩),
 (47,⟨.slice 2,false,1,24,[.sl ⟨none,0,.ex 0⟩],[.sl]⟩),
 (71,⟨.slice 5,false,1,24,[.sl ⟨none,0,.ex 0⟩],[.sl]⟩),
 (123,⟨.slice 170,false,1,24,[.sl ⟨none,0,.ex 0⟩],[.sl]⟩),
 (125,⟨.struct [(0,123),(1,123)],true,2,48,[.sl ⟨none,0,.ex 0⟩,.sl ⟨none,0,.ex 0⟩],[.sl,.sl]⟩),
 (143,⟨.struct [(0,2),(1,2),(2,2),(3,2),(4,2)],true,5,40,[.int .i64 0,.int .i64 0,.int .i64 0,.int .i64 0,.int .i64 0],[.int .i64,.int .i64,.int .i64,.int .i64,.int .i64]⟩),
 (165,⟨.struct [(0,71),(1,3),(2,2)],true,3,40,[.sl ⟨none,0,.ex 0⟩,.int .i64 0,.int .i64 0],[.sl,.int .i64,.int .i64]⟩),
 (168,⟨.slice 4,false,1,24,[.sl ⟨none,0,.ex 0⟩],[.sl]⟩),
 (170,⟨.struct [(0,2),(1,2)],true,2,16,[.int .i64 0,.int .i64 0],[.int .i64,.int .i64]⟩),
 (199,⟨.arr 4 2,true,4,32,[.int .i64 0,.int .i64 0,.int .i64 0,.int .i64 0],[.int .i64,.int .i64,.int .i64,.int .i64]⟩),
 (202,⟨.int .u64,false,1,8,[.int .u64 0],[.int .u64]⟩),
 (232,⟨.int .u64,false,1,8,[.int .u64 0],[.int .u64]⟩)]
def shl:List (Nat×Shp):=[(2,(.leaf (.int .i64))),(3,(.leaf (.int .i64))),(4,(.leaf (.bool))),(26,(.leaf (.sl))),(33,(.agg [.sl,.int .i64])),(47,(.leaf (.sl))),(75,(.tup [(.leaf (.sl)),(.leaf (.bool))])),(121,(.leaf (.ptr))),(123,(.leaf (.sl))),(126,(.tup [(.agg [.sl,.sl]),(.leaf (.bool))])),(143,(.agg [.int .i64,.int .i64,.int .i64,.int .i64,.int .i64])),(170,(.agg [.int .i64,.int .i64])),(193,(.tup [(.agg [.sl,.int .i64]),(.leaf (.int .i64))])),(199,(.agg [.int .i64,.int .i64,.int .i64,.int .i64])),(203,(.tup [(.leaf (.int .u64)),(.leaf (.int .u64))])),(205,(.tup [(.leaf (.int .i64)),(.leaf (.int .i64))])),(233,(.tup [(.leaf (.int .u64)),(.leaf (.int .u64))]))]
def tabs:Tabs:=⟨Fj tyl,λt=>shl.lookup t⟩
theorem tabs_ok:bU Try.prog tabs.ty:=WJ (by kernel_rfl)
theorem mixed:Try.prog.follows .mixedOrders=true:=by kernel_rfl
abbrev LO:=LOk tabs
noncomputable abbrev EX:=EXe tabs
theorem okT {PN:Nat->List Nat} {LH:Nat->List Nat->Nat->Tm->Hp->OA} {TB:Nat->List (List Nat)} {F:Nat} {fn:Func} {n:FuncId} {cs:Cs} {args:List AV} {H:Hp} {v:AV} {H':Hp} (hf:Try.prog.funcs[n]?=some fn) (hcs:∀ p∈cs,Ok Try.prog p.1 p.2) (hl:LO (bp cs) PN LH F fn) (h:EX (bp cs) PN LH F fn args H=some (v,H')) (hk:wQ PN TB fn args.length=true):Go.AE.T Try.prog n args H v H':=T.of2 mixed tabs_ok hcs hf hl h hk
theorem ok0 {fn:Func} {n:FuncId} {args:List AV} {H:Hp} {v:AV} {H':Hp} (hf:Try.prog.funcs[n]?=some fn) (h:EX (bp []) bm lh0 0 fn args H=some (v,H')) (hn:h_ (fn.body.getD .skip)=true) (hk:wQ bm bm fn args.length=true):Go.AE.T Try.prog n args H v H':=okT hf cj (wR hn) h hk
abbrev Yq:=Sl->Int->Hp->OA
abbrev Yr:=List Int
abbrev Ys:=List Rs
abbrev Yt:=Sl->Hp->OA
abbrev Yu:=Int->Int->Int->Int->Int->Int->Hp->OA
abbrev Yv:=Sl->Int->Sl->Sl->Hp->OA
abbrev Yw:=List Nat
abbrev Yx:=List (Int×Int×Int×Int×Int)
abbrev Yy:=Nat->Nat->Int->Hp->OA
abbrev Yz:=Int->Hp->OA
abbrev YA:=Int->Int->Int->Int->Int->Int->Int->Hp->OA
abbrev YB:=Int->Int->Int->Int->Int->Hp->OA
abbrev YC:=Sl->Int->Int->Hp->OA
abbrev YD:=List (List Int)
abbrev YE:=List AV
abbrev YF:=Int->Int->Int->Hp->OA
abbrev YG:=Sl->Int->Int->Bool->Hp->OA
abbrev YH:=Int->Int->Hp->OA
abbrev YI:=List (Int×Int)
abbrev YJ:=Sl->Int->Sl->Sl->Int->Int->Hp->OA
abbrev YK:=Sl->Sl->Int->Int->Hp->OA
abbrev YL:=Int×Int
abbrev YM:=Int->Nat->Nat->Nat->Nat->Sl->Int->Hp->OA
abbrev YN:=Int->Sl->Hp->OA
abbrev YO:=Sl->Int->Sl->Int->Hp->OA
abbrev YP:=Int->List (Int×Int×Int×Int×Int)->Int->List Int->Int->Option ((List (Int×Int×Int×Int×Int))×Int)
abbrev YQ:=Nat->Nat->Sl->Sl->Int->Hp->OA
abbrev YR:=Nat->Nat->Sl->Int->Hp->OA
abbrev YS:=Nat->Nat->Nat->Nat->Sl->Sl->Int->Int->Hp->OA
abbrev YT:=List (Int×Int×Int×Int×Int)->List (List Int)->List Bool->Int->Option (List (List Int))
abbrev YU:=List (Int×Int×Int×Int×Int)->List (Int×Int)->List (Int×Int)->List (List Int)->List Bool->Int->Int->Option (List (List Int))
abbrev YV:=Sl->Int->Int->Sl->Int->Int->Hp->OA
abbrev YW:=Nat->Nat->Hp->OA
abbrev YX:=List Int×Int×Int
abbrev YY:=List (Int×Int×Int×Int×Int)->List Int->Int->Option (List Int)
abbrev YZ:=Int->Nat->Nat->Nat->Nat->Sl->Int->Int->Hp->OA
abbrev Y_:=Int->Bool->Nat->Nat->Int->Hp->OA
abbrev Za:=Sl->Sl->Sl->Int->Int->Hp->OA
abbrev Zb:=Int->List (Int×Int×Int×Int×Int)->Int->List Int->Int->Int->Option ((List (Int×Int×Int×Int×Int))×Int)
abbrev Zc:=Int->Bool->List (Int×Int×Int×Int×Int)->Int->Option (Int×Int)
abbrev Zd:=List Bool
abbrev Ze:=List Int->List (List Int)->Int->Int->Option (List Int)
abbrev Zf:=List Int->List Int->Int->Int->Option (List Int)
abbrev Zg:=List (List Int)->List Int->List Int->Int->Int->Option (Bool)
abbrev Zh:=Int×Int×Int
abbrev Zi:=Int×Int×Int×Int×Int
abbrev Zj:=Int->Nat->Nat->Nat->Nat->Sl->Int->Int->Int->Hp->OA
abbrev Zk:=Int->Sl->Nat->Nat->Nat->Nat->Sl->Int->Int->Hp->OA
abbrev Zl:=Nat->Nat->Nat->Nat->Int->Sl->Int->Hp->OA
abbrev Zm:=Nat->Nat->Int->Sl->Sl->Int->Hp->OA
abbrev Zn:=Nat->Nat->Sl->Int->Int->Int->Int->Hp->OA
abbrev Zo:=Int->Sl->Int->Hp->OA
abbrev Zp:=Nat->Nat->Nat->Nat->Sl->Int->Int->Hp->OA
abbrev Zq:=Sl->Sl->Int->Int->Int->Int->Hp->OA
abbrev Zr:=Sl->Sl->Sl->Sl->Int->Int->Hp->OA
abbrev Zs:=Int->List Int->List (Int×Int×Int×Int×Int)->Int->List Int->Int->Int->Option ((List (Int×Int×Int×Int×Int))×Int)
abbrev Zt:=Int->List (Int×Int×Int×Int×Int)->Int->List Int->Int->Int->Int->Option ((List (Int×Int×Int×Int×Int))×Int)
abbrev Zu:=List Int->Int->Int->Int->List Int->Int->Option ((List (Int×Int×Int×Int×Int))×Int×Int×Int)
abbrev Zv:=List (Int×Int×Int×Int×Int)->Int->List Bool->List Bool->Int->Option (Bool)
abbrev Zw:=List (Int×Int×Int×Int×Int)->List Int->Int->Int->Int->Int->Option (List Int)
abbrev Zx:=Int->List Int->Int->Option (Int)
abbrev Zy:=List (Int×Int)->List (Int×Int)->List (Int×Int×Int×Int×Int)->Int->Int->Option ((List (Int×Int))×(List (Int×Int))×Bool)
abbrev Zz:=List Int->Int->Int->Int->Int->Option (List Int)
abbrev ZA:=List Int->List Int->List Bool->List Int->Int->Int->Option (List Int)
abbrev ZB:=List Int->List Int->Int->Int->Int->Int->Option (List Int)
end Go.Proofs.Ytodfdhnlhiaohaa.AE
end
