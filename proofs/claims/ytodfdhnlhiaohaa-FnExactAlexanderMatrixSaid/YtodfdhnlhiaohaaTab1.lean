import Derived.Test.YtodfdhnlhiaohaaE2
import Derived.Test.YtodfdhnlhiaohaaProg
set_option linter.unusedVariables false
set_option linter.unusedSimpArgs false
section
namespace Go.Proofs.Ytodfdhnlhiaohaa.AE
open Go Go.AE Go.Proofs
def tyl:List (TypeId×TI):=[
 (2,⟨.int .i64,false,1,8,[.int .i64 0],[.int .i64]⟩),
 (3,⟨.int .i64,false,1,8,[.int .i64 0],[.int .i64]⟩),
 (4,⟨.bool,false,1,1,[.bool false],[.bool]⟩),
 (22,⟨.slice 145,false,1,24,[.sl ⟨none,0,.ex 0⟩],[.sl]⟩),
 (24,⟨.struct [(0,22),(1,2)],true,2,32,[.sl ⟨none,0,.ex 0⟩,.int .i64 0],[.sl,.int .i64]⟩),
 (26,⟨.slice 47,false,1,24,[.sl ⟨none,0,.ex 0⟩],[.sl]⟩),
 (31,⟨.slice 143,false,1,24,[.sl ⟨none,0,.ex 0⟩],[.sl]⟩),
 (33,⟨.struct [(0,31),(1,2)],true,2,32,[.sl ⟨none,0,.ex 0⟩,.int .i64 0],[.sl,.int .i64]⟩),
 (40,⟨.slice 104,false,1,24,[.sl ⟨none,0,.ex 0⟩],[.sl]⟩),
 (47,⟨.slice 2,false,1,24,[.sl ⟨none,0,.ex 0⟩],[.sl]⟩),
 (104,⟨.slice 150,false,1,24,[.sl ⟨none,0,.ex 0⟩],[.sl]⟩),
 (123,⟨.slice 170,false,1,24,[.sl ⟨none,0,.ex 0⟩],[.sl]⟩),
 (125,⟨.struct [(0,123),(1,123)],true,2,48,[.sl ⟨none,0,.ex 0⟩,.sl ⟨none,0,.ex 0⟩],[.sl,.sl]⟩),
 (143,⟨.struct [(0,2),(1,2),(2,2),(3,2),(4,2)],true,5,40,[.int .i64 0,.int .i64 0,.int .i64 0,.int .i64 0,.int .i64 0],[.int .i64,.int .i64,.int .i64,.int .i64,.int .i64]⟩),
 (145,⟨.struct [(0,2),(1,2),(2,2),(3,2),(4,2)],true,5,40,[.int .i64 0,.int .i64 0,.int .i64 0,.int .i64 0,.int .i64 0],[.int .i64,.int .i64,.int .i64,.int .i64,.int .i64]⟩),
 (150,⟨.struct [(0,2),(1,47)],true,2,32,[.int .i64 0,.sl ⟨none,0,.ex 0⟩],[.int .i64,.sl]⟩),
 (168,⟨.slice 4,false,1,24,[.sl ⟨none,0,.ex 0⟩],[.sl]⟩),
 (170,⟨.struct [(0,2),(1,2)],true,2,16,[.int .i64 0,.int .i64 0],[.int .i64,.int .i64]⟩),
 (199,⟨.arr 4 2,true,4,32,[.int .i64 0,.int .i64 0,.int .i64 0,.int .i64 0],[.int .i64,.int .i64,.int .i64,.int .i64]⟩),
 (202,⟨.int .u64,false,1,8,[.int .u64 0],[.int .u64]⟩),
 (232,⟨.int .u64,false,1,8,[.int .u64 0],[.int .u64]⟩)]
def shl:List (Nat×Shp):=[(2,(.leaf (.int .i64))),(3,(.leaf (.int .i64))),(4,(.leaf (.bool))),(26,(.leaf (.sl))),(31,(.leaf (.sl))),(33,(.agg [.sl,.int .i64])),(40,(.leaf (.sl))),(41,(.tup [(.leaf (.sl)),(.leaf (.bool))])),(47,(.leaf (.sl))),(91,(.tup [(.leaf (.sl)),(.leaf (.int .i64))])),(123,(.leaf (.sl))),(126,(.tup [(.agg [.sl,.sl]),(.leaf (.bool))])),(143,(.agg [.int .i64,.int .i64,.int .i64,.int .i64,.int .i64])),(150,(.agg [.int .i64,.sl])),(170,(.agg [.int .i64,.int .i64])),(199,(.agg [.int .i64,.int .i64,.int .i64,.int .i64])),(203,(.tup [(.leaf (.int .u64)),(.leaf (.int .u64))])),(205,(.tup [(.leaf (.int .i64)),(.leaf (.int .i64))])),(209,(.tup [(.agg [.int .i64,.sl]),(.leaf (.int .i64))])),(233,(.tup [(.leaf (.int .u64)),(.leaf (.int .u64))]))]
def tabs:Tabs:=⟨Is tyl,λt=>shl.lookup t⟩
theorem tabs_ok:ch Try.prog tabs.ty:=Z_ (by kernel_rfl)
theorem mixed:Try.prog.follows .mixedOrders=true:=by kernel_rfl
abbrev LO:=LOk tabs
noncomputable abbrev EX:=EXe tabs
theorem okT {PN:Nat->List Nat} {LH:Nat->List Nat->Nat->Tm->Hp->OA} {TB:Nat->List (List Nat)} {F:Nat} {fn:Func} {n:FuncId} {cs:Cs} {args:List AV} {H:Hp} {v:AV} {H':Hp} (hf:Try.prog.funcs[n]?=some fn) (hcs:∀ p∈cs,Ok Try.prog p.1 p.2) (hl:LO (aT cs) PN LH F fn) (h:EX (aT cs) PN LH F fn args H=some (v,H')) (hk:zE PN TB fn args.length=true):Go.AE.T Try.prog n args H v H':=T.of2 mixed tabs_ok hcs hf hl h hk
theorem ok0 {fn:Func} {n:FuncId} {args:List AV} {H:Hp} {v:AV} {H':Hp} (hf:Try.prog.funcs[n]?=some fn) (h:EX (aT []) aC lh0 0 fn args H=some (v,H')) (hn:jk (fn.body.getD .skip)=true) (hk:zE aC aC fn args.length=true):Go.AE.T Try.prog n args H v H':=okT hf bo (zF hn) h hk
abbrev abQ:=Sl->Int->Hp->OA
abbrev abR:=List Rs
abbrev abS:=Sl->Hp->OA
abbrev abT:=List Nat
abbrev abU:=List Int
abbrev abV:=Int->Sl->Hp->OA
abbrev abW:=Int->Int->Int->Int->Int->Int->Hp->OA
abbrev abX:=List (Int×Int×Int×Int×Int)
abbrev abY:=Sl->Int->Int->Hp->OA
abbrev abZ:=Int×List Int
abbrev ab0:=List AV
abbrev ab1:=Int->Hp->OA
abbrev ab2:=List (List Int)
abbrev ab3:=Int->Sl->Int->Sl->Hp->OA
abbrev ab4:=Int->Int->Int->Int->Int->Hp->OA
abbrev ab5:=Int->Int->Hp->OA
abbrev ab6:=Int->Int->Int->Hp->OA
abbrev ab7:=Sl->Int->Int->Bool->Hp->OA
abbrev ab8:=Sl->Sl->Hp->OA
abbrev ab9:=List Int×Int
abbrev ab_:=List (Int×Int)
abbrev aca:=Nat->Nat->Sl->Int->Hp->OA
abbrev acb:=Sl->Int->Sl->Sl->Int->Int->Hp->OA
abbrev acd:=Nat->Nat->Sl->Sl->Int->Hp->OA
abbrev ace:=Sl->Int->Sl->Int->Hp->OA
abbrev acf:=Int×Int
abbrev acg:=List (Int×List Int)
abbrev ach:=Nat->Nat->Nat->Nat->Sl->Sl->Int->Int->Hp->OA
abbrev aci:=Int->Int->Int->Int->Int->Int->Int->Int->Int->Int->Hp->OA
abbrev acj:=List (Int×Int×Int×Int×Int)->List (List Int)->List Bool->Int->Option (List (List Int))
abbrev ack:=List (Int×Int×Int×Int×Int)->List (Int×Int)->List (Int×Int)->List (List Int)->List Bool->Int->Int->Option (List (List Int))
abbrev acl:=Int×List Int×Int
abbrev acm:=Sl->Int->Sl->Sl->Hp->OA
abbrev acn:=List (Int×Int×Int×Int×Int)->List Int->Int->Option (List Int)
abbrev aco:=List (Int×Int×Int×Int×Int)->Int->List Int->Int->Option (List Int×Int)
abbrev acp:=List ((List (Int×List Int)))
abbrev acq:=Int->Bool->Nat->Nat->Int->Hp->OA
abbrev acr:=Sl->Int->Nat->Nat->Nat->Nat->Int->Int->Hp->OA
abbrev acs:=Nat->Nat->Int->Nat->Nat->Sl->Int->Int->Hp->OA
abbrev acu:=Int->Nat->Nat->Nat->Nat->Int->Sl->Int->Int->Hp->OA
abbrev acv:=Int->Sl->Sl->Int->Int->Hp->OA
abbrev acw:=Int->Bool->List (Int×Int×Int×Int×Int)->Int->Option (Int×Int)
abbrev acx:=List Int->Int->Int->List Int->Int->Int->Option (Int×List Int)
abbrev acy:=List ((List (Int×List Int)))->Int->List (List Int)->Int->Option ((List ((List (Int×List Int)))))
abbrev acz:=Int->Int->List Int->List (Int×List Int)->Int->Int->Option (Int×List Int×Int)
abbrev acA:=Int->Int->List Int->Int->List Int->Int->Int->Option (Int×List Int)
abbrev acB:=Int->List ((List (Int×List Int)))->List (List Int)->Int->Int->Option ((List ((List (Int×List Int)))))
abbrev acC:=Nat->Nat->Sl->Int->Int->Int->Int->Hp->OA
abbrev acD:=List Bool
abbrev acE:=Nat->Nat->Sl->Sl->Int->Int->Hp->OA
abbrev acF:=Sl->Sl->Int->Hp->OA
abbrev acG:=Int×(List (Int×Int×Int×Int×Int))
abbrev acH:=Nat->Nat->Int->Sl->Sl->Int->Hp->OA
abbrev acI:=Int->Sl->Int->Hp->OA
abbrev acJ:=Nat->Nat->Nat->Nat->Sl->Int->Int->Hp->OA
abbrev acK:=Sl->Int->Int->Sl->Int->Int->Hp->OA
abbrev acL:=List (Int×Int×Int×Int×Int)->Int->List Bool->List Bool->Int->Option (Bool)
abbrev acM:=List (Int×Int×Int×Int×Int)->List Int->Int->Int->Int->Int->Option (List Int)
abbrev acN:=Int->List Int->Int->Option (Int)
abbrev acO:=List (Int×Int×Int×Int×Int)->Int->List Int->Int->Int->Int->Int->Option (List Int×Int)
abbrev acP:=Int->List Int->List Int->Int->Int->Option (List Int×Int)
abbrev acQ:=List (Int×Int×Int×Int×Int)->List (List Int)->List Int->Int->Option (List (List Int))
abbrev acR:=List (Int×Int)->List (Int×Int)->List (Int×Int×Int×Int×Int)->Int->Int->Option ((List (Int×Int))×(List (Int×Int))×Bool)
abbrev acS:=List Int->Int->Int->Int->Int->Option (List Int)
abbrev acT:=List Int->Int->Int->Option (Int)
abbrev acU:=Int×(List (Int×List Int))
abbrev acV:=Int×Int×Int×Int×Int
abbrev acW:=Int->Sl->Nat->Nat->Int->Int->Hp->OA
abbrev acX:=Int->List Int->Int->Int->Option (Int×List Int)
abbrev acY:=Nat->Nat->Nat->Nat->Hp->OA
abbrev acZ:=Int->List Int->Option (Int×List Int)
abbrev ac0:=List (Int×List Int)->Int->Int->Option (Int)
abbrev ac1:=Int×(List ((List (Int×List Int))))
end Go.Proofs.Ytodfdhnlhiaohaa.AE
end
