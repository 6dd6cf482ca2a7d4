import Derived.Test.YtodfdhnlhiaohaaE2
import Derived.Test.YtodfdhnlhiaohaaProg
set_option linter.unusedVariables false
set_option linter.unusedSimpArgs false
section
namespace Go.Proofs.Ytodfdhnlhiaohaa.AE
open Go Go.AE Go.Proofs
def tyl:List (TypeId×TI):=[
 (2,⟨.int .i64,false,1,8,[.int .i64 0],[.int .i64]⟩),
 (3,⟨.int .i64,false,1,8,[.int .i64 0],[.int .i64]⟩),
 (4,⟨.bool,false,1,1,[.bool false],[.bool]⟩),
 (26,⟨.slice 47,false,1,24,[.sl ⟨none,0,.ex 0⟩],[.sl]⟩),
 (47,⟨.slice 2,false,1,24,[.sl ⟨none,0,.ex 0⟩],[.sl]⟩),
 (57,⟨.struct [(0,2),(1,47)],true,2,32,[.int .i64 0,.sl ⟨none,0,.ex 0⟩],[.int .i64,.sl]⟩),
 (60,⟨.struct [(0,2),(1,26)],true,2,32,[.int .i64 0,.sl ⟨none,0,.ex 0⟩],[.int .i64,.sl]⟩),
 (63,⟨.struct [(0,2),(1,47)],true,2,32,[.int .i64 0,.sl ⟨none,0,.ex 0⟩],[.int .i64,.sl]⟩),
 (161,⟨.struct [(0,2),(1,2),(2,26)],true,3,40,[.int .i64 0,.int .i64 0,.sl ⟨none,0,.ex 0⟩],[.int .i64,.int .i64,.sl]⟩)]
def shl:List (Nat×Shp):=[(2,(.leaf (.int .i64))),(3,(.leaf (.int .i64))),(4,(.leaf (.bool))),(26,(.leaf (.sl))),(47,(.leaf (.sl))),(60,(.agg [.int .i64,.sl])),(63,(.agg [.int .i64,.sl])),(189,(.tup [(.leaf (.sl)),(.leaf (.sl)),(.leaf (.bool))]))]
def tabs:Tabs:=⟨pR tyl,λt=>shl.lookup t⟩
theorem tabs_ok:bA Try.prog tabs.ty:=yH (by kernel_rfl)
theorem mixed:Try.prog.follows .mixedOrders=true:=by kernel_rfl
abbrev LO:=LOk tabs
noncomputable abbrev EX:=EXe tabs
theorem okT {PN:Nat->List Nat} {LH:Nat->List Nat->Nat->Tm->Hp->OA} {TB:Nat->List (List Nat)} {F:Nat} {fn:Func} {n:FuncId} {cs:Cs} {args:List AV} {H:Hp} {v:AV} {H':Hp} (hf:Try.prog.funcs[n]?=some fn) (hcs:∀ p∈cs,Ok Try.prog p.1 p.2) (hl:LO (a_ cs) PN LH F fn) (h:EX (a_ cs) PN LH F fn args H=some (v,H')) (hk:mB PN TB fn args.length=true):Go.AE.T Try.prog n args H v H':=T.of2 mixed tabs_ok hcs hf hl h hk
theorem ok0 {fn:Func} {n:FuncId} {args:List AV} {H:Hp} {v:AV} {H':Hp} (hf:Try.prog.funcs[n]?=some fn) (h:EX (a_ []) aO lh0 0 fn args H=some (v,H')) (hn:eY (fn.body.getD .skip)=true) (hk:mB aO aO fn args.length=true):Go.AE.T Try.prog n args H v H':=okT hf bN (mC hn) h hk
abbrev AZ:=Int->Hp->OA
abbrev A_:=Sl->Hp->OA
abbrev Ba:=List Int
abbrev Bb:=Sl->Sl->Hp->OA
abbrev Bc:=List Rs
abbrev Bd:=Sl->Int->Hp->OA
abbrev Be:=List Nat
abbrev Bf:=List AV
abbrev Bg:=List (List Int)
abbrev Bh:=Int->Int->Int->Hp->OA
abbrev Bi:=Int->Sl->Hp->OA
abbrev Bj:=Int->Sl->Int->Sl->Hp->OA
abbrev Bk:=Int×List (List Int)
abbrev Bl:=Int->Int->Hp->OA
abbrev Bm:=Nat->Nat->Int->Hp->OA
abbrev Bn:=Nat->Nat->Nat->Nat->Int->Int->Sl->Int->Hp->OA
abbrev Bo:=Int->Nat->Nat->Hp->OA
abbrev Bp:=Nat->Nat->Hp->OA
abbrev Bq:=List Int->Int->Int->List (List Int)->Int->Option (Int×List (List Int))
abbrev Br:=Sl->Int->Sl->Int->Hp->OA
abbrev Bs:=Sl->Nat->Nat->Hp->OA
abbrev Bt:=List Int->Int->List Int->Int->Option (List Int)
abbrev Bu:=Int->Sl->Int->Hp->OA
abbrev Bv:=Nat->Nat->Int->Sl->Nat->Nat->Int->Hp->OA
abbrev Bw:=Sl->Sl->Bool->Bool->Hp->OA
abbrev Bx:=Int->List (List Int)->Int->List (List Int)->Int->Option (Int×List (List Int))
abbrev By:=Bool×List Int×List Int
abbrev Bz:=List Int->List Int->Bool->Bool->Option (Bool×List Int×List Int)
abbrev BA:=Sl->Sl->Int->Hp->OA
abbrev BC:=List Int×List Int×Bool
abbrev BD:=Sl->Sl->Bool->Bool->Sl->Int->Hp->OA
abbrev BE:=Nat->Nat->Sl->Sl->Nat->Nat->Sl->Int->Int->Hp->OA
abbrev BF:=Nat->Nat->Nat->Nat->Bool->Hp->OA
abbrev BG:=List (List Int)->Int->Option (List (List Int))
abbrev BH:=Sl->Sl->Int->Int->Hp->OA
abbrev BI:=List Int->List Int->Bool->Bool->List Int->Int->Option (Bool×List Int×List Int)
abbrev BJ:=List Int->List Int->Int->Option (List Int)
abbrev BK:=Int->List Int->Int->Option (List Int)
abbrev BL:=List Int->List Int->Int->Option (Bool)
abbrev BM:=List Int->Int->Int->Option (List Int)
end Go.Proofs.Ytodfdhnlhiaohaa.AE
end
