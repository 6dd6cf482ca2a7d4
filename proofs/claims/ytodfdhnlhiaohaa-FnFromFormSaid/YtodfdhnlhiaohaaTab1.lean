import Derived.Test.YtodfdhnlhiaohaaE2
import Derived.Test.YtodfdhnlhiaohaaProg
set_option linter.unusedVariables false
set_option linter.unusedSimpArgs false
section
namespace Go.Proofs.Ytodfdhnlhiaohaa.AE
open Go Go.AE Go.Proofs
def tyl:List (TypeId×TI):=[
 (2,⟨.int .i64,false,1,8,[.int .i64 0],[.int .i64]⟩),
 (3,⟨.int .i64,false,1,8,[.int .i64 0],[.int .i64]⟩),
 (4,⟨.bool,false,1,1,[.bool false],[.bool]⟩),
 (5,⟨.int .u8,false,1,1,[.int .u8 0],[.int .u8]⟩),
 (26,⟨.slice 47,false,1,24,[.sl ⟨none,0,.ex 0⟩],[.sl]⟩),
 (47,⟨.slice 2,false,1,24,[.sl ⟨none,0,.ex 0⟩],[.sl]⟩),
 (60,⟨.struct [(0,2),(1,26)],true,2,32,[.int .i64 0,.sl ⟨none,0,.ex 0⟩],[.int .i64,.sl]⟩),
 (63,⟨.struct [(0,2),(1,47)],true,2,32,[.int .i64 0,.sl ⟨none,0,.ex 0⟩],[.int .i64,.sl]⟩),
 (71,⟨.slice 5,false,1,24,[.sl ⟨none,0,.ex 0⟩],[.sl]⟩),
 (161,⟨.struct [(0,2),(1,2),(2,26)],true,3,40,[.int .i64 0,.int .i64 0,.sl ⟨none,0,.ex 0⟩],[.int .i64,.int .i64,.sl]⟩),
 (165,⟨.struct [(0,71),(1,3),(2,2)],true,3,40,[.sl ⟨none,0,.ex 0⟩,.int .i64 0,.int .i64 0],[.sl,.int .i64,.int .i64]⟩),
 (168,⟨.slice 4,false,1,24,[.sl ⟨none,0,.ex 0⟩],[.sl]⟩)]
def shl:List (Nat×Shp):=[(2,(.leaf (.int .i64))),(3,(.leaf (.int .i64))),(4,(.leaf (.bool))),(47,(.leaf (.sl))),(60,(.agg [.int .i64,.sl])),(61,(.tup [(.agg [.int .i64,.sl]),(.leaf (.int .i64))])),(63,(.agg [.int .i64,.sl])),(80,(.tup [(.agg [.int .i64,.sl]),(.leaf (.int .i64))])),(83,(.tup [(.agg [.int .i64,.sl]),(.leaf (.bool))])),(121,(.leaf (.ptr)))]
def tabs:Tabs:=⟨rQ tyl,λt=>shl.lookup t⟩
theorem tabs_ok:bD Try.prog tabs.ty:=zm (by kernel_rfl)
theorem mixed:Try.prog.follows .mixedOrders=true:=by kernel_rfl
abbrev LO:=LOk tabs
noncomputable abbrev EX:=EXe tabs
theorem okT {PN:Nat->List Nat} {LH:Nat->List Nat->Nat->Tm->Hp->OA} {TB:Nat->List (List Nat)} {F:Nat} {fn:Func} {n:FuncId} {cs:Cs} {args:List AV} {H:Hp} {v:AV} {H':Hp} (hf:Try.prog.funcs[n]?=some fn) (hcs:∀ p∈cs,Ok Try.prog p.1 p.2) (hl:LO (bi cs) PN LH F fn) (h:EX (bi cs) PN LH F fn args H=some (v,H')) (hk:od PN TB fn args.length=true):Go.AE.T Try.prog n args H v H':=T.of2 mixed tabs_ok hcs hf hl h hk
theorem ok0 {fn:Func} {n:FuncId} {args:List AV} {H:Hp} {v:AV} {H':Hp} (hf:Try.prog.funcs[n]?=some fn) (h:EX (bi []) aT lh0 0 fn args H=some (v,H')) (hn:eZ (fn.body.getD .skip)=true) (hk:od aT aT fn args.length=true):Go.AE.T Try.prog n args H v H':=okT hf bT (oe hn) h hk
abbrev Bu:=Sl->Hp->OA
abbrev Bv:=List Int
abbrev Bw:=Int->Sl->Hp->OA
abbrev Bx:=Int->Hp->OA
abbrev By:=List Rs
abbrev Bz:=Sl->Sl->Hp->OA
abbrev BA:=List Nat
abbrev BC:=Sl->Int->Hp->OA
abbrev BD:=Int->Sl->Int->Sl->Hp->OA
abbrev BE:=Nat->Nat->Int->Hp->OA
abbrev BF:=Int->Int->Int->Hp->OA
abbrev BG:=List AV
abbrev BH:=Nat->Nat->Hp->OA
abbrev BI:=Int->Int->Hp->OA
abbrev BJ:=Int->Nat->Nat->Hp->OA
abbrev BK:=Sl->Nat->Nat->Hp->OA
abbrev BL:=Int×List Int×Int×Int
abbrev BM:=Sl->Sl->Bool->Bool->Hp->OA
abbrev BN:=Bool×List Int×List Int
abbrev BO:=List Int->List Int->Bool->Bool->Option (Bool×List Int×List Int)
abbrev BP:=Int×List Int×Int
abbrev BQ:=Int×Int×Int
abbrev BR:=List (List Int)
abbrev BS:=Int×List Int
abbrev BT:=Nat->Nat->Nat->Nat->Nat->Nat->Int->Hp->OA
abbrev BU:=Sl->Sl->Bool->Bool->Sl->Int->Hp->OA
abbrev BV:=Nat->Nat->Sl->Sl->Nat->Nat->Sl->Int->Int->Hp->OA
abbrev BW:=Nat->Nat->Nat->Nat->Bool->Hp->OA
abbrev BX:=List Int×Int×Int
abbrev BY:=List Int->Int->Int->Int->List Int->Int->Option (Int×List Int×Int×Int)
abbrev BZ:=Sl->Sl->Int->Int->Hp->OA
abbrev B_:=List Int->List Int->Bool->Bool->List Int->Int->Option (Bool×List Int×List Int)
abbrev Ca:=List Int->Int->Int->Option (List Int)
abbrev Cb:=Int×List (List Int)×Int
end Go.Proofs.Ytodfdhnlhiaohaa.AE
end
