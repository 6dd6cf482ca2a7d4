import Derived.Test.YtodfdhnlhiaohaaE2
import Derived.Test.YtodfdhnlhiaohaaProg
set_option linter.unusedVariables false
set_option linter.unusedSimpArgs false
section
namespace Go.Proofs.Ytodfdhnlhiaohaa.AE
open Go Go.AE Go.Proofs
def tyl:List (TypeId×TI):=[
 (2,⟨.int .i64,false,1,8,[.int .i64 0],[.int .i64]⟩),
 (3,⟨.int .i64,false,1,8,[.int .i64 0],[.int .i64]⟩),
 (4,⟨.bool,false,1,1,[.bool false],[.bool]⟩),
 (5,⟨.int .u8,false,1,1,[.int .u8 0],[.int .u8]⟩),
 (26,⟨.slice 47,false,1,24,[.sl ⟨none,0,.ex 0⟩],[.sl]⟩),
 (47,⟨.slice 2,false,1,24,[.sl ⟨none,0,.ex 0⟩],[.sl]⟩),
 (60,⟨.struct [(0,2),(1,26)],true,2,32,[.int .i64 0,.sl ⟨none,0,.ex 0⟩],[.int .i64,.sl]⟩),
 (63,⟨.struct [(0,2),(1,47)],true,2,32,[.int .i64 0,.sl ⟨none,0,.ex 0⟩],[.int .i64,.sl]⟩),
 (71,⟨.slice 5,false,1,24,[.sl ⟨none,0,.ex 0⟩],[.sl]⟩),
 (161,⟨.struct [(0,2),(1,2),(2,26)],true,3,40,[.int .i64 0,.int .i64 0,.sl ⟨none,0,.ex 0⟩],[.int .i64,.int .i64,.sl]⟩),
 (165,⟨.struct [(0,71),(1,3),(2,2)],true,3,40,[.sl ⟨none,0,.ex 0⟩,.int .i64 0,.int .i64 0],[.sl,.int .i64,.int .i64]⟩)]
def shl:List (Nat×Shp):=[(2,(.leaf (.int .i64))),(3,(.leaf (.int .i64))),(4,(.leaf (.bool))),(26,(.leaf (.sl))),(47,(.leaf (.sl))),(60,(.agg [.int .i64,.sl])),(61,(.tup [(.agg [.int .i64,.sl]),(.leaf (.int .i64))])),(63,(.agg [.int .i64,.sl])),(80,(.tup [(.agg [.int .i64,.sl]),(.leaf (.int .i64))])),(85,(.tup [(.agg [.int .i64,.sl]),(.agg [.int .i64,.sl])])),(121,(.leaf (.ptr))),(189,(.tup [(.leaf (.sl)),(.leaf (.sl)),(.leaf (.bool))]))]
def tabs:Tabs:=⟨zq tyl,λt=>shl.lookup t⟩
theorem tabs_ok:cv Try.prog tabs.ty:=Tp (by kernel_rfl)
theorem mixed:Try.prog.follows .mixedOrders=true:=by kernel_rfl
abbrev LO:=LOk tabs
noncomputable abbrev EX:=EXe tabs
theorem okT {PN:Nat->List Nat} {LH:Nat->List Nat->Nat->Tm->Hp->OA} {TB:Nat->List (List Nat)} {F:Nat} {fn:Func} {n:FuncId} {cs:Cs} {args:List AV} {H:Hp} {v:AV} {H':Hp} (hf:Try.prog.funcs[n]?=some fn) (hcs:∀ p∈cs,Ok Try.prog p.1 p.2) (hl:LO (bw cs) PN LH F fn) (h:EX (bw cs) PN LH F fn args H=some (v,H')) (hk:uu PN TB fn args.length=true):Go.AE.T Try.prog n args H v H':=T.of2 mixed tabs_ok hcs hf hl h hk
theorem ok0 {fn:Func} {n:FuncId} {args:List AV} {H:Hp} {v:AV} {H':Hp} (hf:Try.prog.funcs[n]?=some fn) (h:EX (bw []) bk lh0 0 fn args H=some (v,H')) (hn:hQ (fn.body.getD .skip)=true) (hk:uu bk bk fn args.length=true):Go.AE.T Try.prog n args H v H':=okT hf cw (uv hn) h hk
abbrev VE:=List Int
abbrev VF:=Int->Hp->OA
abbrev VG:=Sl->Hp->OA
abbrev VH:=Int->Sl->Hp->OA
abbrev VI:=Sl->Sl->Hp->OA
abbrev VJ:=List Rs
abbrev VK:=Sl->Int->Hp->OA
abbrev VL:=Nat->Nat->Int->Hp->OA
abbrev VM:=List Nat
abbrev VN:=Nat->Nat->Nat->Nat->Nat->Nat->Nat->Nat->Int->Hp->OA
abbrev VO:=List Int->Int->Int->Int->Int->List Int->Int->Option (Int×List Int×Int×Int)
abbrev VP:=Int×List Int×Int×Int
abbrev VQ:=Int->Sl->Int->Sl->Hp->OA
abbrev VR:=List (List Int)
abbrev VS:=List AV
abbrev VT:=Int->Int->Int->Hp->OA
abbrev VU:=Int×List (List Int)
abbrev VV:=Nat->Nat->Hp->OA
abbrev VW:=Int->Int->Hp->OA
abbrev VX:=Int->Nat->Nat->Hp->OA
abbrev VY:=Nat->Nat->Nat->Nat->Int->Int->Sl->Int->Hp->OA
abbrev VZ:=List Int->Int->Int->List (List Int)->Int->Option (Int×List (List Int))
abbrev V_:=Sl->Nat->Nat->Hp->OA
abbrev Wa:=Sl->Int->Sl->Int->Hp->OA
abbrev Wb:=List Int->Int->List Int->Int->Option (List Int)
abbrev Wc:=Sl->Sl->Bool->Bool->Hp->OA
abbrev We:=Nat->Nat->Int->Sl->Nat->Nat->Int->Hp->OA
abbrev Wf:=Bool×List Int×List Int
abbrev Wg:=List Int->List Int->Bool->Bool->Option (Bool×List Int×List Int)
abbrev Wh:=Int->List (List Int)->Int->List (List Int)->Int->Option (Int×List (List Int))
abbrev Wi:=Nat->Nat->Int->Sl->Hp->OA
abbrev Wj:=Int×Int×Int
abbrev Wk:=Option Addr
abbrev Wl:=Sl->Sl->Int->Int->Hp->OA
abbrev Wm:=List Int×List Int×Bool
abbrev Wn:=Int×List Int×Int
abbrev Wo:=Nat->Nat->Nat->Nat->Nat->Nat->Int->Hp->OA
abbrev Wp:=Sl->Sl->Bool->Bool->Sl->Int->Hp->OA
abbrev Wq:=Nat->Nat->Sl->Sl->Nat->Nat->Sl->Int->Int->Hp->OA
abbrev Wr:=Nat->Nat->Nat->Nat->Bool->Hp->OA
abbrev Ws:=List Int×Int×Int
abbrev Wt:=List Int->Int->Int->Int->List Int->Int->Option (Int×List Int×Int×Int)
abbrev Wu:=List Int->List Int->Bool->Bool->List Int->Int->Option (Bool×List Int×List Int)
abbrev Wv:=Sl->Sl->Int->Hp->OA
abbrev Ww:=List (List Int)->Int->Option (List (List Int))
abbrev Wx:=Int×List Int×Int×List Int
abbrev Wy:=List Int->Int->Int->Option (List Int)
abbrev Wz:=List Int->List Int->Int->Int->Option (List Int)
abbrev WA:=Int->List Int->Int->Option (List Int)
abbrev WB:=List Int->List Int->Int->Option (Bool)
abbrev WC:=Int×List (List Int)×Int
end Go.Proofs.Ytodfdhnlhiaohaa.AE
end
