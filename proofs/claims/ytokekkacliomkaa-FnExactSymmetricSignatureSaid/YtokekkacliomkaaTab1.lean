import Derived.Test.YtokekkacliomkaaE2
import Derived.Test.YtokekkacliomkaaProg
set_option linter.unusedVariables false
set_option linter.unusedSimpArgs false
section
namespace Go.Proofs.Ytokekkacliomkaa.AE
open Go Go.AE Go.Proofs
def tyl:List (TypeId×TI):=[
 (2,⟨.int .i64,false,1,8,[.int .i64 0],[.int .i64]⟩),
 (3,⟨.int .i64,false,1,8,[.int .i64 0],[.int .i64]⟩),
 (24,⟨.slice 2,false,1,24,[.sl ⟨none,0,.ex 0⟩],[.sl]⟩),
 (26,⟨.struct [(0,2),(1,2),(2,24)],true,3,40,[.int .i64 0,.int .i64 0,.sl ⟨none,0,.ex 0⟩],[.int .i64,.int .i64,.sl]⟩),
 (57,⟨.struct [(0,2),(1,2),(2,24)],true,3,40,[.int .i64 0,.int .i64 0,.sl ⟨none,0,.ex 0⟩],[.int .i64,.int .i64,.sl]⟩),
 (156,⟨.int .u64,false,1,8,[.int .u64 0],[.int .u64]⟩)]
def shl:List (Nat×Shp):=[(2,(.leaf (.int .i64))),(3,(.leaf (.int .i64))),(4,(.leaf (.bool))),(24,(.leaf (.sl))),(26,(.agg [.int .i64,.int .i64,.sl])),(33,(.tup [(.leaf (.int .i64)),(.leaf (.int .i64))])),(54,(.tup [(.agg [.int .i64,.int .i64,.sl]),(.leaf (.int .i64))])),(106,(.leaf (.ptr)))]
def tabs:Tabs:=⟨Gr tyl,λt=>shl.lookup t⟩
theorem tabs_ok:bK Try.prog tabs.ty:=YZ (by kernel_rfl)
theorem mixed:Try.prog.follows .mixedOrders=true:=by kernel_rfl
abbrev LO:=LOk tabs
noncomputable abbrev EX:=EXe tabs
theorem okT {PN:Nat->List Nat} {LH:Nat->List Nat->Nat->Tm->Hp->OA} {TB:Nat->List (List Nat)} {F:Nat} {fn:Func} {n:FuncId} {cs:Cs} {args:List AV} {H:Hp} {v:AV} {H':Hp} (hf:Try.prog.funcs[n]?=some fn) (hcs:∀ p∈cs,Ok Try.prog p.1 p.2) (hl:LO (bH cs) PN LH F fn) (h:EX (bH cs) PN LH F fn args H=some (v,H')) (hk:zg PN TB fn args.length=true):Go.AE.T Try.prog n args H v H':=T.of2 mixed tabs_ok hcs hf hl h hk
theorem ok0 {fn:Func} {n:FuncId} {args:List AV} {H:Hp} {v:AV} {H':Hp} (hf:Try.prog.funcs[n]?=some fn) (h:EX (bH []) bR lh0 0 fn args H=some (v,H')) (hn:gG (fn.body.getD .skip)=true) (hk:zg bR bR fn args.length=true):Go.AE.T Try.prog n args H v H':=okT hf cO (zh hn) h hk
abbrev aaW:=Int->Int->Sl->Int->Int->Hp->OA
abbrev aaX:=List Int
abbrev aaY:=Int->Int->Sl->Hp->OA
abbrev aaZ:=List Rs
abbrev aa0:=Int->Int->Hp->OA
abbrev aa1:=List Nat
abbrev aa2:=Int->Hp->OA
abbrev aa3:=Sl->Hp->OA
abbrev aa4:=Int->Int->Sl->Int->Hp->OA
abbrev aa5:=Int×Int×List Int
abbrev aa6:=Int->Int->Int->Hp->OA
abbrev aa7:=Int->Nat->Nat->Int->Int->Int->Hp->OA
abbrev aa8:=Nat->Nat->Int->Sl->Nat->Nat->Int->Hp->OA
abbrev aa9:=Int->Int->List Int->Int->Int->Int->Option (Int)
abbrev aa_:=Int->List Int->Int->List Int->Int->List Int->Int->Option (List Int)
abbrev aba:=List AV
abbrev abb:=Int->Int->Sl->Int->Int->Sl->Hp->OA
abbrev abc:=Nat->Nat->Int->Sl->Nat->Nat->Int->Nat->Nat->Int->Int->Int->Hp->OA
abbrev abd:=Int×Int×List Int×Int
abbrev abe:=Int->List Int->Int->List Int->Int->List Int->Int->Int->List Int->Int->Int->Int->Option (List Int)
abbrev abf:=Int->Nat->Nat->Int->Int->Int->Int->Hp->OA
abbrev abg:=Nat->Nat->Nat->Nat->Nat->Nat->Int->Int->Hp->OA
abbrev abh:=Sl->Sl->Hp->OA
abbrev abi:=Int->Int->List Int->Int->Int->Int->Int->Option (Int)
abbrev abj:=Nat->Nat->Nat->Nat->Nat->Nat->Int->Hp->OA
abbrev abk:=Nat->Nat->Int->Int->Hp->OA
abbrev abl:=Nat->Nat->Nat->Nat->Sl->Int->Nat->Nat->Int->Hp->OA
abbrev abm:=Nat->Nat->Int->Int->Int->Hp->OA
abbrev abn:=Nat->Nat->Int->Sl->Nat->Nat->Int->Nat->Nat->Int->Int->Int->Int->Int->Int->Hp->OA
abbrev abo:=Int->Int->List Int->Int->Int->List Int->Int->Option (Int×Int×List Int)
abbrev abp:=Int->Int->List Int->Int->Int->Option (Bool)
abbrev abq:=Int->List Int->List Int->Int->Int->Int->List Int->Int->Option (Int×Int×List Int×Int)
abbrev abr:=Int->List Int->Int->Int->List Int->Int->Int->Option (Int×Int×List Int)
abbrev abt:=Int->List Int->Int->Int->Int->Option (Int)
abbrev abu:=Int->List Int->Int->List Int->Int->List Int->Int->Int->List Int->Int->Int->Int->Int->Int->Int->Option (List Int)
abbrev abv:=Int->Int->List Int->Int->Int->Option (Int)
abbrev abw:=Sl->Int->Int->Int->Hp->OA
abbrev abx:=List Int->Int->Int->Int->Option (Int)
abbrev aby:=Sl->Int->Hp->OA
abbrev abz:=Int->Nat->Nat->Nat->Nat->Sl->Int->Hp->OA
abbrev abA:=Sl->Sl->Int->Hp->OA
abbrev abB:=Int->Int->Int->List Int->List Int->Int->Option (Int×Int×List Int×Int)
abbrev abC:=List Int->List Int->Int->Option (Bool)
end Go.Proofs.Ytokekkacliomkaa.AE
end
