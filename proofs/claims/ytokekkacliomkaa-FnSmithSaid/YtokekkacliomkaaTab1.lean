import Derived.Test.YtokekkacliomkaaE2
import Derived.Test.YtokekkacliomkaaProg
set_option linter.unusedVariables false
set_option linter.unusedSimpArgs false
section
namespace Go.Proofs.Ytokekkacliomkaa.AE
open Go Go.AE Go.Proofs
def tyl:List (TypeId×TI):=[
 (2,⟨.int .i64,false,1,8,[.int .i64 0],[.int .i64]⟩),
 (3,⟨.int .i64,false,1,8,[.int .i64 0],[.int .i64]⟩),
 (4,⟨.bool,false,1,1,[.bool false],[.bool]⟩),
 (5,⟨.int .u8,false,1,1,[.int .u8 0],[.int .u8]⟩),
 (22,⟨.slice 5,false,1,24,[.sl ⟨none,0,.ex 0⟩],[.sl]⟩),
 (24,⟨.slice 2,false,1,24,[.sl ⟨none,0,.ex 0⟩],[.sl]⟩),
 (26,⟨.struct [(0,2),(1,2),(2,24)],true,3,40,[.int .i64 0,.int .i64 0,.sl ⟨none,0,.ex 0⟩],[.int .i64,.int .i64,.sl]⟩),
 (46,⟨.int .u64,false,1,8,[.int .u64 0],[.int .u64]⟩),
 (48,⟨.struct [(0,26),(3,26),(6,26),(9,26),(12,26)],true,15,200,[.int .i64 0,.int .i64 0,.sl ⟨none,0,.ex 0⟩,.int .i64 0,.int .i64 0,.sl ⟨none,0,.ex 0⟩,.int .i64 0,.int .i64 0,.sl ⟨none,0,.ex 0⟩,.int .i64 0,.int .i64 0,.sl ⟨none,0,.ex 0⟩,.int .i64 0,.int .i64 0,.sl ⟨none,0,.ex 0⟩],[.int .i64,.int .i64,.sl,.int .i64,.int .i64,.sl,.int .i64,.int .i64,.sl,.int .i64,.int .i64,.sl,.int .i64,.int .i64,.sl]⟩),
 (76,⟨.slice 24,false,1,24,[.sl ⟨none,0,.ex 0⟩],[.sl]⟩),
 (110,⟨.struct [(0,22),(1,3),(2,46)],true,3,40,[.sl ⟨none,0,.ex 0⟩,.int .i64 0,.int .u64 0],[.sl,.int .i64,.int .u64]⟩),
 (143,⟨.struct [(0,22),(1,3),(2,2)],true,3,40,[.sl ⟨none,0,.ex 0⟩,.int .i64 0,.int .i64 0],[.sl,.int .i64,.int .i64]⟩),
 (154,⟨.struct [(0,48),(15,4)],true,16,208,[.int .i64 0,.int .i64 0,.sl ⟨none,0,.ex 0⟩,.int .i64 0,.int .i64 0,.sl ⟨none,0,.ex 0⟩,.int .i64 0,.int .i64 0,.sl ⟨none,0,.ex 0⟩,.int .i64 0,.int .i64 0,.sl ⟨none,0,.ex 0⟩,.int .i64 0,.int .i64 0,.sl ⟨none,0,.ex 0⟩,.bool false],[.int .i64,.int .i64,.sl,.int .i64,.int .i64,.sl,.int .i64,.int .i64,.sl,.int .i64,.int .i64,.sl,.int .i64,.int .i64,.sl,.bool]⟩)]
def shl:List (Nat×Shp):=[(2,(.leaf (.int .i64))),(3,(.leaf (.int .i64))),(4,(.leaf (.bool))),(24,(.leaf (.sl))),(26,(.agg [.int .i64,.int .i64,.sl])),(42,(.tup [(.leaf (.sl)),(.leaf (.int .i64))])),(44,(.leaf (.ptr))),(49,(.tup [(.agg [.int .i64,.int .i64,.sl,.int .i64,.int .i64,.sl,.int .i64,.int .i64,.sl,.int .i64,.int .i64,.sl,.int .i64,.int .i64,.sl]),(.leaf (.int .i64))])),(54,(.tup [(.agg [.int .i64,.int .i64,.sl]),(.leaf (.int .i64))])),(73,(.tup [(.leaf (.int .i64)),(.leaf (.bool))])),(88,(.leaf (.ptr))),(106,(.leaf (.ptr))),(112,(.tup [(.agg [.int .i64,.int .i64,.sl]),(.leaf (.bool))])),(151,(.leaf (.ptr))),(207,(.tup [(.leaf (.int .i64)),(.leaf (.int .i64)),(.leaf (.bool))]))]
def tabs:Tabs:=⟨KY tyl,λt=>shl.lookup t⟩
theorem tabs_ok:dz Try.prog tabs.ty:=abe (by kernel_rfl)
theorem mixed:Try.prog.follows .mixedOrders=true:=by kernel_rfl
abbrev LO:=LOk tabs
noncomputable abbrev EX:=EXe tabs
theorem okT {PN:Nat->List Nat} {LH:Nat->List Nat->Nat->Tm->Hp->OA} {TB:Nat->List (List Nat)} {F:Nat} {fn:Func} {n:FuncId} {cs:Cs} {args:List AV} {H:Hp} {v:AV} {H':Hp} (hf:Try.prog.funcs[n]?=some fn) (hcs:∀ p∈cs,Ok Try.prog p.1 p.2) (hl:LO (bH cs) PN LH F fn) (h:EX (bH cs) PN LH F fn args H=some (v,H')) (hk:Ee PN TB fn args.length=true):Go.AE.T Try.prog n args H v H':=T.of2 mixed tabs_ok hcs hf hl h hk
theorem ok0 {fn:Func} {n:FuncId} {args:List AV} {H:Hp} {v:AV} {H':Hp} (hf:Try.prog.funcs[n]?=some fn) (h:EX (bH []) bI lh0 0 fn args H=some (v,H')) (hn:mj (fn.body.getD .skip)=true) (hk:Ee bI bI fn args.length=true):Go.AE.T Try.prog n args H v H':=okT hf cV (Ef hn) h hk
abbrev ac7:=List Int
abbrev ac8:=Int->Int->Sl->Int->Int->Hp->OA
abbrev ac9:=List Rs
abbrev ac_:=Nat->Nat->Int->Hp->OA
abbrev ada:=Int->Int->Sl->Hp->OA
abbrev adb:=Int->Hp->OA
abbrev adc:=List Nat
abbrev ade:=Sl->Hp->OA
abbrev adf:=Int->Int->Hp->OA
abbrev adg:=List AV
abbrev adh:=Nat->Nat->Int->Int->Int->Hp->OA
abbrev adi:=Int->Int->Int->Hp->OA
abbrev adj:=Int->Int->Sl->Int->Int->Sl->Hp->OA
abbrev adk:=Int->Int->Sl->Int->Hp->OA
abbrev adl:=Sl->Sl->Hp->OA
abbrev adm:=Nat->Nat->Int->Int->Int->Int->Int->Int->Hp->OA
abbrev adn:=Int->List Int->Int->Int->Int->Int->Int->Int->Option (Bool)
abbrev ado:=Sl->Int->Hp->OA
abbrev adp:=Int->Int->Sl->Int->Int->Sl->Int->Int->Sl->Int->Int->Sl->Int->Int->Sl->Int->Int->Sl->Hp->OA
abbrev adq:=Nat->Nat->Nat->Nat->Int->Int->Hp->OA
abbrev ads:=Nat->Nat->Int->Int->Sl->Int->Int->Int->Hp->OA
abbrev adt:=Nat->Nat->Nat->Nat->Nat->Nat->Nat->Nat->Int->Int->Hp->OA
abbrev adu:=Int->Int->Sl->Int->Int->Sl->Int->Int->Hp->OA
abbrev adv:=Sl->Nat->Nat->Nat->Nat->Hp->OA
abbrev adw:=List Int×Int×Int
abbrev adx:=Int×Int×List Int
abbrev ady:=Bool×List Int×List Int×List Int×List Int×List Int
abbrev adz:=Int->Nat->Nat->Nat->Nat->Hp->OA
abbrev adA:=Nat->Nat->Nat->Nat->Nat->Nat->Nat->Nat->Int->Hp->OA
abbrev adB:=Int×Int×List Int×Bool
abbrev adD:=Int->Int->List Int->Int->List Int->Int->Int->List Int->Int->Option (Int×Int×List Int×Bool)
abbrev adE:=Nat->Nat->Hp->OA
abbrev adF:=Int×Int×Int
abbrev adG:=Int×Int×Bool
abbrev adH:=Int×Int×List Int×Int
abbrev adI:=Int->Int->Int->Bool->Nat->Nat->Int->Hp->OA
abbrev adJ:=Nat->Nat->Sl->Sl->Sl->Nat->Nat->Int->Hp->OA
abbrev adK:=Int->Int->Int->Bool->Int->Int->List Int->Int->Option (Int×Int×Bool)
abbrev adL:=Int×Bool
abbrev adM:=Int->List Int->Int->Int->List Int->Int->Int->List Int->Int->Int->List Int->Int->List Int->Bool->Int->Option (List Int×List Int×List Int×List Int×List Int×Bool)
abbrev adN:=Int->List Int->Int->List Int->Int->Int->List Int->Int->Int->Option (Int×Int×List Int×Int)
abbrev adO:=Int->List Int->Int->Int->Int->Option (Bool)
abbrev adP:=Int->Int->List Int->Int->List Int->Int->Int->List Int->Int->Int->Option (Int×Int×List Int×Bool)
abbrev adQ:=Int->Int->List Int->List Int->List Int->List Int->Int->Int->List Int->Int->Option (Bool)
abbrev adS:=Nat->Nat->Int->Nat->Nat->Int->Hp->OA
abbrev adT:=Int×Int×List Int×Int×Int
abbrev adU:=Bool×List Int
abbrev adV:=List Int×List Int×List Int×List Int×List Int×Bool
abbrev adW:=List Int×Int
abbrev adX:=Nat->Nat->Int->Int->Hp->OA
abbrev adY:=Nat->Nat->Int->Sl->Int->Int->Hp->OA
abbrev adZ:=Int->Int->Sl->Int->Int->Sl->Int->Hp->OA
abbrev ad0:=AV->Hp->Prop
abbrev ad2:=AV×Hp->OA
abbrev ad3:=List Int×List Int×List Int×Bool
abbrev ad4:=Int×Int×List Int×Int×Int×List Int×Int×Int×List Int×Int×Int×List Int×Int×Int×List Int×Int
abbrev ad5:=Nat->Nat->Nat->Nat->Nat->Nat->Int->Int->Hp->OA
abbrev ad6:=Int->Int->Int->Bool->Nat->Nat->Int->Int->Hp->OA
abbrev ad7:=Nat->Nat->Sl->Int->Int->Hp->OA
abbrev ad8:=Nat->Nat->Nat->Nat->Nat->Nat->Sl->Sl->Int->Hp->OA
abbrev ad9:=List Int->Int->Int->Int->Int->List Int->Int->Int->Option (Int×Int×List Int×Int×Int)
abbrev ad_:=Int->Int->Int->Bool->Int->Int->List Int->Int->Int->Option (Int×Int×Bool)
abbrev aea:=Int->List Int->Int->Int->List Int->Int->Int->List Int->Int->Int->List Int->Int->List Int->Bool->Int->Int->Int->Int->Option (Bool×List Int×List Int×List Int×List Int×List Int)
abbrev aeb:=List Int->List Int->Int->Int->List Int->Int->Int->List Int->Int->List Int->Bool->Int->Int->Int->Option (Bool×List Int×List Int×List Int×List Int×List Int)
abbrev aec:=Int->List Int->List Int->Int->Int->Option (List Int×Int)
abbrev aed:=List Int->Int->Int->Int->Int->List Int->Int->Int->List Int->Int->Int->List Int->Int->Int->List Int->Int->Int->List Int->Int->Int->List Int->List Int->List Int->Int->Option (Bool)
abbrev aee:=Sl->Nat->Nat->Int->Hp->OA
abbrev aef:=List Int->Int->Int->Int->Option (List Int×Int×Int)
abbrev aeg:=List Int->Int->Int->Option (Int)
abbrev aeh:=Int->Int->Nat->Nat->Int->Int->Hp->OA
abbrev aei:=Int->Int->Int->List Int->Int->Int->Option (List Int)
abbrev aej:=Nat->Nat->Int->Int->Int->Nat->Nat->Int->Int->Hp->OA
abbrev aek:=Bool->Int->Int->Int->Int->List Int->Int->Int->Option (Bool×List Int)
abbrev ael:=Nat->Nat->Nat->Nat->Nat->Nat->Nat->Nat->Int->Int->Int->Int->Int->Hp->OA
end Go.Proofs.Ytokekkacliomkaa.AE
end
