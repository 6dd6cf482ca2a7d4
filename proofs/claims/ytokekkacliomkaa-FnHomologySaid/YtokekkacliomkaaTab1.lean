import Derived.Test.YtokekkacliomkaaE2
import Derived.Test.YtokekkacliomkaaProg
set_option linter.unusedVariables false
set_option linter.unusedSimpArgs false
section
namespace Go.Proofs.Ytokekkacliomkaa.AE
open Go Go.AE Go.Proofs
def tyl:List (TypeId×TI):=[
 (2,⟨.int .i64,false,1,8,[.int .i64 0],[.int .i64]⟩),
 (3,⟨.int .i64,false,1,8,[.int .i64 0],[.int .i64]⟩),
 (4,⟨.bool,false,1,1,[.bool false],[.bool]⟩),
 (5,⟨.int .u8,false,1,1,[.int .u8 0],[.int .u8]⟩),
 (22,⟨.slice 5,false,1,24,[.sl ⟨none,0,.ex 0⟩],[.sl]⟩),
 (24,⟨.slice 2,false,1,24,[.sl ⟨none,0,.ex 0⟩],[.sl]⟩),
 (26,⟨.struct [(0,2),(1,2),(2,24)],true,3,40,[.int .i64 0,.int .i64 0,.sl ⟨none,0,.ex 0⟩],[.int .i64,.int .i64,.sl]⟩),
 (30,⟨.struct [(0,2),(1,24)],true,2,32,[.int .i64 0,.sl ⟨none,0,.ex 0⟩],[.int .i64,.sl]⟩),
 (48,⟨.struct [(0,26),(3,26),(6,26),(9,26),(12,26)],true,15,200,[.int .i64 0,.int .i64 0,.sl ⟨none,0,.ex 0⟩,.int .i64 0,.int .i64 0,.sl ⟨none,0,.ex 0⟩,.int .i64 0,.int .i64 0,.sl ⟨none,0,.ex 0⟩,.int .i64 0,.int .i64 0,.sl ⟨none,0,.ex 0⟩,.int .i64 0,.int .i64 0,.sl ⟨none,0,.ex 0⟩],[.int .i64,.int .i64,.sl,.int .i64,.int .i64,.sl,.int .i64,.int .i64,.sl,.int .i64,.int .i64,.sl,.int .i64,.int .i64,.sl]⟩),
 (76,⟨.slice 24,false,1,24,[.sl ⟨none,0,.ex 0⟩],[.sl]⟩),
 (97,⟨.struct [(0,26),(3,26),(6,26),(9,26),(12,26),(15,4)],true,16,208,[.int .i64 0,.int .i64 0,.sl ⟨none,0,.ex 0⟩,.int .i64 0,.int .i64 0,.sl ⟨none,0,.ex 0⟩,.int .i64 0,.int .i64 0,.sl ⟨none,0,.ex 0⟩,.int .i64 0,.int .i64 0,.sl ⟨none,0,.ex 0⟩,.int .i64 0,.int .i64 0,.sl ⟨none,0,.ex 0⟩,.bool false],[.int .i64,.int .i64,.sl,.int .i64,.int .i64,.sl,.int .i64,.int .i64,.sl,.int .i64,.int .i64,.sl,.int .i64,.int .i64,.sl,.bool]⟩),
 (143,⟨.struct [(0,22),(1,3),(2,2)],true,3,40,[.sl ⟨none,0,.ex 0⟩,.int .i64 0,.int .i64 0],[.sl,.int .i64,.int .i64]⟩),
 (154,⟨.struct [(0,48),(15,4)],true,16,208,[.int .i64 0,.int .i64 0,.sl ⟨none,0,.ex 0⟩,.int .i64 0,.int .i64 0,.sl ⟨none,0,.ex 0⟩,.int .i64 0,.int .i64 0,.sl ⟨none,0,.ex 0⟩,.int .i64 0,.int .i64 0,.sl ⟨none,0,.ex 0⟩,.int .i64 0,.int .i64 0,.sl ⟨none,0,.ex 0⟩,.bool false],[.int .i64,.int .i64,.sl,.int .i64,.int .i64,.sl,.int .i64,.int .i64,.sl,.int .i64,.int .i64,.sl,.int .i64,.int .i64,.sl,.bool]⟩)]
def shl:List (Nat×Shp):=[(2,(.leaf (.int .i64))),(3,(.leaf (.int .i64))),(4,(.leaf (.bool))),(24,(.leaf (.sl))),(26,(.agg [.int .i64,.int .i64,.sl])),(27,(.tup [(.agg [.int .i64,.int .i64,.sl]),(.agg [.int .i64,.int .i64,.sl])])),(31,(.tup [(.agg [.int .i64,.sl]),(.leaf (.int .i64))])),(33,(.tup [(.leaf (.int .i64)),(.leaf (.int .i64))])),(42,(.tup [(.leaf (.sl)),(.leaf (.int .i64))])),(49,(.tup [(.agg [.int .i64,.int .i64,.sl,.int .i64,.int .i64,.sl,.int .i64,.int .i64,.sl,.int .i64,.int .i64,.sl,.int .i64,.int .i64,.sl]),(.leaf (.int .i64))])),(54,(.tup [(.agg [.int .i64,.int .i64,.sl]),(.leaf (.int .i64))])),(73,(.tup [(.leaf (.int .i64)),(.leaf (.bool))])),(88,(.leaf (.ptr))),(93,(.leaf (.ptr))),(106,(.leaf (.ptr))),(145,(.tup [(.leaf (.bool)),(.leaf (.bool))])),(151,(.leaf (.ptr))),(207,(.tup [(.leaf (.int .i64)),(.leaf (.int .i64)),(.leaf (.bool))]))]
def tabs:Tabs:=⟨Lx tyl,λt=>shl.lookup t⟩
theorem tabs_ok:e_ Try.prog tabs.ty:=ae2 (by kernel_rfl)
theorem mixed:Try.prog.follows .mixedOrders=true:=by kernel_rfl
abbrev LO:=LOk tabs
noncomputable abbrev EX:=EXe tabs
theorem okT {PN:Nat->List Nat} {LH:Nat->List Nat->Nat->Tm->Hp->OA} {TB:Nat->List (List Nat)} {F:Nat} {fn:Func} {n:FuncId} {cs:Cs} {args:List AV} {H:Hp} {v:AV} {H':Hp} (hf:Try.prog.funcs[n]?=some fn) (hcs:∀ p∈cs,Ok Try.prog p.1 p.2) (hl:LO (cn cs) PN LH F fn) (h:EX (cn cs) PN LH F fn args H=some (v,H')) (hk:DA PN TB fn args.length=true):Go.AE.T Try.prog n args H v H':=T.of2 mixed tabs_ok hcs hf hl h hk
theorem ok0 {fn:Func} {n:FuncId} {args:List AV} {H:Hp} {v:AV} {H':Hp} (hf:Try.prog.funcs[n]?=some fn) (h:EX (cn []) cE lh0 0 fn args H=some (v,H')) (hn:nv (fn.body.getD .skip)=true) (hk:DA cE cE fn args.length=true):Go.AE.T Try.prog n args H v H':=okT hf dP (DB hn) h hk
abbrev agU:=Int->Int->Sl->Int->Int->Hp->OA
abbrev agV:=List Int
abbrev agW:=Nat->Nat->Int->Hp->OA
abbrev agX:=List Rs
abbrev agY:=Int->Hp->OA
abbrev agZ:=Sl->Hp->OA
abbrev ag0:=List Nat
abbrev ag2:=Int->Int->Hp->OA
abbrev ag3:=List AV
abbrev ag4:=Int->Int->Sl->Hp->OA
abbrev ag5:=Nat->Nat->Int->Int->Int->Hp->OA
abbrev ag6:=Int->Int->Int->Hp->OA
abbrev ag7:=Nat->Nat->Int->Int->Sl->Int->Int->Int->Hp->OA
abbrev ag8:=Nat->Nat->Int->Int->Hp->OA
abbrev ag9:=Int->Int->Sl->Int->Hp->OA
abbrev ag_:=Nat->Nat->Hp->OA
abbrev aha:=Bool×List Int×List Int×List Int×List Int×List Int
abbrev ahb:=Nat->Nat->Nat->Nat->Int->Int->Hp->OA
abbrev ahc:=Bool×List Int
abbrev ahd:=Int->Int->Sl->Int->Int->Sl->Int->Int->Hp->OA
abbrev ahe:=Sl->Nat->Nat->Nat->Nat->Hp->OA
abbrev ahf:=Int×Int×List Int
abbrev ahg:=Int×Int×List Int×Int×Int×List Int
abbrev ahh:=Nat->Nat->Nat->Nat->Nat->Nat->Int->Nat->Nat->Nat->Nat->Int->Int->Nat->Nat->Int->Hp->OA
abbrev ahi:=Int->Nat->Nat->Nat->Nat->Hp->OA
abbrev ahj:=List Int->Int->Int->Int->Int->Int->List Int->Int->List Int->Int->Int->Int->Int->List Int->Int->Option (Int×Int×List Int×Int×Int×List Int)
abbrev ahk:=Nat->Nat->Nat->Nat->Int->Hp->OA
abbrev ahl:=Int->Int->Sl->Int->Int->Sl->Hp->OA
abbrev ahm:=List Int×List Int×List Int×Bool
abbrev ahn:=Int×Int×Bool
abbrev aho:=Nat->Nat->Int->Int->Int->Int->Hp->OA
abbrev ahp:=Nat->Nat->Nat->Nat->Nat->Nat->Int->Nat->Nat->Nat->Nat->Int->Int->Nat->Nat->Int->Int->Hp->OA
abbrev ahq:=Nat->Nat->Nat->Nat->Nat->Nat->Nat->Nat->Int->Int->Hp->OA
abbrev ahr:=Int->Int->Int->Bool->Nat->Nat->Int->Hp->OA
abbrev ahs:=Sl->Int->Int->Hp->OA
abbrev aht:=Int->Int->List Int->Int->List Int->Int->Int->List Int->Int->Int->List Int->Int->List Int->Int->Int->Int->Int->Option (Bool×List Int×List Int×List Int×List Int×List Int)
abbrev ahu:=Int×Bool
abbrev ahv:=Int->Int->List Int->Int->Int->Option (Int)
abbrev ahw:=Int->Int->Int->Int->List Int->Int->Int->List Int->Int->Int->List Int->Int->Int->List Int->Int->Int->List Int->Bool->Int->Option (Int×Int×List Int×Int×Int×List Int×Int×Int×List Int×Int×Int×List Int×Int×Int×List Int×Bool)
abbrev ahx:=List Int->Int->Int->Int->Int->Int->List Int->Int->List Int->Int->Int->Int->Int->List Int->Int->Int->Option (Int×Int×List Int×Int×Int×List Int)
abbrev ahy:=Int->List Int->Int->List Int->Int->Int->List Int->Int->Int->Option (Int×Int×List Int×Int)
abbrev ahz:=Int->Int->Int->Bool->Int->Int->List Int->Int->Option (Int×Int×Bool)
abbrev ahA:=Int->List Int->Int->Int->List Int->Int->Int->List Int->Int->Int->List Int->Int->List Int->Bool->Int->Option (List Int×List Int×List Int×List Int×List Int×Bool)
abbrev ahB:=Nat->Nat->Int->Nat->Nat->Int->Hp->OA
abbrev ahC:=Int×Int×List Int×Int×Int
abbrev ahD:=Bool×Bool×List Int×List Int×List Int×List Int×List Int×Bool
abbrev ahE:=Int×Int×List Int×Int×Int×List Int×Int×Int×List Int×Int×Int×List Int×Int×Int×List Int×Bool
abbrev ahF:=Int×Int×List Int×Int
abbrev ahG:=List Int×List Int×List Int×List Int×List Int×Bool
abbrev ahH:=List Int×Int
abbrev ahI:=Nat->Nat->Int->Sl->Int->Int->Hp->OA
abbrev ahJ:=Int->Sl->Hp->OA
abbrev ahK:=AV->Hp->Prop
abbrev ahL:=Int×Int×Int
abbrev ahM:=AV×Hp->OA
abbrev ahN:=List Int->Int->Int->Option (Int)
abbrev ahO:=Nat->Nat->Nat->Nat->Nat->Nat->Int->Int->Hp->OA
abbrev ahP:=Nat->Nat->Int->Int->Int->Int->Int->Hp->OA
abbrev ahQ:=Int->Int->Int->Bool->Nat->Nat->Int->Int->Hp->OA
abbrev ahR:=Nat->Nat->Sl->Int->Int->Hp->OA
abbrev ahS:=List Int×Int×Int
abbrev ahT:=List Int->Int->Int->Int->Int->List Int->Int->Int->Option (Int×Int×List Int×Int×Int)
abbrev ahU:=Int->Int->List Int->Int->List Int->Int->Int->List Int->Int->Int->List Int->Int->List Int->Int->Int->Int->Int->Int->Option (Bool×List Int×List Int×List Int×List Int×List Int)
abbrev ahV:=Int->Int->Int->Bool->Int->Int->List Int->Int->Int->Option (Int×Int×Bool)
abbrev ahW:=Int->List Int->Int->Int->List Int->Int->Int->List Int->Int->Int->List Int->Int->List Int->Bool->Int->Int->Int->Int->Option (Bool×List Int×List Int×List Int×List Int×List Int)
abbrev ahX:=List Int->List Int->Int->Int->List Int->Int->Int->List Int->Int->List Int->Bool->Int->Int->Int->Option (Bool×List Int×List Int×List Int×List Int×List Int)
abbrev ahY:=Int->List Int->List Int->Int->Int->Option (List Int×Int)
abbrev ahZ:=List Int->Int->Int->Option (List Int)
abbrev ah0:=Int->Int->Nat->Nat->Int->Hp->OA
abbrev ah1:=Nat->Nat->Int->Int->Int->Nat->Nat->Int->Hp->OA
abbrev ah2:=Int->Int->List Int->Int->List Int->Int->Int->List Int->Int->Int->List Int->Int->List Int->Bool->Int->Int->Option (Bool×Bool×List Int×List Int×List Int×List Int×List Int×Bool)
abbrev ah3:=Int->Int->Nat->Nat->Int->Int->Hp->OA
abbrev ah4:=Int->Int->Int->List Int->Int->Int->Option (List Int)
abbrev ah5:=Nat->Nat->Int->Int->Int->Nat->Nat->Int->Int->Hp->OA
abbrev ah6:=Bool->Int->Int->Int->Int->List Int->Int->Int->Option (Bool×List Int)
abbrev ah7:=Int×Int×List Int×Int×Int×List Int×Int×Int×List Int×Int×Int×List Int×Int×Int×List Int×Int
end Go.Proofs.Ytokekkacliomkaa.AE
end
