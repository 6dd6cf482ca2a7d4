import Derived.Test.YtokekkacliomkaaE2
import Derived.Test.YtokekkacliomkaaProg
set_option linter.unusedVariables false
set_option linter.unusedSimpArgs false
section
namespace Go.Proofs.Ytokekkacliomkaa.AE
open Go Go.AE Go.Proofs
def tyl:List (TypeId×TI):=[
 (2,⟨.int .i64,false,1,8,[.int .i64 0],[.int .i64]⟩),
 (3,⟨.int .i64,false,1,8,[.int .i64 0],[.int .i64]⟩),
 (4,⟨.bool,false,1,1,[.bool false],[.bool]⟩),
 (5,⟨.int .u8,false,1,1,[.int .u8 0],[.int .u8]⟩),
 (22,⟨.slice 5,false,1,24,[.sl ⟨none,0,.ex 0⟩],[.sl]⟩),
 (24,⟨.slice 2,false,1,24,[.sl ⟨none,0,.ex 0⟩],[.sl]⟩),
 (26,⟨.struct [(0,2),(1,2),(2,24)],true,3,40,[.int .i64 0,.int .i64 0,.sl ⟨none,0,.ex 0⟩],[.int .i64,.int .i64,.sl]⟩),
 (46,⟨.int .u64,false,1,8,[.int .u64 0],[.int .u64]⟩),
 (48,⟨.struct [(0,26),(3,26),(6,26),(9,26),(12,26)],true,15,200,[.int .i64 0,.int .i64 0,.sl ⟨none,0,.ex 0⟩,.int .i64 0,.int .i64 0,.sl ⟨none,0,.ex 0⟩,.int .i64 0,.int .i64 0,.sl ⟨none,0,.ex 0⟩,.int .i64 0,.int .i64 0,.sl ⟨none,0,.ex 0⟩,.int .i64 0,.int .i64 0,.sl ⟨none,0,.ex 0⟩],[.int .i64,.int .i64,.sl,.int .i64,.int .i64,.sl,.int .i64,.int .i64,.sl,.int .i64,.int .i64,.sl,.int .i64,.int .i64,.sl]⟩),
 (76,⟨.slice 24,false,1,24,[.sl ⟨none,0,.ex 0⟩],[.sl]⟩),
 (110,⟨.struct [(0,22),(1,3),(2,46)],true,3,40,[.sl ⟨none,0,.ex 0⟩,.int .i64 0,.int .u64 0],[.sl,.int .i64,.int .u64]⟩),
 (143,⟨.struct [(0,22),(1,3),(2,2)],true,3,40,[.sl ⟨none,0,.ex 0⟩,.int .i64 0,.int .i64 0],[.sl,.int .i64,.int .i64]⟩),
 (154,⟨.struct [(0,48),(15,4)],true,16,208,[.int .i64 0,.int .i64 0,.sl ⟨none,0,.ex 0⟩,.int .i64 0,.int .i64 0,.sl ⟨none,0,.ex 0⟩,.int .i64 0,.int .i64 0,.sl ⟨none,0,.ex 0⟩,.int .i64 0,.int .i64 0,.sl ⟨none,0,.ex 0⟩,.int .i64 0,.int .i64 0,.sl ⟨none,0,.ex 0⟩,.bool false],[.int .i64,.int .i64,.sl,.int .i64,.int .i64,.sl,.int .i64,.int .i64,.sl,.int .i64,.int .i64,.sl,.int .i64,.int .i64,.sl,.bool]⟩),
 (156,⟨.int .u64,false,1,8,[.int .u64 0],[.int .u64]⟩)]
def shl:List (Nat×Shp):=[(2,(.leaf (.int .i64))),(3,(.leaf (.int .i64))),(4,(.leaf (.bool))),(24,(.leaf (.sl))),(26,(.agg [.int .i64,.int .i64,.sl])),(33,(.tup [(.leaf (.int .i64)),(.leaf (.int .i64))])),(42,(.tup [(.leaf (.sl)),(.leaf (.int .i64))])),(44,(.leaf (.ptr))),(49,(.tup [(.agg [.int .i64,.int .i64,.sl,.int .i64,.int .i64,.sl,.int .i64,.int .i64,.sl,.int .i64,.int .i64,.sl,.int .i64,.int .i64,.sl]),(.leaf (.int .i64))])),(54,(.tup [(.agg [.int .i64,.int .i64,.sl]),(.leaf (.int .i64))])),(73,(.tup [(.leaf (.int .i64)),(.leaf (.bool))])),(88,(.leaf (.ptr))),(106,(.leaf (.ptr))),(151,(.leaf (.ptr))),(207,(.tup [(.leaf (.int .i64)),(.leaf (.int .i64)),(.leaf (.bool))]))]
def tabs:Tabs:=⟨Vt tyl,λt=>shl.lookup t⟩
theorem tabs_ok:dR Try.prog tabs.ty:=aqz (by kernel_rfl)
theorem mixed:Try.prog.follows .mixedOrders=true:=by kernel_rfl
abbrev LO:=LOk tabs
noncomputable abbrev EX:=EXe tabs
theorem okT {PN:Nat->List Nat} {LH:Nat->List Nat->Nat->Tm->Hp->OA} {TB:Nat->List (List Nat)} {F:Nat} {fn:Func} {n:FuncId} {cs:Cs} {args:List AV} {H:Hp} {v:AV} {H':Hp} (hf:Try.prog.funcs[n]?=some fn) (hcs:∀ p∈cs,Ok Try.prog p.1 p.2) (hl:LO (bS cs) PN LH F fn) (h:EX (bS cs) PN LH F fn args H=some (v,H')) (hk:Ln PN TB fn args.length=true):Go.AE.T Try.prog n args H v H':=T.of2 mixed tabs_ok hcs hf hl h hk
theorem ok0 {fn:Func} {n:FuncId} {args:List AV} {H:Hp} {v:AV} {H':Hp} (hf:Try.prog.funcs[n]?=some fn) (h:EX (bS []) cf lh0 0 fn args H=some (v,H')) (hn:nU (fn.body.getD .skip)=true) (hk:Ln cf cf fn args.length=true):Go.AE.T Try.prog n args H v H':=okT hf da (Lo hn) h hk
abbrev asw:=List Int
abbrev asx:=Int->Int->Sl->Int->Int->Hp->OA
abbrev asy:=List Rs
abbrev asz:=Int->Int->Sl->Hp->OA
abbrev asA:=Nat->Nat->Int->Hp->OA
abbrev asC:=Int->Int->Hp->OA
abbrev asD:=List Nat
abbrev asE:=Sl->Hp->OA
abbrev asF:=Int->Hp->OA
abbrev asG:=Int->Int->Sl->Int->Hp->OA
abbrev asH:=Nat->Nat->Int->Int->Int->Hp->OA
abbrev asJ:=List AV
abbrev asK:=Int×Int×List Int
abbrev asL:=Int->Int->Int->Hp->OA
abbrev asM:=Nat->Nat->Hp->OA
abbrev asN:=Nat->Nat->Nat->Nat->Int->Int->Hp->OA
abbrev asO:=Nat->Nat->Int->Sl->Nat->Nat->Int->Hp->OA
abbrev asQ:=Int->Nat->Nat->Int->Int->Int->Hp->OA
abbrev asR:=Int->List Int->Int->List Int->Int->List Int->Int->Option (List Int)
abbrev asT:=Int->Int->List Int->Int->Int->Int->Option (Int)
abbrev asU:=Sl->Int->Hp->OA
abbrev asV:=Nat->Nat->Int->Int->Sl->Int->Int->Int->Hp->OA
abbrev asW:=Nat->Nat->Int->Int->Hp->OA
abbrev asX:=Sl->Nat->Nat->Nat->Nat->Hp->OA
abbrev asY:=Nat->Nat->Nat->Nat->Nat->Nat->Int->Int->Hp->OA
abbrev asZ:=List Int×Int×Int
abbrev as0:=Bool×List Int×List Int×List Int×List Int×List Int
abbrev as1:=Nat->Nat->Int->Sl->Nat->Nat->Int->Nat->Nat->Int->Int->Int->Hp->OA
abbrev as2:=Int->List Int->Int->List Int->Int->List Int->Int->Int->List Int->Int->Int->Int->Option (List Int)
abbrev as3:=Int×Int×List Int×Int
abbrev as4:=Int->Nat->Nat->Nat->Nat->Hp->OA
abbrev as5:=Int->Int->Sl->Int->Int->Sl->Hp->OA
abbrev as6:=Int->Nat->Nat->Int->Int->Int->Int->Hp->OA
abbrev as7:=Int×Int×Int
abbrev as8:=Int->Int->List Int->Int->Int->Int->Int->Option (Int)
abbrev as9:=Int×Int×Bool
abbrev as_:=Nat->Nat->Nat->Nat->Int->Nat->Nat->Int->Hp->OA
abbrev ata:=Nat->Nat->Int->Sl->Nat->Nat->Int->Nat->Nat->Int->Int->Int->Int->Int->Int->Hp->OA
abbrev atb:=Nat->Nat->Nat->Nat->Nat->Nat->Int->Hp->OA
abbrev atc:=Nat->Nat->Nat->Nat->Sl->Int->Nat->Nat->Int->Hp->OA
abbrev atd:=Int->Int->Int->Bool->Nat->Nat->Int->Hp->OA
abbrev ate:=Nat->Nat->Int->Int->Sl->Nat->Nat->Nat->Nat->Int->Hp->OA
abbrev atf:=List Int->Int->Int->Int->Int->Int->List Int->Int->Option (Int×Int×List Int)
abbrev atg:=Int->List Int->Int->Int->List Int->Int->Int->Option (Int×Int×List Int)
abbrev ath:=Int->List Int->Int->Int->Int->Option (Int)
abbrev ati:=Int->List Int->Int->List Int->Int->List Int->Int->Int->List Int->Int->Int->Int->Int->Int->Int->Option (List Int)
abbrev atj:=Int->Int->List Int->Int->Int->Option (Int)
abbrev atk:=Int->Int->List Int->Int->Int->List Int->Int->Option (Int×Int×List Int)
abbrev atl:=Int->Int->List Int->Int->Int->Option (Bool)
abbrev atm:=Int->List Int->List Int->Int->Int->Int->List Int->Int->Option (Int×Int×List Int×Int)
abbrev atn:=Int->Int->Int->Bool->Int->Int->List Int->Int->Option (Int×Int×Bool)
abbrev ato:=Int->List Int->Int->Int->List Int->Int->Int->List Int->Int->Int->List Int->Int->List Int->Bool->Int->Option (List Int×List Int×List Int×List Int×List Int×Bool)
abbrev atp:=Int->Int->List Int->Int->Int->List Int->Int->Int->List Int->Int->Int->List Int->Int->Option (Bool)
abbrev atq:=Sl->Int->Int->Int->Hp->OA
abbrev atr:=Nat->Nat->Int->Nat->Nat->Int->Hp->OA
abbrev ats:=Int×Int×List Int×Int×Int
abbrev att:=List Int->Int->Int->Int->Option (Int)
abbrev atu:=Int×Int
abbrev atv:=Bool×List Int
abbrev atw:=List Int×List Int×List Int×List Int×List Int×Bool
abbrev atx:=List Int×Int
abbrev aty:=Sl->Sl->Hp->OA
abbrev atz:=Nat->Nat->Int->Sl->Int->Int->Hp->OA
abbrev atA:=AV->Hp->Prop
abbrev atB:=AV×Hp->OA
abbrev atC:=List Int×List Int×List Int×Bool
abbrev atD:=Int->Nat->Nat->Nat->Nat->Sl->Int->Hp->OA
abbrev atE:=Int->Int->Int->Bool->Nat->Nat->Int->Int->Hp->OA
abbrev atF:=Nat->Nat->Sl->Int->Int->Hp->OA
abbrev atG:=List Int->Int->Int->Int->Int->List Int->Int->Int->Option (Int×Int×List Int×Int×Int)
abbrev atH:=Int->Int->Int->List Int->List Int->Int->Option (Int×Int×List Int×Int)
abbrev atI:=Int->Int->Int->Bool->Int->Int->List Int->Int->Int->Option (Int×Int×Bool)
abbrev atJ:=Int->List Int->Int->Int->List Int->Int->Int->List Int->Int->Int->List Int->Int->List Int->Bool->Int->Int->Int->Int->Option (Bool×List Int×List Int×List Int×List Int×List Int)
abbrev atK:=List Int->List Int->Int->Int->List Int->Int->Int->List Int->Int->List Int->Bool->Int->Int->Int->Option (Bool×List Int×List Int×List Int×List Int×List Int)
abbrev atL:=Int->List Int->List Int->Int->Int->Option (List Int×Int)
abbrev atM:=Sl->Nat->Nat->Int->Hp->OA
abbrev atN:=List Int->Int->Int->Int->Option (List Int×Int×Int)
abbrev atO:=List Int->Int->Int->Option (Int)
abbrev atP:=Nat->Nat->Nat->Nat->Int->Hp->OA
abbrev atQ:=Nat->Nat->Sl->Int->Hp->OA
abbrev atR:=Int->Int->Nat->Nat->Int->Int->Hp->OA
abbrev atS:=Int->Int->Int->List Int->Int->Int->Option (List Int)
abbrev atT:=Nat->Nat->Int->Int->Int->Nat->Nat->Int->Int->Hp->OA
abbrev atU:=Bool->Int->Int->Int->Int->List Int->Int->Int->Option (Bool×List Int)
abbrev atV:=Int×Int×List Int×Int×Int×List Int×Int×Int×List Int×Int×Int×List Int×Int×Int×List Int×Int
end Go.Proofs.Ytokekkacliomkaa.AE
end
