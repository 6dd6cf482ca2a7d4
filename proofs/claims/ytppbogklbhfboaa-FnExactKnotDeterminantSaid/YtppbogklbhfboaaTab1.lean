import Derived.Test.YtppbogklbhfboaaE2
import Derived.Test.YtppbogklbhfboaaProg
set_option linter.unusedVariables false
set_option linter.unusedSimpArgs false
section
namespace Go.Proofs.Ytppbogklbhfboaa.AE
open Go Go.AE Go.Proofs
def tyl:List (TypeId×TI):=[
 (2,⟨.int .i64,false,1,8,[.int .i64 0],[.int .i64]⟩),
 (3,⟨.int .i64,false,1,8,[.int .i64 0],[.int .i64]⟩),
 (4,⟨.bool,false,1,1,[.bool false],[.bool]⟩),
 (22,⟨.slice 86,false,1,24,[.sl ⟨none,0,.ex 0⟩],[.sl]⟩),
 (24,⟨.struct [(0,22),(1,2)],true,2,32,[.sl ⟨none,0,.ex 0⟩,.int .i64 0],[.sl,.int .i64]⟩),
 (28,⟨.slice 84,false,1,24,[.sl ⟨none,0,.ex 0⟩],[.sl]⟩),
 (30,⟨.struct [(0,28),(1,2)],true,2,32,[.sl ⟨none,0,.ex 0⟩,.int .i64 0],[.sl,.int .i64]⟩),
 (34,⟨.slice 2,false,1,24,[.sl ⟨none,0,.ex 0⟩],[.sl]⟩),
 (42,⟨.struct [(0,2),(1,34)],true,2,32,[.int .i64 0,.sl ⟨none,0,.ex 0⟩],[.int .i64,.sl]⟩),
 (56,⟨.slice 129,false,1,24,[.sl ⟨none,0,.ex 0⟩],[.sl]⟩),
 (58,⟨.struct [(0,56),(1,56)],true,2,48,[.sl ⟨none,0,.ex 0⟩,.sl ⟨none,0,.ex 0⟩],[.sl,.sl]⟩),
 (76,⟨.slice 34,false,1,24,[.sl ⟨none,0,.ex 0⟩],[.sl]⟩),
 (84,⟨.struct [(0,2),(1,2),(2,2),(3,2),(4,2)],true,5,40,[.int .i64 0,.int .i64 0,.int .i64 0,.int .i64 0,.int .i64 0],[.int .i64,.int .i64,.int .i64,.int .i64,.int .i64]⟩),
 (86,⟨.struct [(0,2),(1,2),(2,2),(3,2),(4,2)],true,5,40,[.int .i64 0,.int .i64 0,.int .i64 0,.int .i64 0,.int .i64 0],[.int .i64,.int .i64,.int .i64,.int .i64,.int .i64]⟩),
 (115,⟨.slice 120,false,1,24,[.sl ⟨none,0,.ex 0⟩],[.sl]⟩),
 (120,⟨.slice 42,false,1,24,[.sl ⟨none,0,.ex 0⟩],[.sl]⟩),
 (122,⟨.slice 4,false,1,24,[.sl ⟨none,0,.ex 0⟩],[.sl]⟩),
 (129,⟨.struct [(0,2),(1,2)],true,2,16,[.int .i64 0,.int .i64 0],[.int .i64,.int .i64]⟩),
 (130,⟨.arr 4 2,true,4,32,[.int .i64 0,.int .i64 0,.int .i64 0,.int .i64 0],[.int .i64,.int .i64,.int .i64,.int .i64]⟩),
 (139,⟨.int .u64,false,1,8,[.int .u64 0],[.int .u64]⟩),
 (152,⟨.slice 3,false,1,24,[.sl ⟨none,0,.ex 0⟩],[.sl]⟩),
 (162,⟨.int .u64,false,1,8,[.int .u64 0],[.int .u64]⟩)]
def shl:List (Nat×Shp):=[(2,(.leaf (.int .i64))),(3,(.leaf (.int .i64))),(4,(.leaf (.bool))),(26,(.tup [(.leaf (.int .i64)),(.leaf (.int .i64))])),(28,(.leaf (.sl))),(30,(.agg [.sl,.int .i64])),(34,(.leaf (.sl))),(35,(.tup [(.leaf (.sl)),(.leaf (.int .i64))])),(42,(.agg [.int .i64,.sl])),(43,(.tup [(.agg [.int .i64,.sl]),(.leaf (.int .i64))])),(56,(.leaf (.sl))),(59,(.tup [(.agg [.sl,.sl]),(.leaf (.bool))])),(72,(.tup [(.leaf (.int .i64)),(.leaf (.bool))])),(76,(.leaf (.sl))),(84,(.agg [.int .i64,.int .i64,.int .i64,.int .i64,.int .i64])),(115,(.leaf (.sl))),(129,(.agg [.int .i64,.int .i64])),(130,(.agg [.int .i64,.int .i64,.int .i64,.int .i64])),(140,(.tup [(.leaf (.int .u64)),(.leaf (.int .u64))])),(163,(.tup [(.leaf (.int .u64)),(.leaf (.int .u64))]))]
def tabs:Tabs:=⟨Uw tyl,λt=>shl.lookup t⟩
theorem tabs_ok:cG Try.prog tabs.ty:=arv (by kernel_rfl)
theorem mixed:Try.prog.follows .mixedOrders=true:=by kernel_rfl
abbrev LO:=LOk tabs
noncomputable abbrev EX:=EXe tabs
theorem okT {PN:Nat->List Nat} {LH:Nat->List Nat->Nat->Tm->Hp->OA} {TB:Nat->List (List Nat)} {F:Nat} {fn:Func} {n:FuncId} {cs:Cs} {args:List AV} {H:Hp} {v:AV} {H':Hp} (hf:Try.prog.funcs[n]?=some fn) (hcs:∀ p∈cs,Ok Try.prog p.1 p.2) (hl:LO (aY cs) PN LH F fn) (h:EX (aY cs) PN LH F fn args H=some (v,H')) (hk:Hg PN TB fn args.length=true):Go.AE.T Try.prog n args H v H':=T.of2 mixed tabs_ok hcs hf hl h hk
theorem ok0 {fn:Func} {n:FuncId} {args:List AV} {H:Hp} {v:AV} {H':Hp} (hf:Try.prog.funcs[n]?=some fn) (h:EX (aY []) aJ lh0 0 fn args H=some (v,H')) (hn:kb (fn.body.getD .skip)=true) (hk:Hg aJ aJ fn args.length=true):Go.AE.T Try.prog n args H v H':=okT hf bB (Hh hn) h hk
abbrev ate:=Sl->Int->Hp->OA
abbrev atf:=List Rs
abbrev atg:=Sl->Hp->OA
abbrev ath:=Int->Sl->Hp->OA
abbrev ati:=List Int
abbrev atj:=List Nat
abbrev atk:=Int->Sl->Int->Sl->Hp->OA
abbrev atl:=Int×List Int
abbrev atm:=Int->Hp->OA
abbrev atn:=Int->Int->Int->Int->Int->Int->Hp->OA
abbrev ato:=List (Int×Int×Int×Int×Int)
abbrev atp:=Int->Int->Int->Hp->OA
abbrev atq:=Int->Int->Hp->OA
abbrev atr:=Sl->Int->Int->Hp->OA
abbrev ats:=List (List Int)
abbrev att:=List AV
abbrev atu:=Int->Int->Int->Int->Int->Hp->OA
abbrev atv:=List ((List (Int×List Int)))->Int->List (Int×List Int)->Int->Option (Int×List Int)
abbrev atw:=Sl->Int->Int->Bool->Hp->OA
abbrev atx:=Int×List Int×Int
abbrev aty:=List ((List (Int×List Int)))
abbrev atz:=List (Int×List Int)
abbrev atA:=List Int×Int
abbrev atB:=List (Int×Int)
abbrev atC:=Nat->Nat->Sl->Int->Hp->OA
abbrev atD:=Int×Int
abbrev atE:=Sl->Int->Sl->Sl->Int->Int->Hp->OA
abbrev atF:=Nat->Nat->Sl->Sl->Int->Hp->OA
abbrev atG:=Sl->Int->Sl->Int->Hp->OA
abbrev atH:=Int->Sl->Int->Hp->OA
abbrev atI:=Sl->Int->Nat->Nat->Sl->Int->Hp->OA
abbrev atJ:=Sl->Nat->Nat->Int->Sl->Int->Hp->OA
abbrev atK:=Int×Bool
abbrev atL:=Nat->Nat->Nat->Nat->Sl->Sl->Int->Int->Hp->OA
abbrev atM:=Int->Int->Int->Int->Int->Int->Int->Int->Int->Int->Hp->OA
abbrev atN:=List (Int×Int×Int×Int×Int)->List (List Int)->List Bool->Int->Option (List (List Int))
abbrev atO:=List (Int×Int×Int×Int×Int)->List (Int×Int)->List (Int×Int)->List (List Int)->List Bool->Int->Int->Option (List (List Int))
abbrev atP:=Sl->Int->Sl->Sl->Hp->OA
abbrev atQ:=Nat->Nat->Nat->Nat->Nat->Nat->Sl->Int->Int->Hp->OA
abbrev atR:=List (Int×Int×Int×Int×Int)->List Int->Int->Option (List Int)
abbrev atS:=List (Int×Int×Int×Int×Int)->Int->List Int->Int->Option (List Int×Int)
abbrev atT:=Int->Bool->Nat->Nat->Int->Hp->OA
abbrev atU:=Sl->Int->Nat->Nat->Nat->Nat->Int->Int->Hp->OA
abbrev atV:=Nat->Nat->Nat->Nat->Nat->Nat->Sl->Int->Hp->OA
abbrev atW:=Nat->Nat->Int->Nat->Nat->Sl->Int->Int->Hp->OA
abbrev atX:=Int->Nat->Nat->Nat->Nat->Int->Sl->Int->Int->Hp->OA
abbrev atY:=Int->Sl->Sl->Int->Int->Hp->OA
abbrev atZ:=Int->Bool->List (Int×Int×Int×Int×Int)->Int->Option (Int×Int)
abbrev at0:=List Int->Int->Int->List Int->Int->Int->Option (Int×List Int)
abbrev at1:=List ((List (Int×List Int)))->Int->List (List Int)->Int->Option ((List ((List (Int×List Int)))))
abbrev at2:=Int->List Int->Int->List Int->List Int->Int->Option (Int×List Int)
abbrev at3:=Int->Int->List Int->List (Int×List Int)->Int->Int->Option (Int×List Int×Int)
abbrev at4:=Int->Int->List Int->Int->List Int->Int->Int->Option (Int×List Int)
abbrev at5:=Int->List ((List (Int×List Int)))->List (List Int)->Int->Int->Option ((List ((List (Int×List Int)))))
abbrev at6:=List Int->Int->List Int->List Int->Int->Int->Option (Int×List Int×Int)
abbrev at7:=Nat->Nat->Sl->Int->Int->Int->Int->Hp->OA
abbrev at8:=List Bool
abbrev at9:=Nat->Nat->Sl->Sl->Int->Int->Hp->OA
abbrev aua:=Sl->Int->Nat->Nat->Sl->Int->Int->Nat->Nat->Int->Int->Hp->OA
abbrev aub:=Sl->Sl->Hp->OA
abbrev auc:=List ((List (Int×List Int)))->Int->List (Int×List Int)->Int->Int->Int->List Int->Int->Int->Option (Int×List Int)
abbrev aud:=Nat->Nat->Int->Sl->Sl->Int->Hp->OA
abbrev aue:=Nat->Nat->Nat->Nat->Nat->Nat->Int->Hp->OA
abbrev auf:=Int->Nat->Nat->Int->Int->Hp->OA
abbrev aug:=Nat->Nat->Nat->Nat->Sl->Int->Int->Hp->OA
abbrev auh:=Sl->Int->Int->Sl->Int->Int->Hp->OA
abbrev aui:=Sl->Nat->Nat->Int->Sl->Int->Sl->Int->Int->Hp->OA
abbrev auj:=Int->Nat->Nat->Int->Sl->Int->Int->Hp->OA
abbrev auk:=List (Int×Int×Int×Int×Int)->Int->List Bool->List Bool->Int->Option (Bool)
abbrev aul:=List (Int×Int×Int×Int×Int)->List Int->Int->Int->Int->Int->Option (List Int)
abbrev aum:=Int->List Int->Int->Option (Int)
abbrev aun:=List (Int×Int×Int×Int×Int)->Int->List Int->Int->Int->Int->Int->Option (List Int×Int)
abbrev auo:=Int->List Int->List Int->Int->Int->Option (List Int×Int)
abbrev aup:=List (Int×Int×Int×Int×Int)->List (List Int)->List Int->Int->Option (List (List Int))
abbrev auq:=Int->List Int->Int->Int->Option (Int×List Int)
abbrev aur:=List Int->Int->List Int->Int->Option (Int×List Int)
abbrev aus:=Int->Int->List Int->Int->Int->Option (Int×Bool)
abbrev aut:=List (Int×Int)->List (Int×Int)->List (Int×Int×Int×Int×Int)->Int->Int->Option ((List (Int×Int))×(List (Int×Int))×Bool)
abbrev auu:=List Int->Int->Int->Int->Int->Option (List Int)
abbrev auv:=List ((List (Int×List Int)))->Int->List (Int×List Int)->Int->List Int->Int->Int->Option (Int×List Int)
abbrev auw:=Int->Int->List Int->Int->Int->Int->Option (Int×Bool)
abbrev aux:=Int×Int×Int×Int×Int
abbrev auy:=Int->Sl->Nat->Nat->Int->Int->Hp->OA
abbrev auz:=List Int->Int->Int->Option (Int)
abbrev auA:=Nat->Nat->Nat->Nat->Hp->OA
abbrev auB:=Int->List Int->Option (Int×List Int)
end Go.Proofs.Ytppbogklbhfboaa.AE
end
