import Derived.Test.YtppbogklbhfboaaE2
import Derived.Test.YtppbogklbhfboaaProg
set_option linter.unusedVariables false
set_option linter.unusedSimpArgs false
section
namespace Go.Proofs.Ytppbogklbhfboaa.AE
open Go Go.AE Go.Proofs
def tyl:List (TypeId×TI):=[
 (2,⟨.int .i64,false,1,8,[.int .i64 0],[.int .i64]⟩),
 (3,⟨.int .i64,false,1,8,[.int .i64 0],[.int .i64]⟩),
 (4,⟨.bool,false,1,1,[.bool false],[.bool]⟩),
 (22,⟨.slice 86,false,1,24,[.sl ⟨none,0,.ex 0⟩],[.sl]⟩),
 (24,⟨.struct [(0,22),(1,2)],true,2,32,[.sl ⟨none,0,.ex 0⟩,.int .i64 0],[.sl,.int .i64]⟩),
 (28,⟨.slice 84,false,1,24,[.sl ⟨none,0,.ex 0⟩],[.sl]⟩),
 (30,⟨.struct [(0,28),(1,2)],true,2,32,[.sl ⟨none,0,.ex 0⟩,.int .i64 0],[.sl,.int .i64]⟩),
 (34,⟨.slice 2,false,1,24,[.sl ⟨none,0,.ex 0⟩],[.sl]⟩),
 (42,⟨.struct [(0,2),(1,34)],true,2,32,[.int .i64 0,.sl ⟨none,0,.ex 0⟩],[.int .i64,.sl]⟩),
 (56,⟨.slice 129,false,1,24,[.sl ⟨none,0,.ex 0⟩],[.sl]⟩),
 (58,⟨.struct [(0,56),(1,56)],true,2,48,[.sl ⟨none,0,.ex 0⟩,.sl ⟨none,0,.ex 0⟩],[.sl,.sl]⟩),
 (76,⟨.slice 34,false,1,24,[.sl ⟨none,0,.ex 0⟩],[.sl]⟩),
 (84,⟨.struct [(0,2),(1,2),(2,2),(3,2),(4,2)],true,5,40,[.int .i64 0,.int .i64 0,.int .i64 0,.int .i64 0,.int .i64 0],[.int .i64,.int .i64,.int .i64,.int .i64,.int .i64]⟩),
 (86,⟨.struct [(0,2),(1,2),(2,2),(3,2),(4,2)],true,5,40,[.int .i64 0,.int .i64 0,.int .i64 0,.int .i64 0,.int .i64 0],[.int .i64,.int .i64,.int .i64,.int .i64,.int .i64]⟩),
 (115,⟨.slice 120,false,1,24,[.sl ⟨none,0,.ex 0⟩],[.sl]⟩),
 (120,⟨.slice 42,false,1,24,[.sl ⟨none,0,.ex 0⟩],[.sl]⟩),
 (122,⟨.slice 4,false,1,24,[.sl ⟨none,0,.ex 0⟩],[.sl]⟩),
 (129,⟨.struct [(0,2),(1,2)],true,2,16,[.int .i64 0,.int .i64 0],[.int .i64,.int .i64]⟩),
 (130,⟨.arr 4 2,true,4,32,[.int .i64 0,.int .i64 0,.int .i64 0,.int .i64 0],[.int .i64,.int .i64,.int .i64,.int .i64]⟩),
 (139,⟨.int .u64,false,1,8,[.int .u64 0],[.int .u64]⟩),
 (152,⟨.slice 3,false,1,24,[.sl ⟨none,0,.ex 0⟩],[.sl]⟩),
 (162,⟨.int .u64,false,1,8,[.int .u64 0],[.int .u64]⟩)]
def shl:List (Nat×Shp):=[(2,(.leaf (.int .i64))),(3,(.leaf (.int .i64))),(4,(.leaf (.bool))),(26,(.tup [(.leaf (.int .i64)),(.leaf (.int .i64))])),(28,(.leaf (.sl))),(30,(.agg [.sl,.int .i64])),(34,(.leaf (.sl))),(35,(.tup [(.leaf (.sl)),(.leaf (.int .i64))])),(42,(.agg [.int .i64,.sl])),(43,(.tup [(.agg [.int .i64,.sl]),(.leaf (.int .i64))])),(56,(.leaf (.sl))),(59,(.tup [(.agg [.sl,.sl]),(.leaf (.bool))])),(72,(.tup [(.leaf (.int .i64)),(.leaf (.bool))])),(76,(.leaf (.sl))),(84,(.agg [.int .i64,.int .i64,.int .i64,.int .i64,.int .i64])),(115,(.leaf (.sl))),(129,(.agg [.int .i64,.int .i64])),(130,(.agg [.int .i64,.int .i64,.int .i64,.int .i64])),(140,(.tup [(.leaf (.int .u64)),(.leaf (.int .u64))])),(163,(.tup [(.leaf (.int .u64)),(.leaf (.int .u64))]))]
def tabs:Tabs:=⟨TL tyl,λt=>shl.lookup t⟩
theorem tabs_ok:cJ Try.prog tabs.ty:=aqG (by kernel_rfl)
theorem mixed:Try.prog.follows .mixedOrders=true:=by kernel_rfl
abbrev LO:=LOk tabs
noncomputable abbrev EX:=EXe tabs
theorem okT {PN:Nat->List Nat} {LH:Nat->List Nat->Nat->Tm->Hp->OA} {TB:Nat->List (List Nat)} {F:Nat} {fn:Func} {n:FuncId} {cs:Cs} {args:List AV} {H:Hp} {v:AV} {H':Hp} (hf:Try.prog.funcs[n]?=some fn) (hcs:∀ p∈cs,Ok Try.prog p.1 p.2) (hl:LO (aX cs) PN LH F fn) (h:EX (aX cs) PN LH F fn args H=some (v,H')) (hk:GM PN TB fn args.length=true):Go.AE.T Try.prog n args H v H':=T.of2 mixed tabs_ok hcs hf hl h hk
theorem ok0 {fn:Func} {n:FuncId} {args:List AV} {H:Hp} {v:AV} {H':Hp} (hf:Try.prog.funcs[n]?=some fn) (h:EX (aX []) aH lh0 0 fn args H=some (v,H')) (hn:ki (fn.body.getD .skip)=true) (hk:GM aH aH fn args.length=true):Go.AE.T Try.prog n args H v H':=okT hf bt (GN hn) h hk
abbrev aso:=Sl->Int->Hp->OA
abbrev asp:=List Rs
abbrev asq:=Sl->Hp->OA
abbrev asr:=List Int
abbrev ass:=Int->Sl->Hp->OA
abbrev ast:=List Nat
abbrev asu:=Int->Sl->Int->Sl->Hp->OA
abbrev asv:=Int×List Int
abbrev asw:=Int->Int->Int->Int->Int->Int->Hp->OA
abbrev asx:=Int->Hp->OA
abbrev asy:=List (Int×Int×Int×Int×Int)
abbrev asz:=Sl->Int->Int->Hp->OA
abbrev asA:=Int->Int->Int->Hp->OA
abbrev asC:=Int->Int->Hp->OA
abbrev asD:=List AV
abbrev asE:=List (List Int)
abbrev asF:=Int->Int->Int->Int->Int->Hp->OA
abbrev asG:=List ((List (Int×List Int)))->Int->List (Int×List Int)->Int->Option (Int×List Int)
abbrev asH:=Sl->Int->Int->Bool->Hp->OA
abbrev asJ:=Int×List Int×Int
abbrev asK:=List ((List (Int×List Int)))
abbrev asL:=List (Int×List Int)
abbrev asM:=List Int×Int
abbrev asN:=List (Int×Int)
abbrev asO:=Nat->Nat->Sl->Int->Hp->OA
abbrev asQ:=Sl->Int->Sl->Sl->Int->Int->Hp->OA
abbrev asR:=Nat->Nat->Sl->Sl->Int->Hp->OA
abbrev asT:=Sl->Int->Sl->Int->Hp->OA
abbrev asU:=Int×Int
abbrev asV:=Int->Sl->Int->Hp->OA
abbrev asW:=Sl->Int->Nat->Nat->Sl->Int->Hp->OA
abbrev asX:=Sl->Nat->Nat->Int->Sl->Int->Hp->OA
abbrev asY:=Nat->Nat->Nat->Nat->Sl->Sl->Int->Int->Hp->OA
abbrev asZ:=Int->Int->Int->Int->Int->Int->Int->Int->Int->Int->Hp->OA
abbrev as0:=List (Int×Int×Int×Int×Int)->List (List Int)->List Bool->Int->Option (List (List Int))
abbrev as1:=List (Int×Int×Int×Int×Int)->List (Int×Int)->List (Int×Int)->List (List Int)->List Bool->Int->Int->Option (List (List Int))
abbrev as2:=Sl->Int->Sl->Sl->Hp->OA
abbrev as3:=Nat->Nat->Nat->Nat->Nat->Nat->Sl->Int->Int->Hp->OA
abbrev as4:=Sl->Sl->Hp->OA
abbrev as5:=List (Int×Int×Int×Int×Int)->List Int->Int->Option (List Int)
abbrev as6:=List (Int×Int×Int×Int×Int)->Int->List Int->Int->Option (List Int×Int)
abbrev as7:=Int->Bool->Nat->Nat->Int->Hp->OA
abbrev as8:=Sl->Int->Nat->Nat->Nat->Nat->Int->Int->Hp->OA
abbrev as9:=Nat->Nat->Nat->Nat->Nat->Nat->Sl->Int->Hp->OA
abbrev as_:=Nat->Nat->Int->Nat->Nat->Sl->Int->Int->Hp->OA
abbrev ata:=Int->Nat->Nat->Nat->Nat->Int->Sl->Int->Int->Hp->OA
abbrev atb:=Int->Sl->Sl->Int->Int->Hp->OA
abbrev atc:=Int->Bool->List (Int×Int×Int×Int×Int)->Int->Option (Int×Int)
abbrev atd:=List Int->Int->Int->List Int->Int->Int->Option (Int×List Int)
abbrev ate:=List ((List (Int×List Int)))->Int->List (List Int)->Int->Option ((List ((List (Int×List Int)))))
abbrev atf:=Int->List Int->Int->List Int->List Int->Int->Option (Int×List Int)
abbrev atg:=Int->Int->List Int->List (Int×List Int)->Int->Int->Option (Int×List Int×Int)
abbrev ath:=Int->Int->List Int->Int->List Int->Int->Int->Option (Int×List Int)
abbrev ati:=Int->List ((List (Int×List Int)))->List (List Int)->Int->Int->Option ((List ((List (Int×List Int)))))
abbrev atj:=List Int->Int->List Int->List Int->Int->Int->Option (Int×List Int×Int)
abbrev atk:=Nat->Nat->Sl->Int->Int->Int->Int->Hp->OA
abbrev atl:=List Bool
abbrev atm:=Nat->Nat->Sl->Sl->Int->Int->Hp->OA
abbrev atn:=Sl->Int->Nat->Nat->Sl->Int->Int->Nat->Nat->Int->Int->Hp->OA
abbrev ato:=List ((List (Int×List Int)))->Int->List (Int×List Int)->Int->Int->Int->List Int->Int->Int->Option (Int×List Int)
abbrev atp:=Int×(List (Int×Int×Int×Int×Int))
abbrev atq:=Nat->Nat->Int->Sl->Sl->Int->Hp->OA
abbrev atr:=Nat->Nat->Nat->Nat->Nat->Nat->Int->Hp->OA
abbrev ats:=Nat->Nat->Nat->Nat->Sl->Int->Int->Hp->OA
abbrev att:=Sl->Int->Int->Sl->Int->Int->Hp->OA
abbrev atu:=Sl->Nat->Nat->Int->Sl->Int->Sl->Int->Int->Hp->OA
abbrev atv:=Sl->Sl->Int->Hp->OA
abbrev atw:=List (Int×Int×Int×Int×Int)->Int->List Bool->List Bool->Int->Option (Bool)
abbrev atx:=List (Int×Int×Int×Int×Int)->List Int->Int->Int->Int->Int->Option (List Int)
abbrev aty:=Int->List Int->Int->Option (Int)
abbrev atz:=List (Int×Int×Int×Int×Int)->Int->List Int->Int->Int->Int->Int->Option (List Int×Int)
abbrev atA:=Int->List Int->List Int->Int->Int->Option (List Int×Int)
abbrev atB:=List (Int×Int×Int×Int×Int)->List (List Int)->List Int->Int->Option (List (List Int))
abbrev atC:=Int->List Int->Int->Int->Option (Int×List Int)
abbrev atD:=List Int->Int->List Int->Int->Option (Int×List Int)
abbrev atE:=List (Int×Int)->List (Int×Int)->List (Int×Int×Int×Int×Int)->Int->Int->Option ((List (Int×Int))×(List (Int×Int))×Bool)
abbrev atF:=List Int->Int->Int->Int->Int->Option (List Int)
abbrev atG:=List Int->Int->Int->Option (Int)
abbrev atH:=List ((List (Int×List Int)))->Int->List (Int×List Int)->Int->List Int->Int->Int->Option (Int×List Int)
abbrev atI:=Int×Int×Int×Int×Int
abbrev atJ:=Int->Sl->Nat->Nat->Int->Int->Hp->OA
abbrev atK:=Nat->Nat->Nat->Nat->Hp->OA
abbrev atL:=Int->List Int->Option (Int×List Int)
end Go.Proofs.Ytppbogklbhfboaa.AE
end
