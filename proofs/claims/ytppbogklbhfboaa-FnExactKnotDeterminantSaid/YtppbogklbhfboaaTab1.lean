import Derived.Test.YtppbogklbhfboaaE2
import Derived.Test.YtppbogklbhfboaaProg
set_option linter.unusedVariables false
set_option linter.unusedSimpArgs false
section
namespace Go.Proofs.Ytppbogklbhfboaa.AE
open Go Go.AE Go.Proofs
def tyl:List (TypeId×TI):=[
 (2,⟨.int .i64,false,1,8,[.int .i64 0],[.int .i64]⟩),
 (3,⟨.int .i64,false,1,8,[.int .i64 0],[.int .i64]⟩),
 (4,⟨.bool,false,1,1,[.bool false],[.bool]⟩),
 (22,⟨.slice 86,false,1,24,[.sl ⟨none,0,.ex 0⟩],[.sl]⟩),
 (24,⟨.struct [(0,22),(1,2)],true,2,32,[.sl ⟨none,0,.ex 0⟩,.int .i64 0],[.sl,.int .i64]⟩),
 (28,⟨.slice 84,false,1,24,[.sl ⟨none,0,.ex 0⟩],[.sl]⟩),
 (30,⟨.struct [(0,28),(1,2)],true,2,32,[.sl ⟨none,0,.ex 0⟩,.int .i64 0],[.sl,.int .i64]⟩),
 (34,⟨.slice 2,false,1,24,[.sl ⟨none,0,.ex 0⟩],[.sl]⟩),
 (42,⟨.struct [(0,2),(1,34)],true,2,32,[.int .i64 0,.sl ⟨none,0,.ex 0⟩],[.int .i64,.sl]⟩),
 (56,⟨.slice 129,false,1,24,[.sl ⟨none,0,.ex 0⟩],[.sl]⟩),
 (58,⟨.struct [(0,56),(1,56)],true,2,48,[.sl ⟨none,0,.ex 0⟩,.sl ⟨none,0,.ex 0⟩],[.sl,.sl]⟩),
 (76,⟨.slice 34,false,1,24,[.sl ⟨none,0,.ex 0⟩],[.sl]⟩),
 (84,⟨.struct [(0,2),(1,2),(2,2),(3,2),(4,2)],true,5,40,[.int .i64 0,.int .i64 0,.int .i64 0,.int .i64 0,.int .i64 0],[.int .i64,.int .i64,.int .i64,.int .i64,.int .i64]⟩),
 (86,⟨.struct [(0,2),(1,2),(2,2),(3,2),(4,2)],true,5,40,[.int .i64 0,.int .i64 0,.int .i64 0,.int .i64 0,.int .i64 0],[.int .i64,.int .i64,.int .i64,.int .i64,.int .i64]⟩),
 (115,⟨.slice 120,false,1,24,[.sl ⟨none,0,.ex 0⟩],[.sl]⟩),
 (120,⟨.slice 42,false,1,24,[.sl ⟨none,0,.ex 0⟩],[.sl]⟩),
 (122,⟨.slice 4,false,1,24,[.sl ⟨none,0,.ex 0⟩],[.sl]⟩),
 (129,⟨.struct [(0,2),(1,2)],true,2,16,[.int .i64 0,.int .i64 0],[.int .i64,.int .i64]⟩),
 (130,⟨.arr 4 2,true,4,32,[.int .i64 0,.int .i64 0,.int .i64 0,.int .i64 0],[.int .i64,.int .i64,.int .i64,.int .i64]⟩),
 (139,⟨.int .u64,false,1,8,[.int .u64 0],[.int .u64]⟩),
 (152,⟨.slice 3,false,1,24,[.sl ⟨none,0,.ex 0⟩],[.sl]⟩),
 (162,⟨.int .u64,false,1,8,[.int .u64 0],[.int .u64]⟩)]
def shl:List (Nat×Shp):=[(2,(.leaf (.int .i64))),(3,(.leaf (.int .i64))),(4,(.leaf (.bool))),(26,(.tup [(.leaf (.int .i64)),(.leaf (.int .i64))])),(28,(.leaf (.sl))),(30,(.agg [.sl,.int .i64])),(34,(.leaf (.sl))),(35,(.tup [(.leaf (.sl)),(.leaf (.int .i64))])),(42,(.agg [.int .i64,.sl])),(43,(.tup [(.agg [.int .i64,.sl]),(.leaf (.int .i64))])),(56,(.leaf (.sl))),(59,(.tup [(.agg [.sl,.sl]),(.leaf (.bool))])),(72,(.tup [(.leaf (.int .i64)),(.leaf (.bool))])),(76,(.leaf (.sl))),(84,(.agg [.int .i64,.int .i64,.int .i64,.int .i64,.int .i64])),(115,(.leaf (.sl))),(129,(.agg [.int .i64,.int .i64])),(130,(.agg [.int .i64,.int .i64,.int .i64,.int .i64])),(140,(.tup [(.leaf (.int .u64)),(.leaf (.int .u64))])),(163,(.tup [(.leaf (.int .u64)),(.leaf (.int .u64))]))]
def tabs:Tabs:=⟨Um tyl,λt=>shl.lookup t⟩
theorem tabs_ok:cF Try.prog tabs.ty:=ari (by kernel_rfl)
theorem mixed:Try.prog.follows .mixedOrders=true:=by kernel_rfl
abbrev LO:=LOk tabs
noncomputable abbrev EX:=EXe tabs
theorem okT {PN:Nat->List Nat} {LH:Nat->List Nat->Nat->Tm->Hp->OA} {TB:Nat->List (List Nat)} {F:Nat} {fn:Func} {n:FuncId} {cs:Cs} {args:List AV} {H:Hp} {v:AV} {H':Hp} (hf:Try.prog.funcs[n]?=some fn) (hcs:∀ p∈cs,Ok Try.prog p.1 p.2) (hl:LO (aY cs) PN LH F fn) (h:EX (aY cs) PN LH F fn args H=some (v,H')) (hk:G_ PN TB fn args.length=true):Go.AE.T Try.prog n args H v H':=T.of2 mixed tabs_ok hcs hf hl h hk
theorem ok0 {fn:Func} {n:FuncId} {args:List AV} {H:Hp} {v:AV} {H':Hp} (hf:Try.prog.funcs[n]?=some fn) (h:EX (aY []) aJ lh0 0 fn args H=some (v,H')) (hn:j_ (fn.body.getD .skip)=true) (hk:G_ aJ aJ fn args.length=true):Go.AE.T Try.prog n args H v H':=okT hf bA (Ha hn) h hk
abbrev as2:=Sl->Int->Hp->OA
abbrev as3:=List Rs
abbrev as4:=Sl->Hp->OA
abbrev as5:=Int->Sl->Hp->OA
abbrev as6:=List Int
abbrev as7:=List Nat
abbrev as8:=Int->Sl->Int->Sl->Hp->OA
abbrev as9:=Int×List Int
abbrev as_:=Int->Hp->OA
abbrev ata:=Int->Int->Int->Int->Int->Int->Hp->OA
abbrev atb:=List (Int×Int×Int×Int×Int)
abbrev atc:=Int->Int->Int->Hp->OA
abbrev atd:=Int->Int->Hp->OA
abbrev ate:=Sl->Int->Int->Hp->OA
abbrev atf:=List (List Int)
abbrev atg:=List AV
abbrev ath:=Int->Int->Int->Int->Int->Hp->OA
abbrev ati:=List ((List (Int×List Int)))->Int->List (Int×List Int)->Int->Option (Int×List Int)
abbrev atj:=Sl->Int->Int->Bool->Hp->OA
abbrev atk:=Int×List Int×Int
abbrev atl:=List ((List (Int×List Int)))
abbrev atm:=List (Int×List Int)
abbrev atn:=List Int×Int
abbrev ato:=List (Int×Int)
abbrev atp:=Nat->Nat->Sl->Int->Hp->OA
abbrev atq:=Int×Int
abbrev atr:=Sl->Int->Sl->Sl->Int->Int->Hp->OA
abbrev ats:=Nat->Nat->Sl->Sl->Int->Hp->OA
abbrev att:=Sl->Int->Sl->Int->Hp->OA
abbrev atu:=Int->Sl->Int->Hp->OA
abbrev atv:=Sl->Int->Nat->Nat->Sl->Int->Hp->OA
abbrev atw:=Sl->Nat->Nat->Int->Sl->Int->Hp->OA
abbrev atx:=Int×Bool
abbrev aty:=Nat->Nat->Nat->Nat->Sl->Sl->Int->Int->Hp->OA
abbrev atz:=Int->Int->Int->Int->Int->Int->Int->Int->Int->Int->Hp->OA
abbrev atA:=List (Int×Int×Int×Int×Int)->List (List Int)->List Bool->Int->Option (List (List Int))
abbrev atB:=List (Int×Int×Int×Int×Int)->List (Int×Int)->List (Int×Int)->List (List Int)->List Bool->Int->Int->Option (List (List Int))
abbrev atC:=Sl->Int->Sl->Sl->Hp->OA
abbrev atD:=Nat->Nat->Nat->Nat->Nat->Nat->Sl->Int->Int->Hp->OA
abbrev atE:=List (Int×Int×Int×Int×Int)->List Int->Int->Option (List Int)
abbrev atF:=List (Int×Int×Int×Int×Int)->Int->List Int->Int->Option (List Int×Int)
abbrev atG:=Int->Bool->Nat->Nat->Int->Hp->OA
abbrev atH:=Sl->Int->Nat->Nat->Nat->Nat->Int->Int->Hp->OA
abbrev atI:=Nat->Nat->Nat->Nat->Nat->Nat->Sl->Int->Hp->OA
abbrev atJ:=Nat->Nat->Int->Nat->Nat->Sl->Int->Int->Hp->OA
abbrev atK:=Int->Nat->Nat->Nat->Nat->Int->Sl->Int->Int->Hp->OA
abbrev atL:=Int->Sl->Sl->Int->Int->Hp->OA
abbrev atM:=Int->Bool->List (Int×Int×Int×Int×Int)->Int->Option (Int×Int)
abbrev atN:=List Int->Int->Int->List Int->Int->Int->Option (Int×List Int)
abbrev atO:=List ((List (Int×List Int)))->Int->List (List Int)->Int->Option ((List ((List (Int×List Int)))))
abbrev atP:=Int->List Int->Int->List Int->List Int->Int->Option (Int×List Int)
abbrev atQ:=Int->Int->List Int->List (Int×List Int)->Int->Int->Option (Int×List Int×Int)
abbrev atR:=Int->Int->List Int->Int->List Int->Int->Int->Option (Int×List Int)
abbrev atS:=Int->List ((List (Int×List Int)))->List (List Int)->Int->Int->Option ((List ((List (Int×List Int)))))
abbrev atT:=List Int->Int->List Int->List Int->Int->Int->Option (Int×List Int×Int)
abbrev atU:=Nat->Nat->Sl->Int->Int->Int->Int->Hp->OA
abbrev atV:=List Bool
abbrev atW:=Nat->Nat->Sl->Sl->Int->Int->Hp->OA
abbrev atX:=Sl->Int->Nat->Nat->Sl->Int->Int->Nat->Nat->Int->Int->Hp->OA
abbrev atY:=Sl->Sl->Hp->OA
abbrev atZ:=List ((List (Int×List Int)))->Int->List (Int×List Int)->Int->Int->Int->List Int->Int->Int->Option (Int×List Int)
abbrev at0:=Nat->Nat->Int->Sl->Sl->Int->Hp->OA
abbrev at1:=Nat->Nat->Nat->Nat->Nat->Nat->Int->Hp->OA
abbrev at2:=Int->Nat->Nat->Int->Int->Hp->OA
abbrev at3:=Nat->Nat->Nat->Nat->Sl->Int->Int->Hp->OA
abbrev at4:=Sl->Int->Int->Sl->Int->Int->Hp->OA
abbrev at5:=Sl->Nat->Nat->Int->Sl->Int->Sl->Int->Int->Hp->OA
abbrev at6:=Int->Nat->Nat->Int->Sl->Int->Int->Hp->OA
abbrev at7:=List (Int×Int×Int×Int×Int)->Int->List Bool->List Bool->Int->Option (Bool)
abbrev at8:=List (Int×Int×Int×Int×Int)->List Int->Int->Int->Int->Int->Option (List Int)
abbrev at9:=Int->List Int->Int->Option (Int)
abbrev aua:=List (Int×Int×Int×Int×Int)->Int->List Int->Int->Int->Int->Int->Option (List Int×Int)
abbrev aub:=Int->List Int->List Int->Int->Int->Option (List Int×Int)
abbrev auc:=List (Int×Int×Int×Int×Int)->List (List Int)->List Int->Int->Option (List (List Int))
abbrev aud:=Int->List Int->Int->Int->Option (Int×List Int)
abbrev aue:=List Int->Int->List Int->Int->Option (Int×List Int)
abbrev auf:=Int->Int->List Int->Int->Int->Option (Int×Bool)
abbrev aug:=List (Int×Int)->List (Int×Int)->List (Int×Int×Int×Int×Int)->Int->Int->Option ((List (Int×Int))×(List (Int×Int))×Bool)
abbrev auh:=List Int->Int->Int->Int->Int->Option (List Int)
abbrev aui:=List ((List (Int×List Int)))->Int->List (Int×List Int)->Int->List Int->Int->Int->Option (Int×List Int)
abbrev auj:=Int->Int->List Int->Int->Int->Int->Option (Int×Bool)
abbrev auk:=Int×Int×Int×Int×Int
abbrev aul:=Int->Sl->Nat->Nat->Int->Int->Hp->OA
abbrev aum:=List Int->Int->Int->Option (Int)
abbrev aun:=Nat->Nat->Nat->Nat->Hp->OA
abbrev auo:=Int->List Int->Option (Int×List Int)
end Go.Proofs.Ytppbogklbhfboaa.AE
end
