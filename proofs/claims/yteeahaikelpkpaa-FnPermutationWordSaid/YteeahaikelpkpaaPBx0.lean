/- The functions of this text return what their Lean twins (of the same name, .f) compute; written by a program of this session (wip/hp.py). -/
import Derived.Test.YteeahaikelpkpaaProg
import Derived.Below
import Derived.Deep.Draws
import Derived.Deep.AppendLies
import Derived.Maps.AppendAt
import Derived.OwnWalk
import Derived.Laws.BytesArg
import Derived.Laws.MakeOwn
import Derived.Laws.OwnMore
import Derived.Deep.OwnRows
import Derived.Tactics
import Derived.Lib.ConvBytes
import Derived.Laws.Slices
import Derived.WalkKit
import Derived.KernelRfl
import Derived.RowKit3
import Derived.Deep.LoopGhost
import Derived.Deep.QuietTactic
import Derived.BigQuiet
import Derived.WideLaws
import Derived.Deep.DeepCutAuto
import Derived.Deep.CutBlock
import Derived.Deep.RegionHeld3
import Derived.Laws.Rows
import Derived.Lib.AppendStr
import Derived.ArgAppend
import Derived.Laws.IdiomCopy
import Derived.OrdersHeld
import Derived.Laws.BitsLemmas
import Derived.RowKit
import Derived.Shelf.Abstract
import Derived.Lib.SliceRun
import Derived.Test.YteeahaikelpkpaaWWords
import Derived.Test.YteeahaikelpkpaaWLast
import Derived.Test.YteeahaikelpkpaaWTab
import Derived.Test.YteeahaikelpkpaaWQPut
import Derived.Test.YteeahaikelpkpaaWApart
import Derived.Test.YteeahaikelpkpaaWArr
import Derived.Test.YteeahaikelpkpaaWZeros
import Derived.Test.YteeahaikelpkpaaWFoot
import Derived.Test.YteeahaikelpkpaaWKept
import Derived.Test.YteeahaikelpkpaaWShare
import Derived.Test.YteeahaikelpkpaaWN
import Derived.Test.YteeahaikelpkpaaWRepsOne
import Derived.Test.YteeahaikelpkpaaWGuard
import Derived.Test.YteeahaikelpkpaaWNEv
import Derived.Test.YteeahaikelpkpaaWMore
namespace Go.Proofs.Yteeahaikelpkpaa.PB
open Go.RowKit Go.Proofs.YteeahaikelpkpaaW.PrintWords Go.Proofs.YteeahaikelpkpaaW.PrintLast Go.Proofs.YteeahaikelpkpaaW.PrintMore
attribute [local go_sem] max2_int min2_int max_two min_two max_three min_three max_four min_four   -- for this text's walks alone
set_option linter.unusedVariables false
set_option linter.unusedSimpArgs false



def errW : Option Int → Value
  | none => .nilIface
  | some c => .iface 0 (.int .i64 c)
theorem errW_none : errW none = .nilIface := rfl
theorem errW_some (c : Int) : errW (some c) = .iface 0 (.int .i64 c) := rfl

theorem info2 : (Try.prog.info? 2).map (fun i => (i.zero, i.size, i.bytes)) = some (some (.int .i64 0), 1, 8) := by kernel_rfl
theorem info4 : (Try.prog.info? 4).map (fun i => (i.zero, i.size, i.bytes)) = some (some (.bool false), 1, 1) := by kernel_rfl
-- the values' own types

theorem hp_slice_len {P : Program} {f : FuncId} {A : Option Addr} {n m c : Nat} {w : World} {Q : Ending → World → Prop} (h : m = n) (hc : Calls P f #[.slice A m c] w Q) : Calls P f #[.slice A n c] w Q := h ▸ hc
end Go.Proofs.Yteeahaikelpkpaa.PB
