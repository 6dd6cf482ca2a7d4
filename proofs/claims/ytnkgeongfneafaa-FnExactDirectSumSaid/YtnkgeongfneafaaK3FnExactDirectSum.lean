/- One of the facts of the row FnExactDirectSum, by evaluation. -/
import Derived.Test.YtnkgeongfneafaaRows
import Derived.Test.YtnkgeongfneafaaProg
import Derived.WalkKit
import Derived.ProofKit
import Derived.OpenShut
import Derived.ShutString
import Derived.ChangeOld
import Derived.Below
import Derived.SizedLaws
import Derived.Lib.SmallJoins
namespace Go.Proofs.Ytnkgeongfneafaa.fnExactDirectSum
open Go Go.Proofs
theorem k3 : (Rows.fnExactDirectSumRow.recurses == Try.pinned.checked.prog.recurses 10) = true := by kernel_rfl
end Go.Proofs.Ytnkgeongfneafaa.fnExactDirectSum
