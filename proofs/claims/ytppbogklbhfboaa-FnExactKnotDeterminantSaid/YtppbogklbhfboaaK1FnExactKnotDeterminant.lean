/- One of the facts of the row FnExactKnotDeterminant, by evaluation. -/
import Derived.Test.YtppbogklbhfboaaRows
import Derived.Test.YtppbogklbhfboaaProg
import Derived.WalkKit
import Derived.ProofKit
import Derived.OpenShut
import Derived.ShutString
import Derived.ChangeOld
import Derived.Below
import Derived.SizedLaws
import Derived.Lib.SmallJoins
namespace Go.Proofs.Ytppbogklbhfboaa.fnExactKnotDeterminant
open Go Go.Proofs
theorem k1 : (Rows.fnExactKnotDeterminantRow.inPlace == Try.pinned.checked.prog.inPlace 5) = true := by kernel_rfl
end Go.Proofs.Ytppbogklbhfboaa.fnExactKnotDeterminant
