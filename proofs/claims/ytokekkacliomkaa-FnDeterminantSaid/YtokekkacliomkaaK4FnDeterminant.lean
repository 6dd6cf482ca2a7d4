/- One of the facts of the row FnDeterminant, by evaluation. -/
import Derived.Test.YtokekkacliomkaaRows
import Derived.Test.YtokekkacliomkaaProg
import Derived.WalkKit
import Derived.ProofKit
import Derived.OpenShut
import Derived.ShutString
import Derived.ChangeOld
import Derived.Below
import Derived.SizedLaws
import Derived.Lib.SmallJoins
namespace Go.Proofs.Ytokekkacliomkaa.fnDeterminant
open Go Go.Proofs
theorem k4 : (Rows.fnDeterminantRow.named == Try.pinned.checked.prog.varsNamed 5) = true := by kernel_rfl
end Go.Proofs.Ytokekkacliomkaa.fnDeterminant
