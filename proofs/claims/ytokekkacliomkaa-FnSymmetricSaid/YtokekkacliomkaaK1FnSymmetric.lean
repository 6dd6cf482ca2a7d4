/- One of the facts of the row FnSymmetric, by evaluation. -/
import Derived.Test.YtokekkacliomkaaRows
import Derived.Test.YtokekkacliomkaaProg
import Derived.WalkKit
import Derived.ProofKit
import Derived.OpenShut
import Derived.ShutString
import Derived.ChangeOld
import Derived.Below
import Derived.SizedLaws
import Derived.Lib.SmallJoins
namespace Go.Proofs.Ytokekkacliomkaa.fnSymmetric
open Go Go.Proofs
theorem k1 : (Rows.fnSymmetricRow.inPlace == Try.pinned.checked.prog.inPlace 7) = true := by kernel_rfl
end Go.Proofs.Ytokekkacliomkaa.fnSymmetric
