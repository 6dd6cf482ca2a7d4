/- One of the facts of the row FnExactSymmetricSignature, by evaluation. -/
import Derived.Test.YtokekkacliomkaaRows
import Derived.Test.YtokekkacliomkaaProg
import Derived.WalkKit
import Derived.ProofKit
import Derived.OpenShut
import Derived.ShutString
import Derived.ChangeOld
import Derived.Below
import Derived.SizedLaws
import Derived.Lib.SmallJoins
namespace Go.Proofs.Ytokekkacliomkaa.fnExactSymmetricSignature
open Go Go.Proofs
theorem k3 : (Rows.fnExactSymmetricSignatureRow.recurses == Try.pinned.checked.prog.recurses 8) = true := by kernel_rfl
end Go.Proofs.Ytokekkacliomkaa.fnExactSymmetricSignature
