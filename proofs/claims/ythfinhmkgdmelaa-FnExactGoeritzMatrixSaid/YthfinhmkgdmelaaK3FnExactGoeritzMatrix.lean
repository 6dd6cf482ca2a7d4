/- One of the facts of the row FnExactGoeritzMatrix, by evaluation. -/
import Derived.Test.YthfinhmkgdmelaaRows
import Derived.Test.YthfinhmkgdmelaaProg
import Derived.WalkKit
import Derived.ProofKit
import Derived.OpenShut
import Derived.ShutString
import Derived.ChangeOld
import Derived.Below
import Derived.SizedLaws
import Derived.Lib.SmallJoins
namespace Go.Proofs.Ythfinhmkgdmelaa.fnExactGoeritzMatrix
open Go Go.Proofs
theorem k3 : (Rows.fnExactGoeritzMatrixRow.recurses == Try.pinned.checked.prog.recurses 11) = true := by kernel_rfl
end Go.Proofs.Ythfinhmkgdmelaa.fnExactGoeritzMatrix
