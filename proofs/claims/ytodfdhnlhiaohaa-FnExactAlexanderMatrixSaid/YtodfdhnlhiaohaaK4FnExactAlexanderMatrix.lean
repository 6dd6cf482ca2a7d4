/- One of the facts of the row FnExactAlexanderMatrix, by evaluation. -/
import Derived.Test.YtodfdhnlhiaohaaRows
import Derived.Test.YtodfdhnlhiaohaaProg
import Derived.WalkKit
import Derived.ProofKit
import Derived.OpenShut
import Derived.ShutString
import Derived.ChangeOld
import Derived.Below
import Derived.SizedLaws
import Derived.Lib.SmallJoins
namespace Go.Proofs.Ytodfdhnlhiaohaa.fnExactAlexanderMatrix
open Go Go.Proofs
theorem k4 : (Rows.fnExactAlexanderMatrixRow.named == Try.pinned.checked.prog.varsNamed 4) = true := by kernel_rfl
end Go.Proofs.Ytodfdhnlhiaohaa.fnExactAlexanderMatrix
