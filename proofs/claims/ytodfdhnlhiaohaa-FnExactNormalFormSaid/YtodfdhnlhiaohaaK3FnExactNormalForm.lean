/- One of the facts of the row FnExactNormalForm, by evaluation. -/
import Derived.Test.YtodfdhnlhiaohaaRows
import Derived.Test.YtodfdhnlhiaohaaProg
import Derived.WalkKit
import Derived.ProofKit
import Derived.OpenShut
import Derived.ShutString
import Derived.ChangeOld
import Derived.Below
import Derived.SizedLaws
import Derived.Lib.SmallJoins
namespace Go.Proofs.Ytodfdhnlhiaohaa.fnExactNormalForm
open Go Go.Proofs
theorem k3 : (Rows.fnExactNormalFormRow.recurses == Try.pinned.checked.prog.recurses 6) = true := by kernel_rfl
end Go.Proofs.Ytodfdhnlhiaohaa.fnExactNormalForm
