/- One of the facts of the row FnFromForm, by evaluation. -/
import Derived.Test.YtodfdhnlhiaohaaRows
import Derived.Test.YtodfdhnlhiaohaaProg
import Derived.WalkKit
import Derived.ProofKit
import Derived.OpenShut
import Derived.ShutString
import Derived.ChangeOld
import Derived.Below
import Derived.SizedLaws
import Derived.Lib.SmallJoins
namespace Go.Proofs.Ytodfdhnlhiaohaa.fnFromForm
open Go Go.Proofs
theorem k4 : (Rows.fnFromFormRow.named == Try.pinned.checked.prog.varsNamed 9) = true := by kernel_rfl
end Go.Proofs.Ytodfdhnlhiaohaa.fnFromForm
