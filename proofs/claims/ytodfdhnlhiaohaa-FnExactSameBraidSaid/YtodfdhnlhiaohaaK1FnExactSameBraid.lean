/- One of the facts of the row FnExactSameBraid, by evaluation. -/
import Derived.Test.YtodfdhnlhiaohaaRows
import Derived.Test.YtodfdhnlhiaohaaProg
import Derived.WalkKit
import Derived.ProofKit
import Derived.OpenShut
import Derived.ShutString
import Derived.ChangeOld
import Derived.Below
import Derived.SizedLaws
import Derived.Lib.SmallJoins
namespace Go.Proofs.Ytodfdhnlhiaohaa.fnExactSameBraid
open Go Go.Proofs
theorem k1 : (Rows.fnExactSameBraidRow.inPlace == Try.pinned.checked.prog.inPlace 7) = true := by kernel_rfl
end Go.Proofs.Ytodfdhnlhiaohaa.fnExactSameBraid
