/- The pure statement of FnExactPermutationBraid: over numbers and lists alone. -/
import Derived.Test.YtahjhlcmcnemiaaPAxf5
import Derived.Test.YtahjhlcmcnemiaaFits
namespace Go.Proofs.Ytahjhlcmcnemiaa.fnExactPermutationBraid
open Go.RowKit Go.ChangeShapes Go.WideShapes Go.Joins Go.Deep Go.Proofs.YtahjhlcmcnemiaaW.PrintWords Go.Proofs.YtahjhlcmcnemiaaW.PrintLast
set_option linter.unusedVariables false
set_option linter.unusedSimpArgs false
def Pure : Prop := ∀ (l0 : List Int), l0.length ≤ maxLen → (∀ x ∈ l0, (fun (n : Int) => (Lit.int .i64 n).wf = true) x) → ∃ k, PA.laws_FnExactPermutationBraid.f k l0 = some true
end Go.Proofs.Ytahjhlcmcnemiaa.fnExactPermutationBraid
