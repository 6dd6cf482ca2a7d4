/- The pure statement of FnExactTransformColoring: over numbers and lists alone. -/
import Derived.Test.YtahjhlcmcnemiaaPAxf3
import Derived.Test.YtahjhlcmcnemiaaFits
namespace Go.Proofs.Ytahjhlcmcnemiaa.fnExactTransformColoring
open Go.RowKit Go.ChangeShapes Go.WideShapes Go.Joins Go.Deep Go.Proofs.YtahjhlcmcnemiaaW.PrintWords Go.Proofs.YtahjhlcmcnemiaaW.PrintLast
set_option linter.unusedVariables false
set_option linter.unusedSimpArgs false
def Pure : Prop := ∀ (a0 : Int) (l1 : List Int) (a2 : Int) (a3 : Int), (Lit.int .i64 a0).wf = true → l1.length ≤ maxLen → (∀ x ∈ l1, (fun (n : Int) => (Lit.int .i64 n).wf = true) x) → (Lit.int .i64 a2).wf = true → (Lit.int .i64 a3).wf = true → ∃ k, PA.laws_FnExactTransformColoring.f k a0 l1 a2 a3 = some true
end Go.Proofs.Ytahjhlcmcnemiaa.fnExactTransformColoring
