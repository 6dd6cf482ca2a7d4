/- The pure statement of FnPermutationWord: over numbers and lists alone. -/
import Derived.Test.YteeahaikelpkpaaPBxf3
import Derived.Test.YteeahaikelpkpaaFits
namespace Go.Proofs.Yteeahaikelpkpaa.fnPermutationWord
open Go.RowKit Go.ChangeShapes Go.WideShapes Go.Joins Go.Deep Go.Proofs.YteeahaikelpkpaaW.PrintWords Go.Proofs.YteeahaikelpkpaaW.PrintLast
set_option linter.unusedVariables false
set_option linter.unusedSimpArgs false
def Pure : Prop := ∀ (l0 : List Int), l0.length ≤ maxLen → (∀ x ∈ l0, (fun (n : Int) => (Lit.int .u8 n).wf = true) x) → ∃ k, PB.laws_FnPermutationWord.f k l0 = some true
end Go.Proofs.Yteeahaikelpkpaa.fnPermutationWord
