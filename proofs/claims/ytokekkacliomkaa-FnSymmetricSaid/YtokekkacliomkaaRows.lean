/-
  No cell of these rows narrows 'for every input' (looked for: loops, veiled, ifaces, maps, wideKeys, modest, calm, conditions, laid).
  DERIVED. THE GIVEN ROWS OF THIS SEAT. 9 by the template 'for every input the law returns true; each argument reads behind the call as it read before'; 0 by the template 'total and deterministic' (their statements: YtokekkacliomkaaTotals.lean).
  GIVEN WITH THE SEED: the statements are not yours to turn. If you find one false, say at which input.
  Laid BY PROGRAM, IN A SANDBOX (cutbox-rows.mjs): the forced cells as the released guide's own fill.sh prints them over the translation e5444767477df341… (all of the seat's roots in one cut). By AI agents, Wed Nov 11 2026. No macro, syntax, notation, axiom, sorry.
-/
import Derived.Test.YtokekkacliomkaaChecked
import GoSem.Claim
import GoSem.ClaimJoined
import GoSem.ClaimMapViews
import Derived.JoinedTies
import Derived.KernelRfl
namespace Go.Proofs.Ytokekkacliomkaa
/- THE CELL 'sum', in the pinned program and in every row, IS THE sha256 OF THE DUMP (.gsa) THAT YtokekkacliomkaaProg.lean LOADS. Nothing in Lean hashes anything: it is a label: what it is worth is what the hold of that sum in a sandbox is worth. -/
noncomputable def Try.pinned : Pinned := { name := "ytokekkacliomkaa", sum := "e5444767477df341dbdfc93be1af74ea6341875088c66dc7becc61ff1b9a28cf", checked := Try.checked }
namespace Rows
def none {H : Type} : Left H := { results := [], args := [] }

/-- 'laws.FnHomology': WHATEVER THE INPUT: true; the input reads as it did. -/
def fnHomologySpec : ChangeSpec := { name := "fnHomology", fn := fun _ => fun
  | [d] => { results := [.lit (.bool true)], args := [d] }
  | _ => none }
def fnHomologyRow : OpenClaim := { program := "ytokekkacliomkaa", sum := "e5444767477df341dbdfc93be1af74ea6341875088c66dc7becc61ff1b9a28cf", func := "loop.example/g00870/laws.FnHomology", spec := "fnHomology", unfollowed := true, recurses := true, apart := false }
def FnHomologySaid : Prop := fnHomologyRow.holds Try.pinned (OpenSpec.ofChange fnHomologySpec)

/-- ITS FALSE NEIGHBOUR: 'it returns false'. Refute it at one input. -/
def fnHomologyWrong : ChangeSpec := { name := "fnHomology", fn := fun _ => fun
  | [d] => { results := [.lit (.bool false)], args := [d] }
  | _ => none }
def FnHomologyWrongFalsely : Prop := fnHomologyRow.holds Try.pinned (OpenSpec.ofChange fnHomologyWrong)

/-- 'laws.FnDirectSum': WHATEVER THE INPUT: true; the input reads as it did. -/
def fnDirectSumSpec : ChangeSpec := { name := "fnDirectSum", fn := fun _ => fun
  | [d] => { results := [.lit (.bool true)], args := [d] }
  | _ => none }
def fnDirectSumRow : OpenClaim := { program := "ytokekkacliomkaa", sum := "e5444767477df341dbdfc93be1af74ea6341875088c66dc7becc61ff1b9a28cf", func := "loop.example/g00870/laws.FnDirectSum", spec := "fnDirectSum", unfollowed := true, recurses := true, apart := false }
def FnDirectSumSaid : Prop := fnDirectSumRow.holds Try.pinned (OpenSpec.ofChange fnDirectSumSpec)

/-- ITS FALSE NEIGHBOUR: 'it returns false'. Refute it at one input. -/
def fnDirectSumWrong : ChangeSpec := { name := "fnDirectSum", fn := fun _ => fun
  | [d] => { results := [.lit (.bool false)], args := [d] }
  | _ => none }
def FnDirectSumWrongFalsely : Prop := fnDirectSumRow.holds Try.pinned (OpenSpec.ofChange fnDirectSumWrong)

/-- 'laws.FnDeterminant': WHATEVER THE INPUT: true; the input reads as it did. -/
def fnDeterminantSpec : ChangeSpec := { name := "fnDeterminant", fn := fun _ => fun
  | [d] => { results := [.lit (.bool true)], args := [d] }
  | _ => none }
def fnDeterminantRow : OpenClaim := { program := "ytokekkacliomkaa", sum := "e5444767477df341dbdfc93be1af74ea6341875088c66dc7becc61ff1b9a28cf", func := "loop.example/g00870/laws.FnDeterminant", spec := "fnDeterminant", unfollowed := true, recurses := true, apart := false }
def FnDeterminantSaid : Prop := fnDeterminantRow.holds Try.pinned (OpenSpec.ofChange fnDeterminantSpec)

/-- ITS FALSE NEIGHBOUR: 'it returns false'. Refute it at one input. -/
def fnDeterminantWrong : ChangeSpec := { name := "fnDeterminant", fn := fun _ => fun
  | [d] => { results := [.lit (.bool false)], args := [d] }
  | _ => none }
def FnDeterminantWrongFalsely : Prop := fnDeterminantRow.holds Try.pinned (OpenSpec.ofChange fnDeterminantWrong)

/-- 'laws.FnSmith': WHATEVER THE INPUT: true; the input reads as it did. -/
def fnSmithSpec : ChangeSpec := { name := "fnSmith", fn := fun _ => fun
  | [d] => { results := [.lit (.bool true)], args := [d] }
  | _ => none }
def fnSmithRow : OpenClaim := { program := "ytokekkacliomkaa", sum := "e5444767477df341dbdfc93be1af74ea6341875088c66dc7becc61ff1b9a28cf", func := "loop.example/g00870/laws.FnSmith", spec := "fnSmith", unfollowed := true, recurses := true, apart := false }
def FnSmithSaid : Prop := fnSmithRow.holds Try.pinned (OpenSpec.ofChange fnSmithSpec)

/-- ITS FALSE NEIGHBOUR: 'it returns false'. Refute it at one input. -/
def fnSmithWrong : ChangeSpec := { name := "fnSmith", fn := fun _ => fun
  | [d] => { results := [.lit (.bool false)], args := [d] }
  | _ => none }
def FnSmithWrongFalsely : Prop := fnSmithRow.holds Try.pinned (OpenSpec.ofChange fnSmithWrong)

/-- 'laws.FnSymmetric': WHATEVER THE INPUT: true; the input reads as it did. -/
def fnSymmetricSpec : ChangeSpec := { name := "fnSymmetric", fn := fun _ => fun
  | [d] => { results := [.lit (.bool true)], args := [d] }
  | _ => none }
def fnSymmetricRow : OpenClaim := { program := "ytokekkacliomkaa", sum := "e5444767477df341dbdfc93be1af74ea6341875088c66dc7becc61ff1b9a28cf", func := "loop.example/g00870/laws.FnSymmetric", spec := "fnSymmetric", unfollowed := true, recurses := true, apart := false }
def FnSymmetricSaid : Prop := fnSymmetricRow.holds Try.pinned (OpenSpec.ofChange fnSymmetricSpec)

/-- ITS FALSE NEIGHBOUR: 'it returns false'. Refute it at one input. -/
def fnSymmetricWrong : ChangeSpec := { name := "fnSymmetric", fn := fun _ => fun
  | [d] => { results := [.lit (.bool false)], args := [d] }
  | _ => none }
def FnSymmetricWrongFalsely : Prop := fnSymmetricRow.holds Try.pinned (OpenSpec.ofChange fnSymmetricWrong)

/-- 'laws.FnExactSymmetricSignature': WHATEVER THE INPUT: true; the input reads as it did. -/
def fnExactSymmetricSignatureSpec : ChangeSpec := { name := "fnExactSymmetricSignature", fn := fun _ => fun
  | [d] => { results := [.lit (.bool true)], args := [d] }
  | _ => none }
def fnExactSymmetricSignatureRow : OpenClaim := { program := "ytokekkacliomkaa", sum := "e5444767477df341dbdfc93be1af74ea6341875088c66dc7becc61ff1b9a28cf", func := "loop.example/g00870/laws.FnExactSymmetricSignature", spec := "fnExactSymmetricSignature", unfollowed := true, recurses := true, apart := false }
def FnExactSymmetricSignatureSaid : Prop := fnExactSymmetricSignatureRow.holds Try.pinned (OpenSpec.ofChange fnExactSymmetricSignatureSpec)

/-- ITS FALSE NEIGHBOUR: 'it returns false'. Refute it at one input. -/
def fnExactSymmetricSignatureWrong : ChangeSpec := { name := "fnExactSymmetricSignature", fn := fun _ => fun
  | [d] => { results := [.lit (.bool false)], args := [d] }
  | _ => none }
def FnExactSymmetricSignatureWrongFalsely : Prop := fnExactSymmetricSignatureRow.holds Try.pinned (OpenSpec.ofChange fnExactSymmetricSignatureWrong)

/-- 'laws.FnClosure': WHATEVER THE INPUT: true; the input reads as it did. -/
def fnClosureSpec : ChangeSpec := { name := "fnClosure", fn := fun _ => fun
  | [d] => { results := [.lit (.bool true)], args := [d] }
  | _ => none }
def fnClosureRow : OpenClaim := { program := "ytokekkacliomkaa", sum := "e5444767477df341dbdfc93be1af74ea6341875088c66dc7becc61ff1b9a28cf", func := "loop.example/g00870/laws.FnClosure", spec := "fnClosure", unfollowed := true, recurses := true, apart := false }
def FnClosureSaid : Prop := fnClosureRow.holds Try.pinned (OpenSpec.ofChange fnClosureSpec)

/-- ITS FALSE NEIGHBOUR: 'it returns false'. Refute it at one input. -/
def fnClosureWrong : ChangeSpec := { name := "fnClosure", fn := fun _ => fun
  | [d] => { results := [.lit (.bool false)], args := [d] }
  | _ => none }
def FnClosureWrongFalsely : Prop := fnClosureRow.holds Try.pinned (OpenSpec.ofChange fnClosureWrong)

/-- 'laws.FnExactFirstColoring': WHATEVER THE INPUT: true; the input reads as it did. -/
def fnExactFirstColoringSpec : ChangeSpec := { name := "fnExactFirstColoring", fn := fun _ => fun
  | [d1, d2] => { results := [.lit (.bool true)], args := [d1, d2] }
  | _ => none }
def fnExactFirstColoringRow : OpenClaim := { program := "ytokekkacliomkaa", sum := "e5444767477df341dbdfc93be1af74ea6341875088c66dc7becc61ff1b9a28cf", func := "loop.example/g00870/laws.FnExactFirstColoring", spec := "fnExactFirstColoring", unfollowed := true, recurses := true, apart := false }
def FnExactFirstColoringSaid : Prop := fnExactFirstColoringRow.holds Try.pinned (OpenSpec.ofChange fnExactFirstColoringSpec)

/-- ITS FALSE NEIGHBOUR: 'it returns false'. Refute it at one input. -/
def fnExactFirstColoringWrong : ChangeSpec := { name := "fnExactFirstColoring", fn := fun _ => fun
  | [d1, d2] => { results := [.lit (.bool false)], args := [d1, d2] }
  | _ => none }
def FnExactFirstColoringWrongFalsely : Prop := fnExactFirstColoringRow.holds Try.pinned (OpenSpec.ofChange fnExactFirstColoringWrong)

/-- 'laws.FnExactColorableModuli': WHATEVER THE INPUT: true; the input reads as it did. -/
def fnExactColorableModuliSpec : ChangeSpec := { name := "fnExactColorableModuli", fn := fun _ => fun
  | [d1, d2] => { results := [.lit (.bool true)], args := [d1, d2] }
  | _ => none }
def fnExactColorableModuliRow : OpenClaim := { program := "ytokekkacliomkaa", sum := "e5444767477df341dbdfc93be1af74ea6341875088c66dc7becc61ff1b9a28cf", func := "loop.example/g00870/laws.FnExactColorableModuli", spec := "fnExactColorableModuli", unfollowed := true, recurses := true, apart := false }
def FnExactColorableModuliSaid : Prop := fnExactColorableModuliRow.holds Try.pinned (OpenSpec.ofChange fnExactColorableModuliSpec)

/-- ITS FALSE NEIGHBOUR: 'it returns false'. Refute it at one input. -/
def fnExactColorableModuliWrong : ChangeSpec := { name := "fnExactColorableModuli", fn := fun _ => fun
  | [d1, d2] => { results := [.lit (.bool false)], args := [d1, d2] }
  | _ => none }
def FnExactColorableModuliWrongFalsely : Prop := fnExactColorableModuliRow.holds Try.pinned (OpenSpec.ofChange fnExactColorableModuliWrong)

/- THE SECOND FORM. 'bulk': how many values and letters a reading holds, each counted each time it is reached (what is shared counts as often as it is met; a slice's spare places count too). A statement '..UptoSaid' is the law's where the arguments, and the package variables that the reading takes, are together of bulk at most 1048576: NARROWER than '..Said'. Prove '..Said' where nothing that the law and all that it calls make is longer than what came in: it says more and counts as full. Else prove '..UptoSaid'. A law counts once. -/
mutual
def uptoBulk {H : Type} : DataW H → Nat
  | .lit (.string bytes) => bytes.length + 1
  | .lit _ => 1
  | .nil => 1
  | .ptr d => uptoBulk d + 1
  | .slice elems spare => uptoBulkAll elems + uptoBulkAll spare + 1
  | .agg parts => uptoBulkAll parts + 1
  | .iface _ d => uptoBulk d + 1
  | .map entries => uptoBulkEntries entries + 1
  | .held _ => 1
def uptoBulkAll {H : Type} : List (DataW H) → Nat
  | [] => 0
  | d :: r => uptoBulk d + uptoBulkAll r
def uptoBulkEntries {H : Type} : List (Lit × DataW H) → Nat
  | [] => 0
  | x :: r => uptoBulkEntry x + uptoBulkEntries r
def uptoBulkEntry {H : Type} : Lit × DataW H → Nat
  | (.string bytes, d) => bytes.length + uptoBulk d + 1
  | (_, d) => uptoBulk d + 1
 end
def uptoSmall : (H : Type) → List (DataW H) → Bool := fun _ ds => decide (uptoBulkAll ds ≤ 1048576)
def OpenSpec.upto (s : _root_.Go.ChangeSpec) : _root_.Go.OpenSpec := { _root_.Go.OpenSpec.ofChange s with cond := some uptoSmall }

/-- 'laws.FnHomology', WHERE WHAT IT READS IS OF BULK AT MOST 1048576: true; the input reads as it did. -/
def fnHomologyUptoRow : OpenClaim := { program := "ytokekkacliomkaa", sum := "e5444767477df341dbdfc93be1af74ea6341875088c66dc7becc61ff1b9a28cf", func := "loop.example/g00870/laws.FnHomology", spec := "fnHomology", unfollowed := true, recurses := true, apart := false, narrowed := true }
def FnHomologyUptoSaid : Prop := fnHomologyUptoRow.holds Try.pinned (OpenSpec.upto fnHomologySpec)

/-- 'laws.FnDirectSum', WHERE WHAT IT READS IS OF BULK AT MOST 1048576: true; the input reads as it did. -/
def fnDirectSumUptoRow : OpenClaim := { program := "ytokekkacliomkaa", sum := "e5444767477df341dbdfc93be1af74ea6341875088c66dc7becc61ff1b9a28cf", func := "loop.example/g00870/laws.FnDirectSum", spec := "fnDirectSum", unfollowed := true, recurses := true, apart := false, narrowed := true }
def FnDirectSumUptoSaid : Prop := fnDirectSumUptoRow.holds Try.pinned (OpenSpec.upto fnDirectSumSpec)

/-- 'laws.FnDeterminant', WHERE WHAT IT READS IS OF BULK AT MOST 1048576: true; the input reads as it did. -/
def fnDeterminantUptoRow : OpenClaim := { program := "ytokekkacliomkaa", sum := "e5444767477df341dbdfc93be1af74ea6341875088c66dc7becc61ff1b9a28cf", func := "loop.example/g00870/laws.FnDeterminant", spec := "fnDeterminant", unfollowed := true, recurses := true, apart := false, narrowed := true }
def FnDeterminantUptoSaid : Prop := fnDeterminantUptoRow.holds Try.pinned (OpenSpec.upto fnDeterminantSpec)

/-- 'laws.FnSmith', WHERE WHAT IT READS IS OF BULK AT MOST 1048576: true; the input reads as it did. -/
def fnSmithUptoRow : OpenClaim := { program := "ytokekkacliomkaa", sum := "e5444767477df341dbdfc93be1af74ea6341875088c66dc7becc61ff1b9a28cf", func := "loop.example/g00870/laws.FnSmith", spec := "fnSmith", unfollowed := true, recurses := true, apart := false, narrowed := true }
def FnSmithUptoSaid : Prop := fnSmithUptoRow.holds Try.pinned (OpenSpec.upto fnSmithSpec)

/-- 'laws.FnSymmetric', WHERE WHAT IT READS IS OF BULK AT MOST 1048576: true; the input reads as it did. -/
def fnSymmetricUptoRow : OpenClaim := { program := "ytokekkacliomkaa", sum := "e5444767477df341dbdfc93be1af74ea6341875088c66dc7becc61ff1b9a28cf", func := "loop.example/g00870/laws.FnSymmetric", spec := "fnSymmetric", unfollowed := true, recurses := true, apart := false, narrowed := true }
def FnSymmetricUptoSaid : Prop := fnSymmetricUptoRow.holds Try.pinned (OpenSpec.upto fnSymmetricSpec)

/-- 'laws.FnExactSymmetricSignature', WHERE WHAT IT READS IS OF BULK AT MOST 1048576: true; the input reads as it did. -/
def fnExactSymmetricSignatureUptoRow : OpenClaim := { program := "ytokekkacliomkaa", sum := "e5444767477df341dbdfc93be1af74ea6341875088c66dc7becc61ff1b9a28cf", func := "loop.example/g00870/laws.FnExactSymmetricSignature", spec := "fnExactSymmetricSignature", unfollowed := true, recurses := true, apart := false, narrowed := true }
def FnExactSymmetricSignatureUptoSaid : Prop := fnExactSymmetricSignatureUptoRow.holds Try.pinned (OpenSpec.upto fnExactSymmetricSignatureSpec)

/-- 'laws.FnClosure', WHERE WHAT IT READS IS OF BULK AT MOST 1048576: true; the input reads as it did. -/
def fnClosureUptoRow : OpenClaim := { program := "ytokekkacliomkaa", sum := "e5444767477df341dbdfc93be1af74ea6341875088c66dc7becc61ff1b9a28cf", func := "loop.example/g00870/laws.FnClosure", spec := "fnClosure", unfollowed := true, recurses := true, apart := false, narrowed := true }
def FnClosureUptoSaid : Prop := fnClosureUptoRow.holds Try.pinned (OpenSpec.upto fnClosureSpec)

/-- 'laws.FnExactFirstColoring', WHERE WHAT IT READS IS OF BULK AT MOST 1048576: true; the input reads as it did. -/
def fnExactFirstColoringUptoRow : OpenClaim := { program := "ytokekkacliomkaa", sum := "e5444767477df341dbdfc93be1af74ea6341875088c66dc7becc61ff1b9a28cf", func := "loop.example/g00870/laws.FnExactFirstColoring", spec := "fnExactFirstColoring", unfollowed := true, recurses := true, apart := false, narrowed := true }
def FnExactFirstColoringUptoSaid : Prop := fnExactFirstColoringUptoRow.holds Try.pinned (OpenSpec.upto fnExactFirstColoringSpec)

/-- 'laws.FnExactColorableModuli', WHERE WHAT IT READS IS OF BULK AT MOST 1048576: true; the input reads as it did. -/
def fnExactColorableModuliUptoRow : OpenClaim := { program := "ytokekkacliomkaa", sum := "e5444767477df341dbdfc93be1af74ea6341875088c66dc7becc61ff1b9a28cf", func := "loop.example/g00870/laws.FnExactColorableModuli", spec := "fnExactColorableModuli", unfollowed := true, recurses := true, apart := false, narrowed := true }
def FnExactColorableModuliUptoSaid : Prop := fnExactColorableModuliUptoRow.holds Try.pinned (OpenSpec.upto fnExactColorableModuliSpec)

end Rows
end Go.Proofs.Ytokekkacliomkaa
