/-
  No cell of these rows narrows 'for every input' (looked for: loops, veiled, ifaces, maps, wideKeys, modest, calm, conditions, laid).
  DERIVED. THE GIVEN ROWS OF THIS SEAT. 4 by the template 'for every input the law returns true; each argument reads behind the call as it read before'; 0 by the template 'total and deterministic' (their statements: YtppbogklbhfboaaTotals.lean).
  GIVEN WITH THE SEED: the statements are not yours to turn. If you find one false, say at which input.
  Laid BY PROGRAM, IN A SANDBOX (cutbox-rows.mjs): the forced cells as the released guide's own fill.sh prints them over the translation 8f42cec896f044fc… (all of the seat's roots in one cut). By AI agents, Wed Nov 11 2026. No macro, syntax, notation, axiom, sorry.
-/
import Derived.Test.YtppbogklbhfboaaChecked
import GoSem.Claim
import GoSem.ClaimJoined
import GoSem.ClaimMapViews
import Derived.JoinedTies
import Derived.KernelRfl
namespace Go.Proofs.Ytppbogklbhfboaa
/- THE CELL 'sum', in the pinned program and in every row, IS THE sha256 OF THE DUMP (.gsa) THAT YtppbogklbhfboaaProg.lean LOADS. Nothing in Lean hashes anything: it is a label: what it is worth is what the hold of that sum in a sandbox is worth. -/
noncomputable def Try.pinned : Pinned := { name := "ytppbogklbhfboaa", sum := "8f42cec896f044fce52e6d10f3245d3dea6390b7346ad6c247f0de09faaa3d94", checked := Try.checked }
namespace Rows
def none {H : Type} : Left H := { results := [], args := [] }

/-- 'laws.FnExactGoeritzDeterminant': WHATEVER THE INPUT: true; the input reads as it did. -/
def fnExactGoeritzDeterminantSpec : ChangeSpec := { name := "fnExactGoeritzDeterminant", fn := fun _ => fun
  | [d] => { results := [.lit (.bool true)], args := [d] }
  | _ => none }
def fnExactGoeritzDeterminantRow : OpenClaim := { program := "ytppbogklbhfboaa", sum := "8f42cec896f044fce52e6d10f3245d3dea6390b7346ad6c247f0de09faaa3d94", func := "loop.example/g00870/laws.FnExactGoeritzDeterminant", spec := "fnExactGoeritzDeterminant", unfollowed := true, recurses := true, apart := false }
def FnExactGoeritzDeterminantSaid : Prop := fnExactGoeritzDeterminantRow.holds Try.pinned (OpenSpec.ofChange fnExactGoeritzDeterminantSpec)

/-- ITS FALSE NEIGHBOUR: 'it returns false'. Refute it at one input. -/
def fnExactGoeritzDeterminantWrong : ChangeSpec := { name := "fnExactGoeritzDeterminant", fn := fun _ => fun
  | [d] => { results := [.lit (.bool false)], args := [d] }
  | _ => none }
def FnExactGoeritzDeterminantWrongFalsely : Prop := fnExactGoeritzDeterminantRow.holds Try.pinned (OpenSpec.ofChange fnExactGoeritzDeterminantWrong)

/-- 'laws.FnExactColorableModuli': WHATEVER THE INPUT: true; the input reads as it did. -/
def fnExactColorableModuliSpec : ChangeSpec := { name := "fnExactColorableModuli", fn := fun _ => fun
  | [d1, d2] => { results := [.lit (.bool true)], args := [d1, d2] }
  | _ => none }
def fnExactColorableModuliRow : OpenClaim := { program := "ytppbogklbhfboaa", sum := "8f42cec896f044fce52e6d10f3245d3dea6390b7346ad6c247f0de09faaa3d94", func := "loop.example/g00870/laws.FnExactColorableModuli", spec := "fnExactColorableModuli", unfollowed := true, recurses := true, apart := false }
def FnExactColorableModuliSaid : Prop := fnExactColorableModuliRow.holds Try.pinned (OpenSpec.ofChange fnExactColorableModuliSpec)

/-- ITS FALSE NEIGHBOUR: 'it returns false'. Refute it at one input. -/
def fnExactColorableModuliWrong : ChangeSpec := { name := "fnExactColorableModuli", fn := fun _ => fun
  | [d1, d2] => { results := [.lit (.bool false)], args := [d1, d2] }
  | _ => none }
def FnExactColorableModuliWrongFalsely : Prop := fnExactColorableModuliRow.holds Try.pinned (OpenSpec.ofChange fnExactColorableModuliWrong)

/-- 'laws.FnExactKnotDeterminant': WHATEVER THE INPUT: true; the input reads as it did. -/
def fnExactKnotDeterminantSpec : ChangeSpec := { name := "fnExactKnotDeterminant", fn := fun _ => fun
  | [d] => { results := [.lit (.bool true)], args := [d] }
  | _ => none }
def fnExactKnotDeterminantRow : OpenClaim := { program := "ytppbogklbhfboaa", sum := "8f42cec896f044fce52e6d10f3245d3dea6390b7346ad6c247f0de09faaa3d94", func := "loop.example/g00870/laws.FnExactKnotDeterminant", spec := "fnExactKnotDeterminant", unfollowed := true, recurses := true, apart := false }
def FnExactKnotDeterminantSaid : Prop := fnExactKnotDeterminantRow.holds Try.pinned (OpenSpec.ofChange fnExactKnotDeterminantSpec)

/-- ITS FALSE NEIGHBOUR: 'it returns false'. Refute it at one input. -/
def fnExactKnotDeterminantWrong : ChangeSpec := { name := "fnExactKnotDeterminant", fn := fun _ => fun
  | [d] => { results := [.lit (.bool false)], args := [d] }
  | _ => none }
def FnExactKnotDeterminantWrongFalsely : Prop := fnExactKnotDeterminantRow.holds Try.pinned (OpenSpec.ofChange fnExactKnotDeterminantWrong)

/-- 'laws.FnExactAlexanderPolynomial': WHATEVER THE INPUT: true; the input reads as it did. -/
def fnExactAlexanderPolynomialSpec : ChangeSpec := { name := "fnExactAlexanderPolynomial", fn := fun _ => fun
  | [d] => { results := [.lit (.bool true)], args := [d] }
  | _ => none }
def fnExactAlexanderPolynomialRow : OpenClaim := { program := "ytppbogklbhfboaa", sum := "8f42cec896f044fce52e6d10f3245d3dea6390b7346ad6c247f0de09faaa3d94", func := "loop.example/g00870/laws.FnExactAlexanderPolynomial", spec := "fnExactAlexanderPolynomial", unfollowed := true, recurses := true, apart := false }
def FnExactAlexanderPolynomialSaid : Prop := fnExactAlexanderPolynomialRow.holds Try.pinned (OpenSpec.ofChange fnExactAlexanderPolynomialSpec)

/-- ITS FALSE NEIGHBOUR: 'it returns false'. Refute it at one input. -/
def fnExactAlexanderPolynomialWrong : ChangeSpec := { name := "fnExactAlexanderPolynomial", fn := fun _ => fun
  | [d] => { results := [.lit (.bool false)], args := [d] }
  | _ => none }
def FnExactAlexanderPolynomialWrongFalsely : Prop := fnExactAlexanderPolynomialRow.holds Try.pinned (OpenSpec.ofChange fnExactAlexanderPolynomialWrong)

/- THE SECOND FORM. 'bulk': how many values and letters a reading holds, each counted each time it is reached (what is shared counts as often as it is met; a slice's spare places count too). A statement '..UptoSaid' is the law's where the arguments, and the package variables that the reading takes, are together of bulk at most 1048576: NARROWER than '..Said'. Prove '..Said' where nothing that the law and all that it calls make is longer than what came in: it says more and counts as full. Else prove '..UptoSaid'. A law counts once. -/
mutual
def uptoBulk {H : Type} : DataW H → Nat
  | .lit (.string bytes) => bytes.length + 1
  | .lit _ => 1
  | .nil => 1
  | .ptr d => uptoBulk d + 1
  | .slice elems spare => uptoBulkAll elems + uptoBulkAll spare + 1
  | .agg parts => uptoBulkAll parts + 1
  | .iface _ d => uptoBulk d + 1
  | .map entries => uptoBulkEntries entries + 1
  | .held _ => 1
def uptoBulkAll {H : Type} : List (DataW H) → Nat
  | [] => 0
  | d :: r => uptoBulk d + uptoBulkAll r
def uptoBulkEntries {H : Type} : List (Lit × DataW H) → Nat
  | [] => 0
  | x :: r => uptoBulkEntry x + uptoBulkEntries r
def uptoBulkEntry {H : Type} : Lit × DataW H → Nat
  | (.string bytes, d) => bytes.length + uptoBulk d + 1
  | (_, d) => uptoBulk d + 1
 end
def uptoSmall : (H : Type) → List (DataW H) → Bool := fun _ ds => decide (uptoBulkAll ds ≤ 1048576)
def OpenSpec.upto (s : _root_.Go.ChangeSpec) : _root_.Go.OpenSpec := { _root_.Go.OpenSpec.ofChange s with cond := some uptoSmall }

/-- 'laws.FnExactGoeritzDeterminant', WHERE WHAT IT READS IS OF BULK AT MOST 1048576: true; the input reads as it did. -/
def fnExactGoeritzDeterminantUptoRow : OpenClaim := { program := "ytppbogklbhfboaa", sum := "8f42cec896f044fce52e6d10f3245d3dea6390b7346ad6c247f0de09faaa3d94", func := "loop.example/g00870/laws.FnExactGoeritzDeterminant", spec := "fnExactGoeritzDeterminant", unfollowed := true, recurses := true, apart := false, narrowed := true }
def FnExactGoeritzDeterminantUptoSaid : Prop := fnExactGoeritzDeterminantUptoRow.holds Try.pinned (OpenSpec.upto fnExactGoeritzDeterminantSpec)

/-- 'laws.FnExactColorableModuli', WHERE WHAT IT READS IS OF BULK AT MOST 1048576: true; the input reads as it did. -/
def fnExactColorableModuliUptoRow : OpenClaim := { program := "ytppbogklbhfboaa", sum := "8f42cec896f044fce52e6d10f3245d3dea6390b7346ad6c247f0de09faaa3d94", func := "loop.example/g00870/laws.FnExactColorableModuli", spec := "fnExactColorableModuli", unfollowed := true, recurses := true, apart := false, narrowed := true }
def FnExactColorableModuliUptoSaid : Prop := fnExactColorableModuliUptoRow.holds Try.pinned (OpenSpec.upto fnExactColorableModuliSpec)

/-- 'laws.FnExactKnotDeterminant', WHERE WHAT IT READS IS OF BULK AT MOST 1048576: true; the input reads as it did. -/
def fnExactKnotDeterminantUptoRow : OpenClaim := { program := "ytppbogklbhfboaa", sum := "8f42cec896f044fce52e6d10f3245d3dea6390b7346ad6c247f0de09faaa3d94", func := "loop.example/g00870/laws.FnExactKnotDeterminant", spec := "fnExactKnotDeterminant", unfollowed := true, recurses := true, apart := false, narrowed := true }
def FnExactKnotDeterminantUptoSaid : Prop := fnExactKnotDeterminantUptoRow.holds Try.pinned (OpenSpec.upto fnExactKnotDeterminantSpec)

/-- 'laws.FnExactAlexanderPolynomial', WHERE WHAT IT READS IS OF BULK AT MOST 1048576: true; the input reads as it did. -/
def fnExactAlexanderPolynomialUptoRow : OpenClaim := { program := "ytppbogklbhfboaa", sum := "8f42cec896f044fce52e6d10f3245d3dea6390b7346ad6c247f0de09faaa3d94", func := "loop.example/g00870/laws.FnExactAlexanderPolynomial", spec := "fnExactAlexanderPolynomial", unfollowed := true, recurses := true, apart := false, narrowed := true }
def FnExactAlexanderPolynomialUptoSaid : Prop := fnExactAlexanderPolynomialUptoRow.holds Try.pinned (OpenSpec.upto fnExactAlexanderPolynomialSpec)

end Rows
end Go.Proofs.Ytppbogklbhfboaa
