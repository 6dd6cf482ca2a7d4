/-
  No cell of these rows narrows 'for every input' (looked for: loops, veiled, ifaces, maps, wideKeys, modest, calm, conditions, laid).
  DERIVED. THE GIVEN ROWS OF THIS SEAT. 10 by the template 'for every input the law returns true; each argument reads behind the call as it read before'; 0 by the template 'total and deterministic' (their statements: YteeahaikelpkpaaTotals.lean).
  GIVEN WITH THE SEED: the statements are not yours to turn. If you find one false, say at which input.
  Laid BY PROGRAM, IN A SANDBOX (cutbox-rows.mjs): the forced cells as the released guide's own fill.sh prints them over the translation 9c8d0069800af7e1… (all of the seat's roots in one cut). By AI agents, Wed Nov 11 2026. No macro, syntax, notation, axiom, sorry.
-/
import Derived.Test.YteeahaikelpkpaaChecked
import GoSem.Claim
import GoSem.ClaimJoined
import GoSem.ClaimMapViews
import Derived.JoinedTies
import Derived.KernelRfl
namespace Go.Proofs.Yteeahaikelpkpaa
/- THE CELL 'sum', in the pinned program and in every row, IS THE sha256 OF THE DUMP (.gsa) THAT YteeahaikelpkpaaProg.lean LOADS. Nothing in Lean hashes anything: it is a label: what it is worth is what the hold of that sum in a sandbox is worth. -/
noncomputable def Try.pinned : Pinned := { name := "yteeahaikelpkpaa", sum := "9c8d0069800af7e1f126a89cf63973414d988d78284fdc7cef772d5d42b5fff9", checked := Try.checked }
namespace Rows
def none {H : Type} : Left H := { results := [], args := [] }

/-- 'laws.FnPermutationWord': WHATEVER THE INPUT: true; the input reads as it did. -/
def fnPermutationWordSpec : ChangeSpec := { name := "fnPermutationWord", fn := fun _ => fun
  | [d] => { results := [.lit (.bool true)], args := [d] }
  | _ => none }
def fnPermutationWordRow : OpenClaim := { program := "yteeahaikelpkpaa", sum := "9c8d0069800af7e1f126a89cf63973414d988d78284fdc7cef772d5d42b5fff9", func := "loop.example/g00870/laws.FnPermutationWord", spec := "fnPermutationWord", unfollowed := true, recurses := true, apart := false }
def FnPermutationWordSaid : Prop := fnPermutationWordRow.holds Try.pinned (OpenSpec.ofChange fnPermutationWordSpec)

/-- ITS FALSE NEIGHBOUR: 'it returns false'. Refute it at one input. -/
def fnPermutationWordWrong : ChangeSpec := { name := "fnPermutationWord", fn := fun _ => fun
  | [d] => { results := [.lit (.bool false)], args := [d] }
  | _ => none }
def FnPermutationWordWrongFalsely : Prop := fnPermutationWordRow.holds Try.pinned (OpenSpec.ofChange fnPermutationWordWrong)

/-- 'laws.FnExactFoxDerivative': WHATEVER THE INPUT: true; the input reads as it did. -/
def fnExactFoxDerivativeSpec : ChangeSpec := { name := "fnExactFoxDerivative", fn := fun _ => fun
  | [d1, d2] => { results := [.lit (.bool true)], args := [d1, d2] }
  | _ => none }
def fnExactFoxDerivativeRow : OpenClaim := { program := "yteeahaikelpkpaa", sum := "9c8d0069800af7e1f126a89cf63973414d988d78284fdc7cef772d5d42b5fff9", func := "loop.example/g00870/laws.FnExactFoxDerivative", spec := "fnExactFoxDerivative", unfollowed := true, recurses := true, apart := false }
def FnExactFoxDerivativeSaid : Prop := fnExactFoxDerivativeRow.holds Try.pinned (OpenSpec.ofChange fnExactFoxDerivativeSpec)

/-- ITS FALSE NEIGHBOUR: 'it returns false'. Refute it at one input. -/
def fnExactFoxDerivativeWrong : ChangeSpec := { name := "fnExactFoxDerivative", fn := fun _ => fun
  | [d1, d2] => { results := [.lit (.bool false)], args := [d1, d2] }
  | _ => none }
def FnExactFoxDerivativeWrongFalsely : Prop := fnExactFoxDerivativeRow.holds Try.pinned (OpenSpec.ofChange fnExactFoxDerivativeWrong)

/-- 'laws.FnFromForm': WHATEVER THE INPUT: true; the input reads as it did. -/
def fnFromFormSpec : ChangeSpec := { name := "fnFromForm", fn := fun _ => fun
  | [d] => { results := [.lit (.bool true)], args := [d] }
  | _ => none }
def fnFromFormRow : OpenClaim := { program := "yteeahaikelpkpaa", sum := "9c8d0069800af7e1f126a89cf63973414d988d78284fdc7cef772d5d42b5fff9", func := "loop.example/g00870/laws.FnFromForm", spec := "fnFromForm", unfollowed := true, recurses := true, apart := false }
def FnFromFormSaid : Prop := fnFromFormRow.holds Try.pinned (OpenSpec.ofChange fnFromFormSpec)

/-- ITS FALSE NEIGHBOUR: 'it returns false'. Refute it at one input. -/
def fnFromFormWrong : ChangeSpec := { name := "fnFromForm", fn := fun _ => fun
  | [d] => { results := [.lit (.bool false)], args := [d] }
  | _ => none }
def FnFromFormWrongFalsely : Prop := fnFromFormRow.holds Try.pinned (OpenSpec.ofChange fnFromFormWrong)

/-- 'laws.FnFox': WHATEVER THE INPUT: true; the input reads as it did. -/
def fnFoxSpec : ChangeSpec := { name := "fnFox", fn := fun _ => fun
  | [d] => { results := [.lit (.bool true)], args := [d] }
  | _ => none }
def fnFoxRow : OpenClaim := { program := "yteeahaikelpkpaa", sum := "9c8d0069800af7e1f126a89cf63973414d988d78284fdc7cef772d5d42b5fff9", func := "loop.example/g00870/laws.FnFox", spec := "fnFox", unfollowed := true, recurses := true, apart := false }
def FnFoxSaid : Prop := fnFoxRow.holds Try.pinned (OpenSpec.ofChange fnFoxSpec)

/-- ITS FALSE NEIGHBOUR: 'it returns false'. Refute it at one input. -/
def fnFoxWrong : ChangeSpec := { name := "fnFox", fn := fun _ => fun
  | [d] => { results := [.lit (.bool false)], args := [d] }
  | _ => none }
def FnFoxWrongFalsely : Prop := fnFoxRow.holds Try.pinned (OpenSpec.ofChange fnFoxWrong)

/-- 'laws.FnExactSymmetricSignature': WHATEVER THE INPUT: true; the input reads as it did. -/
def fnExactSymmetricSignatureSpec : ChangeSpec := { name := "fnExactSymmetricSignature", fn := fun _ => fun
  | [d] => { results := [.lit (.bool true)], args := [d] }
  | _ => none }
def fnExactSymmetricSignatureRow : OpenClaim := { program := "yteeahaikelpkpaa", sum := "9c8d0069800af7e1f126a89cf63973414d988d78284fdc7cef772d5d42b5fff9", func := "loop.example/g00870/laws.FnExactSymmetricSignature", spec := "fnExactSymmetricSignature", unfollowed := true, recurses := true, apart := false }
def FnExactSymmetricSignatureSaid : Prop := fnExactSymmetricSignatureRow.holds Try.pinned (OpenSpec.ofChange fnExactSymmetricSignatureSpec)

/-- ITS FALSE NEIGHBOUR: 'it returns false'. Refute it at one input. -/
def fnExactSymmetricSignatureWrong : ChangeSpec := { name := "fnExactSymmetricSignature", fn := fun _ => fun
  | [d] => { results := [.lit (.bool false)], args := [d] }
  | _ => none }
def FnExactSymmetricSignatureWrongFalsely : Prop := fnExactSymmetricSignatureRow.holds Try.pinned (OpenSpec.ofChange fnExactSymmetricSignatureWrong)

/-- 'laws.FnExactSameBraid': WHATEVER THE INPUT: true; the input reads as it did. -/
def fnExactSameBraidSpec : ChangeSpec := { name := "fnExactSameBraid", fn := fun _ => fun
  | [d1, d2] => { results := [.lit (.bool true)], args := [d1, d2] }
  | _ => none }
def fnExactSameBraidRow : OpenClaim := { program := "yteeahaikelpkpaa", sum := "9c8d0069800af7e1f126a89cf63973414d988d78284fdc7cef772d5d42b5fff9", func := "loop.example/g00870/laws.FnExactSameBraid", spec := "fnExactSameBraid", unfollowed := true, recurses := true, apart := false }
def FnExactSameBraidSaid : Prop := fnExactSameBraidRow.holds Try.pinned (OpenSpec.ofChange fnExactSameBraidSpec)

/-- ITS FALSE NEIGHBOUR: 'it returns false'. Refute it at one input. -/
def fnExactSameBraidWrong : ChangeSpec := { name := "fnExactSameBraid", fn := fun _ => fun
  | [d1, d2] => { results := [.lit (.bool false)], args := [d1, d2] }
  | _ => none }
def FnExactSameBraidWrongFalsely : Prop := fnExactSameBraidRow.holds Try.pinned (OpenSpec.ofChange fnExactSameBraidWrong)

/-- 'laws.FnDirectSum': WHATEVER THE INPUT: true; the input reads as it did. -/
def fnDirectSumSpec : ChangeSpec := { name := "fnDirectSum", fn := fun _ => fun
  | [d] => { results := [.lit (.bool true)], args := [d] }
  | _ => none }
def fnDirectSumRow : OpenClaim := { program := "yteeahaikelpkpaa", sum := "9c8d0069800af7e1f126a89cf63973414d988d78284fdc7cef772d5d42b5fff9", func := "loop.example/g00870/laws.FnDirectSum", spec := "fnDirectSum", unfollowed := true, recurses := true, apart := false }
def FnDirectSumSaid : Prop := fnDirectSumRow.holds Try.pinned (OpenSpec.ofChange fnDirectSumSpec)

/-- ITS FALSE NEIGHBOUR: 'it returns false'. Refute it at one input. -/
def fnDirectSumWrong : ChangeSpec := { name := "fnDirectSum", fn := fun _ => fun
  | [d] => { results := [.lit (.bool false)], args := [d] }
  | _ => none }
def FnDirectSumWrongFalsely : Prop := fnDirectSumRow.holds Try.pinned (OpenSpec.ofChange fnDirectSumWrong)

/-- 'laws.FnClosure': WHATEVER THE INPUT: true; the input reads as it did. -/
def fnClosureSpec : ChangeSpec := { name := "fnClosure", fn := fun _ => fun
  | [d] => { results := [.lit (.bool true)], args := [d] }
  | _ => none }
def fnClosureRow : OpenClaim := { program := "yteeahaikelpkpaa", sum := "9c8d0069800af7e1f126a89cf63973414d988d78284fdc7cef772d5d42b5fff9", func := "loop.example/g00870/laws.FnClosure", spec := "fnClosure", unfollowed := true, recurses := true, apart := false }
def FnClosureSaid : Prop := fnClosureRow.holds Try.pinned (OpenSpec.ofChange fnClosureSpec)

/-- ITS FALSE NEIGHBOUR: 'it returns false'. Refute it at one input. -/
def fnClosureWrong : ChangeSpec := { name := "fnClosure", fn := fun _ => fun
  | [d] => { results := [.lit (.bool false)], args := [d] }
  | _ => none }
def FnClosureWrongFalsely : Prop := fnClosureRow.holds Try.pinned (OpenSpec.ofChange fnClosureWrong)

/-- 'laws.FnExactNormalForm': WHATEVER THE INPUT: true; the input reads as it did. -/
def fnExactNormalFormSpec : ChangeSpec := { name := "fnExactNormalForm", fn := fun _ => fun
  | [d] => { results := [.lit (.bool true)], args := [d] }
  | _ => none }
def fnExactNormalFormRow : OpenClaim := { program := "yteeahaikelpkpaa", sum := "9c8d0069800af7e1f126a89cf63973414d988d78284fdc7cef772d5d42b5fff9", func := "loop.example/g00870/laws.FnExactNormalForm", spec := "fnExactNormalForm", unfollowed := true, recurses := true, apart := false }
def FnExactNormalFormSaid : Prop := fnExactNormalFormRow.holds Try.pinned (OpenSpec.ofChange fnExactNormalFormSpec)

/-- ITS FALSE NEIGHBOUR: 'it returns false'. Refute it at one input. -/
def fnExactNormalFormWrong : ChangeSpec := { name := "fnExactNormalForm", fn := fun _ => fun
  | [d] => { results := [.lit (.bool false)], args := [d] }
  | _ => none }
def FnExactNormalFormWrongFalsely : Prop := fnExactNormalFormRow.holds Try.pinned (OpenSpec.ofChange fnExactNormalFormWrong)

/-- 'laws.FnDeterminant': WHATEVER THE INPUT: true; the input reads as it did. -/
def fnDeterminantSpec : ChangeSpec := { name := "fnDeterminant", fn := fun _ => fun
  | [d] => { results := [.lit (.bool true)], args := [d] }
  | _ => none }
def fnDeterminantRow : OpenClaim := { program := "yteeahaikelpkpaa", sum := "9c8d0069800af7e1f126a89cf63973414d988d78284fdc7cef772d5d42b5fff9", func := "loop.example/g00870/laws.FnDeterminant", spec := "fnDeterminant", unfollowed := true, recurses := true, apart := false }
def FnDeterminantSaid : Prop := fnDeterminantRow.holds Try.pinned (OpenSpec.ofChange fnDeterminantSpec)

/-- ITS FALSE NEIGHBOUR: 'it returns false'. Refute it at one input. -/
def fnDeterminantWrong : ChangeSpec := { name := "fnDeterminant", fn := fun _ => fun
  | [d] => { results := [.lit (.bool false)], args := [d] }
  | _ => none }
def FnDeterminantWrongFalsely : Prop := fnDeterminantRow.holds Try.pinned (OpenSpec.ofChange fnDeterminantWrong)

/- THE SECOND FORM. 'bulk': how many values and letters a reading holds, each counted each time it is reached (what is shared counts as often as it is met; a slice's spare places count too). A statement '..UptoSaid' is the law's where the arguments, and the package variables that the reading takes, are together of bulk at most 1048576: NARROWER than '..Said'. Prove '..Said' where nothing that the law and all that it calls make is longer than what came in: it says more and counts as full. Else prove '..UptoSaid'. A law counts once. -/
mutual
def uptoBulk {H : Type} : DataW H → Nat
  | .lit (.string bytes) => bytes.length + 1
  | .lit _ => 1
  | .nil => 1
  | .ptr d => uptoBulk d + 1
  | .slice elems spare => uptoBulkAll elems + uptoBulkAll spare + 1
  | .agg parts => uptoBulkAll parts + 1
  | .iface _ d => uptoBulk d + 1
  | .map entries => uptoBulkEntries entries + 1
  | .held _ => 1
def uptoBulkAll {H : Type} : List (DataW H) → Nat
  | [] => 0
  | d :: r => uptoBulk d + uptoBulkAll r
def uptoBulkEntries {H : Type} : List (Lit × DataW H) → Nat
  | [] => 0
  | x :: r => uptoBulkEntry x + uptoBulkEntries r
def uptoBulkEntry {H : Type} : Lit × DataW H → Nat
  | (.string bytes, d) => bytes.length + uptoBulk d + 1
  | (_, d) => uptoBulk d + 1
 end
def uptoSmall : (H : Type) → List (DataW H) → Bool := fun _ ds => decide (uptoBulkAll ds ≤ 1048576)
def OpenSpec.upto (s : _root_.Go.ChangeSpec) : _root_.Go.OpenSpec := { _root_.Go.OpenSpec.ofChange s with cond := some uptoSmall }

/-- 'laws.FnPermutationWord', WHERE WHAT IT READS IS OF BULK AT MOST 1048576: true; the input reads as it did. -/
def fnPermutationWordUptoRow : OpenClaim := { program := "yteeahaikelpkpaa", sum := "9c8d0069800af7e1f126a89cf63973414d988d78284fdc7cef772d5d42b5fff9", func := "loop.example/g00870/laws.FnPermutationWord", spec := "fnPermutationWord", unfollowed := true, recurses := true, apart := false, narrowed := true }
def FnPermutationWordUptoSaid : Prop := fnPermutationWordUptoRow.holds Try.pinned (OpenSpec.upto fnPermutationWordSpec)

/-- 'laws.FnExactFoxDerivative', WHERE WHAT IT READS IS OF BULK AT MOST 1048576: true; the input reads as it did. -/
def fnExactFoxDerivativeUptoRow : OpenClaim := { program := "yteeahaikelpkpaa", sum := "9c8d0069800af7e1f126a89cf63973414d988d78284fdc7cef772d5d42b5fff9", func := "loop.example/g00870/laws.FnExactFoxDerivative", spec := "fnExactFoxDerivative", unfollowed := true, recurses := true, apart := false, narrowed := true }
def FnExactFoxDerivativeUptoSaid : Prop := fnExactFoxDerivativeUptoRow.holds Try.pinned (OpenSpec.upto fnExactFoxDerivativeSpec)

/-- 'laws.FnFromForm', WHERE WHAT IT READS IS OF BULK AT MOST 1048576: true; the input reads as it did. -/
def fnFromFormUptoRow : OpenClaim := { program := "yteeahaikelpkpaa", sum := "9c8d0069800af7e1f126a89cf63973414d988d78284fdc7cef772d5d42b5fff9", func := "loop.example/g00870/laws.FnFromForm", spec := "fnFromForm", unfollowed := true, recurses := true, apart := false, narrowed := true }
def FnFromFormUptoSaid : Prop := fnFromFormUptoRow.holds Try.pinned (OpenSpec.upto fnFromFormSpec)

/-- 'laws.FnFox', WHERE WHAT IT READS IS OF BULK AT MOST 1048576: true; the input reads as it did. -/
def fnFoxUptoRow : OpenClaim := { program := "yteeahaikelpkpaa", sum := "9c8d0069800af7e1f126a89cf63973414d988d78284fdc7cef772d5d42b5fff9", func := "loop.example/g00870/laws.FnFox", spec := "fnFox", unfollowed := true, recurses := true, apart := false, narrowed := true }
def FnFoxUptoSaid : Prop := fnFoxUptoRow.holds Try.pinned (OpenSpec.upto fnFoxSpec)

/-- 'laws.FnExactSymmetricSignature', WHERE WHAT IT READS IS OF BULK AT MOST 1048576: true; the input reads as it did. -/
def fnExactSymmetricSignatureUptoRow : OpenClaim := { program := "yteeahaikelpkpaa", sum := "9c8d0069800af7e1f126a89cf63973414d988d78284fdc7cef772d5d42b5fff9", func := "loop.example/g00870/laws.FnExactSymmetricSignature", spec := "fnExactSymmetricSignature", unfollowed := true, recurses := true, apart := false, narrowed := true }
def FnExactSymmetricSignatureUptoSaid : Prop := fnExactSymmetricSignatureUptoRow.holds Try.pinned (OpenSpec.upto fnExactSymmetricSignatureSpec)

/-- 'laws.FnExactSameBraid', WHERE WHAT IT READS IS OF BULK AT MOST 1048576: true; the input reads as it did. -/
def fnExactSameBraidUptoRow : OpenClaim := { program := "yteeahaikelpkpaa", sum := "9c8d0069800af7e1f126a89cf63973414d988d78284fdc7cef772d5d42b5fff9", func := "loop.example/g00870/laws.FnExactSameBraid", spec := "fnExactSameBraid", unfollowed := true, recurses := true, apart := false, narrowed := true }
def FnExactSameBraidUptoSaid : Prop := fnExactSameBraidUptoRow.holds Try.pinned (OpenSpec.upto fnExactSameBraidSpec)

/-- 'laws.FnDirectSum', WHERE WHAT IT READS IS OF BULK AT MOST 1048576: true; the input reads as it did. -/
def fnDirectSumUptoRow : OpenClaim := { program := "yteeahaikelpkpaa", sum := "9c8d0069800af7e1f126a89cf63973414d988d78284fdc7cef772d5d42b5fff9", func := "loop.example/g00870/laws.FnDirectSum", spec := "fnDirectSum", unfollowed := true, recurses := true, apart := false, narrowed := true }
def FnDirectSumUptoSaid : Prop := fnDirectSumUptoRow.holds Try.pinned (OpenSpec.upto fnDirectSumSpec)

/-- 'laws.FnClosure', WHERE WHAT IT READS IS OF BULK AT MOST 1048576: true; the input reads as it did. -/
def fnClosureUptoRow : OpenClaim := { program := "yteeahaikelpkpaa", sum := "9c8d0069800af7e1f126a89cf63973414d988d78284fdc7cef772d5d42b5fff9", func := "loop.example/g00870/laws.FnClosure", spec := "fnClosure", unfollowed := true, recurses := true, apart := false, narrowed := true }
def FnClosureUptoSaid : Prop := fnClosureUptoRow.holds Try.pinned (OpenSpec.upto fnClosureSpec)

/-- 'laws.FnExactNormalForm', WHERE WHAT IT READS IS OF BULK AT MOST 1048576: true; the input reads as it did. -/
def fnExactNormalFormUptoRow : OpenClaim := { program := "yteeahaikelpkpaa", sum := "9c8d0069800af7e1f126a89cf63973414d988d78284fdc7cef772d5d42b5fff9", func := "loop.example/g00870/laws.FnExactNormalForm", spec := "fnExactNormalForm", unfollowed := true, recurses := true, apart := false, narrowed := true }
def FnExactNormalFormUptoSaid : Prop := fnExactNormalFormUptoRow.holds Try.pinned (OpenSpec.upto fnExactNormalFormSpec)

/-- 'laws.FnDeterminant', WHERE WHAT IT READS IS OF BULK AT MOST 1048576: true; the input reads as it did. -/
def fnDeterminantUptoRow : OpenClaim := { program := "yteeahaikelpkpaa", sum := "9c8d0069800af7e1f126a89cf63973414d988d78284fdc7cef772d5d42b5fff9", func := "loop.example/g00870/laws.FnDeterminant", spec := "fnDeterminant", unfollowed := true, recurses := true, apart := false, narrowed := true }
def FnDeterminantUptoSaid : Prop := fnDeterminantUptoRow.holds Try.pinned (OpenSpec.upto fnDeterminantSpec)

end Rows
end Go.Proofs.Yteeahaikelpkpaa
