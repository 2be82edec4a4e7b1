/-
  No cell of these rows narrows 'for every input' (looked for: loops, veiled, ifaces, maps, wideKeys, modest, calm, conditions, laid).
  DERIVED. THE GIVEN ROWS OF THIS SEAT. 11 by the template 'for every input the law returns true; each argument reads behind the call as it read before'; 0 by the template 'total and deterministic' (their statements: YtojjkghallginaaTotals.lean).
  GIVEN WITH THE SEED: the statements are not yours to turn. If you find one false, say at which input.
  Laid BY PROGRAM, IN A SANDBOX (cutbox-rows.mjs): the forced cells as the released guide's own fill.sh prints them over the translation cc72befccbeb0d4d… (all of the seat's roots in one cut). By AI agents, Wed Nov 11 2026. No macro, syntax, notation, axiom, sorry.
-/
import Derived.Test.YtojjkghallginaaChecked
import GoSem.Claim
import GoSem.ClaimJoined
import GoSem.ClaimMapViews
import Derived.JoinedTies
import Derived.KernelRfl
namespace Go.Proofs.Ytojjkghallginaa
/- THE CELL 'sum', in the pinned program and in every row, IS THE sha256 OF THE DUMP (.gsa) THAT YtojjkghallginaaProg.lean LOADS. Nothing in Lean hashes anything: it is a label: what it is worth is what the hold of that sum in a sandbox is worth. -/
noncomputable def Try.pinned : Pinned := { name := "ytojjkghallginaa", sum := "cc72befccbeb0d4d7307fa35960cb194483b4fe705059fabc8d9981f3fed1b6a", checked := Try.checked }
namespace Rows
def none {H : Type} : Left H := { results := [], args := [] }

/-- 'laws.FnExactConstants': WHATEVER THE INPUT: true; the input reads as it did. -/
def fnExactConstantsSpec : ChangeSpec := { name := "fnExactConstants", fn := fun _ => fun
  | [] => { results := [.lit (.bool true)], args := [] }
  | _ => none }
def fnExactConstantsRow : OpenClaim := { program := "ytojjkghallginaa", sum := "cc72befccbeb0d4d7307fa35960cb194483b4fe705059fabc8d9981f3fed1b6a", func := "loop.example/g03115/laws.FnExactConstants", spec := "fnExactConstants", apart := false }
def FnExactConstantsSaid : Prop := fnExactConstantsRow.holds Try.pinned (OpenSpec.ofChange fnExactConstantsSpec)

/-- ITS FALSE NEIGHBOUR: 'it returns false'. Refute it at one input. -/
def fnExactConstantsWrong : ChangeSpec := { name := "fnExactConstants", fn := fun _ => fun
  | [] => { results := [.lit (.bool false)], args := [] }
  | _ => none }
def FnExactConstantsWrongFalsely : Prop := fnExactConstantsRow.holds Try.pinned (OpenSpec.ofChange fnExactConstantsWrong)

/-- 'laws.FnExactConstantLaurent': WHATEVER THE INPUT: true; the input reads as it did. -/
def fnExactConstantLaurentSpec : ChangeSpec := { name := "fnExactConstantLaurent", fn := fun _ => fun
  | [d1, d2] => { results := [.lit (.bool true)], args := [d1, d2] }
  | _ => none }
def fnExactConstantLaurentRow : OpenClaim := { program := "ytojjkghallginaa", sum := "cc72befccbeb0d4d7307fa35960cb194483b4fe705059fabc8d9981f3fed1b6a", func := "loop.example/g03115/laws.FnExactConstantLaurent", spec := "fnExactConstantLaurent", apart := false }
def FnExactConstantLaurentSaid : Prop := fnExactConstantLaurentRow.holds Try.pinned (OpenSpec.ofChange fnExactConstantLaurentSpec)

/-- ITS FALSE NEIGHBOUR: 'it returns false'. Refute it at one input. -/
def fnExactConstantLaurentWrong : ChangeSpec := { name := "fnExactConstantLaurent", fn := fun _ => fun
  | [d1, d2] => { results := [.lit (.bool false)], args := [d1, d2] }
  | _ => none }
def FnExactConstantLaurentWrongFalsely : Prop := fnExactConstantLaurentRow.holds Try.pinned (OpenSpec.ofChange fnExactConstantLaurentWrong)

/-- 'laws.FnExactMonomialLaurent': WHATEVER THE INPUT: true; the input reads as it did. -/
def fnExactMonomialLaurentSpec : ChangeSpec := { name := "fnExactMonomialLaurent", fn := fun _ => fun
  | [d] => { results := [.lit (.bool true)], args := [d] }
  | _ => none }
def fnExactMonomialLaurentRow : OpenClaim := { program := "ytojjkghallginaa", sum := "cc72befccbeb0d4d7307fa35960cb194483b4fe705059fabc8d9981f3fed1b6a", func := "loop.example/g03115/laws.FnExactMonomialLaurent", spec := "fnExactMonomialLaurent", unfollowed := true, recurses := true, apart := false }
def FnExactMonomialLaurentSaid : Prop := fnExactMonomialLaurentRow.holds Try.pinned (OpenSpec.ofChange fnExactMonomialLaurentSpec)

/-- ITS FALSE NEIGHBOUR: 'it returns false'. Refute it at one input. -/
def fnExactMonomialLaurentWrong : ChangeSpec := { name := "fnExactMonomialLaurent", fn := fun _ => fun
  | [d] => { results := [.lit (.bool false)], args := [d] }
  | _ => none }
def FnExactMonomialLaurentWrongFalsely : Prop := fnExactMonomialLaurentRow.holds Try.pinned (OpenSpec.ofChange fnExactMonomialLaurentWrong)

/-- 'laws.FnExactLaurentOk': WHATEVER THE INPUT: true; the input reads as it did. -/
def fnExactLaurentOkSpec : ChangeSpec := { name := "fnExactLaurentOk", fn := fun _ => fun
  | [d] => { results := [.lit (.bool true)], args := [d] }
  | _ => none }
def fnExactLaurentOkRow : OpenClaim := { program := "ytojjkghallginaa", sum := "cc72befccbeb0d4d7307fa35960cb194483b4fe705059fabc8d9981f3fed1b6a", func := "loop.example/g03115/laws.FnExactLaurentOk", spec := "fnExactLaurentOk", unfollowed := true, recurses := true, apart := false }
def FnExactLaurentOkSaid : Prop := fnExactLaurentOkRow.holds Try.pinned (OpenSpec.ofChange fnExactLaurentOkSpec)

/-- ITS FALSE NEIGHBOUR: 'it returns false'. Refute it at one input. -/
def fnExactLaurentOkWrong : ChangeSpec := { name := "fnExactLaurentOk", fn := fun _ => fun
  | [d] => { results := [.lit (.bool false)], args := [d] }
  | _ => none }
def FnExactLaurentOkWrongFalsely : Prop := fnExactLaurentOkRow.holds Try.pinned (OpenSpec.ofChange fnExactLaurentOkWrong)

/-- 'laws.FnExactIsPositive': WHATEVER THE INPUT: true; the input reads as it did. -/
def fnExactIsPositiveSpec : ChangeSpec := { name := "fnExactIsPositive", fn := fun _ => fun
  | [d] => { results := [.lit (.bool true)], args := [d] }
  | _ => none }
def fnExactIsPositiveRow : OpenClaim := { program := "ytojjkghallginaa", sum := "cc72befccbeb0d4d7307fa35960cb194483b4fe705059fabc8d9981f3fed1b6a", func := "loop.example/g03115/laws.FnExactIsPositive", spec := "fnExactIsPositive", unfollowed := true, recurses := true, apart := false }
def FnExactIsPositiveSaid : Prop := fnExactIsPositiveRow.holds Try.pinned (OpenSpec.ofChange fnExactIsPositiveSpec)

/-- ITS FALSE NEIGHBOUR: 'it returns false'. Refute it at one input. -/
def fnExactIsPositiveWrong : ChangeSpec := { name := "fnExactIsPositive", fn := fun _ => fun
  | [d] => { results := [.lit (.bool false)], args := [d] }
  | _ => none }
def FnExactIsPositiveWrongFalsely : Prop := fnExactIsPositiveRow.holds Try.pinned (OpenSpec.ofChange fnExactIsPositiveWrong)

/-- 'laws.FnExactMatrixOk': WHATEVER THE INPUT: true; the input reads as it did. -/
def fnExactMatrixOkSpec : ChangeSpec := { name := "fnExactMatrixOk", fn := fun _ => fun
  | [d] => { results := [.lit (.bool true)], args := [d] }
  | _ => none }
def fnExactMatrixOkRow : OpenClaim := { program := "ytojjkghallginaa", sum := "cc72befccbeb0d4d7307fa35960cb194483b4fe705059fabc8d9981f3fed1b6a", func := "loop.example/g03115/laws.FnExactMatrixOk", spec := "fnExactMatrixOk", unfollowed := true, recurses := true, apart := false }
def FnExactMatrixOkSaid : Prop := fnExactMatrixOkRow.holds Try.pinned (OpenSpec.ofChange fnExactMatrixOkSpec)

/-- ITS FALSE NEIGHBOUR: 'it returns false'. Refute it at one input. -/
def fnExactMatrixOkWrong : ChangeSpec := { name := "fnExactMatrixOk", fn := fun _ => fun
  | [d] => { results := [.lit (.bool false)], args := [d] }
  | _ => none }
def FnExactMatrixOkWrongFalsely : Prop := fnExactMatrixOkRow.holds Try.pinned (OpenSpec.ofChange fnExactMatrixOkWrong)

/-- 'laws.FnExactSymmetrizerOf': WHATEVER THE INPUT: true; the input reads as it did. -/
def fnExactSymmetrizerOfSpec : ChangeSpec := { name := "fnExactSymmetrizerOf", fn := fun _ => fun
  | [d] => { results := [.lit (.bool true)], args := [d] }
  | _ => none }
def fnExactSymmetrizerOfRow : OpenClaim := { program := "ytojjkghallginaa", sum := "cc72befccbeb0d4d7307fa35960cb194483b4fe705059fabc8d9981f3fed1b6a", func := "loop.example/g03115/laws.FnExactSymmetrizerOf", spec := "fnExactSymmetrizerOf", unfollowed := true, recurses := true, apart := false }
def FnExactSymmetrizerOfSaid : Prop := fnExactSymmetrizerOfRow.holds Try.pinned (OpenSpec.ofChange fnExactSymmetrizerOfSpec)

/-- ITS FALSE NEIGHBOUR: 'it returns false'. Refute it at one input. -/
def fnExactSymmetrizerOfWrong : ChangeSpec := { name := "fnExactSymmetrizerOf", fn := fun _ => fun
  | [d] => { results := [.lit (.bool false)], args := [d] }
  | _ => none }
def FnExactSymmetrizerOfWrongFalsely : Prop := fnExactSymmetrizerOfRow.holds Try.pinned (OpenSpec.ofChange fnExactSymmetrizerOfWrong)

/-- 'laws.FnExactIsAcyclic': WHATEVER THE INPUT: true; the input reads as it did. -/
def fnExactIsAcyclicSpec : ChangeSpec := { name := "fnExactIsAcyclic", fn := fun _ => fun
  | [d] => { results := [.lit (.bool true)], args := [d] }
  | _ => none }
def fnExactIsAcyclicRow : OpenClaim := { program := "ytojjkghallginaa", sum := "cc72befccbeb0d4d7307fa35960cb194483b4fe705059fabc8d9981f3fed1b6a", func := "loop.example/g03115/laws.FnExactIsAcyclic", spec := "fnExactIsAcyclic", unfollowed := true, recurses := true, apart := false }
def FnExactIsAcyclicSaid : Prop := fnExactIsAcyclicRow.holds Try.pinned (OpenSpec.ofChange fnExactIsAcyclicSpec)

/-- ITS FALSE NEIGHBOUR: 'it returns false'. Refute it at one input. -/
def fnExactIsAcyclicWrong : ChangeSpec := { name := "fnExactIsAcyclic", fn := fun _ => fun
  | [d] => { results := [.lit (.bool false)], args := [d] }
  | _ => none }
def FnExactIsAcyclicWrongFalsely : Prop := fnExactIsAcyclicRow.holds Try.pinned (OpenSpec.ofChange fnExactIsAcyclicWrong)

/-- 'laws.FnExactDenominatorOf': WHATEVER THE INPUT: true; the input reads as it did. -/
def fnExactDenominatorOfSpec : ChangeSpec := { name := "fnExactDenominatorOf", fn := fun _ => fun
  | [d] => { results := [.lit (.bool true)], args := [d] }
  | _ => none }
def fnExactDenominatorOfRow : OpenClaim := { program := "ytojjkghallginaa", sum := "cc72befccbeb0d4d7307fa35960cb194483b4fe705059fabc8d9981f3fed1b6a", func := "loop.example/g03115/laws.FnExactDenominatorOf", spec := "fnExactDenominatorOf", unfollowed := true, recurses := true, apart := false }
def FnExactDenominatorOfSaid : Prop := fnExactDenominatorOfRow.holds Try.pinned (OpenSpec.ofChange fnExactDenominatorOfSpec)

/-- ITS FALSE NEIGHBOUR: 'it returns false'. Refute it at one input. -/
def fnExactDenominatorOfWrong : ChangeSpec := { name := "fnExactDenominatorOf", fn := fun _ => fun
  | [d] => { results := [.lit (.bool false)], args := [d] }
  | _ => none }
def FnExactDenominatorOfWrongFalsely : Prop := fnExactDenominatorOfRow.holds Try.pinned (OpenSpec.ofChange fnExactDenominatorOfWrong)

/-- 'laws.FnExactSquareOf': WHATEVER THE INPUT: true; the input reads as it did. -/
def fnExactSquareOfSpec : ChangeSpec := { name := "fnExactSquareOf", fn := fun _ => fun
  | [d] => { results := [.lit (.bool true)], args := [d] }
  | _ => none }
def fnExactSquareOfRow : OpenClaim := { program := "ytojjkghallginaa", sum := "cc72befccbeb0d4d7307fa35960cb194483b4fe705059fabc8d9981f3fed1b6a", func := "loop.example/g03115/laws.FnExactSquareOf", spec := "fnExactSquareOf", unfollowed := true, recurses := true, apart := false }
def FnExactSquareOfSaid : Prop := fnExactSquareOfRow.holds Try.pinned (OpenSpec.ofChange fnExactSquareOfSpec)

/-- ITS FALSE NEIGHBOUR: 'it returns false'. Refute it at one input. -/
def fnExactSquareOfWrong : ChangeSpec := { name := "fnExactSquareOf", fn := fun _ => fun
  | [d] => { results := [.lit (.bool false)], args := [d] }
  | _ => none }
def FnExactSquareOfWrongFalsely : Prop := fnExactSquareOfRow.holds Try.pinned (OpenSpec.ofChange fnExactSquareOfWrong)

/-- 'laws.FnExactEvaluateLaurent': WHATEVER THE INPUT: true; the input reads as it did. -/
def fnExactEvaluateLaurentSpec : ChangeSpec := { name := "fnExactEvaluateLaurent", fn := fun _ => fun
  | [d1, d2] => { results := [.lit (.bool true)], args := [d1, d2] }
  | _ => none }
def fnExactEvaluateLaurentRow : OpenClaim := { program := "ytojjkghallginaa", sum := "cc72befccbeb0d4d7307fa35960cb194483b4fe705059fabc8d9981f3fed1b6a", func := "loop.example/g03115/laws.FnExactEvaluateLaurent", spec := "fnExactEvaluateLaurent", unfollowed := true, recurses := true, apart := false }
def FnExactEvaluateLaurentSaid : Prop := fnExactEvaluateLaurentRow.holds Try.pinned (OpenSpec.ofChange fnExactEvaluateLaurentSpec)

/-- ITS FALSE NEIGHBOUR: 'it returns false'. Refute it at one input. -/
def fnExactEvaluateLaurentWrong : ChangeSpec := { name := "fnExactEvaluateLaurent", fn := fun _ => fun
  | [d1, d2] => { results := [.lit (.bool false)], args := [d1, d2] }
  | _ => none }
def FnExactEvaluateLaurentWrongFalsely : Prop := fnExactEvaluateLaurentRow.holds Try.pinned (OpenSpec.ofChange fnExactEvaluateLaurentWrong)

/- THE SECOND FORM. 'bulk': how many values and letters a reading holds, each counted each time it is reached (what is shared counts as often as it is met; a slice's spare places count too). A statement '..UptoSaid' is the law's where the arguments, and the package variables that the reading takes, are together of bulk at most 1048576: NARROWER than '..Said'. Prove '..Said' where nothing that the law and all that it calls make is longer than what came in: it says more and counts as full. Else prove '..UptoSaid'. A law counts once. -/
mutual
def uptoBulk {H : Type} : DataW H → Nat
  | .lit (.string bytes) => bytes.length + 1
  | .lit _ => 1
  | .nil => 1
  | .ptr d => uptoBulk d + 1
  | .slice elems spare => uptoBulkAll elems + uptoBulkAll spare + 1
  | .agg parts => uptoBulkAll parts + 1
  | .iface _ d => uptoBulk d + 1
  | .map entries => uptoBulkEntries entries + 1
  | .held _ => 1
def uptoBulkAll {H : Type} : List (DataW H) → Nat
  | [] => 0
  | d :: r => uptoBulk d + uptoBulkAll r
def uptoBulkEntries {H : Type} : List (Lit × DataW H) → Nat
  | [] => 0
  | x :: r => uptoBulkEntry x + uptoBulkEntries r
def uptoBulkEntry {H : Type} : Lit × DataW H → Nat
  | (.string bytes, d) => bytes.length + uptoBulk d + 1
  | (_, d) => uptoBulk d + 1
 end
def uptoSmall : (H : Type) → List (DataW H) → Bool := fun _ ds => decide (uptoBulkAll ds ≤ 1048576)
def OpenSpec.upto (s : _root_.Go.ChangeSpec) : _root_.Go.OpenSpec := { _root_.Go.OpenSpec.ofChange s with cond := some uptoSmall }

/-- 'laws.FnExactConstants', WHERE WHAT IT READS IS OF BULK AT MOST 1048576: true; the input reads as it did. -/
def fnExactConstantsUptoRow : OpenClaim := { program := "ytojjkghallginaa", sum := "cc72befccbeb0d4d7307fa35960cb194483b4fe705059fabc8d9981f3fed1b6a", func := "loop.example/g03115/laws.FnExactConstants", spec := "fnExactConstants", apart := false, narrowed := true }
def FnExactConstantsUptoSaid : Prop := fnExactConstantsUptoRow.holds Try.pinned (OpenSpec.upto fnExactConstantsSpec)

/-- 'laws.FnExactConstantLaurent', WHERE WHAT IT READS IS OF BULK AT MOST 1048576: true; the input reads as it did. -/
def fnExactConstantLaurentUptoRow : OpenClaim := { program := "ytojjkghallginaa", sum := "cc72befccbeb0d4d7307fa35960cb194483b4fe705059fabc8d9981f3fed1b6a", func := "loop.example/g03115/laws.FnExactConstantLaurent", spec := "fnExactConstantLaurent", apart := false, narrowed := true }
def FnExactConstantLaurentUptoSaid : Prop := fnExactConstantLaurentUptoRow.holds Try.pinned (OpenSpec.upto fnExactConstantLaurentSpec)

/-- 'laws.FnExactMonomialLaurent', WHERE WHAT IT READS IS OF BULK AT MOST 1048576: true; the input reads as it did. -/
def fnExactMonomialLaurentUptoRow : OpenClaim := { program := "ytojjkghallginaa", sum := "cc72befccbeb0d4d7307fa35960cb194483b4fe705059fabc8d9981f3fed1b6a", func := "loop.example/g03115/laws.FnExactMonomialLaurent", spec := "fnExactMonomialLaurent", unfollowed := true, recurses := true, apart := false, narrowed := true }
def FnExactMonomialLaurentUptoSaid : Prop := fnExactMonomialLaurentUptoRow.holds Try.pinned (OpenSpec.upto fnExactMonomialLaurentSpec)

/-- 'laws.FnExactLaurentOk', WHERE WHAT IT READS IS OF BULK AT MOST 1048576: true; the input reads as it did. -/
def fnExactLaurentOkUptoRow : OpenClaim := { program := "ytojjkghallginaa", sum := "cc72befccbeb0d4d7307fa35960cb194483b4fe705059fabc8d9981f3fed1b6a", func := "loop.example/g03115/laws.FnExactLaurentOk", spec := "fnExactLaurentOk", unfollowed := true, recurses := true, apart := false, narrowed := true }
def FnExactLaurentOkUptoSaid : Prop := fnExactLaurentOkUptoRow.holds Try.pinned (OpenSpec.upto fnExactLaurentOkSpec)

/-- 'laws.FnExactIsPositive', WHERE WHAT IT READS IS OF BULK AT MOST 1048576: true; the input reads as it did. -/
def fnExactIsPositiveUptoRow : OpenClaim := { program := "ytojjkghallginaa", sum := "cc72befccbeb0d4d7307fa35960cb194483b4fe705059fabc8d9981f3fed1b6a", func := "loop.example/g03115/laws.FnExactIsPositive", spec := "fnExactIsPositive", unfollowed := true, recurses := true, apart := false, narrowed := true }
def FnExactIsPositiveUptoSaid : Prop := fnExactIsPositiveUptoRow.holds Try.pinned (OpenSpec.upto fnExactIsPositiveSpec)

/-- 'laws.FnExactMatrixOk', WHERE WHAT IT READS IS OF BULK AT MOST 1048576: true; the input reads as it did. -/
def fnExactMatrixOkUptoRow : OpenClaim := { program := "ytojjkghallginaa", sum := "cc72befccbeb0d4d7307fa35960cb194483b4fe705059fabc8d9981f3fed1b6a", func := "loop.example/g03115/laws.FnExactMatrixOk", spec := "fnExactMatrixOk", unfollowed := true, recurses := true, apart := false, narrowed := true }
def FnExactMatrixOkUptoSaid : Prop := fnExactMatrixOkUptoRow.holds Try.pinned (OpenSpec.upto fnExactMatrixOkSpec)

/-- 'laws.FnExactSymmetrizerOf', WHERE WHAT IT READS IS OF BULK AT MOST 1048576: true; the input reads as it did. -/
def fnExactSymmetrizerOfUptoRow : OpenClaim := { program := "ytojjkghallginaa", sum := "cc72befccbeb0d4d7307fa35960cb194483b4fe705059fabc8d9981f3fed1b6a", func := "loop.example/g03115/laws.FnExactSymmetrizerOf", spec := "fnExactSymmetrizerOf", unfollowed := true, recurses := true, apart := false, narrowed := true }
def FnExactSymmetrizerOfUptoSaid : Prop := fnExactSymmetrizerOfUptoRow.holds Try.pinned (OpenSpec.upto fnExactSymmetrizerOfSpec)

/-- 'laws.FnExactIsAcyclic', WHERE WHAT IT READS IS OF BULK AT MOST 1048576: true; the input reads as it did. -/
def fnExactIsAcyclicUptoRow : OpenClaim := { program := "ytojjkghallginaa", sum := "cc72befccbeb0d4d7307fa35960cb194483b4fe705059fabc8d9981f3fed1b6a", func := "loop.example/g03115/laws.FnExactIsAcyclic", spec := "fnExactIsAcyclic", unfollowed := true, recurses := true, apart := false, narrowed := true }
def FnExactIsAcyclicUptoSaid : Prop := fnExactIsAcyclicUptoRow.holds Try.pinned (OpenSpec.upto fnExactIsAcyclicSpec)

/-- 'laws.FnExactDenominatorOf', WHERE WHAT IT READS IS OF BULK AT MOST 1048576: true; the input reads as it did. -/
def fnExactDenominatorOfUptoRow : OpenClaim := { program := "ytojjkghallginaa", sum := "cc72befccbeb0d4d7307fa35960cb194483b4fe705059fabc8d9981f3fed1b6a", func := "loop.example/g03115/laws.FnExactDenominatorOf", spec := "fnExactDenominatorOf", unfollowed := true, recurses := true, apart := false, narrowed := true }
def FnExactDenominatorOfUptoSaid : Prop := fnExactDenominatorOfUptoRow.holds Try.pinned (OpenSpec.upto fnExactDenominatorOfSpec)

/-- 'laws.FnExactSquareOf', WHERE WHAT IT READS IS OF BULK AT MOST 1048576: true; the input reads as it did. -/
def fnExactSquareOfUptoRow : OpenClaim := { program := "ytojjkghallginaa", sum := "cc72befccbeb0d4d7307fa35960cb194483b4fe705059fabc8d9981f3fed1b6a", func := "loop.example/g03115/laws.FnExactSquareOf", spec := "fnExactSquareOf", unfollowed := true, recurses := true, apart := false, narrowed := true }
def FnExactSquareOfUptoSaid : Prop := fnExactSquareOfUptoRow.holds Try.pinned (OpenSpec.upto fnExactSquareOfSpec)

/-- 'laws.FnExactEvaluateLaurent', WHERE WHAT IT READS IS OF BULK AT MOST 1048576: true; the input reads as it did. -/
def fnExactEvaluateLaurentUptoRow : OpenClaim := { program := "ytojjkghallginaa", sum := "cc72befccbeb0d4d7307fa35960cb194483b4fe705059fabc8d9981f3fed1b6a", func := "loop.example/g03115/laws.FnExactEvaluateLaurent", spec := "fnExactEvaluateLaurent", unfollowed := true, recurses := true, apart := false, narrowed := true }
def FnExactEvaluateLaurentUptoSaid : Prop := fnExactEvaluateLaurentUptoRow.holds Try.pinned (OpenSpec.upto fnExactEvaluateLaurentSpec)

end Rows
end Go.Proofs.Ytojjkghallginaa
