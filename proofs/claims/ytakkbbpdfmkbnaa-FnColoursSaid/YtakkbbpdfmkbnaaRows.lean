/-
  No cell of these rows narrows 'for every input' (looked for: loops, veiled, ifaces, maps, wideKeys, modest, calm, conditions, laid).
  DERIVED. THE GIVEN ROWS OF THIS SEAT. 10 by the template 'for every input the law returns true; each argument reads behind the call as it read before'; 0 by the template 'total and deterministic' (their statements: YtakkbbpdfmkbnaaTotals.lean).
  GIVEN WITH THE SEED: the statements are not yours to turn. If you find one false, say at which input.
  Laid BY PROGRAM, IN A SANDBOX (cutbox-rows.mjs): the forced cells as the released guide's own fill.sh prints them over the translation 20290e1b4e062c60… (all of the seat's roots in one cut). By AI agents, Wed Nov 11 2026. No macro, syntax, notation, axiom, sorry.
-/
import Derived.Test.YtakkbbpdfmkbnaaChecked
import GoSem.Claim
import GoSem.ClaimJoined
import GoSem.ClaimMapViews
import Derived.JoinedTies
import Derived.KernelRfl
namespace Go.Proofs.Ytakkbbpdfmkbnaa
/- THE CELL 'sum', in the pinned program and in every row, IS THE sha256 OF THE DUMP (.gsa) THAT YtakkbbpdfmkbnaaProg.lean LOADS. Nothing in Lean hashes anything: it is a label: what it is worth is what the hold of that sum in a sandbox is worth. -/
noncomputable def Try.pinned : Pinned := { name := "ytakkbbpdfmkbnaa", sum := "20290e1b4e062c6037f7b8c154527d67d97d27a32f5f090284d2d84ae4921289", checked := Try.checked }
namespace Rows
def none {H : Type} : Left H := { results := [], args := [] }

/-- 'laws.FnColours': WHATEVER THE INPUT: true; the input reads as it did. -/
def fnColoursSpec : ChangeSpec := { name := "fnColours", fn := fun _ => fun
  | [d] => { results := [.lit (.bool true)], args := [d] }
  | _ => none }
def fnColoursRow : OpenClaim := { program := "ytakkbbpdfmkbnaa", sum := "20290e1b4e062c6037f7b8c154527d67d97d27a32f5f090284d2d84ae4921289", func := "loop.example/g03115/laws.FnColours", spec := "fnColours", unfollowed := true, recurses := true, apart := false }
def FnColoursSaid : Prop := fnColoursRow.holds Try.pinned (OpenSpec.ofChange fnColoursSpec)

/-- ITS FALSE NEIGHBOUR: 'it returns false'. Refute it at one input. -/
def fnColoursWrong : ChangeSpec := { name := "fnColours", fn := fun _ => fun
  | [d] => { results := [.lit (.bool false)], args := [d] }
  | _ => none }
def FnColoursWrongFalsely : Prop := fnColoursRow.holds Try.pinned (OpenSpec.ofChange fnColoursWrong)

/-- 'laws.FnGreen': WHATEVER THE INPUT: true; the input reads as it did. -/
def fnGreenSpec : ChangeSpec := { name := "fnGreen", fn := fun _ => fun
  | [d] => { results := [.lit (.bool true)], args := [d] }
  | _ => none }
def fnGreenRow : OpenClaim := { program := "ytakkbbpdfmkbnaa", sum := "20290e1b4e062c6037f7b8c154527d67d97d27a32f5f090284d2d84ae4921289", func := "loop.example/g03115/laws.FnGreen", spec := "fnGreen", unfollowed := true, recurses := true, apart := false }
def FnGreenSaid : Prop := fnGreenRow.holds Try.pinned (OpenSpec.ofChange fnGreenSpec)

/-- ITS FALSE NEIGHBOUR: 'it returns false'. Refute it at one input. -/
def fnGreenWrong : ChangeSpec := { name := "fnGreen", fn := fun _ => fun
  | [d] => { results := [.lit (.bool false)], args := [d] }
  | _ => none }
def FnGreenWrongFalsely : Prop := fnGreenRow.holds Try.pinned (OpenSpec.ofChange fnGreenWrong)

/-- 'laws.FnExactPrincipalMatrix': WHATEVER THE INPUT: true; the input reads as it did. -/
def fnExactPrincipalMatrixSpec : ChangeSpec := { name := "fnExactPrincipalMatrix", fn := fun _ => fun
  | [d] => { results := [.lit (.bool true)], args := [d] }
  | _ => none }
def fnExactPrincipalMatrixRow : OpenClaim := { program := "ytakkbbpdfmkbnaa", sum := "20290e1b4e062c6037f7b8c154527d67d97d27a32f5f090284d2d84ae4921289", func := "loop.example/g03115/laws.FnExactPrincipalMatrix", spec := "fnExactPrincipalMatrix", unfollowed := true, recurses := true, apart := false }
def FnExactPrincipalMatrixSaid : Prop := fnExactPrincipalMatrixRow.holds Try.pinned (OpenSpec.ofChange fnExactPrincipalMatrixSpec)

/-- ITS FALSE NEIGHBOUR: 'it returns false'. Refute it at one input. -/
def fnExactPrincipalMatrixWrong : ChangeSpec := { name := "fnExactPrincipalMatrix", fn := fun _ => fun
  | [d] => { results := [.lit (.bool false)], args := [d] }
  | _ => none }
def FnExactPrincipalMatrixWrongFalsely : Prop := fnExactPrincipalMatrixRow.holds Try.pinned (OpenSpec.ofChange fnExactPrincipalMatrixWrong)

/-- 'laws.FnExactCartanOf': WHATEVER THE INPUT: true; the input reads as it did. -/
def fnExactCartanOfSpec : ChangeSpec := { name := "fnExactCartanOf", fn := fun _ => fun
  | [d] => { results := [.lit (.bool true)], args := [d] }
  | _ => none }
def fnExactCartanOfRow : OpenClaim := { program := "ytakkbbpdfmkbnaa", sum := "20290e1b4e062c6037f7b8c154527d67d97d27a32f5f090284d2d84ae4921289", func := "loop.example/g03115/laws.FnExactCartanOf", spec := "fnExactCartanOf", unfollowed := true, recurses := true, apart := false }
def FnExactCartanOfSaid : Prop := fnExactCartanOfRow.holds Try.pinned (OpenSpec.ofChange fnExactCartanOfSpec)

/-- ITS FALSE NEIGHBOUR: 'it returns false'. Refute it at one input. -/
def fnExactCartanOfWrong : ChangeSpec := { name := "fnExactCartanOf", fn := fun _ => fun
  | [d] => { results := [.lit (.bool false)], args := [d] }
  | _ => none }
def FnExactCartanOfWrongFalsely : Prop := fnExactCartanOfRow.holds Try.pinned (OpenSpec.ofChange fnExactCartanOfWrong)

/-- 'laws.FnExactMutateMatrix': WHATEVER THE INPUT: true; the input reads as it did. -/
def fnExactMutateMatrixSpec : ChangeSpec := { name := "fnExactMutateMatrix", fn := fun _ => fun
  | [d1, d2] => { results := [.lit (.bool true)], args := [d1, d2] }
  | _ => none }
def fnExactMutateMatrixRow : OpenClaim := { program := "ytakkbbpdfmkbnaa", sum := "20290e1b4e062c6037f7b8c154527d67d97d27a32f5f090284d2d84ae4921289", func := "loop.example/g03115/laws.FnExactMutateMatrix", spec := "fnExactMutateMatrix", unfollowed := true, recurses := true, apart := false }
def FnExactMutateMatrixSaid : Prop := fnExactMutateMatrixRow.holds Try.pinned (OpenSpec.ofChange fnExactMutateMatrixSpec)

/-- ITS FALSE NEIGHBOUR: 'it returns false'. Refute it at one input. -/
def fnExactMutateMatrixWrong : ChangeSpec := { name := "fnExactMutateMatrix", fn := fun _ => fun
  | [d1, d2] => { results := [.lit (.bool false)], args := [d1, d2] }
  | _ => none }
def FnExactMutateMatrixWrongFalsely : Prop := fnExactMutateMatrixRow.holds Try.pinned (OpenSpec.ofChange fnExactMutateMatrixWrong)

/-- 'laws.FnExactRenameMatrix': WHATEVER THE INPUT: true; the input reads as it did. -/
def fnExactRenameMatrixSpec : ChangeSpec := { name := "fnExactRenameMatrix", fn := fun _ => fun
  | [d1, d2] => { results := [.lit (.bool true)], args := [d1, d2] }
  | _ => none }
def fnExactRenameMatrixRow : OpenClaim := { program := "ytakkbbpdfmkbnaa", sum := "20290e1b4e062c6037f7b8c154527d67d97d27a32f5f090284d2d84ae4921289", func := "loop.example/g03115/laws.FnExactRenameMatrix", spec := "fnExactRenameMatrix", unfollowed := true, recurses := true, apart := false }
def FnExactRenameMatrixSaid : Prop := fnExactRenameMatrixRow.holds Try.pinned (OpenSpec.ofChange fnExactRenameMatrixSpec)

/-- ITS FALSE NEIGHBOUR: 'it returns false'. Refute it at one input. -/
def fnExactRenameMatrixWrong : ChangeSpec := { name := "fnExactRenameMatrix", fn := fun _ => fun
  | [d1, d2] => { results := [.lit (.bool false)], args := [d1, d2] }
  | _ => none }
def FnExactRenameMatrixWrongFalsely : Prop := fnExactRenameMatrixRow.holds Try.pinned (OpenSpec.ofChange fnExactRenameMatrixWrong)

/-- 'laws.FnExactMutateAlong': WHATEVER THE INPUT: true; the input reads as it did. -/
def fnExactMutateAlongSpec : ChangeSpec := { name := "fnExactMutateAlong", fn := fun _ => fun
  | [d1, d2] => { results := [.lit (.bool true)], args := [d1, d2] }
  | _ => none }
def fnExactMutateAlongRow : OpenClaim := { program := "ytakkbbpdfmkbnaa", sum := "20290e1b4e062c6037f7b8c154527d67d97d27a32f5f090284d2d84ae4921289", func := "loop.example/g03115/laws.FnExactMutateAlong", spec := "fnExactMutateAlong", unfollowed := true, recurses := true, apart := false }
def FnExactMutateAlongSaid : Prop := fnExactMutateAlongRow.holds Try.pinned (OpenSpec.ofChange fnExactMutateAlongSpec)

/-- ITS FALSE NEIGHBOUR: 'it returns false'. Refute it at one input. -/
def fnExactMutateAlongWrong : ChangeSpec := { name := "fnExactMutateAlong", fn := fun _ => fun
  | [d1, d2] => { results := [.lit (.bool false)], args := [d1, d2] }
  | _ => none }
def FnExactMutateAlongWrongFalsely : Prop := fnExactMutateAlongRow.holds Try.pinned (OpenSpec.ofChange fnExactMutateAlongWrong)

/-- 'laws.FnExactColourOf': WHATEVER THE INPUT: true; the input reads as it did. -/
def fnExactColourOfSpec : ChangeSpec := { name := "fnExactColourOf", fn := fun _ => fun
  | [d1, d2, d3] => { results := [.lit (.bool true)], args := [d1, d2, d3] }
  | _ => none }
def fnExactColourOfRow : OpenClaim := { program := "ytakkbbpdfmkbnaa", sum := "20290e1b4e062c6037f7b8c154527d67d97d27a32f5f090284d2d84ae4921289", func := "loop.example/g03115/laws.FnExactColourOf", spec := "fnExactColourOf", unfollowed := true, recurses := true, apart := false }
def FnExactColourOfSaid : Prop := fnExactColourOfRow.holds Try.pinned (OpenSpec.ofChange fnExactColourOfSpec)

/-- ITS FALSE NEIGHBOUR: 'it returns false'. Refute it at one input. -/
def fnExactColourOfWrong : ChangeSpec := { name := "fnExactColourOf", fn := fun _ => fun
  | [d1, d2, d3] => { results := [.lit (.bool false)], args := [d1, d2, d3] }
  | _ => none }
def FnExactColourOfWrongFalsely : Prop := fnExactColourOfRow.holds Try.pinned (OpenSpec.ofChange fnExactColourOfWrong)

/-- 'laws.FnExactCVectorsOf': WHATEVER THE INPUT: true; the input reads as it did. -/
def fnExactCVectorsOfSpec : ChangeSpec := { name := "fnExactCVectorsOf", fn := fun _ => fun
  | [d1, d2] => { results := [.lit (.bool true)], args := [d1, d2] }
  | _ => none }
def fnExactCVectorsOfRow : OpenClaim := { program := "ytakkbbpdfmkbnaa", sum := "20290e1b4e062c6037f7b8c154527d67d97d27a32f5f090284d2d84ae4921289", func := "loop.example/g03115/laws.FnExactCVectorsOf", spec := "fnExactCVectorsOf", unfollowed := true, recurses := true, apart := false }
def FnExactCVectorsOfSaid : Prop := fnExactCVectorsOfRow.holds Try.pinned (OpenSpec.ofChange fnExactCVectorsOfSpec)

/-- ITS FALSE NEIGHBOUR: 'it returns false'. Refute it at one input. -/
def fnExactCVectorsOfWrong : ChangeSpec := { name := "fnExactCVectorsOf", fn := fun _ => fun
  | [d1, d2] => { results := [.lit (.bool false)], args := [d1, d2] }
  | _ => none }
def FnExactCVectorsOfWrongFalsely : Prop := fnExactCVectorsOfRow.holds Try.pinned (OpenSpec.ofChange fnExactCVectorsOfWrong)

/-- 'laws.FnExactInitialSeed': WHATEVER THE INPUT: true; the input reads as it did. -/
def fnExactInitialSeedSpec : ChangeSpec := { name := "fnExactInitialSeed", fn := fun _ => fun
  | [d] => { results := [.lit (.bool true)], args := [d] }
  | _ => none }
def fnExactInitialSeedRow : OpenClaim := { program := "ytakkbbpdfmkbnaa", sum := "20290e1b4e062c6037f7b8c154527d67d97d27a32f5f090284d2d84ae4921289", func := "loop.example/g03115/laws.FnExactInitialSeed", spec := "fnExactInitialSeed", unfollowed := true, recurses := true, apart := false }
def FnExactInitialSeedSaid : Prop := fnExactInitialSeedRow.holds Try.pinned (OpenSpec.ofChange fnExactInitialSeedSpec)

/-- ITS FALSE NEIGHBOUR: 'it returns false'. Refute it at one input. -/
def fnExactInitialSeedWrong : ChangeSpec := { name := "fnExactInitialSeed", fn := fun _ => fun
  | [d] => { results := [.lit (.bool false)], args := [d] }
  | _ => none }
def FnExactInitialSeedWrongFalsely : Prop := fnExactInitialSeedRow.holds Try.pinned (OpenSpec.ofChange fnExactInitialSeedWrong)

/- THE SECOND FORM. 'bulk': how many values and letters a reading holds, each counted each time it is reached (what is shared counts as often as it is met; a slice's spare places count too). A statement '..UptoSaid' is the law's where the arguments, and the package variables that the reading takes, are together of bulk at most 1048576: NARROWER than '..Said'. Prove '..Said' where nothing that the law and all that it calls make is longer than what came in: it says more and counts as full. Else prove '..UptoSaid'. A law counts once. -/
mutual
def uptoBulk {H : Type} : DataW H → Nat
  | .lit (.string bytes) => bytes.length + 1
  | .lit _ => 1
  | .nil => 1
  | .ptr d => uptoBulk d + 1
  | .slice elems spare => uptoBulkAll elems + uptoBulkAll spare + 1
  | .agg parts => uptoBulkAll parts + 1
  | .iface _ d => uptoBulk d + 1
  | .map entries => uptoBulkEntries entries + 1
  | .held _ => 1
def uptoBulkAll {H : Type} : List (DataW H) → Nat
  | [] => 0
  | d :: r => uptoBulk d + uptoBulkAll r
def uptoBulkEntries {H : Type} : List (Lit × DataW H) → Nat
  | [] => 0
  | x :: r => uptoBulkEntry x + uptoBulkEntries r
def uptoBulkEntry {H : Type} : Lit × DataW H → Nat
  | (.string bytes, d) => bytes.length + uptoBulk d + 1
  | (_, d) => uptoBulk d + 1
 end
def uptoSmall : (H : Type) → List (DataW H) → Bool := fun _ ds => decide (uptoBulkAll ds ≤ 1048576)
def OpenSpec.upto (s : _root_.Go.ChangeSpec) : _root_.Go.OpenSpec := { _root_.Go.OpenSpec.ofChange s with cond := some uptoSmall }

/-- 'laws.FnColours', WHERE WHAT IT READS IS OF BULK AT MOST 1048576: true; the input reads as it did. -/
def fnColoursUptoRow : OpenClaim := { program := "ytakkbbpdfmkbnaa", sum := "20290e1b4e062c6037f7b8c154527d67d97d27a32f5f090284d2d84ae4921289", func := "loop.example/g03115/laws.FnColours", spec := "fnColours", unfollowed := true, recurses := true, apart := false, narrowed := true }
def FnColoursUptoSaid : Prop := fnColoursUptoRow.holds Try.pinned (OpenSpec.upto fnColoursSpec)

/-- 'laws.FnGreen', WHERE WHAT IT READS IS OF BULK AT MOST 1048576: true; the input reads as it did. -/
def fnGreenUptoRow : OpenClaim := { program := "ytakkbbpdfmkbnaa", sum := "20290e1b4e062c6037f7b8c154527d67d97d27a32f5f090284d2d84ae4921289", func := "loop.example/g03115/laws.FnGreen", spec := "fnGreen", unfollowed := true, recurses := true, apart := false, narrowed := true }
def FnGreenUptoSaid : Prop := fnGreenUptoRow.holds Try.pinned (OpenSpec.upto fnGreenSpec)

/-- 'laws.FnExactPrincipalMatrix', WHERE WHAT IT READS IS OF BULK AT MOST 1048576: true; the input reads as it did. -/
def fnExactPrincipalMatrixUptoRow : OpenClaim := { program := "ytakkbbpdfmkbnaa", sum := "20290e1b4e062c6037f7b8c154527d67d97d27a32f5f090284d2d84ae4921289", func := "loop.example/g03115/laws.FnExactPrincipalMatrix", spec := "fnExactPrincipalMatrix", unfollowed := true, recurses := true, apart := false, narrowed := true }
def FnExactPrincipalMatrixUptoSaid : Prop := fnExactPrincipalMatrixUptoRow.holds Try.pinned (OpenSpec.upto fnExactPrincipalMatrixSpec)

/-- 'laws.FnExactCartanOf', WHERE WHAT IT READS IS OF BULK AT MOST 1048576: true; the input reads as it did. -/
def fnExactCartanOfUptoRow : OpenClaim := { program := "ytakkbbpdfmkbnaa", sum := "20290e1b4e062c6037f7b8c154527d67d97d27a32f5f090284d2d84ae4921289", func := "loop.example/g03115/laws.FnExactCartanOf", spec := "fnExactCartanOf", unfollowed := true, recurses := true, apart := false, narrowed := true }
def FnExactCartanOfUptoSaid : Prop := fnExactCartanOfUptoRow.holds Try.pinned (OpenSpec.upto fnExactCartanOfSpec)

/-- 'laws.FnExactMutateMatrix', WHERE WHAT IT READS IS OF BULK AT MOST 1048576: true; the input reads as it did. -/
def fnExactMutateMatrixUptoRow : OpenClaim := { program := "ytakkbbpdfmkbnaa", sum := "20290e1b4e062c6037f7b8c154527d67d97d27a32f5f090284d2d84ae4921289", func := "loop.example/g03115/laws.FnExactMutateMatrix", spec := "fnExactMutateMatrix", unfollowed := true, recurses := true, apart := false, narrowed := true }
def FnExactMutateMatrixUptoSaid : Prop := fnExactMutateMatrixUptoRow.holds Try.pinned (OpenSpec.upto fnExactMutateMatrixSpec)

/-- 'laws.FnExactRenameMatrix', WHERE WHAT IT READS IS OF BULK AT MOST 1048576: true; the input reads as it did. -/
def fnExactRenameMatrixUptoRow : OpenClaim := { program := "ytakkbbpdfmkbnaa", sum := "20290e1b4e062c6037f7b8c154527d67d97d27a32f5f090284d2d84ae4921289", func := "loop.example/g03115/laws.FnExactRenameMatrix", spec := "fnExactRenameMatrix", unfollowed := true, recurses := true, apart := false, narrowed := true }
def FnExactRenameMatrixUptoSaid : Prop := fnExactRenameMatrixUptoRow.holds Try.pinned (OpenSpec.upto fnExactRenameMatrixSpec)

/-- 'laws.FnExactMutateAlong', WHERE WHAT IT READS IS OF BULK AT MOST 1048576: true; the input reads as it did. -/
def fnExactMutateAlongUptoRow : OpenClaim := { program := "ytakkbbpdfmkbnaa", sum := "20290e1b4e062c6037f7b8c154527d67d97d27a32f5f090284d2d84ae4921289", func := "loop.example/g03115/laws.FnExactMutateAlong", spec := "fnExactMutateAlong", unfollowed := true, recurses := true, apart := false, narrowed := true }
def FnExactMutateAlongUptoSaid : Prop := fnExactMutateAlongUptoRow.holds Try.pinned (OpenSpec.upto fnExactMutateAlongSpec)

/-- 'laws.FnExactColourOf', WHERE WHAT IT READS IS OF BULK AT MOST 1048576: true; the input reads as it did. -/
def fnExactColourOfUptoRow : OpenClaim := { program := "ytakkbbpdfmkbnaa", sum := "20290e1b4e062c6037f7b8c154527d67d97d27a32f5f090284d2d84ae4921289", func := "loop.example/g03115/laws.FnExactColourOf", spec := "fnExactColourOf", unfollowed := true, recurses := true, apart := false, narrowed := true }
def FnExactColourOfUptoSaid : Prop := fnExactColourOfUptoRow.holds Try.pinned (OpenSpec.upto fnExactColourOfSpec)

/-- 'laws.FnExactCVectorsOf', WHERE WHAT IT READS IS OF BULK AT MOST 1048576: true; the input reads as it did. -/
def fnExactCVectorsOfUptoRow : OpenClaim := { program := "ytakkbbpdfmkbnaa", sum := "20290e1b4e062c6037f7b8c154527d67d97d27a32f5f090284d2d84ae4921289", func := "loop.example/g03115/laws.FnExactCVectorsOf", spec := "fnExactCVectorsOf", unfollowed := true, recurses := true, apart := false, narrowed := true }
def FnExactCVectorsOfUptoSaid : Prop := fnExactCVectorsOfUptoRow.holds Try.pinned (OpenSpec.upto fnExactCVectorsOfSpec)

/-- 'laws.FnExactInitialSeed', WHERE WHAT IT READS IS OF BULK AT MOST 1048576: true; the input reads as it did. -/
def fnExactInitialSeedUptoRow : OpenClaim := { program := "ytakkbbpdfmkbnaa", sum := "20290e1b4e062c6037f7b8c154527d67d97d27a32f5f090284d2d84ae4921289", func := "loop.example/g03115/laws.FnExactInitialSeed", spec := "fnExactInitialSeed", unfollowed := true, recurses := true, apart := false, narrowed := true }
def FnExactInitialSeedUptoSaid : Prop := fnExactInitialSeedUptoRow.holds Try.pinned (OpenSpec.upto fnExactInitialSeedSpec)

end Rows
end Go.Proofs.Ytakkbbpdfmkbnaa
