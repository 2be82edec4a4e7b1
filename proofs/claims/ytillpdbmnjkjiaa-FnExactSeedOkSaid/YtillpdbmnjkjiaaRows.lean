/-
  No cell of these rows narrows 'for every input' (looked for: loops, veiled, ifaces, maps, wideKeys, modest, calm, conditions, laid).
  DERIVED. THE GIVEN ROWS OF THIS SEAT. 8 by the template 'for every input the law returns true; each argument reads behind the call as it read before'; 0 by the template 'total and deterministic' (their statements: YtillpdbmnjkjiaaTotals.lean).
  GIVEN WITH THE SEED: the statements are not yours to turn. If you find one false, say at which input.
  Laid BY PROGRAM, IN A SANDBOX (cutbox-rows.mjs): the forced cells as the released guide's own fill.sh prints them over the translation bc19a36dee707c08… (all of the seat's roots in one cut). By AI agents, Wed Nov 11 2026. No macro, syntax, notation, axiom, sorry.
-/
import Derived.Test.YtillpdbmnjkjiaaChecked
import GoSem.Claim
import GoSem.ClaimJoined
import GoSem.ClaimMapViews
import Derived.JoinedTies
import Derived.KernelRfl
namespace Go.Proofs.Ytillpdbmnjkjiaa
/- THE CELL 'sum', in the pinned program and in every row, IS THE sha256 OF THE DUMP (.gsa) THAT YtillpdbmnjkjiaaProg.lean LOADS. Nothing in Lean hashes anything: it is a label: what it is worth is what the hold of that sum in a sandbox is worth. -/
noncomputable def Try.pinned : Pinned := { name := "ytillpdbmnjkjiaa", sum := "bc19a36dee707c083d2ba578885983a36468a42554318c365b6013fe513affcb", checked := Try.checked }
namespace Rows
def none {H : Type} : Left H := { results := [], args := [] }

/-- 'laws.FnExactSeedOk': WHATEVER THE INPUT: true; the input reads as it did. -/
def fnExactSeedOkSpec : ChangeSpec := { name := "fnExactSeedOk", fn := fun _ => fun
  | [d] => { results := [.lit (.bool true)], args := [d] }
  | _ => none }
def fnExactSeedOkRow : OpenClaim := { program := "ytillpdbmnjkjiaa", sum := "bc19a36dee707c083d2ba578885983a36468a42554318c365b6013fe513affcb", func := "loop.example/g03115/laws.FnExactSeedOk", spec := "fnExactSeedOk", unfollowed := true, recurses := true, apart := false }
def FnExactSeedOkSaid : Prop := fnExactSeedOkRow.holds Try.pinned (OpenSpec.ofChange fnExactSeedOkSpec)

/-- ITS FALSE NEIGHBOUR: 'it returns false'. Refute it at one input. -/
def fnExactSeedOkWrong : ChangeSpec := { name := "fnExactSeedOk", fn := fun _ => fun
  | [d] => { results := [.lit (.bool false)], args := [d] }
  | _ => none }
def FnExactSeedOkWrongFalsely : Prop := fnExactSeedOkRow.holds Try.pinned (OpenSpec.ofChange fnExactSeedOkWrong)

/-- 'laws.FnExactGreenSequences': WHATEVER THE INPUT: true; the input reads as it did. -/
def fnExactGreenSequencesSpec : ChangeSpec := { name := "fnExactGreenSequences", fn := fun _ => fun
  | [d] => { results := [.lit (.bool true)], args := [d] }
  | _ => none }
def fnExactGreenSequencesRow : OpenClaim := { program := "ytillpdbmnjkjiaa", sum := "bc19a36dee707c083d2ba578885983a36468a42554318c365b6013fe513affcb", func := "loop.example/g03115/laws.FnExactGreenSequences", spec := "fnExactGreenSequences", unfollowed := true, recurses := true, apart := false }
def FnExactGreenSequencesSaid : Prop := fnExactGreenSequencesRow.holds Try.pinned (OpenSpec.ofChange fnExactGreenSequencesSpec)

/-- ITS FALSE NEIGHBOUR: 'it returns false'. Refute it at one input. -/
def fnExactGreenSequencesWrong : ChangeSpec := { name := "fnExactGreenSequences", fn := fun _ => fun
  | [d] => { results := [.lit (.bool false)], args := [d] }
  | _ => none }
def FnExactGreenSequencesWrongFalsely : Prop := fnExactGreenSequencesRow.holds Try.pinned (OpenSpec.ofChange fnExactGreenSequencesWrong)

/-- 'laws.FnMutatesBack': WHATEVER THE INPUT: true; the input reads as it did. -/
def fnMutatesBackSpec : ChangeSpec := { name := "fnMutatesBack", fn := fun _ => fun
  | [d] => { results := [.lit (.bool true)], args := [d] }
  | _ => none }
def fnMutatesBackRow : OpenClaim := { program := "ytillpdbmnjkjiaa", sum := "bc19a36dee707c083d2ba578885983a36468a42554318c365b6013fe513affcb", func := "loop.example/g03115/laws.FnMutatesBack", spec := "fnMutatesBack", unfollowed := true, recurses := true, apart := false }
def FnMutatesBackSaid : Prop := fnMutatesBackRow.holds Try.pinned (OpenSpec.ofChange fnMutatesBackSpec)

/-- ITS FALSE NEIGHBOUR: 'it returns false'. Refute it at one input. -/
def fnMutatesBackWrong : ChangeSpec := { name := "fnMutatesBack", fn := fun _ => fun
  | [d] => { results := [.lit (.bool false)], args := [d] }
  | _ => none }
def FnMutatesBackWrongFalsely : Prop := fnMutatesBackRow.holds Try.pinned (OpenSpec.ofChange fnMutatesBackWrong)

/-- 'laws.FnExactGVectorsOf': WHATEVER THE INPUT: true; the input reads as it did. -/
def fnExactGVectorsOfSpec : ChangeSpec := { name := "fnExactGVectorsOf", fn := fun _ => fun
  | [d1, d2] => { results := [.lit (.bool true)], args := [d1, d2] }
  | _ => none }
def fnExactGVectorsOfRow : OpenClaim := { program := "ytillpdbmnjkjiaa", sum := "bc19a36dee707c083d2ba578885983a36468a42554318c365b6013fe513affcb", func := "loop.example/g03115/laws.FnExactGVectorsOf", spec := "fnExactGVectorsOf", unfollowed := true, recurses := true, apart := false }
def FnExactGVectorsOfSaid : Prop := fnExactGVectorsOfRow.holds Try.pinned (OpenSpec.ofChange fnExactGVectorsOfSpec)

/-- ITS FALSE NEIGHBOUR: 'it returns false'. Refute it at one input. -/
def fnExactGVectorsOfWrong : ChangeSpec := { name := "fnExactGVectorsOf", fn := fun _ => fun
  | [d1, d2] => { results := [.lit (.bool false)], args := [d1, d2] }
  | _ => none }
def FnExactGVectorsOfWrongFalsely : Prop := fnExactGVectorsOfRow.holds Try.pinned (OpenSpec.ofChange fnExactGVectorsOfWrong)

/-- 'laws.FnAcyclic': WHATEVER THE INPUT: true; the input reads as it did. -/
def fnAcyclicSpec : ChangeSpec := { name := "fnAcyclic", fn := fun _ => fun
  | [d] => { results := [.lit (.bool true)], args := [d] }
  | _ => none }
def fnAcyclicRow : OpenClaim := { program := "ytillpdbmnjkjiaa", sum := "bc19a36dee707c083d2ba578885983a36468a42554318c365b6013fe513affcb", func := "loop.example/g03115/laws.FnAcyclic", spec := "fnAcyclic", unfollowed := true, recurses := true, apart := false }
def FnAcyclicSaid : Prop := fnAcyclicRow.holds Try.pinned (OpenSpec.ofChange fnAcyclicSpec)

/-- ITS FALSE NEIGHBOUR: 'it returns false'. Refute it at one input. -/
def fnAcyclicWrong : ChangeSpec := { name := "fnAcyclic", fn := fun _ => fun
  | [d] => { results := [.lit (.bool false)], args := [d] }
  | _ => none }
def FnAcyclicWrongFalsely : Prop := fnAcyclicRow.holds Try.pinned (OpenSpec.ofChange fnAcyclicWrong)

/-- 'laws.FnExactCanonicalMatrix': WHATEVER THE INPUT: true; the input reads as it did. -/
def fnExactCanonicalMatrixSpec : ChangeSpec := { name := "fnExactCanonicalMatrix", fn := fun _ => fun
  | [d] => { results := [.lit (.bool true)], args := [d] }
  | _ => none }
def fnExactCanonicalMatrixRow : OpenClaim := { program := "ytillpdbmnjkjiaa", sum := "bc19a36dee707c083d2ba578885983a36468a42554318c365b6013fe513affcb", func := "loop.example/g03115/laws.FnExactCanonicalMatrix", spec := "fnExactCanonicalMatrix", inPlace := ["slices.overlaps[int]"], unfollowed := true, recurses := true, apart := false }
def FnExactCanonicalMatrixSaid : Prop := fnExactCanonicalMatrixRow.holds Try.pinned (OpenSpec.ofChange fnExactCanonicalMatrixSpec)

/-- ITS FALSE NEIGHBOUR: 'it returns false'. Refute it at one input. -/
def fnExactCanonicalMatrixWrong : ChangeSpec := { name := "fnExactCanonicalMatrix", fn := fun _ => fun
  | [d] => { results := [.lit (.bool false)], args := [d] }
  | _ => none }
def FnExactCanonicalMatrixWrongFalsely : Prop := fnExactCanonicalMatrixRow.holds Try.pinned (OpenSpec.ofChange fnExactCanonicalMatrixWrong)

/-- 'laws.FnExactAreAlike': WHATEVER THE INPUT: true; the input reads as it did. -/
def fnExactAreAlikeSpec : ChangeSpec := { name := "fnExactAreAlike", fn := fun _ => fun
  | [d1, d2] => { results := [.lit (.bool true)], args := [d1, d2] }
  | _ => none }
def fnExactAreAlikeRow : OpenClaim := { program := "ytillpdbmnjkjiaa", sum := "bc19a36dee707c083d2ba578885983a36468a42554318c365b6013fe513affcb", func := "loop.example/g03115/laws.FnExactAreAlike", spec := "fnExactAreAlike", inPlace := ["slices.overlaps[int]"], unfollowed := true, recurses := true, apart := false }
def FnExactAreAlikeSaid : Prop := fnExactAreAlikeRow.holds Try.pinned (OpenSpec.ofChange fnExactAreAlikeSpec)

/-- ITS FALSE NEIGHBOUR: 'it returns false'. Refute it at one input. -/
def fnExactAreAlikeWrong : ChangeSpec := { name := "fnExactAreAlike", fn := fun _ => fun
  | [d1, d2] => { results := [.lit (.bool false)], args := [d1, d2] }
  | _ => none }
def FnExactAreAlikeWrongFalsely : Prop := fnExactAreAlikeRow.holds Try.pinned (OpenSpec.ofChange fnExactAreAlikeWrong)

/-- 'laws.FnRenamed': WHATEVER THE INPUT: true; the input reads as it did. -/
def fnRenamedSpec : ChangeSpec := { name := "fnRenamed", fn := fun _ => fun
  | [d] => { results := [.lit (.bool true)], args := [d] }
  | _ => none }
def fnRenamedRow : OpenClaim := { program := "ytillpdbmnjkjiaa", sum := "bc19a36dee707c083d2ba578885983a36468a42554318c365b6013fe513affcb", func := "loop.example/g03115/laws.FnRenamed", spec := "fnRenamed", inPlace := ["slices.overlaps[int]"], unfollowed := true, recurses := true, apart := false }
def FnRenamedSaid : Prop := fnRenamedRow.holds Try.pinned (OpenSpec.ofChange fnRenamedSpec)

/-- ITS FALSE NEIGHBOUR: 'it returns false'. Refute it at one input. -/
def fnRenamedWrong : ChangeSpec := { name := "fnRenamed", fn := fun _ => fun
  | [d] => { results := [.lit (.bool false)], args := [d] }
  | _ => none }
def FnRenamedWrongFalsely : Prop := fnRenamedRow.holds Try.pinned (OpenSpec.ofChange fnRenamedWrong)

/- THE SECOND FORM. 'bulk': how many values and letters a reading holds, each counted each time it is reached (what is shared counts as often as it is met; a slice's spare places count too). A statement '..UptoSaid' is the law's where the arguments, and the package variables that the reading takes, are together of bulk at most 1048576: NARROWER than '..Said'. Prove '..Said' where nothing that the law and all that it calls make is longer than what came in: it says more and counts as full. Else prove '..UptoSaid'. A law counts once. -/
mutual
def uptoBulk {H : Type} : DataW H → Nat
  | .lit (.string bytes) => bytes.length + 1
  | .lit _ => 1
  | .nil => 1
  | .ptr d => uptoBulk d + 1
  | .slice elems spare => uptoBulkAll elems + uptoBulkAll spare + 1
  | .agg parts => uptoBulkAll parts + 1
  | .iface _ d => uptoBulk d + 1
  | .map entries => uptoBulkEntries entries + 1
  | .held _ => 1
def uptoBulkAll {H : Type} : List (DataW H) → Nat
  | [] => 0
  | d :: r => uptoBulk d + uptoBulkAll r
def uptoBulkEntries {H : Type} : List (Lit × DataW H) → Nat
  | [] => 0
  | x :: r => uptoBulkEntry x + uptoBulkEntries r
def uptoBulkEntry {H : Type} : Lit × DataW H → Nat
  | (.string bytes, d) => bytes.length + uptoBulk d + 1
  | (_, d) => uptoBulk d + 1
 end
def uptoSmall : (H : Type) → List (DataW H) → Bool := fun _ ds => decide (uptoBulkAll ds ≤ 1048576)
def OpenSpec.upto (s : _root_.Go.ChangeSpec) : _root_.Go.OpenSpec := { _root_.Go.OpenSpec.ofChange s with cond := some uptoSmall }

/-- 'laws.FnExactSeedOk', WHERE WHAT IT READS IS OF BULK AT MOST 1048576: true; the input reads as it did. -/
def fnExactSeedOkUptoRow : OpenClaim := { program := "ytillpdbmnjkjiaa", sum := "bc19a36dee707c083d2ba578885983a36468a42554318c365b6013fe513affcb", func := "loop.example/g03115/laws.FnExactSeedOk", spec := "fnExactSeedOk", unfollowed := true, recurses := true, apart := false, narrowed := true }
def FnExactSeedOkUptoSaid : Prop := fnExactSeedOkUptoRow.holds Try.pinned (OpenSpec.upto fnExactSeedOkSpec)

/-- 'laws.FnExactGreenSequences', WHERE WHAT IT READS IS OF BULK AT MOST 1048576: true; the input reads as it did. -/
def fnExactGreenSequencesUptoRow : OpenClaim := { program := "ytillpdbmnjkjiaa", sum := "bc19a36dee707c083d2ba578885983a36468a42554318c365b6013fe513affcb", func := "loop.example/g03115/laws.FnExactGreenSequences", spec := "fnExactGreenSequences", unfollowed := true, recurses := true, apart := false, narrowed := true }
def FnExactGreenSequencesUptoSaid : Prop := fnExactGreenSequencesUptoRow.holds Try.pinned (OpenSpec.upto fnExactGreenSequencesSpec)

/-- 'laws.FnMutatesBack', WHERE WHAT IT READS IS OF BULK AT MOST 1048576: true; the input reads as it did. -/
def fnMutatesBackUptoRow : OpenClaim := { program := "ytillpdbmnjkjiaa", sum := "bc19a36dee707c083d2ba578885983a36468a42554318c365b6013fe513affcb", func := "loop.example/g03115/laws.FnMutatesBack", spec := "fnMutatesBack", unfollowed := true, recurses := true, apart := false, narrowed := true }
def FnMutatesBackUptoSaid : Prop := fnMutatesBackUptoRow.holds Try.pinned (OpenSpec.upto fnMutatesBackSpec)

/-- 'laws.FnExactGVectorsOf', WHERE WHAT IT READS IS OF BULK AT MOST 1048576: true; the input reads as it did. -/
def fnExactGVectorsOfUptoRow : OpenClaim := { program := "ytillpdbmnjkjiaa", sum := "bc19a36dee707c083d2ba578885983a36468a42554318c365b6013fe513affcb", func := "loop.example/g03115/laws.FnExactGVectorsOf", spec := "fnExactGVectorsOf", unfollowed := true, recurses := true, apart := false, narrowed := true }
def FnExactGVectorsOfUptoSaid : Prop := fnExactGVectorsOfUptoRow.holds Try.pinned (OpenSpec.upto fnExactGVectorsOfSpec)

/-- 'laws.FnAcyclic', WHERE WHAT IT READS IS OF BULK AT MOST 1048576: true; the input reads as it did. -/
def fnAcyclicUptoRow : OpenClaim := { program := "ytillpdbmnjkjiaa", sum := "bc19a36dee707c083d2ba578885983a36468a42554318c365b6013fe513affcb", func := "loop.example/g03115/laws.FnAcyclic", spec := "fnAcyclic", unfollowed := true, recurses := true, apart := false, narrowed := true }
def FnAcyclicUptoSaid : Prop := fnAcyclicUptoRow.holds Try.pinned (OpenSpec.upto fnAcyclicSpec)

/-- 'laws.FnExactCanonicalMatrix', WHERE WHAT IT READS IS OF BULK AT MOST 1048576: true; the input reads as it did. -/
def fnExactCanonicalMatrixUptoRow : OpenClaim := { program := "ytillpdbmnjkjiaa", sum := "bc19a36dee707c083d2ba578885983a36468a42554318c365b6013fe513affcb", func := "loop.example/g03115/laws.FnExactCanonicalMatrix", spec := "fnExactCanonicalMatrix", inPlace := ["slices.overlaps[int]"], unfollowed := true, recurses := true, apart := false, narrowed := true }
def FnExactCanonicalMatrixUptoSaid : Prop := fnExactCanonicalMatrixUptoRow.holds Try.pinned (OpenSpec.upto fnExactCanonicalMatrixSpec)

/-- 'laws.FnExactAreAlike', WHERE WHAT IT READS IS OF BULK AT MOST 1048576: true; the input reads as it did. -/
def fnExactAreAlikeUptoRow : OpenClaim := { program := "ytillpdbmnjkjiaa", sum := "bc19a36dee707c083d2ba578885983a36468a42554318c365b6013fe513affcb", func := "loop.example/g03115/laws.FnExactAreAlike", spec := "fnExactAreAlike", inPlace := ["slices.overlaps[int]"], unfollowed := true, recurses := true, apart := false, narrowed := true }
def FnExactAreAlikeUptoSaid : Prop := fnExactAreAlikeUptoRow.holds Try.pinned (OpenSpec.upto fnExactAreAlikeSpec)

/-- 'laws.FnRenamed', WHERE WHAT IT READS IS OF BULK AT MOST 1048576: true; the input reads as it did. -/
def fnRenamedUptoRow : OpenClaim := { program := "ytillpdbmnjkjiaa", sum := "bc19a36dee707c083d2ba578885983a36468a42554318c365b6013fe513affcb", func := "loop.example/g03115/laws.FnRenamed", spec := "fnRenamed", inPlace := ["slices.overlaps[int]"], unfollowed := true, recurses := true, apart := false, narrowed := true }
def FnRenamedUptoSaid : Prop := fnRenamedUptoRow.holds Try.pinned (OpenSpec.upto fnRenamedSpec)

end Rows
end Go.Proofs.Ytillpdbmnjkjiaa
