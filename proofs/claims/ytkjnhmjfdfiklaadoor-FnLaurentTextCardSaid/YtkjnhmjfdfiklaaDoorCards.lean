/-
  DERIVED. GIVEN WITH THE SEED: THE CARDS: each row of YtkjnhmjfdfiklaaDoorRows.lean that lists a variable, with what it lists TIED to the program's text (the seventh form; the later family's looks); each row that meets fmt, with fmt's text TOLD by the authors' own Lean function (tested against real Go, not proved from fmt's source: count such statements apart). THE CARD IS WHAT COUNTS. Prove the row's statement (the work); the ties are given (YtkjnhmjfdfiklaaDoorTie.lean); close each card by the builder's one call (the guide's Derived/Test/ToyasCard.lean, 'card_holds'). Laid BY PROGRAM, IN A SANDBOX (cutbox-door.mjs). By AI agents, Wed Nov 11 2026. No macro, syntax, notation, axiom, sorry.
-/
import Derived.Test.YtkjnhmjfdfiklaaDoorRows
import GoSem.ClaimSeven
namespace Go.Proofs.YtkjnhmjfdfiklaaDoor
namespace Rows

/-- THE TIED CARD OF 'laws.FnExactParseInts'. -/
def fnExactParseIntsCard : Claim7 := { stood := { row := fnExactParseIntsRow, standIns := [], harness := (true, "6dd9026b1d8cc5fd4798a9ba67dfee7f825ed68ed5f11e1a65eceadaf0a9eeed"), looks := true }, kinds := [], alts := [], laidByText := true, laidKinds := [.data, .data, .data, .data, .sentinel, .sentinel, .pinned], laidTests := true, laidLooks := .later }
def FnExactParseIntsCardSaid : Prop := Claim7.holds Tryd.pinned (.plain (OpenSpec.ofChange fnExactParseIntsSpec)) fnExactParseIntsCard

/-- THE TIED CARD OF 'laws.FnExactParseMatrix'. -/
def fnExactParseMatrixCard : Claim7 := { stood := { row := fnExactParseMatrixRow, standIns := [], harness := (true, "6dd9026b1d8cc5fd4798a9ba67dfee7f825ed68ed5f11e1a65eceadaf0a9eeed"), looks := true }, kinds := [], alts := [], laidByText := true, laidKinds := [.data, .data, .data, .data, .sentinel, .sentinel, .pinned], laidTests := true, laidLooks := .later }
def FnExactParseMatrixCardSaid : Prop := Claim7.holds Tryd.pinned (.plain (OpenSpec.ofChange fnExactParseMatrixSpec)) fnExactParseMatrixCard

/-- THE TIED CARD OF 'laws.FnExactParseLaurent'. -/
def fnExactParseLaurentCard : Claim7 := { stood := { row := fnExactParseLaurentRow, standIns := [], harness := (true, "6dd9026b1d8cc5fd4798a9ba67dfee7f825ed68ed5f11e1a65eceadaf0a9eeed"), looks := true }, kinds := [], alts := [], laidByText := true, laidKinds := [.data, .data, .data, .data, .sentinel, .sentinel, .pinned], laidTests := true, laidLooks := .later }
def FnExactParseLaurentCardSaid : Prop := Claim7.holds Tryd.pinned (.plain (OpenSpec.ofChange fnExactParseLaurentSpec)) fnExactParseLaurentCard

/-- THE TIED CARD OF 'laws.FnLaurentText'. -/
def fnLaurentTextCard : Claim7 := { stood := { row := fnLaurentTextRow, standIns := [], harness := (true, "6dd9026b1d8cc5fd4798a9ba67dfee7f825ed68ed5f11e1a65eceadaf0a9eeed"), looks := true }, kinds := [], alts := [], laidByText := true, laidKinds := [.data, .data, .data, .data, .sentinel, .sentinel, .pinned], laidTests := true, laidLooks := .later }
def FnLaurentTextCardSaid : Prop := Claim7.holds Tryd.pinned (.plain (OpenSpec.ofChange fnLaurentTextSpec)) fnLaurentTextCard

/-- THE SECOND FORM's CARD OF 'laws.FnExactParseInts'. -/
def fnExactParseIntsUptoCard : Claim7 := { stood := { row := fnExactParseIntsUptoRow, standIns := [], harness := (true, "6dd9026b1d8cc5fd4798a9ba67dfee7f825ed68ed5f11e1a65eceadaf0a9eeed"), looks := true }, kinds := [], alts := [], laidByText := true, laidKinds := [.data, .data, .data, .data, .sentinel, .sentinel, .pinned], laidTests := true, laidLooks := .later }
def FnExactParseIntsUptoCardSaid : Prop := Claim7.holds Tryd.pinned (.plain (OpenSpec.upto fnExactParseIntsSpec)) fnExactParseIntsUptoCard

/-- THE SECOND FORM's CARD OF 'laws.FnExactParseMatrix'. -/
def fnExactParseMatrixUptoCard : Claim7 := { stood := { row := fnExactParseMatrixUptoRow, standIns := [], harness := (true, "6dd9026b1d8cc5fd4798a9ba67dfee7f825ed68ed5f11e1a65eceadaf0a9eeed"), looks := true }, kinds := [], alts := [], laidByText := true, laidKinds := [.data, .data, .data, .data, .sentinel, .sentinel, .pinned], laidTests := true, laidLooks := .later }
def FnExactParseMatrixUptoCardSaid : Prop := Claim7.holds Tryd.pinned (.plain (OpenSpec.upto fnExactParseMatrixSpec)) fnExactParseMatrixUptoCard

/-- THE SECOND FORM's CARD OF 'laws.FnExactParseLaurent'. -/
def fnExactParseLaurentUptoCard : Claim7 := { stood := { row := fnExactParseLaurentUptoRow, standIns := [], harness := (true, "6dd9026b1d8cc5fd4798a9ba67dfee7f825ed68ed5f11e1a65eceadaf0a9eeed"), looks := true }, kinds := [], alts := [], laidByText := true, laidKinds := [.data, .data, .data, .data, .sentinel, .sentinel, .pinned], laidTests := true, laidLooks := .later }
def FnExactParseLaurentUptoCardSaid : Prop := Claim7.holds Tryd.pinned (.plain (OpenSpec.upto fnExactParseLaurentSpec)) fnExactParseLaurentUptoCard

/-- THE SECOND FORM's CARD OF 'laws.FnLaurentText'. -/
def fnLaurentTextUptoCard : Claim7 := { stood := { row := fnLaurentTextUptoRow, standIns := [], harness := (true, "6dd9026b1d8cc5fd4798a9ba67dfee7f825ed68ed5f11e1a65eceadaf0a9eeed"), looks := true }, kinds := [], alts := [], laidByText := true, laidKinds := [.data, .data, .data, .data, .sentinel, .sentinel, .pinned], laidTests := true, laidLooks := .later }
def FnLaurentTextUptoCardSaid : Prop := Claim7.holds Tryd.pinned (.plain (OpenSpec.upto fnLaurentTextSpec)) fnLaurentTextUptoCard
end Rows
end Go.Proofs.YtkjnhmjfdfiklaaDoor
