/-
  DERIVED. GIVEN WITH THE SEED: THE CARDS: each row of YtakkbbpdfmkbnaaDoorRows.lean that lists a variable, with what it lists TIED to the program's text (the seventh form; the later family's looks); each row that meets fmt, with fmt's text TOLD by the authors' own Lean function (tested against real Go, not proved from fmt's source: count such statements apart). THE CARD IS WHAT COUNTS. Prove the row's statement (the work); the ties are given (YtakkbbpdfmkbnaaDoorTie.lean); close each card by the builder's one call (the guide's Derived/Test/ToyasCard.lean, 'card_holds'). Laid BY PROGRAM, IN A SANDBOX (cutbox-door.mjs). By AI agents, Wed Nov 11 2026. No macro, syntax, notation, axiom, sorry.
-/
import Derived.Test.YtakkbbpdfmkbnaaDoorRows
import GoSem.ClaimSeven
namespace Go.Proofs.YtakkbbpdfmkbnaaDoor
namespace Rows

/-- THE TIED CARD OF 'laws.FnExactCountsOfType'. -/
def fnExactCountsOfTypeCard : Claim7 := { stood := { row := fnExactCountsOfTypeRow, standIns := [], harness := (true, "4566ba379260d09ad8d69bfcfe6b6336444af159a483dabceadaa977f1d97bfa"), looks := false }, kinds := [], alts := [], laidByText := true, laidKinds := [.data, .pinned], laidTests := true, laidLooks := .later }
def FnExactCountsOfTypeCardSaid : Prop := Claim7.holds Tryd.pinned (.plain (OpenSpec.ofChange fnExactCountsOfTypeSpec)) fnExactCountsOfTypeCard

/-- THE TIED CARD OF 'laws.FnExactFormatInts'. -/
def fnExactFormatIntsCard : Claim7 := { stood := { row := fnExactFormatIntsRow, standIns := [], harness := (true, "4566ba379260d09ad8d69bfcfe6b6336444af159a483dabceadaa977f1d97bfa"), looks := false }, kinds := [], alts := [], laidByText := true, laidKinds := [.data, .data, .data], laidTests := true, laidLooks := .later }
def FnExactFormatIntsCardSaid : Prop := Claim7.holds Tryd.pinned (.plain (OpenSpec.ofChange fnExactFormatIntsSpec)) fnExactFormatIntsCard

/-- THE SECOND FORM's CARD OF 'laws.FnExactCountsOfType'. -/
def fnExactCountsOfTypeUptoCard : Claim7 := { stood := { row := fnExactCountsOfTypeUptoRow, standIns := [], harness := (true, "4566ba379260d09ad8d69bfcfe6b6336444af159a483dabceadaa977f1d97bfa"), looks := false }, kinds := [], alts := [], laidByText := true, laidKinds := [.data, .pinned], laidTests := true, laidLooks := .later }
def FnExactCountsOfTypeUptoCardSaid : Prop := Claim7.holds Tryd.pinned (.plain (OpenSpec.upto fnExactCountsOfTypeSpec)) fnExactCountsOfTypeUptoCard

/-- THE SECOND FORM's CARD OF 'laws.FnExactFormatInts'. -/
def fnExactFormatIntsUptoCard : Claim7 := { stood := { row := fnExactFormatIntsUptoRow, standIns := [], harness := (true, "4566ba379260d09ad8d69bfcfe6b6336444af159a483dabceadaa977f1d97bfa"), looks := false }, kinds := [], alts := [], laidByText := true, laidKinds := [.data, .data, .data], laidTests := true, laidLooks := .later }
def FnExactFormatIntsUptoCardSaid : Prop := Claim7.holds Tryd.pinned (.plain (OpenSpec.upto fnExactFormatIntsSpec)) fnExactFormatIntsUptoCard
end Rows
end Go.Proofs.YtakkbbpdfmkbnaaDoor
