/-
  DERIVED. GIVEN WITH THE SEED: THE CARDS: each row of YtkjnhmjfdfiklaaGreatDoorRows.lean that lists a variable, with what it lists TIED to the program's text (the seventh form; the later family's looks); each row that meets fmt, with fmt's text TOLD by the authors' own Lean function (tested against real Go, not proved from fmt's source: count such statements apart). THE CARD IS WHAT COUNTS. Prove the row's statement (the work); the ties are given (YtkjnhmjfdfiklaaGreatDoorTie.lean); close each card by the builder's one call (the guide's Derived/Test/ToyasCard.lean, 'card_holds'). Laid BY PROGRAM, IN A SANDBOX (cutbox-door.mjs). By AI agents, Wed Nov 11 2026. No macro, syntax, notation, axiom, sorry.
-/
import Derived.Test.YtkjnhmjfdfiklaaGreatDoorRows
import GoSem.ClaimSeven
namespace Go.Proofs.YtkjnhmjfdfiklaaGreatDoor
namespace Rows

/-- THE TIED CARD OF 'laws.FnExactIsFiniteType'. -/
def fnExactIsFiniteTypeCard : Claim7 := { stood := { row := fnExactIsFiniteTypeRow, standIns := [], harness := (true, "239f7ceed183558f5db19add70a493a871d171a14f2f1b7b80a0aee0ebf9b667"), looks := true }, kinds := [], alts := [], laidByText := true, laidKinds := [.data, .data, .data], laidTests := true, laidLooks := .later }
def FnExactIsFiniteTypeCardSaid : Prop := Claim7.holds Tryz.pinned (.plain (OpenSpec.ofChange fnExactIsFiniteTypeSpec)) fnExactIsFiniteTypeCard

/-- THE TIED CARD OF 'laws.FnExactMutationClass'. -/
def fnExactMutationClassCard : Claim7 := { stood := { row := fnExactMutationClassRow, standIns := [], harness := (true, "239f7ceed183558f5db19add70a493a871d171a14f2f1b7b80a0aee0ebf9b667"), looks := true }, kinds := [], alts := [], laidByText := true, laidKinds := [.data, .data, .data], laidTests := true, laidLooks := .later }
def FnExactMutationClassCardSaid : Prop := Claim7.holds Tryz.pinned (.plain (OpenSpec.ofChange fnExactMutationClassSpec)) fnExactMutationClassCard

/-- THE TIED CARD OF 'laws.FnMatrixText'. -/
def fnMatrixTextCard : Claim7 := { stood := { row := fnMatrixTextRow, standIns := [], harness := (true, "239f7ceed183558f5db19add70a493a871d171a14f2f1b7b80a0aee0ebf9b667"), looks := true }, kinds := [], alts := [], laidByText := true, laidKinds := [.data, .data, .data, .data, .sentinel, .sentinel, .pinned], laidTests := true, laidLooks := .later }
def FnMatrixTextCardSaid : Prop := Claim7.holds Tryz.pinned (.plain (OpenSpec.ofChange fnMatrixTextSpec)) fnMatrixTextCard

/-- THE TIED CARD OF 'laws.FnExactTypeName'. -/
def fnExactTypeNameCard : Claim7 := { stood := { row := fnExactTypeNameRow, standIns := [], harness := (true, "239f7ceed183558f5db19add70a493a871d171a14f2f1b7b80a0aee0ebf9b667"), looks := true }, kinds := [], alts := [], laidByText := true, laidKinds := [.data, .data, .data], laidTests := true, laidLooks := .later }
def FnExactTypeNameCardSaid : Prop := Claim7.holds Tryz.pinned (.plain (OpenSpec.ofChange fnExactTypeNameSpec)) fnExactTypeNameCard

/-- THE TIED CARD OF 'laws.FnClass'. -/
def fnClassCard : Claim7 := { stood := { row := fnClassRow, standIns := [], harness := (true, "239f7ceed183558f5db19add70a493a871d171a14f2f1b7b80a0aee0ebf9b667"), looks := true }, kinds := [], alts := [], laidByText := true, laidKinds := [.data, .data, .data], laidTests := true, laidLooks := .later }
def FnClassCardSaid : Prop := Claim7.holds Tryz.pinned (.plain (OpenSpec.ofChange fnClassSpec)) fnClassCard

/-- THE TIED CARD OF 'laws.FnTypes'. -/
def fnTypesCard : Claim7 := { stood := { row := fnTypesRow, standIns := [], harness := (true, "239f7ceed183558f5db19add70a493a871d171a14f2f1b7b80a0aee0ebf9b667"), looks := true }, kinds := [], alts := [], laidByText := true, laidKinds := [.data, .data, .data], laidTests := true, laidLooks := .later }
def FnTypesCardSaid : Prop := Claim7.holds Tryz.pinned (.plain (OpenSpec.ofChange fnTypesSpec)) fnTypesCard

/-- THE SECOND FORM's CARD OF 'laws.FnExactIsFiniteType'. -/
def fnExactIsFiniteTypeUptoCard : Claim7 := { stood := { row := fnExactIsFiniteTypeUptoRow, standIns := [], harness := (true, "239f7ceed183558f5db19add70a493a871d171a14f2f1b7b80a0aee0ebf9b667"), looks := true }, kinds := [], alts := [], laidByText := true, laidKinds := [.data, .data, .data], laidTests := true, laidLooks := .later }
def FnExactIsFiniteTypeUptoCardSaid : Prop := Claim7.holds Tryz.pinned (.plain (OpenSpec.upto fnExactIsFiniteTypeSpec)) fnExactIsFiniteTypeUptoCard

/-- THE SECOND FORM's CARD OF 'laws.FnExactMutationClass'. -/
def fnExactMutationClassUptoCard : Claim7 := { stood := { row := fnExactMutationClassUptoRow, standIns := [], harness := (true, "239f7ceed183558f5db19add70a493a871d171a14f2f1b7b80a0aee0ebf9b667"), looks := true }, kinds := [], alts := [], laidByText := true, laidKinds := [.data, .data, .data], laidTests := true, laidLooks := .later }
def FnExactMutationClassUptoCardSaid : Prop := Claim7.holds Tryz.pinned (.plain (OpenSpec.upto fnExactMutationClassSpec)) fnExactMutationClassUptoCard

/-- THE SECOND FORM's CARD OF 'laws.FnMatrixText'. -/
def fnMatrixTextUptoCard : Claim7 := { stood := { row := fnMatrixTextUptoRow, standIns := [], harness := (true, "239f7ceed183558f5db19add70a493a871d171a14f2f1b7b80a0aee0ebf9b667"), looks := true }, kinds := [], alts := [], laidByText := true, laidKinds := [.data, .data, .data, .data, .sentinel, .sentinel, .pinned], laidTests := true, laidLooks := .later }
def FnMatrixTextUptoCardSaid : Prop := Claim7.holds Tryz.pinned (.plain (OpenSpec.upto fnMatrixTextSpec)) fnMatrixTextUptoCard

/-- THE SECOND FORM's CARD OF 'laws.FnExactTypeName'. -/
def fnExactTypeNameUptoCard : Claim7 := { stood := { row := fnExactTypeNameUptoRow, standIns := [], harness := (true, "239f7ceed183558f5db19add70a493a871d171a14f2f1b7b80a0aee0ebf9b667"), looks := true }, kinds := [], alts := [], laidByText := true, laidKinds := [.data, .data, .data], laidTests := true, laidLooks := .later }
def FnExactTypeNameUptoCardSaid : Prop := Claim7.holds Tryz.pinned (.plain (OpenSpec.upto fnExactTypeNameSpec)) fnExactTypeNameUptoCard

/-- THE SECOND FORM's CARD OF 'laws.FnClass'. -/
def fnClassUptoCard : Claim7 := { stood := { row := fnClassUptoRow, standIns := [], harness := (true, "239f7ceed183558f5db19add70a493a871d171a14f2f1b7b80a0aee0ebf9b667"), looks := true }, kinds := [], alts := [], laidByText := true, laidKinds := [.data, .data, .data], laidTests := true, laidLooks := .later }
def FnClassUptoCardSaid : Prop := Claim7.holds Tryz.pinned (.plain (OpenSpec.upto fnClassSpec)) fnClassUptoCard

/-- THE SECOND FORM's CARD OF 'laws.FnTypes'. -/
def fnTypesUptoCard : Claim7 := { stood := { row := fnTypesUptoRow, standIns := [], harness := (true, "239f7ceed183558f5db19add70a493a871d171a14f2f1b7b80a0aee0ebf9b667"), looks := true }, kinds := [], alts := [], laidByText := true, laidKinds := [.data, .data, .data], laidTests := true, laidLooks := .later }
def FnTypesUptoCardSaid : Prop := Claim7.holds Tryz.pinned (.plain (OpenSpec.upto fnTypesSpec)) fnTypesUptoCard
end Rows
end Go.Proofs.YtkjnhmjfdfiklaaGreatDoor
