/-
  DERIVED. GIVEN WITH THE SEED: THE CARDS: each row of YtinphipdffikhaaDoorRows.lean that lists a variable, with what it lists TIED to the program's text (the seventh form; the later family's looks); each row that meets fmt, with fmt's text TOLD by the authors' own Lean function (tested against real Go, not proved from fmt's source: count such statements apart). THE CARD IS WHAT COUNTS. Prove the row's statement (the work); the ties are given (YtinphipdffikhaaDoorTie.lean); close each card by the builder's one call (the guide's Derived/Test/ToyasCard.lean, 'card_holds'). Laid BY PROGRAM, IN A SANDBOX (cutbox-door.mjs). By AI agents, Wed Nov 11 2026. No macro, syntax, notation, axiom, sorry.
-/
import Derived.Test.YtinphipdffikhaaDoorRows
import GoSem.ClaimSeven
namespace Go.Proofs.YtinphipdffikhaaDoor
namespace Rows

/-- THE TIED CARD OF 'laws.FnExactOriginOk'. -/
def fnExactOriginOkCard : Claim7 := { stood := { row := fnExactOriginOkRow, standIns := [], harness := (true, "7a4bb5c1a50c42ae217d420abbcc04894aaf4d96f19047ddb133c12ba5b8a60c"), looks := true }, kinds := [], alts := [], laidByText := true, laidKinds := [.data, .pinned], laidTests := true, laidLooks := .later }
def FnExactOriginOkCardSaid : Prop := Claim7.holds Tryd.pinned (.plain (OpenSpec.ofChange fnExactOriginOkSpec)) fnExactOriginOkCard

/-- THE TIED CARD OF 'laws.FnExactVaryFits'. -/
def fnExactVaryFitsCard : Claim7 := { stood := { row := fnExactVaryFitsRow, standIns := [], harness := (true, "7a4bb5c1a50c42ae217d420abbcc04894aaf4d96f19047ddb133c12ba5b8a60c"), looks := true }, kinds := [], alts := [], laidByText := true, laidKinds := [.data, .pinned], laidTests := true, laidLooks := .later }
def FnExactVaryFitsCardSaid : Prop := Claim7.holds Tryd.pinned (.plain (OpenSpec.ofChange fnExactVaryFitsSpec)) fnExactVaryFitsCard

/-- THE TIED CARD OF 'laws.FnExactPicked'. -/
def fnExactPickedCard : Claim7 := { stood := { row := fnExactPickedRow, standIns := [], harness := (true, "7a4bb5c1a50c42ae217d420abbcc04894aaf4d96f19047ddb133c12ba5b8a60c"), looks := true }, kinds := [], alts := [], laidByText := true, laidKinds := [.data, .pinned], laidTests := true, laidLooks := .later }
def FnExactPickedCardSaid : Prop := Claim7.holds Tryd.pinned (.plain (OpenSpec.ofChange fnExactPickedSpec)) fnExactPickedCard

/-- THE TIED CARD OF 'laws.FnExactOnlyStored'. -/
def fnExactOnlyStoredCard : Claim7 := { stood := { row := fnExactOnlyStoredRow, standIns := [], harness := (true, "7a4bb5c1a50c42ae217d420abbcc04894aaf4d96f19047ddb133c12ba5b8a60c"), looks := true }, kinds := [], alts := [], laidByText := true, laidKinds := [.data, .pinned], laidTests := true, laidLooks := .later }
def FnExactOnlyStoredCardSaid : Prop := Claim7.holds Tryd.pinned (.plain (OpenSpec.ofChange fnExactOnlyStoredSpec)) fnExactOnlyStoredCard

/-- THE TIED CARD OF 'laws.FnExactVersionIn'. -/
def fnExactVersionInCard : Claim7 := { stood := { row := fnExactVersionInRow, standIns := [], harness := (true, "7a4bb5c1a50c42ae217d420abbcc04894aaf4d96f19047ddb133c12ba5b8a60c"), looks := true }, kinds := [], alts := [], laidByText := true, laidKinds := [.data, .data, .data, .sentinel, .sentinel], laidTests := true, laidLooks := .later }
def FnExactVersionInCardSaid : Prop := Claim7.holds Tryd.pinned (.plain (OpenSpec.ofChange fnExactVersionInSpec)) fnExactVersionInCard

/-- THE TIED CARD OF 'laws.FnExactShardOk'. -/
def fnExactShardOkCard : Claim7 := { stood := { row := fnExactShardOkRow, standIns := [], harness := (true, "7a4bb5c1a50c42ae217d420abbcc04894aaf4d96f19047ddb133c12ba5b8a60c"), looks := true }, kinds := [], alts := [], laidByText := true, laidKinds := [.data, .pinned], laidTests := true, laidLooks := .later }
def FnExactShardOkCardSaid : Prop := Claim7.holds Tryd.pinned (.plain (OpenSpec.ofChange fnExactShardOkSpec)) fnExactShardOkCard

/-- THE TIED CARD OF 'laws.FnExactFilled'. -/
def fnExactFilledCard : Claim7 := { stood := { row := fnExactFilledRow, standIns := [], harness := (true, "7a4bb5c1a50c42ae217d420abbcc04894aaf4d96f19047ddb133c12ba5b8a60c"), looks := true }, kinds := [], alts := [], laidByText := true, laidKinds := [.data, .pinned], laidTests := true, laidLooks := .later }
def FnExactFilledCardSaid : Prop := Claim7.holds Tryd.pinned (.plain (OpenSpec.ofChange fnExactFilledSpec)) fnExactFilledCard

/-- THE TIED CARD OF 'laws.FnExactStorable'. -/
def fnExactStorableCard : Claim7 := { stood := { row := fnExactStorableRow, standIns := [], harness := (true, "7a4bb5c1a50c42ae217d420abbcc04894aaf4d96f19047ddb133c12ba5b8a60c"), looks := true }, kinds := [], alts := [], laidByText := true, laidKinds := [.data, .pinned], laidTests := true, laidLooks := .later }
def FnExactStorableCardSaid : Prop := Claim7.holds Tryd.pinned (.plain (OpenSpec.ofChange fnExactStorableSpec)) fnExactStorableCard

/-- THE TIED CARD OF 'laws.FnExactMayShare'. -/
def fnExactMayShareCard : Claim7 := { stood := { row := fnExactMayShareRow, standIns := [], harness := (true, "7a4bb5c1a50c42ae217d420abbcc04894aaf4d96f19047ddb133c12ba5b8a60c"), looks := true }, kinds := [], alts := [], laidByText := true, laidKinds := [.data, .pinned], laidTests := true, laidLooks := .later }
def FnExactMayShareCardSaid : Prop := Claim7.holds Tryd.pinned (.plain (OpenSpec.ofChange fnExactMayShareSpec)) fnExactMayShareCard

/-- THE SECOND FORM's CARD OF 'laws.FnExactOriginOk'. -/
def fnExactOriginOkUptoCard : Claim7 := { stood := { row := fnExactOriginOkUptoRow, standIns := [], harness := (true, "7a4bb5c1a50c42ae217d420abbcc04894aaf4d96f19047ddb133c12ba5b8a60c"), looks := true }, kinds := [], alts := [], laidByText := true, laidKinds := [.data, .pinned], laidTests := true, laidLooks := .later }
def FnExactOriginOkUptoCardSaid : Prop := Claim7.holds Tryd.pinned (.plain (OpenSpec.upto fnExactOriginOkSpec)) fnExactOriginOkUptoCard

/-- THE SECOND FORM's CARD OF 'laws.FnExactVaryFits'. -/
def fnExactVaryFitsUptoCard : Claim7 := { stood := { row := fnExactVaryFitsUptoRow, standIns := [], harness := (true, "7a4bb5c1a50c42ae217d420abbcc04894aaf4d96f19047ddb133c12ba5b8a60c"), looks := true }, kinds := [], alts := [], laidByText := true, laidKinds := [.data, .pinned], laidTests := true, laidLooks := .later }
def FnExactVaryFitsUptoCardSaid : Prop := Claim7.holds Tryd.pinned (.plain (OpenSpec.upto fnExactVaryFitsSpec)) fnExactVaryFitsUptoCard

/-- THE SECOND FORM's CARD OF 'laws.FnExactPicked'. -/
def fnExactPickedUptoCard : Claim7 := { stood := { row := fnExactPickedUptoRow, standIns := [], harness := (true, "7a4bb5c1a50c42ae217d420abbcc04894aaf4d96f19047ddb133c12ba5b8a60c"), looks := true }, kinds := [], alts := [], laidByText := true, laidKinds := [.data, .pinned], laidTests := true, laidLooks := .later }
def FnExactPickedUptoCardSaid : Prop := Claim7.holds Tryd.pinned (.plain (OpenSpec.upto fnExactPickedSpec)) fnExactPickedUptoCard

/-- THE SECOND FORM's CARD OF 'laws.FnExactOnlyStored'. -/
def fnExactOnlyStoredUptoCard : Claim7 := { stood := { row := fnExactOnlyStoredUptoRow, standIns := [], harness := (true, "7a4bb5c1a50c42ae217d420abbcc04894aaf4d96f19047ddb133c12ba5b8a60c"), looks := true }, kinds := [], alts := [], laidByText := true, laidKinds := [.data, .pinned], laidTests := true, laidLooks := .later }
def FnExactOnlyStoredUptoCardSaid : Prop := Claim7.holds Tryd.pinned (.plain (OpenSpec.upto fnExactOnlyStoredSpec)) fnExactOnlyStoredUptoCard

/-- THE SECOND FORM's CARD OF 'laws.FnExactVersionIn'. -/
def fnExactVersionInUptoCard : Claim7 := { stood := { row := fnExactVersionInUptoRow, standIns := [], harness := (true, "7a4bb5c1a50c42ae217d420abbcc04894aaf4d96f19047ddb133c12ba5b8a60c"), looks := true }, kinds := [], alts := [], laidByText := true, laidKinds := [.data, .data, .data, .sentinel, .sentinel], laidTests := true, laidLooks := .later }
def FnExactVersionInUptoCardSaid : Prop := Claim7.holds Tryd.pinned (.plain (OpenSpec.upto fnExactVersionInSpec)) fnExactVersionInUptoCard

/-- THE SECOND FORM's CARD OF 'laws.FnExactShardOk'. -/
def fnExactShardOkUptoCard : Claim7 := { stood := { row := fnExactShardOkUptoRow, standIns := [], harness := (true, "7a4bb5c1a50c42ae217d420abbcc04894aaf4d96f19047ddb133c12ba5b8a60c"), looks := true }, kinds := [], alts := [], laidByText := true, laidKinds := [.data, .pinned], laidTests := true, laidLooks := .later }
def FnExactShardOkUptoCardSaid : Prop := Claim7.holds Tryd.pinned (.plain (OpenSpec.upto fnExactShardOkSpec)) fnExactShardOkUptoCard

/-- THE SECOND FORM's CARD OF 'laws.FnExactFilled'. -/
def fnExactFilledUptoCard : Claim7 := { stood := { row := fnExactFilledUptoRow, standIns := [], harness := (true, "7a4bb5c1a50c42ae217d420abbcc04894aaf4d96f19047ddb133c12ba5b8a60c"), looks := true }, kinds := [], alts := [], laidByText := true, laidKinds := [.data, .pinned], laidTests := true, laidLooks := .later }
def FnExactFilledUptoCardSaid : Prop := Claim7.holds Tryd.pinned (.plain (OpenSpec.upto fnExactFilledSpec)) fnExactFilledUptoCard

/-- THE SECOND FORM's CARD OF 'laws.FnExactStorable'. -/
def fnExactStorableUptoCard : Claim7 := { stood := { row := fnExactStorableUptoRow, standIns := [], harness := (true, "7a4bb5c1a50c42ae217d420abbcc04894aaf4d96f19047ddb133c12ba5b8a60c"), looks := true }, kinds := [], alts := [], laidByText := true, laidKinds := [.data, .pinned], laidTests := true, laidLooks := .later }
def FnExactStorableUptoCardSaid : Prop := Claim7.holds Tryd.pinned (.plain (OpenSpec.upto fnExactStorableSpec)) fnExactStorableUptoCard

/-- THE SECOND FORM's CARD OF 'laws.FnExactMayShare'. -/
def fnExactMayShareUptoCard : Claim7 := { stood := { row := fnExactMayShareUptoRow, standIns := [], harness := (true, "7a4bb5c1a50c42ae217d420abbcc04894aaf4d96f19047ddb133c12ba5b8a60c"), looks := true }, kinds := [], alts := [], laidByText := true, laidKinds := [.data, .pinned], laidTests := true, laidLooks := .later }
def FnExactMayShareUptoCardSaid : Prop := Claim7.holds Tryd.pinned (.plain (OpenSpec.upto fnExactMayShareSpec)) fnExactMayShareUptoCard
end Rows
end Go.Proofs.YtinphipdffikhaaDoor
