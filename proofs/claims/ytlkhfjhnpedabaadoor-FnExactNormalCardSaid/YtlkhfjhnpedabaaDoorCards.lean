/-
  DERIVED. GIVEN WITH THE SEED: THE CARDS: each row of YtlkhfjhnpedabaaDoorRows.lean that lists a variable, with what it lists TIED to the program's text (the seventh form; the later family's looks); each row that meets fmt, with fmt's text TOLD by the authors' own Lean function (tested against real Go, not proved from fmt's source: count such statements apart). THE CARD IS WHAT COUNTS. Prove the row's statement (the work); the ties are given (YtlkhfjhnpedabaaDoorTie.lean); close each card by the builder's one call (the guide's Derived/Test/ToyasCard.lean, 'card_holds'). Laid BY PROGRAM, IN A SANDBOX (cutbox-door.mjs). By AI agents, Wed Nov 11 2026. No macro, syntax, notation, axiom, sorry.
-/
import Derived.Test.YtlkhfjhnpedabaaDoorRows
import GoSem.ClaimSeven
namespace Go.Proofs.YtlkhfjhnpedabaaDoor
namespace Rows

/-- THE TIED CARD OF 'laws.FnExactNormal'. -/
def fnExactNormalCard : Claim7 := { stood := { row := fnExactNormalRow, standIns := [], harness := (true, "5d82c70e24e437296b16f2dd1ec0b0cc86fa564089d8737869255eba69f1aefe"), looks := false }, kinds := [], alts := [], laidByText := true, laidKinds := [.data, .pinned], laidTests := true, laidLooks := .later }
def FnExactNormalCardSaid : Prop := Claim7.holds Tryd.pinned (.plain (OpenSpec.ofChange fnExactNormalSpec)) fnExactNormalCard

/-- THE TIED CARD OF 'laws.FnExactStoredOk'. -/
def fnExactStoredOkCard : Claim7 := { stood := { row := fnExactStoredOkRow, standIns := [], harness := (true, "5d82c70e24e437296b16f2dd1ec0b0cc86fa564089d8737869255eba69f1aefe"), looks := false }, kinds := [], alts := [], laidByText := true, laidKinds := [.data, .pinned], laidTests := true, laidLooks := .later }
def FnExactStoredOkCardSaid : Prop := Claim7.holds Tryd.pinned (.plain (OpenSpec.ofChange fnExactStoredOkSpec)) fnExactStoredOkCard

/-- THE SECOND FORM's CARD OF 'laws.FnExactNormal'. -/
def fnExactNormalUptoCard : Claim7 := { stood := { row := fnExactNormalUptoRow, standIns := [], harness := (true, "5d82c70e24e437296b16f2dd1ec0b0cc86fa564089d8737869255eba69f1aefe"), looks := false }, kinds := [], alts := [], laidByText := true, laidKinds := [.data, .pinned], laidTests := true, laidLooks := .later }
def FnExactNormalUptoCardSaid : Prop := Claim7.holds Tryd.pinned (.plain (OpenSpec.upto fnExactNormalSpec)) fnExactNormalUptoCard

/-- THE SECOND FORM's CARD OF 'laws.FnExactStoredOk'. -/
def fnExactStoredOkUptoCard : Claim7 := { stood := { row := fnExactStoredOkUptoRow, standIns := [], harness := (true, "5d82c70e24e437296b16f2dd1ec0b0cc86fa564089d8737869255eba69f1aefe"), looks := false }, kinds := [], alts := [], laidByText := true, laidKinds := [.data, .pinned], laidTests := true, laidLooks := .later }
def FnExactStoredOkUptoCardSaid : Prop := Claim7.holds Tryd.pinned (.plain (OpenSpec.upto fnExactStoredOkSpec)) fnExactStoredOkUptoCard
end Rows
end Go.Proofs.YtlkhfjhnpedabaaDoor
