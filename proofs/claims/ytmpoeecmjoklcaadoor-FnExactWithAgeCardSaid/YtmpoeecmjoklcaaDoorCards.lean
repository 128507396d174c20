/-
  DERIVED. GIVEN WITH THE SEED: THE CARDS: each row of YtmpoeecmjoklcaaDoorRows.lean that lists a variable, with what it lists TIED to the program's text (the seventh form; the later family's looks); each row that meets fmt, with fmt's text TOLD by the authors' own Lean function (tested against real Go, not proved from fmt's source: count such statements apart). THE CARD IS WHAT COUNTS. Prove the row's statement (the work); the ties are given (YtmpoeecmjoklcaaDoorTie.lean); close each card by the builder's one call (the guide's Derived/Test/ToyasCard.lean, 'card_holds'). Laid BY PROGRAM, IN A SANDBOX (cutbox-door.mjs). By AI agents, Wed Nov 11 2026. No macro, syntax, notation, axiom, sorry.
-/
import Derived.Test.YtmpoeecmjoklcaaDoorRows
import GoSem.ClaimSeven
namespace Go.Proofs.YtmpoeecmjoklcaaDoor
namespace Rows

/-- THE TIED CARD OF 'laws.FnExactVaryNames'. -/
def fnExactVaryNamesCard : Claim7 := { stood := { row := fnExactVaryNamesRow, standIns := [], harness := (true, "b38e8c5edd25775601022907b1b881211a0622254aa675a07e26a38d7999321d"), looks := false }, kinds := [], alts := [], laidByText := true, laidKinds := [.data, .pinned], laidTests := true, laidLooks := .later }
def FnExactVaryNamesCardSaid : Prop := Claim7.holds Tryd.pinned (.plain (OpenSpec.ofChange fnExactVaryNamesSpec)) fnExactVaryNamesCard

/-- THE TIED CARD OF 'laws.FnExactWithAge'. -/
def fnExactWithAgeCard : Claim7 := { stood := { row := fnExactWithAgeRow, standIns := [], harness := (true, "b38e8c5edd25775601022907b1b881211a0622254aa675a07e26a38d7999321d"), looks := false }, kinds := [], alts := [], laidByText := true, laidKinds := [.data, .data, .data], laidTests := true, laidLooks := .later }
def FnExactWithAgeCardSaid : Prop := Claim7.holds Tryd.pinned (.plain (OpenSpec.ofChange fnExactWithAgeSpec)) fnExactWithAgeCard

/-- THE SECOND FORM's CARD OF 'laws.FnExactVaryNames'. -/
def fnExactVaryNamesUptoCard : Claim7 := { stood := { row := fnExactVaryNamesUptoRow, standIns := [], harness := (true, "b38e8c5edd25775601022907b1b881211a0622254aa675a07e26a38d7999321d"), looks := false }, kinds := [], alts := [], laidByText := true, laidKinds := [.data, .pinned], laidTests := true, laidLooks := .later }
def FnExactVaryNamesUptoCardSaid : Prop := Claim7.holds Tryd.pinned (.plain (OpenSpec.upto fnExactVaryNamesSpec)) fnExactVaryNamesUptoCard

/-- THE SECOND FORM's CARD OF 'laws.FnExactWithAge'. -/
def fnExactWithAgeUptoCard : Claim7 := { stood := { row := fnExactWithAgeUptoRow, standIns := [], harness := (true, "b38e8c5edd25775601022907b1b881211a0622254aa675a07e26a38d7999321d"), looks := false }, kinds := [], alts := [], laidByText := true, laidKinds := [.data, .data, .data], laidTests := true, laidLooks := .later }
def FnExactWithAgeUptoCardSaid : Prop := Claim7.holds Tryd.pinned (.plain (OpenSpec.upto fnExactWithAgeSpec)) fnExactWithAgeUptoCard
end Rows
end Go.Proofs.YtmpoeecmjoklcaaDoor
