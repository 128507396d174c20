/-
  DERIVED. GIVEN WITH THE SEED: THE CARDS: each row of YtighffflhhlnaaaDoorRows.lean that lists a variable, with what it lists TIED to the program's text (the seventh form; the later family's looks); each row that meets fmt, with fmt's text TOLD by the authors' own Lean function (tested against real Go, not proved from fmt's source: count such statements apart). THE CARD IS WHAT COUNTS. Prove the row's statement (the work); the ties are given (YtighffflhhlnaaaDoorTie.lean); close each card by the builder's one call (the guide's Derived/Test/ToyasCard.lean, 'card_holds'). Laid BY PROGRAM, IN A SANDBOX (cutbox-door.mjs). By AI agents, Wed Nov 11 2026. No macro, syntax, notation, axiom, sorry.
-/
import Derived.Test.YtighffflhhlnaaaDoorRows
import GoSem.ClaimSeven
namespace Go.Proofs.YtighffflhhlnaaaDoor
namespace Rows

/-- THE TIED CARD OF 'laws.FnExactTagOf'. -/
def fnExactTagOfCard : Claim7 := { stood := { row := fnExactTagOfRow, standIns := [], harness := (true, "7e2e7cb2d663b6a657b4e979a7d29ce67fcaf3a3577b040c0455bb0deaedb0c8"), looks := false }, kinds := [], alts := [], laidByText := true, laidKinds := [.data, .data, .data], laidTests := true, laidLooks := .later }
def FnExactTagOfCardSaid : Prop := Claim7.holds Tryd.pinned (.plain (OpenSpec.ofChange fnExactTagOfSpec)) fnExactTagOfCard

/-- THE SECOND FORM's CARD OF 'laws.FnExactTagOf'. -/
def fnExactTagOfUptoCard : Claim7 := { stood := { row := fnExactTagOfUptoRow, standIns := [], harness := (true, "7e2e7cb2d663b6a657b4e979a7d29ce67fcaf3a3577b040c0455bb0deaedb0c8"), looks := false }, kinds := [], alts := [], laidByText := true, laidKinds := [.data, .data, .data], laidTests := true, laidLooks := .later }
def FnExactTagOfUptoCardSaid : Prop := Claim7.holds Tryd.pinned (.plain (OpenSpec.upto fnExactTagOfSpec)) fnExactTagOfUptoCard
end Rows
end Go.Proofs.YtighffflhhlnaaaDoor
