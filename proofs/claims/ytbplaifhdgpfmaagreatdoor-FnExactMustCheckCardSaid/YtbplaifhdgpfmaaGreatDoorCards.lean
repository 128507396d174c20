/-
  DERIVED. GIVEN WITH THE SEED: THE CARDS: each row of YtbplaifhdgpfmaaGreatDoorRows.lean that lists a variable, with what it lists TIED to the program's text (the seventh form; the later family's looks); each row that meets fmt, with fmt's text TOLD by the authors' own Lean function (tested against real Go, not proved from fmt's source: count such statements apart). THE CARD IS WHAT COUNTS. Prove the row's statement (the work); the ties are given (YtbplaifhdgpfmaaGreatDoorTie.lean); close each card by the builder's one call (the guide's Derived/Test/ToyasCard.lean, 'card_holds'). Laid BY PROGRAM, IN A SANDBOX (cutbox-door.mjs). By AI agents, Wed Nov 11 2026. No macro, syntax, notation, axiom, sorry.
-/
import Derived.Test.YtbplaifhdgpfmaaGreatDoorRows
import GoSem.ClaimSeven
namespace Go.Proofs.YtbplaifhdgpfmaaGreatDoor
namespace Rows

/-- THE TIED CARD OF 'laws.FnExactMustCheck'. -/
def fnExactMustCheckCard : Claim7 := { stood := { row := fnExactMustCheckRow, standIns := [], harness := (true, "6121bf933630c2782e109cdf1f2087dcd906ddc8739ca008106bdbcd1f8d47dd"), looks := true }, kinds := [], alts := [], laidByText := true, laidKinds := [.data, .data, .data, .data, .sentinel, .sentinel, .pinned], laidTests := true, laidLooks := .later }
def FnExactMustCheckCardSaid : Prop := Claim7.holds Tryz.pinned (.plain (OpenSpec.ofChange fnExactMustCheckSpec)) fnExactMustCheckCard

/-- THE SECOND FORM's CARD OF 'laws.FnExactMustCheck'. -/
def fnExactMustCheckUptoCard : Claim7 := { stood := { row := fnExactMustCheckUptoRow, standIns := [], harness := (true, "6121bf933630c2782e109cdf1f2087dcd906ddc8739ca008106bdbcd1f8d47dd"), looks := true }, kinds := [], alts := [], laidByText := true, laidKinds := [.data, .data, .data, .data, .sentinel, .sentinel, .pinned], laidTests := true, laidLooks := .later }
def FnExactMustCheckUptoCardSaid : Prop := Claim7.holds Tryz.pinned (.plain (OpenSpec.upto fnExactMustCheckSpec)) fnExactMustCheckUptoCard
end Rows
end Go.Proofs.YtbplaifhdgpfmaaGreatDoor
