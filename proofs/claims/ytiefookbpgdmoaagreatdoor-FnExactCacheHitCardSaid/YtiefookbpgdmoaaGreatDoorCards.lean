/-
  DERIVED. GIVEN WITH THE SEED: THE CARDS: each row of YtiefookbpgdmoaaGreatDoorRows.lean that lists a variable, with what it lists TIED to the program's text (the seventh form; the later family's looks); each row that meets fmt, with fmt's text TOLD by the authors' own Lean function (tested against real Go, not proved from fmt's source: count such statements apart). THE CARD IS WHAT COUNTS. Prove the row's statement (the work); the ties are given (YtiefookbpgdmoaaGreatDoorTie.lean); close each card by the builder's one call (the guide's Derived/Test/ToyasCard.lean, 'card_holds'). Laid BY PROGRAM, IN A SANDBOX (cutbox-door.mjs). By AI agents, Wed Nov 11 2026. No macro, syntax, notation, axiom, sorry.
-/
import Derived.Test.YtiefookbpgdmoaaGreatDoorRows
import GoSem.ClaimSeven
namespace Go.Proofs.YtiefookbpgdmoaaGreatDoor
namespace Rows

/-- THE TIED CARD OF 'laws.FnExactShardTouch'. -/
def fnExactShardTouchCard : Claim7 := { stood := { row := fnExactShardTouchRow, standIns := [], harness := (true, "4c08e6092fb7d8cd95528316b831c54150977bb5b4ce413f6dda5503b369edd5"), looks := false }, kinds := [], alts := [], laidByText := true, laidKinds := [.data, .pinned], laidTests := true, laidLooks := .later }
def FnExactShardTouchCardSaid : Prop := Claim7.holds Tryz.pinned (.plain (OpenSpec.ofChange fnExactShardTouchSpec)) fnExactShardTouchCard

/-- THE TIED CARD OF 'laws.FnExactCacheFind'. -/
def fnExactCacheFindCard : Claim7 := { stood := { row := fnExactCacheFindRow, standIns := [], harness := (true, "4c08e6092fb7d8cd95528316b831c54150977bb5b4ce413f6dda5503b369edd5"), looks := false }, kinds := [], alts := [], laidByText := true, laidKinds := [.data, .pinned], laidTests := true, laidLooks := .later }
def FnExactCacheFindCardSaid : Prop := Claim7.holds Tryz.pinned (.plain (OpenSpec.ofChange fnExactCacheFindSpec)) fnExactCacheFindCard

/-- THE TIED CARD OF 'laws.FnExactCacheHit'. -/
def fnExactCacheHitCard : Claim7 := { stood := { row := fnExactCacheHitRow, standIns := [], harness := (true, "4c08e6092fb7d8cd95528316b831c54150977bb5b4ce413f6dda5503b369edd5"), looks := false }, kinds := [], alts := [], laidByText := true, laidKinds := [.data, .pinned], laidTests := true, laidLooks := .later }
def FnExactCacheHitCardSaid : Prop := Claim7.holds Tryz.pinned (.plain (OpenSpec.ofChange fnExactCacheHitSpec)) fnExactCacheHitCard

/-- THE SECOND FORM's CARD OF 'laws.FnExactShardTouch'. -/
def fnExactShardTouchUptoCard : Claim7 := { stood := { row := fnExactShardTouchUptoRow, standIns := [], harness := (true, "4c08e6092fb7d8cd95528316b831c54150977bb5b4ce413f6dda5503b369edd5"), looks := false }, kinds := [], alts := [], laidByText := true, laidKinds := [.data, .pinned], laidTests := true, laidLooks := .later }
def FnExactShardTouchUptoCardSaid : Prop := Claim7.holds Tryz.pinned (.plain (OpenSpec.upto fnExactShardTouchSpec)) fnExactShardTouchUptoCard

/-- THE SECOND FORM's CARD OF 'laws.FnExactCacheFind'. -/
def fnExactCacheFindUptoCard : Claim7 := { stood := { row := fnExactCacheFindUptoRow, standIns := [], harness := (true, "4c08e6092fb7d8cd95528316b831c54150977bb5b4ce413f6dda5503b369edd5"), looks := false }, kinds := [], alts := [], laidByText := true, laidKinds := [.data, .pinned], laidTests := true, laidLooks := .later }
def FnExactCacheFindUptoCardSaid : Prop := Claim7.holds Tryz.pinned (.plain (OpenSpec.upto fnExactCacheFindSpec)) fnExactCacheFindUptoCard

/-- THE SECOND FORM's CARD OF 'laws.FnExactCacheHit'. -/
def fnExactCacheHitUptoCard : Claim7 := { stood := { row := fnExactCacheHitUptoRow, standIns := [], harness := (true, "4c08e6092fb7d8cd95528316b831c54150977bb5b4ce413f6dda5503b369edd5"), looks := false }, kinds := [], alts := [], laidByText := true, laidKinds := [.data, .pinned], laidTests := true, laidLooks := .later }
def FnExactCacheHitUptoCardSaid : Prop := Claim7.holds Tryz.pinned (.plain (OpenSpec.upto fnExactCacheHitSpec)) fnExactCacheHitUptoCard
end Rows
end Go.Proofs.YtiefookbpgdmoaaGreatDoor
