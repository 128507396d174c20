/-
  DERIVED. GIVEN WITH THE SEED: THE CARDS: each row of YtlkhfjhnpedabaaGreatDoorRows.lean that lists a variable, with what it lists TIED to the program's text (the seventh form; the later family's looks); each row that meets fmt, with fmt's text TOLD by the authors' own Lean function (tested against real Go, not proved from fmt's source: count such statements apart). THE CARD IS WHAT COUNTS. Prove the row's statement (the work); the ties are given (YtlkhfjhnpedabaaGreatDoorTie.lean); close each card by the builder's one call (the guide's Derived/Test/ToyasCard.lean, 'card_holds'). Laid BY PROGRAM, IN A SANDBOX (cutbox-door.mjs). By AI agents, Wed Nov 11 2026. No macro, syntax, notation, axiom, sorry.
-/
import Derived.Test.YtlkhfjhnpedabaaGreatDoorRows
import GoSem.ClaimSeven
namespace Go.Proofs.YtlkhfjhnpedabaaGreatDoor
namespace Rows

/-- THE TIED CARD OF 'laws.FnExactCacheOk'. -/
def fnExactCacheOkCard : Claim7 := { stood := { row := fnExactCacheOkRow, standIns := [], harness := (true, "2c8f16baeb9d1657f00d08bc034c3f76ad3c4f28de122e7a34eff0667c2d6bd5"), looks := true }, kinds := [], alts := [], laidByText := true, laidKinds := [.data, .pinned], laidTests := true, laidLooks := .later }
def FnExactCacheOkCardSaid : Prop := Claim7.holds Tryz.pinned (.plain (OpenSpec.ofChange fnExactCacheOkSpec)) fnExactCacheOkCard

/-- THE TIED CARD OF 'laws.FnExactShardFind'. -/
def fnExactShardFindCard : Claim7 := { stood := { row := fnExactShardFindRow, standIns := [], harness := (true, "2c8f16baeb9d1657f00d08bc034c3f76ad3c4f28de122e7a34eff0667c2d6bd5"), looks := true }, kinds := [], alts := [], laidByText := true, laidKinds := [.data, .pinned], laidTests := true, laidLooks := .later }
def FnExactShardFindCardSaid : Prop := Claim7.holds Tryz.pinned (.plain (OpenSpec.ofChange fnExactShardFindSpec)) fnExactShardFindCard

/-- THE TIED CARD OF 'laws.FnExactNotModified'. -/
def fnExactNotModifiedCard : Claim7 := { stood := { row := fnExactNotModifiedRow, standIns := [], harness := (true, "2c8f16baeb9d1657f00d08bc034c3f76ad3c4f28de122e7a34eff0667c2d6bd5"), looks := true }, kinds := [], alts := [], laidByText := true, laidKinds := [.data, .data, .data, .data, .sentinel, .sentinel, .pinned], laidTests := true, laidLooks := .later }
def FnExactNotModifiedCardSaid : Prop := Claim7.holds Tryz.pinned (.plain (OpenSpec.ofChange fnExactNotModifiedSpec)) fnExactNotModifiedCard

/-- THE TIED CARD OF 'laws.FnExactIsFresh'. -/
def fnExactIsFreshCard : Claim7 := { stood := { row := fnExactIsFreshRow, standIns := [], harness := (true, "2c8f16baeb9d1657f00d08bc034c3f76ad3c4f28de122e7a34eff0667c2d6bd5"), looks := true }, kinds := [], alts := [], laidByText := true, laidKinds := [.data, .data, .data, .data, .sentinel, .sentinel, .pinned], laidTests := true, laidLooks := .later }
def FnExactIsFreshCardSaid : Prop := Claim7.holds Tryz.pinned (.plain (OpenSpec.ofChange fnExactIsFreshSpec)) fnExactIsFreshCard

/-- THE TIED CARD OF 'laws.FnExactMustCheck'. -/
def fnExactMustCheckCard : Claim7 := { stood := { row := fnExactMustCheckRow, standIns := [], harness := (true, "2c8f16baeb9d1657f00d08bc034c3f76ad3c4f28de122e7a34eff0667c2d6bd5"), looks := true }, kinds := [], alts := [], laidByText := true, laidKinds := [.data, .data, .data, .data, .sentinel, .sentinel, .pinned], laidTests := true, laidLooks := .later }
def FnExactMustCheckCardSaid : Prop := Claim7.holds Tryz.pinned (.plain (OpenSpec.ofChange fnExactMustCheckSpec)) fnExactMustCheckCard

/-- THE SECOND FORM's CARD OF 'laws.FnExactCacheOk'. -/
def fnExactCacheOkUptoCard : Claim7 := { stood := { row := fnExactCacheOkUptoRow, standIns := [], harness := (true, "2c8f16baeb9d1657f00d08bc034c3f76ad3c4f28de122e7a34eff0667c2d6bd5"), looks := true }, kinds := [], alts := [], laidByText := true, laidKinds := [.data, .pinned], laidTests := true, laidLooks := .later }
def FnExactCacheOkUptoCardSaid : Prop := Claim7.holds Tryz.pinned (.plain (OpenSpec.upto fnExactCacheOkSpec)) fnExactCacheOkUptoCard

/-- THE SECOND FORM's CARD OF 'laws.FnExactShardFind'. -/
def fnExactShardFindUptoCard : Claim7 := { stood := { row := fnExactShardFindUptoRow, standIns := [], harness := (true, "2c8f16baeb9d1657f00d08bc034c3f76ad3c4f28de122e7a34eff0667c2d6bd5"), looks := true }, kinds := [], alts := [], laidByText := true, laidKinds := [.data, .pinned], laidTests := true, laidLooks := .later }
def FnExactShardFindUptoCardSaid : Prop := Claim7.holds Tryz.pinned (.plain (OpenSpec.upto fnExactShardFindSpec)) fnExactShardFindUptoCard

/-- THE SECOND FORM's CARD OF 'laws.FnExactNotModified'. -/
def fnExactNotModifiedUptoCard : Claim7 := { stood := { row := fnExactNotModifiedUptoRow, standIns := [], harness := (true, "2c8f16baeb9d1657f00d08bc034c3f76ad3c4f28de122e7a34eff0667c2d6bd5"), looks := true }, kinds := [], alts := [], laidByText := true, laidKinds := [.data, .data, .data, .data, .sentinel, .sentinel, .pinned], laidTests := true, laidLooks := .later }
def FnExactNotModifiedUptoCardSaid : Prop := Claim7.holds Tryz.pinned (.plain (OpenSpec.upto fnExactNotModifiedSpec)) fnExactNotModifiedUptoCard

/-- THE SECOND FORM's CARD OF 'laws.FnExactIsFresh'. -/
def fnExactIsFreshUptoCard : Claim7 := { stood := { row := fnExactIsFreshUptoRow, standIns := [], harness := (true, "2c8f16baeb9d1657f00d08bc034c3f76ad3c4f28de122e7a34eff0667c2d6bd5"), looks := true }, kinds := [], alts := [], laidByText := true, laidKinds := [.data, .data, .data, .data, .sentinel, .sentinel, .pinned], laidTests := true, laidLooks := .later }
def FnExactIsFreshUptoCardSaid : Prop := Claim7.holds Tryz.pinned (.plain (OpenSpec.upto fnExactIsFreshSpec)) fnExactIsFreshUptoCard

/-- THE SECOND FORM's CARD OF 'laws.FnExactMustCheck'. -/
def fnExactMustCheckUptoCard : Claim7 := { stood := { row := fnExactMustCheckUptoRow, standIns := [], harness := (true, "2c8f16baeb9d1657f00d08bc034c3f76ad3c4f28de122e7a34eff0667c2d6bd5"), looks := true }, kinds := [], alts := [], laidByText := true, laidKinds := [.data, .data, .data, .data, .sentinel, .sentinel, .pinned], laidTests := true, laidLooks := .later }
def FnExactMustCheckUptoCardSaid : Prop := Claim7.holds Tryz.pinned (.plain (OpenSpec.upto fnExactMustCheckSpec)) fnExactMustCheckUptoCard
end Rows
end Go.Proofs.YtlkhfjhnpedabaaGreatDoor
