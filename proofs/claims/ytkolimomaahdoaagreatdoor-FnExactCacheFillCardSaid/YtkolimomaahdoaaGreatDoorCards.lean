/-
  DERIVED. GIVEN WITH THE SEED: THE CARDS: each row of YtkolimomaahdoaaGreatDoorRows.lean that lists a variable, with what it lists TIED to the program's text (the seventh form; the later family's looks); each row that meets fmt, with fmt's text TOLD by the authors' own Lean function (tested against real Go, not proved from fmt's source: count such statements apart). THE CARD IS WHAT COUNTS. Prove the row's statement (the work); the ties are given (YtkolimomaahdoaaGreatDoorTie.lean); close each card by the builder's one call (the guide's Derived/Test/ToyasCard.lean, 'card_holds'). Laid BY PROGRAM, IN A SANDBOX (cutbox-door.mjs). By AI agents, Wed Nov 11 2026. No macro, syntax, notation, axiom, sorry.
-/
import Derived.Test.YtkolimomaahdoaaGreatDoorRows
import GoSem.ClaimSeven
namespace Go.Proofs.YtkolimomaahdoaaGreatDoor
namespace Rows

/-- THE TIED CARD OF 'laws.FnExactShardDrop'. -/
def fnExactShardDropCard : Claim7 := { stood := { row := fnExactShardDropRow, standIns := [], harness := (true, "50e9cf4043e3422a5cb27effd4ef5f6e6d4c119df580072151e5f0d19abbdc48"), looks := true }, kinds := [], alts := [], laidByText := true, laidKinds := [.data, .pinned], laidTests := true, laidLooks := .later }
def FnExactShardDropCardSaid : Prop := Claim7.holds Tryz.pinned (.plain (OpenSpec.ofChange fnExactShardDropSpec)) fnExactShardDropCard

/-- THE TIED CARD OF 'laws.FnExactShardPut'. -/
def fnExactShardPutCard : Claim7 := { stood := { row := fnExactShardPutRow, standIns := [], harness := (true, "50e9cf4043e3422a5cb27effd4ef5f6e6d4c119df580072151e5f0d19abbdc48"), looks := true }, kinds := [], alts := [], laidByText := true, laidKinds := [.data, .pinned], laidTests := true, laidLooks := .later }
def FnExactShardPutCardSaid : Prop := Claim7.holds Tryz.pinned (.plain (OpenSpec.ofChange fnExactShardPutSpec)) fnExactShardPutCard

/-- THE TIED CARD OF 'laws.FnExactCacheFill'. -/
def fnExactCacheFillCard : Claim7 := { stood := { row := fnExactCacheFillRow, standIns := [], harness := (true, "50e9cf4043e3422a5cb27effd4ef5f6e6d4c119df580072151e5f0d19abbdc48"), looks := true }, kinds := [], alts := [], laidByText := true, laidKinds := [.data, .pinned], laidTests := true, laidLooks := .later }
def FnExactCacheFillCardSaid : Prop := Claim7.holds Tryz.pinned (.plain (OpenSpec.ofChange fnExactCacheFillSpec)) fnExactCacheFillCard

/-- THE TIED CARD OF 'laws.FnExactCacheDrop'. -/
def fnExactCacheDropCard : Claim7 := { stood := { row := fnExactCacheDropRow, standIns := [], harness := (true, "50e9cf4043e3422a5cb27effd4ef5f6e6d4c119df580072151e5f0d19abbdc48"), looks := true }, kinds := [], alts := [], laidByText := true, laidKinds := [.data, .pinned], laidTests := true, laidLooks := .later }
def FnExactCacheDropCardSaid : Prop := Claim7.holds Tryz.pinned (.plain (OpenSpec.ofChange fnExactCacheDropSpec)) fnExactCacheDropCard

/-- THE TIED CARD OF 'laws.FnExactOriginAnswer'. -/
def fnExactOriginAnswerCard : Claim7 := { stood := { row := fnExactOriginAnswerRow, standIns := [], harness := (true, "50e9cf4043e3422a5cb27effd4ef5f6e6d4c119df580072151e5f0d19abbdc48"), looks := true }, kinds := [], alts := [], laidByText := true, laidKinds := [.data, .data, .data, .data, .sentinel, .sentinel, .pinned], laidTests := true, laidLooks := .later }
def FnExactOriginAnswerCardSaid : Prop := Claim7.holds Tryz.pinned (.plain (OpenSpec.ofChange fnExactOriginAnswerSpec)) fnExactOriginAnswerCard

/-- THE SECOND FORM's CARD OF 'laws.FnExactShardDrop'. -/
def fnExactShardDropUptoCard : Claim7 := { stood := { row := fnExactShardDropUptoRow, standIns := [], harness := (true, "50e9cf4043e3422a5cb27effd4ef5f6e6d4c119df580072151e5f0d19abbdc48"), looks := true }, kinds := [], alts := [], laidByText := true, laidKinds := [.data, .pinned], laidTests := true, laidLooks := .later }
def FnExactShardDropUptoCardSaid : Prop := Claim7.holds Tryz.pinned (.plain (OpenSpec.upto fnExactShardDropSpec)) fnExactShardDropUptoCard

/-- THE SECOND FORM's CARD OF 'laws.FnExactShardPut'. -/
def fnExactShardPutUptoCard : Claim7 := { stood := { row := fnExactShardPutUptoRow, standIns := [], harness := (true, "50e9cf4043e3422a5cb27effd4ef5f6e6d4c119df580072151e5f0d19abbdc48"), looks := true }, kinds := [], alts := [], laidByText := true, laidKinds := [.data, .pinned], laidTests := true, laidLooks := .later }
def FnExactShardPutUptoCardSaid : Prop := Claim7.holds Tryz.pinned (.plain (OpenSpec.upto fnExactShardPutSpec)) fnExactShardPutUptoCard

/-- THE SECOND FORM's CARD OF 'laws.FnExactCacheFill'. -/
def fnExactCacheFillUptoCard : Claim7 := { stood := { row := fnExactCacheFillUptoRow, standIns := [], harness := (true, "50e9cf4043e3422a5cb27effd4ef5f6e6d4c119df580072151e5f0d19abbdc48"), looks := true }, kinds := [], alts := [], laidByText := true, laidKinds := [.data, .pinned], laidTests := true, laidLooks := .later }
def FnExactCacheFillUptoCardSaid : Prop := Claim7.holds Tryz.pinned (.plain (OpenSpec.upto fnExactCacheFillSpec)) fnExactCacheFillUptoCard

/-- THE SECOND FORM's CARD OF 'laws.FnExactCacheDrop'. -/
def fnExactCacheDropUptoCard : Claim7 := { stood := { row := fnExactCacheDropUptoRow, standIns := [], harness := (true, "50e9cf4043e3422a5cb27effd4ef5f6e6d4c119df580072151e5f0d19abbdc48"), looks := true }, kinds := [], alts := [], laidByText := true, laidKinds := [.data, .pinned], laidTests := true, laidLooks := .later }
def FnExactCacheDropUptoCardSaid : Prop := Claim7.holds Tryz.pinned (.plain (OpenSpec.upto fnExactCacheDropSpec)) fnExactCacheDropUptoCard

/-- THE SECOND FORM's CARD OF 'laws.FnExactOriginAnswer'. -/
def fnExactOriginAnswerUptoCard : Claim7 := { stood := { row := fnExactOriginAnswerUptoRow, standIns := [], harness := (true, "50e9cf4043e3422a5cb27effd4ef5f6e6d4c119df580072151e5f0d19abbdc48"), looks := true }, kinds := [], alts := [], laidByText := true, laidKinds := [.data, .data, .data, .data, .sentinel, .sentinel, .pinned], laidTests := true, laidLooks := .later }
def FnExactOriginAnswerUptoCardSaid : Prop := Claim7.holds Tryz.pinned (.plain (OpenSpec.upto fnExactOriginAnswerSpec)) fnExactOriginAnswerUptoCard
end Rows
end Go.Proofs.YtkolimomaahdoaaGreatDoor
