/-
  NARROWER THAN 'FOR EVERY INPUT', by the rows' own cells (each row's printed sentence says how): FnExactOriginOk: laid · FnExactVaryFits: laid · FnExactPicked: laid · FnExactOnlyStored: laid · FnExactVersionIn: laid · FnExactShardOk: laid · FnExactFilled: laid · FnExactStorable: laid · FnExactMayShare: laid.
  DERIVED. THE GIVEN ROWS OF THIS SEAT. 9 by the template 'for every input the law returns true; each argument reads behind the call as it read before'; 0 by the template 'total and deterministic' (their statements: YtinphipdffikhaaDoorTotals.lean).
  GIVEN WITH THE SEED: the statements are not yours to turn. If you find one false, say at which input.
  Laid BY PROGRAM, IN A SANDBOX (cutbox-rows.mjs): the forced cells as the released guide's own fill.sh prints them over the translation 96e821c83052a755… (all of the seat's roots in one cut). By AI agents, Wed Nov 11 2026. No macro, syntax, notation, axiom, sorry.
-/
import Derived.Test.YtinphipdffikhaaDoorChecked
import GoSem.PinnedTables
import GoSem.Claim
import GoSem.ClaimJoined
import GoSem.ClaimMapViews
import Derived.JoinedTies
import Derived.KernelRfl
namespace Go.Proofs.YtinphipdffikhaaDoor
/- THE CELL 'sum', in the pinned program and in every row, IS THE sha256 OF THE DUMP (.gsa) THAT YtinphipdffikhaaDoorProg.lean LOADS. Nothing in Lean hashes anything: it is a label: what it is worth is what the hold of that sum in a sandbox is worth. -/
noncomputable def Tryd.pinned : Pinned := { name := "ytinphipdffikhaadoor", sum := "96e821c83052a755a2401853fc74f67120625e5e2d46b1650bf57962e688366e", checked := Tryd.checked }
namespace Rows
def none {H : Type} : Left H := { results := [], args := [] }

/- WHAT THE LISTED PACKAGE-LEVEL VARIABLES READ AS WHEN THE CALL BEGINS. Each datum BY PROGRAM (the guide's laid-datum.mjs) off the statement by which the dump's own 'gosem.cut.vars' lays the variable. In a bare row this is a premise. The card (YtinphipdffikhaaDoorCards.lean) ties it to the program's text. -/
def laid_unicode_utf8_acceptRanges {H : Type} : DataW H := .agg [.agg [.lit (.int .u8 128), .lit (.int .u8 191)], .agg [.lit (.int .u8 160), .lit (.int .u8 191)], .agg [.lit (.int .u8 128), .lit (.int .u8 159)], .agg [.lit (.int .u8 144), .lit (.int .u8 191)], .agg [.lit (.int .u8 128), .lit (.int .u8 143)], .agg [.lit (.int .u8 0), .lit (.int .u8 0)], .agg [.lit (.int .u8 0), .lit (.int .u8 0)], .agg [.lit (.int .u8 0), .lit (.int .u8 0)], .agg [.lit (.int .u8 0), .lit (.int .u8 0)], .agg [.lit (.int .u8 0), .lit (.int .u8 0)], .agg [.lit (.int .u8 0), .lit (.int .u8 0)], .agg [.lit (.int .u8 0), .lit (.int .u8 0)], .agg [.lit (.int .u8 0), .lit (.int .u8 0)], .agg [.lit (.int .u8 0), .lit (.int .u8 0)], .agg [.lit (.int .u8 0), .lit (.int .u8 0)], .agg [.lit (.int .u8 0), .lit (.int .u8 0)]]
/-- One of Go's own tables, pinned by name: the form's constant. -/
def laid_unicode_utf8_first : DataW Unit := Go.Pinned.utf8First
def laid_math_bits_deBruijn32tab {H : Type} : DataW H := .agg [.lit (.int .u8 0), .lit (.int .u8 1), .lit (.int .u8 28), .lit (.int .u8 2), .lit (.int .u8 29), .lit (.int .u8 14), .lit (.int .u8 24), .lit (.int .u8 3), .lit (.int .u8 30), .lit (.int .u8 22), .lit (.int .u8 20), .lit (.int .u8 15), .lit (.int .u8 25), .lit (.int .u8 17), .lit (.int .u8 4), .lit (.int .u8 8), .lit (.int .u8 31), .lit (.int .u8 27), .lit (.int .u8 13), .lit (.int .u8 23), .lit (.int .u8 21), .lit (.int .u8 19), .lit (.int .u8 16), .lit (.int .u8 7), .lit (.int .u8 26), .lit (.int .u8 12), .lit (.int .u8 18), .lit (.int .u8 6), .lit (.int .u8 11), .lit (.int .u8 5), .lit (.int .u8 10), .lit (.int .u8 9)]
def laid_math_bits_deBruijn64tab {H : Type} : DataW H := .agg [.lit (.int .u8 0), .lit (.int .u8 1), .lit (.int .u8 56), .lit (.int .u8 2), .lit (.int .u8 57), .lit (.int .u8 49), .lit (.int .u8 28), .lit (.int .u8 3), .lit (.int .u8 61), .lit (.int .u8 58), .lit (.int .u8 42), .lit (.int .u8 50), .lit (.int .u8 38), .lit (.int .u8 29), .lit (.int .u8 17), .lit (.int .u8 4), .lit (.int .u8 62), .lit (.int .u8 47), .lit (.int .u8 59), .lit (.int .u8 36), .lit (.int .u8 45), .lit (.int .u8 43), .lit (.int .u8 51), .lit (.int .u8 22), .lit (.int .u8 53), .lit (.int .u8 39), .lit (.int .u8 33), .lit (.int .u8 30), .lit (.int .u8 24), .lit (.int .u8 18), .lit (.int .u8 12), .lit (.int .u8 5), .lit (.int .u8 63), .lit (.int .u8 55), .lit (.int .u8 48), .lit (.int .u8 27), .lit (.int .u8 60), .lit (.int .u8 41), .lit (.int .u8 37), .lit (.int .u8 16), .lit (.int .u8 46), .lit (.int .u8 35), .lit (.int .u8 44), .lit (.int .u8 21), .lit (.int .u8 52), .lit (.int .u8 32), .lit (.int .u8 23), .lit (.int .u8 11), .lit (.int .u8 54), .lit (.int .u8 26), .lit (.int .u8 40), .lit (.int .u8 15), .lit (.int .u8 34), .lit (.int .u8 20), .lit (.int .u8 31), .lit (.int .u8 10), .lit (.int .u8 25), .lit (.int .u8 14), .lit (.int .u8 19), .lit (.int .u8 9), .lit (.int .u8 13), .lit (.int .u8 8), .lit (.int .u8 7), .lit (.int .u8 6)]
def laid_internal_strconv_uint64pow10 {H : Type} : DataW H := .agg [.lit (.int .u64 1), .lit (.int .u64 10), .lit (.int .u64 100), .lit (.int .u64 1000), .lit (.int .u64 10000), .lit (.int .u64 100000), .lit (.int .u64 1000000), .lit (.int .u64 10000000), .lit (.int .u64 100000000), .lit (.int .u64 1000000000), .lit (.int .u64 10000000000), .lit (.int .u64 100000000000), .lit (.int .u64 1000000000000), .lit (.int .u64 10000000000000), .lit (.int .u64 100000000000000), .lit (.int .u64 1000000000000000), .lit (.int .u64 10000000000000000), .lit (.int .u64 100000000000000000), .lit (.int .u64 1000000000000000000), .lit (.int .u64 10000000000000000000)]
def laid_strconv_ErrRange {H : Type} : DataW H := .iface "*errors.errorString" (.ptr (.agg [.lit (.string [118, 97, 108, 117, 101, 32, 111, 117, 116, 32, 111, 102, 32, 114, 97, 110, 103, 101])]))
def laid_strconv_ErrSyntax {H : Type} : DataW H := .iface "*errors.errorString" (.ptr (.agg [.lit (.string [105, 110, 118, 97, 108, 105, 100, 32, 115, 121, 110, 116, 97, 120])]))

/-- 'laws.FnExactOriginOk': WHATEVER THE INPUT: true; the input reads as it did. -/
def fnExactOriginOkSpec : ChangeSpec := { name := "fnExactOriginOk", fn := fun _ => fun
  | [d] => { results := [.lit (.bool true)], args := [d] }
  | _ => none }
def fnExactOriginOkRow : OpenClaim := { program := "ytinphipdffikhaadoor", sum := "96e821c83052a755a2401853fc74f67120625e5e2d46b1650bf57962e688366e", func := "loop.example/g01402/laws.FnExactOriginOk", spec := "fnExactOriginOk", inPlace := ["internal/bytealg.IndexByteString", "internal/bytealg.IndexString", "internal/abi.NoEscape", "internal/bytealg.MakeNoZero"], unfollowed := true, recurses := true, named := ["unicode/utf8.first", "unicode/utf8.acceptRanges", "internal/bytealg.MaxLen"], apart := false, laid := [("unicode/utf8.acceptRanges", laid_unicode_utf8_acceptRanges), ("unicode/utf8.first", laid_unicode_utf8_first)] }
def FnExactOriginOkSaid : Prop := fnExactOriginOkRow.holds Tryd.pinned (OpenSpec.ofChange fnExactOriginOkSpec)

/-- ITS FALSE NEIGHBOUR: 'it returns false'. Refute it at one input. -/
def fnExactOriginOkWrong : ChangeSpec := { name := "fnExactOriginOk", fn := fun _ => fun
  | [d] => { results := [.lit (.bool false)], args := [d] }
  | _ => none }
def FnExactOriginOkWrongFalsely : Prop := fnExactOriginOkRow.holds Tryd.pinned (OpenSpec.ofChange fnExactOriginOkWrong)

/-- 'laws.FnExactVaryFits': WHATEVER THE INPUT: true; the input reads as it did. -/
def fnExactVaryFitsSpec : ChangeSpec := { name := "fnExactVaryFits", fn := fun _ => fun
  | [d1, d2, d3] => { results := [.lit (.bool true)], args := [d1, d2, d3] }
  | _ => none }
def fnExactVaryFitsRow : OpenClaim := { program := "ytinphipdffikhaadoor", sum := "96e821c83052a755a2401853fc74f67120625e5e2d46b1650bf57962e688366e", func := "loop.example/g01402/laws.FnExactVaryFits", spec := "fnExactVaryFits", inPlace := ["internal/abi.NoEscape", "internal/bytealg.MakeNoZero", "internal/bytealg.IndexByteString", "internal/bytealg.IndexString"], named := ["unicode/utf8.first", "unicode/utf8.acceptRanges", "internal/bytealg.MaxLen"], apart := false, laid := [("unicode/utf8.acceptRanges", laid_unicode_utf8_acceptRanges), ("unicode/utf8.first", laid_unicode_utf8_first)] }
def FnExactVaryFitsSaid : Prop := fnExactVaryFitsRow.holds Tryd.pinned (OpenSpec.ofChange fnExactVaryFitsSpec)

/-- ITS FALSE NEIGHBOUR: 'it returns false'. Refute it at one input. -/
def fnExactVaryFitsWrong : ChangeSpec := { name := "fnExactVaryFits", fn := fun _ => fun
  | [d1, d2, d3] => { results := [.lit (.bool false)], args := [d1, d2, d3] }
  | _ => none }
def FnExactVaryFitsWrongFalsely : Prop := fnExactVaryFitsRow.holds Tryd.pinned (OpenSpec.ofChange fnExactVaryFitsWrong)

/-- 'laws.FnExactPicked': WHATEVER THE INPUT: true; the input reads as it did. -/
def fnExactPickedSpec : ChangeSpec := { name := "fnExactPicked", fn := fun _ => fun
  | [d1, d2] => { results := [.lit (.bool true)], args := [d1, d2] }
  | _ => none }
def fnExactPickedRow : OpenClaim := { program := "ytinphipdffikhaadoor", sum := "96e821c83052a755a2401853fc74f67120625e5e2d46b1650bf57962e688366e", func := "loop.example/g01402/laws.FnExactPicked", spec := "fnExactPicked", inPlace := ["internal/abi.NoEscape", "internal/bytealg.MakeNoZero", "internal/bytealg.IndexByteString", "internal/bytealg.IndexString"], named := ["unicode/utf8.first", "unicode/utf8.acceptRanges", "internal/bytealg.MaxLen"], apart := false, laid := [("unicode/utf8.acceptRanges", laid_unicode_utf8_acceptRanges), ("unicode/utf8.first", laid_unicode_utf8_first)] }
def FnExactPickedSaid : Prop := fnExactPickedRow.holds Tryd.pinned (OpenSpec.ofChange fnExactPickedSpec)

/-- ITS FALSE NEIGHBOUR: 'it returns false'. Refute it at one input. -/
def fnExactPickedWrong : ChangeSpec := { name := "fnExactPicked", fn := fun _ => fun
  | [d1, d2] => { results := [.lit (.bool false)], args := [d1, d2] }
  | _ => none }
def FnExactPickedWrongFalsely : Prop := fnExactPickedRow.holds Tryd.pinned (OpenSpec.ofChange fnExactPickedWrong)

/-- 'laws.FnExactOnlyStored': WHATEVER THE INPUT: true; the input reads as it did. -/
def fnExactOnlyStoredSpec : ChangeSpec := { name := "fnExactOnlyStored", fn := fun _ => fun
  | [d] => { results := [.lit (.bool true)], args := [d] }
  | _ => none }
def fnExactOnlyStoredRow : OpenClaim := { program := "ytinphipdffikhaadoor", sum := "96e821c83052a755a2401853fc74f67120625e5e2d46b1650bf57962e688366e", func := "loop.example/g01402/laws.FnExactOnlyStored", spec := "fnExactOnlyStored", inPlace := ["internal/abi.NoEscape", "internal/bytealg.MakeNoZero", "internal/bytealg.IndexByteString", "internal/bytealg.IndexString"], unfollowed := true, recurses := true, named := ["unicode/utf8.first", "unicode/utf8.acceptRanges", "internal/bytealg.MaxLen"], apart := false, laid := [("unicode/utf8.acceptRanges", laid_unicode_utf8_acceptRanges), ("unicode/utf8.first", laid_unicode_utf8_first)] }
def FnExactOnlyStoredSaid : Prop := fnExactOnlyStoredRow.holds Tryd.pinned (OpenSpec.ofChange fnExactOnlyStoredSpec)

/-- ITS FALSE NEIGHBOUR: 'it returns false'. Refute it at one input. -/
def fnExactOnlyStoredWrong : ChangeSpec := { name := "fnExactOnlyStored", fn := fun _ => fun
  | [d] => { results := [.lit (.bool false)], args := [d] }
  | _ => none }
def FnExactOnlyStoredWrongFalsely : Prop := fnExactOnlyStoredRow.holds Tryd.pinned (OpenSpec.ofChange fnExactOnlyStoredWrong)

/-- 'laws.FnExactVersionIn': WHATEVER THE INPUT: true; the input reads as it did. -/
def fnExactVersionInSpec : ChangeSpec := { name := "fnExactVersionIn", fn := fun _ => fun
  | [d] => { results := [.lit (.bool true)], args := [d] }
  | _ => none }
def fnExactVersionInRow : OpenClaim := { program := "ytinphipdffikhaadoor", sum := "96e821c83052a755a2401853fc74f67120625e5e2d46b1650bf57962e688366e", func := "loop.example/g01402/laws.FnExactVersionIn", spec := "fnExactVersionIn", inPlace := ["internal/abi.NoEscape", "internal/bytealg.MakeNoZero"], named := ["strconv.ErrSyntax", "strconv.ErrRange", "internal/strconv.uint64pow10", "math/bits.deBruijn32tab", "math/bits.deBruijn64tab"], apart := false, laid := [("math/bits.deBruijn32tab", laid_math_bits_deBruijn32tab), ("math/bits.deBruijn64tab", laid_math_bits_deBruijn64tab), ("internal/strconv.uint64pow10", laid_internal_strconv_uint64pow10), ("strconv.ErrRange", laid_strconv_ErrRange), ("strconv.ErrSyntax", laid_strconv_ErrSyntax)] }
def FnExactVersionInSaid : Prop := fnExactVersionInRow.holds Tryd.pinned (OpenSpec.ofChange fnExactVersionInSpec)

/-- ITS FALSE NEIGHBOUR: 'it returns false'. Refute it at one input. -/
def fnExactVersionInWrong : ChangeSpec := { name := "fnExactVersionIn", fn := fun _ => fun
  | [d] => { results := [.lit (.bool false)], args := [d] }
  | _ => none }
def FnExactVersionInWrongFalsely : Prop := fnExactVersionInRow.holds Tryd.pinned (OpenSpec.ofChange fnExactVersionInWrong)

/-- 'laws.FnExactShardOk': WHATEVER THE INPUT: true; the input reads as it did. -/
def fnExactShardOkSpec : ChangeSpec := { name := "fnExactShardOk", fn := fun _ => fun
  | [d] => { results := [.lit (.bool true)], args := [d] }
  | _ => none }
def fnExactShardOkRow : OpenClaim := { program := "ytinphipdffikhaadoor", sum := "96e821c83052a755a2401853fc74f67120625e5e2d46b1650bf57962e688366e", func := "loop.example/g01402/laws.FnExactShardOk", spec := "fnExactShardOk", inPlace := ["internal/bytealg.IndexByteString", "internal/bytealg.IndexString", "internal/abi.NoEscape", "internal/bytealg.MakeNoZero"], unfollowed := true, recurses := true, named := ["unicode/utf8.first", "unicode/utf8.acceptRanges", "internal/bytealg.MaxLen"], apart := false, laid := [("unicode/utf8.acceptRanges", laid_unicode_utf8_acceptRanges), ("unicode/utf8.first", laid_unicode_utf8_first)] }
def FnExactShardOkSaid : Prop := fnExactShardOkRow.holds Tryd.pinned (OpenSpec.ofChange fnExactShardOkSpec)

/-- ITS FALSE NEIGHBOUR: 'it returns false'. Refute it at one input. -/
def fnExactShardOkWrong : ChangeSpec := { name := "fnExactShardOk", fn := fun _ => fun
  | [d] => { results := [.lit (.bool false)], args := [d] }
  | _ => none }
def FnExactShardOkWrongFalsely : Prop := fnExactShardOkRow.holds Tryd.pinned (OpenSpec.ofChange fnExactShardOkWrong)

/-- 'laws.FnExactFilled': WHATEVER THE INPUT: true; the input reads as it did. -/
def fnExactFilledSpec : ChangeSpec := { name := "fnExactFilled", fn := fun _ => fun
  | [d] => { results := [.lit (.bool true)], args := [d] }
  | _ => none }
def fnExactFilledRow : OpenClaim := { program := "ytinphipdffikhaadoor", sum := "96e821c83052a755a2401853fc74f67120625e5e2d46b1650bf57962e688366e", func := "loop.example/g01402/laws.FnExactFilled", spec := "fnExactFilled", inPlace := ["internal/bytealg.IndexByteString", "internal/bytealg.IndexString", "internal/abi.NoEscape", "internal/bytealg.MakeNoZero"], unfollowed := true, recurses := true, named := ["unicode/utf8.first", "unicode/utf8.acceptRanges", "internal/bytealg.MaxLen"], apart := false, laid := [("unicode/utf8.acceptRanges", laid_unicode_utf8_acceptRanges), ("unicode/utf8.first", laid_unicode_utf8_first)] }
def FnExactFilledSaid : Prop := fnExactFilledRow.holds Tryd.pinned (OpenSpec.ofChange fnExactFilledSpec)

/-- ITS FALSE NEIGHBOUR: 'it returns false'. Refute it at one input. -/
def fnExactFilledWrong : ChangeSpec := { name := "fnExactFilled", fn := fun _ => fun
  | [d] => { results := [.lit (.bool false)], args := [d] }
  | _ => none }
def FnExactFilledWrongFalsely : Prop := fnExactFilledRow.holds Tryd.pinned (OpenSpec.ofChange fnExactFilledWrong)

/-- 'laws.FnExactStorable': WHATEVER THE INPUT: true; the input reads as it did. -/
def fnExactStorableSpec : ChangeSpec := { name := "fnExactStorable", fn := fun _ => fun
  | [d1, d2] => { results := [.lit (.bool true)], args := [d1, d2] }
  | _ => none }
def fnExactStorableRow : OpenClaim := { program := "ytinphipdffikhaadoor", sum := "96e821c83052a755a2401853fc74f67120625e5e2d46b1650bf57962e688366e", func := "loop.example/g01402/laws.FnExactStorable", spec := "fnExactStorable", inPlace := ["internal/abi.NoEscape", "internal/bytealg.MakeNoZero", "internal/bytealg.IndexByteString", "internal/bytealg.IndexString"], unfollowed := true, recurses := true, named := ["unicode/utf8.first", "unicode/utf8.acceptRanges", "internal/bytealg.MaxLen"], apart := false, laid := [("unicode/utf8.acceptRanges", laid_unicode_utf8_acceptRanges), ("unicode/utf8.first", laid_unicode_utf8_first)] }
def FnExactStorableSaid : Prop := fnExactStorableRow.holds Tryd.pinned (OpenSpec.ofChange fnExactStorableSpec)

/-- ITS FALSE NEIGHBOUR: 'it returns false'. Refute it at one input. -/
def fnExactStorableWrong : ChangeSpec := { name := "fnExactStorable", fn := fun _ => fun
  | [d1, d2] => { results := [.lit (.bool false)], args := [d1, d2] }
  | _ => none }
def FnExactStorableWrongFalsely : Prop := fnExactStorableRow.holds Tryd.pinned (OpenSpec.ofChange fnExactStorableWrong)

/-- 'laws.FnExactMayShare': WHATEVER THE INPUT: true; the input reads as it did. -/
def fnExactMayShareSpec : ChangeSpec := { name := "fnExactMayShare", fn := fun _ => fun
  | [d1, d2, d3] => { results := [.lit (.bool true)], args := [d1, d2, d3] }
  | _ => none }
def fnExactMayShareRow : OpenClaim := { program := "ytinphipdffikhaadoor", sum := "96e821c83052a755a2401853fc74f67120625e5e2d46b1650bf57962e688366e", func := "loop.example/g01402/laws.FnExactMayShare", spec := "fnExactMayShare", inPlace := ["internal/abi.NoEscape", "internal/bytealg.MakeNoZero", "internal/bytealg.IndexByteString", "internal/bytealg.IndexString"], unfollowed := true, recurses := true, named := ["unicode/utf8.first", "unicode/utf8.acceptRanges", "internal/bytealg.MaxLen"], apart := false, laid := [("unicode/utf8.acceptRanges", laid_unicode_utf8_acceptRanges), ("unicode/utf8.first", laid_unicode_utf8_first)] }
def FnExactMayShareSaid : Prop := fnExactMayShareRow.holds Tryd.pinned (OpenSpec.ofChange fnExactMayShareSpec)

/-- ITS FALSE NEIGHBOUR: 'it returns false'. Refute it at one input. -/
def fnExactMayShareWrong : ChangeSpec := { name := "fnExactMayShare", fn := fun _ => fun
  | [d1, d2, d3] => { results := [.lit (.bool false)], args := [d1, d2, d3] }
  | _ => none }
def FnExactMayShareWrongFalsely : Prop := fnExactMayShareRow.holds Tryd.pinned (OpenSpec.ofChange fnExactMayShareWrong)

/- THE SECOND FORM. 'bulk': how many values and letters a reading holds, each counted each time it is reached (what is shared counts as often as it is met; a slice's spare places count too). A statement '..UptoSaid' is the law's where the arguments, and the package variables that the reading takes, are together of bulk at most 1048576: NARROWER than '..Said'. Prove '..Said' where nothing that the law and all that it calls make is longer than what came in: it says more and counts as full. Else prove '..UptoSaid'. A law counts once. -/
mutual
def uptoBulk {H : Type} : DataW H → Nat
  | .lit (.string bytes) => bytes.length + 1
  | .lit _ => 1
  | .nil => 1
  | .ptr d => uptoBulk d + 1
  | .slice elems spare => uptoBulkAll elems + uptoBulkAll spare + 1
  | .agg parts => uptoBulkAll parts + 1
  | .iface _ d => uptoBulk d + 1
  | .map entries => uptoBulkEntries entries + 1
  | .held _ => 1
def uptoBulkAll {H : Type} : List (DataW H) → Nat
  | [] => 0
  | d :: r => uptoBulk d + uptoBulkAll r
def uptoBulkEntries {H : Type} : List (Lit × DataW H) → Nat
  | [] => 0
  | x :: r => uptoBulkEntry x + uptoBulkEntries r
def uptoBulkEntry {H : Type} : Lit × DataW H → Nat
  | (.string bytes, d) => bytes.length + uptoBulk d + 1
  | (_, d) => uptoBulk d + 1
 end
def uptoSmall : (H : Type) → List (DataW H) → Bool := fun _ ds => decide (uptoBulkAll ds ≤ 1048576)
def OpenSpec.upto (s : _root_.Go.ChangeSpec) : _root_.Go.OpenSpec := { _root_.Go.OpenSpec.ofChange s with cond := some uptoSmall }

/-- 'laws.FnExactOriginOk', WHERE WHAT IT READS IS OF BULK AT MOST 1048576: true; the input reads as it did. -/
def fnExactOriginOkUptoRow : OpenClaim := { program := "ytinphipdffikhaadoor", sum := "96e821c83052a755a2401853fc74f67120625e5e2d46b1650bf57962e688366e", func := "loop.example/g01402/laws.FnExactOriginOk", spec := "fnExactOriginOk", inPlace := ["internal/bytealg.IndexByteString", "internal/bytealg.IndexString", "internal/abi.NoEscape", "internal/bytealg.MakeNoZero"], unfollowed := true, recurses := true, named := ["unicode/utf8.first", "unicode/utf8.acceptRanges", "internal/bytealg.MaxLen"], apart := false, laid := [("unicode/utf8.acceptRanges", laid_unicode_utf8_acceptRanges), ("unicode/utf8.first", laid_unicode_utf8_first)], narrowed := true }
def FnExactOriginOkUptoSaid : Prop := fnExactOriginOkUptoRow.holds Tryd.pinned (OpenSpec.upto fnExactOriginOkSpec)

/-- 'laws.FnExactVaryFits', WHERE WHAT IT READS IS OF BULK AT MOST 1048576: true; the input reads as it did. -/
def fnExactVaryFitsUptoRow : OpenClaim := { program := "ytinphipdffikhaadoor", sum := "96e821c83052a755a2401853fc74f67120625e5e2d46b1650bf57962e688366e", func := "loop.example/g01402/laws.FnExactVaryFits", spec := "fnExactVaryFits", inPlace := ["internal/abi.NoEscape", "internal/bytealg.MakeNoZero", "internal/bytealg.IndexByteString", "internal/bytealg.IndexString"], named := ["unicode/utf8.first", "unicode/utf8.acceptRanges", "internal/bytealg.MaxLen"], apart := false, laid := [("unicode/utf8.acceptRanges", laid_unicode_utf8_acceptRanges), ("unicode/utf8.first", laid_unicode_utf8_first)], narrowed := true }
def FnExactVaryFitsUptoSaid : Prop := fnExactVaryFitsUptoRow.holds Tryd.pinned (OpenSpec.upto fnExactVaryFitsSpec)

/-- 'laws.FnExactPicked', WHERE WHAT IT READS IS OF BULK AT MOST 1048576: true; the input reads as it did. -/
def fnExactPickedUptoRow : OpenClaim := { program := "ytinphipdffikhaadoor", sum := "96e821c83052a755a2401853fc74f67120625e5e2d46b1650bf57962e688366e", func := "loop.example/g01402/laws.FnExactPicked", spec := "fnExactPicked", inPlace := ["internal/abi.NoEscape", "internal/bytealg.MakeNoZero", "internal/bytealg.IndexByteString", "internal/bytealg.IndexString"], named := ["unicode/utf8.first", "unicode/utf8.acceptRanges", "internal/bytealg.MaxLen"], apart := false, laid := [("unicode/utf8.acceptRanges", laid_unicode_utf8_acceptRanges), ("unicode/utf8.first", laid_unicode_utf8_first)], narrowed := true }
def FnExactPickedUptoSaid : Prop := fnExactPickedUptoRow.holds Tryd.pinned (OpenSpec.upto fnExactPickedSpec)

/-- 'laws.FnExactOnlyStored', WHERE WHAT IT READS IS OF BULK AT MOST 1048576: true; the input reads as it did. -/
def fnExactOnlyStoredUptoRow : OpenClaim := { program := "ytinphipdffikhaadoor", sum := "96e821c83052a755a2401853fc74f67120625e5e2d46b1650bf57962e688366e", func := "loop.example/g01402/laws.FnExactOnlyStored", spec := "fnExactOnlyStored", inPlace := ["internal/abi.NoEscape", "internal/bytealg.MakeNoZero", "internal/bytealg.IndexByteString", "internal/bytealg.IndexString"], unfollowed := true, recurses := true, named := ["unicode/utf8.first", "unicode/utf8.acceptRanges", "internal/bytealg.MaxLen"], apart := false, laid := [("unicode/utf8.acceptRanges", laid_unicode_utf8_acceptRanges), ("unicode/utf8.first", laid_unicode_utf8_first)], narrowed := true }
def FnExactOnlyStoredUptoSaid : Prop := fnExactOnlyStoredUptoRow.holds Tryd.pinned (OpenSpec.upto fnExactOnlyStoredSpec)

/-- 'laws.FnExactVersionIn', WHERE WHAT IT READS IS OF BULK AT MOST 1048576: true; the input reads as it did. -/
def fnExactVersionInUptoRow : OpenClaim := { program := "ytinphipdffikhaadoor", sum := "96e821c83052a755a2401853fc74f67120625e5e2d46b1650bf57962e688366e", func := "loop.example/g01402/laws.FnExactVersionIn", spec := "fnExactVersionIn", inPlace := ["internal/abi.NoEscape", "internal/bytealg.MakeNoZero"], named := ["strconv.ErrSyntax", "strconv.ErrRange", "internal/strconv.uint64pow10", "math/bits.deBruijn32tab", "math/bits.deBruijn64tab"], apart := false, laid := [("math/bits.deBruijn32tab", laid_math_bits_deBruijn32tab), ("math/bits.deBruijn64tab", laid_math_bits_deBruijn64tab), ("internal/strconv.uint64pow10", laid_internal_strconv_uint64pow10), ("strconv.ErrRange", laid_strconv_ErrRange), ("strconv.ErrSyntax", laid_strconv_ErrSyntax)], narrowed := true }
def FnExactVersionInUptoSaid : Prop := fnExactVersionInUptoRow.holds Tryd.pinned (OpenSpec.upto fnExactVersionInSpec)

/-- 'laws.FnExactShardOk', WHERE WHAT IT READS IS OF BULK AT MOST 1048576: true; the input reads as it did. -/
def fnExactShardOkUptoRow : OpenClaim := { program := "ytinphipdffikhaadoor", sum := "96e821c83052a755a2401853fc74f67120625e5e2d46b1650bf57962e688366e", func := "loop.example/g01402/laws.FnExactShardOk", spec := "fnExactShardOk", inPlace := ["internal/bytealg.IndexByteString", "internal/bytealg.IndexString", "internal/abi.NoEscape", "internal/bytealg.MakeNoZero"], unfollowed := true, recurses := true, named := ["unicode/utf8.first", "unicode/utf8.acceptRanges", "internal/bytealg.MaxLen"], apart := false, laid := [("unicode/utf8.acceptRanges", laid_unicode_utf8_acceptRanges), ("unicode/utf8.first", laid_unicode_utf8_first)], narrowed := true }
def FnExactShardOkUptoSaid : Prop := fnExactShardOkUptoRow.holds Tryd.pinned (OpenSpec.upto fnExactShardOkSpec)

/-- 'laws.FnExactFilled', WHERE WHAT IT READS IS OF BULK AT MOST 1048576: true; the input reads as it did. -/
def fnExactFilledUptoRow : OpenClaim := { program := "ytinphipdffikhaadoor", sum := "96e821c83052a755a2401853fc74f67120625e5e2d46b1650bf57962e688366e", func := "loop.example/g01402/laws.FnExactFilled", spec := "fnExactFilled", inPlace := ["internal/bytealg.IndexByteString", "internal/bytealg.IndexString", "internal/abi.NoEscape", "internal/bytealg.MakeNoZero"], unfollowed := true, recurses := true, named := ["unicode/utf8.first", "unicode/utf8.acceptRanges", "internal/bytealg.MaxLen"], apart := false, laid := [("unicode/utf8.acceptRanges", laid_unicode_utf8_acceptRanges), ("unicode/utf8.first", laid_unicode_utf8_first)], narrowed := true }
def FnExactFilledUptoSaid : Prop := fnExactFilledUptoRow.holds Tryd.pinned (OpenSpec.upto fnExactFilledSpec)

/-- 'laws.FnExactStorable', WHERE WHAT IT READS IS OF BULK AT MOST 1048576: true; the input reads as it did. -/
def fnExactStorableUptoRow : OpenClaim := { program := "ytinphipdffikhaadoor", sum := "96e821c83052a755a2401853fc74f67120625e5e2d46b1650bf57962e688366e", func := "loop.example/g01402/laws.FnExactStorable", spec := "fnExactStorable", inPlace := ["internal/abi.NoEscape", "internal/bytealg.MakeNoZero", "internal/bytealg.IndexByteString", "internal/bytealg.IndexString"], unfollowed := true, recurses := true, named := ["unicode/utf8.first", "unicode/utf8.acceptRanges", "internal/bytealg.MaxLen"], apart := false, laid := [("unicode/utf8.acceptRanges", laid_unicode_utf8_acceptRanges), ("unicode/utf8.first", laid_unicode_utf8_first)], narrowed := true }
def FnExactStorableUptoSaid : Prop := fnExactStorableUptoRow.holds Tryd.pinned (OpenSpec.upto fnExactStorableSpec)

/-- 'laws.FnExactMayShare', WHERE WHAT IT READS IS OF BULK AT MOST 1048576: true; the input reads as it did. -/
def fnExactMayShareUptoRow : OpenClaim := { program := "ytinphipdffikhaadoor", sum := "96e821c83052a755a2401853fc74f67120625e5e2d46b1650bf57962e688366e", func := "loop.example/g01402/laws.FnExactMayShare", spec := "fnExactMayShare", inPlace := ["internal/abi.NoEscape", "internal/bytealg.MakeNoZero", "internal/bytealg.IndexByteString", "internal/bytealg.IndexString"], unfollowed := true, recurses := true, named := ["unicode/utf8.first", "unicode/utf8.acceptRanges", "internal/bytealg.MaxLen"], apart := false, laid := [("unicode/utf8.acceptRanges", laid_unicode_utf8_acceptRanges), ("unicode/utf8.first", laid_unicode_utf8_first)], narrowed := true }
def FnExactMayShareUptoSaid : Prop := fnExactMayShareUptoRow.holds Tryd.pinned (OpenSpec.upto fnExactMayShareSpec)

end Rows
end Go.Proofs.YtinphipdffikhaaDoor
