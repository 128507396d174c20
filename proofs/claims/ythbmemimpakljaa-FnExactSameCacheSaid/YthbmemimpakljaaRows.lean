/-
  No cell of these rows narrows 'for every input' (looked for: loops, veiled, ifaces, maps, wideKeys, modest, calm, conditions, laid).
  DERIVED. THE GIVEN ROWS OF THIS SEAT. 7 by the template 'for every input the law returns true; each argument reads behind the call as it read before'; 0 by the template 'total and deterministic' (their statements: YthbmemimpakljaaTotals.lean).
  GIVEN WITH THE SEED: the statements are not yours to turn. If you find one false, say at which input.
  Laid BY PROGRAM, IN A SANDBOX (cutbox-rows.mjs): the forced cells as the released guide's own fill.sh prints them over the translation cd96cb545e35e8cd… (all of the seat's roots in one cut). By AI agents, Wed Nov 11 2026. No macro, syntax, notation, axiom, sorry.
-/
import Derived.Test.YthbmemimpakljaaChecked
import GoSem.Claim
import GoSem.ClaimJoined
import GoSem.ClaimMapViews
import Derived.JoinedTies
import Derived.KernelRfl
namespace Go.Proofs.Ythbmemimpakljaa
/- THE CELL 'sum', in the pinned program and in every row, IS THE sha256 OF THE DUMP (.gsa) THAT YthbmemimpakljaaProg.lean LOADS. Nothing in Lean hashes anything: it is a label: what it is worth is what the hold of that sum in a sandbox is worth. -/
noncomputable def Try.pinned : Pinned := { name := "ythbmemimpakljaa", sum := "cd96cb545e35e8cd8e08f72e7394b7fdbe1b16bf4db58adf19e6d300bf131493", checked := Try.checked }
namespace Rows
def none {H : Type} : Left H := { results := [], args := [] }

/-- 'laws.FnExactConnNew': WHATEVER THE INPUT: true; the input reads as it did. -/
def fnExactConnNewSpec : ChangeSpec := { name := "fnExactConnNew", fn := fun _ => fun
  | [d] => { results := [.lit (.bool true)], args := [d] }
  | _ => none }
def fnExactConnNewRow : OpenClaim := { program := "ythbmemimpakljaa", sum := "cd96cb545e35e8cd8e08f72e7394b7fdbe1b16bf4db58adf19e6d300bf131493", func := "loop.example/g01402/laws.FnExactConnNew", spec := "fnExactConnNew", apart := false }
def FnExactConnNewSaid : Prop := fnExactConnNewRow.holds Try.pinned (OpenSpec.ofChange fnExactConnNewSpec)

/-- ITS FALSE NEIGHBOUR: 'it returns false'. Refute it at one input. -/
def fnExactConnNewWrong : ChangeSpec := { name := "fnExactConnNew", fn := fun _ => fun
  | [d] => { results := [.lit (.bool false)], args := [d] }
  | _ => none }
def FnExactConnNewWrongFalsely : Prop := fnExactConnNewRow.holds Try.pinned (OpenSpec.ofChange fnExactConnNewWrong)

/-- 'laws.FnExactRefreshed': WHATEVER THE INPUT: true; the input reads as it did. -/
def fnExactRefreshedSpec : ChangeSpec := { name := "fnExactRefreshed", fn := fun _ => fun
  | [d1, d2] => { results := [.lit (.bool true)], args := [d1, d2] }
  | _ => none }
def fnExactRefreshedRow : OpenClaim := { program := "ythbmemimpakljaa", sum := "cd96cb545e35e8cd8e08f72e7394b7fdbe1b16bf4db58adf19e6d300bf131493", func := "loop.example/g01402/laws.FnExactRefreshed", spec := "fnExactRefreshed", inPlace := ["internal/abi.NoEscape", "internal/bytealg.MakeNoZero"], unfollowed := true, recurses := true, apart := false }
def FnExactRefreshedSaid : Prop := fnExactRefreshedRow.holds Try.pinned (OpenSpec.ofChange fnExactRefreshedSpec)

/-- ITS FALSE NEIGHBOUR: 'it returns false'. Refute it at one input. -/
def fnExactRefreshedWrong : ChangeSpec := { name := "fnExactRefreshed", fn := fun _ => fun
  | [d1, d2] => { results := [.lit (.bool false)], args := [d1, d2] }
  | _ => none }
def FnExactRefreshedWrongFalsely : Prop := fnExactRefreshedRow.holds Try.pinned (OpenSpec.ofChange fnExactRefreshedWrong)

/-- 'laws.FnExactConditional': WHATEVER THE INPUT: true; the input reads as it did. -/
def fnExactConditionalSpec : ChangeSpec := { name := "fnExactConditional", fn := fun _ => fun
  | [d1, d2] => { results := [.lit (.bool true)], args := [d1, d2] }
  | _ => none }
def fnExactConditionalRow : OpenClaim := { program := "ythbmemimpakljaa", sum := "cd96cb545e35e8cd8e08f72e7394b7fdbe1b16bf4db58adf19e6d300bf131493", func := "loop.example/g01402/laws.FnExactConditional", spec := "fnExactConditional", inPlace := ["internal/abi.NoEscape", "internal/bytealg.MakeNoZero"], unfollowed := true, recurses := true, apart := false }
def FnExactConditionalSaid : Prop := fnExactConditionalRow.holds Try.pinned (OpenSpec.ofChange fnExactConditionalSpec)

/-- ITS FALSE NEIGHBOUR: 'it returns false'. Refute it at one input. -/
def fnExactConditionalWrong : ChangeSpec := { name := "fnExactConditional", fn := fun _ => fun
  | [d1, d2] => { results := [.lit (.bool false)], args := [d1, d2] }
  | _ => none }
def FnExactConditionalWrongFalsely : Prop := fnExactConditionalRow.holds Try.pinned (OpenSpec.ofChange fnExactConditionalWrong)

/-- 'laws.FnExactGenOf': WHATEVER THE INPUT: true; the input reads as it did. -/
def fnExactGenOfSpec : ChangeSpec := { name := "fnExactGenOf", fn := fun _ => fun
  | [d1, d2] => { results := [.lit (.bool true)], args := [d1, d2] }
  | _ => none }
def fnExactGenOfRow : OpenClaim := { program := "ythbmemimpakljaa", sum := "cd96cb545e35e8cd8e08f72e7394b7fdbe1b16bf4db58adf19e6d300bf131493", func := "loop.example/g01402/laws.FnExactGenOf", spec := "fnExactGenOf", apart := false }
def FnExactGenOfSaid : Prop := fnExactGenOfRow.holds Try.pinned (OpenSpec.ofChange fnExactGenOfSpec)

/-- ITS FALSE NEIGHBOUR: 'it returns false'. Refute it at one input. -/
def fnExactGenOfWrong : ChangeSpec := { name := "fnExactGenOf", fn := fun _ => fun
  | [d1, d2] => { results := [.lit (.bool false)], args := [d1, d2] }
  | _ => none }
def FnExactGenOfWrongFalsely : Prop := fnExactGenOfRow.holds Try.pinned (OpenSpec.ofChange fnExactGenOfWrong)

/-- 'laws.FnExactShardOf': WHATEVER THE INPUT: true; the input reads as it did. -/
def fnExactShardOfSpec : ChangeSpec := { name := "fnExactShardOf", fn := fun _ => fun
  | [d1, d2] => { results := [.lit (.bool true)], args := [d1, d2] }
  | _ => none }
def fnExactShardOfRow : OpenClaim := { program := "ythbmemimpakljaa", sum := "cd96cb545e35e8cd8e08f72e7394b7fdbe1b16bf4db58adf19e6d300bf131493", func := "loop.example/g01402/laws.FnExactShardOf", spec := "fnExactShardOf", apart := false }
def FnExactShardOfSaid : Prop := fnExactShardOfRow.holds Try.pinned (OpenSpec.ofChange fnExactShardOfSpec)

/-- ITS FALSE NEIGHBOUR: 'it returns false'. Refute it at one input. -/
def fnExactShardOfWrong : ChangeSpec := { name := "fnExactShardOf", fn := fun _ => fun
  | [d1, d2] => { results := [.lit (.bool false)], args := [d1, d2] }
  | _ => none }
def FnExactShardOfWrongFalsely : Prop := fnExactShardOfRow.holds Try.pinned (OpenSpec.ofChange fnExactShardOfWrong)

/-- 'laws.FnExactCacheNew': WHATEVER THE INPUT: true; the input reads as it did. -/
def fnExactCacheNewSpec : ChangeSpec := { name := "fnExactCacheNew", fn := fun _ => fun
  | [d1, d2, d3] => { results := [.lit (.bool true)], args := [d1, d2, d3] }
  | _ => none }
def fnExactCacheNewRow : OpenClaim := { program := "ythbmemimpakljaa", sum := "cd96cb545e35e8cd8e08f72e7394b7fdbe1b16bf4db58adf19e6d300bf131493", func := "loop.example/g01402/laws.FnExactCacheNew", spec := "fnExactCacheNew", apart := false }
def FnExactCacheNewSaid : Prop := fnExactCacheNewRow.holds Try.pinned (OpenSpec.ofChange fnExactCacheNewSpec)

/-- ITS FALSE NEIGHBOUR: 'it returns false'. Refute it at one input. -/
def fnExactCacheNewWrong : ChangeSpec := { name := "fnExactCacheNew", fn := fun _ => fun
  | [d1, d2, d3] => { results := [.lit (.bool false)], args := [d1, d2, d3] }
  | _ => none }
def FnExactCacheNewWrongFalsely : Prop := fnExactCacheNewRow.holds Try.pinned (OpenSpec.ofChange fnExactCacheNewWrong)

/-- 'laws.FnExactSameCache': WHATEVER THE INPUT: true; the input reads as it did. -/
def fnExactSameCacheSpec : ChangeSpec := { name := "fnExactSameCache", fn := fun _ => fun
  | [d1, d2] => { results := [.lit (.bool true)], args := [d1, d2] }
  | _ => none }
def fnExactSameCacheRow : OpenClaim := { program := "ythbmemimpakljaa", sum := "cd96cb545e35e8cd8e08f72e7394b7fdbe1b16bf4db58adf19e6d300bf131493", func := "loop.example/g01402/laws.FnExactSameCache", spec := "fnExactSameCache", unfollowed := true, recurses := true, apart := false }
def FnExactSameCacheSaid : Prop := fnExactSameCacheRow.holds Try.pinned (OpenSpec.ofChange fnExactSameCacheSpec)

/-- ITS FALSE NEIGHBOUR: 'it returns false'. Refute it at one input. -/
def fnExactSameCacheWrong : ChangeSpec := { name := "fnExactSameCache", fn := fun _ => fun
  | [d1, d2] => { results := [.lit (.bool false)], args := [d1, d2] }
  | _ => none }
def FnExactSameCacheWrongFalsely : Prop := fnExactSameCacheRow.holds Try.pinned (OpenSpec.ofChange fnExactSameCacheWrong)

/- THE SECOND FORM. 'bulk': how many values and letters a reading holds, each counted each time it is reached (what is shared counts as often as it is met; a slice's spare places count too). A statement '..UptoSaid' is the law's where the arguments, and the package variables that the reading takes, are together of bulk at most 1048576: NARROWER than '..Said'. Prove '..Said' where nothing that the law and all that it calls make is longer than what came in: it says more and counts as full. Else prove '..UptoSaid'. A law counts once. -/
mutual
def uptoBulk {H : Type} : DataW H → Nat
  | .lit (.string bytes) => bytes.length + 1
  | .lit _ => 1
  | .nil => 1
  | .ptr d => uptoBulk d + 1
  | .slice elems spare => uptoBulkAll elems + uptoBulkAll spare + 1
  | .agg parts => uptoBulkAll parts + 1
  | .iface _ d => uptoBulk d + 1
  | .map entries => uptoBulkEntries entries + 1
  | .held _ => 1
def uptoBulkAll {H : Type} : List (DataW H) → Nat
  | [] => 0
  | d :: r => uptoBulk d + uptoBulkAll r
def uptoBulkEntries {H : Type} : List (Lit × DataW H) → Nat
  | [] => 0
  | x :: r => uptoBulkEntry x + uptoBulkEntries r
def uptoBulkEntry {H : Type} : Lit × DataW H → Nat
  | (.string bytes, d) => bytes.length + uptoBulk d + 1
  | (_, d) => uptoBulk d + 1
 end
def uptoSmall : (H : Type) → List (DataW H) → Bool := fun _ ds => decide (uptoBulkAll ds ≤ 1048576)
def OpenSpec.upto (s : _root_.Go.ChangeSpec) : _root_.Go.OpenSpec := { _root_.Go.OpenSpec.ofChange s with cond := some uptoSmall }

/-- 'laws.FnExactConnNew', WHERE WHAT IT READS IS OF BULK AT MOST 1048576: true; the input reads as it did. -/
def fnExactConnNewUptoRow : OpenClaim := { program := "ythbmemimpakljaa", sum := "cd96cb545e35e8cd8e08f72e7394b7fdbe1b16bf4db58adf19e6d300bf131493", func := "loop.example/g01402/laws.FnExactConnNew", spec := "fnExactConnNew", apart := false, narrowed := true }
def FnExactConnNewUptoSaid : Prop := fnExactConnNewUptoRow.holds Try.pinned (OpenSpec.upto fnExactConnNewSpec)

/-- 'laws.FnExactRefreshed', WHERE WHAT IT READS IS OF BULK AT MOST 1048576: true; the input reads as it did. -/
def fnExactRefreshedUptoRow : OpenClaim := { program := "ythbmemimpakljaa", sum := "cd96cb545e35e8cd8e08f72e7394b7fdbe1b16bf4db58adf19e6d300bf131493", func := "loop.example/g01402/laws.FnExactRefreshed", spec := "fnExactRefreshed", inPlace := ["internal/abi.NoEscape", "internal/bytealg.MakeNoZero"], unfollowed := true, recurses := true, apart := false, narrowed := true }
def FnExactRefreshedUptoSaid : Prop := fnExactRefreshedUptoRow.holds Try.pinned (OpenSpec.upto fnExactRefreshedSpec)

/-- 'laws.FnExactConditional', WHERE WHAT IT READS IS OF BULK AT MOST 1048576: true; the input reads as it did. -/
def fnExactConditionalUptoRow : OpenClaim := { program := "ythbmemimpakljaa", sum := "cd96cb545e35e8cd8e08f72e7394b7fdbe1b16bf4db58adf19e6d300bf131493", func := "loop.example/g01402/laws.FnExactConditional", spec := "fnExactConditional", inPlace := ["internal/abi.NoEscape", "internal/bytealg.MakeNoZero"], unfollowed := true, recurses := true, apart := false, narrowed := true }
def FnExactConditionalUptoSaid : Prop := fnExactConditionalUptoRow.holds Try.pinned (OpenSpec.upto fnExactConditionalSpec)

/-- 'laws.FnExactGenOf', WHERE WHAT IT READS IS OF BULK AT MOST 1048576: true; the input reads as it did. -/
def fnExactGenOfUptoRow : OpenClaim := { program := "ythbmemimpakljaa", sum := "cd96cb545e35e8cd8e08f72e7394b7fdbe1b16bf4db58adf19e6d300bf131493", func := "loop.example/g01402/laws.FnExactGenOf", spec := "fnExactGenOf", apart := false, narrowed := true }
def FnExactGenOfUptoSaid : Prop := fnExactGenOfUptoRow.holds Try.pinned (OpenSpec.upto fnExactGenOfSpec)

/-- 'laws.FnExactShardOf', WHERE WHAT IT READS IS OF BULK AT MOST 1048576: true; the input reads as it did. -/
def fnExactShardOfUptoRow : OpenClaim := { program := "ythbmemimpakljaa", sum := "cd96cb545e35e8cd8e08f72e7394b7fdbe1b16bf4db58adf19e6d300bf131493", func := "loop.example/g01402/laws.FnExactShardOf", spec := "fnExactShardOf", apart := false, narrowed := true }
def FnExactShardOfUptoSaid : Prop := fnExactShardOfUptoRow.holds Try.pinned (OpenSpec.upto fnExactShardOfSpec)

/-- 'laws.FnExactCacheNew', WHERE WHAT IT READS IS OF BULK AT MOST 1048576: true; the input reads as it did. -/
def fnExactCacheNewUptoRow : OpenClaim := { program := "ythbmemimpakljaa", sum := "cd96cb545e35e8cd8e08f72e7394b7fdbe1b16bf4db58adf19e6d300bf131493", func := "loop.example/g01402/laws.FnExactCacheNew", spec := "fnExactCacheNew", apart := false, narrowed := true }
def FnExactCacheNewUptoSaid : Prop := fnExactCacheNewUptoRow.holds Try.pinned (OpenSpec.upto fnExactCacheNewSpec)

/-- 'laws.FnExactSameCache', WHERE WHAT IT READS IS OF BULK AT MOST 1048576: true; the input reads as it did. -/
def fnExactSameCacheUptoRow : OpenClaim := { program := "ythbmemimpakljaa", sum := "cd96cb545e35e8cd8e08f72e7394b7fdbe1b16bf4db58adf19e6d300bf131493", func := "loop.example/g01402/laws.FnExactSameCache", spec := "fnExactSameCache", unfollowed := true, recurses := true, apart := false, narrowed := true }
def FnExactSameCacheUptoSaid : Prop := fnExactSameCacheUptoRow.holds Try.pinned (OpenSpec.upto fnExactSameCacheSpec)

end Rows
end Go.Proofs.Ythbmemimpakljaa
