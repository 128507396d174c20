/-
  No cell of these rows narrows 'for every input' (looked for: loops, veiled, ifaces, maps, wideKeys, modest, calm, conditions, laid).
  DERIVED. THE GIVEN ROWS OF THIS SEAT. 10 by the template 'for every input the law returns true; each argument reads behind the call as it read before'; 0 by the template 'total and deterministic' (their statements: YtlhnhilaeoegoaaTotals.lean).
  GIVEN WITH THE SEED: the statements are not yours to turn. If you find one false, say at which input.
  Laid BY PROGRAM, IN A SANDBOX (cutbox-rows.mjs): the forced cells as the released guide's own fill.sh prints them over the translation d60ba4e572d54657… (all of the seat's roots in one cut). By AI agents, Wed Nov 11 2026. No macro, syntax, notation, axiom, sorry.
-/
import Derived.Test.YtlhnhilaeoegoaaChecked
import GoSem.Claim
import GoSem.ClaimJoined
import GoSem.ClaimMapViews
import Derived.JoinedTies
import Derived.KernelRfl
namespace Go.Proofs.Ytlhnhilaeoegoaa
/- THE CELL 'sum', in the pinned program and in every row, IS THE sha256 OF THE DUMP (.gsa) THAT YtlhnhilaeoegoaaProg.lean LOADS. Nothing in Lean hashes anything: it is a label: what it is worth is what the hold of that sum in a sandbox is worth. -/
noncomputable def Try.pinned : Pinned := { name := "ytlhnhilaeoegoaa", sum := "d60ba4e572d54657f336b4c203d345fea8920641ddb75b32ffb680f3053d1c4f", checked := Try.checked }
namespace Rows
def none {H : Type} : Left H := { results := [], args := [] }

/-- 'laws.FnExactSucceeded': WHATEVER THE INPUT: true; the input reads as it did. -/
def fnExactSucceededSpec : ChangeSpec := { name := "fnExactSucceeded", fn := fun _ => fun
  | [d] => { results := [.lit (.bool true)], args := [d] }
  | _ => none }
def fnExactSucceededRow : OpenClaim := { program := "ytlhnhilaeoegoaa", sum := "d60ba4e572d54657f336b4c203d345fea8920641ddb75b32ffb680f3053d1c4f", func := "loop.example/g01402/laws.FnExactSucceeded", spec := "fnExactSucceeded", apart := false }
def FnExactSucceededSaid : Prop := fnExactSucceededRow.holds Try.pinned (OpenSpec.ofChange fnExactSucceededSpec)

/-- ITS FALSE NEIGHBOUR: 'it returns false'. Refute it at one input. -/
def fnExactSucceededWrong : ChangeSpec := { name := "fnExactSucceeded", fn := fun _ => fun
  | [d] => { results := [.lit (.bool false)], args := [d] }
  | _ => none }
def FnExactSucceededWrongFalsely : Prop := fnExactSucceededRow.holds Try.pinned (OpenSpec.ofChange fnExactSucceededWrong)

/-- 'laws.FnExactIsSafe': WHATEVER THE INPUT: true; the input reads as it did. -/
def fnExactIsSafeSpec : ChangeSpec := { name := "fnExactIsSafe", fn := fun _ => fun
  | [d] => { results := [.lit (.bool true)], args := [d] }
  | _ => none }
def fnExactIsSafeRow : OpenClaim := { program := "ytlhnhilaeoegoaa", sum := "d60ba4e572d54657f336b4c203d345fea8920641ddb75b32ffb680f3053d1c4f", func := "loop.example/g01402/laws.FnExactIsSafe", spec := "fnExactIsSafe", apart := false }
def FnExactIsSafeSaid : Prop := fnExactIsSafeRow.holds Try.pinned (OpenSpec.ofChange fnExactIsSafeSpec)

/-- ITS FALSE NEIGHBOUR: 'it returns false'. Refute it at one input. -/
def fnExactIsSafeWrong : ChangeSpec := { name := "fnExactIsSafe", fn := fun _ => fun
  | [d] => { results := [.lit (.bool false)], args := [d] }
  | _ => none }
def FnExactIsSafeWrongFalsely : Prop := fnExactIsSafeRow.holds Try.pinned (OpenSpec.ofChange fnExactIsSafeWrong)

/-- 'laws.FnExactFnv': WHATEVER THE INPUT: true; the input reads as it did. -/
def fnExactFnvSpec : ChangeSpec := { name := "fnExactFnv", fn := fun _ => fun
  | [d] => { results := [.lit (.bool true)], args := [d] }
  | _ => none }
def fnExactFnvRow : OpenClaim := { program := "ytlhnhilaeoegoaa", sum := "d60ba4e572d54657f336b4c203d345fea8920641ddb75b32ffb680f3053d1c4f", func := "loop.example/g01402/laws.FnExactFnv", spec := "fnExactFnv", apart := false }
def FnExactFnvSaid : Prop := fnExactFnvRow.holds Try.pinned (OpenSpec.ofChange fnExactFnvSpec)

/-- ITS FALSE NEIGHBOUR: 'it returns false'. Refute it at one input. -/
def fnExactFnvWrong : ChangeSpec := { name := "fnExactFnv", fn := fun _ => fun
  | [d] => { results := [.lit (.bool false)], args := [d] }
  | _ => none }
def FnExactFnvWrongFalsely : Prop := fnExactFnvRow.holds Try.pinned (OpenSpec.ofChange fnExactFnvWrong)

/-- 'laws.FnExactHeuristic': WHATEVER THE INPUT: true; the input reads as it did. -/
def fnExactHeuristicSpec : ChangeSpec := { name := "fnExactHeuristic", fn := fun _ => fun
  | [d] => { results := [.lit (.bool true)], args := [d] }
  | _ => none }
def fnExactHeuristicRow : OpenClaim := { program := "ytlhnhilaeoegoaa", sum := "d60ba4e572d54657f336b4c203d345fea8920641ddb75b32ffb680f3053d1c4f", func := "loop.example/g01402/laws.FnExactHeuristic", spec := "fnExactHeuristic", apart := false }
def FnExactHeuristicSaid : Prop := fnExactHeuristicRow.holds Try.pinned (OpenSpec.ofChange fnExactHeuristicSpec)

/-- ITS FALSE NEIGHBOUR: 'it returns false'. Refute it at one input. -/
def fnExactHeuristicWrong : ChangeSpec := { name := "fnExactHeuristic", fn := fun _ => fun
  | [d] => { results := [.lit (.bool false)], args := [d] }
  | _ => none }
def FnExactHeuristicWrongFalsely : Prop := fnExactHeuristicRow.holds Try.pinned (OpenSpec.ofChange fnExactHeuristicWrong)

/-- 'laws.FnExactFailed': WHATEVER THE INPUT: true; the input reads as it did. -/
def fnExactFailedSpec : ChangeSpec := { name := "fnExactFailed", fn := fun _ => fun
  | [d] => { results := [.lit (.bool true)], args := [d] }
  | _ => none }
def fnExactFailedRow : OpenClaim := { program := "ytlhnhilaeoegoaa", sum := "d60ba4e572d54657f336b4c203d345fea8920641ddb75b32ffb680f3053d1c4f", func := "loop.example/g01402/laws.FnExactFailed", spec := "fnExactFailed", apart := false }
def FnExactFailedSaid : Prop := fnExactFailedRow.holds Try.pinned (OpenSpec.ofChange fnExactFailedSpec)

/-- ITS FALSE NEIGHBOUR: 'it returns false'. Refute it at one input. -/
def fnExactFailedWrong : ChangeSpec := { name := "fnExactFailed", fn := fun _ => fun
  | [d] => { results := [.lit (.bool false)], args := [d] }
  | _ => none }
def FnExactFailedWrongFalsely : Prop := fnExactFailedRow.holds Try.pinned (OpenSpec.ofChange fnExactFailedWrong)

/-- 'laws.FnExactVersionOf': WHATEVER THE INPUT: true; the input reads as it did. -/
def fnExactVersionOfSpec : ChangeSpec := { name := "fnExactVersionOf", fn := fun _ => fun
  | [d1, d2] => { results := [.lit (.bool true)], args := [d1, d2] }
  | _ => none }
def fnExactVersionOfRow : OpenClaim := { program := "ytlhnhilaeoegoaa", sum := "d60ba4e572d54657f336b4c203d345fea8920641ddb75b32ffb680f3053d1c4f", func := "loop.example/g01402/laws.FnExactVersionOf", spec := "fnExactVersionOf", unfollowed := true, recurses := true, apart := false }
def FnExactVersionOfSaid : Prop := fnExactVersionOfRow.holds Try.pinned (OpenSpec.ofChange fnExactVersionOfSpec)

/-- ITS FALSE NEIGHBOUR: 'it returns false'. Refute it at one input. -/
def fnExactVersionOfWrong : ChangeSpec := { name := "fnExactVersionOf", fn := fun _ => fun
  | [d1, d2] => { results := [.lit (.bool false)], args := [d1, d2] }
  | _ => none }
def FnExactVersionOfWrongFalsely : Prop := fnExactVersionOfRow.holds Try.pinned (OpenSpec.ofChange fnExactVersionOfWrong)

/-- 'laws.FnExactHasValidator': WHATEVER THE INPUT: true; the input reads as it did. -/
def fnExactHasValidatorSpec : ChangeSpec := { name := "fnExactHasValidator", fn := fun _ => fun
  | [d] => { results := [.lit (.bool true)], args := [d] }
  | _ => none }
def fnExactHasValidatorRow : OpenClaim := { program := "ytlhnhilaeoegoaa", sum := "d60ba4e572d54657f336b4c203d345fea8920641ddb75b32ffb680f3053d1c4f", func := "loop.example/g01402/laws.FnExactHasValidator", spec := "fnExactHasValidator", inPlace := ["internal/abi.NoEscape", "internal/bytealg.MakeNoZero"], apart := false }
def FnExactHasValidatorSaid : Prop := fnExactHasValidatorRow.holds Try.pinned (OpenSpec.ofChange fnExactHasValidatorSpec)

/-- ITS FALSE NEIGHBOUR: 'it returns false'. Refute it at one input. -/
def fnExactHasValidatorWrong : ChangeSpec := { name := "fnExactHasValidator", fn := fun _ => fun
  | [d] => { results := [.lit (.bool false)], args := [d] }
  | _ => none }
def FnExactHasValidatorWrongFalsely : Prop := fnExactHasValidatorRow.holds Try.pinned (OpenSpec.ofChange fnExactHasValidatorWrong)

/-- 'laws.FnExactShardNew': WHATEVER THE INPUT: true; the input reads as it did. -/
def fnExactShardNewSpec : ChangeSpec := { name := "fnExactShardNew", fn := fun _ => fun
  | [d1, d2] => { results := [.lit (.bool true)], args := [d1, d2] }
  | _ => none }
def fnExactShardNewRow : OpenClaim := { program := "ytlhnhilaeoegoaa", sum := "d60ba4e572d54657f336b4c203d345fea8920641ddb75b32ffb680f3053d1c4f", func := "loop.example/g01402/laws.FnExactShardNew", spec := "fnExactShardNew", apart := false }
def FnExactShardNewSaid : Prop := fnExactShardNewRow.holds Try.pinned (OpenSpec.ofChange fnExactShardNewSpec)

/-- ITS FALSE NEIGHBOUR: 'it returns false'. Refute it at one input. -/
def fnExactShardNewWrong : ChangeSpec := { name := "fnExactShardNew", fn := fun _ => fun
  | [d1, d2] => { results := [.lit (.bool false)], args := [d1, d2] }
  | _ => none }
def FnExactShardNewWrongFalsely : Prop := fnExactShardNewRow.holds Try.pinned (OpenSpec.ofChange fnExactShardNewWrong)

/-- 'laws.FnExactSameOrigin': WHATEVER THE INPUT: true; the input reads as it did. -/
def fnExactSameOriginSpec : ChangeSpec := { name := "fnExactSameOrigin", fn := fun _ => fun
  | [d1, d2] => { results := [.lit (.bool true)], args := [d1, d2] }
  | _ => none }
def fnExactSameOriginRow : OpenClaim := { program := "ytlhnhilaeoegoaa", sum := "d60ba4e572d54657f336b4c203d345fea8920641ddb75b32ffb680f3053d1c4f", func := "loop.example/g01402/laws.FnExactSameOrigin", spec := "fnExactSameOrigin", unfollowed := true, recurses := true, apart := false }
def FnExactSameOriginSaid : Prop := fnExactSameOriginRow.holds Try.pinned (OpenSpec.ofChange fnExactSameOriginSpec)

/-- ITS FALSE NEIGHBOUR: 'it returns false'. Refute it at one input. -/
def fnExactSameOriginWrong : ChangeSpec := { name := "fnExactSameOrigin", fn := fun _ => fun
  | [d1, d2] => { results := [.lit (.bool false)], args := [d1, d2] }
  | _ => none }
def FnExactSameOriginWrongFalsely : Prop := fnExactSameOriginRow.holds Try.pinned (OpenSpec.ofChange fnExactSameOriginWrong)

/-- 'laws.FnExactSameShard': WHATEVER THE INPUT: true; the input reads as it did. -/
def fnExactSameShardSpec : ChangeSpec := { name := "fnExactSameShard", fn := fun _ => fun
  | [d1, d2] => { results := [.lit (.bool true)], args := [d1, d2] }
  | _ => none }
def fnExactSameShardRow : OpenClaim := { program := "ytlhnhilaeoegoaa", sum := "d60ba4e572d54657f336b4c203d345fea8920641ddb75b32ffb680f3053d1c4f", func := "loop.example/g01402/laws.FnExactSameShard", spec := "fnExactSameShard", unfollowed := true, recurses := true, apart := false }
def FnExactSameShardSaid : Prop := fnExactSameShardRow.holds Try.pinned (OpenSpec.ofChange fnExactSameShardSpec)

/-- ITS FALSE NEIGHBOUR: 'it returns false'. Refute it at one input. -/
def fnExactSameShardWrong : ChangeSpec := { name := "fnExactSameShard", fn := fun _ => fun
  | [d1, d2] => { results := [.lit (.bool false)], args := [d1, d2] }
  | _ => none }
def FnExactSameShardWrongFalsely : Prop := fnExactSameShardRow.holds Try.pinned (OpenSpec.ofChange fnExactSameShardWrong)

/- THE SECOND FORM. 'bulk': how many values and letters a reading holds, each counted each time it is reached (what is shared counts as often as it is met; a slice's spare places count too). A statement '..UptoSaid' is the law's where the arguments, and the package variables that the reading takes, are together of bulk at most 1048576: NARROWER than '..Said'. Prove '..Said' where nothing that the law and all that it calls make is longer than what came in: it says more and counts as full. Else prove '..UptoSaid'. A law counts once. -/
mutual
def uptoBulk {H : Type} : DataW H → Nat
  | .lit (.string bytes) => bytes.length + 1
  | .lit _ => 1
  | .nil => 1
  | .ptr d => uptoBulk d + 1
  | .slice elems spare => uptoBulkAll elems + uptoBulkAll spare + 1
  | .agg parts => uptoBulkAll parts + 1
  | .iface _ d => uptoBulk d + 1
  | .map entries => uptoBulkEntries entries + 1
  | .held _ => 1
def uptoBulkAll {H : Type} : List (DataW H) → Nat
  | [] => 0
  | d :: r => uptoBulk d + uptoBulkAll r
def uptoBulkEntries {H : Type} : List (Lit × DataW H) → Nat
  | [] => 0
  | x :: r => uptoBulkEntry x + uptoBulkEntries r
def uptoBulkEntry {H : Type} : Lit × DataW H → Nat
  | (.string bytes, d) => bytes.length + uptoBulk d + 1
  | (_, d) => uptoBulk d + 1
 end
def uptoSmall : (H : Type) → List (DataW H) → Bool := fun _ ds => decide (uptoBulkAll ds ≤ 1048576)
def OpenSpec.upto (s : _root_.Go.ChangeSpec) : _root_.Go.OpenSpec := { _root_.Go.OpenSpec.ofChange s with cond := some uptoSmall }

/-- 'laws.FnExactSucceeded', WHERE WHAT IT READS IS OF BULK AT MOST 1048576: true; the input reads as it did. -/
def fnExactSucceededUptoRow : OpenClaim := { program := "ytlhnhilaeoegoaa", sum := "d60ba4e572d54657f336b4c203d345fea8920641ddb75b32ffb680f3053d1c4f", func := "loop.example/g01402/laws.FnExactSucceeded", spec := "fnExactSucceeded", apart := false, narrowed := true }
def FnExactSucceededUptoSaid : Prop := fnExactSucceededUptoRow.holds Try.pinned (OpenSpec.upto fnExactSucceededSpec)

/-- 'laws.FnExactIsSafe', WHERE WHAT IT READS IS OF BULK AT MOST 1048576: true; the input reads as it did. -/
def fnExactIsSafeUptoRow : OpenClaim := { program := "ytlhnhilaeoegoaa", sum := "d60ba4e572d54657f336b4c203d345fea8920641ddb75b32ffb680f3053d1c4f", func := "loop.example/g01402/laws.FnExactIsSafe", spec := "fnExactIsSafe", apart := false, narrowed := true }
def FnExactIsSafeUptoSaid : Prop := fnExactIsSafeUptoRow.holds Try.pinned (OpenSpec.upto fnExactIsSafeSpec)

/-- 'laws.FnExactFnv', WHERE WHAT IT READS IS OF BULK AT MOST 1048576: true; the input reads as it did. -/
def fnExactFnvUptoRow : OpenClaim := { program := "ytlhnhilaeoegoaa", sum := "d60ba4e572d54657f336b4c203d345fea8920641ddb75b32ffb680f3053d1c4f", func := "loop.example/g01402/laws.FnExactFnv", spec := "fnExactFnv", apart := false, narrowed := true }
def FnExactFnvUptoSaid : Prop := fnExactFnvUptoRow.holds Try.pinned (OpenSpec.upto fnExactFnvSpec)

/-- 'laws.FnExactHeuristic', WHERE WHAT IT READS IS OF BULK AT MOST 1048576: true; the input reads as it did. -/
def fnExactHeuristicUptoRow : OpenClaim := { program := "ytlhnhilaeoegoaa", sum := "d60ba4e572d54657f336b4c203d345fea8920641ddb75b32ffb680f3053d1c4f", func := "loop.example/g01402/laws.FnExactHeuristic", spec := "fnExactHeuristic", apart := false, narrowed := true }
def FnExactHeuristicUptoSaid : Prop := fnExactHeuristicUptoRow.holds Try.pinned (OpenSpec.upto fnExactHeuristicSpec)

/-- 'laws.FnExactFailed', WHERE WHAT IT READS IS OF BULK AT MOST 1048576: true; the input reads as it did. -/
def fnExactFailedUptoRow : OpenClaim := { program := "ytlhnhilaeoegoaa", sum := "d60ba4e572d54657f336b4c203d345fea8920641ddb75b32ffb680f3053d1c4f", func := "loop.example/g01402/laws.FnExactFailed", spec := "fnExactFailed", apart := false, narrowed := true }
def FnExactFailedUptoSaid : Prop := fnExactFailedUptoRow.holds Try.pinned (OpenSpec.upto fnExactFailedSpec)

/-- 'laws.FnExactVersionOf', WHERE WHAT IT READS IS OF BULK AT MOST 1048576: true; the input reads as it did. -/
def fnExactVersionOfUptoRow : OpenClaim := { program := "ytlhnhilaeoegoaa", sum := "d60ba4e572d54657f336b4c203d345fea8920641ddb75b32ffb680f3053d1c4f", func := "loop.example/g01402/laws.FnExactVersionOf", spec := "fnExactVersionOf", unfollowed := true, recurses := true, apart := false, narrowed := true }
def FnExactVersionOfUptoSaid : Prop := fnExactVersionOfUptoRow.holds Try.pinned (OpenSpec.upto fnExactVersionOfSpec)

/-- 'laws.FnExactHasValidator', WHERE WHAT IT READS IS OF BULK AT MOST 1048576: true; the input reads as it did. -/
def fnExactHasValidatorUptoRow : OpenClaim := { program := "ytlhnhilaeoegoaa", sum := "d60ba4e572d54657f336b4c203d345fea8920641ddb75b32ffb680f3053d1c4f", func := "loop.example/g01402/laws.FnExactHasValidator", spec := "fnExactHasValidator", inPlace := ["internal/abi.NoEscape", "internal/bytealg.MakeNoZero"], apart := false, narrowed := true }
def FnExactHasValidatorUptoSaid : Prop := fnExactHasValidatorUptoRow.holds Try.pinned (OpenSpec.upto fnExactHasValidatorSpec)

/-- 'laws.FnExactShardNew', WHERE WHAT IT READS IS OF BULK AT MOST 1048576: true; the input reads as it did. -/
def fnExactShardNewUptoRow : OpenClaim := { program := "ytlhnhilaeoegoaa", sum := "d60ba4e572d54657f336b4c203d345fea8920641ddb75b32ffb680f3053d1c4f", func := "loop.example/g01402/laws.FnExactShardNew", spec := "fnExactShardNew", apart := false, narrowed := true }
def FnExactShardNewUptoSaid : Prop := fnExactShardNewUptoRow.holds Try.pinned (OpenSpec.upto fnExactShardNewSpec)

/-- 'laws.FnExactSameOrigin', WHERE WHAT IT READS IS OF BULK AT MOST 1048576: true; the input reads as it did. -/
def fnExactSameOriginUptoRow : OpenClaim := { program := "ytlhnhilaeoegoaa", sum := "d60ba4e572d54657f336b4c203d345fea8920641ddb75b32ffb680f3053d1c4f", func := "loop.example/g01402/laws.FnExactSameOrigin", spec := "fnExactSameOrigin", unfollowed := true, recurses := true, apart := false, narrowed := true }
def FnExactSameOriginUptoSaid : Prop := fnExactSameOriginUptoRow.holds Try.pinned (OpenSpec.upto fnExactSameOriginSpec)

/-- 'laws.FnExactSameShard', WHERE WHAT IT READS IS OF BULK AT MOST 1048576: true; the input reads as it did. -/
def fnExactSameShardUptoRow : OpenClaim := { program := "ytlhnhilaeoegoaa", sum := "d60ba4e572d54657f336b4c203d345fea8920641ddb75b32ffb680f3053d1c4f", func := "loop.example/g01402/laws.FnExactSameShard", spec := "fnExactSameShard", unfollowed := true, recurses := true, apart := false, narrowed := true }
def FnExactSameShardUptoSaid : Prop := fnExactSameShardUptoRow.holds Try.pinned (OpenSpec.upto fnExactSameShardSpec)

end Rows
end Go.Proofs.Ytlhnhilaeoegoaa
