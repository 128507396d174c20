-- Written by own.py, a program of this session's own, which calls the kit's print. Lean checks it.
import Derived.Test.YtlhnhilaeoegoaaRows
import Derived.Test.YtlhnhilaeoegoaaQFnExactSameShardx8
import Derived.Test.YtlhnhilaeoegoaaPureFnExactSameShard
import Derived.Test.YtlhnhilaeoegoaaOpen
import Derived.WalkKit
import Derived.ProofKit
import Derived.OpenShut
import Derived.ShutString
import Derived.ChangeOld
import Derived.Below
import Derived.SizedLaws
import Derived.Carry
namespace Go.Proofs.Ytlhnhilaeoegoaa.fnExactSameShard
open Go.ChangeShapes Go.WideShapes Go.ChangeAt Go.RowKit Go.Proofs.Ytlhnhilaeoegoaa.QFnExactSameShard Go.Proofs.YtlhnhilaeoegoaaW.PrintWords
open Go.ChangeMaps (open_string shut_string)
set_option linter.unusedVariables false
theorem own : ownKnob Try.prog.godebug = none := by kernel_rfl
theorem laidOut : laidOutB Try.prog = true := by kernel_rfl
theorem opens3 : Opn.Opens Try.prog 3 (Kd.int .i64) (Opn.Fint .i64) := Opn.Opens.int Try.underlying3 (by kernel_rfl)
theorem opens9 : Opn.Opens Try.prog 9 Kd.string Opn.Fstr := Opn.Opens.string Try.underlying9 (by kernel_rfl)
theorem opens103 : Opn.Opens Try.prog 103 k103 F103 := Opn.Opens.iso (fun y => (⟨y.1, y.2⟩ : S103)) (fun _ => rfl) (Opn.Opens.struct Try.underlying103 (by kernel_rfl) (Opn.OpensF.cons rfl opens9 (Opn.OpensF.one rfl opens9)))
theorem opens42 : Opn.Opens Try.prog 42 (Kd.slice 103 k103) (Opn.Fsl F103) := Opn.Opens.slice Try.underlying42 (by kernel_rfl) opens103
theorem opens44 : Opn.Opens Try.prog 44 k44 F44 := Opn.Opens.iso (fun y => (⟨y.1, y.2.1, y.2.2⟩ : S44)) (fun _ => rfl) (Opn.Opens.struct Try.underlying44 (by kernel_rfl) (Opn.OpensF.cons rfl opens3 (Opn.OpensF.cons rfl opens42 (Opn.OpensF.one rfl opens9))))
theorem opens107 : Opn.Opens Try.prog 107 k107 F107 := Opn.Opens.iso (fun y => (⟨y.1, y.2.1, y.2.2.1, y.2.2.2.1, y.2.2.2.2⟩ : S107)) (fun _ => rfl) (Opn.Opens.struct Try.underlying107 (by kernel_rfl) (Opn.OpensF.cons rfl opens9 (Opn.OpensF.cons rfl opens42 (Opn.OpensF.cons rfl opens44 (Opn.OpensF.cons rfl opens3 (Opn.OpensF.one rfl opens3))))))
theorem opens4 : Opn.Opens Try.prog 4 Kd.bool Opn.Fbool := Opn.Opens.bool Try.underlying4 (by kernel_rfl)
theorem opens109 : Opn.Opens Try.prog 109 k109 F109 := Opn.Opens.iso (fun y => (⟨y.1, y.2⟩ : S109)) (fun _ => rfl) (Opn.Opens.struct Try.underlying109 (by kernel_rfl) (Opn.OpensF.cons rfl opens107 (Opn.OpensF.one rfl opens4)))
theorem opens57 : Opn.Opens Try.prog 57 (Kd.slice 109 k109) (Opn.Fsl F109) := Opn.Opens.slice Try.underlying57 (by kernel_rfl) opens109
theorem opens59 : Opn.Opens Try.prog 59 k59 F59 := Opn.Opens.iso (fun y => (⟨y.1, y.2.1, y.2.2.1, y.2.2.2⟩ : S59)) (fun _ => rfl) (Opn.Opens.struct Try.underlying59 (by kernel_rfl) (Opn.OpensF.cons rfl opens3 (Opn.OpensF.cons rfl opens3 (Opn.OpensF.cons rfl opens57 (Opn.OpensF.one rfl opens3)))))
set_option maxRecDepth 100000 in
theorem lifted (os : Os) (started : os.Started) (H : Type) (enc : TypeId × Value → H) :
    ReturnsInHanded {} Try.checked os 12 .any (Rows.fnExactSameShardSpec.pre6 enc Try.prog Try.f12 Rows.fnExactSameShardRow.domain false) (Rows.fnExactSameShardSpec.post enc Try.prog Try.f12 false true false false) := by
  refine returnsInHanded_of_change_sized (C := Try.checked) own started (by kernel_rfl) Try.func12
    (ChangeSpec.witness6 (enc := enc) (C := Try.checked) false ⟨#[], #[.agg #[.int .i64 0, .int .i64 0, .slice none 0 0, .int .i64 0], .agg #[.int .i64 0, .int .i64 0, .slice none 0 0, .int .i64 0]], []⟩ 8 (by kernel_rfl) (by kernel_rfl) (by kernel_rfl) (by kernel_rfl)) ?_
  intro W base args ds gs before hval0 hW hcnd hsz0 _
  have hsz : (DataW.weightsEach Try.prog (Try.f12.params.toList ++ Rows.fnExactSameShardSpec.plain.varTypes Try.prog) (ds ++ gs)).all (· ≤ reachBytes) = true := hsz0
  have hval : ∀ (j : Nat) t v, Try.f12.params[j]? = some t → args[j]? = some v → Value.okWide Try.prog W .any base t v := hval0
  have hW' := hW
  obtain ⟨p, q, hA0, hV, rfl, hfz, hnd⟩ := hW
  have hA : DataW.TrodAll enc Try.prog W 0 (fun _ => true) true Try.f12.params.toList args.toList ds p := hA0
  rw [Try.params12] at hA hval hsz
  obtain ⟨v0, vs0, d0, ds0, p0, q0, hargs, rfl, rfl, h0, r0⟩ := trodAll_cons hA
  obtain ⟨v1, vs1, d1, ds1, p1, q1, rfl, rfl, rfl, h1, r1⟩ := trodAll_cons r0
  obtain ⟨rfl, rfl, rfl⟩ := trodAll_nil r1
  obtain rfl : args = #[v0, v1] := by cases args; simp_all
  obtain ⟨rfl, rfl⟩ := trodVars_none hV
  obtain ⟨ca0, rfl, _⟩ := okWide_struct Try.underlying59 (hval 0 59 v0 rfl rfl)
  have k0 := h0
  have lt0 : ∀ x ∈ p0, x.block < W.heap.size := by obtain ⟨m, hm⟩ := k0; exact DataW.trod_lt m _ _ _ hm
  obtain ⟨x0, hk0, hf0⟩ : ∃ x, Kd.K k59 W x ca0.toList ∧ F59 x := by obtain ⟨m, hm⟩ := h0; exact opens59.op m _ _ hm
  obtain ⟨ca1, rfl, _⟩ := okWide_struct Try.underlying59 (hval 1 59 v1 rfl rfl)
  have k1 := h1
  have lt1 : ∀ x ∈ p1, x.block < W.heap.size := by obtain ⟨m, hm⟩ := k1; exact DataW.trod_lt m _ _ _ hm
  obtain ⟨x1, hk1, hf1⟩ : ∃ x, Kd.K k59 W x ca1.toList ∧ F59 x := by obtain ⟨m, hm⟩ := h1; exact opens59.op m _ _ hm
  clear hA0 hval0 hsz0 hsz
  have hcalls := laws_FnExactSameShard.walk Pure.FnExactSameShard x0 ca0.toList x1 ca1.toList W hk0 hf0 hk1 hf1
  simp only [Array.toArray_toList] at hcalls
  refine hcalls.mono fun e W' ⟨he, bel⟩ => ?_
  subst he
  exact ⟨_, rfl, _, _, _, [], _, [], hW', trodAll_mk1 (shut_bool Try.underlying4 _), (trodAll_cons_mk (Below.trod laidOut (by kernel_rfl) (of_decide_eq_true (by kernel_rfl)) k0 bel lt0) (trodAll_cons_mk (Below.trod laidOut (by kernel_rfl) (of_decide_eq_true (by kernel_rfl)) k1 bel lt1) trodAll_mk0)), rfl, bel.frame _, fun h => by cases h⟩
theorem over : Rows.fnExactSameShardRow.holds Try.pinned (OpenSpec.ofChange Rows.fnExactSameShardSpec) :=
  OpenClaim.holds_of_wide 12 Try.f12 rfl rfl rfl rfl rfl rfl rfl ⟨rfl, rfl, rfl, rfl, rfl⟩ rfl rfl rfl rfl rfl (by kernel_rfl) Try.func12 (by kernel_rfl)
    (of_decide_eq_true (by kernel_rfl)) (by unfold Func.isWrapper; first | (rw [if_pos (by decide +kernel)]; kernel_rfl) | (rw [if_neg (by decide +kernel)]; exact ⟨rfl, rfl⟩))
    (fun os started H enc _ => lifted os started H enc)
theorem proved : Rows.FnExactSameShardSaid := over
#print axioms proved
end Go.Proofs.Ytlhnhilaeoegoaa.fnExactSameShard
namespace Go.Proofs.Ytlhnhilaeoegoaa
/-- The row, under a short name, for the claim. -/
theorem fnExactSameShard_holds : Rows.FnExactSameShardSaid := fnExactSameShard.proved
end Go.Proofs.Ytlhnhilaeoegoaa
