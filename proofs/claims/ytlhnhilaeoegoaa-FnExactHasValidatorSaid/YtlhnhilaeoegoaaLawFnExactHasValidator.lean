-- Written by own.py, a program of this session's own, which calls the kit's print. Lean checks it.
import Derived.Test.YtlhnhilaeoegoaaRows
import Derived.Test.YtlhnhilaeoegoaaQFnExactHasValidatorx2
import Derived.Test.YtlhnhilaeoegoaaPureFnExactHasValidator
import Derived.Test.YtlhnhilaeoegoaaOpen
import Derived.WalkKit
import Derived.ProofKit
import Derived.OpenShut
import Derived.ShutString
import Derived.ChangeOld
import Derived.Below
import Derived.SizedLaws
import Derived.Carry
namespace Go.Proofs.Ytlhnhilaeoegoaa.fnExactHasValidator
open Go.ChangeShapes Go.WideShapes Go.ChangeAt Go.RowKit Go.Proofs.Ytlhnhilaeoegoaa.QFnExactHasValidator Go.Proofs.YtlhnhilaeoegoaaW.PrintWords
open Go.ChangeMaps (open_string shut_string)
set_option linter.unusedVariables false
theorem own : ownKnob Try.prog.godebug = none := by kernel_rfl
theorem laidOut : laidOutB Try.prog = true := by kernel_rfl
theorem opens3 : Opn.Opens Try.prog 3 (Kd.int .i64) (Opn.Fint .i64) := Opn.Opens.int Try.underlying3 (by kernel_rfl)
theorem opens9 : Opn.Opens Try.prog 9 Kd.string Opn.Fstr := Opn.Opens.string Try.underlying9 (by kernel_rfl)
theorem opens103 : Opn.Opens Try.prog 103 k103 F103 := Opn.Opens.iso (fun y => (⟨y.1, y.2⟩ : S103)) (fun _ => rfl) (Opn.Opens.struct Try.underlying103 (by kernel_rfl) (Opn.OpensF.cons rfl opens9 (Opn.OpensF.one rfl opens9)))
theorem opens42 : Opn.Opens Try.prog 42 (Kd.slice 103 k103) (Opn.Fsl F103) := Opn.Opens.slice Try.underlying42 (by kernel_rfl) opens103
theorem opens44 : Opn.Opens Try.prog 44 k44 F44 := Opn.Opens.iso (fun y => (⟨y.1, y.2.1, y.2.2⟩ : S44)) (fun _ => rfl) (Opn.Opens.struct Try.underlying44 (by kernel_rfl) (Opn.OpensF.cons rfl opens3 (Opn.OpensF.cons rfl opens42 (Opn.OpensF.one rfl opens9))))
set_option maxRecDepth 100000 in
theorem lifted (os : Os) (started : os.Started) (H : Type) (enc : TypeId × Value → H) :
    ReturnsInHanded {} Try.checked os 9 .any (Rows.fnExactHasValidatorSpec.pre6 enc Try.prog Try.f9 Rows.fnExactHasValidatorRow.domain false) (Rows.fnExactHasValidatorSpec.post enc Try.prog Try.f9 false true false false) := by
  refine returnsInHanded_of_change_sized (C := Try.checked) own started (by kernel_rfl) Try.func9
    (ChangeSpec.witness6 (enc := enc) (C := Try.checked) false ⟨#[], #[.agg #[.int .i64 0, .slice none 0 0, .string ByteArray.empty]], []⟩ 8 (by kernel_rfl) (by kernel_rfl) (by kernel_rfl) (by kernel_rfl)) ?_
  intro W base args ds gs before hval0 hW hcnd hsz0 _
  have hsz : (DataW.weightsEach Try.prog (Try.f9.params.toList ++ Rows.fnExactHasValidatorSpec.plain.varTypes Try.prog) (ds ++ gs)).all (· ≤ reachBytes) = true := hsz0
  have hval : ∀ (j : Nat) t v, Try.f9.params[j]? = some t → args[j]? = some v → Value.okWide Try.prog W .any base t v := hval0
  have hW' := hW
  obtain ⟨p, q, hA0, hV, rfl, hfz, hnd⟩ := hW
  have hA : DataW.TrodAll enc Try.prog W 0 (fun _ => true) true Try.f9.params.toList args.toList ds p := hA0
  rw [Try.params9] at hA hval hsz
  obtain ⟨v0, vs0, d0, ds0, p0, q0, hargs, rfl, rfl, h0, r0⟩ := trodAll_cons hA
  obtain ⟨rfl, rfl, rfl⟩ := trodAll_nil r0
  obtain rfl : args = #[v0] := by cases args; simp_all
  obtain ⟨rfl, rfl⟩ := trodVars_none hV
  obtain ⟨ca0, rfl, _⟩ := okWide_struct Try.underlying44 (hval 0 44 v0 rfl rfl)
  have k0 := h0
  have lt0 : ∀ x ∈ p0, x.block < W.heap.size := by obtain ⟨m, hm⟩ := k0; exact DataW.trod_lt m _ _ _ hm
  obtain ⟨x0, hk0, hf0⟩ : ∃ x, Kd.K k44 W x ca0.toList ∧ F44 x := by obtain ⟨m, hm⟩ := h0; exact opens44.op m _ _ hm
  clear hA0 hval0 hsz0 hsz
  have hcalls := laws_FnExactHasValidator.walk Pure.FnExactHasValidator x0 ca0.toList W hk0 hf0
  simp only [Array.toArray_toList] at hcalls
  refine hcalls.mono fun e W' ⟨he, bel⟩ => ?_
  subst he
  exact ⟨_, rfl, _, _, _, [], _, [], hW', trodAll_mk1 (shut_bool Try.underlying4 _), (trodAll_cons_mk (Below.trod laidOut (by kernel_rfl) (of_decide_eq_true (by kernel_rfl)) k0 bel lt0) trodAll_mk0), rfl, bel.frame _, fun h => by cases h⟩
theorem over : Rows.fnExactHasValidatorRow.holds Try.pinned (OpenSpec.ofChange Rows.fnExactHasValidatorSpec) :=
  OpenClaim.holds_of_wide 9 Try.f9 rfl rfl rfl rfl rfl rfl rfl ⟨rfl, rfl, rfl, rfl, rfl⟩ rfl rfl rfl rfl rfl (by kernel_rfl) Try.func9 (by kernel_rfl)
    (of_decide_eq_true (by kernel_rfl)) (by unfold Func.isWrapper; first | (rw [if_pos (by decide +kernel)]; kernel_rfl) | (rw [if_neg (by decide +kernel)]; exact ⟨rfl, rfl⟩))
    (fun os started H enc _ => lifted os started H enc)
theorem proved : Rows.FnExactHasValidatorSaid := over
#print axioms proved
end Go.Proofs.Ytlhnhilaeoegoaa.fnExactHasValidator
namespace Go.Proofs.Ytlhnhilaeoegoaa
/-- The row, under a short name, for the claim. -/
theorem fnExactHasValidator_holds : Rows.FnExactHasValidatorSaid := fnExactHasValidator.proved
end Go.Proofs.Ytlhnhilaeoegoaa
