/- The law FnExactConnNew: the statement, for every input. -/
import Derived.Test.YtiefookbpgdmoaaRows
import Derived.Test.YtiefookbpgdmoaaC3
import Derived.WalkKit
import Derived.ProofKit
import Derived.OpenShut
import Derived.ShutString
import Derived.ChangeOld
import Derived.Below
import Derived.SizedLaws
import Derived.Carry
namespace Go.Proofs.Ytiefookbpgdmoaa.fnExactConnNew
open Go.ChangeShapes Go.WideShapes Go.ChangeAt Go.RowKit Go.Ev Go.Proofs.Ytiefookbpgdmoaa.ApC
open Go.ChangeMaps (open_string shut_string)
set_option linter.unusedVariables false
theorem own : ownKnob Try.prog.godebug = none := by kernel_rfl
theorem laidOut : laidOutB Try.prog = true := by kernel_rfl
theorem pre5 : ∀ (y0 : dens ls9), wfs ls9 y0 → ct5.pre (pmk (t := .v false .ro ls9) y0 ()) :=
  by_like (A := ∀ (y0 : S), wd y0 → p_FnExactConnNew y0) (fun y0 h0 => h0) (by kernel_rfl)
set_option maxRecDepth 100000 in
theorem lifted (os : Os) (started : os.Started) (H : Type) (enc : TypeId × Value → H) :
    ReturnsInHanded {} Try.checked os 5 .any (Rows.fnExactConnNewSpec.pre6 enc Try.prog Try.f5 Rows.fnExactConnNewRow.domain false) (Rows.fnExactConnNewSpec.post enc Try.prog Try.f5 false true false false) := by
  refine returnsInHanded_of_change_sized (C := Try.checked) own started (by kernel_rfl) Try.func5
    (ChangeSpec.witness6 (enc := enc) (C := Try.checked) false ⟨#[], #[.string ByteArray.empty], []⟩ 8 (by kernel_rfl) (by kernel_rfl) (by kernel_rfl) (by kernel_rfl)) ?_
  intro W base args ds gs before hval0 hW hcnd hsz0 _
  have hval : ∀ (j : Nat) t v, Try.f5.params[j]? = some t → args[j]? = some v → Value.okWide Try.prog W .any base t v := hval0
  have hW' := hW
  obtain ⟨p, q, hA0, hV, rfl, hfz, hnd⟩ := hW
  have hA : DataW.TrodAll enc Try.prog W 0 (fun _ => true) true Try.f5.params.toList args.toList ds p := hA0
  rw [Try.params5] at hA hval
  obtain ⟨v0, vs0, d0, ds0, p0, q0, hargs, rfl, rfl, h0, r0⟩ := trodAll_cons hA
  obtain ⟨rfl, rfl, rfl⟩ := trodAll_nil r0
  obtain rfl : args = #[v0] := by cases args; simp_all
  obtain ⟨rfl, rfl⟩ := trodVars_none hV
  obtain ⟨y0, rfl, rfl, rfl, z0⟩ := open_string Try.underlying9 (hval 0 9 v0 rfl rfl) h0
  have ar0 : argR (now W) W (.v false .ro ls9) y0 (.string y0) := arg_one (by simp only [repLs, repL]; exact ⟨_, rfl, rfl⟩)
  have hf0 : wfs ls9 y0 := by simp only [wfs, wf]; exact z0
  have hcalls := bool_end (vals := #[.string y0]) (all5 W trivial) (args_cons ar0 args_nil) (pre5 y0 hf0)
  refine hcalls.mono fun e W' ⟨he, bel⟩ => ?_
  subst he
  exact ⟨_, rfl, _, _, _, [], _, [], hW', trodAll_mk1 (shut_bool Try.underlying4 _), (trodAll_cons_mk (shut_string Try.underlying9 z0) trodAll_mk0), rfl, bel.frame _, fun h => by cases h⟩
theorem over : Rows.fnExactConnNewRow.holds Try.pinned (OpenSpec.ofChange Rows.fnExactConnNewSpec) :=
  OpenClaim.holds_of_wide 5 Try.f5 rfl rfl rfl rfl rfl rfl rfl ⟨rfl, rfl, rfl, rfl, rfl⟩ rfl rfl rfl rfl rfl (by kernel_rfl) Try.func5 (by kernel_rfl)
    (of_decide_eq_true (by kernel_rfl)) (by unfold Func.isWrapper; first | (rw [if_pos (by decide +kernel)]; kernel_rfl) | (rw [if_neg (by decide +kernel)]; exact ⟨rfl, rfl⟩))
    (fun os started H enc _ => lifted os started H enc)
theorem proved : Rows.FnExactConnNewSaid := over
#print axioms proved
end Go.Proofs.Ytiefookbpgdmoaa.fnExactConnNew
namespace Go.Proofs.Ytiefookbpgdmoaa
/-- The row, under a short name, for the claim. -/
theorem fnExactConnNew_holds : Rows.FnExactConnNewSaid := fnExactConnNew.proved
end Go.Proofs.Ytiefookbpgdmoaa
