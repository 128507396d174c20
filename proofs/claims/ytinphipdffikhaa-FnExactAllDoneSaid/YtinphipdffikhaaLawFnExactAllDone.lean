/- The law FnExactAllDone: the statement, for every input. -/
import Derived.Test.YtinphipdffikhaaRows
import Derived.Test.YtinphipdffikhaaG3
import Derived.WalkKit
import Derived.ProofKit
import Derived.OpenShut
import Derived.ShutString
import Derived.ChangeOld
import Derived.Below
import Derived.SizedLaws
import Derived.Carry
namespace Go.Proofs.Ytinphipdffikhaa.fnExactAllDone
open Go.ChangeShapes Go.WideShapes Go.ChangeAt Go.RowKit Go.Ev Go.Proofs.YtinphipdffikhaaEv
open Go.ChangeMaps (open_string shut_string)
set_option linter.unusedVariables false
theorem own : ownKnob Try.prog.godebug = none := by kernel_rfl
theorem laidOut : laidOutB Try.prog = true := by kernel_rfl
theorem opn33 : Opn Try.prog 33 ls33 := opn_of (n := 30) (by kernel_rfl)
theorem pre4 : ∀ (y0 : dens ls33), wfs ls33 y0 → ct4.pre (pmk (t := .v true .ro ls33) y0 ()) :=
  by_like (A := ∀ (y0 : Wld), wd y0 → p_FnExactAllDone y0) (fun y0 h0 => h0) (by kernel_rfl)
set_option maxRecDepth 100000 in
theorem lifted (os : Os) (started : os.Started) (H : Type) (enc : TypeId × Value → H) :
    ReturnsInHanded {} Try.checked os 4 .any (Rows.fnExactAllDoneSpec.pre6 enc Try.prog Try.f4 Rows.fnExactAllDoneRow.domain false) (Rows.fnExactAllDoneSpec.post enc Try.prog Try.f4 false true false false) := by
  refine returnsInHanded_of_change_sized (C := Try.checked) own started (by kernel_rfl) Try.func4
    (ChangeSpec.witness6 (enc := enc) (C := Try.checked) false ⟨#[], #[.agg #[.int .i64 0, .int .i64 0, .slice none 0 0, .slice none 0 0, .slice none 0 0, .slice none 0 0, .slice none 0 0, .slice none 0 0]], []⟩ 8 (by kernel_rfl) (by kernel_rfl) (by kernel_rfl) (by kernel_rfl)) ?_
  intro W base args ds gs before hval0 hW hcnd hsz0 _
  have hval : ∀ (j : Nat) t v, Try.f4.params[j]? = some t → args[j]? = some v → Value.okWide Try.prog W .any base t v := hval0
  have hW' := hW
  obtain ⟨p, q, hA0, hV, rfl, hfz, hnd⟩ := hW
  have hA : DataW.TrodAll enc Try.prog W 0 (fun _ => true) true Try.f4.params.toList args.toList ds p := hA0
  rw [Try.params4] at hA hval
  obtain ⟨v0, vs0, d0, ds0, p0, q0, hargs, rfl, rfl, h0, r0⟩ := trodAll_cons hA
  obtain ⟨rfl, rfl, rfl⟩ := trodAll_nil r0
  obtain rfl : args = #[v0] := by cases args; simp_all
  obtain ⟨rfl, rfl⟩ := trodVars_none hV
  obtain ⟨ca0, rfl, _⟩ := okWide_struct Try.underlying33 (hval 0 33 v0 rfl rfl)
  have k0 := h0
  have lt0 : ∀ x ∈ p0, x.block < W.heap.size := by obtain ⟨m, hm⟩ := k0; exact DataW.trod_lt m _ _ _ hm
  obtain ⟨y0, hk0, hf0⟩ : ∃ y : dens ls33, repLs (roRow W (now W)) ls33 [] 0 0 y ca0.toList ∧ wfs ls33 y := by obtain ⟨m, hm⟩ := h0; exact opn33.op m _ _ hm
  have ar0 : argR (now W) W (.v true .ro ls33) y0 (.agg ca0) := arg_agg hk0
  have hcalls := bool_end (vals := #[.agg ca0]) (all4 W trivial) (args_cons ar0 args_nil) (pre4 y0 hf0)
  refine hcalls.mono fun e W' ⟨he, bel⟩ => ?_
  subst he
  exact ⟨_, rfl, _, _, _, [], _, [], hW', trodAll_mk1 (shut_bool Try.underlying4 _), (trodAll_cons_mk (Below.trod laidOut (by kernel_rfl) (of_decide_eq_true (by kernel_rfl)) k0 bel lt0) trodAll_mk0), rfl, bel.frame _, fun h => by cases h⟩
theorem over : Rows.fnExactAllDoneRow.holds Try.pinned (OpenSpec.ofChange Rows.fnExactAllDoneSpec) :=
  OpenClaim.holds_of_wide 4 Try.f4 rfl rfl rfl rfl rfl rfl rfl ⟨rfl, rfl, rfl, rfl, rfl⟩ rfl rfl rfl rfl rfl (by kernel_rfl) Try.func4 (by kernel_rfl)
    (of_decide_eq_true (by kernel_rfl)) (by unfold Func.isWrapper; first | (rw [if_pos (by decide +kernel)]; kernel_rfl) | (rw [if_neg (by decide +kernel)]; exact ⟨rfl, rfl⟩))
    (fun os started H enc _ => lifted os started H enc)
theorem proved : Rows.FnExactAllDoneSaid := over
#print axioms proved
end Go.Proofs.Ytinphipdffikhaa.fnExactAllDone
namespace Go.Proofs.Ytinphipdffikhaa
/-- The row, under a short name, for the claim. -/
theorem fnExactAllDone_holds : Rows.FnExactAllDoneSaid := fnExactAllDone.proved
end Go.Proofs.Ytinphipdffikhaa
