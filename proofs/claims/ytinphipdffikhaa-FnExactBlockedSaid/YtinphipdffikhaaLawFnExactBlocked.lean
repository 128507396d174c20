/- The law FnExactBlocked: the statement, for every input. -/
import Derived.Test.YtinphipdffikhaaRows
import Derived.Test.YtinphipdffikhaaG3
import Derived.WalkKit
import Derived.ProofKit
import Derived.OpenShut
import Derived.ShutString
import Derived.ChangeOld
import Derived.Below
import Derived.SizedLaws
import Derived.Carry
namespace Go.Proofs.Ytinphipdffikhaa.fnExactBlocked
open Go.ChangeShapes Go.WideShapes Go.ChangeAt Go.RowKit Go.Ev Go.Proofs.YtinphipdffikhaaEv
open Go.ChangeMaps (open_string shut_string)
set_option linter.unusedVariables false
theorem own : ownKnob Try.prog.godebug = none := by kernel_rfl
theorem laidOut : laidOutB Try.prog = true := by kernel_rfl
theorem opn33 : Opn Try.prog 33 ls33 := opn_of (n := 30) (by kernel_rfl)
theorem pre3 : ∀ (y0 : dens ls33) (y1 : dens ls3), wfs ls33 y0 → wfs ls3 y1 → ct3.pre (pmk (t := .v true .ro ls33) y0 (pmk (t := .v false .ro ls3) y1 ())) :=
  by_like (A := ∀ (y0 : Wld) (y1 : Int), wd y0 → wd y1 → p_FnExactBlocked y0 y1) (fun y0 y1 h0 h1 => ⟨h0, h1⟩) (by kernel_rfl)
set_option maxRecDepth 100000 in
theorem lifted (os : Os) (started : os.Started) (H : Type) (enc : TypeId × Value → H) :
    ReturnsInHanded {} Try.checked os 3 .any (Rows.fnExactBlockedSpec.pre6 enc Try.prog Try.f3 Rows.fnExactBlockedRow.domain false) (Rows.fnExactBlockedSpec.post enc Try.prog Try.f3 false true false false) := by
  refine returnsInHanded_of_change_sized (C := Try.checked) own started (by kernel_rfl) Try.func3
    (ChangeSpec.witness6 (enc := enc) (C := Try.checked) false ⟨#[], #[.agg #[.int .i64 0, .int .i64 0, .slice none 0 0, .slice none 0 0, .slice none 0 0, .slice none 0 0, .slice none 0 0, .slice none 0 0], .int .i64 0], []⟩ 8 (by kernel_rfl) (by kernel_rfl) (by kernel_rfl) (by kernel_rfl)) ?_
  intro W base args ds gs before hval0 hW hcnd hsz0 _
  have hval : ∀ (j : Nat) t v, Try.f3.params[j]? = some t → args[j]? = some v → Value.okWide Try.prog W .any base t v := hval0
  have hW' := hW
  obtain ⟨p, q, hA0, hV, rfl, hfz, hnd⟩ := hW
  have hA : DataW.TrodAll enc Try.prog W 0 (fun _ => true) true Try.f3.params.toList args.toList ds p := hA0
  rw [Try.params3] at hA hval
  obtain ⟨v0, vs0, d0, ds0, p0, q0, hargs, rfl, rfl, h0, r0⟩ := trodAll_cons hA
  obtain ⟨v1, vs1, d1, ds1, p1, q1, rfl, rfl, rfl, h1, r1⟩ := trodAll_cons r0
  obtain ⟨rfl, rfl, rfl⟩ := trodAll_nil r1
  obtain rfl : args = #[v0, v1] := by cases args; simp_all
  obtain ⟨rfl, rfl⟩ := trodVars_none hV
  obtain ⟨ca0, rfl, _⟩ := okWide_struct Try.underlying33 (hval 0 33 v0 rfl rfl)
  have k0 := h0
  have lt0 : ∀ x ∈ p0, x.block < W.heap.size := by obtain ⟨m, hm⟩ := k0; exact DataW.trod_lt m _ _ _ hm
  obtain ⟨y0, hk0, hf0⟩ : ∃ y : dens ls33, repLs (roRow W (now W)) ls33 [] 0 0 y ca0.toList ∧ wfs ls33 y := by obtain ⟨m, hm⟩ := h0; exact opn33.op m _ _ hm
  have ar0 : argR (now W) W (.v true .ro ls33) y0 (.agg ca0) := arg_agg hk0
  obtain ⟨y1, rfl, rfl, rfl, z1⟩ := open_int Try.underlying3 (hval 1 3 v1 rfl rfl) h1
  have ar1 : argR (now W) W (.v false .ro ls3) y1 (.int .i64 y1) := arg_one (by simp only [repLs, repL]; exact ⟨_, rfl, rfl⟩)
  have hf1 : wfs ls3 y1 := by simp only [wfs, wf]; exact z1
  have hcalls := bool_end (vals := #[.agg ca0, .int .i64 y1]) (all3 W trivial) (args_cons ar0 (args_cons ar1 args_nil)) (pre3 y0 y1 hf0 hf1)
  refine hcalls.mono fun e W' ⟨he, bel⟩ => ?_
  subst he
  exact ⟨_, rfl, _, _, _, [], _, [], hW', trodAll_mk1 (shut_bool Try.underlying4 _), (trodAll_cons_mk (Below.trod laidOut (by kernel_rfl) (of_decide_eq_true (by kernel_rfl)) k0 bel lt0) (trodAll_cons_mk (shut_int Try.underlying3 z1) trodAll_mk0)), rfl, bel.frame _, fun h => by cases h⟩
theorem over : Rows.fnExactBlockedRow.holds Try.pinned (OpenSpec.ofChange Rows.fnExactBlockedSpec) :=
  OpenClaim.holds_of_wide 3 Try.f3 rfl rfl rfl rfl rfl rfl rfl ⟨rfl, rfl, rfl, rfl, rfl⟩ rfl rfl rfl rfl rfl (by kernel_rfl) Try.func3 (by kernel_rfl)
    (of_decide_eq_true (by kernel_rfl)) (by unfold Func.isWrapper; first | (rw [if_pos (by decide +kernel)]; kernel_rfl) | (rw [if_neg (by decide +kernel)]; exact ⟨rfl, rfl⟩))
    (fun os started H enc _ => lifted os started H enc)
theorem proved : Rows.FnExactBlockedSaid := over
#print axioms proved
end Go.Proofs.Ytinphipdffikhaa.fnExactBlocked
namespace Go.Proofs.Ytinphipdffikhaa
/-- The row, under a short name, for the claim. -/
theorem fnExactBlocked_holds : Rows.FnExactBlockedSaid := fnExactBlocked.proved
end Go.Proofs.Ytinphipdffikhaa
