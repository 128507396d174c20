/- The law FnExactRefreshed: the statement, for every input. -/
import Derived.Test.YtiefookbpgdmoaaRows
import Derived.Test.YtiefookbpgdmoaaR3
import Derived.WalkKit
import Derived.ProofKit
import Derived.OpenShut
import Derived.ShutString
import Derived.ChangeOld
import Derived.Below
import Derived.SizedLaws
import Derived.Carry
namespace Go.Proofs.Ytiefookbpgdmoaa.fnExactRefreshed
open Go.ChangeShapes Go.WideShapes Go.ChangeAt Go.RowKit Go.Ev Go.Proofs.Ytiefookbpgdmoaa.ApT
open Go.ChangeMaps (open_string shut_string)
set_option linter.unusedVariables false
theorem own : ownKnob Try.prog.godebug = none := by kernel_rfl
theorem laidOut : laidOutB Try.prog = true := by kernel_rfl
theorem opn26 : Opn Try.prog 26 ls26 := opn_of (n := 30) (by kernel_rfl)
theorem pre4 : ∀ (y0 : dens ls26) (y1 : dens ls26), wfs ls26 y0 → wfs ls26 y1 → ct4.pre (pmk (t := .v true .ro ls26) y0 (pmk (t := .v true .ro ls26) y1 ())) :=
  by_like (A := ∀ (y0 : Rsp) (y1 : Rsp), wd y0 → wd y1 → p_FnExactRefreshed y0 y1) (fun y0 y1 h0 h1 => ⟨h0, h1⟩) (by kernel_rfl)
set_option maxRecDepth 100000 in
theorem lifted (os : Os) (started : os.Started) (H : Type) (enc : TypeId × Value → H) :
    ReturnsInHanded {} Try.checked os 4 .any (Rows.fnExactRefreshedSpec.pre6 enc Try.prog Try.f4 Rows.fnExactRefreshedRow.domain false) (Rows.fnExactRefreshedSpec.post enc Try.prog Try.f4 false true false false) := by
  refine returnsInHanded_of_change_sized (C := Try.checked) own started (by kernel_rfl) Try.func4
    (ChangeSpec.witness6 (enc := enc) (C := Try.checked) false ⟨#[], #[.agg #[.int .i64 0, .slice none 0 0, .string ByteArray.empty], .agg #[.int .i64 0, .slice none 0 0, .string ByteArray.empty]], []⟩ 8 (by kernel_rfl) (by kernel_rfl) (by kernel_rfl) (by kernel_rfl)) ?_
  intro W base args ds gs before hval0 hW hcnd hsz0 _
  have hval : ∀ (j : Nat) t v, Try.f4.params[j]? = some t → args[j]? = some v → Value.okWide Try.prog W .any base t v := hval0
  have hW' := hW
  obtain ⟨p, q, hA0, hV, rfl, hfz, hnd⟩ := hW
  have hA : DataW.TrodAll enc Try.prog W 0 (fun _ => true) true Try.f4.params.toList args.toList ds p := hA0
  rw [Try.params4] at hA hval
  obtain ⟨v0, vs0, d0, ds0, p0, q0, hargs, rfl, rfl, h0, r0⟩ := trodAll_cons hA
  obtain ⟨v1, vs1, d1, ds1, p1, q1, rfl, rfl, rfl, h1, r1⟩ := trodAll_cons r0
  obtain ⟨rfl, rfl, rfl⟩ := trodAll_nil r1
  obtain rfl : args = #[v0, v1] := by cases args; simp_all
  obtain ⟨rfl, rfl⟩ := trodVars_none hV
  obtain ⟨ca0, rfl, _⟩ := okWide_struct Try.underlying26 (hval 0 26 v0 rfl rfl)
  have k0 := h0
  have lt0 : ∀ x ∈ p0, x.block < W.heap.size := by obtain ⟨m, hm⟩ := k0; exact DataW.trod_lt m _ _ _ hm
  obtain ⟨y0, hk0, hf0⟩ : ∃ y : dens ls26, repLs (roRow W (now W)) ls26 [] 0 0 y ca0.toList ∧ wfs ls26 y := by obtain ⟨m, hm⟩ := h0; exact opn26.op m _ _ hm
  have ar0 : argR (now W) W (.v true .ro ls26) y0 (.agg ca0) := arg_agg hk0
  obtain ⟨ca1, rfl, _⟩ := okWide_struct Try.underlying26 (hval 1 26 v1 rfl rfl)
  have k1 := h1
  have lt1 : ∀ x ∈ p1, x.block < W.heap.size := by obtain ⟨m, hm⟩ := k1; exact DataW.trod_lt m _ _ _ hm
  obtain ⟨y1, hk1, hf1⟩ : ∃ y : dens ls26, repLs (roRow W (now W)) ls26 [] 0 0 y ca1.toList ∧ wfs ls26 y := by obtain ⟨m, hm⟩ := h1; exact opn26.op m _ _ hm
  have ar1 : argR (now W) W (.v true .ro ls26) y1 (.agg ca1) := arg_agg hk1
  have hcalls := bool_end (vals := #[.agg ca0, .agg ca1]) (all4 W trivial) (args_cons ar0 (args_cons ar1 args_nil)) (pre4 y0 y1 hf0 hf1)
  refine hcalls.mono fun e W' ⟨he, bel⟩ => ?_
  subst he
  exact ⟨_, rfl, _, _, _, [], _, [], hW', trodAll_mk1 (shut_bool Try.underlying4 _), (trodAll_cons_mk (Below.trod laidOut (by kernel_rfl) (of_decide_eq_true (by kernel_rfl)) k0 bel lt0) (trodAll_cons_mk (Below.trod laidOut (by kernel_rfl) (of_decide_eq_true (by kernel_rfl)) k1 bel lt1) trodAll_mk0)), rfl, bel.frame _, fun h => by cases h⟩
theorem over : Rows.fnExactRefreshedRow.holds Try.pinned (OpenSpec.ofChange Rows.fnExactRefreshedSpec) :=
  OpenClaim.holds_of_wide 4 Try.f4 rfl rfl rfl rfl rfl rfl rfl ⟨rfl, rfl, rfl, rfl, rfl⟩ rfl rfl rfl rfl rfl (by kernel_rfl) Try.func4 (by kernel_rfl)
    (of_decide_eq_true (by kernel_rfl)) (by unfold Func.isWrapper; first | (rw [if_pos (by decide +kernel)]; kernel_rfl) | (rw [if_neg (by decide +kernel)]; exact ⟨rfl, rfl⟩))
    (fun os started H enc _ => lifted os started H enc)
theorem proved : Rows.FnExactRefreshedSaid := over
#print axioms proved
end Go.Proofs.Ytiefookbpgdmoaa.fnExactRefreshed
namespace Go.Proofs.Ytiefookbpgdmoaa
/-- The row, under a short name, for the claim. -/
theorem fnExactRefreshed_holds : Rows.FnExactRefreshedSaid := fnExactRefreshed.proved
end Go.Proofs.Ytiefookbpgdmoaa
