/- The law FnExactCacheNew: the statement, for every input. -/
import Derived.Test.YtdglpinlegnjkaaRows
import Derived.Test.Ytdglpinlegnjkaacn4
import Derived.WalkKit
import Derived.ProofKit
import Derived.OpenShut
import Derived.ShutString
import Derived.ChangeOld
import Derived.Below
import Derived.SizedLaws
import Derived.Carry
namespace Go.Proofs.Ytdglpinlegnjkaa.fnExactCacheNew
open Go.ChangeShapes Go.WideShapes Go.ChangeAt Go.RowKit Go.Ev Go.Proofs.Ytdglpinlegnjkaa.Ap
open Go.ChangeMaps (open_string shut_string)
set_option linter.unusedVariables false
theorem own : ownKnob Try.prog.godebug = none := by kernel_rfl
theorem laidOut : laidOutB Try.prog = true := by kernel_rfl
theorem pre3 : ∀ (y0 : dens ls3) (y1 : dens ls3) (y2 : dens ls3), wfs ls3 y0 → wfs ls3 y1 → wfs ls3 y2 → ct3.pre (pmk (t := .v false .ro ls3) y0 (pmk (t := .v false .ro ls3) y1 (pmk (t := .v false .ro ls3) y2 ()))) :=
  by_like (A := ∀ (y0 : Int) (y1 : Int) (y2 : Int), wd y0 → wd y1 → wd y2 → p_FnExactCacheNew y0 y1 y2) (fun y0 y1 y2 h0 h1 h2 => ⟨h0, h1, h2⟩) (by kernel_rfl)
set_option maxRecDepth 100000 in
theorem lifted (os : Os) (started : os.Started) (H : Type) (enc : TypeId × Value → H) :
    ReturnsInHanded {} Try.checked os 3 .any (Rows.fnExactCacheNewSpec.pre6 enc Try.prog Try.f3 Rows.fnExactCacheNewRow.domain false) (Rows.fnExactCacheNewSpec.post enc Try.prog Try.f3 false true false false) := by
  refine returnsInHanded_of_change_sized (C := Try.checked) own started (by kernel_rfl) Try.func3
    (ChangeSpec.witness6 (enc := enc) (C := Try.checked) false ⟨#[], #[.int .i64 0, .int .i64 0, .int .i64 0], []⟩ 8 (by kernel_rfl) (by kernel_rfl) (by kernel_rfl) (by kernel_rfl)) ?_
  intro W base args ds gs before hval0 hW hcnd hsz0 _
  have hval : ∀ (j : Nat) t v, Try.f3.params[j]? = some t → args[j]? = some v → Value.okWide Try.prog W .any base t v := hval0
  have hW' := hW
  obtain ⟨p, q, hA0, hV, rfl, hfz, hnd⟩ := hW
  have hA : DataW.TrodAll enc Try.prog W 0 (fun _ => true) true Try.f3.params.toList args.toList ds p := hA0
  rw [Try.params3] at hA hval
  obtain ⟨v0, vs0, d0, ds0, p0, q0, hargs, rfl, rfl, h0, r0⟩ := trodAll_cons hA
  obtain ⟨v1, vs1, d1, ds1, p1, q1, rfl, rfl, rfl, h1, r1⟩ := trodAll_cons r0
  obtain ⟨v2, vs2, d2, ds2, p2, q2, rfl, rfl, rfl, h2, r2⟩ := trodAll_cons r1
  obtain ⟨rfl, rfl, rfl⟩ := trodAll_nil r2
  obtain rfl : args = #[v0, v1, v2] := by cases args; simp_all
  obtain ⟨rfl, rfl⟩ := trodVars_none hV
  obtain ⟨y0, rfl, rfl, rfl, z0⟩ := open_int Try.underlying3 (hval 0 3 v0 rfl rfl) h0
  have ar0 : argR (now W) W (.v false .ro ls3) y0 (.int .i64 y0) := arg_one (by simp only [repLs, repL]; exact ⟨_, rfl, rfl⟩)
  have hf0 : wfs ls3 y0 := by simp only [wfs, wf]; exact z0
  obtain ⟨y1, rfl, rfl, rfl, z1⟩ := open_int Try.underlying3 (hval 1 3 v1 rfl rfl) h1
  have ar1 : argR (now W) W (.v false .ro ls3) y1 (.int .i64 y1) := arg_one (by simp only [repLs, repL]; exact ⟨_, rfl, rfl⟩)
  have hf1 : wfs ls3 y1 := by simp only [wfs, wf]; exact z1
  obtain ⟨y2, rfl, rfl, rfl, z2⟩ := open_int Try.underlying3 (hval 2 3 v2 rfl rfl) h2
  have ar2 : argR (now W) W (.v false .ro ls3) y2 (.int .i64 y2) := arg_one (by simp only [repLs, repL]; exact ⟨_, rfl, rfl⟩)
  have hf2 : wfs ls3 y2 := by simp only [wfs, wf]; exact z2
  have hcalls := bool_end (vals := #[.int .i64 y0, .int .i64 y1, .int .i64 y2]) (all3 W trivial) (args_cons ar0 (args_cons ar1 (args_cons ar2 args_nil))) (pre3 y0 y1 y2 hf0 hf1 hf2)
  refine hcalls.mono fun e W' ⟨he, bel⟩ => ?_
  subst he
  exact ⟨_, rfl, _, _, _, [], _, [], hW', trodAll_mk1 (shut_bool Try.underlying4 _), (trodAll_cons_mk (shut_int Try.underlying3 z0) (trodAll_cons_mk (shut_int Try.underlying3 z1) (trodAll_cons_mk (shut_int Try.underlying3 z2) trodAll_mk0))), rfl, bel.frame _, fun h => by cases h⟩
theorem over : Rows.fnExactCacheNewRow.holds Try.pinned (OpenSpec.ofChange Rows.fnExactCacheNewSpec) :=
  OpenClaim.holds_of_wide 3 Try.f3 rfl rfl rfl rfl rfl rfl rfl ⟨rfl, rfl, rfl, rfl, rfl⟩ rfl rfl rfl rfl rfl (by kernel_rfl) Try.func3 (by kernel_rfl)
    (of_decide_eq_true (by kernel_rfl)) (by unfold Func.isWrapper; first | (rw [if_pos (by decide +kernel)]; kernel_rfl) | (rw [if_neg (by decide +kernel)]; exact ⟨rfl, rfl⟩))
    (fun os started H enc _ => lifted os started H enc)
theorem proved : Rows.FnExactCacheNewSaid := over
#print axioms proved
end Go.Proofs.Ytdglpinlegnjkaa.fnExactCacheNew
namespace Go.Proofs.Ytdglpinlegnjkaa
/-- The row, under a short name, for the claim. -/
theorem fnExactCacheNew_holds : Rows.FnExactCacheNewSaid := fnExactCacheNew.proved
end Go.Proofs.Ytdglpinlegnjkaa
