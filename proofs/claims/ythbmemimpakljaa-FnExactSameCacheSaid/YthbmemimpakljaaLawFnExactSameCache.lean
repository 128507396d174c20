-- Written by own.py, a program of this session's own, which calls the kit's print. Lean checks it.
import Derived.Test.YthbmemimpakljaaRows
import Derived.Test.YthbmemimpakljaaQFnExactSameCachex13
import Derived.Test.YthbmemimpakljaaPureFnExactSameCache
import Derived.Test.YthbmemimpakljaaOpen
import Derived.WalkKit
import Derived.ProofKit
import Derived.OpenShut
import Derived.ShutString
import Derived.ChangeOld
import Derived.Below
import Derived.SizedLaws
import Derived.Carry
namespace Go.Proofs.Ythbmemimpakljaa.fnExactSameCache
open Go.ChangeShapes Go.WideShapes Go.ChangeAt Go.RowKit Go.Proofs.Ythbmemimpakljaa.QFnExactSameCache Go.Proofs.YthbmemimpakljaaW.PrintWords
open Go.ChangeMaps (open_string shut_string)
set_option linter.unusedVariables false
theorem own : ownKnob Try.prog.godebug = none := by kernel_rfl
theorem laidOut : laidOutB Try.prog = true := by kernel_rfl
theorem opens3 : Opn.Opens Try.prog 3 (Kd.int .i64) (Opn.Fint .i64) := Opn.Opens.int Try.underlying3 (by kernel_rfl)
theorem opens9 : Opn.Opens Try.prog 9 Kd.string Opn.Fstr := Opn.Opens.string Try.underlying9 (by kernel_rfl)
theorem opens110 : Opn.Opens Try.prog 110 k110 F110 := Opn.Opens.iso (fun y => (⟨y.1, y.2⟩ : S110)) (fun _ => rfl) (Opn.Opens.struct Try.underlying110 (by kernel_rfl) (Opn.OpensF.cons rfl opens9 (Opn.OpensF.one rfl opens9)))
theorem opens36 : Opn.Opens Try.prog 36 (Kd.slice 110 k110) (Opn.Fsl F110) := Opn.Opens.slice Try.underlying36 (by kernel_rfl) opens110
theorem opens38 : Opn.Opens Try.prog 38 k38 F38 := Opn.Opens.iso (fun y => (⟨y.1, y.2.1, y.2.2⟩ : S38)) (fun _ => rfl) (Opn.Opens.struct Try.underlying38 (by kernel_rfl) (Opn.OpensF.cons rfl opens3 (Opn.OpensF.cons rfl opens36 (Opn.OpensF.one rfl opens9))))
theorem opens157 : Opn.Opens Try.prog 157 k157 F157 := Opn.Opens.iso (fun y => (⟨y.1, y.2.1, y.2.2.1, y.2.2.2.1, y.2.2.2.2⟩ : S157)) (fun _ => rfl) (Opn.Opens.struct Try.underlying157 (by kernel_rfl) (Opn.OpensF.cons rfl opens9 (Opn.OpensF.cons rfl opens36 (Opn.OpensF.cons rfl opens38 (Opn.OpensF.cons rfl opens3 (Opn.OpensF.one rfl opens3))))))
theorem opens4 : Opn.Opens Try.prog 4 Kd.bool Opn.Fbool := Opn.Opens.bool Try.underlying4 (by kernel_rfl)
theorem opens159 : Opn.Opens Try.prog 159 k159 F159 := Opn.Opens.iso (fun y => (⟨y.1, y.2⟩ : S159)) (fun _ => rfl) (Opn.Opens.struct Try.underlying159 (by kernel_rfl) (Opn.OpensF.cons rfl opens157 (Opn.OpensF.one rfl opens4)))
theorem opens118 : Opn.Opens Try.prog 118 (Kd.slice 159 k159) (Opn.Fsl F159) := Opn.Opens.slice Try.underlying118 (by kernel_rfl) opens159
theorem opens120 : Opn.Opens Try.prog 120 k120 F120 := Opn.Opens.iso (fun y => (⟨y.1, y.2.1, y.2.2.1, y.2.2.2⟩ : S120)) (fun _ => rfl) (Opn.Opens.struct Try.underlying120 (by kernel_rfl) (Opn.OpensF.cons rfl opens3 (Opn.OpensF.cons rfl opens3 (Opn.OpensF.cons rfl opens118 (Opn.OpensF.one rfl opens3)))))
theorem opens53 : Opn.Opens Try.prog 53 (Kd.slice 120 k120) (Opn.Fsl F120) := Opn.Opens.slice Try.underlying53 (by kernel_rfl) opens120
theorem opens122 : Opn.Opens Try.prog 122 k122 F122 := Opn.Opens.iso (fun y => (⟨y.1, y.2⟩ : S122)) (fun _ => rfl) (Opn.Opens.struct Try.underlying122 (by kernel_rfl) (Opn.OpensF.cons rfl opens9 (Opn.OpensF.one rfl opens3)))
theorem opens54 : Opn.Opens Try.prog 54 (Kd.slice 122 k122) (Opn.Fsl F122) := Opn.Opens.slice Try.underlying54 (by kernel_rfl) opens122
theorem opens56 : Opn.Opens Try.prog 56 k56 F56 := Opn.Opens.iso (fun y => (⟨y.1, y.2⟩ : S56)) (fun _ => rfl) (Opn.Opens.struct Try.underlying56 (by kernel_rfl) (Opn.OpensF.cons rfl opens53 (Opn.OpensF.one rfl opens54)))
set_option maxRecDepth 100000 in
theorem lifted (os : Os) (started : os.Started) (H : Type) (enc : TypeId × Value → H) :
    ReturnsInHanded {} Try.checked os 9 .any (Rows.fnExactSameCacheSpec.pre6 enc Try.prog Try.f9 Rows.fnExactSameCacheRow.domain false) (Rows.fnExactSameCacheSpec.post enc Try.prog Try.f9 false true false false) := by
  refine returnsInHanded_of_change_sized (C := Try.checked) own started (by kernel_rfl) Try.func9
    (ChangeSpec.witness6 (enc := enc) (C := Try.checked) false ⟨#[], #[.agg #[.slice none 0 0, .slice none 0 0], .agg #[.slice none 0 0, .slice none 0 0]], []⟩ 8 (by kernel_rfl) (by kernel_rfl) (by kernel_rfl) (by kernel_rfl)) ?_
  intro W base args ds gs before hval0 hW hcnd hsz0 _
  have hsz : (DataW.weightsEach Try.prog (Try.f9.params.toList ++ Rows.fnExactSameCacheSpec.plain.varTypes Try.prog) (ds ++ gs)).all (· ≤ reachBytes) = true := hsz0
  have hval : ∀ (j : Nat) t v, Try.f9.params[j]? = some t → args[j]? = some v → Value.okWide Try.prog W .any base t v := hval0
  have hW' := hW
  obtain ⟨p, q, hA0, hV, rfl, hfz, hnd⟩ := hW
  have hA : DataW.TrodAll enc Try.prog W 0 (fun _ => true) true Try.f9.params.toList args.toList ds p := hA0
  rw [Try.params9] at hA hval hsz
  obtain ⟨v0, vs0, d0, ds0, p0, q0, hargs, rfl, rfl, h0, r0⟩ := trodAll_cons hA
  obtain ⟨v1, vs1, d1, ds1, p1, q1, rfl, rfl, rfl, h1, r1⟩ := trodAll_cons r0
  obtain ⟨rfl, rfl, rfl⟩ := trodAll_nil r1
  obtain rfl : args = #[v0, v1] := by cases args; simp_all
  obtain ⟨rfl, rfl⟩ := trodVars_none hV
  obtain ⟨ca0, rfl, _⟩ := okWide_struct Try.underlying56 (hval 0 56 v0 rfl rfl)
  have k0 := h0
  have lt0 : ∀ x ∈ p0, x.block < W.heap.size := by obtain ⟨m, hm⟩ := k0; exact DataW.trod_lt m _ _ _ hm
  obtain ⟨x0, hk0, hf0⟩ : ∃ x, Kd.K k56 W x ca0.toList ∧ F56 x := by obtain ⟨m, hm⟩ := h0; exact opens56.op m _ _ hm
  obtain ⟨ca1, rfl, _⟩ := okWide_struct Try.underlying56 (hval 1 56 v1 rfl rfl)
  have k1 := h1
  have lt1 : ∀ x ∈ p1, x.block < W.heap.size := by obtain ⟨m, hm⟩ := k1; exact DataW.trod_lt m _ _ _ hm
  obtain ⟨x1, hk1, hf1⟩ : ∃ x, Kd.K k56 W x ca1.toList ∧ F56 x := by obtain ⟨m, hm⟩ := h1; exact opens56.op m _ _ hm
  clear hA0 hval0 hsz0 hsz
  have hcalls := laws_FnExactSameCache.walk Pure.FnExactSameCache x0 ca0.toList x1 ca1.toList W hk0 hf0 hk1 hf1
  simp only [Array.toArray_toList] at hcalls
  refine hcalls.mono fun e W' ⟨he, bel⟩ => ?_
  subst he
  exact ⟨_, rfl, _, _, _, [], _, [], hW', trodAll_mk1 (shut_bool Try.underlying4 _), (trodAll_cons_mk (Below.trod laidOut (by kernel_rfl) (of_decide_eq_true (by kernel_rfl)) k0 bel lt0) (trodAll_cons_mk (Below.trod laidOut (by kernel_rfl) (of_decide_eq_true (by kernel_rfl)) k1 bel lt1) trodAll_mk0)), rfl, bel.frame _, fun h => by cases h⟩
theorem over : Rows.fnExactSameCacheRow.holds Try.pinned (OpenSpec.ofChange Rows.fnExactSameCacheSpec) :=
  OpenClaim.holds_of_wide 9 Try.f9 rfl rfl rfl rfl rfl rfl rfl ⟨rfl, rfl, rfl, rfl, rfl⟩ rfl rfl rfl rfl rfl (by kernel_rfl) Try.func9 (by kernel_rfl)
    (of_decide_eq_true (by kernel_rfl)) (by unfold Func.isWrapper; first | (rw [if_pos (by decide +kernel)]; kernel_rfl) | (rw [if_neg (by decide +kernel)]; exact ⟨rfl, rfl⟩))
    (fun os started H enc _ => lifted os started H enc)
theorem proved : Rows.FnExactSameCacheSaid := over
#print axioms proved
end Go.Proofs.Ythbmemimpakljaa.fnExactSameCache
namespace Go.Proofs.Ythbmemimpakljaa
/-- The row, under a short name, for the claim. -/
theorem fnExactSameCache_holds : Rows.FnExactSameCacheSaid := fnExactSameCache.proved
end Go.Proofs.Ythbmemimpakljaa
