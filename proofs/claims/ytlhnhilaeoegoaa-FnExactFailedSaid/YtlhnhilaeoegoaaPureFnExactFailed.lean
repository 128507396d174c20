/- Failed of the program (words by a switch) and of the reference (words by a list) agree at every status, in new memory each time. Conditions: none. -/
import Derived.Test.YtlhnhilaeoegoaaPFnExactFailedx3
namespace Go.Proofs.Ytlhnhilaeoegoaa.Pure
open Go.RowKit Go.Proofs.Ytlhnhilaeoegoaa.PFnExactFailed Go.Proofs.YtlhnhilaeoegoaaW.PrintWords Go.Proofs.YtlhnhilaeoegoaaW.PrintLast

theorem reason_end (a : Int) (xs : List Int) (ws : List ByteArray) (k : Nat) (i : Int) (h : ¬ i < (xs.length : Int)) :
    spec_Reason.l0 (k + 1) a xs ws i = some ⟨#[83, 116, 97, 116, 117, 115]⟩ := by
  simp only [spec_Reason.l0]; rw [if_neg h]
theorem reason_hit (a : Int) (xs : List Int) (ws : List ByteArray) (k i : Nat) (x : Int) (s : ByteArray) (hx : xs[i]? = some x) (hs : ws[i]? = some s) (h : x = a) :
    spec_Reason.l0 (k + 1) a xs ws i = some s := by
  obtain ⟨h1, h2⟩ := List.getElem?_eq_some_iff.mp hx
  obtain ⟨h3, h4⟩ := List.getElem?_eq_some_iff.mp hs
  have hr : rd xs (i : Int) = a := by unfold rd; simp [List.getD_eq_getElem?_getD, hx, h]
  have hq : rdOf ByteArray.empty ws (i : Int) = s := by unfold rdOf; simp [List.getD_eq_getElem?_getD, hs]
  simp only [spec_Reason.l0]; rw [if_pos (by omega), if_pos (by omega), if_pos hr, if_pos (by omega), hq]
theorem reason_miss (a : Int) (xs : List Int) (ws : List ByteArray) (k i : Nat) (x : Int) (hx : xs[i]? = some x) (hi : i < 100) (h : ¬ x = a) :
    spec_Reason.l0 (k + 1) a xs ws i = spec_Reason.l0 k a xs ws ((i + 1 : Nat) : Int) := by
  obtain ⟨h1, h2⟩ := List.getElem?_eq_some_iff.mp hx
  have hr : rd xs (i : Int) = x := by unfold rd; simp [List.getD_eq_getElem?_getD, hx]
  have hw : wrap64 ((i : Int) + 1) = ((i + 1 : Nat) : Int) := by unfold wrap64; omega
  simp only [spec_Reason.l0]; rw [if_pos (by omega), if_pos (by omega), hr, if_neg h, hw]

theorem reason_same (a : Int) : spec_Reason.f 12 a = impl_Reason.f a := by
  unfold spec_Reason.f impl_Reason.f
  show spec_Reason.l0 (11 + 1) a _ _ ((0 : Nat) : Int) = _
  by_cases h : a = 200
  · rw [if_pos h]; exact reason_hit _ _ _ _ _ _ _ (by rfl) (by rfl) h.symm
  rw [if_neg h, reason_miss _ _ _ _ _ _ rfl (by omega) (Ne.symm h)]; clear h
  by_cases h : a = 203
  · rw [if_pos h]; exact reason_hit _ _ _ _ _ _ _ (by rfl) (by rfl) h.symm
  rw [if_neg h, reason_miss _ _ _ _ _ _ rfl (by omega) (Ne.symm h)]; clear h
  by_cases h : a = 204
  · rw [if_pos h]; exact reason_hit _ _ _ _ _ _ _ (by rfl) (by rfl) h.symm
  rw [if_neg h, reason_miss _ _ _ _ _ _ rfl (by omega) (Ne.symm h)]; clear h
  by_cases h : a = 300
  · rw [if_pos h]; exact reason_hit _ _ _ _ _ _ _ (by rfl) (by rfl) h.symm
  rw [if_neg h, reason_miss _ _ _ _ _ _ rfl (by omega) (Ne.symm h)]; clear h
  by_cases h : a = 301
  · rw [if_pos h]; exact reason_hit _ _ _ _ _ _ _ (by rfl) (by rfl) h.symm
  rw [if_neg h, reason_miss _ _ _ _ _ _ rfl (by omega) (Ne.symm h)]; clear h
  by_cases h : a = 304
  · rw [if_pos h]; exact reason_hit _ _ _ _ _ _ _ (by rfl) (by rfl) h.symm
  rw [if_neg h, reason_miss _ _ _ _ _ _ rfl (by omega) (Ne.symm h)]; clear h
  by_cases h : a = 400
  · rw [if_pos h]; exact reason_hit _ _ _ _ _ _ _ (by rfl) (by rfl) h.symm
  rw [if_neg h, reason_miss _ _ _ _ _ _ rfl (by omega) (Ne.symm h)]; clear h
  by_cases h : a = 404
  · rw [if_pos h]; exact reason_hit _ _ _ _ _ _ _ (by rfl) (by rfl) h.symm
  rw [if_neg h, reason_miss _ _ _ _ _ _ rfl (by omega) (Ne.symm h)]; clear h
  by_cases h : a = 410
  · rw [if_pos h]; exact reason_hit _ _ _ _ _ _ _ (by rfl) (by rfl) h.symm
  rw [if_neg h, reason_miss _ _ _ _ _ _ rfl (by omega) (Ne.symm h)]; clear h
  by_cases h : a = 502
  · rw [if_pos h]; exact reason_hit _ _ _ _ _ _ _ (by rfl) (by rfl) h.symm
  rw [if_neg h, reason_miss _ _ _ _ _ _ rfl (by omega) (Ne.symm h)]; clear h
  by_cases h : a = 504
  · rw [if_pos h]; exact reason_hit _ _ _ _ _ _ _ (by rfl) (by rfl) h.symm
  rw [if_neg h, reason_miss _ _ _ _ _ _ rfl (by omega) (Ne.symm h)]
  exact reason_end _ _ _ _ _ (by decide)

theorem ite_some {α : Type} {c : Prop} [Decidable c] {x y : Option α} (h : ∃ s, x = some s) (h' : ∃ s, y = some s) : ∃ s, (if c then x else y) = some s := by
  split
  · exact h
  · exact h'
theorem reason_some (a : Int) : ∃ s, impl_Reason.f a = some s := by
  unfold impl_Reason.f
  iterate 11 (refine ite_some ?_ ?_; exact ⟨_, rfl⟩)
  exact ⟨_, rfl⟩

theorem fields_nil (k : Nat) : laws_eqFieldS.f (k + 1) [] [] = some true := rfl
theorem mark_nil (k : Nat) : laws_markFieldS.f (k + 1) [] 1 = some (1, []) := rfl
theorem held_nil (k : Nat) : laws_heldFieldS.f (k + 1) [] 1 = some 1 := rfl

theorem FnExactFailed : laws_FnExactFailed.Pure := by
  intro a _
  refine ⟨12, ?_⟩
  obtain ⟨s, hs⟩ := reason_some a
  have e1 : spec_Failed.f 12 a = some (a, [], s) := by unfold spec_Failed.f; rw [reason_same, hs]; rfl
  have e2 : impl_Failed.f a = some (a, [], s) := by unfold impl_Failed.f; rw [hs]; rfl
  have e3 : laws_eqResponse.f 12 a [] s a [] s = some true := by
    unfold laws_eqResponse.f; rw [if_pos rfl, fields_nil 11]; simp
  have e4 : laws_markResponse.f 12 a [] s 1 = some (1, []) := by unfold laws_markResponse.f; rw [mark_nil 11]; rfl
  have e5 : laws_heldResponse.f 12 a [] s 1 = some 1 := by unfold laws_heldResponse.f; rw [held_nil 11]; rfl
  unfold laws_FnExactFailed.f
  simp [e1, e2, e3, e4, e5]

end Go.Proofs.Ytlhnhilaeoegoaa.Pure
