/- Heuristic of the program (a switch) and of the reference (a look through a list) agree at every status. Conditions: none. -/
import Derived.Test.YtlhnhilaeoegoaaPFnExactHeuristicx1
namespace Go.Proofs.Ytlhnhilaeoegoaa.Pure
open Go.RowKit Go.Proofs.Ytlhnhilaeoegoaa.PFnExactHeuristic Go.Proofs.YtlhnhilaeoegoaaW.PrintWords Go.Proofs.YtlhnhilaeoegoaaW.PrintLast

theorem has_tells (xs : List Int) (a : Int) (hn : xs.length ≤ 140737488351232) (d : Nat) : ∀ (k i : Nat), i + d = xs.length → d < k →
    spec_l4Has.l0 k xs a i = some (decide (a ∈ xs.drop i)) := by
  induction d with
  | zero =>
    intro k i hd hk
    obtain ⟨k, rfl⟩ : ∃ m, k = m + 1 := ⟨k - 1, by omega⟩
    simp only [spec_l4Has.l0]; rw [if_neg (by omega), List.drop_of_length_le (by omega)]; simp
  | succ d ih =>
    intro k i hd hk
    obtain ⟨k, rfl⟩ : ∃ m, k = m + 1 := ⟨k - 1, by omega⟩
    have hi : i < xs.length := by omega
    have hw : wrap64 ((i : Int) + 1) = ((i + 1 : Nat) : Int) := by unfold wrap64; omega
    have hr : rd xs (i : Int) = xs[i] := by unfold rd; simp [List.getD_eq_getElem?_getD, hi]
    simp only [spec_l4Has.l0]; rw [if_pos (by omega), if_pos (by omega), hw, hr, ih k (i + 1) (by omega) (by omega), List.drop_eq_getElem_cons hi]
    by_cases h : xs[i] = a
    · rw [if_pos h, ← h]; simp only [List.mem_cons, true_or, decide_true]
    · rw [if_neg h]; simp only [List.mem_cons, Ne.symm h, false_or]

theorem FnExactHeuristic : laws_FnExactHeuristic.Pure := by
  intro a0 _
  refine ⟨8, ?_⟩
  have e := has_tells [200, 203, 204, 300, 301, 404, 410] a0 (by decide) 7 8 0 (by rfl) (by omega)
  unfold laws_FnExactHeuristic.f spec_Heuristic.f spec_l4Has.f impl_Heuristic.f
  have e' : spec_l4Has.l0 8 [200, 203, 204, 300, 301, 404, 410] a0 0 = some (decide (a0 ∈ [200, 203, 204, 300, 301, 404, 410])) := e
  rw [e']
  simp only [Option.bind_some]
  by_cases h1 : a0 = 200
  · simp [h1]
  by_cases h2 : a0 = 203
  · simp [h2]
  by_cases h3 : a0 = 204
  · simp [h3]
  by_cases h4 : a0 = 300
  · simp [h4]
  by_cases h5 : a0 = 301
  · simp [h5]
  by_cases h6 : a0 = 404
  · simp [h6]
  by_cases h7 : a0 = 410
  · simp [h7]
  simp [h1, h2, h3, h4, h5, h6, h7]

end Go.Proofs.Ytlhnhilaeoegoaa.Pure
