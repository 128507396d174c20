/- IsSafe of the program and of the reference are the same tests of four words, at every text. Conditions: none. -/
import Derived.Test.YtlhnhilaeoegoaaPFnExactIsSafex1
namespace Go.Proofs.Ytlhnhilaeoegoaa.Pure
open Go.RowKit Go.Proofs.Ytlhnhilaeoegoaa.PFnExactIsSafe Go.Proofs.YtlhnhilaeoegoaaW.PrintWords Go.Proofs.YtlhnhilaeoegoaaW.PrintLast

theorem FnExactIsSafe : laws_FnExactIsSafe.Pure := by
  intro a0 _
  have e : impl_IsSafe.f a0 = spec_IsSafe.f a0 := rfl
  obtain ⟨b, hb⟩ : ∃ b, spec_IsSafe.f a0 = some b := by
    unfold spec_IsSafe.f
    split
    · exact ⟨_, rfl⟩
    · split
      · exact ⟨_, rfl⟩
      · split <;> exact ⟨_, rfl⟩
  unfold laws_FnExactIsSafe.f
  rw [e, hb]
  simp

end Go.Proofs.Ytlhnhilaeoegoaa.Pure
