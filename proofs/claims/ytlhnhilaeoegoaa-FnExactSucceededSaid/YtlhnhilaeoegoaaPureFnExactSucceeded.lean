/- Succeeded of the program and of the reference are the same test of bounds, at every status. Conditions: none. -/
import Derived.Test.YtlhnhilaeoegoaaPFnExactSucceededx1
namespace Go.Proofs.Ytlhnhilaeoegoaa.Pure
open Go.RowKit Go.Proofs.Ytlhnhilaeoegoaa.PFnExactSucceeded Go.Proofs.YtlhnhilaeoegoaaW.PrintWords Go.Proofs.YtlhnhilaeoegoaaW.PrintLast

theorem FnExactSucceeded : laws_FnExactSucceeded.Pure := by
  intro a0 _
  have e : impl_Succeeded.f a0 = spec_Succeeded.f a0 := rfl
  obtain ⟨b, hb⟩ : ∃ b, spec_Succeeded.f a0 = some b := by
    unfold spec_Succeeded.f spec_l1In.f
    split <;> exact ⟨_, rfl⟩
  unfold laws_FnExactSucceeded.f
  rw [e, hb]
  simp

end Go.Proofs.Ytlhnhilaeoegoaa.Pure
