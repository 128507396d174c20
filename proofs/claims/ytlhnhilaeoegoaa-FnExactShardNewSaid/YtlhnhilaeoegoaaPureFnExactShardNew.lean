/- ShardNew of the program and of the reference give the same shard, with no slot; there is nothing to mark. Conditions: none. -/
import Derived.Test.YtlhnhilaeoegoaaQFnExactShardNewx5
namespace Go.Proofs.Ytlhnhilaeoegoaa.Pure
open Go.RowKit Go.Proofs.Ytlhnhilaeoegoaa.QFnExactShardNew Go.Proofs.YtlhnhilaeoegoaaW.PrintWords Go.Proofs.YtlhnhilaeoegoaaW.PrintLast

theorem new_same (x0 x1 : Int) : ∃ p q, spec_ShardNew.f x0 x1 = some (p, q, [], 0) ∧ impl_ShardNew.f x0 x1 = some (p, q, [], 0) := by
  unfold spec_ShardNew.f impl_ShardNew.f impl_shardSizes.f spec_l1In.f impl_in.f
  by_cases c0 : x0 ≥ 1
  · by_cases c1 : x0 ≤ 8
    · by_cases c2 : x1 ≥ 0
      · by_cases c3 : x1 ≤ 500
        · exact ⟨x0, x1, by simp [c0, c1, c2, c3], by simp [c0, c1, c2, c3]⟩
        · exact ⟨0, 0, by simp [c0, c1, c2, c3], by simp [c0, c1, c2, c3]⟩
      · exact ⟨0, 0, by simp [c0, c1, c2], by simp [c0, c1, c2]⟩
    · exact ⟨0, 0, by simp [c0, c1], by simp [c0, c1]⟩
  · exact ⟨0, 0, by simp [c0], by simp [c0]⟩

theorem FnExactShardNew : laws_FnExactShardNew.Pure := by
  intro x0 x1 _ _
  obtain ⟨p, q, h1, h2⟩ := new_same x0 x1
  refine ⟨1, ?_⟩
  unfold laws_FnExactShardNew.f
  rw [h1, h2]
  simp [laws_eqShard.f, laws_eqSlotS.f, laws_eqSlotS.l0, laws_markShard.f, laws_markSlotS.f, laws_heldShard.f, laws_heldSlotS.f, laws_heldSlotS.l0]

end Go.Proofs.Ytlhnhilaeoegoaa.Pure
