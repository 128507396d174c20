/- ShardOf of the program and of the reference: Fnv's rounds over the same bytes, and the rest by the number of shards; what was handed in stays. Conditions: none. -/
import Derived.Test.YthbmemimpakljaaBlkFnExactShardOf
import Derived.Test.YthbmemimpakljaaPlain
namespace Go.Proofs.Ythbmemimpakljaa.Pure
open Go.RowKit Go.Proofs.Ythbmemimpakljaa.QFnExactShardOf Go.Proofs.YthbmemimpakljaaW.PrintWords Go.Proofs.YthbmemimpakljaaW.PrintLast

theorem fnv_eq (s : ByteArray) : ∀ (k : Nat) (h i : Int), spec_Fnv.l0 k s h i = impl_Fnv.l0 k s h (s.size : Int) i
  | 0, _, _ => rfl
  | k + 1, h, i => by
    simp only [spec_Fnv.l0, impl_Fnv.l0]
    by_cases c : i < (s.size : Int)
    · rw [if_pos c, if_pos c, if_pos c, fnv_eq s k]
    · rw [if_neg c, if_neg c]
theorem fnv_same (s : ByteArray) (hs : s.size ≤ 9223372036854775807) : ∃ r, Kit.Late fun k => spec_Fnv.f k s = some r ∧ impl_Fnv.f k s = some r := by
  obtain ⟨r, _, h⟩ := Kit.loop_up (fun k (h : Int) i => spec_Fnv.l0 k s h i) s.size (fun _ _ => True) (fun _ => True)
    (fun h _ => ⟨h, trivial, Kit.Late.all fun k => by simp only [spec_Fnv.l0]; rw [if_neg (by omega)]⟩)
    (fun i h hi _ => .inl ⟨_, trivial, Kit.Late.all fun k => by simp only [spec_Fnv.l0]; rw [if_pos (by omega), if_pos (by omega), Kit.wrap_succ hi hs]⟩)
    0 2166136261 (by omega) trivial
  exact ⟨r, h.mono fun k hk => ⟨hk, by unfold impl_Fnv.f; rw [← fnv_eq]; exact hk⟩⟩
theorem of_same (a : List S97) (l : List S89) (u : ByteArray) (hu : u.size ≤ 9223372036854775807) : ∃ r, Kit.Late fun k => spec_ShardOf.f k a l u = some r ∧ impl_ShardOf.f k a l u = some r := by
  unfold spec_ShardOf.f impl_ShardOf.f
  by_cases c : (a.length : Int) = 0
  · exact ⟨-1, Kit.Late.all fun k => by rw [if_pos c, if_pos c]; exact ⟨rfl, rfl⟩⟩
  · obtain ⟨r, h⟩ := fnv_same u hu
    exact ⟨Int.tmod r (a.length : Int), h.mono fun k hk => by rw [if_neg c, if_neg c, hk.1, hk.2]; exact ⟨rfl, rfl⟩⟩

theorem FnExactShardOf : laws_FnExactShardOf.Pure := by
  intro x0 x1 hx0 hx1
  unfold laws_FnExactShardOf.f
  by_cases c1 : (x1.size : Int) > 1048576
  · exact ⟨0, by rw [if_pos c1]⟩
  have hs0 := szCache_tells x0 hx0 1048576 (by omega) (by omega)
  by_cases c0 : Kit.szr 1048576 (b56 x0) < 0
  · exact (hs0.mono fun k hk => by rw [if_neg c1, hk, Option.bind_some, if_pos c0]).some
  have hb0 : (b56 x0 : Int) ≤ 1048576 := Kit.szr_ge c0
  have h0 := cv56_M x0 hx0
  obtain ⟨r, hr⟩ := of_same (cv56 x0).f0 (cv56 x0).f1 x1 (by omega)
  refine ((hs0.and (toCache_tells x0 (by omega))).and (hr.and (eqCache_refl (cv56 x0) h0))).mono (fun k hk => ?_) |>.some
  obtain ⟨⟨k1, k3⟩, ⟨k5, k6⟩, k7⟩ := hk
  rw [if_neg c1, k1, Option.bind_some, if_neg c0, k3]
  simp only [Option.bind_some]
  rw [k5, k6]
  simp only [Option.bind_some]
  rw [k7]
  simp

end Go.Proofs.Ythbmemimpakljaa.Pure
