/- GenOf of the program and of the reference (both a loop) find the same row; what was handed in stays. Conditions: none. -/
import Derived.Test.YthbmemimpakljaaBlkFnExactGenOf
import Derived.Test.YthbmemimpakljaaPlain
namespace Go.Proofs.Ythbmemimpakljaa.Pure
open Go.RowKit Go.Proofs.Ythbmemimpakljaa.QFnExactGenOf Go.Proofs.YthbmemimpakljaaW.PrintWords Go.Proofs.YthbmemimpakljaaW.PrintLast

theorem gen_eq (a : List S97) (l : List S89) (u : ByteArray) : ∀ (k : Nat) (i : Int), spec_GenOf.l0 k u i a l = impl_GenOf.l0 k u l (l.length : Int) i
  | 0, _ => rfl
  | k + 1, i => by
    simp only [spec_GenOf.l0, impl_GenOf.l0]
    by_cases c : i < (l.length : Int)
    · rw [if_pos c, if_pos c, if_pos c, gen_eq a l u k]
    · rw [if_neg c, if_neg c]
theorem gen_same (a : List S97) (l : List S89) (u : ByteArray) (hl : l.length ≤ 9223372036854775807) : ∃ r, Kit.Late fun k => spec_GenOf.f k a l u = some r ∧ impl_GenOf.f k a l u = some r := by
  obtain ⟨r, _, h⟩ := Kit.loop_up (fun k (_ : Unit) i => spec_GenOf.l0 k u i a l) l.length (fun _ _ => True) (fun _ => True)
    (fun s _ => ⟨0, trivial, Kit.Late.all fun k => by simp only [spec_GenOf.l0]; rw [if_neg (by omega)]⟩)
    (fun i s hi _ => by
      by_cases c : ((rd_T89 l (i : Int)).f0).toList = u.toList
      · exact .inr ⟨_, trivial, Kit.Late.all fun k => by simp only [spec_GenOf.l0]; rw [if_pos (by omega), if_pos (by omega), if_pos c]⟩
      · exact .inl ⟨(), trivial, Kit.Late.all fun k => by simp only [spec_GenOf.l0]; rw [if_pos (by omega), if_pos (by omega), if_neg c, Kit.wrap_succ hi hl]⟩)
    0 () (by omega) trivial
  exact ⟨r, h.mono fun k hk => ⟨hk, by unfold impl_GenOf.f; rw [← gen_eq a]; exact hk⟩⟩

theorem FnExactGenOf : laws_FnExactGenOf.Pure := by
  intro x0 x1 hx0 _
  unfold laws_FnExactGenOf.f
  by_cases c1 : (x1.size : Int) > 1048576
  · exact ⟨0, by rw [if_pos c1]⟩
  have hs0 := szCache_tells x0 hx0 1048576 (by omega) (by omega)
  by_cases c0 : Kit.szr 1048576 (b56 x0) < 0
  · exact (hs0.mono fun k hk => by rw [if_neg c1, hk, Option.bind_some, if_pos c0]).some
  have hb0 : (b56 x0 : Int) ≤ 1048576 := Kit.szr_ge c0
  have h0 := cv56_M x0 hx0
  obtain ⟨r, hr⟩ := gen_same (cv56 x0).f0 (cv56 x0).f1 x1 h0.2.1
  refine ((hs0.and (toCache_tells x0 (by omega))).and (hr.and (eqCache_refl (cv56 x0) h0))).mono (fun k hk => ?_) |>.some
  obtain ⟨⟨k1, k3⟩, ⟨k5, k6⟩, k7⟩ := hk
  rw [if_neg c1, k1, Option.bind_some, if_neg c0, k3]
  simp only [Option.bind_some]
  rw [k5, k6]
  simp only [Option.bind_some]
  rw [k7]
  simp

end Go.Proofs.Ythbmemimpakljaa.Pure
