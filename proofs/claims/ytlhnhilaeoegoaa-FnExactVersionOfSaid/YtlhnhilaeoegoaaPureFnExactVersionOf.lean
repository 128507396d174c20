/- VersionOf of the program (a look by a library function) and of the reference (a loop) find the same target; what was handed in stays. Conditions: none. -/
import Derived.Test.YtlhnhilaeoegoaaBlkFnExactVersionOf
namespace Go.Proofs.Ytlhnhilaeoegoaa.Pure
open Go.RowKit Go.Proofs.Ytlhnhilaeoegoaa.QFnExactVersionOf Go.Proofs.YtlhnhilaeoegoaaW.PrintWords Go.Proofs.YtlhnhilaeoegoaaW.PrintLast

theorem find_tells (l : List S71) (u : ByteArray) (hl : l.length ≤ 9223372036854775807) : Kit.Late fun k => spec_l14Find.f k l u = some (Kit.fidx (fun x => x.f0.toList == u.toList) l) := by
  obtain ⟨r, hr, h⟩ := Kit.loop_up (fun k (_ : Unit) i => spec_l14Find.l0 k u i l) l.length (fun i _ => ∀ (j : Nat) y, j < i → l[j]? = some y → (y.f0.toList == u.toList) = false)
    (fun r => r = Kit.fidx (fun x => x.f0.toList == u.toList) l)
    (fun s hs => ⟨-1, (Kit.fidx_miss _ l (fun j y hy => hs j y (List.getElem?_eq_some_iff.mp hy).1 hy)).symm, Kit.Late.all fun k => by simp only [spec_l14Find.l0]; rw [if_neg (by omega)]⟩)
    (fun i s hi hs => by
      have hr : rd_T71 l (i : Int) = l[i] := Kit.getD_at l _ i hi
      by_cases c : l[i].f0.toList = u.toList
      · refine .inr ⟨i, (Kit.fidx_hit _ l i l[i] (List.getElem?_eq_getElem hi) (by simpa using c) hs).symm, Kit.Late.all fun k => ?_⟩
        simp only [spec_l14Find.l0]; rw [if_pos (by omega), if_pos (by omega), hr, if_pos c]
      · refine .inl ⟨(), fun j y hj hy => ?_, Kit.Late.all fun k => ?_⟩
        · by_cases e : j = i
          · subst e
            rw [List.getElem?_eq_getElem hi] at hy
            injection hy with hy
            subst hy
            simpa using c
          · exact hs j y (by omega) hy
        · simp only [spec_l14Find.l0]; rw [if_pos (by omega), if_pos (by omega), hr, if_neg c, Kit.wrap_succ hi hl])
    0 () (by omega) (fun j y hj => absurd hj (by omega))
  exact h.mono fun k hk => by unfold spec_l14Find.f; rw [← hr]; exact hk

theorem version_same (l : List S71) (u : ByteArray) (hl : l.length ≤ 9223372036854775807) : ∃ r, impl_VersionOf.f l u = some r ∧ Kit.Late fun k => spec_VersionOf.f k l u = some r := by
  have hi : impl_resAt.f l u = some (Kit.fidx (fun x => x.f0.toList == u.toList) l) := rfl
  have hr := Kit.fidx_range (fun x : S71 => x.f0.toList == u.toList) l
  unfold impl_VersionOf.f
  rw [hi]
  generalize hx : Kit.fidx (fun x : S71 => x.f0.toList == u.toList) l = t at hr
  have hf := find_tells l u hl
  rw [hx] at hf
  simp only [Option.bind_some]
  rcases hr with rfl | ⟨h0, h1⟩
  · exact ⟨0, by simp, hf.mono fun k hk => by unfold spec_VersionOf.f; rw [hk]; simp⟩
  · refine ⟨(rd_T71 l t).f2, ?_, hf.mono fun k hk => ?_⟩
    · rw [if_neg (by omega), if_pos h0, if_pos h1]
    · unfold spec_VersionOf.f
      rw [hk, Option.bind_some, if_neg (by omega), if_pos h0, if_pos h1]

theorem FnExactVersionOf : laws_FnExactVersionOf.Pure := by
  intro x0 x1 hx _
  unfold laws_FnExactVersionOf.f
  by_cases c1 : (x1.size : Int) > 1048576
  · exact ⟨0, by rw [if_pos c1]⟩
  have hsz := szOrigin_tells x0 hx 1048576 (by omega) (by omega)
  by_cases c2 : Kit.szr 1048576 (b33 x0) < 0
  · refine (hsz.mono fun k hk => ?_).some
    rw [if_neg c1, hk, Option.bind_some, if_pos c2]
  have hb : b33 x0 ≤ 1048576 := by have := Kit.szr_ge c2; omega
  have hto := toOrigin_tells x0 hb
  have hM := cv33_M x0 hx
  have heq := eqOrigin_refl (cv33 x0) hM
  obtain ⟨r, hi, hs⟩ := version_same (cv33 x0).f0 x1 hM.1
  refine ((hsz.and (hto.and (heq.and hs))).mono fun k hk => ?_).some
  obtain ⟨h1, h2, h3, h4⟩ := hk
  rw [if_neg c1, h1, Option.bind_some, if_neg c2, h2]
  simp only [Option.bind_some]
  rw [h4]
  simp only [Option.bind_some]
  rw [hi]
  simp only [Option.bind_some]
  rw [h3]
  simp

end Go.Proofs.Ytlhnhilaeoegoaa.Pure
