/- SameOrigin of the program (slices.EqualFunc over resources, slices.Equal over fields) and of the reference (loops) say the same; what was handed in stays. Conditions: none. -/
import Derived.Test.YtlhnhilaeoegoaaBlkFnExactSameOrigin
import Derived.Test.YtlhnhilaeoegoaaPlain
namespace Go.Proofs.Ytlhnhilaeoegoaa.Pure
open Go.RowKit Go.Proofs.Ytlhnhilaeoegoaa.QFnExactSameOrigin Go.Proofs.YtlhnhilaeoegoaaW.PrintWords Go.Proofs.YtlhnhilaeoegoaaW.PrintLast

def gF (x y : S95) : Bool := (x.f0.toList == y.f0.toList) && (x.f1.toList == y.f1.toList)
def gR (x y : S71) : Bool := (x.f0.toList == y.f0.toList) && ((x.f1.toList == y.f1.toList) && ((x.f2 == y.f2) && ((x.f3 == y.f3) && ((x.f4 == y.f4) && ((x.f5 == y.f5) && Kit.zipAll gF x.f6 y.f6)))))

theorem fields_spec (l m : List S95) (hl : l.length ≤ 9223372036854775807) : Kit.Late fun k => spec_SameFields.f k l m = some (Kit.zipAll gF l m) := by
  by_cases h : l.length = m.length
  · have e : ∀ k, spec_SameFields.f k l m = spec_SameFields.l0 k l m 0 := fun k => by unfold spec_SameFields.f; rw [if_pos (by omega)]
    simp only [e]
    refine Kit.cmp_loop (fun k i => spec_SameFields.l0 k l m i) gF l m h hl (fun k => by simp only [spec_SameFields.l0]; rw [if_neg (by omega)]) fun i h1 h2 => Kit.Late.all fun k => ?_
    simp only [spec_SameFields.l0]
    rw [if_pos (by omega), if_pos (by omega), if_pos (by omega), show rd_T95 l (i : Int) = l[i] from Kit.getD_at l _ i h1, show rd_T95 m (i : Int) = m[i] from Kit.getD_at m _ i h2, Kit.wrap_succ h1 hl]
    unfold gF
    cases (l[i].f0.toList == m[i].f0.toList) <;> cases (l[i].f1.toList == m[i].f1.toList) <;> simp
  · exact Kit.Late.all fun k => by unfold spec_SameFields.f; rw [if_neg (by omega), Kit.zipAll_other gF l m h]
theorem fields_impl (l m : List S95) (hl : l.length ≤ 9223372036854775807) : Kit.Late fun k => impl_SameFields.f k l m = some (Kit.zipAll gF l m) := by
  have hf : Kit.Late fun k => impl_Field.f k l m = some (Kit.zipAll gF l m) := by
    by_cases h : l.length = m.length
    · have e : ∀ k, impl_Field.f k l m = impl_Field.l0 k l m (l.length : Int) 0 := fun k => by unfold impl_Field.f; rw [if_pos (by omega)]
      simp only [e]
      refine Kit.cmp_loop (fun k i => impl_Field.l0 k l m (l.length : Int) i) gF l m h hl (fun k => by simp only [impl_Field.l0]; rw [if_neg (by omega)]) fun i h1 h2 => Kit.Late.all fun k => ?_
      simp only [impl_Field.l0]
      rw [if_pos (by omega), if_pos (by omega), if_pos (by omega), if_pos (by omega), show rd_T95 l (i : Int) = l[i] from Kit.getD_at l _ i h1, show rd_T95 m (i : Int) = m[i] from Kit.getD_at m _ i h2, Kit.wrap_succ h1 hl]
      unfold gF
      cases (l[i].f0.toList == m[i].f0.toList) <;> cases (l[i].f1.toList == m[i].f1.toList) <;> simp
    · exact Kit.Late.all fun k => by unfold impl_Field.f; rw [if_neg (by omega), Kit.zipAll_other gF l m h]
  exact hf.mono fun k hk => by unfold impl_SameFields.f; rw [hk]; rfl
theorem origin_spec (l m : List S71) (hl : l.length ≤ 9223372036854775807 ∧ ∀ y ∈ l, M71 y) : Kit.Late fun k => spec_SameOrigin.f k l m = some (Kit.zipAll gR l m) := by
  by_cases h : l.length = m.length
  · have e : ∀ k, spec_SameOrigin.f k l m = spec_SameOrigin.l0 k 0 l m := fun k => by unfold spec_SameOrigin.f; rw [if_pos (by omega)]
    simp only [e]
    refine Kit.cmp_loop (fun k i => spec_SameOrigin.l0 k i l m) gR l m h hl.1 (fun k => by simp only [spec_SameOrigin.l0]; rw [if_neg (by omega)]) fun i h1 h2 => ?_
    refine (fields_spec l[i].f6 m[i].f6 (hl.2 l[i] (List.getElem_mem h1)).1).mono fun k hk => ?_
    simp only [spec_SameOrigin.l0]
    rw [if_pos (by omega), if_pos (by omega), if_pos (by omega), show rd_T71 l (i : Int) = l[i] from Kit.getD_at l _ i h1, show rd_T71 m (i : Int) = m[i] from Kit.getD_at m _ i h2, Kit.wrap_succ h1 hl.1, hk]
    unfold gR
    generalize Kit.zipAll gF l[i].f6 m[i].f6 = z
    by_cases c0 : l[i].f0.toList = m[i].f0.toList
    · by_cases c1 : l[i].f1.toList = m[i].f1.toList
      · by_cases c2 : l[i].f2 = m[i].f2
        · by_cases c3 : l[i].f3 = m[i].f3
          · by_cases c4 : l[i].f4 = m[i].f4
            · by_cases c5 : l[i].f5 = m[i].f5
              · cases z <;> simp [c0, c1, c2, c3, c4, c5]
              · simp [c0, c1, c2, c3, c4, c5]
            · simp [c0, c1, c2, c3, c4]
          · simp [c0, c1, c2, c3]
        · simp [c0, c1, c2]
      · simp [c0, c1]
    · simp [c0]
  · exact Kit.Late.all fun k => by unfold spec_SameOrigin.f; rw [if_neg (by omega), Kit.zipAll_other gR l m h]
theorem res_impl (x y : S71) (hx : M71 x) : Kit.Late fun k => impl_SameOrigin_1.f k x.f0 x.f1 x.f2 x.f3 x.f4 x.f5 x.f6 y.f0 y.f1 y.f2 y.f3 y.f4 y.f5 y.f6 = some (gR x y) := by
  refine (fields_impl x.f6 y.f6 hx.1).mono fun k hk => ?_
  unfold impl_SameOrigin_1.f
  rw [hk]
  unfold gR
  generalize Kit.zipAll gF x.f6 y.f6 = z
  by_cases c0 : x.f0.toList = y.f0.toList
  · by_cases c1 : x.f1.toList = y.f1.toList
    · by_cases c2 : x.f2 = y.f2
      · by_cases c3 : x.f3 = y.f3
        · by_cases c4 : x.f4 = y.f4
          · by_cases c5 : x.f5 = y.f5
            · cases z <;> simp [c0, c1, c2, c3, c4, c5]
            · simp [c0, c1, c2, c3, c4, c5]
          · simp [c0, c1, c2, c3, c4]
        · simp [c0, c1, c2, c3]
      · simp [c0, c1, c2]
    · simp [c0, c1]
  · simp [c0]
theorem origin_impl (l m : List S71) (hl : l.length ≤ 9223372036854775807 ∧ ∀ y ∈ l, M71 y) : Kit.Late fun k => impl_SameOrigin.f k l m = some (Kit.zipAll gR l m) := by
  refine (Kit.eqBy_tells (fun k x y => impl_SameOrigin_1.f k x.f0 x.f1 x.f2 x.f3 x.f4 x.f5 x.f6 y.f0 y.f1 y.f2 y.f3 y.f4 y.f5 y.f6) gR l m fun x hx y _ => res_impl x y (hl.2 x hx)).mono fun k hk => ?_
  unfold impl_SameOrigin.f impl_Res.f
  simp only [hk, Option.bind_some]

theorem FnExactSameOrigin : laws_FnExactSameOrigin.Pure := by
  intro x0 x1 hx0 hx1
  unfold laws_FnExactSameOrigin.f
  have hs0 := szOrigin_tells x0 hx0 1048576 (by omega) (by omega)
  by_cases c0 : Kit.szr 1048576 (b33 x0) < 0
  · exact (hs0.mono fun k hk => by rw [hk, Option.bind_some, if_pos c0]).some
  have hb0 : (b33 x0 : Int) ≤ 1048576 := Kit.szr_ge c0
  have hs1 := szOrigin_tells x1 hx1 (1048576 - b33 x0) (by omega) (by omega)
  have he0 : Kit.szr 1048576 (b33 x0) = 1048576 - b33 x0 := Kit.szr_pos hb0
  rw [he0] at hs0 c0
  by_cases c1 : Kit.szr (1048576 - b33 x0) (b33 x1) < 0
  · exact ((hs0.and hs1).mono fun k hk => by rw [hk.1, Option.bind_some, if_neg c0, hk.2, Option.bind_some, if_pos c1]).some
  have hb1 : (b33 x1 : Int) ≤ 1048576 - b33 x0 := Kit.szr_ge c1
  have h0 := cv33_M x0 hx0
  have h1 := cv33_M x1 hx1
  refine (((hs0.and hs1).and ((toOrigin_tells x0 (by omega)).and (toOrigin_tells x1 (by omega)))).and (((origin_spec (cv33 x0).f0 (cv33 x1).f0 h0).and (origin_impl (cv33 x0).f0 (cv33 x1).f0 h0)).and ((eqOrigin_refl (cv33 x0) h0).and (eqOrigin_refl (cv33 x1) h1)))).mono (fun k hk => ?_) |>.some
  obtain ⟨⟨⟨k1, k2⟩, k3, k4⟩, ⟨k5, k6⟩, k7, k8⟩ := hk
  rw [k1, Option.bind_some, if_neg c0, k2, Option.bind_some, if_neg c1, k3, k4]
  simp only [Option.bind_some]
  rw [k5, k6]
  simp only [Option.bind_some]
  rw [k7, k8]
  simp

end Go.Proofs.Ytlhnhilaeoegoaa.Pure
