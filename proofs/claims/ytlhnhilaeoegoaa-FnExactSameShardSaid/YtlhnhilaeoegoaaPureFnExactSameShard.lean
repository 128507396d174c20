/- SameShard of the program (slices.EqualFunc over slots, slices.Equal over fields) and of the reference (loops) say the same; what was handed in stays. Conditions: none. -/
import Derived.Test.YtlhnhilaeoegoaaBlkFnExactSameShard
import Derived.Test.YtlhnhilaeoegoaaPlain
namespace Go.Proofs.Ytlhnhilaeoegoaa.Pure
open Go.RowKit Go.Proofs.Ytlhnhilaeoegoaa.QFnExactSameShard Go.Proofs.YtlhnhilaeoegoaaW.PrintWords Go.Proofs.YtlhnhilaeoegoaaW.PrintLast

def gF (x y : S95) : Bool := (x.f0.toList == y.f0.toList) && (x.f1.toList == y.f1.toList)
def gP (x y : S27) : Bool := (x.f0 == y.f0) && ((x.f2.toList == y.f2.toList) && Kit.zipAll gF x.f1 y.f1)
def gI (x y : S85) : Bool := ((x.f0.toList == y.f0.toList) && Kit.zipAll gF x.f1 y.f1) && (gP x.f2 y.f2 && ((x.f3 == y.f3) && (x.f4 == y.f4)))
def gS (x y : S87) : Bool := (x.f1 == y.f1) && gI x.f0 y.f0

theorem fields_spec (l m : List S95) (hl : l.length ≤ 9223372036854775807) : Kit.Late fun k => spec_SameFields.f k l m = some (Kit.zipAll gF l m) := by
  by_cases h : l.length = m.length
  · have e : ∀ k, spec_SameFields.f k l m = spec_SameFields.l0 k l m 0 := fun k => by unfold spec_SameFields.f; rw [if_pos (by omega)]
    simp only [e]
    refine Kit.cmp_loop (fun k i => spec_SameFields.l0 k l m i) gF l m h hl (fun k => by simp only [spec_SameFields.l0]; rw [if_neg (by omega)]) fun i h1 h2 => Kit.Late.all fun k => ?_
    simp only [spec_SameFields.l0]
    rw [if_pos (by omega), if_pos (by omega), if_pos (by omega), show rd_T95 l (i : Int) = l[i] from Kit.getD_at l _ i h1, show rd_T95 m (i : Int) = m[i] from Kit.getD_at m _ i h2, Kit.wrap_succ h1 hl]
    unfold gF
    cases (l[i].f0.toList == m[i].f0.toList) <;> cases (l[i].f1.toList == m[i].f1.toList) <;> simp
  · exact Kit.Late.all fun k => by unfold spec_SameFields.f; rw [if_neg (by omega), Kit.zipAll_other gF l m h]
theorem fields_impl (l m : List S95) (hl : l.length ≤ 9223372036854775807) : Kit.Late fun k => impl_SameFields.f k l m = some (Kit.zipAll gF l m) := by
  have hf : Kit.Late fun k => impl_Field.f k l m = some (Kit.zipAll gF l m) := by
    by_cases h : l.length = m.length
    · have e : ∀ k, impl_Field.f k l m = impl_Field.l0 k l m (l.length : Int) 0 := fun k => by unfold impl_Field.f; rw [if_pos (by omega)]
      simp only [e]
      refine Kit.cmp_loop (fun k i => impl_Field.l0 k l m (l.length : Int) i) gF l m h hl (fun k => by simp only [impl_Field.l0]; rw [if_neg (by omega)]) fun i h1 h2 => Kit.Late.all fun k => ?_
      simp only [impl_Field.l0]
      rw [if_pos (by omega), if_pos (by omega), if_pos (by omega), if_pos (by omega), show rd_T95 l (i : Int) = l[i] from Kit.getD_at l _ i h1, show rd_T95 m (i : Int) = m[i] from Kit.getD_at m _ i h2, Kit.wrap_succ h1 hl]
      unfold gF
      cases (l[i].f0.toList == m[i].f0.toList) <;> cases (l[i].f1.toList == m[i].f1.toList) <;> simp
    · exact Kit.Late.all fun k => by unfold impl_Field.f; rw [if_neg (by omega), Kit.zipAll_other gF l m h]
  exact hf.mono fun k hk => by unfold impl_SameFields.f; rw [hk]; rfl
theorem item_spec (x y : S85) (hx : M85 x) : Kit.Late fun k => spec_l12SameItem.f k x.f0 x.f1 x.f2.f0 x.f2.f1 x.f2.f2 x.f3 x.f4 y.f0 y.f1 y.f2.f0 y.f2.f1 y.f2.f2 y.f3 y.f4 = some (gI x y) := by
  refine ((fields_spec x.f1 y.f1 hx.1.1).and (fields_spec x.f2.f1 y.f2.f1 hx.2.1)).mono fun k hk => ?_
  unfold spec_l12SameItem.f spec_l12Same.f spec_SameResponse.f
  rw [hk.1, hk.2]
  unfold gI gP
  generalize Kit.zipAll gF x.f1 y.f1 = z
  generalize Kit.zipAll gF x.f2.f1 y.f2.f1 = z'
  by_cases c0 : x.f0.toList = y.f0.toList
  · cases z
    · simp [c0]
    · by_cases c1 : x.f2.f0 = y.f2.f0
      · by_cases c2 : x.f2.f2.toList = y.f2.f2.toList
        · cases z'
          · simp [c0, c1, c2]
          · by_cases c3 : x.f3 = y.f3
            · simp [c0, c1, c2, c3]
            · simp [c0, c1, c2, c3]
        · simp [c0, c1, c2]
      · simp [c0, c1]
  · simp [c0]
theorem item_impl (x y : S85) (hx : M85 x) : Kit.Late fun k => impl_sameStored.f k x.f0 x.f1 x.f2.f0 x.f2.f1 x.f2.f2 x.f3 x.f4 y.f0 y.f1 y.f2.f0 y.f2.f1 y.f2.f2 y.f3 y.f4 = some (gI x y) := by
  refine ((fields_impl x.f1 y.f1 hx.1.1).and (fields_impl x.f2.f1 y.f2.f1 hx.2.1)).mono fun k hk => ?_
  unfold impl_sameStored.f impl_standAlike.f impl_SameResponse.f
  rw [hk.1, hk.2]
  unfold gI gP
  generalize Kit.zipAll gF x.f1 y.f1 = z
  generalize Kit.zipAll gF x.f2.f1 y.f2.f1 = z'
  by_cases c0 : x.f0.toList = y.f0.toList
  · cases z
    · simp [c0]
    · by_cases c1 : x.f2.f0 = y.f2.f0
      · by_cases c2 : x.f2.f2.toList = y.f2.f2.toList
        · cases z'
          · simp [c0, c1, c2]
          · by_cases c3 : x.f3 = y.f3
            · simp [c0, c1, c2, c3]
            · simp [c0, c1, c2, c3]
        · cases z' <;> simp [c0, c1, c2]
      · simp [c0, c1]
  · simp [c0]
theorem slots_spec (a : Int) (b : Int) (l : List S87) (c : Int) (a' : Int) (b' : Int) (m : List S87) (c' : Int) (hl : l.length ≤ 9223372036854775807 ∧ ∀ y ∈ l, M87 y) (h : l.length = m.length) : Kit.Late fun k => spec_SameShard.l0 k 0 a b l c a' b' m c' = some (Kit.zipAll gS l m) := by
  refine Kit.cmp_loop (fun k i => spec_SameShard.l0 k i a b l c a' b' m c') gS l m h hl.1 (fun k => by simp only [spec_SameShard.l0]; rw [if_neg (by omega)]) fun i h1 h2 => ?_
  refine (item_spec l[i].f0 m[i].f0 (hl.2 l[i] (List.getElem_mem h1))).mono fun k hk => ?_
  simp only [spec_SameShard.l0]
  rw [if_pos (by omega), if_pos (by omega), if_pos (by omega), show rd_T87 l (i : Int) = l[i] from Kit.getD_at l _ i h1, show rd_T87 m (i : Int) = m[i] from Kit.getD_at m _ i h2, Kit.wrap_succ h1 hl.1, hk]
  unfold gS
  generalize gI l[i].f0 m[i].f0 = z
  by_cases c0 : l[i].f1 = m[i].f1
  · cases z <;> simp [c0]
  · simp [c0]
def gH (x y : S51) : Bool := (x.f0 == y.f0) && ((x.f1 == y.f1) && ((x.f3 == y.f3) && Kit.zipAll gS x.f2 y.f2))
theorem shard_spec (x y : S51) (hx : M51 x) : Kit.Late fun k => spec_SameShard.f k x.f0 x.f1 x.f2 x.f3 y.f0 y.f1 y.f2 y.f3 = some (gH x y) := by
  have hj : Kit.Late fun k => spec_SameShard.j0 k true x.f0 x.f1 x.f2 x.f3 y.f0 y.f1 y.f2 y.f3 = some false := Kit.Late.succ (Kit.Late.all fun k => by simp [spec_SameShard.j0])
  by_cases h : x.f2.length = y.f2.length
  · have hh : Kit.Late fun k => spec_SameShard.j0 k false x.f0 x.f1 x.f2 x.f3 y.f0 y.f1 y.f2 y.f3 = some (Kit.zipAll gS x.f2 y.f2) :=
      Kit.Late.succ ((slots_spec x.f0 x.f1 x.f2 x.f3 y.f0 y.f1 y.f2 y.f3 hx h).mono fun k hk => by simp only [spec_SameShard.j0]; rw [if_neg (by simp)]; exact hk)
    refine (hj.and hh).mono fun k hk => ?_
    unfold spec_SameShard.f gH
    rw [show ((x.f2.length : Int) != (y.f2.length : Int)) = false by simp [h], hk.1, hk.2]
    by_cases c0 : x.f0 = y.f0
    · by_cases c1 : x.f1 = y.f1
      · by_cases c2 : x.f3 = y.f3
        · simp [c0, c1, c2]
        · simp [c0, c1, c2]
      · simp [c0, c1]
    · simp [c0]
  · refine hj.mono fun k hk => ?_
    unfold spec_SameShard.f gH
    rw [show ((x.f2.length : Int) != (y.f2.length : Int)) = true by simp only [bne_iff_ne, ne_eq]; omega, hk, Kit.zipAll_other gS _ _ h]
    by_cases c0 : x.f0 = y.f0
    · by_cases c1 : x.f1 = y.f1
      · by_cases c2 : x.f3 = y.f3
        · simp [c0, c1, c2]
        · simp [c0, c1, c2]
      · simp [c0, c1]
    · simp [c0]
theorem slot_impl (x y : S87) (hx : M87 x) : Kit.Late fun k => impl_SameShard_1.f k x.f0.f0 x.f0.f1 x.f0.f2.f0 x.f0.f2.f1 x.f0.f2.f2 x.f0.f3 x.f0.f4 x.f1 y.f0.f0 y.f0.f1 y.f0.f2.f0 y.f0.f2.f1 y.f0.f2.f2 y.f0.f3 y.f0.f4 y.f1 = some (gS x y) := by
  refine (item_impl x.f0 y.f0 hx).mono fun k hk => ?_
  unfold impl_SameShard_1.f
  rw [hk]
  unfold gS
  by_cases c0 : x.f1 = y.f1
  · simp [c0]
  · simp [c0]
theorem shard_impl (x y : S51) (hx : M51 x) : Kit.Late fun k => impl_SameShard.f k x.f0 x.f1 x.f2 x.f3 y.f0 y.f1 y.f2 y.f3 = some (gH x y) := by
  refine (Kit.eqBy_tells (fun k x y => impl_SameShard_1.f k x.f0.f0 x.f0.f1 x.f0.f2.f0 x.f0.f2.f1 x.f0.f2.f2 x.f0.f3 x.f0.f4 x.f1 y.f0.f0 y.f0.f1 y.f0.f2.f0 y.f0.f2.f1 y.f0.f2.f2 y.f0.f3 y.f0.f4 y.f1) gS x.f2 y.f2 fun a ha b _ => slot_impl a b (hx.2 a ha)).mono fun k hk => ?_
  unfold impl_SameShard.f impl_Slot.f gH
  simp only [hk, Option.bind_some]
  by_cases c0 : x.f0 = y.f0
  · by_cases c1 : x.f1 = y.f1
    · by_cases c2 : x.f3 = y.f3
      · simp [c0, c1, c2]
      · simp [c0, c1, c2]
    · simp [c0, c1]
  · simp [c0]

theorem FnExactSameShard : laws_FnExactSameShard.Pure := by
  intro x0 x1 hx0 hx1
  unfold laws_FnExactSameShard.f
  have hs0 := szShard_tells x0 hx0 1048576 (by omega) (by omega)
  by_cases c0 : Kit.szr 1048576 (b59 x0) < 0
  · exact (hs0.mono fun k hk => by rw [hk, Option.bind_some, if_pos c0]).some
  have hb0 : (b59 x0 : Int) ≤ 1048576 := Kit.szr_ge c0
  have hs1 := szShard_tells x1 hx1 (1048576 - b59 x0) (by omega) (by omega)
  have he0 : Kit.szr 1048576 (b59 x0) = 1048576 - b59 x0 := Kit.szr_pos hb0
  rw [he0] at hs0 c0
  by_cases c1 : Kit.szr (1048576 - b59 x0) (b59 x1) < 0
  · exact ((hs0.and hs1).mono fun k hk => by rw [hk.1, Option.bind_some, if_neg c0, hk.2, Option.bind_some, if_pos c1]).some
  have hb1 : (b59 x1 : Int) ≤ 1048576 - b59 x0 := Kit.szr_ge c1
  have h0 := cv59_M x0 hx0
  have h1 := cv59_M x1 hx1
  refine (((hs0.and hs1).and ((toShard_tells x0 (by omega)).and (toShard_tells x1 (by omega)))).and (((shard_spec (cv59 x0) (cv59 x1) h0).and (shard_impl (cv59 x0) (cv59 x1) h0)).and ((eqShard_refl (cv59 x0) h0).and (eqShard_refl (cv59 x1) h1)))).mono (fun k hk => ?_) |>.some
  obtain ⟨⟨⟨k1, k2⟩, k3, k4⟩, ⟨k5, k6⟩, k7, k8⟩ := hk
  rw [k1, Option.bind_some, if_neg c0, k2, Option.bind_some, if_neg c1, k3, k4]
  simp only [Option.bind_some]
  rw [k5, k6]
  simp only [Option.bind_some]
  rw [k7, k8]
  simp

end Go.Proofs.Ytlhnhilaeoegoaa.Pure
