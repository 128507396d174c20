/- SameCache of the program (slices.EqualFunc over shards, slices.Equal over rows) and of the reference (loops) say the same; what was handed in stays. Conditions: none. -/
import Derived.Test.YthbmemimpakljaaBlkFnExactSameCache
import Derived.Test.YthbmemimpakljaaPlain
namespace Go.Proofs.Ythbmemimpakljaa.Pure
open Go.RowKit Go.Proofs.Ythbmemimpakljaa.QFnExactSameCache Go.Proofs.YthbmemimpakljaaW.PrintWords Go.Proofs.YthbmemimpakljaaW.PrintLast

def gF (x y : S76) : Bool := (x.f0.toList == y.f0.toList) && (x.f1.toList == y.f1.toList)
def gP (x y : S26) : Bool := (x.f0 == y.f0) && ((x.f2.toList == y.f2.toList) && Kit.zipAll gF x.f1 y.f1)
def gI (x y : S28) : Bool := ((x.f0.toList == y.f0.toList) && Kit.zipAll gF x.f1 y.f1) && (gP x.f2 y.f2 && ((x.f3 == y.f3) && (x.f4 == y.f4)))
def gS (x y : S131) : Bool := (x.f1 == y.f1) && gI x.f0 y.f0

theorem fields_spec (l m : List S76) (hl : l.length ≤ 9223372036854775807) : Kit.Late fun k => spec_SameFields.f k l m = some (Kit.zipAll gF l m) := by
  by_cases h : l.length = m.length
  · have e : ∀ k, spec_SameFields.f k l m = spec_SameFields.l0 k l m 0 := fun k => by unfold spec_SameFields.f; rw [if_pos (by omega)]
    simp only [e]
    refine Kit.cmp_loop (fun k i => spec_SameFields.l0 k l m i) gF l m h hl (fun k => by simp only [spec_SameFields.l0]; rw [if_neg (by omega)]) fun i h1 h2 => Kit.Late.all fun k => ?_
    simp only [spec_SameFields.l0]
    rw [if_pos (by omega), if_pos (by omega), if_pos (by omega), show rd_T76 l (i : Int) = l[i] from Kit.getD_at l _ i h1, show rd_T76 m (i : Int) = m[i] from Kit.getD_at m _ i h2, Kit.wrap_succ h1 hl]
    unfold gF
    cases (l[i].f0.toList == m[i].f0.toList) <;> cases (l[i].f1.toList == m[i].f1.toList) <;> simp
  · exact Kit.Late.all fun k => by unfold spec_SameFields.f; rw [if_neg (by omega), Kit.zipAll_other gF l m h]
theorem fields_impl (l m : List S76) (hl : l.length ≤ 9223372036854775807) : Kit.Late fun k => impl_SameFields.f k l m = some (Kit.zipAll gF l m) := by
  have hf : Kit.Late fun k => impl_Field.f k l m = some (Kit.zipAll gF l m) := by
    by_cases h : l.length = m.length
    · have e : ∀ k, impl_Field.f k l m = impl_Field.l0 k l m (l.length : Int) 0 := fun k => by unfold impl_Field.f; rw [if_pos (by omega)]
      simp only [e]
      refine Kit.cmp_loop (fun k i => impl_Field.l0 k l m (l.length : Int) i) gF l m h hl (fun k => by simp only [impl_Field.l0]; rw [if_neg (by omega)]) fun i h1 h2 => Kit.Late.all fun k => ?_
      simp only [impl_Field.l0]
      rw [if_pos (by omega), if_pos (by omega), if_pos (by omega), if_pos (by omega), show rd_T76 l (i : Int) = l[i] from Kit.getD_at l _ i h1, show rd_T76 m (i : Int) = m[i] from Kit.getD_at m _ i h2, Kit.wrap_succ h1 hl]
      unfold gF
      cases (l[i].f0.toList == m[i].f0.toList) <;> cases (l[i].f1.toList == m[i].f1.toList) <;> simp
    · exact Kit.Late.all fun k => by unfold impl_Field.f; rw [if_neg (by omega), Kit.zipAll_other gF l m h]
  exact hf.mono fun k hk => by unfold impl_SameFields.f; rw [hk]; rfl
theorem item_spec (x y : S28) (hx : M28 x) : Kit.Late fun k => spec_l12SameItem.f k x.f0 x.f1 x.f2.f0 x.f2.f1 x.f2.f2 x.f3 x.f4 y.f0 y.f1 y.f2.f0 y.f2.f1 y.f2.f2 y.f3 y.f4 = some (gI x y) := by
  refine ((fields_spec x.f1 y.f1 hx.1.1).and (fields_spec x.f2.f1 y.f2.f1 hx.2.1)).mono fun k hk => ?_
  unfold spec_l12SameItem.f spec_l12Same.f spec_SameResponse.f
  rw [hk.1, hk.2]
  unfold gI gP
  generalize Kit.zipAll gF x.f1 y.f1 = z
  generalize Kit.zipAll gF x.f2.f1 y.f2.f1 = z'
  by_cases c0 : x.f0.toList = y.f0.toList
  · cases z
    · simp [c0]
    · by_cases c1 : x.f2.f0 = y.f2.f0
      · by_cases c2 : x.f2.f2.toList = y.f2.f2.toList
        · cases z'
          · simp [c0, c1, c2]
          · by_cases c3 : x.f3 = y.f3
            · simp [c0, c1, c2, c3]
            · simp [c0, c1, c2, c3]
        · simp [c0, c1, c2]
      · simp [c0, c1]
  · simp [c0]
theorem item_impl (x y : S28) (hx : M28 x) : Kit.Late fun k => impl_sameStored.f k x.f0 x.f1 x.f2.f0 x.f2.f1 x.f2.f2 x.f3 x.f4 y.f0 y.f1 y.f2.f0 y.f2.f1 y.f2.f2 y.f3 y.f4 = some (gI x y) := by
  refine ((fields_impl x.f1 y.f1 hx.1.1).and (fields_impl x.f2.f1 y.f2.f1 hx.2.1)).mono fun k hk => ?_
  unfold impl_sameStored.f impl_standAlike.f impl_SameResponse.f
  rw [hk.1, hk.2]
  unfold gI gP
  generalize Kit.zipAll gF x.f1 y.f1 = z
  generalize Kit.zipAll gF x.f2.f1 y.f2.f1 = z'
  by_cases c0 : x.f0.toList = y.f0.toList
  · cases z
    · simp [c0]
    · by_cases c1 : x.f2.f0 = y.f2.f0
      · by_cases c2 : x.f2.f2.toList = y.f2.f2.toList
        · cases z'
          · simp [c0, c1, c2]
          · by_cases c3 : x.f3 = y.f3
            · simp [c0, c1, c2, c3]
            · simp [c0, c1, c2, c3]
        · cases z' <;> simp [c0, c1, c2]
      · simp [c0, c1]
  · simp [c0]
theorem slots_spec (a : Int) (b : Int) (l : List S131) (c : Int) (a' : Int) (b' : Int) (m : List S131) (c' : Int) (hl : l.length ≤ 9223372036854775807 ∧ ∀ y ∈ l, M131 y) (h : l.length = m.length) : Kit.Late fun k => spec_SameShard.l0 k 0 a b l c a' b' m c' = some (Kit.zipAll gS l m) := by
  refine Kit.cmp_loop (fun k i => spec_SameShard.l0 k i a b l c a' b' m c') gS l m h hl.1 (fun k => by simp only [spec_SameShard.l0]; rw [if_neg (by omega)]) fun i h1 h2 => ?_
  refine (item_spec l[i].f0 m[i].f0 (hl.2 l[i] (List.getElem_mem h1))).mono fun k hk => ?_
  simp only [spec_SameShard.l0]
  rw [if_pos (by omega), if_pos (by omega), if_pos (by omega), show rd_T131 l (i : Int) = l[i] from Kit.getD_at l _ i h1, show rd_T131 m (i : Int) = m[i] from Kit.getD_at m _ i h2, Kit.wrap_succ h1 hl.1, hk]
  unfold gS
  generalize gI l[i].f0 m[i].f0 = z
  by_cases c0 : l[i].f1 = m[i].f1
  · cases z <;> simp [c0]
  · simp [c0]
def gH (x y : S97) : Bool := (x.f0 == y.f0) && ((x.f1 == y.f1) && ((x.f3 == y.f3) && Kit.zipAll gS x.f2 y.f2))
theorem shard_spec (x y : S97) (hx : M97 x) : Kit.Late fun k => spec_SameShard.f k x.f0 x.f1 x.f2 x.f3 y.f0 y.f1 y.f2 y.f3 = some (gH x y) := by
  have hj : Kit.Late fun k => spec_SameShard.j0 k true x.f0 x.f1 x.f2 x.f3 y.f0 y.f1 y.f2 y.f3 = some false := Kit.Late.succ (Kit.Late.all fun k => by simp [spec_SameShard.j0])
  by_cases h : x.f2.length = y.f2.length
  · have hh : Kit.Late fun k => spec_SameShard.j0 k false x.f0 x.f1 x.f2 x.f3 y.f0 y.f1 y.f2 y.f3 = some (Kit.zipAll gS x.f2 y.f2) :=
      Kit.Late.succ ((slots_spec x.f0 x.f1 x.f2 x.f3 y.f0 y.f1 y.f2 y.f3 hx h).mono fun k hk => by simp only [spec_SameShard.j0]; rw [if_neg (by simp)]; exact hk)
    refine (hj.and hh).mono fun k hk => ?_
    unfold spec_SameShard.f gH
    rw [show ((x.f2.length : Int) != (y.f2.length : Int)) = false by simp [h], hk.1, hk.2]
    by_cases c0 : x.f0 = y.f0
    · by_cases c1 : x.f1 = y.f1
      · by_cases c2 : x.f3 = y.f3
        · simp [c0, c1, c2]
        · simp [c0, c1, c2]
      · simp [c0, c1]
    · simp [c0]
  · refine hj.mono fun k hk => ?_
    unfold spec_SameShard.f gH
    rw [show ((x.f2.length : Int) != (y.f2.length : Int)) = true by simp only [bne_iff_ne, ne_eq]; omega, hk, Kit.zipAll_other gS _ _ h]
    by_cases c0 : x.f0 = y.f0
    · by_cases c1 : x.f1 = y.f1
      · by_cases c2 : x.f3 = y.f3
        · simp [c0, c1, c2]
        · simp [c0, c1, c2]
      · simp [c0, c1]
    · simp [c0]
theorem slot_impl (x y : S131) (hx : M131 x) : Kit.Late fun k => impl_SameShard_1.f k x.f0.f0 x.f0.f1 x.f0.f2.f0 x.f0.f2.f1 x.f0.f2.f2 x.f0.f3 x.f0.f4 x.f1 y.f0.f0 y.f0.f1 y.f0.f2.f0 y.f0.f2.f1 y.f0.f2.f2 y.f0.f3 y.f0.f4 y.f1 = some (gS x y) := by
  refine (item_impl x.f0 y.f0 hx).mono fun k hk => ?_
  unfold impl_SameShard_1.f
  rw [hk]
  unfold gS
  by_cases c0 : x.f1 = y.f1
  · simp [c0]
  · simp [c0]
theorem shard_impl (x y : S97) (hx : M97 x) : Kit.Late fun k => impl_SameShard.f k x.f0 x.f1 x.f2 x.f3 y.f0 y.f1 y.f2 y.f3 = some (gH x y) := by
  refine (Kit.eqBy_tells (fun k x y => impl_SameShard_1.f k x.f0.f0 x.f0.f1 x.f0.f2.f0 x.f0.f2.f1 x.f0.f2.f2 x.f0.f3 x.f0.f4 x.f1 y.f0.f0 y.f0.f1 y.f0.f2.f0 y.f0.f2.f1 y.f0.f2.f2 y.f0.f3 y.f0.f4 y.f1) gS x.f2 y.f2 fun a ha b _ => slot_impl a b (hx.2 a ha)).mono fun k hk => ?_
  unfold impl_SameShard.f impl_Slot.f gH
  simp only [hk, Option.bind_some]
  by_cases c0 : x.f0 = y.f0
  · by_cases c1 : x.f1 = y.f1
    · by_cases c2 : x.f3 = y.f3
      · simp [c0, c1, c2]
      · simp [c0, c1, c2]
    · simp [c0, c1]
  · simp [c0]

def gG (x y : S89) : Bool := (x.f0.toList == y.f0.toList) && (x.f1 == y.f1)
def gC (x y : S62) : Bool := Kit.zipAll gH x.f0 y.f0 && Kit.zipAll gG x.f1 y.f1
theorem gens_spec (a b : List S97) (l m : List S89) (hl : l.length ≤ 9223372036854775807) (h : l.length = m.length) : Kit.Late fun k => spec_SameCache.l1 k 0 a l b m = some (Kit.zipAll gG l m) := by
  refine Kit.cmp_loop (fun k i => spec_SameCache.l1 k i a l b m) gG l m h hl (fun k => by simp only [spec_SameCache.l1]; rw [if_neg (by omega)]) fun i h1 h2 => Kit.Late.all fun k => ?_
  simp only [spec_SameCache.l1]
  rw [if_pos (by omega), if_pos (by omega), if_pos (by omega), show rd_T89 l (i : Int) = l[i] from Kit.getD_at l _ i h1, show rd_T89 m (i : Int) = m[i] from Kit.getD_at m _ i h2, Kit.wrap_succ h1 hl]
  unfold gG
  cases (l[i].f0.toList == m[i].f0.toList) <;> cases (l[i].f1 == m[i].f1) <;> simp
theorem gens_impl (l m : List S89) (hl : l.length ≤ 9223372036854775807) : Kit.Late fun k => impl_GenRow.f k l m = some (Kit.zipAll gG l m) := by
  by_cases h : l.length = m.length
  · have e : ∀ k, impl_GenRow.f k l m = impl_GenRow.l0 k l m (l.length : Int) 0 := fun k => by unfold impl_GenRow.f; rw [if_pos (by omega)]
    simp only [e]
    refine Kit.cmp_loop (fun k i => impl_GenRow.l0 k l m (l.length : Int) i) gG l m h hl (fun k => by simp only [impl_GenRow.l0]; rw [if_neg (by omega)]) fun i h1 h2 => Kit.Late.all fun k => ?_
    simp only [impl_GenRow.l0]
    rw [if_pos (by omega), if_pos (by omega), if_pos (by omega), if_pos (by omega), show rd_T89 l (i : Int) = l[i] from Kit.getD_at l _ i h1, show rd_T89 m (i : Int) = m[i] from Kit.getD_at m _ i h2, Kit.wrap_succ h1 hl]
    unfold gG
    cases (l[i].f0.toList == m[i].f0.toList) <;> cases (l[i].f1 == m[i].f1) <;> simp
  · exact Kit.Late.all fun k => by unfold impl_GenRow.f; rw [if_neg (by omega), Kit.zipAll_other gG l m h]
theorem loop_and {α : Type} (F : Nat → Int → Option Bool) (E : Nat → Option Bool) (g : α → α → Bool) (z : Bool) (xs ys : List α) (hl : xs.length = ys.length) (hm : xs.length ≤ 9223372036854775807) (hE : Kit.Late fun k => E k = some z)
    (hend : ∀ k, F (k + 1) (xs.length : Int) = E k)
    (hstep : ∀ i (h : i < xs.length) (h' : i < ys.length), Kit.Late fun k => F (k + 1) (i : Int) = if g xs[i] ys[i] = true then F k ((i + 1 : Nat) : Int) else some false) : Kit.Late fun k => F k 0 = some (Kit.zipAll g xs ys && z) := by
  obtain ⟨r, rfl, h⟩ := Kit.loop_up (fun k (_ : Unit) i => F k i) xs.length (fun i _ => Kit.zipAll g (xs.drop i) (ys.drop i) = Kit.zipAll g xs ys) (fun r => r = (Kit.zipAll g xs ys && z))
    (fun s hs => ⟨z, by rw [← hs, List.drop_of_length_le (Nat.le_refl _), List.drop_of_length_le (by omega)]; simp [Kit.zipAll], hE.mono fun k hk => (hend k).trans hk⟩)
    (fun i s hi hs => by
      have hi' : i < ys.length := by omega
      rw [Kit.zipAll_drop g xs ys i hi hi'] at hs
      by_cases c : g xs[i] ys[i] = true
      · rw [c, Bool.true_and] at hs
        exact .inl ⟨(), hs, (hstep i hi hi').mono fun k hk => by simp only [hk]; rw [if_pos c]⟩
      · refine .inr ⟨false, ?_, (hstep i hi hi').mono fun k hk => by simp only [hk]; rw [if_neg c]⟩
        rw [← hs, show g xs[i] ys[i] = false by simpa using c, Bool.false_and, Bool.false_and])
    0 () (by omega) rfl
  exact h
theorem cache_spec (x y : S62) (hx : M62 x) : Kit.Late fun k => spec_SameCache.f k x.f0 x.f1 y.f0 y.f1 = some (gC x y) := by
  have hj : Kit.Late fun k => spec_SameCache.j0 k true x.f0 x.f1 y.f0 y.f1 = some false := Kit.Late.succ (Kit.Late.all fun k => by simp [spec_SameCache.j0])
  by_cases h0 : x.f0.length = y.f0.length
  · by_cases h1 : x.f1.length = y.f1.length
    · have hh : Kit.Late fun k => spec_SameCache.l0 k 0 x.f0 x.f1 y.f0 y.f1 = some (Kit.zipAll gH x.f0 y.f0 && Kit.zipAll gG x.f1 y.f1) := by
        refine loop_and (fun k i => spec_SameCache.l0 k i x.f0 x.f1 y.f0 y.f1) (fun k => spec_SameCache.l1 k 0 x.f0 x.f1 y.f0 y.f1) gH _ x.f0 y.f0 h0 hx.1.1 (gens_spec x.f0 y.f0 x.f1 y.f1 hx.2.1 h1) (fun k => by simp only [spec_SameCache.l0]; rw [if_neg (by omega)]) fun i h2 h3 => ?_
        refine (shard_spec x.f0[i] y.f0[i] (hx.1.2 _ (List.getElem_mem h2))).mono fun k hk => ?_
        simp only [spec_SameCache.l0]
        rw [if_pos (by omega), if_pos (by omega), if_pos (by omega), show rd_T97 x.f0 (i : Int) = x.f0[i] from Kit.getD_at _ _ i h2, show rd_T97 y.f0 (i : Int) = y.f0[i] from Kit.getD_at _ _ i h3, Kit.wrap_succ h2 hx.1.1, hk]
        rfl
      have hh' : Kit.Late fun k => spec_SameCache.j0 k false x.f0 x.f1 y.f0 y.f1 = some (gC x y) := Kit.Late.succ (hh.mono fun k hk => by simp only [spec_SameCache.j0]; rw [if_neg (by simp)]; exact hk)
      exact hh'.mono fun k hk => by unfold spec_SameCache.f; rw [if_pos (by omega), show ((x.f1.length : Int) != (y.f1.length : Int)) = false by simp [h1], hk]
    · refine hj.mono fun k hk => ?_
      unfold spec_SameCache.f gC
      rw [if_pos (by omega), show ((x.f1.length : Int) != (y.f1.length : Int)) = true by simp only [bne_iff_ne, ne_eq]; omega, hk, Kit.zipAll_other gG _ _ h1, Bool.and_false]
  · refine hj.mono fun k hk => ?_
    unfold spec_SameCache.f gC
    rw [if_neg (by omega), hk, Kit.zipAll_other gH _ _ h0, Bool.false_and]
theorem cache_impl (x y : S62) (hx : M62 x) : Kit.Late fun k => impl_SameCache.f k x.f0 x.f1 y.f0 y.f1 = some (gC x y) := by
  refine ((Kit.eqBy_tells (fun k x y => impl_SameShard.f k x.f0 x.f1 x.f2 x.f3 y.f0 y.f1 y.f2 y.f3) gH x.f0 y.f0 fun a ha b _ => shard_impl a b (hx.1.2 a ha)).and (gens_impl x.f1 y.f1 hx.2.1)).mono fun k hk => ?_
  unfold impl_SameCache.f impl_Shard.f gC
  rw [hk.2]
  simp only [hk.1, Option.bind_some]
  cases Kit.zipAll gH x.f0 y.f0 <;> simp

theorem FnExactSameCache : laws_FnExactSameCache.Pure := by
  intro x0 x1 hx0 hx1
  unfold laws_FnExactSameCache.f
  have hs0 := szCache_tells x0 hx0 1048576 (by omega) (by omega)
  by_cases c0 : Kit.szr 1048576 (b56 x0) < 0
  · exact (hs0.mono fun k hk => by rw [hk, Option.bind_some, if_pos c0]).some
  have hb0 : (b56 x0 : Int) ≤ 1048576 := Kit.szr_ge c0
  have hs1 := szCache_tells x1 hx1 (1048576 - b56 x0) (by omega) (by omega)
  have he0 : Kit.szr 1048576 (b56 x0) = 1048576 - b56 x0 := Kit.szr_pos hb0
  rw [he0] at hs0 c0
  by_cases c1 : Kit.szr (1048576 - b56 x0) (b56 x1) < 0
  · exact ((hs0.and hs1).mono fun k hk => by rw [hk.1, Option.bind_some, if_neg c0, hk.2, Option.bind_some, if_pos c1]).some
  have hb1 : (b56 x1 : Int) ≤ 1048576 - b56 x0 := Kit.szr_ge c1
  have h0 := cv56_M x0 hx0
  have h1 := cv56_M x1 hx1
  refine (((hs0.and hs1).and ((toCache_tells x0 (by omega)).and (toCache_tells x1 (by omega)))).and (((cache_spec (cv56 x0) (cv56 x1) h0).and (cache_impl (cv56 x0) (cv56 x1) h0)).and ((eqCache_refl (cv56 x0) h0).and (eqCache_refl (cv56 x1) h1)))).mono (fun k hk => ?_) |>.some
  obtain ⟨⟨⟨k1, k2⟩, k3, k4⟩, ⟨k5, k6⟩, k7, k8⟩ := hk
  rw [k1, Option.bind_some, if_neg c0, k2, Option.bind_some, if_neg c1, k3, k4]
  simp only [Option.bind_some]
  rw [k5, k6]
  simp only [Option.bind_some]
  rw [k7, k8]
  simp

end Go.Proofs.Ythbmemimpakljaa.Pure
