/- More plain laws that the pure statements share. No program in sight. -/
import Derived.Test.YthbmemimpakljaaKit
import Derived.Lib.Join
set_option linter.unusedVariables false
namespace Go.Proofs.Ythbmemimpakljaa.Kit
open Go.RowKit Go.Proofs.YthbmemimpakljaaW.PrintWords

/-! ### Lists compared element by element -/
def zipAll {α : Type} (g : α → α → Bool) : List α → List α → Bool
  | [], [] => true
  | x :: xs, y :: ys => g x y && zipAll g xs ys
  | _, _ => false
theorem zipAll_other {α : Type} (g : α → α → Bool) : ∀ (xs ys : List α), ¬ xs.length = ys.length → zipAll g xs ys = false
  | [], [], h => absurd rfl h
  | [], _ :: _, _ => rfl
  | _ :: _, [], _ => rfl
  | _ :: xs, _ :: ys, h => by unfold zipAll; rw [zipAll_other g xs ys (fun e => h (by simp [e]))]; simp
theorem zipAll_drop {α : Type} (g : α → α → Bool) (xs ys : List α) (i : Nat) (h : i < xs.length) (h' : i < ys.length) : zipAll g (xs.drop i) (ys.drop i) = (g xs[i] ys[i] && zipAll g (xs.drop (i + 1)) (ys.drop (i + 1))) := by
  rw [List.drop_eq_getElem_cons h, List.drop_eq_getElem_cons h']; rfl
theorem zipAll_congr {α : Type} {g g' : α → α → Bool} : ∀ (xs ys : List α), (∀ x ∈ xs, ∀ y ∈ ys, g x y = g' x y) → zipAll g xs ys = zipAll g' xs ys
  | [], [], _ => rfl
  | [], _ :: _, _ => rfl
  | _ :: _, [], _ => rfl
  | x :: xs, y :: ys, h => by
    unfold zipAll
    rw [h x (by simp) y (by simp), zipAll_congr xs ys (fun a ha b hb => h a (by simp [ha]) b (by simp [hb]))]
theorem cmp_loop {α : Type} (F : Nat → Int → Option Bool) (g : α → α → Bool) (xs ys : List α) (hl : xs.length = ys.length) (hm : xs.length ≤ 9223372036854775807)
    (hend : ∀ k, F (k + 1) (xs.length : Int) = some true)
    (hstep : ∀ i (h : i < xs.length) (h' : i < ys.length), Late fun k => F (k + 1) (i : Int) = if g xs[i] ys[i] = true then F k ((i + 1 : Nat) : Int) else some false) : Late fun k => F k 0 = some (zipAll g xs ys) := by
  obtain ⟨r, rfl, h⟩ := loop_up (fun k (_ : Unit) i => F k i) xs.length (fun i _ => zipAll g (xs.drop i) (ys.drop i) = zipAll g xs ys) (fun r => r = zipAll g xs ys)
    (fun s hs => ⟨true, by rw [← hs, List.drop_of_length_le (Nat.le_refl _), List.drop_of_length_le (by omega)]; rfl, Late.all hend⟩)
    (fun i s hi hs => by
      have hi' : i < ys.length := by omega
      rw [zipAll_drop g xs ys i hi hi'] at hs
      by_cases c : g xs[i] ys[i] = true
      · rw [c, Bool.true_and] at hs
        exact .inl ⟨(), hs, (hstep i hi hi').mono fun k hk => by simp only [hk]; rw [if_pos c]⟩
      · refine .inr ⟨false, ?_, (hstep i hi hi').mono fun k hk => by simp only [hk]; rw [if_neg c]⟩
        rw [← hs, show g xs[i] ys[i] = false by simpa using c, Bool.false_and])
    0 () (by omega) rfl
  exact h
theorem eqAll_tells {α : Type} (G : Nat → α → α → Option Bool) (g : α → α → Bool) : ∀ (xs ys : List α), xs.length = ys.length → (∀ x ∈ xs, ∀ y ∈ ys, Late fun k => G k x y = some (g x y)) → Late fun k => eqAll (G k) xs ys = some (zipAll g xs ys)
  | [], [], _, _ => Late.all fun _ => rfl
  | [], _ :: _, h, _ => by simp at h
  | _ :: _, [], h, _ => by simp at h
  | x :: xs, y :: ys, h, hg => by
    refine ((hg x (by simp) y (by simp)).and (eqAll_tells G g xs ys (by simpa using h) (fun a ha b hb => hg a (by simp [ha]) b (by simp [hb])))).mono fun k hk => ?_
    unfold eqAll zipAll
    rw [hk.1]
    simp only [Option.bind_some]
    cases g x y
    · rfl
    · simpa using hk.2
theorem eqBy_tells {α : Type} (G : Nat → α → α → Option Bool) (g : α → α → Bool) (xs ys : List α) (hg : ∀ x ∈ xs, ∀ y ∈ ys, Late fun k => G k x y = some (g x y)) : Late fun k => eqBy (G k) xs ys = some (zipAll g xs ys) := by
  by_cases h : xs.length = ys.length
  · exact (eqAll_tells G g xs ys h hg).mono fun k hk => by unfold eqBy; rw [if_pos h]; exact hk
  · exact Late.all fun k => by unfold eqBy; rw [if_neg h, zipAll_other g xs ys h]
/-! ### The values of a name, joined -/
def vals {α : Type} (nm vl : α → ByteArray) (u : ByteArray) (l : List α) : List ByteArray := (l.filter fun x => (nm x).toList == u.toList).map vl
def joined (vs : List ByteArray) : ByteArray := ⟨(Lib.join (vs.map (·.data.toList)) [44, 32]).toArray⟩
theorem vals_step {α : Type} (nm vl : α → ByteArray) (u : ByteArray) (l : List α) (i : Nat) (h : i < l.length) : vals nm vl u (l.take (i + 1)) = if (nm l[i]).toList = u.toList then vals nm vl u (l.take i) ++ [vl l[i]] else vals nm vl u (l.take i) := by
  unfold vals
  rw [List.take_succ_eq_append_getElem h, List.filter_append, List.map_append]
  by_cases c : (nm l[i]).toList = u.toList
  · simp [c]
  · simp [c]
theorem joined_snoc (vs : List ByteArray) (v : ByteArray) : joined (vs ++ [v]) = if vs = [] then v else (joined vs ++ (⟨#[44, 32]⟩ : ByteArray)) ++ v := by
  cases vs with
  | nil => simp [joined, Lib.join_one]
  | cons x r =>
    rw [if_neg (by simp)]
    apply ByteArray.ext
    simp [joined, Lib.join_cons, Lib.joinTail, ByteArray.data_append]
theorem vals_len {α : Type} (nm vl : α → ByteArray) (u : ByteArray) (l : List α) : (vals nm vl u l).length ≤ l.length := by
  unfold vals
  rw [List.length_map]
  exact List.length_filter_le _ _
theorem lens_vals {α : Type} (nm vl : α → ByteArray) (b : α → Nat) (hb : ∀ x, (vl x).size ≤ b x) (u : ByteArray) : ∀ l : List α, Lib.lens ((vals nm vl u l).map (·.data.toList)) ≤ (l.map b).sum
  | [] => Nat.le_refl _
  | x :: l => by
    have ih := lens_vals nm vl b hb u l
    have hx := hb x
    unfold vals Lib.lens at ih ⊢
    by_cases c : (nm x).toList = u.toList
    · simp [c] at ih ⊢
      have : (vl x).data.size = (vl x).size := rfl
      omega
    · simp [c] at ih ⊢
      omega
theorem joined_len {α : Type} (nm vl : α → ByteArray) (b : α → Nat) (hb : ∀ x, (vl x).size ≤ b x) (u : ByteArray) (l : List α) : (joined (vals nm vl u l)).size ≤ 2 * l.length + (l.map b).sum := by
  have h := lens_vals nm vl b hb u l
  have h' := vals_len nm vl u l
  have e : (joined (vals nm vl u l)).size = (Lib.join ((vals nm vl u l).map (·.data.toList)) [44, 32]).length := by simp [joined, ByteArray.size]
  rw [e]
  cases hv : vals nm vl u l with
  | nil => simp [Lib.join_nil]
  | cons x r =>
    rw [hv] at h h'
    rw [List.map_cons] at h ⊢
    rw [Lib.join_length]
    simp only [List.length_cons, List.length_nil, List.length_map] at h' ⊢
    omega
theorem get_impl {α : Type} (F : Nat → List ByteArray → Int → Option (ByteArray × Bool)) (J : List ByteArray → Option ByteArray) (nm vl : α → ByteArray) (rdf : List α → Int → α) (u : ByteArray) (l : List α)
    (hF : ∀ k s i, F (k + 1) s i = if i < (l.length : Int) then (if 0 ≤ i then (if i < (l.length : Int) then (if (nm (rdf l i)).toList = u.toList then (if s.length < 8796093022208 then F k (s ++ [vl (rdf l i)]) (wrap64 (i + 1)) else none) else F k s (wrap64 (i + 1))) else none) else none) else (J s).bind fun t => some (t, decide ((s.length : Int) > 0)))
    (hrd : ∀ i (h : i < l.length), rdf l (i : Int) = l[i]) (hm : l.length ≤ 1048576)
    (hJ : J (vals nm vl u l) = some (joined (vals nm vl u l))) : Late fun k => F k [] 0 = some (joined (vals nm vl u l), decide (((vals nm vl u l).length : Int) > 0)) := by
  obtain ⟨r, rfl, h⟩ := loop_up (fun k s i => F k s i) l.length (fun i s => s = vals nm vl u (l.take i)) (fun r => r = (joined (vals nm vl u l), decide (((vals nm vl u l).length : Int) > 0)))
    (fun s hs => ⟨_, rfl, Late.all fun k => by
      rw [List.take_length] at hs
      subst hs
      rw [hF, if_neg (by omega), hJ]
      rfl⟩)
    (fun i s hi hs => by
      subst hs
      refine .inl ⟨_, rfl, Late.all fun k => ?_⟩
      have hl := vals_len nm vl u (l.take i)
      rw [List.length_take] at hl
      rw [hF, if_pos (by omega), if_pos (by omega), if_pos (by omega), hrd i hi, wrap_succ hi (by omega), vals_step nm vl u l i hi]
      by_cases c : (nm l[i]).toList = u.toList
      · rw [if_pos c, if_pos c, if_pos (by omega)]
      · rw [if_neg c, if_neg c])
    0 [] (by omega) rfl
  exact h
theorem get_spec {α : Type} (F : Nat → ByteArray → Bool → Int → Option (ByteArray × Bool)) (nm vl : α → ByteArray) (rdf : List α → Int → α) (u : ByteArray) (l : List α)
    (hF : ∀ k s t i, F (k + 1) s t i = if i < (l.length : Int) then (if 0 ≤ i then (if (nm (rdf l i)).toList = u.toList then (if t = true then (if s.size + 2 ≤ 9223372036854775807 then (if (s ++ (⟨#[44, 32]⟩ : ByteArray)).size + (vl (rdf l i)).size ≤ 9223372036854775807 then F k ((s ++ (⟨#[44, 32]⟩ : ByteArray)) ++ (vl (rdf l i))) true (wrap64 (i + 1)) else none) else none) else (if s.size + (vl (rdf l i)).size ≤ 9223372036854775807 then F k (s ++ (vl (rdf l i))) true (wrap64 (i + 1)) else none)) else F k s t (wrap64 (i + 1))) else none) else some (s, t))
    (hrd : ∀ i (h : i < l.length), rdf l (i : Int) = l[i]) (b : α → Nat) (hb : ∀ x, (vl x).size ≤ b x) (hm : l.length + (l.map b).sum ≤ 1048576) : Late fun k => F k (⟨#[]⟩ : ByteArray) false 0 = some (joined (vals nm vl u l), decide (((vals nm vl u l).length : Int) > 0)) := by
  obtain ⟨r, rfl, h⟩ := loop_up (fun k (s : ByteArray × Bool) i => F k s.1 s.2 i) l.length (fun i s => s = (joined (vals nm vl u (l.take i)), decide (((vals nm vl u (l.take i)).length : Int) > 0))) (fun r => r = (joined (vals nm vl u l), decide (((vals nm vl u l).length : Int) > 0)))
    (fun s hs => ⟨_, rfl, Late.all fun k => by
      rw [List.take_length] at hs
      subst hs
      simp only
      rw [hF, if_neg (by omega)]⟩)
    (fun i s hi hs => by
      subst hs
      refine .inl ⟨_, rfl, Late.all fun k => ?_⟩
      have hl := joined_len nm vl b hb u (l.take i)
      have hs : ((l.take i).map b).sum ≤ (l.map b).sum := by
        conv => rhs; rw [← List.take_append_drop i l, List.map_append, List.sum_append]
        omega
      have hx := hb l[i]
      have hx' := le_sum b l l[i] (List.getElem_mem hi)
      rw [List.length_take] at hl
      simp only
      rw [hF, if_pos (by omega), if_pos (by omega), hrd i hi, wrap_succ hi (by omega), vals_step nm vl u l i hi]
      by_cases c : (nm l[i]).toList = u.toList
      · rw [if_pos c, if_pos c, joined_snoc]
        by_cases e : vals nm vl u (l.take i) = []
        · rw [e, if_neg (by simp), if_pos (by rw [e] at hl; omega)]
          have e0 : (⟨#[]⟩ : ByteArray) ++ vl l[i] = vl l[i] := ByteArray.ext (by simp [ByteArray.data_append])
          simp [joined, Lib.join_nil, e0]
        · have : 0 < (vals nm vl u (l.take i)).length := List.length_pos_iff.mpr e
          rw [if_pos (by simpa using this), if_pos (by omega), if_pos (by rw [ByteArray.size_append]; show _ + 2 + _ ≤ _; omega), if_neg e]
          simp
      · rw [if_neg c, if_neg c])
    0 (⟨#[]⟩, false) (by omega) (by simp [vals, joined, Lib.join_nil])
  exact h
end Go.Proofs.Ythbmemimpakljaa.Kit
