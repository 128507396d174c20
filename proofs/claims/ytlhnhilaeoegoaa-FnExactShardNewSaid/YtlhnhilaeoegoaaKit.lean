/- Small plain laws that the pure statements share: rounds of a loop, indexes, wraps. No program in sight. -/
import Derived.Test.YtlhnhilaeoegoaaWWords
import Derived.Test.YtlhnhilaeoegoaaWApart
set_option linter.unusedVariables false
namespace Go.Proofs.Ytlhnhilaeoegoaa.Kit
open Go.RowKit Go.Proofs.YtlhnhilaeoegoaaW.PrintWords

theorem wrap_small {x : Int} (h0 : -9223372036854775808 ≤ x) (h1 : x ≤ 9223372036854775807) : wrap64 x = x := by unfold wrap64; omega
theorem wrap_succ {i n : Nat} (h : i < n) (hn : n ≤ 9223372036854775807) : wrap64 ((i : Int) + 1) = ((i + 1 : Nat) : Int) := by unfold wrap64; omega

/-- From some number of rounds on. -/
def Late (p : Nat → Prop) : Prop := ∃ K, ∀ k, K ≤ k → p k
theorem Late.and {p q : Nat → Prop} (h : Late p) (h' : Late q) : Late fun k => p k ∧ q k := by
  obtain ⟨K, h⟩ := h
  obtain ⟨K', h'⟩ := h'
  exact ⟨max K K', fun k hk => ⟨h k (Nat.le_trans (Nat.le_max_left _ _) hk), h' k (Nat.le_trans (Nat.le_max_right _ _) hk)⟩⟩
theorem Late.mono {p q : Nat → Prop} (h : Late p) (hpq : ∀ k, p k → q k) : Late q := by
  obtain ⟨K, h⟩ := h
  exact ⟨K, fun k hk => hpq k (h k hk)⟩
theorem Late.all {p : Nat → Prop} (h : ∀ k, p k) : Late p := ⟨0, fun k _ => h k⟩
theorem Late.succ {p : Nat → Prop} (h : Late fun k => p (k + 1)) : Late p := by
  obtain ⟨K, h⟩ := h
  refine ⟨K + 1, fun k hk => ?_⟩
  obtain ⟨m, rfl⟩ : ∃ m, k = m + 1 := ⟨k - 1, by omega⟩
  exact h m (by omega)
theorem Late.pred {p : Nat → Prop} (h : Late p) : Late fun k => p (k + 1) := by
  obtain ⟨K, h⟩ := h
  exact ⟨K, fun k hk => h (k + 1) (by omega)⟩
theorem Late.some {p : Nat → Prop} (h : Late p) : ∃ k, p k := by
  obtain ⟨K, h⟩ := h
  exact ⟨K, h K (Nat.le_refl _)⟩

/-- A loop that counts up to n: the head at i holds 'inv i'; each round goes on with the next state or ends. -/
theorem loop_up {σ ρ : Type} (f : Nat → σ → Int → Option ρ) (n : Nat) (inv : Nat → σ → Prop) (res : ρ → Prop)
    (hend : ∀ s, inv n s → ∃ r, res r ∧ Late fun k => f (k + 1) s (n : Int) = some r)
    (hstep : ∀ i s, i < n → inv i s → (∃ s', inv (i + 1) s' ∧ Late fun k => f (k + 1) s (i : Int) = f k s' ((i + 1 : Nat) : Int)) ∨ (∃ r, res r ∧ Late fun k => f (k + 1) s (i : Int) = some r))
    (i : Nat) (s : σ) (hi : i ≤ n) (h : inv i s) : ∃ r, res r ∧ Late fun k => f k s (i : Int) = some r := by
  obtain ⟨d, hd⟩ : ∃ d, n - i = d := ⟨_, rfl⟩
  induction d generalizing i s with
  | zero =>
    obtain rfl : i = n := by omega
    obtain ⟨r, hr, hf⟩ := hend s h
    exact ⟨r, hr, Late.succ hf⟩
  | succ d ih =>
    rcases hstep i s (by omega) h with ⟨s', h', hf⟩ | ⟨r, hr, hf⟩
    · obtain ⟨r, hr, hg⟩ := ih (i + 1) s' (by omega) h' (by omega)
      exact ⟨r, hr, Late.succ ((hf.and hg).mono fun k hk => hk.1.trans hk.2)⟩
    · exact ⟨r, hr, Late.succ hf⟩

theorem getD_at {α : Type} (xs : List α) (d : α) (i : Nat) (h : i < xs.length) : xs.getD ((i : Int).toNat) d = xs[i] := by
  simp [List.getD_eq_getElem?_getD, h]
theorem bytes_eq {a b : ByteArray} (h : a.toList = b.toList) : a = b := by
  rw [ByteArray.toList_eq, ByteArray.toList_eq] at h
  cases a
  cases b
  have := Array.toList_inj.mp h
  simp_all
/-- The place of the first of which p holds; -1 where there is none. -/
def fidx {α : Type} (p : α → Bool) (l : List α) : Int := match l.findIdx? p with | some i => (i : Int) | none => -1
theorem fidx_hit {α : Type} (p : α → Bool) (l : List α) (i : Nat) (x : α) (hx : l[i]? = some x) (hp : p x = true) (h : ∀ (j : Nat) y, j < i → l[j]? = some y → p y = false) : fidx p l = (i : Int) := by
  have e : l.findIdx? p = some i := by
    obtain ⟨hi, rfl⟩ := List.getElem?_eq_some_iff.mp hx
    rw [List.findIdx?_eq_some_iff_getElem]
    exact ⟨hi, hp, fun j hj => by simp [h j l[j] hj (List.getElem?_eq_getElem (by omega))]⟩
  unfold fidx
  rw [e]
theorem fidx_miss {α : Type} (p : α → Bool) (l : List α) (h : ∀ (j : Nat) y, l[j]? = some y → p y = false) : fidx p l = -1 := by
  have e : l.findIdx? p = none := by
    rw [List.findIdx?_eq_none_iff]
    intro x hx
    obtain ⟨j, hj, rfl⟩ := List.mem_iff_getElem.mp hx
    exact h j _ (List.getElem?_eq_getElem hj)
  unfold fidx
  rw [e]
theorem at_int {α : Type} (l : List α) (d : α) (i : Int) (h0 : 0 ≤ i) (h1 : i < (l.length : Int)) : l[i.toNat]? = some (l.getD i.toNat d) := by
  have h : i.toNat < l.length := by omega
  rw [List.getD_eq_getElem?_getD, List.getElem?_eq_getElem h]; rfl
theorem fidx_hit_int {α : Type} (p : α → Bool) (l : List α) (d : α) (i : Int) (h0 : 0 ≤ i) (h1 : i < (l.length : Int)) (hp : p (l.getD i.toNat d) = true)
    (h : ∀ (j : Nat) y, (j : Int) < i → l[j]? = some y → p y = false) : fidx p l = i := by
  rw [fidx_hit p l i.toNat _ (at_int l d i h0 h1) hp (fun j y hj => h j y (by omega))]
  omega
theorem fidx_miss_int {α : Type} (p : α → Bool) (l : List α) (i : Int) (h1 : ¬ i < (l.length : Int)) (h : ∀ (j : Nat) y, (j : Int) < i → l[j]? = some y → p y = false) : fidx p l = -1 :=
  fidx_miss p l (fun j y hy => h j y (by have := (List.getElem?_eq_some_iff.mp hy).1; omega) hy)
theorem fidx_step {α : Type} (p : α → Bool) (l : List α) (d : α) (i : Int) (h0 : 0 ≤ i) (h1 : i < (l.length : Int)) (hm : l.length ≤ 9223372036854775807) (hp : p (l.getD i.toNat d) = false)
    (h : ∀ (j : Nat) y, (j : Int) < i → l[j]? = some y → p y = false) : ∀ (j : Nat) y, (j : Int) < wrap64 (i + 1) → l[j]? = some y → p y = false := by
  intro j y hj hy
  have hw : wrap64 (i + 1) = i + 1 := by unfold wrap64; omega
  rw [hw] at hj
  by_cases e : (j : Int) < i
  · exact h j y e hy
  · have : j = i.toNat := by omega
    subst this
    rw [at_int l d i h0 h1] at hy
    injection hy with hy
    exact hy ▸ hp
theorem fidx_range {α : Type} (p : α → Bool) (l : List α) : fidx p l = -1 ∨ (0 ≤ fidx p l ∧ fidx p l < (l.length : Int)) := by
  unfold fidx
  cases h : l.findIdx? p with
  | none => exact .inl rfl
  | some i =>
    refine .inr ⟨by simp, ?_⟩
    obtain ⟨hi, _⟩ := List.findIdx?_eq_some_iff_getElem.mp h
    simpa using hi
theorem ret_int {k : IntKind} {a b : Int} (h : a = b) : Ending.returned (.int k a) = .returned (.int k b) := by rw [h]
theorem ret_bool {a b : Bool} (h : a = b) : Ending.returned (.bool a) = .returned (.bool b) := by rw [h]
theorem run_store_one {P : Program} {w : World} {a : Addr} {v : Value} {m : Mode} (hv : v.oneCell' = true) : (store a v m).run P w = stored P w a v m := run_store P w a _ m hv
theorem below_trans {w W w' : World} (h : Below w.heap.size w W) (h' : Below W.heap.size W w') : Below w.heap.size w w' := below_then h h.size h'
/-! ### How much is left of a size: what the laws' sz.. functions tell -/
def szr (left : Int) (b : Nat) : Int := if (b : Int) ≤ left then left - b else -1
def szs (left : Int) (n : Nat) (c : Int → Option Int) : Option Int := if (wrap64 (left - (n : Int))) < 0 then some (-1) else c (wrap64 (left - (n : Int)))
def szc (a : Option Int) (c : Int → Option Int) : Option Int := a.bind fun t => if t < 0 then some (-1) else c t
theorem szr_zero {left : Int} (h : 0 ≤ left) : szr left 0 = left := by unfold szr; rw [if_pos (by omega)]; omega
theorem szr_neg {left : Int} {b : Nat} (h : ¬ (b : Int) ≤ left) : szr left b = -1 := if_neg h
theorem szr_pos {left : Int} {b : Nat} (h : (b : Int) ≤ left) : szr left b = left - b := if_pos h
theorem szr_add {left : Int} {a b : Nat} (h : (a : Int) ≤ left) : szr (left - a) b = szr left (a + b) := by
  unfold szr
  by_cases c : (b : Int) ≤ left - a
  · rw [if_pos c, if_pos (by omega)]; omega
  · rw [if_neg c, if_neg (by omega)]
theorem szs_eval {left : Int} {n b : Nat} {c : Nat → Int → Option Int} (h0 : 0 ≤ left) (h1 : left ≤ 1048576) (hn : n ≤ 9223372036854775807)
    (h : (n : Int) ≤ left → Late fun k => c k (left - n) = some (szr (left - n) b)) : Late fun k => szs left n (c k) = some (szr left (n + b)) := by
  have e : wrap64 (left - (n : Int)) = left - n := by unfold wrap64; omega
  unfold szs
  rw [e]
  by_cases hc : left - (n : Int) < 0
  · exact Late.all fun k => by rw [if_pos hc, szr_neg (by omega)]
  · exact (h (by omega)).mono fun k hk => by rw [if_neg hc, hk, szr_add (by omega)]
theorem szc_eval {left : Int} {n b : Nat} {a : Nat → Option Int} {c : Nat → Int → Option Int} (ha : Late fun k => a k = some (szr left n))
    (h : (n : Int) ≤ left → Late fun k => c k (left - n) = some (szr (left - n) b)) : Late fun k => szc (a k) (c k) = some (szr left (n + b)) := by
  unfold szc
  by_cases hc : (n : Int) ≤ left
  · exact (ha.and (h hc)).mono fun k hk => by rw [hk.1, Option.bind_some, szr_pos hc, if_neg (by omega), hk.2, szr_add hc]
  · exact ha.mono fun k hk => by rw [hk, Option.bind_some, szr_neg hc, if_pos (by omega), szr_neg (by omega)]
theorem sz_end {left : Int} (h0 : 0 ≤ left) : Late fun _ => some left = some (szr left 0) := Late.all fun _ => by rw [szr_zero h0]
theorem szr_le {left : Int} {b : Nat} (h : szr left b < 0) (h0 : 0 ≤ left) : ¬ (b : Int) ≤ left := by
  intro hc
  rw [szr_pos hc] at h
  omega
theorem szr_ge {left : Int} {b : Nat} (h : ¬ szr left b < 0) : (b : Int) ≤ left := by
  rcases Decidable.em ((b : Int) ≤ left) with hc | hc
  · exact hc
  · rw [szr_neg hc] at h
    omega
theorem sz_list {α : Type} (f : Nat → List α → Int → Int → Option Int) (g : Nat → α → Int → Option Int) (b : α → Nat) (rdf : List α → Int → α)
    (hf : ∀ k l t i, f (k + 1) l t i = if i < (l.length : Int) then (if 0 ≤ i then ((g k (rdf l i) t).bind fun t' => (if t' < 0 then (some (-1)) else (f k l t' (wrap64 (i + 1))))) else none) else some t)
    (hrd : ∀ (l : List α) (i : Nat) (h : i < l.length), rdf l (i : Int) = l[i]) (l : List α) (hl : l.length ≤ 9223372036854775807)
    (hg : ∀ x ∈ l, ∀ t, 0 ≤ t → t ≤ 1048576 → Late fun k => g k x t = some (szr t (b x))) (d : Nat) :
    ∀ (i : Nat) (t : Int), i + d = l.length → 0 ≤ t → t ≤ 1048576 → Late fun k => f k l t (i : Int) = some (szr t (((l.drop i).map b).sum)) := by
  induction d with
  | zero =>
    intro i t hi h0 h1
    refine Late.succ (Late.all fun k => ?_)
    rw [hf, if_neg (by omega), List.drop_of_length_le (by omega)]
    simp [szr_zero h0]
  | succ d ih =>
    intro i t hi h0 h1
    have hlt : i < l.length := by omega
    have hx := hg l[i] (List.getElem_mem hlt) t h0 h1
    have hdrop : ((l.drop i).map b).sum = b l[i] + ((l.drop (i + 1)).map b).sum := by rw [List.drop_eq_getElem_cons hlt]; simp only [List.map_cons, List.sum_cons]
    rw [hdrop]
    by_cases hc : (b l[i] : Int) ≤ t
    · refine Late.succ ((hx.and (ih (i + 1) (t - b l[i]) (by omega) (by omega) (by omega))).mono fun k hk => ?_)
      rw [hf, if_pos (by omega), if_pos (by omega), hrd l i hlt, hk.1, Option.bind_some, szr_pos hc, if_neg (by omega), wrap_succ hlt hl, hk.2, szr_add hc]
    · refine Late.succ (hx.mono fun k hk => ?_)
      rw [hf, if_pos (by omega), if_pos (by omega), hrd l i hlt, hk, Option.bind_some, szr_neg hc, if_pos (by omega), szr_neg (by omega)]

theorem le_sum {α : Type} (b : α → Nat) (l : List α) (x : α) (hx : x ∈ l) : b x ≤ (l.map b).sum := by
  induction l with
  | nil => simp at hx
  | cons y l ih =>
    rw [List.map_cons, List.sum_cons]
    rcases List.mem_cons.mp hx with rfl | hx
    · omega
    · have := ih hx
      omega

/-! ### Copies element by element: the laws' to.. functions -/
theorem to_list {α β γ : Type} (f : Nat → List α → List β → Int → Option (List β)) (g : Nat → α → Option γ) (mk : γ → β) (conv : α → γ) (rdf : List α → Int → α)
    (hf : ∀ k l ys i, f (k + 1) l ys i = if i < (l.length : Int) then (if 0 ≤ i then ((g k (rdf l i)).bind fun y => (if i < (ys.length : Int) then (f k l (ys.set (i : Int).toNat (mk y)) (wrap64 (i + 1))) else none)) else none) else some ys)
    (hrd : ∀ (l : List α) (i : Nat) (h : i < l.length), rdf l (i : Int) = l[i]) (l : List α) (hl : l.length ≤ 9223372036854775807)
    (hg : ∀ x ∈ l, Late fun k => g k x = some (conv x)) (d : Nat) :
    ∀ (i : Nat) (ys : List β), i + d = l.length → ys.length = l.length → Late fun k => f k l ys (i : Int) = some (ys.take i ++ (l.drop i).map fun x => mk (conv x)) := by
  induction d with
  | zero =>
    intro i ys hi hy
    refine Late.succ (Late.all fun k => ?_)
    rw [hf, if_neg (by omega), List.drop_of_length_le (by omega), List.take_of_length_le (by omega)]
    simp
  | succ d ih =>
    intro i ys hi hy
    have hlt : i < l.length := by omega
    have hx := hg l[i] (List.getElem_mem hlt)
    refine Late.succ ((hx.and (ih (i + 1) (ys.set i (mk (conv l[i]))) (by omega) (by rw [List.length_set]; exact hy))).mono fun k hk => ?_)
    rw [hf, if_pos (by omega), if_pos (by omega), hrd l i hlt, hk.1, Option.bind_some, if_pos (by omega), wrap_succ hlt hl, Int.toNat_natCast, hk.2]
    congr 1
    rw [List.drop_eq_getElem_cons hlt, List.map_cons, List.take_succ_eq_append_getElem (by rw [List.length_set]; omega), List.getElem_set_self, List.take_set_of_le (Nat.le_refl _)]
    simp
theorem to_start {α β : Type} (l : List α) (z : β) (h : α → β) : (List.replicate l.length z).take 0 ++ (l.drop 0).map h = l.map h := by simp

/-! ### A comparison with itself: the laws' eq.. functions -/
theorem eq_list {α : Type} (f : Nat → List α → List α → Int → Option Bool) (g : Nat → α → α → Option Bool) (rdf : List α → Int → α)
    (hf : ∀ k a b i, f (k + 1) a b i = if i < (a.length : Int) then (if 0 ≤ i then (if i < (b.length : Int) then ((g k (rdf a i) (rdf b i)).bind fun t => (if t = true then (f k a b (wrap64 (i + 1))) else (some false))) else none) else none) else some true)
    (hrd : ∀ (l : List α) (i : Nat) (h : i < l.length), rdf l (i : Int) = l[i]) (l : List α) (hl : l.length ≤ 9223372036854775807)
    (hg : ∀ x ∈ l, Late fun k => g k x x = some true) (d : Nat) :
    ∀ (i : Nat), i + d = l.length → Late fun k => f k l l (i : Int) = some true := by
  induction d with
  | zero =>
    intro i hi
    refine Late.succ (Late.all fun k => ?_)
    rw [hf, if_neg (by omega)]
  | succ d ih =>
    intro i hi
    have hlt : i < l.length := by omega
    have hx := hg l[i] (List.getElem_mem hlt)
    refine Late.succ ((hx.and (ih (i + 1) (by omega))).mono fun k hk => ?_)
    rw [hf, if_pos (by omega), if_pos (by omega), if_pos (by omega), hrd l i hlt, hk.1, Option.bind_some, if_pos rfl, wrap_succ hlt hl, hk.2]

/-! ### Two lists compared place by place -/
def eqAll {α β : Type} (g : α → β → Option Bool) : List α → List β → Option Bool
  | [], [] => some true
  | x :: xs, y :: ys => (g x y).bind fun t => if t = true then eqAll g xs ys else some false
  | _, _ => some false
def eqBy {α β : Type} (g : α → β → Option Bool) (xs : List α) (ys : List β) : Option Bool := if xs.length = ys.length then eqAll g xs ys else some false
theorem eqAll_mono {α β : Type} {g g' : α → β → Option Bool} (h : ∀ x y, LeO (g x y) (g' x y)) : ∀ (xs : List α) (ys : List β), LeO (eqAll g xs ys) (eqAll g' xs ys)
  | [], [] => LeO.refl _
  | x :: xs, y :: ys => LeO.bind (h x y) fun t => LeO.ite (eqAll_mono h xs ys) (LeO.refl _)
  | [], _ :: _ => LeO.refl _
  | _ :: _, [] => LeO.refl _
theorem eqBy_mono {α β : Type} {g g' : α → β → Option Bool} (h : ∀ x y, LeO (g x y) (g' x y)) (xs : List α) (ys : List β) : LeO (eqBy g xs ys) (eqBy g' xs ys) := LeO.ite (eqAll_mono h xs ys) (LeO.refl _)
theorem eqBy_same {α β : Type} (g : α → β → Option Bool) {xs : List α} {ys : List β} (h : xs.length = ys.length) : eqBy g xs ys = eqAll g xs ys := if_pos h
theorem eqBy_other {α β : Type} (g : α → β → Option Bool) {xs : List α} {ys : List β} {r : Bool} (h : ¬ xs.length = ys.length) (hr : eqBy g xs ys = some r) : r = false := by
  unfold eqBy at hr
  rw [if_neg h] at hr
  exact (Option.some.inj hr).symm
theorem eqAll_step {α : Type} (g : α → α → Option Bool) (xs ys : List α) (z : α) (i : Int) (h0 : 0 ≤ i) (h1 : i < (xs.length : Int)) (h2 : i < (ys.length : Int)) {r : Bool} (h : eqAll g (xs.drop i.toNat) (ys.drop i.toNat) = some r) :
    ∃ t, g (xs.getD i.toNat z) (ys.getD i.toNat z) = some t ∧ (if t = true then eqAll g (xs.drop (i.toNat + 1)) (ys.drop (i.toNat + 1)) = some r else r = false) := by
  have g1 : i.toNat < xs.length := by omega
  have g2 : i.toNat < ys.length := by omega
  rw [List.drop_eq_getElem_cons g1, List.drop_eq_getElem_cons g2] at h
  simp only [eqAll] at h
  obtain ⟨t, ht, h⟩ := Option.bind_eq_some_iff.mp h
  refine ⟨t, by simpa [List.getD_eq_getElem?_getD, g1, g2] using ht, ?_⟩
  by_cases c : t = true
  · rw [if_pos c] at h ⊢
    exact h
  · rw [if_neg c] at h ⊢
    exact (Option.some.inj h).symm
theorem eqAll_end {α β : Type} (g : α → β → Option Bool) (xs : List α) (ys : List β) (i : Int) (h0 : 0 ≤ i) (h1 : ¬ i < (xs.length : Int)) (h2 : ¬ i < (ys.length : Int)) {r : Bool} (h : eqAll g (xs.drop i.toNat) (ys.drop i.toNat) = some r) : r = true := by
  rw [List.drop_of_length_le (by omega), List.drop_of_length_le (by omega)] at h
  exact (Option.some.inj h).symm

/-! ### The print's own phrases, said shorter (shrink.py) -/
class Ext (w w' : World) : Prop where b : Below w.heap.size w w'
instance extRefl (w : World) : Ext w w := ⟨Below.refl _ _⟩
instance extAlloc (w w' : World) (o : Obj) [h : Ext w w'] : Ext w (w'.alloc o) := ⟨below_alloc h.b o⟩
instance extDrewN (w w' : World) (n : Nat) [h : Ext w w'] : Ext w (w'.drewN n) := ⟨pw_below_drewN h.b n⟩
instance extDrew (w w' : World) [h : Ext w w'] : Ext w w'.drew := ⟨h.b.drew⟩
theorem bl {P : Prop} (h : P := by repeat (first | (with_reducible first | exact HB.out | apply below_alloc | apply pw_below_drewN | apply below_drew1 | refine below_set ?_ (Aside0.out (by with_reducible assumption))) | exact HB.out)) : P := h
theorem bz {w W : World} (h : Below w.heap.size w W := by repeat (first | (with_reducible first | exact HB.out | apply below_alloc | apply pw_below_drewN | apply below_drew1 | refine below_set ?_ (Aside0.out (by with_reducible assumption))) | exact HB.out)) : w.heap.size ≤ W.heap.size := below_size h
theorem gx {w W : World} {g : Nat} (hg : g = W.heap.size) (h : Below w.heap.size w W := by repeat (first | (with_reducible first | exact HB.out | apply below_alloc | apply pw_below_drewN | apply below_drew1 | refine below_set ?_ (Aside0.out (by with_reducible assumption))) | exact HB.out)) : w.heap.size ≤ g := hg ▸ below_size h
theorem bb {w w1 w2 : World} [l : Ext w w1] {g : Nat} {o : Obj} (h : w.heap[g]? = some o) (hb : Below w1.heap.size w1 w2) : w2.heap[g]? = some o := blk_below (blk_below h l.b) hb
theorem sx {α : Type} {d : Kd α} {e : TypeId} {w w1 : World} [l : Ext w w1] {base : Nat} {ok : Nat → Prop} {v : Value} {xs : List α} (h : Kd.S d e w base ok v xs) : Kd.S d e w1 base ok v xs := Kd.S_below h l.b
theorem cx {α : Type} {d : Kd α} {w w1 : World} [l : Ext w w1] {A : Option Addr} {n : Nat} {xs : List α} (h : d.C w A n xs) : d.C w1 A n xs := Kd.C_below h l.b
theorem gate_callee {P : Program} {ops : Array Oper} {o : Oper} {rest : List Oper} {a : Act} {Q : Exit → Act → World → Prop} {W : World} {f : FuncId} {as : Array Operand} {ts : Array TypeId} (_h : o.op = .call { callee := .value (.func f), args := as, argTypes := ts }) (h : wpList P ops Q (o :: rest) a W) : wpList P ops Q (o :: rest) a W := h
theorem rx {α : Type} {d : Kd α} {e : TypeId} {w w1 : World} [l : Ext w w1] {base : Nat} {ok : Nat → Prop} {v : Value} {xs : List α} (h : d.R e w base ok v xs) : d.R e w1 base ok v xs := Kd.R_below h l.b
theorem cr {α : Type} {d : Kd α} {w w0 w1 : World} [l : Ext w w1] {A : Option Addr} {n : Nat} {xs : List α} (h : d.C w0 A n xs) (hb : Below w0.heap.size w0 w) : d.C w1 A n xs := Kd.C_below (Kd.C_below h hb) l.b
/-- What lies outside block g stays. -/
class Off (g : Nat) (w W : World) : Prop where
  b : ∀ k, k < w.heap.size → k ≠ g → W.heap[k]? = w.heap[k]?
  s : w.heap.size ≤ W.heap.size
instance offRefl (g : Nat) (w : World) : Off g w w := ⟨fun _ _ _ => rfl, Nat.le_refl _⟩
instance offSet (g : Nat) (w W : World) (j : Nat) (u : Value) [h : Off g w W] : Off g w (W.setCell ⟨g, j, none⟩ u) := ⟨fun k hk hne => (Below.heap_setCell W ⟨g, j, none⟩ u k hne).trans (h.b k hk hne), Nat.le_trans h.s ((Below.refl 0 W).setCell (p := ⟨g, j, none⟩) (Nat.zero_le _) u).size⟩
instance offAlloc (g : Nat) (w W : World) (o : Obj) [h : Off g w W] : Off g w (W.alloc o) := ⟨fun k hk hne => (Below.heap_alloc W o k (by have := h.s; omega)).trans (h.b k hk hne), by have := (below_alloc (Below.refl W.heap.size W) o).size; have := h.s; omega⟩
instance offDrewN (g : Nat) (w W : World) (n : Nat) [h : Off g w W] : Off g w (W.drewN n) := ⟨h.b, h.s⟩
instance offDrew (g : Nat) (w W : World) [h : Off g w W] : Off g w W.drew := ⟨h.b, h.s⟩
theorem rf {α : Type} {d : Kd α} {e : TypeId} {g t : Nat} {cells : Array Value} {w w1 : World} [l : Off g w w1] {base : Nat} {ok : Nat → Prop} {v : Value} {xs : List α} (h : d.R e w base ok v xs) (hb : w.heap[g]? = some (.cells cells t (0, 0))) (ht : ∀ q, q ∈ e :: d.E → q ≠ t := by decide) : d.R e w1 base ok v xs :=
  Kd.R_mono (Kd.R_step (Kd.R_types h hb ht) (fun k ho hk => l.b k hk ho.2)) (fun _ h => h.1)
theorem sf {α : Type} {d : Kd α} {e : TypeId} {g t : Nat} {cells : Array Value} {w w1 : World} [l : Off g w w1] {base : Nat} {ok : Nat → Prop} {v : Value} {xs : List α} (h : Kd.S d e w base ok v xs) (hb : w.heap[g]? = some (.cells cells t (0, 0))) (ht : ∀ q, q ∈ e :: d.E → q ≠ t := by decide) : Kd.S d e w1 base ok v xs :=
  Kd.S_mono (Kd.S_step (Kd.S_types h hb ht) (fun k ho hk => l.b k hk ho.2)) (fun _ h => h.1)
theorem bB {w w1 w2 : World} [l : Ext w w1] {g : Nat} {o : Obj} (h : Aside0 (w.heap[g]? = some o)) (hb : Below w1.heap.size w1 w2) : Aside0 (w2.heap[g]? = some o) := ⟨bb h.out hb⟩
theorem hB {w W w2 : World} (k : Below W.heap.size W w2) (h : Below w.heap.size w W := by repeat (first | (with_reducible first | exact HB.out | apply below_alloc | apply pw_below_drewN | apply below_drew1 | refine below_set ?_ (Aside0.out (by with_reducible assumption))) | exact HB.out)) : Aside0 (Below w.heap.size w w2) := ⟨below_step h k⟩
theorem gX {w W : World} {g : Nat} (hg : g = W.heap.size) (h : Below w.heap.size w W := by repeat (first | (with_reducible first | exact HB.out | apply below_alloc | apply pw_below_drewN | apply below_drew1 | refine below_set ?_ (Aside0.out (by with_reducible assumption))) | exact HB.out)) : Aside0 (w.heap.size ≤ g) := ⟨hg ▸ below_size h⟩
theorem ov0 {P : Prop} (h : P := by first | exact (Kd.R_val ho0).2 | exact (Kd.R_val (Kd.S_R ho0)).2 | exact (Kd.N_val ho0).2) : P := h
theorem ov1 {P : Prop} (h : P := by first | exact (Kd.R_val ho1).2 | exact (Kd.R_val (Kd.S_R ho1)).2 | exact (Kd.N_val ho1).2) : P := h
theorem ov2 {P : Prop} (h : P := by first | exact (Kd.R_val ho2).2 | exact (Kd.R_val (Kd.S_R ho2)).2 | exact (Kd.N_val ho2).2) : P := h
theorem ov3 {P : Prop} (h : P := by first | exact (Kd.R_val ho3).2 | exact (Kd.R_val (Kd.S_R ho3)).2 | exact (Kd.N_val ho3).2) : P := h
theorem atAlloc {P : Program} {ops : Array Oper} {o : Oper} {rest : List Oper} {a : Act} {Q : Exit → Act → World → Prop} {W : World} {b : Obj} (h : ∀ w1, Below W.heap.size W w1 → w1.heap[W.heap.size]? = some b → wpList P ops Q (o :: rest) a w1) : wpList P ops Q (o :: rest) a (W.alloc b) := h _ (below_alloc (Below.refl _ _) _) (blk_new W b)
theorem far {w : World} {g g' i : Nat} {o : Obj} {u : Value} (h : w.heap[g]? = some o) (hp : Aside0 (g ≠ g')) : (w.setCell ⟨g', i, none⟩ u).heap[g]? = some o := (Below.heap_setCell w ⟨g', i, none⟩ u g hp.out).trans h
theorem bf {w w1 w2 : World} {g : Nat} {o : Obj} (h : w.heap[g]? = some o) (hb : Below w1.heap.size w1 w2) (l : w.heap[g]? = some o → w1.heap[g]? = some o := by intro h_; repeat (with_reducible first | exact h_ | refine blk_drewN ?_ _ | refine blk_drew ?_ | refine blk_alloc ?_ _ | refine Kit.far ?_ (by assumption))) : w2.heap[g]? = some o := blk_below (l h) hb
theorem nlt {w w1 : World} [l : Ext w w1] {g g' : Nat} {o : Obj} (hg : g' = w1.heap.size) (h : w.heap[g]? = some o) : g ≠ g' := hg ▸ Nat.ne_of_lt (blk_lt (blk_below h l.b))
theorem ngt {w w1 : World} [l : Ext w w1] {g g' : Nat} {o : Obj} (hg : g' = w1.heap.size) (h : w.heap[g]? = some o) : g' ≠ g := hg ▸ Nat.ne_of_gt (blk_lt (blk_below h l.b))
theorem nltf {w w1 : World} {g g' : Nat} {o : Obj} (hg : g' = w1.heap.size) (h : w.heap[g]? = some o) (l : w.heap[g]? = some o → w1.heap[g]? = some o := by intro h_; repeat (with_reducible first | exact h_ | refine blk_drewN ?_ _ | refine blk_drew ?_ | refine blk_alloc ?_ _ | refine Kit.far ?_ (by assumption))) : g ≠ g' := hg ▸ Nat.ne_of_lt (blk_lt (l h))
theorem ngtf {w w1 : World} {g g' : Nat} {o : Obj} (hg : g' = w1.heap.size) (h : w.heap[g]? = some o) (l : w.heap[g]? = some o → w1.heap[g]? = some o := by intro h_; repeat (with_reducible first | exact h_ | refine blk_drewN ?_ _ | refine blk_drew ?_ | refine blk_alloc ?_ _ | refine Kit.far ?_ (by assumption))) : g' ≠ g := hg ▸ Nat.ne_of_gt (blk_lt (l h))
theorem hr {P : Prop} (h : P := by first | (go_simp; done) | (go_simp; rfl)) : P := h
theorem er {P : Prop} (h : P := by first | rfl | (simp [errW_none, errW_some] <;> rfl) | (simp [*, errW_none, errW_some] <;> rfl)) : P := h
theorem asm {P : Prop} (h : P := by first | (with_reducible assumption) | assumption) : P := h
theorem am {P : Prop} (h : P := by (try simp only [List.map_toArray, List.map_cons, List.map_nil]); first | done | rfl | (simp only [List.length_drop, List.length_take]; rfl)) : P := h
theorem hx {w W : World} {p : Addr} {v : Value} (HB : Below w.heap.size w W) (h : w.cell? p = some v) : W.cell? p = some v := (HB.cell (World.block_lt_of_cell? w _ h)).trans h
theorem c1 {w : World} {g : Nat} {t : TypeId} {a0 : Value} (h : w.heap[g]? = some (.cells #[a0] t (0, 0))) : w.cell? ⟨g, 0, none⟩ = some a0 ∧ w.frozen? ⟨g, 0, none⟩ = false :=
  ⟨(blk_cell h 0).trans rfl, blk_frozen h 0⟩
theorem c2 {w : World} {g : Nat} {t : TypeId} {a0 a1 : Value} (h : w.heap[g]? = some (.cells #[a0, a1] t (0, 0))) : w.cell? ⟨g, 0, none⟩ = some a0 ∧ w.cell? ⟨g, 1, none⟩ = some a1 ∧ w.frozen? ⟨g, 0, none⟩ = false ∧ w.frozen? ⟨g, 1, none⟩ = false :=
  ⟨(blk_cell h 0).trans rfl, (blk_cell h 1).trans rfl, blk_frozen h 0, blk_frozen h 1⟩
theorem c3 {w : World} {g : Nat} {t : TypeId} {a0 a1 a2 : Value} (h : w.heap[g]? = some (.cells #[a0, a1, a2] t (0, 0))) : w.cell? ⟨g, 0, none⟩ = some a0 ∧ w.cell? ⟨g, 1, none⟩ = some a1 ∧ w.cell? ⟨g, 2, none⟩ = some a2 ∧ w.frozen? ⟨g, 0, none⟩ = false ∧ w.frozen? ⟨g, 1, none⟩ = false ∧ w.frozen? ⟨g, 2, none⟩ = false :=
  ⟨(blk_cell h 0).trans rfl, (blk_cell h 1).trans rfl, (blk_cell h 2).trans rfl, blk_frozen h 0, blk_frozen h 1, blk_frozen h 2⟩
theorem c4 {w : World} {g : Nat} {t : TypeId} {a0 a1 a2 a3 : Value} (h : w.heap[g]? = some (.cells #[a0, a1, a2, a3] t (0, 0))) : w.cell? ⟨g, 0, none⟩ = some a0 ∧ w.cell? ⟨g, 1, none⟩ = some a1 ∧ w.cell? ⟨g, 2, none⟩ = some a2 ∧ w.cell? ⟨g, 3, none⟩ = some a3 ∧ w.frozen? ⟨g, 0, none⟩ = false ∧ w.frozen? ⟨g, 1, none⟩ = false ∧ w.frozen? ⟨g, 2, none⟩ = false ∧ w.frozen? ⟨g, 3, none⟩ = false :=
  ⟨(blk_cell h 0).trans rfl, (blk_cell h 1).trans rfl, (blk_cell h 2).trans rfl, (blk_cell h 3).trans rfl, blk_frozen h 0, blk_frozen h 1, blk_frozen h 2, blk_frozen h 3⟩
theorem c5 {w : World} {g : Nat} {t : TypeId} {a0 a1 a2 a3 a4 : Value} (h : w.heap[g]? = some (.cells #[a0, a1, a2, a3, a4] t (0, 0))) : w.cell? ⟨g, 0, none⟩ = some a0 ∧ w.cell? ⟨g, 1, none⟩ = some a1 ∧ w.cell? ⟨g, 2, none⟩ = some a2 ∧ w.cell? ⟨g, 3, none⟩ = some a3 ∧ w.cell? ⟨g, 4, none⟩ = some a4 ∧ w.frozen? ⟨g, 0, none⟩ = false ∧ w.frozen? ⟨g, 1, none⟩ = false ∧ w.frozen? ⟨g, 2, none⟩ = false ∧ w.frozen? ⟨g, 3, none⟩ = false ∧ w.frozen? ⟨g, 4, none⟩ = false :=
  ⟨(blk_cell h 0).trans rfl, (blk_cell h 1).trans rfl, (blk_cell h 2).trans rfl, (blk_cell h 3).trans rfl, (blk_cell h 4).trans rfl, blk_frozen h 0, blk_frozen h 1, blk_frozen h 2, blk_frozen h 3, blk_frozen h 4⟩
theorem c6 {w : World} {g : Nat} {t : TypeId} {a0 a1 a2 a3 a4 a5 : Value} (h : w.heap[g]? = some (.cells #[a0, a1, a2, a3, a4, a5] t (0, 0))) : w.cell? ⟨g, 0, none⟩ = some a0 ∧ w.cell? ⟨g, 1, none⟩ = some a1 ∧ w.cell? ⟨g, 2, none⟩ = some a2 ∧ w.cell? ⟨g, 3, none⟩ = some a3 ∧ w.cell? ⟨g, 4, none⟩ = some a4 ∧ w.cell? ⟨g, 5, none⟩ = some a5 ∧ w.frozen? ⟨g, 0, none⟩ = false ∧ w.frozen? ⟨g, 1, none⟩ = false ∧ w.frozen? ⟨g, 2, none⟩ = false ∧ w.frozen? ⟨g, 3, none⟩ = false ∧ w.frozen? ⟨g, 4, none⟩ = false ∧ w.frozen? ⟨g, 5, none⟩ = false :=
  ⟨(blk_cell h 0).trans rfl, (blk_cell h 1).trans rfl, (blk_cell h 2).trans rfl, (blk_cell h 3).trans rfl, (blk_cell h 4).trans rfl, (blk_cell h 5).trans rfl, blk_frozen h 0, blk_frozen h 1, blk_frozen h 2, blk_frozen h 3, blk_frozen h 4, blk_frozen h 5⟩
theorem c7 {w : World} {g : Nat} {t : TypeId} {a0 a1 a2 a3 a4 a5 a6 : Value} (h : w.heap[g]? = some (.cells #[a0, a1, a2, a3, a4, a5, a6] t (0, 0))) : w.cell? ⟨g, 0, none⟩ = some a0 ∧ w.cell? ⟨g, 1, none⟩ = some a1 ∧ w.cell? ⟨g, 2, none⟩ = some a2 ∧ w.cell? ⟨g, 3, none⟩ = some a3 ∧ w.cell? ⟨g, 4, none⟩ = some a4 ∧ w.cell? ⟨g, 5, none⟩ = some a5 ∧ w.cell? ⟨g, 6, none⟩ = some a6 ∧ w.frozen? ⟨g, 0, none⟩ = false ∧ w.frozen? ⟨g, 1, none⟩ = false ∧ w.frozen? ⟨g, 2, none⟩ = false ∧ w.frozen? ⟨g, 3, none⟩ = false ∧ w.frozen? ⟨g, 4, none⟩ = false ∧ w.frozen? ⟨g, 5, none⟩ = false ∧ w.frozen? ⟨g, 6, none⟩ = false :=
  ⟨(blk_cell h 0).trans rfl, (blk_cell h 1).trans rfl, (blk_cell h 2).trans rfl, (blk_cell h 3).trans rfl, (blk_cell h 4).trans rfl, (blk_cell h 5).trans rfl, (blk_cell h 6).trans rfl, blk_frozen h 0, blk_frozen h 1, blk_frozen h 2, blk_frozen h 3, blk_frozen h 4, blk_frozen h 5, blk_frozen h 6⟩
theorem c8 {w : World} {g : Nat} {t : TypeId} {a0 a1 a2 a3 a4 a5 a6 a7 : Value} (h : w.heap[g]? = some (.cells #[a0, a1, a2, a3, a4, a5, a6, a7] t (0, 0))) : w.cell? ⟨g, 0, none⟩ = some a0 ∧ w.cell? ⟨g, 1, none⟩ = some a1 ∧ w.cell? ⟨g, 2, none⟩ = some a2 ∧ w.cell? ⟨g, 3, none⟩ = some a3 ∧ w.cell? ⟨g, 4, none⟩ = some a4 ∧ w.cell? ⟨g, 5, none⟩ = some a5 ∧ w.cell? ⟨g, 6, none⟩ = some a6 ∧ w.cell? ⟨g, 7, none⟩ = some a7 ∧ w.frozen? ⟨g, 0, none⟩ = false ∧ w.frozen? ⟨g, 1, none⟩ = false ∧ w.frozen? ⟨g, 2, none⟩ = false ∧ w.frozen? ⟨g, 3, none⟩ = false ∧ w.frozen? ⟨g, 4, none⟩ = false ∧ w.frozen? ⟨g, 5, none⟩ = false ∧ w.frozen? ⟨g, 6, none⟩ = false ∧ w.frozen? ⟨g, 7, none⟩ = false :=
  ⟨(blk_cell h 0).trans rfl, (blk_cell h 1).trans rfl, (blk_cell h 2).trans rfl, (blk_cell h 3).trans rfl, (blk_cell h 4).trans rfl, (blk_cell h 5).trans rfl, (blk_cell h 6).trans rfl, (blk_cell h 7).trans rfl, blk_frozen h 0, blk_frozen h 1, blk_frozen h 2, blk_frozen h 3, blk_frozen h 4, blk_frozen h 5, blk_frozen h 6, blk_frozen h 7⟩
theorem c9 {w : World} {g : Nat} {t : TypeId} {a0 a1 a2 a3 a4 a5 a6 a7 a8 : Value} (h : w.heap[g]? = some (.cells #[a0, a1, a2, a3, a4, a5, a6, a7, a8] t (0, 0))) : w.cell? ⟨g, 0, none⟩ = some a0 ∧ w.cell? ⟨g, 1, none⟩ = some a1 ∧ w.cell? ⟨g, 2, none⟩ = some a2 ∧ w.cell? ⟨g, 3, none⟩ = some a3 ∧ w.cell? ⟨g, 4, none⟩ = some a4 ∧ w.cell? ⟨g, 5, none⟩ = some a5 ∧ w.cell? ⟨g, 6, none⟩ = some a6 ∧ w.cell? ⟨g, 7, none⟩ = some a7 ∧ w.cell? ⟨g, 8, none⟩ = some a8 ∧ w.frozen? ⟨g, 0, none⟩ = false ∧ w.frozen? ⟨g, 1, none⟩ = false ∧ w.frozen? ⟨g, 2, none⟩ = false ∧ w.frozen? ⟨g, 3, none⟩ = false ∧ w.frozen? ⟨g, 4, none⟩ = false ∧ w.frozen? ⟨g, 5, none⟩ = false ∧ w.frozen? ⟨g, 6, none⟩ = false ∧ w.frozen? ⟨g, 7, none⟩ = false ∧ w.frozen? ⟨g, 8, none⟩ = false :=
  ⟨(blk_cell h 0).trans rfl, (blk_cell h 1).trans rfl, (blk_cell h 2).trans rfl, (blk_cell h 3).trans rfl, (blk_cell h 4).trans rfl, (blk_cell h 5).trans rfl, (blk_cell h 6).trans rfl, (blk_cell h 7).trans rfl, (blk_cell h 8).trans rfl, blk_frozen h 0, blk_frozen h 1, blk_frozen h 2, blk_frozen h 3, blk_frozen h 4, blk_frozen h 5, blk_frozen h 6, blk_frozen h 7, blk_frozen h 8⟩
theorem c10 {w : World} {g : Nat} {t : TypeId} {a0 a1 a2 a3 a4 a5 a6 a7 a8 a9 : Value} (h : w.heap[g]? = some (.cells #[a0, a1, a2, a3, a4, a5, a6, a7, a8, a9] t (0, 0))) : w.cell? ⟨g, 0, none⟩ = some a0 ∧ w.cell? ⟨g, 1, none⟩ = some a1 ∧ w.cell? ⟨g, 2, none⟩ = some a2 ∧ w.cell? ⟨g, 3, none⟩ = some a3 ∧ w.cell? ⟨g, 4, none⟩ = some a4 ∧ w.cell? ⟨g, 5, none⟩ = some a5 ∧ w.cell? ⟨g, 6, none⟩ = some a6 ∧ w.cell? ⟨g, 7, none⟩ = some a7 ∧ w.cell? ⟨g, 8, none⟩ = some a8 ∧ w.cell? ⟨g, 9, none⟩ = some a9 ∧ w.frozen? ⟨g, 0, none⟩ = false ∧ w.frozen? ⟨g, 1, none⟩ = false ∧ w.frozen? ⟨g, 2, none⟩ = false ∧ w.frozen? ⟨g, 3, none⟩ = false ∧ w.frozen? ⟨g, 4, none⟩ = false ∧ w.frozen? ⟨g, 5, none⟩ = false ∧ w.frozen? ⟨g, 6, none⟩ = false ∧ w.frozen? ⟨g, 7, none⟩ = false ∧ w.frozen? ⟨g, 8, none⟩ = false ∧ w.frozen? ⟨g, 9, none⟩ = false :=
  ⟨(blk_cell h 0).trans rfl, (blk_cell h 1).trans rfl, (blk_cell h 2).trans rfl, (blk_cell h 3).trans rfl, (blk_cell h 4).trans rfl, (blk_cell h 5).trans rfl, (blk_cell h 6).trans rfl, (blk_cell h 7).trans rfl, (blk_cell h 8).trans rfl, (blk_cell h 9).trans rfl, blk_frozen h 0, blk_frozen h 1, blk_frozen h 2, blk_frozen h 3, blk_frozen h 4, blk_frozen h 5, blk_frozen h 6, blk_frozen h 7, blk_frozen h 8, blk_frozen h 9⟩
theorem c11 {w : World} {g : Nat} {t : TypeId} {a0 a1 a2 a3 a4 a5 a6 a7 a8 a9 a10 : Value} (h : w.heap[g]? = some (.cells #[a0, a1, a2, a3, a4, a5, a6, a7, a8, a9, a10] t (0, 0))) : w.cell? ⟨g, 0, none⟩ = some a0 ∧ w.cell? ⟨g, 1, none⟩ = some a1 ∧ w.cell? ⟨g, 2, none⟩ = some a2 ∧ w.cell? ⟨g, 3, none⟩ = some a3 ∧ w.cell? ⟨g, 4, none⟩ = some a4 ∧ w.cell? ⟨g, 5, none⟩ = some a5 ∧ w.cell? ⟨g, 6, none⟩ = some a6 ∧ w.cell? ⟨g, 7, none⟩ = some a7 ∧ w.cell? ⟨g, 8, none⟩ = some a8 ∧ w.cell? ⟨g, 9, none⟩ = some a9 ∧ w.cell? ⟨g, 10, none⟩ = some a10 ∧ w.frozen? ⟨g, 0, none⟩ = false ∧ w.frozen? ⟨g, 1, none⟩ = false ∧ w.frozen? ⟨g, 2, none⟩ = false ∧ w.frozen? ⟨g, 3, none⟩ = false ∧ w.frozen? ⟨g, 4, none⟩ = false ∧ w.frozen? ⟨g, 5, none⟩ = false ∧ w.frozen? ⟨g, 6, none⟩ = false ∧ w.frozen? ⟨g, 7, none⟩ = false ∧ w.frozen? ⟨g, 8, none⟩ = false ∧ w.frozen? ⟨g, 9, none⟩ = false ∧ w.frozen? ⟨g, 10, none⟩ = false :=
  ⟨(blk_cell h 0).trans rfl, (blk_cell h 1).trans rfl, (blk_cell h 2).trans rfl, (blk_cell h 3).trans rfl, (blk_cell h 4).trans rfl, (blk_cell h 5).trans rfl, (blk_cell h 6).trans rfl, (blk_cell h 7).trans rfl, (blk_cell h 8).trans rfl, (blk_cell h 9).trans rfl, (blk_cell h 10).trans rfl, blk_frozen h 0, blk_frozen h 1, blk_frozen h 2, blk_frozen h 3, blk_frozen h 4, blk_frozen h 5, blk_frozen h 6, blk_frozen h 7, blk_frozen h 8, blk_frozen h 9, blk_frozen h 10⟩
theorem c12 {w : World} {g : Nat} {t : TypeId} {a0 a1 a2 a3 a4 a5 a6 a7 a8 a9 a10 a11 : Value} (h : w.heap[g]? = some (.cells #[a0, a1, a2, a3, a4, a5, a6, a7, a8, a9, a10, a11] t (0, 0))) : w.cell? ⟨g, 0, none⟩ = some a0 ∧ w.cell? ⟨g, 1, none⟩ = some a1 ∧ w.cell? ⟨g, 2, none⟩ = some a2 ∧ w.cell? ⟨g, 3, none⟩ = some a3 ∧ w.cell? ⟨g, 4, none⟩ = some a4 ∧ w.cell? ⟨g, 5, none⟩ = some a5 ∧ w.cell? ⟨g, 6, none⟩ = some a6 ∧ w.cell? ⟨g, 7, none⟩ = some a7 ∧ w.cell? ⟨g, 8, none⟩ = some a8 ∧ w.cell? ⟨g, 9, none⟩ = some a9 ∧ w.cell? ⟨g, 10, none⟩ = some a10 ∧ w.cell? ⟨g, 11, none⟩ = some a11 ∧ w.frozen? ⟨g, 0, none⟩ = false ∧ w.frozen? ⟨g, 1, none⟩ = false ∧ w.frozen? ⟨g, 2, none⟩ = false ∧ w.frozen? ⟨g, 3, none⟩ = false ∧ w.frozen? ⟨g, 4, none⟩ = false ∧ w.frozen? ⟨g, 5, none⟩ = false ∧ w.frozen? ⟨g, 6, none⟩ = false ∧ w.frozen? ⟨g, 7, none⟩ = false ∧ w.frozen? ⟨g, 8, none⟩ = false ∧ w.frozen? ⟨g, 9, none⟩ = false ∧ w.frozen? ⟨g, 10, none⟩ = false ∧ w.frozen? ⟨g, 11, none⟩ = false :=
  ⟨(blk_cell h 0).trans rfl, (blk_cell h 1).trans rfl, (blk_cell h 2).trans rfl, (blk_cell h 3).trans rfl, (blk_cell h 4).trans rfl, (blk_cell h 5).trans rfl, (blk_cell h 6).trans rfl, (blk_cell h 7).trans rfl, (blk_cell h 8).trans rfl, (blk_cell h 9).trans rfl, (blk_cell h 10).trans rfl, (blk_cell h 11).trans rfl, blk_frozen h 0, blk_frozen h 1, blk_frozen h 2, blk_frozen h 3, blk_frozen h 4, blk_frozen h 5, blk_frozen h 6, blk_frozen h 7, blk_frozen h 8, blk_frozen h 9, blk_frozen h 10, blk_frozen h 11⟩
end Go.Proofs.Ytlhnhilaeoegoaa.Kit
