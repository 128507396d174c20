/- A small verified machine for the operations of the given program, and plain laws of what its functions compute; without conditions of its own. Part 5. -/
import Derived.Test.YtinphipdffikhaaDoorM3
import Derived.Lib.IndexBytes
import Derived.Lib.IndexLaws
import Derived.DataReads
import Derived.Lib.Join
import Derived.Lib.SlTrimSet
import Derived.Laws.IdiomStrings
import Derived.Deep.LoopGhost
import Derived.Tactics
import Derived.Tactics2
import Derived.WalkKit
import Derived.RowKit3
import Derived.WideLaws
import Derived.OwnWalk
import Derived.Laws.Slices
import Derived.Laws.Rows
import Derived.Laws.Cells
import Derived.Laws.BytesString
import Derived.Lib.ConvBytes
import Derived.Test.YtinphipdffikhaaDoorShelf
import Derived.Shelf.Strings.SlTrimAscii
set_option linter.unusedVariables false
set_option linter.unusedSimpArgs false
section
/- Laws of the plain library: shards. -/
set_option linter.unusedVariables false
namespace Go.Ev
theorem impl_StoredOk_ok (a0 : Sto) (h : pStoredOk a0) : s_impl_StoredOk a0 (fun r => r = mStoredOk a0) := by
  have h1 : cz a0 ≤ 1048576 := h
  simp only [cz_pair] at h1
  have hs : cz a0.1 = a0.1.size := rfl
  have p1 : pUriOk a0.1 := by unfold pUriOk sm; omega
  have p2 : pResponseOk (a0.2.2.1, a0.2.2.2.1, a0.2.2.2.2.1) := by unfold pResponseOk md; simp only; omega
  unfold s_impl_StoredOk mStoredOk pIn
  grind
theorem spec_StoredOk_ok (a0 : Sto) (h : pStoredOk a0) : s_spec_StoredOk a0 (fun r => r = mStoredOk a0) := by
  have h1 : cz a0 ≤ 1048576 := h
  simp only [cz_pair] at h1
  have hs : cz a0.1 = a0.1.size := rfl
  have p1 : pUriOk a0.1 := by unfold pUriOk sm; omega
  have p2 : pResponseOk (a0.2.2.1, a0.2.2.2.1, a0.2.2.2.2.1) := by unfold pResponseOk md; simp only; omega
  unfold s_spec_StoredOk mStoredOk pIn
  grind
theorem sumN_take {l : List Nat} : ∀ {i : Nat} (h : i < l.length), sumN (l.take (i + 1)) = sumN (l.take i) + l[i] := by
  induction l with
  | nil => intro i h; simp at h
  | cons a l ih =>
    intro i h
    cases i with
    | zero => simp [sumN]
    | succ i =>
      have := ih (i := i) (by simpa using h)
      simp only [List.take_succ_cons, sumN, List.getElem_cons_succ] at this ⊢
      omega
theorem sumN_take_le {l : List Nat} : ∀ {i : Nat}, sumN (l.take i) ≤ sumN l := by
  induction l with
  | nil => intro i; simp
  | cons a l ih =>
    intro i
    cases i with
    | zero => simp [sumN]
    | succ i => have := ih (i := i); simp only [List.take_succ_cons, sumN] at this ⊢; omega
theorem bodies_le {r : List Slt} (h : cz r ≤ 1048576) : sumN (r.map fun x => x.2.2.2.2.1.size) ≤ 1048576 := by
  have key : ∀ r : List Slt, sumN (r.map fun x => x.2.2.2.2.1.size) ≤ sumN (r.map cz) := by
    intro r
    induction r with
    | nil => exact Nat.le_refl _
    | cons x r ih =>
      simp only [List.map_cons, sumN]
      have : x.2.2.2.2.1.size ≤ cz x := by simp only [cz_pair, cz_str]; omega
      omega
  have := key r
  rw [cz_list] at h
  omega
/-- The loop over the bodies. -/
def bodyB (r : List Slt) (Q : Int → Prop) (L : Int × Int → Prop) (y : Int × Int) : Prop :=
  (y.2 < (r.length : Int) → 0 ≤ y.2 ∧ y.2 < (r.length : Int) ∧ (L ((IntKind.i64.wrap (y.1 + ((rx r y.2).2.2.2.2.1.size : Int))), (IntKind.i64.wrap (y.2 + 1))))) ∧ (¬ (y.2 < (r.length : Int)) → (Q y.1))
theorem bodies_loop {r : List Slt} (h : cz r ≤ 1048576) {L : Int × Int → Prop} (hL : ∀ y, bodyB r (fun x => x = mBodies r) L y → L y) : L (0, 0) := by
  have hb := bodies_le h
  have hlen : r.length ≤ 1048576 := Nat.le_trans (cz_len r) h
  refine loopG hL r.length (fun i y => y.2 = (i : Int) ∧ y.1 = ((sumN ((r.map fun x => x.2.2.2.2.1.size).take i) : Nat) : Int)) (fun i y hi hI ih => ?_) ⟨rfl, by simp [sumN]⟩
  obtain ⟨h1, h2⟩ := hI
  have hle := sumN_take_le (l := r.map fun x => x.2.2.2.2.1.size) (i := i)
  unfold bodyB
  rw [h1, h2]
  refine ⟨fun hlt => ?_, fun hge => ?_⟩
  · have hlt : i < r.length := by omega
    have hle2 := sumN_take_le (l := r.map fun x => x.2.2.2.2.1.size) (i := i + 1)
    have hs := sumN_take (l := r.map fun x => x.2.2.2.2.1.size) (i := i) (by simpa using hlt)
    rw [List.getElem_map] at hs
    refine ⟨by omega, by omega, ih _ hlt ⟨?_, ?_⟩⟩
    · exact wrapS (by omega)
    · rw [rx_nat r i hlt, hs, wrap64 (by omega) (by omega)]; omega
  · have : i = r.length := by omega
    subst this
    rw [List.take_of_length_le (by simp)]; rfl
theorem impl_bodies_ok (a0 : List Slt) (h : pBodies a0) : s_impl_bodies a0 (fun r => r = mBodies a0) := fun L hL => bodies_loop h hL
theorem shd_ring {s : Shd} (h : md s) : cz s.2.2.1 ≤ 1048576 := by
  unfold md at h; simp only [cz_pair] at h; omega
theorem spec_l12Filled_ok (a0 : Shd) (h : pFilledS a0) : s_spec_l12Filled a0 (fun r => r = mFilledS a0) := fun L hL => bodies_loop (shd_ring h) hL
theorem alike_comm (a b : Sto) : mStandAlike a b = mStandAlike b a := by
  unfold mStandAlike
  rw [show (decide (a.1 = b.1)) = decide (b.1 = a.1) from decide_eq_decide.2 ⟨Eq.symm, Eq.symm⟩, show (decide (a.2.1 = b.2.1)) = decide (b.2.1 = a.2.1) from decide_eq_decide.2 ⟨Eq.symm, Eq.symm⟩]
theorem slt_md {r : List Slt} (h : cz r ≤ 1048576) {i : Nat} (hi : i < r.length) : md (stoOf (rx r (i : Int))) ∧ (rx r (i : Int)).2.1.length ≤ maxLen := by
  rw [rx_nat r i hi]
  have h1 := cz_mem (List.getElem_mem hi : r[i] ∈ r)
  have h2 := cz_len r[i].2.1
  unfold md stoOf
  simp only [cz_pair] at h1 ⊢
  simp only [maxLen]
  constructor <;> omega
/-- impl's loop over the ring. -/
def ringBodyI (r : List Slt) (Q : Bool → Prop) (E : Prop) (L : Int → Prop) (y1 : Int) : Prop :=
  (y1 < (r.length : Int) →
    0 ≤ y1 ∧
    y1 < (r.length : Int) ∧
    pStoredOk (stoOf (rx r y1)) ∧
    (¬ ((mStoredOk (stoOf (rx r y1))) = true) →
      (Q false)) ∧
    (¬ (¬ ((mStoredOk (stoOf (rx r y1))) = true)) →
      0 ≤ y1 ∧
      y1 ≤ (r.length : Int) ∧
      pContainsFunc_ShardOk_1 (r.take y1.toNat) (rx r y1) ∧
      ((mContainsFunc_ShardOk_1 (r.take y1.toNat) (rx r y1)) = true →
        (Q false)) ∧
      (¬ ((mContainsFunc_ShardOk_1 (r.take y1.toNat) (rx r y1)) = true) →
        (L (IntKind.i64.wrap (y1 + 1)))))) ∧
  (¬ (y1 < (r.length : Int)) → E)
def ringAt (r : List Slt) (i : Nat) : Prop := mStoredOk (stoOf (rx r (i : Int))) = true ∧ ∀ j, j < i → mStandAlike (stoOf (rx r (j : Int))) (stoOf (rx r (i : Int))) = false
theorem ring_has {r : List Slt} {i : Nat} (hi : i < r.length) : mContainsFunc_ShardOk_1 (r.take i) (rx r (i : Int)) = true ↔ ∃ j, j < i ∧ mStandAlike (stoOf (rx r (j : Int))) (stoOf (rx r (i : Int))) = true := by
  unfold mContainsFunc_ShardOk_1 mShardOk_1
  rw [List.any_eq_true]
  constructor
  · rintro ⟨y, hy, hs⟩
    obtain ⟨j, hj, rfl⟩ := List.mem_iff_getElem.1 hy
    have hj' : j < i := by simp at hj; omega
    refine ⟨j, hj', ?_⟩
    rw [alike_comm, rx_nat r j (by omega)]
    rw [List.getElem_take] at hs; exact hs
  · rintro ⟨j, hj, hs⟩
    refine ⟨(r.take i)[j]'(by simp; omega), List.getElem_mem _, ?_⟩
    rw [alike_comm, rx_nat r j (by omega)] at hs
    rw [List.getElem_take]; exact hs
theorem ring_impl {r : List Slt} (h : cz r ≤ 1048576) {Q : Bool → Prop} {E : Prop} (hf : ¬ ringFine r → Q false) (hE : ringFine r → E) {L : Int → Prop} (hL : ∀ y, ringBodyI r Q E L y → L y) : L 0 := by
  have hlen : r.length ≤ 1048576 := Nat.le_trans (cz_len r) h
  refine loopN hL r.length (by omega) (fun i => ∀ j, j < i → ringAt r j) (fun i hi hI ih => ?_) (fun j hj => by omega)
  refine ⟨fun hlt => ?_, fun hge => hE fun j hj => hI j (by omega)⟩
  have hlt : i < r.length := by omega
  obtain ⟨p1, p2⟩ := slt_md h hlt
  refine ⟨by omega, by omega, p1, fun c => hf fun ho => c (ho i hlt).1, fun c => ⟨by omega, by omega, ⟨by simp only [List.length_take, maxLen]; omega, p2⟩, fun c2 => hf fun ho => ?_, fun c2 => ?_⟩⟩
  · rw [Int.toNat_natCast] at c2
    obtain ⟨j, hj, hs⟩ := (ring_has hlt).1 c2
    rw [(ho i hlt).2 j hj] at hs
    cases hs
  · rw [Int.toNat_natCast] at c2
    refine ih hlt fun j hj => ?_
    by_cases e : j = i
    · subst e
      exact ⟨Classical.not_not.1 c, fun k hk => by
        rw [← Bool.not_eq_true]
        exact fun hs => c2 ((ring_has hlt).2 ⟨k, hk, hs⟩)⟩
    · exact hI j (by omega)
/-- spec's. -/
def ringBodyS2 (r : List Slt) (Q : Bool → Prop) (N : Int → Prop) (y1 : Int) (L : Int → Prop) (y3 : Int) : Prop :=
  (y3 < y1 →
    0 ≤ y3 ∧
    y3 < (r.length : Int) ∧
    0 ≤ y1 ∧
    y1 < (r.length : Int) ∧
    pStandAlike (stoOf (rx r y3)) (stoOf (rx r y1)) ∧
    ((mStandAlike (stoOf (rx r y3)) (stoOf (rx r y1))) = true →
      (Q false)) ∧
    (¬ ((mStandAlike (stoOf (rx r y3)) (stoOf (rx r y1))) = true) →
      (L (IntKind.i64.wrap (y3 + 1))))) ∧
  (¬ (y3 < y1) →
    (N (IntKind.i64.wrap (y1 + 1))))
def ringBodyS (r : List Slt) (Q : Bool → Prop) (L : Int → Prop) (y1 : Int) : Prop :=
  (y1 < (r.length : Int) →
    0 ≤ y1 ∧
    y1 < (r.length : Int) ∧
    pStoredOk (stoOf (rx r y1)) ∧
    (¬ ((mStoredOk (stoOf (rx r y1))) = true) →
      (Q false)) ∧
    (¬ (¬ ((mStoredOk (stoOf (rx r y1))) = true)) →
      (∀ L2 : (Int → Prop), (∀ y3, ringBodyS2 r Q L y1 L2 y3 → L2 y3) → L2 0))) ∧
  (¬ (y1 < (r.length : Int)) → Q true)
theorem ring_spec {r : List Slt} (h : cz r ≤ 1048576) {Q : Bool → Prop} (hf : ¬ ringFine r → Q false) (hE : ringFine r → Q true) {L : Int → Prop} (hL : ∀ y, ringBodyS r Q L y → L y) : L 0 := by
  have hlen : r.length ≤ 1048576 := Nat.le_trans (cz_len r) h
  refine loopN hL r.length (by omega) (fun i => ∀ j, j < i → ringAt r j) (fun i hi hI ih => ?_) (fun j hj => by omega)
  refine ⟨fun hlt => ?_, fun hge => hE fun j hj => hI j (by omega)⟩
  have hlt : i < r.length := by omega
  obtain ⟨p1, p2⟩ := slt_md h hlt
  refine ⟨by omega, by omega, p1, fun c => hf fun ho => c (ho i hlt).1, fun c => fun L2 hL2 => ?_⟩
  refine loopN hL2 i (by omega) (fun k => ∀ j, j < k → mStandAlike (stoOf (rx r (j : Int))) (stoOf (rx r (i : Int))) = false) (fun k hk hK ih2 => ?_) (fun j hj => by omega)
  refine ⟨fun hk1 => ?_, fun hk1 => ih hlt fun j hj => ?_⟩
  · have hk1 : k < i := by omega
    obtain ⟨q1, q2⟩ := slt_md h (show k < r.length by omega)
    refine ⟨by omega, by omega, by omega, by omega, q2, fun c2 => hf fun ho => ?_, fun c2 => ih2 hk1 fun j hj => ?_⟩
    · rw [(ho i hlt).2 k hk1] at c2; cases c2
    · by_cases e : j = k
      · subst e; rw [← Bool.not_eq_true]; exact c2
      · exact hK j (by omega)
  · by_cases e : j = i
    · subst e; exact ⟨Classical.not_not.1 c, fun j' hj' => hK j' (by omega)⟩
    · exact hI j (by omega)
open Classical in
theorem impl_ShardOk_ok (a0 : Shd) (h : pShardOk a0) : s_impl_ShardOk a0 (fun r => r = mShardOk a0) := by
  have hr := shd_ring h
  have hlen : a0.2.2.1.length ≤ 1048576 := Nat.le_trans (cz_len _) hr
  have hw : IntKind.i64.wrap ((a0.2.2.1.length : Int) - 1) = (a0.2.2.1.length : Int) - 1 := wrap64 (by omega) (by omega)
  unfold s_impl_ShardOk
  rw [hw]
  refine ⟨trivial, fun c => ?_, fun c1 => ⟨fun c => ?_, fun c2 => ⟨fun c3 => ⟨trivial, fun c => ?_, fun c4 => fun L hL => ring_impl (Q := fun r => r = mShardOk a0) (E := pBodies a0.2.2.1 ∧ decide (mBodies a0.2.2.1 ≤ a0.2.1) = mShardOk a0) hr ?_ ?_ hL⟩, fun c3 => fun L hL => ring_impl (Q := fun r => r = mShardOk a0) (E := pBodies a0.2.2.1 ∧ decide (mBodies a0.2.2.1 ≤ a0.2.1) = mShardOk a0) hr ?_ ?_ hL⟩⟩⟩
  · unfold mShardOk; rw [Bool.not_eq_true] at c; rw [c]; rfl
  · unfold mShardOk; rw [decide_eq_false (show ¬ (a0.2.2.1.length : Int) ≤ a0.1 by omega)]; simp
  · unfold mShardOk; rw [Bool.not_eq_true] at c; rw [c, decide_eq_false c3]; simp
  · intro hn; unfold mShardOk; rw [decide_eq_false hn]; simp
  · intro hn
    refine ⟨hr, ?_⟩
    unfold mShardOk; rw [decide_eq_true hn, Classical.not_not.1 c1, Classical.not_not.1 c4, decide_eq_true (show (a0.2.2.1.length : Int) ≤ a0.1 by omega)]; simp
  · intro hn; unfold mShardOk; rw [decide_eq_false hn]; simp
  · intro hn
    refine ⟨hr, ?_⟩
    unfold mShardOk; rw [decide_eq_true hn, Classical.not_not.1 c1, decide_eq_true (Classical.not_not.1 c3), decide_eq_true (show (a0.2.2.1.length : Int) ≤ a0.1 by omega)]; simp
open Classical in
theorem spec_ShardOk_ok (a0 : Shd) (h : pShardOk a0) : s_spec_ShardOk a0 (fun r => r = mShardOk a0) := by
  have hr := shd_ring h
  have hlen : a0.2.2.1.length ≤ 1048576 := Nat.le_trans (cz_len _) hr
  have hw : IntKind.i64.wrap ((a0.2.2.1.length : Int) - 1) = (a0.2.2.1.length : Int) - 1 := wrap64 (by omega) (by omega)
  unfold s_spec_ShardOk
  rw [hw]
  refine ⟨trivial, fun c => ?_, fun c1 => ⟨trivial, fun c => ?_, fun c1b => ⟨fun c => ?_, fun c2 => ⟨h, fun c => ?_, fun c5 => ⟨fun c3 => ⟨trivial, fun c => ?_, fun c4 => fun L hL => ring_spec (Q := fun r => r = mShardOk a0) hr ?_ ?_ hL⟩, fun c3 => fun L hL => ring_spec (Q := fun r => r = mShardOk a0) hr ?_ ?_ hL⟩⟩⟩⟩⟩
  · unfold mShardOk mShardSizes; rw [Bool.not_eq_true] at c; rw [c]; rfl
  · unfold mShardOk mShardSizes; rw [Bool.not_eq_true] at c; rw [c]; simp
  · unfold mShardOk; rw [decide_eq_false (show ¬ (a0.2.2.1.length : Int) ≤ a0.1 by omega)]; simp
  · unfold mFilledS at c; unfold mShardOk; rw [decide_eq_false (show ¬ mBodies a0.2.2.1 ≤ a0.2.1 by omega)]; simp
  · unfold mShardOk; rw [Bool.not_eq_true] at c; rw [c, decide_eq_false c3]; simp
  · intro hn; unfold mShardOk; rw [decide_eq_false hn]; simp
  · intro hn
    unfold mFilledS at c5
    unfold mShardOk mShardSizes; rw [decide_eq_true hn, Classical.not_not.1 c1, Classical.not_not.1 c1b, Classical.not_not.1 c4, decide_eq_true (show (a0.2.2.1.length : Int) ≤ a0.1 by omega), decide_eq_true (show mBodies a0.2.2.1 ≤ a0.2.1 by omega)]; simp
  · intro hn; unfold mShardOk; rw [decide_eq_false hn]; simp
  · intro hn
    unfold mFilledS at c5
    unfold mShardOk mShardSizes; rw [decide_eq_true hn, Classical.not_not.1 c1, Classical.not_not.1 c1b, decide_eq_true (Classical.not_not.1 c3), decide_eq_true (show (a0.2.2.1.length : Int) ≤ a0.1 by omega), decide_eq_true (show mBodies a0.2.2.1 ≤ a0.2.1 by omega)]; simp
theorem impl_Filled_ok (a0 : Shd) (h : pFilled a0) : s_impl_Filled a0 (fun r => r = mFilled a0) :=
  ⟨h, fun c => by unfold mFilled; rw [if_neg c], fun c => ⟨shd_ring h, by unfold mFilled; rw [if_pos (Classical.not_not.1 c)]⟩⟩
theorem spec_Filled_ok (a0 : Shd) (h : pFilled a0) : s_spec_Filled a0 (fun r => r = mFilled a0) :=
  ⟨h, fun c => by unfold mFilled; rw [if_neg c], fun c => ⟨h, by unfold mFilled; rw [if_pos (Classical.not_not.1 c)]; rfl⟩⟩
end Go.Ev
end

section
/- Laws of the plain library, fifth part: lists in texts. -/
set_option linter.unusedVariables false
namespace Go.Ev

theorem drop_cons' {α : Type} {l : List α} {i : Nat} (h : i < l.length) : l.drop i = l[i] :: l.drop (i + 1) := (List.getElem_cons_drop (h := h)).symm
theorem seg_succ {α : Type} {l : List α} {f i : Nat} (hf : f ≤ i) (h : i < l.length) : (l.take (i + 1)).drop f = (l.take i).drop f ++ [l[i]] := by
  rw [take_succ_app h, List.drop_append_of_le_length (by rw [List.length_take]; omega)]
theorem seg_all {α : Type} {l : List α} {f i : Nat} (hf : f ≤ i) (hi : i ≤ l.length) : (l.take i).drop f ++ l.drop i = l.drop f := by
  conv => rhs; rw [← List.take_append_drop i l]
  rw [List.drop_append_of_le_length (by rw [List.length_take]; omega)]
theorem commasL_nil (q : Bool) (i : Int) : commasL q i [] = [] := by cases q <;> rfl
theorem commasL_one (i : Int) (b : UInt8) : commasL true i [b] = [] := rfl
theorem commasL_in (i : Int) (b c : UInt8) (r : List UInt8) : commasL true i (b :: c :: r) = if b = 34 then commasL false (i + 1) (c :: r) else if b = 92 then commasL true (i + 2) r else commasL true (i + 1) (c :: r) := by rw [commasL]
theorem commasL_out (i : Int) (b : UInt8) (r : List UInt8) : commasL false i (b :: r) = if b = 34 then commasL true (i + 1) r else if b = 44 then i :: commasL false (i + 1) r else commasL false (i + 1) r := by rw [commasL]
/-- The parts, by the places of the commas. -/
def cutAt (l : List UInt8) : Nat → List Int → List (List UInt8)
  | f, [] => [l.drop f]
  | f, a :: az => (l.take a.toNat).drop f :: cutAt l (a.toNat + 1) az
def okC (n : Nat) : Nat → List Int → Prop
  | f, [] => f ≤ n
  | f, a :: az => (f : Int) ≤ a ∧ a < (n : Int) ∧ okC n (a.toNat + 1) az
theorem parts_cut (l : List UInt8) : ∀ (m : Nat) (q : Bool) (i f : Nat), i + m = l.length → f ≤ i →
    partsL q ((l.take i).drop f) (l.drop i) = cutAt l f (commasL q (i : Int) (l.drop i)) ∧ okC l.length f (commasL q (i : Int) (l.drop i)) := by
  intro m
  induction m using Nat.strongRecOn with
  | _ m ih =>
    intro q i f hi hf
    cases m with
    | zero =>
      have e : l.drop i = [] := List.drop_eq_nil_of_le (by omega)
      have e2 : l.take i = l := List.take_of_length_le (by omega)
      rw [e, partsL_nil, commasL_nil, e2]
      exact ⟨rfl, by show f ≤ l.length; omega⟩
    | succ m =>
      have hlt : i < l.length := by omega
      have hc := drop_cons' hlt
      have hs := seg_succ hf hlt
      have step := fun (q' : Bool) => ih m (by omega) q' (i + 1) f (by omega) (by omega)
      have hcast : ((i + 1 : Nat) : Int) = (i : Int) + 1 := by omega
      cases q with
      | false =>
        rw [hc, partsL_out, commasL_out, ← hs, ← hcast]
        split
        · exact step true
        · split
          · have h0 := ih m (by omega) false (i + 1) (i + 1) (by omega) (Nat.le_refl _)
            have e0 : (l.take (i + 1)).drop (i + 1) = [] := List.drop_eq_nil_of_le (by rw [List.length_take]; omega)
            rw [e0] at h0
            simp only [cutAt, okC, Int.toNat_natCast]
            exact ⟨by rw [h0.1], by omega, by omega, h0.2⟩
          · exact step false
      | true =>
        cases m with
        | zero =>
          have e : l.drop (i + 1) = [] := List.drop_eq_nil_of_le (by omega)
          have ha := seg_all hf (Nat.le_of_lt hlt)
          rw [hc, e] at ha
          rw [hc, e, partsL_one, commasL_one, ha]
          exact ⟨rfl, by show f ≤ l.length; omega⟩
        | succ m =>
          have hlt1 : i + 1 < l.length := by omega
          have hc1 := drop_cons' hlt1
          rw [hc, hc1, partsL_in, commasL_in, ← hc1, ← hs, ← hcast]
          split
          · exact step false
          · split
            · have h2 := ih m (by omega) true (i + 2) f (by omega) (by omega)
              have hs2 := seg_succ (f := f) (i := i + 1) (by omega) hlt1
              rw [hs, List.append_assoc] at hs2
              rw [show (l.take i).drop f ++ [l[i], l[i + 1]] = (l.take (i + 2)).drop f from hs2.symm, show (i : Int) + 2 = ((i + 2 : Nat) : Int) by omega]
              exact h2
            · exact step true
theorem trimmed_cons (p : List UInt8) (l : List (List UInt8)) : trimmed (p :: l) = if mTrim (ob p) ≠ lit [] then mTrim (ob p) :: trimmed l else trimmed l := by
  unfold trimmed
  rw [List.map_cons, List.filter_cons]
  split
  · next h => rw [if_pos (by simpa using h)]
  · next h => rw [if_neg (by simpa using h)]
theorem trimmed_nil : trimmed [] = [] := rfl
theorem ext_seg (s : S) (f a : Nat) : s.extract f a = ob (((bs s).take a).drop f) := by
  apply bs_inj
  rw [bs_extract, bs_ob, List.drop_take]
theorem byte_eq {s : S} {i : Nat} (h : i < s.size) (n : Nat) (hn : n < 256) : bt s (i : Int) = (n : Int) ↔ (bs s)[i]'(by rw [bs_len]; exact h) = UInt8.ofNat n := by
  rw [bt_nat s i h]
  constructor
  · intro e
    have e' : ((bs s)[i]'(by rw [bs_len]; exact h)).toNat = n := by omega
    rw [← e']; simp
  · intro e
    rw [e]
    simp
    omega
theorem commas_len : ∀ (q : Bool) (i : Int) (l : List UInt8), (commasL q i l).length ≤ l.length
  | q, i, [] => by rw [commasL_nil]; simp
  | true, i, [b] => by rw [commasL_one]; simp
  | true, i, b :: c :: r => by
    rw [commasL_in]
    have h1 := commas_len false (i + 1) (c :: r)
    have h2 := commas_len true (i + 2) r
    have h3 := commas_len true (i + 1) (c :: r)
    simp only [List.length_cons] at *
    split
    · omega
    · split <;> omega
  | false, i, b :: r => by
    rw [commasL_out]
    have h1 := commas_len true (i + 1) r
    have h2 := commas_len false (i + 1) r
    simp only [List.length_cons] at *
    split
    · omega
    · split
      · simp only [List.length_cons]; omega
      · omega

theorem impl_commas_ok (a0 : S) (h : pCommas a0) : s_impl_commas a0 (fun r => r = mCommas a0) := by
  unfold pCommas sm at h
  intro L hL
  have hl := bs_len a0
  refine loopI hL (fun y => ∃ i : Nat, y.2.2 = (i : Int) ∧ i ≤ a0.size + 1 ∧ y.1.length ≤ i ∧ (i ≤ a0.size → y.1 ++ commasL y.2.1 (i : Int) ((bs a0).drop i) = mCommas a0) ∧ (i = a0.size + 1 → y.1 = mCommas a0))
    (fun y => a0.size + 1 - y.2.2.toNat) (fun y hI ih => ?_) ([], false, 0) ⟨0, rfl, by omega, by simp, fun _ => rfl, fun h => by omega⟩
  obtain ⟨out, q, y3⟩ := y
  obtain ⟨i, hy, hi, hol, h1, h2⟩ := hI
  simp only at hy hol h1 h2 ⊢
  subst hy
  refine ⟨fun hlt => ?_, fun hge => ?_⟩
  · have hi2 : i < a0.size := by omega
    have hi3 : i < (bs a0).length := by omega
    have h1 := h1 (by omega)
    have hc := drop_cons' hi3
    have hw : IntKind.i64.wrap ((i : Int) + 1) = ((i + 1 : Nat) : Int) := wrapS (by omega)
    have hw2 : IntKind.i64.wrap (((i + 1 : Nat) : Int) + 1) = ((i + 2 : Nat) : Int) := by rw [wrapS (by omega)]
    have b34 : bt a0 (i : Int) = 34 ↔ _ := byte_eq hi2 34 (by omega)
    have b92 : bt a0 (i : Int) = 92 ↔ _ := byte_eq hi2 92 (by omega)
    have b44 : bt a0 (i : Int) = 44 ↔ _ := byte_eq hi2 44 (by omega)
    have next : ∀ (out' : List Int) (q' : Bool), out'.length ≤ i + 1 → out' ++ commasL q' ((i : Int) + 1) ((bs a0).drop (i + 1)) = mCommas a0 → L (out', q', ((i + 1 : Nat) : Int)) := fun out' q' hlen e =>
      ih _ ⟨i + 1, rfl, by omega, hlen, fun _ => by rw [← e]; congr 2, fun hh => by omega⟩ (by simp only [Int.toNat_natCast]; omega)
    rw [hw, hw2]
    rw [hc] at h1
    have hq34 : bt a0 (i : Int) = 34 → commasL q (i : Int) ((bs a0)[i] :: (bs a0).drop (i + 1)) = commasL (!q) ((i : Int) + 1) ((bs a0).drop (i + 1)) := fun e => by
      have e' := b34.1 e
      cases q with
      | false => rw [commasL_out, if_pos (by rw [e']; rfl)]; rfl
      | true =>
        cases hr : (bs a0).drop (i + 1) with
        | nil => rw [commasL_one, commasL_nil]
        | cons c r => rw [commasL_in, if_pos (by rw [e']; rfl)]; rfl
    have n34 : bt a0 (i : Int) ≠ 34 → ¬ (bs a0)[i] = 34 := fun e e' => e (b34.2 e')
    have n92 : bt a0 (i : Int) ≠ 92 → ¬ (bs a0)[i] = 92 := fun e e' => e (b92.2 e')
    have n44 : bt a0 (i : Int) ≠ 44 → ¬ (bs a0)[i] = 44 := fun e e' => e (b44.2 e')
    have plain_in : bt a0 (i : Int) ≠ 34 → bt a0 (i : Int) ≠ 92 → q = true → commasL q (i : Int) ((bs a0)[i] :: (bs a0).drop (i + 1)) = commasL q ((i : Int) + 1) ((bs a0).drop (i + 1)) := fun e1 e2 eq => by
      subst eq
      cases hr : (bs a0).drop (i + 1) with
      | nil => rw [commasL_one, commasL_nil]
      | cons c r => rw [commasL_in, if_neg (n34 e1), if_neg (n92 e2)]
    refine ⟨by omega, by omega, fun e34 => next _ _ (by omega) ?_, fun e34 => ⟨fun eq => ⟨by omega, by omega, fun e92 => ?_, fun e92 => ⟨fun nq => absurd eq nq, fun _ => next _ _ (by omega) ?_⟩⟩, fun nq => ⟨fun _ => ⟨by omega, by omega, fun e44 => ?_, fun e44 => next _ _ (by omega) ?_⟩, fun qq => absurd nq qq⟩⟩⟩
    · rw [← h1, hq34 e34]
      cases q <;> rfl
    · -- a byte behind a backslash is passed over
      have e' := b92.1 e92
      subst eq
      refine ih _ ⟨i + 2, rfl, by omega, by simp only; omega, fun hle => ?_, fun hle => ?_⟩ (by simp only [Int.toNat_natCast]; omega)
      · have hi4 : i + 1 < (bs a0).length := by omega
        rw [drop_cons' hi4, commasL_in, if_neg (n34 e34), if_pos (by rw [e']; rfl)] at h1
        rw [← h1]
        simp only
        congr 2
      · have : (bs a0).drop (i + 1) = [] := List.drop_eq_nil_of_le (by omega)
        rw [this, commasL_one] at h1
        simpa using h1
    · rw [← h1, plain_in e34 e92 eq]
    · have e' := b44.1 e44
      have hq : q = false := by simpa using nq
      subst hq
      rw [commasL_out, if_neg (n34 e34), if_pos (by rw [e']; rfl)] at h1
      refine ⟨by simp only [List.length_singleton]; omega, next _ _ (by simp only [List.length_append, List.length_singleton]; omega) ?_⟩
      rw [← h1]; simp
    · have hq : q = false := by simpa using nq
      subst hq
      rw [commasL_out, if_neg (n34 e34), if_neg (n44 e44)] at h1
      exact h1
  · have : i = a0.size ∨ i = a0.size + 1 := by omega
    rcases this with e | e
    · have h1 := h1 (by omega)
      have : (bs a0).drop i = [] := List.drop_eq_nil_of_le (by omega)
      rw [this, commasL_nil, List.append_nil] at h1
      exact h1
    · exact h2 e

theorem impl_SplitList_ok (a0 : S) (h : pSplitList a0) : s_impl_SplitList a0 (fun r => r = mSplitList a0) := by
  have h0 := h
  unfold pSplitList sm at h
  have hl := bs_len a0
  have hpc := parts_cut (bs a0) a0.size false 0 0 (by omega) (Nat.le_refl _)
  rw [List.drop_zero, hl] at hpc
  have hcl := commas_len false 0 (bs a0)
  have hC : mCommas a0 = commasL false (((0 : Nat) : Int)) (bs a0) := rfl
  have hM : mSplitList a0 = trimmed (cutAt (bs a0) 0 (mCommas a0)) := by
    unfold mSplitList
    rw [hC]
    exact congrArg trimmed hpc.1
  have hok : okC a0.size 0 (mCommas a0) := hpc.2
  have hclen : (mCommas a0).length ≤ a0.size := by rw [← hl]; exact hcl
  refine ⟨h0, by simp only [List.length_singleton]; omega, fun L hL => ?_⟩
  generalize mCommas a0 = C at hM hok hclen hL
  have hEl : (C ++ [(a0.size : Int)]).length = C.length + 1 := by simp
  refine loopG hL (C.length + 1) (fun k y => y.2.2 = (k : Int) ∧ y.1.length ≤ k ∧ (k ≤ C.length → ∃ f : Nat, y.2.1 = (f : Int) ∧ f ≤ a0.size ∧ okC a0.size f (C.drop k) ∧ y.1 ++ trimmed (cutAt (bs a0) f (C.drop k)) = mSplitList a0) ∧ (k = C.length + 1 → y.1 = mSplitList a0))
    (fun k y hk hI hn => ?_) (s0 := ([], 0, 0)) ⟨rfl, by simp, fun _ => ⟨0, rfl, by omega, hok, by rw [hM]; rfl⟩, fun h => by omega⟩
  obtain ⟨out, y2, y3⟩ := y
  simp only at hI ⊢
  obtain ⟨rfl, hol, h1, h2⟩ := hI
  rw [hEl]
  refine ⟨fun hlt => ?_, fun hge => h2 (by omega)⟩
  have hk2 : k ≤ C.length := by omega
  obtain ⟨f, rfl, hf, hokf, hout⟩ := h1 hk2
  have hw : IntKind.i64.wrap ((k : Int) + 1) = ((k + 1 : Nat) : Int) := wrapS (by omega)
  rw [hw]
  -- the end of this part
  have key : ∀ a : Nat, rx (C ++ [(a0.size : Int)]) (k : Int) = (a : Int) → f ≤ a → a ≤ a0.size →
      (∀ out' : List S, out' = (if mTrim (ob (((bs a0).take a).drop f)) ≠ lit [] then out ++ [mTrim (ob (((bs a0).take a).drop f))] else out) → L (out', ((a + 1 : Nat) : Int), ((k + 1 : Nat) : Int))) →
      0 ≤ (k : Int) ∧ (k : Int) < ((C.length + 1 : Nat) : Int) ∧ 0 ≤ (f : Int) ∧ (f : Int) ≤ rx (C ++ [(a0.size : Int)]) (k : Int) ∧ rx (C ++ [(a0.size : Int)]) (k : Int) ≤ (a0.size : Int) ∧
        pTrim (a0.extract ((f : Int).toNat) (rx (C ++ [(a0.size : Int)]) (k : Int)).toNat) ∧
        (mTrim (a0.extract ((f : Int).toNat) (rx (C ++ [(a0.size : Int)]) (k : Int)).toNat) ≠ lit [] →
          (out.length + [mTrim (a0.extract ((f : Int).toNat) (rx (C ++ [(a0.size : Int)]) (k : Int)).toNat)].length) * 16 ≤ 140737488355328 ∧
            L (out ++ [mTrim (a0.extract ((f : Int).toNat) (rx (C ++ [(a0.size : Int)]) (k : Int)).toNat)], IntKind.i64.wrap (rx (C ++ [(a0.size : Int)]) (k : Int) + 1), ((k + 1 : Nat) : Int))) ∧
        (¬ mTrim (a0.extract ((f : Int).toNat) (rx (C ++ [(a0.size : Int)]) (k : Int)).toNat) ≠ lit [] →
          L (out, IntKind.i64.wrap (rx (C ++ [(a0.size : Int)]) (k : Int) + 1), ((k + 1 : Nat) : Int))) := by
    intro a ha hfa has hcont
    rw [ha, Int.toNat_natCast, Int.toNat_natCast, wrapS (by omega), ext_seg]
    refine ⟨by omega, by omega, by omega, by omega, by omega, ?_, fun hne => ⟨by simp only [List.length_singleton]; omega, hcont _ (by rw [if_pos hne])⟩, fun hne => hcont _ (by rw [if_neg hne])⟩
    unfold pTrim sm
    rw [ob_size, List.length_drop, List.length_take]
    omega
  by_cases hkC : k < C.length
  · have hc := drop_cons' hkC
    rw [hc] at hokf hout
    simp only [okC] at hokf
    obtain ⟨o1, o2, o3⟩ := hokf
    have hrx : rx (C ++ [(a0.size : Int)]) (k : Int) = (C[k].toNat : Int) := by
      rw [rx_get _ (by rw [hEl]; omega), List.getElem_append_left hkC]; omega
    refine key C[k].toNat hrx (by omega) (by omega) fun out' ho => hn _ (by omega) ⟨rfl, ?_, fun _ => ⟨C[k].toNat + 1, rfl, by omega, o3, ?_⟩, fun h => by omega⟩
    · rw [ho]; split
      · simp only [List.length_append, List.length_singleton]; omega
      · simp only; omega
    · simp only [cutAt] at hout
      rw [trimmed_cons] at hout
      rw [ho, ← hout]
      split
      · simp
      · rfl
  · have hkeq : k = C.length := by omega
    have hdn : C.drop k = [] := List.drop_eq_nil_of_le (by omega)
    rw [hdn] at hout
    simp only [cutAt] at hout
    have hrx : rx (C ++ [(a0.size : Int)]) (k : Int) = (a0.size : Int) := by
      rw [rx_get _ (by rw [hEl]; omega), List.getElem_append_right (by omega)]
      simp [hkeq]
    refine key a0.size hrx hf (Nat.le_refl _) fun out' ho => hn _ (by omega) ⟨rfl, ?_, fun h => by omega, fun _ => ?_⟩
    · rw [ho]; split
      · simp only [List.length_append, List.length_singleton]; omega
      · simp only; omega
    · have e : (bs a0).take a0.size = bs a0 := List.take_of_length_le (by omega)
      rw [trimmed_cons, trimmed_nil] at hout
      rw [ho, ← hout, e]
      split
      · rfl
      · simp
end Go.Ev
end

section
/- Laws of the plain library: lists of parts, as spec takes them. -/
set_option linter.unusedVariables false
namespace Go.Ev
theorem partsL_end (q : Bool) (cur : List UInt8) : partsL q cur [] = [cur] := by cases q <;> rfl
theorem parts_q {l : List UInt8} {f i : Nat} (hf : f ≤ i) (h : i < l.length) : partsL true ((l.take i).drop f) (l.drop i) =
    if l[i] = 34 then partsL false ((l.take (i + 1)).drop f) (l.drop (i + 1))
    else if l[i] = 92 then (if i + 1 < l.length then partsL true ((l.take (i + 2)).drop f) (l.drop (i + 2)) else [l.drop f])
    else partsL true ((l.take (i + 1)).drop f) (l.drop (i + 1)) := by
  have hc := drop_cons' h
  have hs := seg_succ (f := f) hf h
  by_cases hl : i + 1 < l.length
  · have hc1 := drop_cons' hl
    have hs2 := seg_succ (f := f) (i := i + 1) (by omega) hl
    rw [hc, hc1, partsL_in, ← hc1, if_pos hl, hs]
    rw [hs, List.append_assoc] at hs2
    have hs2 : List.drop f (List.take (i + 2) l) = List.drop f (List.take i l) ++ [l[i], l[i + 1]] := hs2
    rw [hs2]
  · have hn : l.drop (i + 1) = [] := List.drop_eq_nil_of_le (by omega)
    have ha : (l.take (i + 1)).drop f = l.drop f := by rw [List.take_of_length_le (by omega)]
    rw [hc, hn, partsL_one, ← hs, partsL_end, partsL_end, if_neg hl, ha]
    split
    · rfl
    · split <;> rfl
theorem spec_SplitList_ok (a0 : S) (h : pSplitList a0) : s_spec_SplitList a0 (fun r => r = mSplitList a0) := by
  unfold pSplitList sm at h
  intro L hL
  have hl := bs_len a0
  refine loopI hL (fun y => ∃ f i : Nat, y.2.1 = (f : Int) ∧ y.2.2.2 = (i : Int) ∧ i ≤ a0.size + 1 ∧ y.1.length ≤ i ∧
      (i ≤ a0.size → f ≤ i ∧ y.1 ++ trimmed (partsL y.2.2.1 (((bs a0).take i).drop f) ((bs a0).drop i)) = mSplitList a0) ∧
      (i = a0.size + 1 → (f < a0.size → y.2.2.1 = true ∧ y.1 ++ trimmed [(bs a0).drop f] = mSplitList a0) ∧ (¬ f < a0.size → y.1 = mSplitList a0)))
    (fun y => a0.size + 1 - y.2.2.2.toNat) (fun y hI ih => ?_) ([], 0, false, 0) ⟨0, 0, rfl, rfl, by omega, by simp, fun _ => ⟨by omega, rfl⟩, fun h => by omega⟩
  obtain ⟨out, y2, q, y4⟩ := y
  obtain ⟨f, i, hy2, hy4, hi, hol, h1, h2⟩ := hI
  simp only at hy2 hy4 hol h1 h2 ⊢
  subst hy2; subst hy4
  have hsz : ∀ a b : Nat, pTrim (a0.extract a b) := fun a b => by
    unfold pTrim sm
    have := bs_len (a0.extract a b)
    rw [bs_extract, List.length_take, List.length_drop] at this
    omega
  have d0 : (0 : Int) ≤ (i : Int) := by omega
  have f0 : (0 : Int) ≤ (f : Int) := by omega
  have hcap : ∀ p : S, (out.length + [p].length) * 16 ≤ 140737488355328 := fun p => by simp only [List.length_singleton]; omega
  have hw : IntKind.i64.wrap ((i : Int) + 1) = ((i + 1 : Nat) : Int) := wrapS (by omega)
  have hw2 : IntKind.i64.wrap (((i + 1 : Nat) : Int) + 1) = ((i + 2 : Nat) : Int) := wrapS (by omega)
  by_cases hgt : i = a0.size + 1
  · obtain ⟨ha, hb⟩ := h2 hgt
    refine ⟨fun hle => by omega, fun _ => ⟨fun hf => ⟨fun hq => ⟨f0, by omega, hsz _ _, fun hp => ⟨hcap _, ?_⟩, fun hp => ?_⟩, fun hq => absurd (ha (by omega)).1 hq⟩, fun hf => hb (by omega)⟩⟩
    · have e := (ha (by omega)).2
      rw [Int.toNat_natCast] at hp ⊢
      rw [ext_seg, List.take_of_length_le (by omega)] at hp ⊢
      rw [trimmed_cons, trimmed_nil, if_pos hp] at e
      exact e
    · have e := (ha (by omega)).2
      rw [Int.toNat_natCast] at hp
      rw [ext_seg, List.take_of_length_le (by omega)] at hp
      rw [trimmed_cons, trimmed_nil, if_neg hp] at e
      simpa using e
  · obtain ⟨hfi, e⟩ := h1 (by omega)
    have d1 : (i : Int) ≤ (a0.size : Int) := by omega
    have hm : (if (a0.size : Int) < (i : Int) then (a0.size : Int) else (i : Int)) = (i : Int) := if_neg (by omega)
    have hfi' : (f : Int) ≤ (i : Int) := by omega
    by_cases hlt : i < a0.size
    · have d2 : (i : Int) < (a0.size : Int) := by omega
      have d3 : ¬ (a0.size : Int) ≤ (i : Int) := by omega
      have hi3 : i < (bs a0).length := by omega
      have hc := drop_cons' hi3
      have hs := seg_succ (l := bs a0) (f := f) (i := i) hfi hi3
      have b34 : bt a0 (i : Int) = 34 ↔ _ := byte_eq hlt 34 (by omega)
      have b92 : bt a0 (i : Int) = 92 ↔ _ := byte_eq hlt 92 (by omega)
      have b44 : bt a0 (i : Int) = 44 ↔ _ := byte_eq hlt 44 (by omega)
      have next : ∀ (out' : List S) (f' : Nat) (q' : Bool), out'.length ≤ i + 1 → f' ≤ i + 1 → out' ++ trimmed (partsL q' (((bs a0).take (i + 1)).drop f') ((bs a0).drop (i + 1))) = mSplitList a0 → L (out', (f' : Int), q', ((i + 1 : Nat) : Int)) := fun out' f' q' hlen hf' e' =>
        ih _ ⟨f', i + 1, rfl, rfl, by omega, hlen, fun _ => ⟨hf', e'⟩, fun hh => by omega⟩ (by simp only [Int.toNat_natCast]; omega)
      have hne1 : ((34 : Int) = 92) = False := by decide
      have hne2 : ((34 : Int) = 44) = False := by decide
      have hne3 : ((44 : Int) = 92) = False := by decide
      have hne4 : ((44 : Int) = 34) = False := by decide
      have hne5 : ((92 : Int) = 34) = False := by decide
      have hne6 : ((92 : Int) = 44) = False := by decide
      have piece : out ++ trimmed (partsL q (((bs a0).take i).drop f) ((bs a0).drop i)) = mSplitList a0 := e
      by_cases c34 : bt a0 (i : Int) = 34
      · have e34 := b34.1 c34
        cases q with
        | false =>
          rw [hc] at e
          simp only [d1, d2, d3, d0, hm, hw, hw2, c34, hne1, hne2, Bool.false_eq_true, not_false_eq_true, not_true_eq_false, true_implies, false_implies, true_and, and_true, decide_true, decide_false]
          rw [partsL_out, if_pos (by rw [e34]; rfl), ← hs] at e
          exact next out f true (by omega) (by omega) e
        | true =>
          simp only [d1, d2, d3, d0, hm, hw, hw2, c34, hne1, hne2, not_false_eq_true, not_true_eq_false, true_implies, false_implies, true_and, and_true, decide_true, decide_false]
          rw [parts_q hfi hi3, if_pos (by rw [e34]; rfl)] at e
          exact next out f false (by omega) (by omega) e
      · have n34 : ¬ (bs a0)[i] = 34 := fun h => c34 (b34.2 (by rw [h]; rfl))
        cases q with
        | true =>
          rw [parts_q hfi hi3, if_neg n34] at e
          by_cases c92 : bt a0 (i : Int) = 92
          · have e92 := b92.1 c92
            simp only [d1, d2, d3, d0, hm, hw, hw2, c92, hne5, hne6, not_false_eq_true, not_true_eq_false, true_implies, false_implies, true_and, and_true, decide_true, decide_false]
            rw [if_pos (by rw [e92]; rfl)] at e
            refine ih (out, (f : Int), true, ((i + 2 : Nat) : Int)) ⟨f, i + 2, rfl, rfl, by omega, (by show out.length ≤ i + 2; omega), fun hle => ⟨by omega, ?_⟩, fun heq => ⟨fun _ => ⟨rfl, ?_⟩, fun hn => absurd (by omega) hn⟩⟩ (by simp only [Int.toNat_natCast]; omega)
            · rw [if_pos (by omega)] at e; exact e
            · rw [if_neg (by omega)] at e; exact e
          · have n92 : ¬ (bs a0)[i] = 92 := fun h => c92 (b92.2 (by rw [h]; rfl))
            rw [if_neg n92] at e
            by_cases c44 : bt a0 (i : Int) = 44
            · simp only [d1, d2, d3, d0, hm, hw, hw2, c44, hne3, hne4, not_false_eq_true, not_true_eq_false, true_implies, false_implies, true_and, and_true, decide_true, decide_false]
              exact next out f true (by omega) (by omega) e
            · simp only [d1, d2, d3, d0, hm, hw, hw2, c34, c92, c44, not_false_eq_true, not_true_eq_false, true_implies, false_implies, true_and, and_true, decide_true, decide_false]
              exact next out f true (by omega) (by omega) e
        | false =>
          rw [hc, partsL_out, if_neg n34] at e
          by_cases c44 : bt a0 (i : Int) = 44
          · have e44 := b44.1 c44
            rw [if_pos (by rw [e44]; rfl), trimmed_cons] at e
            simp only [d1, d2, d3, d0, f0, hfi', hm, hw, hw2, c44, hne3, hne4, hsz, hcap, Bool.false_eq_true, not_false_eq_true, not_true_eq_false, true_implies, false_implies, true_and, and_true, decide_true, decide_false, Int.toNat_natCast]
            have hn : ((bs a0).take (i + 1)).drop (i + 1) = [] := List.drop_eq_nil_of_le (by rw [List.length_take]; omega)
            refine ⟨fun hp => ?_, fun hp => ?_⟩
            · rw [ext_seg] at hp ⊢
              rw [if_pos hp] at e
              exact next _ (i + 1) false (by simp only [List.length_append, List.length_singleton]; omega) (by omega) (by rw [hn, List.append_assoc]; exact e)
            · rw [ext_seg] at hp
              rw [if_neg hp] at e
              exact next _ (i + 1) false (by omega) (by omega) (by rw [hn]; exact e)
          · have n44 : ¬ (bs a0)[i] = 44 := fun h => c44 (b44.2 (by rw [h]; rfl))
            rw [if_neg n44, ← hs] at e
            simp only [d1, d2, d3, d0, hm, hw, hw2, c34, c44, Bool.false_eq_true, not_false_eq_true, not_true_eq_false, true_implies, false_implies, true_and, and_true, decide_true, decide_false]
            exact next out f false (by omega) (by omega) e
    · have hie : i = a0.size := by omega
      subst hie
      have hn : (bs a0).drop a0.size = [] := List.drop_eq_nil_of_le (by omega)
      rw [hn, partsL_end, trimmed_cons, trimmed_nil] at e
      have d2 : ¬ (a0.size : Int) < (a0.size : Int) := by omega
      have d3 : (a0.size : Int) ≤ (a0.size : Int) := by omega
      simp only [d1, d2, d3, d0, f0, hfi', hm, hw, hsz, hcap, not_false_eq_true, not_true_eq_false, true_implies, false_implies, true_and, and_true, Int.toNat_natCast, if_false]
      have fin : ∀ out' : List S, out'.length ≤ a0.size + 1 → out' = mSplitList a0 → L (out', ((a0.size + 1 : Nat) : Int), q, ((a0.size + 1 : Nat) : Int)) := fun out' hlen e' =>
        ih _ ⟨a0.size + 1, a0.size + 1, rfl, rfl, by omega, hlen, fun hh => by omega, fun _ => ⟨fun hh => by omega, fun _ => e'⟩⟩ (by simp only [Int.toNat_natCast]; omega)
      refine ⟨fun hp => ?_, fun hp => ?_⟩
      · rw [ext_seg] at hp ⊢
        rw [if_pos hp] at e
        exact fin _ (by simp only [List.length_append, List.length_singleton]; omega) e
      · rw [ext_seg] at hp
        rw [if_neg hp] at e
        exact fin _ (by omega) (by simpa using e)
end Go.Ev
end

section
/- Laws of the plain library: directives. -/
set_option linter.unusedVariables false
namespace Go.Ev
theorem index_first {l : List UInt8} {c : UInt8} {k : Nat} (hk : l[k]? = some c) (hf : ∀ j, j < k → l[j]? ≠ some c) : Lib.indexByte l c = (k : Int) := by
  have hge := Lib.indexByte_ge l c
  by_cases hn : Lib.indexByte l c = -1
  · exact absurd hk (Lib.indexByte_none hn k)
  · obtain ⟨o, ho⟩ : ∃ o : Nat, Lib.indexByte l c = (o : Int) := ⟨(Lib.indexByte l c).toNat, by omega⟩
    obtain ⟨h1, h2⟩ := Lib.indexByte_some ho
    rcases Nat.lt_trichotomy o k with h | h | h
    · exact absurd h1 (hf o h)
    · rw [ho, h]
    · exact absurd hk (h2 k h)
theorem index_not {l : List UInt8} {c : UInt8} (hf : ∀ j, j < l.length → l[j]? ≠ some c) : Lib.indexByte l c = -1 := by
  have hge := Lib.indexByte_ge l c
  by_cases hn : Lib.indexByte l c = -1
  · exact hn
  · obtain ⟨o, ho⟩ : ∃ o : Nat, Lib.indexByte l c = (o : Int) := ⟨(Lib.indexByte l c).toNat, by omega⟩
    obtain ⟨h1, h2⟩ := Lib.indexByte_some ho
    exact absurd h1 (hf o (List.getElem?_eq_some_iff.1 h1).1)
theorem cut_at {p : S} {k : Nat} (hk : k < p.size) (hb : bt p (k : Int) = 61) (hf : ∀ j, j < k → bt p (j : Int) ≠ 61) : (mCut p (lit [61])).1 = p.extract 0 k ∧ (mCut p (lit [61])).2.1 = p.extract (k + 1) p.size := by
  have hl := bs_len p
  have e : Lib.index (bs p) (bs (lit [61])) = (k : Int) := by
    rw [show bs (lit [61]) = [61] from rfl, Lib.index_one]
    refine index_first ?_ fun j hj hh => ?_
    · rw [List.getElem?_eq_getElem (by omega), (byte_eq hk 61 (by omega)).1 hb]; rfl
    · rw [List.getElem?_eq_getElem (by omega)] at hh
      exact hf j hj ((byte_eq (by omega) 61 (by omega)).2 (Option.some.inj hh))
  unfold mCut Lib.cut
  rw [e, if_pos (by omega)]
  refine ⟨bs_inj ?_, bs_inj ?_⟩
  · rw [bs_ob, bs_extract]; simp
  · rw [bs_ob, bs_extract]
    show (bs p).drop ((k : Int).toNat + 1) = _
    rw [Int.toNat_natCast]
    exact (List.take_of_length_le (by rw [List.length_drop]; omega)).symm
theorem cut_none {p : S} (hf : ∀ j, j < p.size → bt p (j : Int) ≠ 61) : (mCut p (lit [61])).1 = p.extract 0 p.size ∧ (mCut p (lit [61])).2.1 = lit [] := by
  have hl := bs_len p
  have e : Lib.index (bs p) (bs (lit [61])) = -1 := by
    rw [show bs (lit [61]) = [61] from rfl, Lib.index_one]
    refine index_not fun j hj hh => ?_
    rw [List.getElem?_eq_getElem hj] at hh
    exact hf j (by omega) ((byte_eq (by omega) 61 (by omega)).2 (Option.some.inj hh))
  unfold mCut Lib.cut
  rw [e, if_neg (by omega)]
  refine ⟨bs_inj ?_, rfl⟩
  rw [bs_ob, bs_extract, List.drop_zero, List.take_of_length_le (by omega)]
theorem cut_sizes (p : S) : (mCut p (lit [61])).1.size ≤ p.size ∧ (mCut p (lit [61])).2.1.size ≤ p.size := by
  have hl := bs_len p
  unfold mCut Lib.cut
  split
  · simp only [ob_size, List.length_take, List.length_drop]; omega
  · simp only [ob_size, List.length_nil]; omega
theorem extract_size (p : S) (a b : Nat) : (p.extract a b).size ≤ p.size := by
  have := bs_len (p.extract a b)
  have hl := bs_len p
  rw [bs_extract, List.length_take, List.length_drop] at this
  omega
/-- What is gathered from parts. -/
theorem gather {parts : List S} (hn : parts.length ≤ 1073741824) {B L : List Fld × Int → Prop} (hL : ∀ y, B y → L y)
    (step : ∀ (out : List Fld) (i : Nat) (hi : i < parts.length), out.length ≤ i → (dirOf parts[i] = none → L (out, IntKind.i64.wrap ((i : Int) + 1))) → (∀ d, dirOf parts[i] = some d → L (out ++ [d], IntKind.i64.wrap ((i : Int) + 1))) → B (out, (i : Int)))
    (fin : B (parts.filterMap dirOf, (parts.length : Int))) : L ([], 0) := by
  refine loopG hL parts.length (fun i y => y.2 = (i : Int) ∧ y.1.length ≤ i ∧ y.1 ++ (parts.drop i).filterMap dirOf = parts.filterMap dirOf) (fun i y hi hI ih => ?_) ⟨rfl, by simp, rfl⟩
  obtain ⟨out, y2⟩ := y
  obtain ⟨h1, h2, h3⟩ := hI
  simp only at h1 h2 h3
  subst h1
  by_cases hlt : i < parts.length
  · have hw : IntKind.i64.wrap ((i : Int) + 1) = ((i + 1 : Nat) : Int) := wrapS (by omega)
    rw [drop_cons' hlt] at h3
    refine step out i hlt h2 (fun hd => ?_) (fun d hd => ?_)
    · rw [List.filterMap_cons_none hd] at h3
      exact ih _ hlt ⟨hw, by simp only; omega, h3⟩
    · rw [List.filterMap_cons_some hd] at h3
      exact ih _ hlt ⟨hw, by simp only [List.length_append, List.length_singleton]; omega, by simp only [List.append_assoc]; exact h3⟩
  · have hie : i = parts.length := by omega
    subst hie
    rw [List.drop_eq_nil_of_le (Nat.le_refl _)] at h3
    have h3 : out = parts.filterMap dirOf := by simpa using h3
    rw [h3]; exact fin
theorem unq_pos {b : S} (h1 : 2 ≤ (b.size : Int)) (h2 : bt b 0 = 34) (h3 : bt b ((b.size : Int) - 1) = 34) : b.extract 1 (b.size - 1) = mL7Unquote b := by
  unfold mL7Unquote; rw [if_pos ⟨h1, h2, h3⟩]
theorem unq_neg {b : S} (h : ¬ (2 ≤ (b.size : Int) ∧ bt b 0 = 34 ∧ bt b ((b.size : Int) - 1) = 34)) : b = mL7Unquote b := by
  unfold mL7Unquote; rw [if_neg h]
theorem impl_Directives_ok (a0 : List Fld) (h : pDirectives a0) : s_impl_Directives a0 (fun r => r = mDirectives a0) := by
  have hg := fieldGet_size a0 nameCC h
  refine ⟨h, by unfold pSplitList sm; exact Nat.le_trans hg (by omega), ?_⟩
  have hb := splitList_bound (mFieldGet a0 nameCC).1
  have hm : ∀ x ∈ mSplitList (mFieldGet a0 nameCC).1, x.size ≤ 3 * 1048576 := fun x hx => Nat.le_trans (splitList_mem hx) hg
  have ht : (mSplitList (mFieldGet a0 nameCC).1).filterMap dirOf = mDirectives a0 := rfl
  intro L hL
  have hlen : (mSplitList (mFieldGet a0 nameCC).1).length ≤ 1073741824 := by omega
  refine gather (parts := mSplitList (mFieldGet a0 nameCC).1) hlen hL (fun out i hi hol hnone hsome => ?_) ?_
  · unfold nameCC at *
    generalize mSplitList (mFieldGet a0 (lit [99, 97, 99, 104, 101, 45, 99, 111, 110, 116, 114, 111, 108])).1 = parts at *
    have hp := hm parts[i] (List.getElem_mem hi)
    have hc := cut_sizes parts[i]
    simp only [rx_nat parts i hi]
    unfold dirOf at hnone hsome
    generalize (mCut parts[i] (lit [61])).1 = a at *
    generalize (mCut parts[i] (lit [61])).2.1 = b at *
    refine ⟨fun _ => ⟨by omega, by omega, by unfold pCut sm; omega, by unfold pIsTokenText sm; omega, fun ct => hnone (if_neg ct), fun ct => ?_⟩, fun hn => absurd (by omega) hn⟩
    have hsome := hsome _ (if_pos (Classical.not_not.1 ct))
    have hcap : ∀ d : Fld, (out.length + [d].length) * 32 ≤ 140737488355328 := fun d => by simp only [List.length_singleton]; omega
    have hlow : pLower a := by unfold pLower sm; omega
    refine ⟨fun h2 => ?_, fun h2 => ⟨hlow, hcap _, by rw [← unq_neg (fun hh => h2 hh.1)] at hsome; exact hsome⟩⟩
    have hw : IntKind.i64.wrap ((b.size : Int) - 1) = (b.size : Int) - 1 := wrap64 (by omega) (by omega)
    rw [hw]
    refine ⟨by omega, by omega, fun h3 => ⟨by omega, by omega, fun h4 => ⟨by omega, by omega, by omega, hlow, hcap _, ?_⟩, fun h4 => ⟨hlow, hcap _, ?_⟩⟩, fun h3 => ⟨hlow, hcap _, ?_⟩⟩
    · rw [← unq_pos h2 h3 h4] at hsome
      rw [show ((b.size : Int) - 1).toNat = b.size - 1 by omega]
      exact hsome
    · rw [← unq_neg (fun hh => h4 hh.2.2)] at hsome; exact hsome
    · rw [← unq_neg (fun hh => h3 hh.2.1)] at hsome; exact hsome
  · exact ⟨fun hh => absurd hh (by unfold nameCC; omega), fun _ => ht⟩
theorem spec_Directives_ok (a0 : List Fld) (h : pDirectives a0) : s_spec_Directives a0 (fun r => r = mDirectives a0) := by
  have hg := fieldGet_size a0 nameCC h
  refine ⟨h, by unfold pSplitList sm; exact Nat.le_trans hg (by omega), ?_⟩
  have hb := splitList_bound (mFieldGet a0 nameCC).1
  have hm : ∀ x ∈ mSplitList (mFieldGet a0 nameCC).1, x.size ≤ 3 * 1048576 := fun x hx => Nat.le_trans (splitList_mem hx) hg
  have ht : (mSplitList (mFieldGet a0 nameCC).1).filterMap dirOf = mDirectives a0 := rfl
  intro L hL
  have hlen : (mSplitList (mFieldGet a0 nameCC).1).length ≤ 1073741824 := by omega
  refine gather (parts := mSplitList (mFieldGet a0 nameCC).1) hlen hL (fun out i hi hol hnone hsome => ?_) ?_
  · unfold nameCC at *
    generalize mSplitList (mFieldGet a0 (lit [99, 97, 99, 104, 101, 45, 99, 111, 110, 116, 114, 111, 108])).1 = parts at *
    have hp := hm parts[i] (List.getElem_mem hi)
    simp only [rx_nat parts i hi]
    unfold dirOf at hnone hsome
    generalize parts[i] = p at *
    refine ⟨fun _ => ⟨by omega, by omega, fun L2 hL2 => ?_⟩, fun hn => absurd (by omega) hn⟩
    have hcap : ∀ d : Fld, (out.length + [d].length) * 32 ≤ 140737488355328 := fun d => by simp only [List.length_singleton]; omega
    have tok : ∀ a b, pIsTokenText (p.extract a b) := fun a b => by have := extract_size p a b; unfold pIsTokenText sm; omega
    have low : ∀ a b, pLower (p.extract a b) := fun a b => by have := extract_size p a b; unfold pLower sm; omega
    have unq : ∀ a b, pL7Unquote (p.extract a b) := fun a b => by have := extract_size p a b; unfold pL7Unquote sm; omega
    refine loopN hL2 p.size (by omega) (fun k => ∀ j, j < k → bt p (j : Int) ≠ 61) (fun k hk hI ih => ?_) (fun j hj => by omega)
    have hwk : k < p.size → IntKind.i64.wrap ((k : Int) + 1) = ((k + 1 : Nat) : Int) := fun _ => wrapS (by omega)
    refine ⟨fun hlt => ?_, fun hge => ?_⟩
    · have hlt : k < p.size := by omega
      refine ⟨by omega, by omega, fun h61 => ih hlt fun j hj => ?_, fun h61 => ?_⟩
      · by_cases e : j = k
        · subst e; exact h61
        · exact hI j (by omega)
      · obtain ⟨e1, e2⟩ := cut_at hlt (Classical.not_not.1 h61) hI
        rw [e1] at hnone hsome
        rw [e2] at hsome
        rw [hwk hlt, Int.toNat_natCast, Int.toNat_natCast]
        refine ⟨by omega, by omega, tok _ _, fun ct => hnone (if_neg ct), fun ct => ⟨by omega, by omega, low _ _, fun _ => ⟨by omega, by omega, unq _ _, hcap _, hsome _ (if_pos (Classical.not_not.1 ct))⟩, fun hh => absurd (by omega) hh⟩⟩
    · have hke : k = p.size := by omega
      subst hke
      obtain ⟨e1, e2⟩ := cut_none hI
      rw [e1] at hnone hsome
      rw [e2] at hsome
      have hu : mL7Unquote (lit []) = lit [] := (unq_neg (fun hh => by have := hh.1; have h0 : (lit []).size = 0 := rfl; omega)).symm
      rw [hu] at hsome
      rw [Int.toNat_natCast]
      refine ⟨by omega, by omega, tok _ _, fun ct => hnone (if_neg ct), fun ct => ⟨by omega, by omega, low _ _, fun hh => absurd hh (by omega), fun _ => ⟨hcap _, hsome _ (if_pos (Classical.not_not.1 ct))⟩⟩⟩
  · exact ⟨fun hh => absurd hh (by unfold nameCC; omega), fun _ => ht⟩
end Go.Ev
end

section
/- Laws of the plain library: what may be stored, what may be shared. -/
set_option linter.unusedVariables false
namespace Go.Ev
theorem md_req' {q : Req} (h : md q) : md q.2.2.1 := by
  unfold md at h ⊢; simp only [cz_pair] at h; omega
theorem md_rsp' {r : Rsp} (h : md r) : md r.2.1 := by
  unfold md at h ⊢; simp only [cz_pair] at h; omega
theorem impl_itsOwn_ok (a0 : Req) (h : pItsOwn a0) : s_impl_itsOwn a0 (fun r => r = mItsOwn a0) := by
  have h : md a0.2.2.1 := h
  unfold s_impl_itsOwn mItsOwn sGET sAuth sNone sSince sNoStore sNoCache
  simp only [pHasField, pCcHas, h, true_and]
  (repeat' first | apply And.intro | intro _) <;> simp_all
theorem spec_l16Own_ok (a0 : Req) (h : pItsOwn a0) : s_spec_l16Own a0 (fun r => r = mItsOwn a0) := by
  have h : md a0.2.2.1 := h
  unfold s_spec_l16Own mItsOwn mHasField sGET sAuth sNone sSince sNoStore sNoCache
  simp only [pFieldGet, pCcHas, h, true_and]
  (repeat' first | apply And.intro | intro _) <;> simp_all
theorem impl_MayShare_ok (a0 : Req) (a1 : Flt) (a2 : Int) (h : pMayShare a0 a1 a2) : s_impl_MayShare a0 a1 a2 (fun r => r = mMayShare a0 a1 a2) := by
  obtain ⟨h0, h1⟩ := h
  have q0 := md_req' h0
  have h1' : cz a1 ≤ 1048576 := h1
  simp only [cz_pair] at h1'
  have p1 : pPicked (fltReq a1) (fltRsp a1) := by unfold pPicked md fltReq fltRsp; simp only; omega
  have p2 : pVaryFits a0 (fltRsp a1) (mPicked (fltReq a1) (fltRsp a1)) := by
    refine ⟨q0, ?_⟩
    unfold md fltRsp; simp only; omega
  have p3 : pItsOwn a0 := q0
  refine ⟨fun c1 => ⟨fun c2 => ⟨fun c3 => ⟨p1, p2, fun c4 => ⟨p3, ?_⟩, fun c4 => ?_⟩, fun c3 => ?_⟩, fun c2 => ?_⟩, fun c1 => ?_⟩
  · unfold mMayShare
    rw [Bool.not_eq_true] at c1
    rw [c1, c2, c3, show mVaryFits a0 (fltRsp a1) (mPicked (fltReq a1) (fltRsp a1)) = true from c4]
    cases mItsOwn a0 <;> rfl
  · unfold mMayShare
    rw [show mVaryFits a0 (fltRsp a1) (mPicked (fltReq a1) (fltRsp a1)) = false from (Bool.not_eq_true _).mp c4]
    simp
  · unfold mMayShare; rw [Bool.not_eq_true] at c3; rw [c3]; simp
  · unfold mMayShare; rw [Bool.not_eq_true] at c2; rw [c2]; simp
  · unfold mMayShare; rw [Classical.not_not.1 c1]; simp
theorem spec_MayShare_ok (a0 : Req) (a1 : Flt) (a2 : Int) (h : pMayShare a0 a1 a2) : s_spec_MayShare a0 a1 a2 (fun r => r = mMayShare a0 a1 a2) := impl_MayShare_ok a0 a1 a2 h
theorem storable_pre {r : Rsp} (h : md r) : md r.2.1 ∧ pFieldGet r.2.1 (lit [118, 97, 114, 121]) ∧ pSplitList (mFieldGet r.2.1 (lit [118, 97, 114, 121])).1 ∧ pContains_string (mSplitList (mFieldGet r.2.1 (lit [118, 97, 114, 121])).1) (lit [42]) := by
  have hr := md_rsp' h
  have hg := fieldGet_size r.2.1 (lit [118, 97, 114, 121]) hr
  have hb := splitList_bound (mFieldGet r.2.1 (lit [118, 97, 114, 121])).1
  exact ⟨hr, hr, by unfold pSplitList sm; omega, by unfold pContains_string; simp only [maxLen]; omega⟩
theorem impl_Storable_ok (a0 : Req) (a1 : Rsp) (h : pStorable a0 a1) : s_impl_Storable a0 a1 (fun r => r = mStorable a0 a1) := by
  obtain ⟨h0, h1⟩ := h
  have hq := md_req' h0
  obtain ⟨hr, p1, p2, p3⟩ := storable_pre h1
  have p4 : pResponseOk a1 := hr
  unfold s_impl_Storable mStorable sGET sNoStore sPrivate sVary sAuth sPublic sSMaxAge sMust sMaxAge sExpires
  simp only [pStorable_1, pCcHas, pHasField, pHeuristic, hq, hr, p1, p2, p3, p4, true_and, mStorable_1]
  generalize mContains_string (mSplitList (mFieldGet a1.2.1 (lit [118, 97, 114, 121])).1) (lit [42]) = b1
  generalize mCcHas a0.2.2.1 (lit [110, 111, 45, 115, 116, 111, 114, 101]) = b2
  generalize mCcHas a1.2.1 (lit [110, 111, 45, 115, 116, 111, 114, 101]) = b3
  generalize mCcHas a1.2.1 (lit [112, 114, 105, 118, 97, 116, 101]) = b4
  generalize mHasField a0.2.2.1 (lit [97, 117, 116, 104, 111, 114, 105, 122, 97, 116, 105, 111, 110]) = b5
  generalize mCcHas a1.2.1 (lit [112, 117, 98, 108, 105, 99]) = b6
  generalize mCcHas a1.2.1 (lit [115, 45, 109, 97, 120, 97, 103, 101]) = b7
  generalize mCcHas a1.2.1 (lit [109, 117, 115, 116, 45, 114, 101, 118, 97, 108, 105, 100, 97, 116, 101]) = b8
  generalize mCcHas a1.2.1 (lit [109, 97, 120, 45, 97, 103, 101]) = b9
  generalize mHasField a1.2.1 (lit [101, 120, 112, 105, 114, 101, 115]) = b10
  generalize mHeuristic a1.1 = b11
  generalize mResponseOk a1 = b12
  (repeat' first | apply And.intro | intro _) <;> simp_all
theorem spec_Storable_ok (a0 : Req) (a1 : Rsp) (h : pStorable a0 a1) : s_spec_Storable a0 a1 (fun r => r = mStorable a0 a1) := by
  obtain ⟨h0, h1⟩ := h
  have hq := md_req' h0
  obtain ⟨hr, p1, p2, p3⟩ := storable_pre h1
  have p4 : pResponseOk a1 := hr
  have hlen : (mSplitList (mFieldGet a1.2.1 (lit [118, 97, 114, 121])).1).length ≤ maxLen := p3
  refine ⟨fun c => ?_, fun c0 => ⟨fun c => ?_, fun c1 => ⟨p4, fun c => ?_, fun c2 => ⟨hq, fun c => ?_, fun c3 => ⟨hr, fun c => ?_, fun c4 => ⟨hr, fun c => ?_, fun c5 => ⟨hr, p2,
    scanT_ok (xs := mSplitList (mFieldGet a1.2.1 (lit [118, 97, 114, 121])).1) (C := fun x => x = lit [42]) (Qh := fun _ => false = mStorable a0 a1) hlen (fun i hi hc _ => ?_) (fun hx => ?_)⟩⟩⟩⟩⟩⟩⟩
  · simp [mStorable, sGET, c]
  · simp [mStorable, c]
  · rw [Bool.not_eq_true] at c; simp [mStorable, c]
  · simp [mStorable, sNoStore, c]
  · simp [mStorable, sNoStore, c]
  · simp [mStorable, sPrivate, c]
  · have hb : mContains_string (mSplitList (mFieldGet a1.2.1 (lit [118, 97, 114, 121])).1) (lit [42]) = true := any_true hi (by rw [hc]; simp)
    simp [mStorable, sVary, hb]
  · have hb : mContains_string (mSplitList (mFieldGet a1.2.1 (lit [118, 97, 114, 121])).1) (lit [42]) = false := List.any_eq_false.2 fun x hm => by have := hx x hm; simpa using fun e => this e.symm
    have c2' := Classical.not_not.1 c2
    have c0' := Classical.not_not.1 c0
    rw [Bool.not_eq_true] at c3 c4 c5
    unfold mStorable mHasField sGET sNoStore sPrivate sVary sAuth sPublic sSMaxAge sMust sMaxAge sExpires
    rw [hb, c2', c3, c4, c5, decide_eq_true c0', decide_eq_false c1]
    simp only [pFieldGet, pCcHas, pHeuristic, hq, hr, true_and]
    generalize (mFieldGet a0.2.2.1 (lit [97, 117, 116, 104, 111, 114, 105, 122, 97, 116, 105, 111, 110])).2 = b5
    generalize mCcHas a1.2.1 (lit [112, 117, 98, 108, 105, 99]) = b6
    generalize mCcHas a1.2.1 (lit [115, 45, 109, 97, 120, 97, 103, 101]) = b7
    generalize mCcHas a1.2.1 (lit [109, 117, 115, 116, 45, 114, 101, 118, 97, 108, 105, 100, 97, 116, 101]) = b8
    generalize mCcHas a1.2.1 (lit [109, 97, 120, 45, 97, 103, 101]) = b9
    generalize (mFieldGet a1.2.1 (lit [101, 120, 112, 105, 114, 101, 115])).2 = b10
    generalize mHeuristic a1.1 = b11
    clear hx hb
    (repeat' first | apply And.intro | intro _) <;> simp_all
end Go.Ev
end

section
/- Library functions: strings.Join, strings.Trim, strings.Cut, strings.IndexByte: contracts of the small machine. -/
set_option linter.unusedVariables false
namespace Go.Ev
open Go.RowKit
theorem res_bool {S : Nat → Prop} {col : Nat → Option Nat} {W : World} (x : Bool) : resR S col W false [(false, [.bool])] (x : caps [[L.bool]]) 0 [.bool x] := by
  simp only [resR]
  exact ⟨_, _, [.bool x], rfl, by simp only [outR]; exact ⟨_, _, rfl, rfl, rfl⟩, rfl, rfl⟩
theorem cell_lt {w : World} {a : Addr} {v : Value} (h : w.cell? a = some v) : a.block < w.heap.size := by
  rcases Nat.lt_or_ge a.block w.heap.size with h' | h'
  · exact h'
  · unfold World.cell? at h
    rw [Array.getElem?_eq_none h'] at h
    simp at h
/-! ### strings.IndexByte -/
def indexByteCt (f : FuncId) : Ct := { f, ps := [.v false .ro [.str], .v false .ro [.int .u8]], rs := [(false, [.int .i64])], shared := false, pre := fun (x : S × Int) => pIndexByte x.1 x.2, F := fun (x : S × Int) => mIndexByte x.1 x.2 }
theorem indexByte_ct {P : Program} {f : FuncId} {w : World} (hf : FnIs P f)
    (hI : ∀ (s : ByteArray) (c : Int), Calls P f #[.string s, .int .u8 c] w fun e w' => e = .returned (.int .i64 (Lib.indexByte s.data.toList c.toNat.toUInt8)) ∧ w' = w) : CtAt P (indexByteCt f) w := by
  refine ct_lib hf fun vals x S hS ha hp => ?_
  obtain ⟨v, vs', hv, h1, h2⟩ := args_v ha
  obtain ⟨u, us', rfl, h3, h4⟩ := args_v h2
  have h4 := args_e h4
  subst h4
  have h1 : v = .string x.1 := h1
  have h3 : u = .int .u8 x.2 := h3
  subst h1; subst h3
  rw [arr_of hv]
  refine (hI x.1 x.2).mono fun e w' ⟨he, hw⟩ => ⟨[.int .i64 (mIndexByte x.1 x.2)], _, he, ?_, Or.inl rfl, fun S' => res_int _⟩
  rw [hw]; exact Below.refl _ _
/-! ### strings.Trim -/
def trimLCt (f : FuncId) : Ct := { f, ps := [.v false .ro [.str], .v false .ro [.str]], rs := [(false, [.str])], shared := false, pre := fun (x : S × S) => pTrimL x.1 x.2, F := fun (x : S × S) => mTrimL x.1 x.2 }
theorem trimL_ct {P : Program} {f : FuncId} {w : World} (hf : FnIs P f)
    (hI : ∀ (s cs : ByteArray), s.size ≤ 9223372036854775807 → cs.size < 4294967281 → (∀ (j : Nat) b, cs.data.toList[j]? = some b → b.toNat < 128) →
      Calls P f #[.string s, .string cs] w fun e w' => e = .returned (.string ⟨(Lib.trimS s.data.toList cs.data.toList).toArray⟩) ∧ Below w.heap.size w w') : CtAt P (trimLCt f) w := by
  refine ct_lib hf fun vals x S hS ha hp => ?_
  obtain ⟨v, vs', hv, h1, h2⟩ := args_v ha
  obtain ⟨u, us', rfl, h3, h4⟩ := args_v h2
  have h4 := args_e h4
  subst h4
  have h1 : v = .string x.1 := h1
  have h3 : u = .string x.2 := h3
  subst h1; subst h3
  rw [arr_of hv]
  have hp : x.1.size ≤ 1073741824 ∧ x.2 = lit [32, 9] := hp
  obtain ⟨hp1, hp2⟩ := hp
  have hall : ∀ b ∈ (lit [32, 9]).data.toList, b.toNat < 128 := by decide
  refine (hI x.1 x.2 (by omega) (by rw [hp2]; decide) (fun j b hb => by rw [hp2] at hb; exact hall b (List.mem_of_getElem? hb))).mono fun e w' ⟨he, hb⟩ => ⟨[.string (mTrimL x.1 x.2)], _, he, hb, Or.inl rfl, fun S' => res_str _⟩
/-! ### strings.Cut -/
def cutCt (f : FuncId) : Ct := { f, ps := [.v false .ro [.str], .v false .ro [.str]], rs := [(false, [.str]), (false, [.str]), (false, [.bool])], shared := false, pre := fun (x : S × S) => pCut x.1 x.2, F := fun (x : S × S) => mCut x.1 x.2 }
theorem cut_ct {P : Program} {f : FuncId} {w : World} (hf : FnIs P f)
    (hI : ∀ (s sep : ByteArray), s.size < 4294967281 →
      Calls P f #[.string s, .string sep] w fun e w' => e = .returned (.tuple #[.string ⟨(Lib.cut s.data.toList sep.data.toList).1.toArray⟩, .string ⟨(Lib.cut s.data.toList sep.data.toList).2.1.toArray⟩, .bool (Lib.cut s.data.toList sep.data.toList).2.2]) ∧ ∃ n, w' = w.drewN n) : CtAt P (cutCt f) w := by
  refine ct_lib hf fun vals x S hS ha hp => ?_
  obtain ⟨v, vs', hv, h1, h2⟩ := args_v ha
  obtain ⟨u, us', rfl, h3, h4⟩ := args_v h2
  have h4 := args_e h4
  subst h4
  have h1 : v = .string x.1 := h1
  have h3 : u = .string x.2 := h3
  subst h1; subst h3
  rw [arr_of hv]
  have hp : x.1.size ≤ 1073741824 := hp
  refine (hI x.1 x.2 (by omega)).mono fun e w' ⟨he, n, hw⟩ => ⟨[.string (mCut x.1 x.2).1, .string (mCut x.1 x.2).2.1, .bool (mCut x.1 x.2).2.2], _, he, ?_, Or.inr ⟨by simp, rfl⟩, fun S' => ?_⟩
  · rw [hw]
    exact ⟨rfl, rfl, rfl, Nat.le_refl _, fun _ _ => rfl⟩
  · simp only [cutCt, resR]
    refine ⟨_, _, [.string (mCut x.1 x.2).1], rfl, by simp only [outR]; exact ⟨_, _, rfl, rfl, rfl⟩, rfl, ?_⟩
    refine ⟨_, _, [.string (mCut x.1 x.2).2.1], rfl, by simp only [outR]; exact ⟨_, _, rfl, rfl, rfl⟩, rfl, ?_⟩
    exact ⟨_, _, [.bool (mCut x.1 x.2).2.2], rfl, by simp only [outR]; exact ⟨_, _, rfl, rfl, rfl⟩, rfl, rfl⟩
/-! ### strings.Join -/
theorem joinL_tail (sep : S) : ∀ (x : S) (r : List S), bs (joinL sep (x :: r)) = bs x ++ Lib.joinTail (bs sep) (r.map bs)
  | x, [] => by simp [joinL, Lib.joinTail]
  | x, y :: r => by
    rw [joinL, bs_append, bs_append, joinL_tail sep y r]
    simp only [Lib.joinTail, List.map_cons, List.flatten_cons, List.append_assoc]
theorem mJoin_lib (xs : List S) (sep : S) : mJoin xs sep = ob (Lib.join (xs.map bs) (bs sep)) := by
  cases xs with
  | nil => rfl
  | cons x r =>
    refine bs_inj ?_
    rw [bs_ob, mJoin, joinL_tail, List.map_cons, Lib.join_cons]
theorem lens_sum : ∀ xs : List S, Lib.lens (xs.map bs) = sumN (xs.map fun x => x.size)
  | [] => rfl
  | x :: r => by
    have := lens_sum r
    unfold Lib.lens at this ⊢
    simp only [List.map_cons, List.sum_cons, sumN, bs_len] at this ⊢
    omega
theorem join_core {P : Program} {f : FuncId} {w : World} {S : Nat → Prop} (hS : ∀ b, S b → b < w.heap.size)
    (h0 : ∀ (a : Option Addr) (c : Nat) (sep : ByteArray), Calls P f #[.slice a 0 c, .string sep] w fun e w' => e = .returned (.string ⟨#[]⟩) ∧ w' = w)
    (hI : ∀ (bk o c : Nat) (xs : List ByteArray) (sep : ByteArray), (∀ (j : Nat) x, xs[j]? = some x → w.cell? ⟨bk, o + j, none⟩ = some (.string x)) → bk < w.heap.size → xs.length ≤ 140737488355328 → xs.length ≤ c → (Lib.join (xs.map (·.data.toList)) sep.data.toList).length ≤ 140737488355328 →
      Calls P f #[.slice (some ⟨bk, o, none⟩) xs.length c, .string sep] w fun e w' => e = .returned (.string ⟨(Lib.join (xs.map (·.data.toList)) sep.data.toList).toArray⟩) ∧ Below w.heap.size w w')
    (xs : List ByteArray) (sep : ByteArray) (hp : pJoin xs sep) (A : Option Addr) (cap : Nat) (cs : List Value) (hcap : xs.length ≤ cap) (hcl : cs.length = xs.length * 1)
    (hA : 0 < xs.length * 1 → ∃ ad, A = some ad ∧ S ad.block ∧ ∀ (j : Nat) (u : Value), cs[j]? = some u → w.cell? (ad.add j) = some u)
    (hx : ∀ (i : Nat) (y : ByteArray), xs[i]? = some y → (cs.drop (i * 1)).take 1 = [.string y]) :
    Calls P f #[.slice A xs.length cap, .string sep] w fun e w' => e = .returned (.string (mJoin xs sep)) ∧ Below w.heap.size w w' := by
  obtain ⟨hp1, hp2, hp3⟩ := hp
  by_cases hn : xs.length = 0
  · have : xs = [] := List.length_eq_zero_iff.1 hn
    subst this
    refine (h0 A cap sep).mono fun e w' ⟨he, hw⟩ => ⟨he, ?_⟩
    rw [hw]; exact Below.refl _ _
  · obtain ⟨ad, rfl, hb, hcells⟩ := hA (by omega)
    have hget : ∀ (j : Nat) (y : ByteArray), xs[j]? = some y → w.cell? (ad.add j) = some (.string y) := fun j y hj => by
      refine hcells j _ ?_
      have := congrArg (·[0]?) (hx j y hj)
      simpa [List.getElem?_take, List.getElem?_drop] using this
    have hx0 : xs[0]? = some (xs[0]'(by omega)) := List.getElem?_eq_getElem (by omega)
    have hsp := World.cell?_spot (hget 0 _ hx0)
    have hadd : ∀ j, ad.add j = ⟨ad.block, ad.off + j, none⟩ := fun j => by
      have : ad.spot = none := by
        rw [addr_zero] at hsp; exact hsp
      obtain ⟨b, o, s⟩ := ad
      simp only at this
      subst this
      unfold Addr.add
      split
      · rename_i h; subst h; rfl
      · rfl
    have had : ad = ⟨ad.block, ad.off, none⟩ := by have := hadd 0; rw [addr_zero] at this; exact this
    have hjl : (Lib.join (xs.map (·.data.toList)) sep.data.toList).length ≤ 140737488355328 := by
      cases xs with
      | nil => simp at hn
      | cons y r =>
        have h6 := Lib.join_length (bs y) (r.map bs) (bs sep)
        have h7 := lens_sum (y :: r)
        have h8 : (bs sep).length ≤ 16 := by rw [bs_len]; exact hp3
        have h9 : (bs sep).length * (r.map bs).length ≤ 16 * r.length := by rw [List.length_map]; exact Nat.mul_le_mul_right _ h8
        have h10 : (Lib.join ((y :: r).map bs) (bs sep)).length ≤ 140737488355328 := by
          rw [List.map_cons, h6]
          rw [List.map_cons] at h7
          simp only [List.length_cons] at hp1
          omega
        exact h10
    rw [had]
    refine (hI ad.block ad.off cap xs sep (fun j y hj => by rw [← hadd j]; exact hget j y hj) (hS _ hb) (by omega) hcap hjl).mono fun e w' ⟨he, hbel⟩ => ⟨?_, hbel⟩
    rw [he, mJoin_lib]; rfl
def joinCt (e : TypeId) (f : FuncId) : Ct := { f, ps := [.v false .ro [.list e [.str]], .v false .ro [.str]], rs := [(false, [.str])], shared := false, pre := fun (x : List S × S) => pJoin x.1 x.2, F := fun (x : List S × S) => mJoin x.1 x.2 }
theorem join_row {w : World} {S : Nat → Prop} {e : TypeId} {p : Col} {xs : List ByteArray} {v : Value} (h : repL (roRow w S) (.list e [.str]) p (xs : List (dens [L.str])) v) :
    ∃ (A : Option Addr) (cap : Nat) (cs : List Value), v = .slice A xs.length cap ∧ xs.length ≤ cap ∧ cs.length = xs.length * 1 ∧ (0 < xs.length * 1 → ∃ ad, A = some ad ∧ S ad.block ∧ ∀ (j : Nat) (u : Value), cs[j]? = some u → w.cell? (ad.add j) = some u) ∧
      ∀ (i : Nat) (y : ByteArray), xs[i]? = some y → (cs.drop (i * 1)).take 1 = [.string y] := by
  simp only [repL] at h
  obtain ⟨cs, ⟨A, cap, hv, hcap, hA⟩, hcl, hx⟩ := h
  refine ⟨A, cap, cs, hv, hcap, hcl, hA, fun i y hi => ?_⟩
  have h5 := hx i y hi
  simp only [repLs, repL] at h5
  obtain ⟨v, hv, rfl⟩ := h5
  exact hv
theorem join_ct {P : Program} {e : TypeId} {f : FuncId} {w : World} (hf : FnIs P f)
    (h0 : ∀ (a : Option Addr) (c : Nat) (sep : ByteArray), Calls P f #[.slice a 0 c, .string sep] w fun e w' => e = .returned (.string ⟨#[]⟩) ∧ w' = w)
    (hI : ∀ (bk o c : Nat) (xs : List ByteArray) (sep : ByteArray), (∀ (j : Nat) x, xs[j]? = some x → w.cell? ⟨bk, o + j, none⟩ = some (.string x)) → bk < w.heap.size → xs.length ≤ 140737488355328 → xs.length ≤ c → (Lib.join (xs.map (·.data.toList)) sep.data.toList).length ≤ 140737488355328 →
      Calls P f #[.slice (some ⟨bk, o, none⟩) xs.length c, .string sep] w fun e w' => e = .returned (.string ⟨(Lib.join (xs.map (·.data.toList)) sep.data.toList).toArray⟩) ∧ Below w.heap.size w w') : CtAt P (joinCt e f) w := by
  refine ct_lib hf fun vals x S hS ha hp => ?_
  obtain ⟨v, vs', hv, h1, h2⟩ := args_v ha
  obtain ⟨u, us', rfl, h3, h4⟩ := args_v h2
  have h4 := args_e h4
  subst h4
  have h3 : u = .string x.2 := h3
  subst h3
  obtain ⟨A, cap, cs, rfl, hcap, hcl, hA, hx⟩ := join_row (xs := x.1) h1
  rw [arr_of hv]
  exact (join_core hS h0 hI x.1 x.2 hp A cap cs hcap hcl hA hx).mono fun e w' ⟨he, hb⟩ => ⟨[.string (mJoin x.1 x.2)], _, he, hb, Or.inl rfl, fun S' => res_str _⟩
end Go.Ev
end

section
/- impl.Lower: what its walk needs. -/
set_option linter.unusedVariables false
namespace Go.Ev
open Go Go.RowKit
/-- The row behind i steps. -/
def lowAt (s : S) (i : Nat) : List UInt8 := ((bs s).take i).map lowB ++ (bs s).drop i
theorem lowAt_len (s : S) (i : Nat) : (lowAt s i).length = s.size := by
  unfold lowAt
  rw [List.length_append, List.length_map, List.length_take, List.length_drop, bs_len]; omega
theorem lowAt_get (s : S) (i j : Nat) (h : j < s.size) : (lowAt s i)[j]? = some (if j < i then lowB (bs s)[j]! else (bs s)[j]!) := by
  have hl : j < (bs s).length := by rw [bs_len]; exact h
  unfold lowAt
  by_cases hj : j < i
  · rw [if_pos hj, List.getElem?_append_left (by simp; omega), List.getElem?_map, List.getElem?_take, if_pos hj, List.getElem?_eq_getElem hl, getElem!_pos (bs s) j hl]; rfl
  · rw [if_neg hj, List.getElem?_append_right (by simp; omega), List.getElem?_drop, List.length_map, List.length_take, show i + (j - min i (bs s).length) = j by omega, List.getElem?_eq_getElem hl, getElem!_pos (bs s) j hl]
/-- What the block holds, in a world. -/
def LowW (B : Nat) (s : S) (i : Nat) (w w' : World) : Prop :=
  Below B w w' ∧ ∀ j, j < s.size → w'.cell? ⟨B, j, none⟩ = some (.int .u8 (((if j < i then lowB (bs s)[j]! else (bs s)[j]!).toNat : Nat) : Int)) ∧ w'.frozen? ⟨B, j, none⟩ = false
theorem LowW.next {B i : Nat} {s : S} {w w' : World} (h : LowW B s i w w') (hi : i < s.size) {v : Int} (hv : v = ((lowB (bs s)[i]!).toNat : Int)) : LowW B s (i + 1) w (w'.setCell ⟨B, i, none⟩ (.int .u8 v)) := by
  refine ⟨h.1.setCell (Nat.le_refl _) _, fun j hj => ?_⟩
  by_cases e : j = i
  · subst e
    rw [World.cell?_setCell_same _ _ _ (h.2 j hj).1, hv, if_pos (by omega)]
    exact ⟨rfl, by rw [World.frozen?_setCell]; exact (h.2 j hj).2⟩
  · rw [World.cell?_setCell_other _ _ _ _ (by simp [e]), World.frozen?_setCell, (h.2 j hj).1]
    exact ⟨by simp only [show (j < i + 1) ↔ (j < i) by omega], (h.2 j hj).2⟩
theorem LowW.skip {B i : Nat} {s : S} {w w' : World} (h : LowW B s i w w') (hi : i < s.size) (hv : lowB (bs s)[i]! = (bs s)[i]!) : LowW B s (i + 1) w w' := by
  refine ⟨h.1, fun j hj => ?_⟩
  by_cases e : j = i
  · subst e
    have := h.2 j hj
    rw [if_neg (by omega)] at this
    rw [if_pos (by omega), hv]; exact this
  · rw [(h.2 j hj).1]
    exact ⟨by simp only [show (j < i + 1) ↔ (j < i) by omega], (h.2 j hj).2⟩
/-- '[]byte(s)'. -/
theorem low_new (P : Program) (src dst e : TypeId) (w : World) (s : S) (hs : P.underlying src = some .string) (hd : P.underlying dst = some (.slice e)) (he : P.underlying e = some (.int .u8)) :
    ∃ W1 cap, (convert src dst (.string s)).run P w = .ok (.slice (some ⟨w.heap.size, 0, none⟩) s.size cap) W1 ∧ LowW w.heap.size s 0 w W1 := by
  refine ⟨_, _, run_bytes_of_string w src dst e s hs hd he, (Below.refl _ _).drew.alloc (Nat.le_refl _) _, fun j hj => ?_⟩
  have h1 := bytesRow_at s (grownCap w s.size 0 e) j hj
  refine ⟨?_, ?_⟩
  · show (w.drew.alloc _).cell? ⟨w.drew.heap.size, j, none⟩ = _
    rw [World.cell?_alloc_mark, h1, if_neg (by omega)]
    have hl : j < (bs s).length := by rw [bs_len]; exact hj
    rw [getElem!_pos (bs s) j hl]; rfl
  · show (w.drew.alloc _).frozen? ⟨w.drew.heap.size, j, none⟩ = _
    rw [World.frozen?_alloc_mark]
    have hsz : s.size ≤ (bytesRow s (grownCap w s.size 0 e)).size := by simp [bytesRow]
    generalize (bytesRow s (grownCap w s.size 0 e)).size = n at hsz
    simp; omega
theorem low_byte (x : UInt8) : (65 ≤ x.toNat ∧ x.toNat ≤ 90 → IntKind.u8.wrap (IntKind.u8.wrap ((x.toNat : Int) + 97) - 65) = ((lowB x).toNat : Int)) ∧ (¬ (65 ≤ x.toNat ∧ x.toNat ≤ 90) → lowB x = x) := by
  refine ⟨fun h => ?_, fun h => by unfold lowB; rw [if_neg h]⟩
  unfold lowB; rw [if_pos h]
  have e : (x + 32).toNat = x.toNat + 32 := by rw [UInt8.toNat_add]; show (x.toNat + 32) % 256 = _; omega
  rw [e]
  have h1 : IntKind.u8.wrap ((x.toNat : Int) + 97) = (x.toNat : Int) + 97 := by rw [IntKind.wrap_u8]; omega
  rw [h1, IntKind.wrap_u8]; omega
theorem low_end (P : Program) (src dst e : TypeId) (B cap : Nat) (w w' : World) (s : S) (hs : P.underlying src = some (.slice e)) (he : P.underlying e = some (.int .u8)) (hd : P.underlying dst = some .string) (h : LowW B s s.size w w') :
    (convert src dst (.slice (some ⟨B, 0, none⟩) s.size cap)).run P w' = .ok (.string (mLower s)) w' := by
  have hl : ((bs s).map lowB).length = s.size := by rw [List.length_map, bs_len]
  have := run_convert_bytes_back (P := P) w' src dst e ⟨B, 0, none⟩ cap ((bs s).map lowB) hs he hd (fun j hj => by
    have hj' : j < s.size := by rw [hl] at hj; exact hj
    have hjb : j < (bs s).length := by rw [bs_len]; exact hj'
    have h1 := (h.2 j hj').1
    rw [if_pos hj', getElem!_pos (bs s) j hjb] at h1
    rw [show (⟨B, 0, none⟩ : Addr).add j = ⟨B, j, none⟩ by unfold Addr.add; split <;> simp_all]
    rw [h1, List.getElem_map])
  rw [hl] at this
  exact this
end Go.Ev
namespace Go.Ev
open Go.RowKit
def lowerCt (f : FuncId) : Ct := { f, ps := [.v false .ro [.str]], rs := [(false, [.str])], shared := false, pre := fun (x : S) => pLower x, F := fun (x : S) => mLower x }
theorem lower_ct {P : Program} {f : FuncId} {w : World} (hf : FnIs P f)
    (hI : ∀ s : ByteArray, s.size ≤ 1073741824 → Calls P f #[.string s] w fun e w' => e = .returned (.string (mLower s)) ∧ Below w.heap.size w w') : CtAt P (lowerCt f) w := by
  refine ct_lib hf fun vals x S hS ha hp => ?_
  obtain ⟨v, vs', hv, h1, h2⟩ := args_v ha
  have h2 := args_e h2
  subst h2
  have h1 : v = .string x := h1
  subst h1
  rw [arr_of hv]
  exact (hI x hp).mono fun e w' ⟨he, hb⟩ => ⟨[.string (mLower x)], _, he, hb, Or.inl rfl, fun S' => res_str _⟩
end Go.Ev
end

section
set_option linter.unusedVariables false
namespace Go.Proofs.YtinphipdffikhaaDoor.Ap
open Go Go.Ev Go.Proofs Go.RowKit
abbrev ls3 : List L := [.int .i64]
abbrev ls4 : List L := [.bool]
abbrev ls5 : List L := [.int .u8]
abbrev ls9 : List L := [.str]
abbrev ls33 : List L := [.list 95 [.str, .str]]
abbrev ls35 : List L := [.str, .str, .list 95 [.str, .str], .str]
abbrev ls37 : List L := [.int .i64, .list 95 [.str, .str], .str]
abbrev ls42 : List L := [.list 96 [.str, .str]]
abbrev ls44 : List L := [.str, .str, .list 96 [.str, .str], .str]
abbrev ls47 : List L := [.int .i64, .list 96 [.str, .str], .str]
abbrev ls95 : List L := [.str, .str]
abbrev ls96 : List L := [.str, .str]
abbrev ls99 : List L := [.list 9 [.str]]
abbrev ls150 : List L := [.list 3 [.int .i64]]
def tt : List (Nat × TI) := [
  (2, ⟨.sc, [.int .i64]⟩),
  (3, ⟨.sc, [.int .i64]⟩),
  (4, ⟨.sc, [.bool]⟩),
  (5, ⟨.sc, [.int .u8]⟩),
  (6, ⟨.sc, [.int .u8]⟩),
  (7, ⟨.st [(0, [.int .i64]), (1, [.int .i64]), (2, [.bool]), (3, [.int .u8])], [.int .i64, .int .i64, .bool, .int .u8]⟩),
  (8, ⟨.st [(0, [.int .i64]), (1, [.int .i64]), (2, [.bool]), (3, [.int .u8])], [.int .i64, .int .i64, .bool, .int .u8]⟩),
  (9, ⟨.sc, [.str]⟩),
  (10, ⟨.sc, [.str]⟩),
  (11, ⟨.sc, [.str]⟩),
  (12, ⟨.sc, [.int .u64]⟩),
  (13, ⟨.st [(0, [.str]), (1, [.int .u64])], [.str, .int .u64]⟩),
  (14, ⟨.st [(0, [.str]), (1, [.int .u64])], [.str, .int .u64]⟩),
  (21, ⟨.sc, [.int .i32]⟩),
  (22, ⟨.sl 127 [.str, .str, .int .i64, .int .i64, .bool, .bool, .list 95 [.str, .str]] 80, [.list 127 [.str, .str, .int .i64, .int .i64, .bool, .bool, .list 95 [.str, .str]]]⟩),
  (23, ⟨.st [(0, [.list 127 [.str, .str, .int .i64, .int .i64, .bool, .bool, .list 95 [.str, .str]]])], [.list 127 [.str, .str, .int .i64, .int .i64, .bool, .bool, .list 95 [.str, .str]]]⟩),
  (24, ⟨.st [(0, [.list 127 [.str, .str, .int .i64, .int .i64, .bool, .bool, .list 95 [.str, .str]]])], [.list 127 [.str, .str, .int .i64, .int .i64, .bool, .bool, .list 95 [.str, .str]]]⟩),
  (27, ⟨.sl 87 [.str, .str, .int .i64, .int .i64, .bool, .bool, .list 96 [.str, .str]] 80, [.list 87 [.str, .str, .int .i64, .int .i64, .bool, .bool, .list 96 [.str, .str]]]⟩),
  (28, ⟨.st [(0, [.list 87 [.str, .str, .int .i64, .int .i64, .bool, .bool, .list 96 [.str, .str]]])], [.list 87 [.str, .str, .int .i64, .int .i64, .bool, .bool, .list 96 [.str, .str]]]⟩),
  (29, ⟨.st [(0, [.list 87 [.str, .str, .int .i64, .int .i64, .bool, .bool, .list 96 [.str, .str]]])], [.list 87 [.str, .str, .int .i64, .int .i64, .bool, .bool, .list 96 [.str, .str]]]⟩),
  (33, ⟨.sl 95 [.str, .str] 32, [.list 95 [.str, .str]]⟩),
  (34, ⟨.st [(0, [.str]), (1, [.str]), (2, [.list 95 [.str, .str]]), (3, [.str])], [.str, .str, .list 95 [.str, .str], .str]⟩),
  (35, ⟨.st [(0, [.str]), (1, [.str]), (2, [.list 95 [.str, .str]]), (3, [.str])], [.str, .str, .list 95 [.str, .str], .str]⟩),
  (36, ⟨.st [(0, [.int .i64]), (1, [.list 95 [.str, .str]]), (2, [.str])], [.int .i64, .list 95 [.str, .str], .str]⟩),
  (37, ⟨.st [(0, [.int .i64]), (1, [.list 95 [.str, .str]]), (2, [.str])], [.int .i64, .list 95 [.str, .str], .str]⟩),
  (42, ⟨.sl 96 [.str, .str] 32, [.list 96 [.str, .str]]⟩),
  (43, ⟨.st [(0, [.str]), (1, [.str]), (2, [.list 96 [.str, .str]]), (3, [.str])], [.str, .str, .list 96 [.str, .str], .str]⟩),
  (44, ⟨.st [(0, [.str]), (1, [.str]), (2, [.list 96 [.str, .str]]), (3, [.str])], [.str, .str, .list 96 [.str, .str], .str]⟩),
  (46, ⟨.st [(0, [.int .i64]), (1, [.list 96 [.str, .str]]), (2, [.str])], [.int .i64, .list 96 [.str, .str], .str]⟩),
  (47, ⟨.st [(0, [.int .i64]), (1, [.list 96 [.str, .str]]), (2, [.str])], [.int .i64, .list 96 [.str, .str], .str]⟩),
  (63, ⟨.sl 145 [.str, .list 95 [.str, .str], .int .i64, .list 95 [.str, .str], .str, .int .i64, .int .i64, .bool] 112, [.list 145 [.str, .list 95 [.str, .str], .int .i64, .list 95 [.str, .str], .str, .int .i64, .int .i64, .bool]]⟩),
  (64, ⟨.st [(0, [.int .i64]), (1, [.int .i64]), (2, [.list 145 [.str, .list 95 [.str, .str], .int .i64, .list 95 [.str, .str], .str, .int .i64, .int .i64, .bool]]), (3, [.int .i64])], [.int .i64, .int .i64, .list 145 [.str, .list 95 [.str, .str], .int .i64, .list 95 [.str, .str], .str, .int .i64, .int .i64, .bool], .int .i64]⟩),
  (65, ⟨.st [(0, [.int .i64]), (1, [.int .i64]), (2, [.list 145 [.str, .list 95 [.str, .str], .int .i64, .list 95 [.str, .str], .str, .int .i64, .int .i64, .bool]]), (3, [.int .i64])], [.int .i64, .int .i64, .list 145 [.str, .list 95 [.str, .str], .int .i64, .list 95 [.str, .str], .str, .int .i64, .int .i64, .bool], .int .i64]⟩),
  (68, ⟨.sl 113 [.str, .list 96 [.str, .str], .int .i64, .list 96 [.str, .str], .str, .int .i64, .int .i64, .bool] 112, [.list 113 [.str, .list 96 [.str, .str], .int .i64, .list 96 [.str, .str], .str, .int .i64, .int .i64, .bool]]⟩),
  (69, ⟨.st [(0, [.int .i64]), (1, [.int .i64]), (2, [.list 113 [.str, .list 96 [.str, .str], .int .i64, .list 96 [.str, .str], .str, .int .i64, .int .i64, .bool]]), (3, [.int .i64])], [.int .i64, .int .i64, .list 113 [.str, .list 96 [.str, .str], .int .i64, .list 96 [.str, .str], .str, .int .i64, .int .i64, .bool], .int .i64]⟩),
  (70, ⟨.st [(0, [.int .i64]), (1, [.int .i64]), (2, [.list 113 [.str, .list 96 [.str, .str], .int .i64, .list 96 [.str, .str], .str, .int .i64, .int .i64, .bool]]), (3, [.int .i64])], [.int .i64, .int .i64, .list 113 [.str, .list 96 [.str, .str], .int .i64, .list 96 [.str, .str], .str, .int .i64, .int .i64, .bool], .int .i64]⟩),
  (76, ⟨.st [(0, [.str]), (1, [.bool]), (2, [.int .i64]), (3, [.bool]), (4, [.bool]), (5, [.str, .str, .list 95 [.str, .str], .str]), (9, [.int .i64, .list 95 [.str, .str], .str]), (12, [.int .i64]), (13, [.int .i64])], [.str, .bool, .int .i64, .bool, .bool, .str, .str, .list 95 [.str, .str], .str, .int .i64, .list 95 [.str, .str], .str, .int .i64, .int .i64]⟩),
  (77, ⟨.st [(0, [.str]), (1, [.bool]), (2, [.int .i64]), (3, [.bool]), (4, [.bool]), (5, [.str, .str, .list 95 [.str, .str], .str]), (9, [.int .i64, .list 95 [.str, .str], .str]), (12, [.int .i64]), (13, [.int .i64])], [.str, .bool, .int .i64, .bool, .bool, .str, .str, .list 95 [.str, .str], .str, .int .i64, .list 95 [.str, .str], .str, .int .i64, .int .i64]⟩),
  (80, ⟨.st [(0, [.str]), (1, [.bool]), (2, [.int .i64]), (3, [.bool]), (4, [.bool]), (5, [.str, .str, .list 96 [.str, .str], .str]), (9, [.int .i64, .list 96 [.str, .str], .str]), (12, [.int .i64]), (13, [.int .i64])], [.str, .bool, .int .i64, .bool, .bool, .str, .str, .list 96 [.str, .str], .str, .int .i64, .list 96 [.str, .str], .str, .int .i64, .int .i64]⟩),
  (81, ⟨.st [(0, [.str]), (1, [.bool]), (2, [.int .i64]), (3, [.bool]), (4, [.bool]), (5, [.str, .str, .list 96 [.str, .str], .str]), (9, [.int .i64, .list 96 [.str, .str], .str]), (12, [.int .i64]), (13, [.int .i64])], [.str, .bool, .int .i64, .bool, .bool, .str, .str, .list 96 [.str, .str], .str, .int .i64, .list 96 [.str, .str], .str, .int .i64, .int .i64]⟩),
  (86, ⟨.st [(0, [.str]), (1, [.str]), (2, [.int .i64]), (3, [.int .i64]), (4, [.bool]), (5, [.bool]), (6, [.list 96 [.str, .str]])], [.str, .str, .int .i64, .int .i64, .bool, .bool, .list 96 [.str, .str]]⟩),
  (87, ⟨.st [(0, [.str]), (1, [.str]), (2, [.int .i64]), (3, [.int .i64]), (4, [.bool]), (5, [.bool]), (6, [.list 96 [.str, .str]])], [.str, .str, .int .i64, .int .i64, .bool, .bool, .list 96 [.str, .str]]⟩),
  (94, ⟨.st [(0, [.str]), (1, [.str])], [.str, .str]⟩),
  (95, ⟨.st [(0, [.str]), (1, [.str])], [.str, .str]⟩),
  (96, ⟨.st [(0, [.str]), (1, [.str])], [.str, .str]⟩),
  (99, ⟨.sl 9 [.str] 16, [.list 9 [.str]]⟩),
  (110, ⟨.st [(0, [.str]), (1, [.list 96 [.str, .str]]), (2, [.int .i64, .list 96 [.str, .str], .str]), (5, [.int .i64]), (6, [.int .i64])], [.str, .list 96 [.str, .str], .int .i64, .list 96 [.str, .str], .str, .int .i64, .int .i64]⟩),
  (111, ⟨.st [(0, [.str]), (1, [.list 96 [.str, .str]]), (2, [.int .i64, .list 96 [.str, .str], .str]), (5, [.int .i64]), (6, [.int .i64])], [.str, .list 96 [.str, .str], .int .i64, .list 96 [.str, .str], .str, .int .i64, .int .i64]⟩),
  (112, ⟨.st [(0, [.str, .list 96 [.str, .str], .int .i64, .list 96 [.str, .str], .str, .int .i64, .int .i64]), (7, [.bool])], [.str, .list 96 [.str, .str], .int .i64, .list 96 [.str, .str], .str, .int .i64, .int .i64, .bool]⟩),
  (113, ⟨.st [(0, [.str, .list 96 [.str, .str], .int .i64, .list 96 [.str, .str], .str, .int .i64, .int .i64]), (7, [.bool])], [.str, .list 96 [.str, .str], .int .i64, .list 96 [.str, .str], .str, .int .i64, .int .i64, .bool]⟩),
  (126, ⟨.st [(0, [.str]), (1, [.str]), (2, [.int .i64]), (3, [.int .i64]), (4, [.bool]), (5, [.bool]), (6, [.list 95 [.str, .str]])], [.str, .str, .int .i64, .int .i64, .bool, .bool, .list 95 [.str, .str]]⟩),
  (127, ⟨.st [(0, [.str]), (1, [.str]), (2, [.int .i64]), (3, [.int .i64]), (4, [.bool]), (5, [.bool]), (6, [.list 95 [.str, .str]])], [.str, .str, .int .i64, .int .i64, .bool, .bool, .list 95 [.str, .str]]⟩),
  (131, ⟨.sl 5 [.int .u8] 1, [.list 5 [.int .u8]]⟩),
  (132, ⟨.sl 134 [.str, .str] 32, [.list 134 [.str, .str]]⟩),
  (134, ⟨.st [(0, [.str]), (1, [.str])], [.str, .str]⟩),
  (142, ⟨.st [(0, [.str]), (1, [.list 95 [.str, .str]]), (2, [.int .i64, .list 95 [.str, .str], .str]), (5, [.int .i64]), (6, [.int .i64])], [.str, .list 95 [.str, .str], .int .i64, .list 95 [.str, .str], .str, .int .i64, .int .i64]⟩),
  (143, ⟨.st [(0, [.str]), (1, [.list 95 [.str, .str]]), (2, [.int .i64, .list 95 [.str, .str], .str]), (5, [.int .i64]), (6, [.int .i64])], [.str, .list 95 [.str, .str], .int .i64, .list 95 [.str, .str], .str, .int .i64, .int .i64]⟩),
  (144, ⟨.st [(0, [.str, .list 95 [.str, .str], .int .i64, .list 95 [.str, .str], .str, .int .i64, .int .i64]), (7, [.bool])], [.str, .list 95 [.str, .str], .int .i64, .list 95 [.str, .str], .str, .int .i64, .int .i64, .bool]⟩),
  (145, ⟨.st [(0, [.str, .list 95 [.str, .str], .int .i64, .list 95 [.str, .str], .str, .int .i64, .int .i64]), (7, [.bool])], [.str, .list 95 [.str, .str], .int .i64, .list 95 [.str, .str], .str, .int .i64, .int .i64, .bool]⟩),
  (150, ⟨.sl 3 [.int .i64] 8, [.list 3 [.int .i64]]⟩),
  (171, ⟨.sc, [.int .i64]⟩),
  (188, ⟨.sc, [.int .u64]⟩),
  (191, ⟨.sc, [.int .u64]⟩),
  (202, ⟨.st [(0, [.str])], [.str]⟩),
  (203, ⟨.st [(0, [.str])], [.str]⟩),
  (210, ⟨.sc, [.int .u32]⟩),
  (218, ⟨.st [(0, [.int .u8]), (1, [.int .u8])], [.int .u8, .int .u8]⟩),
  (219, ⟨.st [(0, [.int .u8]), (1, [.int .u8])], [.int .u8, .int .u8]⟩),
  (231, ⟨.sc, [.int .u8]⟩),
  (232, ⟨.sc, [.int .u8]⟩),
  (234, ⟨.sc, [.int .i32]⟩),
  (235, ⟨.sc, [.int .i32]⟩)]
theorem ttOk : ttB Tryd.prog tt = true := by kernel_rfl
theorem mixOk : Tryd.prog.follows .mixedOrders = true := by kernel_rfl
def J (w : World) : Prop := (∃ m, w.cell? ⟨2, 0, none⟩ = some (.int .i64 m)) ∧ True
theorem J_below {w w' : World} (h : J w) (hb : Below w.heap.size w w') : J w' := by
  obtain ⟨⟨m, hm⟩, _⟩ := h
  have hlt : 2 < w.heap.size := cell_lt hm
  exact ⟨⟨m, (hb.cell hlt).trans hm⟩, trivial⟩
def Jn (n : Nat) (w : World) : Prop := ∃ w0 : World, w0.heap.size = n ∧ J w0 ∧ Below n w0 w
theorem Jn_J {n : Nat} {w : World} (h : Jn n w) : J w := by
  obtain ⟨w0, rfl, h1, h2⟩ := h
  exact J_below h1 h2
theorem Jn_below {n : Nat} {w w' : World} (h : Jn n w) (hb : Below n w w') : Jn n w' := by
  obtain ⟨w0, h0, h1, h2⟩ := h
  exact ⟨w0, h0, h1, h2.trans hb⟩
theorem Jn_of {w w' : World} (h : J w) (hb : Below w.heap.size w w') : Jn w.heap.size w' := ⟨w, rfl, h, hb⟩
noncomputable def E61 : Env := { tt, eqs := [], cts := [] }
theorem ok61 : EnvOk Tryd.prog E61 := ⟨ttOk, by kernel_rfl, rfl, mixOk⟩
theorem cs61 (w0 : World) (hJ : J w0) : EnvCts Tryd.prog E61 w0 w0.heap.size := by
  refine ⟨fun c hc => ?_, fun c hc => ?_⟩
  · cases hc
  · cases hc
noncomputable def ct61 : Ct := { f := 61, ps := [.v true .ro ls95, .v false .ro [.int .i64]], rs := [(false, [.int .i64])], shared := false, pre := fun (q : Fld × Int) => pSz q.1 q.2, F := fun (q : Fld × Int) => szF q.1 q.2 }
def st61 : List (SzStep Fld) := [.str (fun x : Fld => x.1), .str (fun x : Fld => x.2)]
theorem c61 (x : Fld) : szSum x st61 = cz x := by
  simp only [szSum, st61, cz_pair, cz_int, cz_bool, cz_str]
  all_goals omega
theorem w61 (x : Fld) (h : wd x) : szFine x st61 := by
  first | simp only [wd_pair] at h | skip
  simp only [szFine, st61, wd_pair, wf_wd]
  simp only [h, and_self]
theorem law61 : ∀ q : Fld × Int, pSz q.1 q.2 → szSt q.1 st61 q.2 (fun r => r = szF q.1 q.2) := fun q hq => szSt_holds q.1 st61 q.2 _ (w61 q.1 hq.1) hq.2.1 hq.2.2 (c61 q.1)
theorem all61 (w : World) (hJ : J w) : CtAt Tryd.prog ct61 w :=
  ct_by ok61 (cs61 w hJ) Tryd.func61 (by kernel_rfl) (H := (hint [])) law61 (by kernel_rfl)
noncomputable def E19 : Env := { tt, eqs := [], cts := [ct61] }
theorem ok19 : EnvOk Tryd.prog E19 := ⟨ttOk, by kernel_rfl, rfl, mixOk⟩
theorem cs19 (w0 : World) (hJ : J w0) : EnvCts Tryd.prog E19 w0 w0.heap.size := by
  refine ⟨fun c hc => ?_, fun c hc => ?_⟩
  · rcases List.mem_cons.1 hc with rfl | hc
    · exact fun w hb => all61 w (J_below hJ hb)
    cases hc
  · cases hc
noncomputable def ct19 : Ct := { f := 19, ps := [.v false .ro ls33, .v false .ro [.int .i64]], rs := [(false, [.int .i64])], shared := false, pre := fun (q : (List Fld) × Int) => pSz q.1 q.2, F := fun (q : (List Fld) × Int) => szF q.1 q.2 }
theorem law19 : ∀ q : (List Fld) × Int, pSz q.1 q.2 → szS (α := Fld) Dft.dft (fun y k => pSz y k) (fun y k => szF y k) q.1 q.2 (fun r => r = szF q.1 q.2) := fun q hq => szS_holds (α := Fld) Dft.dft cz wd q.1 q.2 hq.1.1 hq.1.2 hq.2.1 hq.2.2
theorem all19 (w : World) (hJ : J w) : CtAt Tryd.prog ct19 w :=
  ct_by ok19 (cs19 w hJ) Tryd.func19 (by kernel_rfl) (H := (hint [(5, [.val 1 (.int .i64), .val 5 (.int .i64)])])) law19 (by kernel_rfl)
noncomputable def E17 : Env := { tt, eqs := [], cts := [ct19] }
theorem ok17 : EnvOk Tryd.prog E17 := ⟨ttOk, by kernel_rfl, rfl, mixOk⟩
theorem cs17 (w0 : World) (hJ : J w0) : EnvCts Tryd.prog E17 w0 w0.heap.size := by
  refine ⟨fun c hc => ?_, fun c hc => ?_⟩
  · rcases List.mem_cons.1 hc with rfl | hc
    · exact fun w hb => all19 w (J_below hJ hb)
    cases hc
  · cases hc
noncomputable def ct17 : Ct := { f := 17, ps := [.v true .ro ls35, .v false .ro [.int .i64]], rs := [(false, [.int .i64])], shared := false, pre := fun (q : Req × Int) => pSz q.1 q.2, F := fun (q : Req × Int) => szF q.1 q.2 }
def st17 : List (SzStep Req) := [.str (fun x : Req => x.1), .str (fun x : Req => x.2.1), .call (fun x : Req => wd (x.2.2.1 : (List Fld))) (fun x : Req => cz (x.2.2.1 : (List Fld))), .str (fun x : Req => x.2.2.2)]
theorem c17 (x : Req) : szSum x st17 = cz x := by
  simp only [szSum, st17, cz_pair, cz_int, cz_bool, cz_str]
  all_goals omega
theorem w17 (x : Req) (h : wd x) : szFine x st17 := by
  first | simp only [wd_pair] at h | skip
  simp only [szFine, st17, wd_pair, wf_wd]
  simp only [h, and_self]
theorem law17 : ∀ q : Req × Int, pSz q.1 q.2 → szSt q.1 st17 q.2 (fun r => r = szF q.1 q.2) := fun q hq => szSt_holds q.1 st17 q.2 _ (w17 q.1 hq.1) hq.2.1 hq.2.2 (c17 q.1)
theorem all17 (w : World) (hJ : J w) : CtAt Tryd.prog ct17 w :=
  ct_by ok17 (cs17 w hJ) Tryd.func17 (by kernel_rfl) (H := (hint [])) law17 (by kernel_rfl)
noncomputable def E18 : Env := { tt, eqs := [], cts := [ct19] }
theorem ok18 : EnvOk Tryd.prog E18 := ⟨ttOk, by kernel_rfl, rfl, mixOk⟩
theorem cs18 (w0 : World) (hJ : J w0) : EnvCts Tryd.prog E18 w0 w0.heap.size := by
  refine ⟨fun c hc => ?_, fun c hc => ?_⟩
  · rcases List.mem_cons.1 hc with rfl | hc
    · exact fun w hb => all19 w (J_below hJ hb)
    cases hc
  · cases hc
noncomputable def ct18 : Ct := { f := 18, ps := [.v true .ro ls37, .v false .ro [.int .i64]], rs := [(false, [.int .i64])], shared := false, pre := fun (q : Rsp × Int) => pSz q.1 q.2, F := fun (q : Rsp × Int) => szF q.1 q.2 }
def st18 : List (SzStep Rsp) := [.call (fun x : Rsp => wd (x.2.1 : (List Fld))) (fun x : Rsp => cz (x.2.1 : (List Fld))), .str (fun x : Rsp => x.2.2)]
theorem c18 (x : Rsp) : szSum x st18 = cz x := by
  simp only [szSum, st18, cz_pair, cz_int, cz_bool, cz_str]
  all_goals omega
theorem w18 (x : Rsp) (h : wd x) : szFine x st18 := by
  first | simp only [wd_pair] at h | skip
  simp only [szFine, st18, wd_pair, wf_wd]
  simp only [h, and_self]
theorem law18 : ∀ q : Rsp × Int, pSz q.1 q.2 → szSt q.1 st18 q.2 (fun r => r = szF q.1 q.2) := fun q hq => szSt_holds q.1 st18 q.2 _ (w18 q.1 hq.1) hq.2.1 hq.2.2 (c18 q.1)
theorem all18 (w : World) (hJ : J w) : CtAt Tryd.prog ct18 w :=
  ct_by ok18 (cs18 w hJ) Tryd.func18 (by kernel_rfl) (H := (hint [])) law18 (by kernel_rfl)
noncomputable def E63 : Env := { tt, eqs := [], cts := [] }
theorem ok63 : EnvOk Tryd.prog E63 := ⟨ttOk, by kernel_rfl, rfl, mixOk⟩
theorem cs63 (w0 : World) (hJ : J w0) : EnvCts Tryd.prog E63 w0 w0.heap.size := by
  refine ⟨fun c hc => ?_, fun c hc => ?_⟩
  · cases hc
  · cases hc
noncomputable def ct63 : Ct := { f := 63, ps := [.v true .ro ls95], rs := [(true, ls96)], shared := false, pre := fun (x : Fld) => pTo x, F := fun (x : Fld) => toF x }
theorem law63 : ∀ q : Fld, pTo q → conj [] (q = toF q) := fun q hq => rfl
theorem all63 (w : World) (hJ : J w) : CtAt Tryd.prog ct63 w :=
  ct_by ok63 (cs63 w hJ) Tryd.func63 (by kernel_rfl) (H := (hint [])) law63 (by kernel_rfl)
noncomputable def E23 : Env := { tt, eqs := [], cts := [ct63] }
theorem ok23 : EnvOk Tryd.prog E23 := ⟨ttOk, by kernel_rfl, rfl, mixOk⟩
theorem cs23 (w0 : World) (hJ : J w0) : EnvCts Tryd.prog E23 w0 w0.heap.size := by
  refine ⟨fun c hc => ?_, fun c hc => ?_⟩
  · rcases List.mem_cons.1 hc with rfl | hc
    · exact fun w hb => all63 w (J_below hJ hb)
    cases hc
  · cases hc
noncomputable def ct23 : Ct := { f := 23, ps := [.v false .ro ls33], rs := [(false, ls42)], shared := false, pre := fun (x : (List Fld)) => pTo x, F := fun (x : (List Fld)) => toF x }
theorem law23 : ∀ q : (List Fld), pTo q → toS (α := Fld) Dft.dft 32 (fun y => pTo y) q (fun r => r = toF q) := fun q hq => toS_holds (α := Fld) Dft.dft 32 (fun y => pTo y) q (md_len' hq) (by omega) (fun i a h => md_mem hq (List.mem_of_getElem? h)) rfl
theorem all23 (w : World) (hJ : J w) : CtAt Tryd.prog ct23 w :=
  ct_by ok23 (cs23 w hJ) Tryd.func23 (by kernel_rfl) (H := (hint [(3, [.reg 3 96 ls96 true, .val 4 (.int .i64)])])) law23 (by kernel_rfl)
noncomputable def E21 : Env := { tt, eqs := [], cts := [ct23] }
theorem ok21 : EnvOk Tryd.prog E21 := ⟨ttOk, by kernel_rfl, rfl, mixOk⟩
theorem cs21 (w0 : World) (hJ : J w0) : EnvCts Tryd.prog E21 w0 w0.heap.size := by
  refine ⟨fun c hc => ?_, fun c hc => ?_⟩
  · rcases List.mem_cons.1 hc with rfl | hc
    · exact fun w hb => all23 w (J_below hJ hb)
    cases hc
  · cases hc
noncomputable def ct21 : Ct := { f := 21, ps := [.v true .ro ls35], rs := [(true, ls44)], shared := false, pre := fun (x : Req) => pTo x, F := fun (x : Req) => toF x }
theorem law21 : ∀ q : Req, pTo q → conj [pTo (q.2.2.1 : (List Fld))] (q = toF q) := fun q hq => ⟨(czh (czt (czt hq))), rfl⟩
theorem all21 (w : World) (hJ : J w) : CtAt Tryd.prog ct21 w :=
  ct_by ok21 (cs21 w hJ) Tryd.func21 (by kernel_rfl) (H := (hint [])) law21 (by kernel_rfl)
noncomputable def E22 : Env := { tt, eqs := [], cts := [ct23] }
theorem ok22 : EnvOk Tryd.prog E22 := ⟨ttOk, by kernel_rfl, rfl, mixOk⟩
theorem cs22 (w0 : World) (hJ : J w0) : EnvCts Tryd.prog E22 w0 w0.heap.size := by
  refine ⟨fun c hc => ?_, fun c hc => ?_⟩
  · rcases List.mem_cons.1 hc with rfl | hc
    · exact fun w hb => all23 w (J_below hJ hb)
    cases hc
  · cases hc
noncomputable def ct22 : Ct := { f := 22, ps := [.v true .ro ls37], rs := [(true, ls47)], shared := false, pre := fun (x : Rsp) => pTo x, F := fun (x : Rsp) => toF x }
theorem law22 : ∀ q : Rsp, pTo q → conj [pTo (q.2.1 : (List Fld))] (q = toF q) := fun q hq => ⟨(czh (czt hq)), rfl⟩
theorem all22 (w : World) (hJ : J w) : CtAt Tryd.prog ct22 w :=
  ct_by ok22 (cs22 w hJ) Tryd.func22 (by kernel_rfl) (H := (hint [])) law22 (by kernel_rfl)
noncomputable def E67 : Env := { tt, eqs := [], cts := [] }
theorem ok67 : EnvOk Tryd.prog E67 := ⟨ttOk, by kernel_rfl, rfl, mixOk⟩
theorem cs67 (w0 : World) (hJ : J w0) : EnvCts Tryd.prog E67 w0 w0.heap.size := by
  refine ⟨fun c hc => ?_, fun c hc => ?_⟩
  · cases hc
  · cases hc
noncomputable def ct67 : Ct := { f := 67, ps := [.v false .ro ls42, .v false .ro ls9], rs := [(false, ls9), (false, ls4)], shared := false, pre := fun (x : (List Fld) × S) => pFieldGet x.1 x.2, F := fun (x : (List Fld) × S) => mFieldGet x.1 x.2 }
theorem law67 : ∀ x : (List Fld) × S, pFieldGet x.1 x.2 → s_spec_FieldGet x.1 x.2 (fun r => r = mFieldGet x.1 x.2) := fun x h => spec_FieldGet_ok x.1 x.2 h
theorem all67 (w : World) (hJ : J w) : CtAt Tryd.prog ct67 w :=
  ct_by ok67 (cs67 w hJ) Tryd.func67 (by kernel_rfl) (H := (hint [(4, [.val 6 (.str), .val 7 (.bool), .val 8 (.int .i64)])])) law67 (by kernel_rfl)
noncomputable def E147 : Env := { tt, eqs := [], cts := [] }
theorem ok147 : EnvOk Tryd.prog E147 := ⟨ttOk, by kernel_rfl, rfl, mixOk⟩
theorem cs147 (w0 : World) (hJ : J w0) : EnvCts Tryd.prog E147 w0 w0.heap.size := by
  refine ⟨fun c hc => ?_, fun c hc => ?_⟩
  · cases hc
  · cases hc
noncomputable def ct147 : Ct := { f := 147, ps := [.v false .ro ls5], rs := [(false, ls4)], shared := false, pre := fun (x : Int) => pBlank x, F := fun (x : Int) => mBlank x }
theorem law147 : ∀ x : Int, pBlank x → s_spec_l2Blank x (fun r => r = mBlank x) := fun x _ => spec_l2Blank_ok x
theorem all147 (w : World) (hJ : J w) : CtAt Tryd.prog ct147 w :=
  ct_by ok147 (cs147 w hJ) Tryd.func147 (by kernel_rfl) (H := (hint [])) law147 (by kernel_rfl)
noncomputable def E123 : Env := { tt, eqs := [], cts := [ct147] }
theorem ok123 : EnvOk Tryd.prog E123 := ⟨ttOk, by kernel_rfl, rfl, mixOk⟩
theorem cs123 (w0 : World) (hJ : J w0) : EnvCts Tryd.prog E123 w0 w0.heap.size := by
  refine ⟨fun c hc => ?_, fun c hc => ?_⟩
  · rcases List.mem_cons.1 hc with rfl | hc
    · exact fun w hb => all147 w (J_below hJ hb)
    cases hc
  · cases hc
noncomputable def ct123 : Ct := { f := 123, ps := [.v false .ro ls9], rs := [(false, ls9)], shared := false, pre := fun (x : S) => pTrim x, F := fun (x : S) => mTrim x }
theorem law123 : ∀ x : S, pTrim x → s_spec_Trim x (fun r => r = mTrim x) := fun x h => spec_Trim_ok x h
theorem all123 (w : World) (hJ : J w) : CtAt Tryd.prog ct123 w :=
  ct_by ok123 (cs123 w hJ) Tryd.func123 (by kernel_rfl) (H := (hint [(1, [.val 0 (.str)]), (3, [.val 0 (.str)])])) law123 (by kernel_rfl)
noncomputable def E92 : Env := { tt, eqs := [], cts := [ct123] }
theorem ok92 : EnvOk Tryd.prog E92 := ⟨ttOk, by kernel_rfl, rfl, mixOk⟩
theorem cs92 (w0 : World) (hJ : J w0) : EnvCts Tryd.prog E92 w0 w0.heap.size := by
  refine ⟨fun c hc => ?_, fun c hc => ?_⟩
  · rcases List.mem_cons.1 hc with rfl | hc
    · exact fun w hb => all123 w (J_below hJ hb)
    cases hc
  · cases hc
noncomputable def ct92 : Ct := { f := 92, ps := [.v false .ro ls9], rs := [(false, ls99)], shared := false, pre := fun (x : S) => pSplitList x, F := fun (x : S) => mSplitList x }
theorem law92 : ∀ x : S, pSplitList x → s_spec_SplitList x (fun r => r = mSplitList x) := fun x h => spec_SplitList_ok x h
theorem all92 (w : World) (hJ : J w) : CtAt Tryd.prog ct92 w :=
  ct_by ok92 (cs92 w hJ) Tryd.func92 (by kernel_rfl) (H := (hint [(5, [.reg 3 9 [.str] true, .val 4 (.int .i64), .val 5 (.bool), .val 6 (.int .i64)])])) law92 (by kernel_rfl)
noncomputable def E109 : Env := { tt, eqs := [], cts := [] }
theorem ok109 : EnvOk Tryd.prog E109 := ⟨ttOk, by kernel_rfl, rfl, mixOk⟩
theorem cs109 (w0 : World) (hJ : J w0) : EnvCts Tryd.prog E109 w0 w0.heap.size := by
  refine ⟨fun c hc => ?_, fun c hc => ?_⟩
  · cases hc
  · cases hc
noncomputable def ct109 : Ct := { f := 109, ps := [.v false .ro ls9], rs := [(false, ls9)], shared := false, pre := fun (x : S) => pLower x, F := fun (x : S) => mLower x }
theorem law109 : ∀ x : S, pLower x → s_spec_Lower x (fun r => r = mLower x) := fun x h => spec_Lower_ok x h
theorem all109 (w : World) (hJ : J w) : CtAt Tryd.prog ct109 w :=
  ct_by ok109 (cs109 w hJ) Tryd.func109 (by kernel_rfl) (H := (hint [(3, [.val 4 (.int .i64), .reg 3 5 [.int .u8] false])])) law109 (by kernel_rfl)
noncomputable def E66 : Env := { tt, eqs := [], cts := [ct67, ct92, ct109] }
theorem ok66 : EnvOk Tryd.prog E66 := ⟨ttOk, by kernel_rfl, rfl, mixOk⟩
theorem cs66 (w0 : World) (hJ : J w0) : EnvCts Tryd.prog E66 w0 w0.heap.size := by
  refine ⟨fun c hc => ?_, fun c hc => ?_⟩
  · rcases List.mem_cons.1 hc with rfl | hc
    · exact fun w hb => all67 w (J_below hJ hb)
    rcases List.mem_cons.1 hc with rfl | hc
    · exact fun w hb => all92 w (J_below hJ hb)
    rcases List.mem_cons.1 hc with rfl | hc
    · exact fun w hb => all109 w (J_below hJ hb)
    cases hc
  · cases hc
noncomputable def ct66 : Ct := { f := 66, ps := [.v true .ro ls47], rs := [(false, ls99)], shared := false, pre := fun (x : Rsp) => pVaryNames x, F := fun (x : Rsp) => mVaryNames x }
theorem law66 : ∀ x : Rsp, pVaryNames x → s_spec_VaryNames x (fun r => r = mVaryNames x) := fun x h => spec_VaryNames_ok x h
theorem all66 (w : World) (hJ : J w) : CtAt Tryd.prog ct66 w :=
  ct_by ok66 (cs66 w hJ) Tryd.func66 (by kernel_rfl) (H := (hint [(5, [.reg 3 9 [.str] true, .val 7 (.int .i64)]), (10, [.val 9 (.bool), .val 10 (.int .i64)])])) law66 (by kernel_rfl)
noncomputable def E68 : Env := { tt, eqs := [], cts := [ct92] }
theorem ok68 : EnvOk Tryd.prog E68 := ⟨ttOk, by kernel_rfl, rfl, mixOk⟩
theorem cs68 (w0 : World) (hJ : J w0) : EnvCts Tryd.prog E68 w0 w0.heap.size := by
  refine ⟨fun c hc => ?_, fun c hc => ?_⟩
  · rcases List.mem_cons.1 hc with rfl | hc
    · exact fun w hb => all92 w (J_below hJ hb)
    cases hc
  · cases hc
noncomputable def ct68 : Ct := { f := 68, ps := [.v false .ro ls9], rs := [(false, ls9)], shared := false, pre := fun (x : S) => pNormal x, F := fun (x : S) => mNormal x }
theorem law68 : ∀ x : S, pNormal x → s_spec_Normal x (fun r => r = mNormal x) := fun x h => spec_Normal_ok x h
theorem all68 (w : World) (hJ : J w) : CtAt Tryd.prog ct68 w :=
  ct_by ok68 (cs68 w hJ) Tryd.func68 (by kernel_rfl) (H := (hint [(4, [.val 4 (.str), .val 5 (.int .i64)])])) law68 (by kernel_rfl)
noncomputable def E28 : Env := { tt, eqs := [], cts := [ct66, ct67, ct68] }
theorem ok28 : EnvOk Tryd.prog E28 := ⟨ttOk, by kernel_rfl, rfl, mixOk⟩
theorem cs28 (w0 : World) (hJ : J w0) : EnvCts Tryd.prog E28 w0 w0.heap.size := by
  refine ⟨fun c hc => ?_, fun c hc => ?_⟩
  · rcases List.mem_cons.1 hc with rfl | hc
    · exact fun w hb => all66 w (J_below hJ hb)
    rcases List.mem_cons.1 hc with rfl | hc
    · exact fun w hb => all67 w (J_below hJ hb)
    rcases List.mem_cons.1 hc with rfl | hc
    · exact fun w hb => all68 w (J_below hJ hb)
    cases hc
  · cases hc
noncomputable def ct28 : Ct := { f := 28, ps := [.v true .ro ls44, .v true .ro ls47], rs := [(false, ls42)], shared := false, pre := fun (x : Req × Rsp) => pPicked x.1 x.2, F := fun (x : Req × Rsp) => mPicked x.1 x.2 }
theorem law28 : ∀ x : Req × Rsp, pPicked x.1 x.2 → s_spec_Picked x.1 x.2 (fun r => r = mPicked x.1 x.2) := fun x h => spec_Picked_ok x.1 x.2 h
theorem all28 (w : World) (hJ : J w) : CtAt Tryd.prog ct28 w :=
  ct_by ok28 (cs28 w hJ) Tryd.func28 (by kernel_rfl) (H := (hint [(4, [.reg 5 96 [.str, .str] true, .val 7 (.int .i64)])])) law28 (by kernel_rfl)
noncomputable def ct111 : Ct := joinCt 9 111
theorem all111 (w : World) (hJ : J w) : CtAt Tryd.prog ct111 w := join_ct ⟨_, Tryd.func111, by kernel_rfl, by kernel_rfl⟩ (fun a c sep => Tryd.strings_Join_none a c sep w) (fun bk o c xs sep h1 h2 h3 h4 h5 => Tryd.strings_Join bk o c xs sep w h1 h2 h3 h4 h5)
noncomputable def E70 : Env := { tt, eqs := [], cts := [ct111] }
theorem ok70 : EnvOk Tryd.prog E70 := ⟨ttOk, by kernel_rfl, rfl, mixOk⟩
theorem cs70 (w0 : World) (hJ : J w0) : EnvCts Tryd.prog E70 w0 w0.heap.size := by
  refine ⟨fun c hc => ?_, fun c hc => ?_⟩
  · rcases List.mem_cons.1 hc with rfl | hc
    · exact fun w hb => all111 w (J_below hJ hb)
    cases hc
  · cases hc
noncomputable def ct70 : Ct := { f := 70, ps := [.v false .ro ls42, .v false .ro ls9], rs := [(false, ls9), (false, ls4)], shared := false, pre := fun (x : (List Fld) × S) => pFieldGet x.1 x.2, F := fun (x : (List Fld) × S) => mFieldGet x.1 x.2 }
theorem law70 : ∀ x : (List Fld) × S, pFieldGet x.1 x.2 → s_impl_FieldGet x.1 x.2 (fun r => r = mFieldGet x.1 x.2) := fun x h => impl_FieldGet_ok x.1 x.2 h
theorem all70 (w : World) (hJ : J w) : CtAt Tryd.prog ct70 w :=
  ct_by ok70 (cs70 w hJ) Tryd.func70 (by kernel_rfl) (H := (hint [(3, [.reg 6 9 [.str] true, .val 12 (.int .i64)])])) law70 (by kernel_rfl)
noncomputable def E127 : Env := { tt, eqs := [], cts := [] }
theorem ok127 : EnvOk Tryd.prog E127 := ⟨ttOk, by kernel_rfl, rfl, mixOk⟩
theorem cs127 (w0 : World) (hJ : J w0) : EnvCts Tryd.prog E127 w0 w0.heap.size := by
  refine ⟨fun c hc => ?_, fun c hc => ?_⟩
  · cases hc
  · cases hc
noncomputable def ct127 : Ct := { f := 127, ps := [.v false .ro ls9], rs := [(false, ls150)], shared := false, pre := fun (x : S) => pCommas x, F := fun (x : S) => mCommas x }
theorem law127 : ∀ x : S, pCommas x → s_impl_commas x (fun r => r = mCommas x) := fun x h => impl_commas_ok x h
theorem all127 (w : World) (hJ : J w) : CtAt Tryd.prog ct127 w :=
  ct_by ok127 (cs127 w hJ) Tryd.func127 (by kernel_rfl) (H := (hint [(4, [.reg 3 3 [.int .i64] true, .val 4 (.bool), .val 5 (.int .i64)])])) law127 (by kernel_rfl)
noncomputable def ct148 : Ct := trimLCt 148
theorem all148 (w : World) (hJ : J w) : CtAt Tryd.prog ct148 w := trimL_ct ⟨_, Tryd.func148, by kernel_rfl, by kernel_rfl⟩ (fun s cs h1 h2 h3 => Go.Proofs.Any.strings_Trim_laid Tryd.lays160 (by kernel_rfl) s cs w h1 h2 h3)
noncomputable def E128 : Env := { tt, eqs := [], cts := [ct148] }
theorem ok128 : EnvOk Tryd.prog E128 := ⟨ttOk, by kernel_rfl, rfl, mixOk⟩
theorem cs128 (w0 : World) (hJ : J w0) : EnvCts Tryd.prog E128 w0 w0.heap.size := by
  refine ⟨fun c hc => ?_, fun c hc => ?_⟩
  · rcases List.mem_cons.1 hc with rfl | hc
    · exact fun w hb => all148 w (J_below hJ hb)
    cases hc
  · cases hc
noncomputable def ct128 : Ct := { f := 128, ps := [.v false .ro ls9], rs := [(false, ls9)], shared := false, pre := fun (x : S) => pTrim x, F := fun (x : S) => mTrim x }
theorem law128 : ∀ x : S, pTrim x → s_impl_Trim x (fun r => r = mTrim x) := fun x h => impl_Trim_ok x h
theorem all128 (w : World) (hJ : J w) : CtAt Tryd.prog ct128 w :=
  ct_by ok128 (cs128 w hJ) Tryd.func128 (by kernel_rfl) (H := (hint [])) law128 (by kernel_rfl)
noncomputable def E97 : Env := { tt, eqs := [], cts := [ct127, ct128] }
theorem ok97 : EnvOk Tryd.prog E97 := ⟨ttOk, by kernel_rfl, rfl, mixOk⟩
theorem cs97 (w0 : World) (hJ : J w0) : EnvCts Tryd.prog E97 w0 w0.heap.size := by
  refine ⟨fun c hc => ?_, fun c hc => ?_⟩
  · rcases List.mem_cons.1 hc with rfl | hc
    · exact fun w hb => all127 w (J_below hJ hb)
    rcases List.mem_cons.1 hc with rfl | hc
    · exact fun w hb => all128 w (J_below hJ hb)
    cases hc
  · cases hc
noncomputable def ct97 : Ct := { f := 97, ps := [.v false .ro ls9], rs := [(false, ls99)], shared := false, pre := fun (x : S) => pSplitList x, F := fun (x : S) => mSplitList x }
theorem law97 : ∀ x : S, pSplitList x → s_impl_SplitList x (fun r => r = mSplitList x) := fun x h => impl_SplitList_ok x h
theorem all97 (w : World) (hJ : J w) : CtAt Tryd.prog ct97 w :=
  ct_by ok97 (cs97 w hJ) Tryd.func97 (by kernel_rfl) (H := (hint [(4, [.reg 3 9 [.str] true, .val 4 (.int .i64), .val 16 (.int .i64)])])) law97 (by kernel_rfl)
set_option maxRecDepth 100000 in
theorem lower_calls110 (s : ByteArray) (hs : s.size ≤ 1073741824) (w : World) : Calls Tryd.prog 110 #[.string s] w fun e w' => e = .returned (.string (mLower s)) ∧ Below w.heap.size w w' := by
  obtain ⟨W1, cap, hconv, hW1⟩ := low_new Tryd.prog 9 131 5 w s Tryd.underlying9 Tryd.underlying131 Tryd.underlying5
  go_enter Tryd.func110, Tryd.ntmps110
  go_wp2
  go_loopg [10] s.size (fun gg v10 wr => ∃ i : Nat, i + gg = s.size ∧ v10 = .int .i64 (i : Int) ∧ Hid (LowW w.heap.size s i w wr))
  case atStart => exact ⟨0, by omega, rfl, hW1⟩
  case round =>
    obtain ⟨i, hi, rfl, hW⟩ := hrel
    have hH := hW.out
    by_cases hlt : i < s.size
    · have hcz := hH.2 i hlt
      rw [if_neg (Nat.lt_irrefl i)] at hcz
      have hlb := low_byte (bs s)[i]!
      have hx : ((bs s)[i]!).toNat < 256 := UInt8.toNat_lt _
      generalize hxe : ((bs s)[i]!).toNat = x at *
      obtain ⟨hc, hz⟩ := hcz
      have d1 : ((i : Int) < (s.size : Int)) := by omega
      have d0 : (0 : Int) ≤ (i : Int) := by omega
      have HC := (show Hid (i < s.size ∧ LowW w.heap.size s i w wr ∧ ((bs s)[i]!).toNat = x) from ⟨hlt, hH, hxe⟩)
      have HL := (show Hid _ from hlb)
      clear hH hlb hW hxe hlt
      by_cases c1 : 65 ≤ x
      · by_cases c2 : x ≤ 90
        · have k1 : decide (65 ≤ (x : Int)) = true := decide_eq_true (by omega)
          have k2 : decide ((x : Int) ≤ 90) = true := decide_eq_true (by omega)
          go_wp2
          go_roundg (gk - 1)
          case measure => have := HC.out.1; omega
          case rel =>
            obtain ⟨hlt, hH, hxe⟩ := HC.out
            refine ⟨i + 1, by omega, by simp, hH.next hlt ?_⟩
            rw [← HL.out.1 ⟨c1, c2⟩, IntKind.wrap_u8, IntKind.wrap_u8]; omega
        · have k1 : decide (65 ≤ (x : Int)) = true := decide_eq_true (by omega)
          have k2 : decide ((x : Int) ≤ 90) = false := decide_eq_false (by omega)
          go_wp2
          go_roundg (gk - 1)
          case measure => have := HC.out.1; omega
          case rel =>
            obtain ⟨hlt, hH, hxe⟩ := HC.out
            exact ⟨i + 1, by omega, by simp, hH.skip hlt (HL.out.2 (fun h => c2 h.2))⟩
      · have k1 : decide (65 ≤ (x : Int)) = false := decide_eq_false (by omega)
        go_wp2
        go_roundg (gk - 1)
        case measure => have := HC.out.1; omega
        case rel =>
          obtain ⟨hlt, hH, hxe⟩ := HC.out
          exact ⟨i + 1, by omega, by simp, hH.skip hlt (HL.out.2 (fun h => c1 h.1))⟩
    · have hie : i = s.size := by omega
      subst hie
      have hb := low_end Tryd.prog 131 9 5 w.heap.size cap w wr s Tryd.underlying131 Tryd.underlying5 Tryd.underlying9 hH
      have HC := (show Hid (Below w.heap.size w wr) from hH.1)
      clear hH hW hlt
      go_wp2
      go_ret
      exact ⟨rfl, HC.out⟩
noncomputable def ct110 : Ct := lowerCt 110
theorem all110 (w : World) (hJ : J w) : CtAt Tryd.prog ct110 w := lower_ct ⟨_, Tryd.func110, by kernel_rfl, by kernel_rfl⟩ (fun s h => lower_calls110 s h w)
noncomputable def E126 : Env := { tt, eqs := [], cts := [] }
theorem ok126 : EnvOk Tryd.prog E126 := ⟨ttOk, by kernel_rfl, rfl, mixOk⟩
theorem cs126 (w0 : World) (hJ : J w0) : EnvCts Tryd.prog E126 w0 w0.heap.size := by
  refine ⟨fun c hc => ?_, fun c hc => ?_⟩
  · cases hc
  · cases hc
noncomputable def ct126 : Ct := { f := 126, ps := [.v false .ro ls99, .v false .ro ls9], rs := [(false, ls3)], shared := false, pre := fun (x : (List S) × S) => pIndex_string x.1 x.2, F := fun (x : (List S) × S) => mIndex_string x.1 x.2 }
theorem law126 : ∀ x : (List S) × S, pIndex_string x.1 x.2 → s_slices_Index_string x.1 x.2 (fun r => r = mIndex_string x.1 x.2) := fun x h => slices_Index_string_ok x.1 x.2 h
theorem all126 (w : World) (hJ : J w) : CtAt Tryd.prog ct126 w :=
  ct_by ok126 (cs126 w hJ) Tryd.func126 (by kernel_rfl) (H := (hint [(2, [.val 8 (.int .i64)])])) law126 (by kernel_rfl)
noncomputable def E96 : Env := { tt, eqs := [], cts := [ct126] }
theorem ok96 : EnvOk Tryd.prog E96 := ⟨ttOk, by kernel_rfl, rfl, mixOk⟩
theorem cs96 (w0 : World) (hJ : J w0) : EnvCts Tryd.prog E96 w0 w0.heap.size := by
  refine ⟨fun c hc => ?_, fun c hc => ?_⟩
  · rcases List.mem_cons.1 hc with rfl | hc
    · exact fun w hb => all126 w (J_below hJ hb)
    cases hc
  · cases hc
noncomputable def ct96 : Ct := { f := 96, ps := [.v false .ro ls99, .v false .ro ls9], rs := [(false, ls4)], shared := false, pre := fun (x : (List S) × S) => pContains_string x.1 x.2, F := fun (x : (List S) × S) => mContains_string x.1 x.2 }
theorem law96 : ∀ x : (List S) × S, pContains_string x.1 x.2 → s_slices_Contains_string x.1 x.2 (fun r => r = mContains_string x.1 x.2) := fun x h => slices_Contains_string_ok x.1 x.2 h
theorem all96 (w : World) (hJ : J w) : CtAt Tryd.prog ct96 w :=
  ct_by ok96 (cs96 w hJ) Tryd.func96 (by kernel_rfl) (H := (hint [])) law96 (by kernel_rfl)
noncomputable def E69 : Env := { tt, eqs := [], cts := [ct70, ct97, ct110, ct96] }
theorem ok69 : EnvOk Tryd.prog E69 := ⟨ttOk, by kernel_rfl, rfl, mixOk⟩
theorem cs69 (w0 : World) (hJ : J w0) : EnvCts Tryd.prog E69 w0 w0.heap.size := by
  refine ⟨fun c hc => ?_, fun c hc => ?_⟩
  · rcases List.mem_cons.1 hc with rfl | hc
    · exact fun w hb => all70 w (J_below hJ hb)
    rcases List.mem_cons.1 hc with rfl | hc
    · exact fun w hb => all97 w (J_below hJ hb)
    rcases List.mem_cons.1 hc with rfl | hc
    · exact fun w hb => all110 w (J_below hJ hb)
    rcases List.mem_cons.1 hc with rfl | hc
    · exact fun w hb => all96 w (J_below hJ hb)
    cases hc
  · cases hc
noncomputable def ct69 : Ct := { f := 69, ps := [.v true .ro ls47], rs := [(false, ls99)], shared := false, pre := fun (x : Rsp) => pVaryNames x, F := fun (x : Rsp) => mVaryNames x }
theorem law69 : ∀ x : Rsp, pVaryNames x → s_impl_VaryNames x (fun r => r = mVaryNames x) := fun x h => impl_VaryNames_ok x h
theorem all69 (w : World) (hJ : J w) : CtAt Tryd.prog ct69 w :=
  ct_by ok69 (cs69 w hJ) Tryd.func69 (by kernel_rfl) (H := (hint [(4, [.reg 5 9 [.str] true, .val 19 (.int .i64)])])) law69 (by kernel_rfl)
noncomputable def E71 : Env := { tt, eqs := [], cts := [ct97, ct111] }
theorem ok71 : EnvOk Tryd.prog E71 := ⟨ttOk, by kernel_rfl, rfl, mixOk⟩
theorem cs71 (w0 : World) (hJ : J w0) : EnvCts Tryd.prog E71 w0 w0.heap.size := by
  refine ⟨fun c hc => ?_, fun c hc => ?_⟩
  · rcases List.mem_cons.1 hc with rfl | hc
    · exact fun w hb => all97 w (J_below hJ hb)
    rcases List.mem_cons.1 hc with rfl | hc
    · exact fun w hb => all111 w (J_below hJ hb)
    cases hc
  · cases hc
noncomputable def ct71 : Ct := { f := 71, ps := [.v false .ro ls9], rs := [(false, ls9)], shared := false, pre := fun (x : S) => pNormal x, F := fun (x : S) => mNormal x }
theorem law71 : ∀ x : S, pNormal x → s_impl_Normal x (fun r => r = mNormal x) := fun x h => impl_Normal_ok x h
theorem all71 (w : World) (hJ : J w) : CtAt Tryd.prog ct71 w :=
  ct_by ok71 (cs71 w hJ) Tryd.func71 (by kernel_rfl) (H := (hint [])) law71 (by kernel_rfl)
noncomputable def E29 : Env := { tt, eqs := [], cts := [ct69, ct70, ct71] }
theorem ok29 : EnvOk Tryd.prog E29 := ⟨ttOk, by kernel_rfl, rfl, mixOk⟩
theorem cs29 (w0 : World) (hJ : J w0) : EnvCts Tryd.prog E29 w0 w0.heap.size := by
  refine ⟨fun c hc => ?_, fun c hc => ?_⟩
  · rcases List.mem_cons.1 hc with rfl | hc
    · exact fun w hb => all69 w (J_below hJ hb)
    rcases List.mem_cons.1 hc with rfl | hc
    · exact fun w hb => all70 w (J_below hJ hb)
    rcases List.mem_cons.1 hc with rfl | hc
    · exact fun w hb => all71 w (J_below hJ hb)
    cases hc
  · cases hc
noncomputable def ct29 : Ct := { f := 29, ps := [.v true .ro ls44, .v true .ro ls47], rs := [(false, ls42)], shared := false, pre := fun (x : Req × Rsp) => pPicked x.1 x.2, F := fun (x : Req × Rsp) => mPicked x.1 x.2 }
theorem law29 : ∀ x : Req × Rsp, pPicked x.1 x.2 → s_impl_Picked x.1 x.2 (fun r => r = mPicked x.1 x.2) := fun x h => impl_Picked_ok x.1 x.2 h
theorem all29 (w : World) (hJ : J w) : CtAt Tryd.prog ct29 w :=
  ct_by ok29 (cs29 w hJ) Tryd.func29 (by kernel_rfl) (H := (hint [(3, [.reg 5 96 [.str, .str] true, .val 14 (.int .i64)])])) law29 (by kernel_rfl)
noncomputable def E65 : Env := { tt, eqs := [], cts := [] }
theorem ok65 : EnvOk Tryd.prog E65 := ⟨ttOk, by kernel_rfl, rfl, mixOk⟩
theorem cs65 (w0 : World) (hJ : J w0) : EnvCts Tryd.prog E65 w0 w0.heap.size := by
  refine ⟨fun c hc => ?_, fun c hc => ?_⟩
  · cases hc
  · cases hc
noncomputable def ct65 : Ct := { f := 65, ps := [.v true .ro ls96, .v true .ro ls96], rs := [(false, [.bool])], shared := false, pre := fun (q : Fld × Fld) => pEq q.1 q.2, F := fun (q : Fld × Fld) => eqF q.1 q.2 }
def st65 : List (EqStep Fld) := [.ne (fun (x y : Fld) => x.1 ≠ y.1), .ne (fun (x y : Fld) => x.2 ≠ y.2)]
def mk65 (a0 : S) (a1 : S) : Fld := (a0, a1)
theorem a65 (x y : Fld) : eqAll x y st65 ↔ x = y := by
  constructor
  · rintro ⟨h0, h1, -⟩
    have h0 : x.1 = y.1 := Classical.byContradiction h0
    have h1 : x.2 = y.2 := Classical.byContradiction h1
    show mk65 (x.1) (x.2) = mk65 (y.1) (y.2)
    rw [h0, h1]
    all_goals rfl
  · rintro rfl
    exact ⟨fun h => h rfl, fun h => h rfl, trivial⟩
theorem w65 (x y : Fld) (h : wd x) : eqFine x y st65 := by
  first | simp only [wd_pair] at h | skip
  simp only [eqFine, st65, wd_pair]
  all_goals simp only [h, and_self]
theorem law65 : ∀ q : Fld × Fld, pEq q.1 q.2 → eqSt q.1 q.2 st65 (fun r => r = eqF q.1 q.2) := fun q hq => eqSt_holds q.1 q.2 st65 (w65 q.1 q.2 hq) (eqF_iff.trans (a65 q.1 q.2).symm)
theorem all65 (w : World) (hJ : J w) : CtAt Tryd.prog ct65 w :=
  ct_by ok65 (cs65 w hJ) Tryd.func65 (by kernel_rfl) (H := (hint [])) law65 (by kernel_rfl)
noncomputable def E27 : Env := { tt, eqs := [], cts := [ct65] }
theorem ok27 : EnvOk Tryd.prog E27 := ⟨ttOk, by kernel_rfl, rfl, mixOk⟩
theorem cs27 (w0 : World) (hJ : J w0) : EnvCts Tryd.prog E27 w0 w0.heap.size := by
  refine ⟨fun c hc => ?_, fun c hc => ?_⟩
  · rcases List.mem_cons.1 hc with rfl | hc
    · exact fun w hb => all65 w (J_below hJ hb)
    cases hc
  · cases hc
noncomputable def ct27 : Ct := { f := 27, ps := [.v false .ro ls42, .v false .ro ls42], rs := [(false, [.bool])], shared := false, pre := fun (q : (List Fld) × (List Fld)) => pEq q.1 q.2, F := fun (q : (List Fld) × (List Fld)) => eqF q.1 q.2 }
theorem law27 : ∀ q : (List Fld) × (List Fld), pEq q.1 q.2 → eqS (α := Fld) Dft.dft (fun a b => pEq a b) (fun a b => eqF a b) q.1 q.2 (fun r => r = eqF q.1 q.2) := fun q hq => eqS_holds (α := Fld) Dft.dft (fun a b => pEq a b) (fun a b => eqF a b) q.1 q.2 hq.1 (fun i a _ h => hq.2 i a h) (fun _ _ => eqF_iff) eqF_iff
theorem all27 (w : World) (hJ : J w) : CtAt Tryd.prog ct27 w :=
  ct_by ok27 (cs27 w hJ) Tryd.func27 (by kernel_rfl) (H := (hint [(4, [.val 5 (.int .i64)])])) law27 (by kernel_rfl)
noncomputable def E25 : Env := { tt, eqs := [], cts := [ct27] }
theorem ok25 : EnvOk Tryd.prog E25 := ⟨ttOk, by kernel_rfl, rfl, mixOk⟩
theorem cs25 (w0 : World) (hJ : J w0) : EnvCts Tryd.prog E25 w0 w0.heap.size := by
  refine ⟨fun c hc => ?_, fun c hc => ?_⟩
  · rcases List.mem_cons.1 hc with rfl | hc
    · exact fun w hb => all27 w (J_below hJ hb)
    cases hc
  · cases hc
noncomputable def ct25 : Ct := { f := 25, ps := [.v true .ro ls44, .v true .ro ls44], rs := [(false, [.bool])], shared := false, pre := fun (q : Req × Req) => pEq q.1 q.2, F := fun (q : Req × Req) => eqF q.1 q.2 }
def st25 : List (EqStep Req) := [.ne (fun (x y : Req) => x.1 ≠ y.1), .ne (fun (x y : Req) => x.2.1 ≠ y.2.1), .call (fun (x _ : Req) => wd (x.2.2.1 : (List Fld))) (fun (x y : Req) => eqF (x.2.2.1 : (List Fld)) y.2.2.1), .ne (fun (x y : Req) => x.2.2.2 ≠ y.2.2.2)]
def mk25 (a0 : S) (a1 : S) (a2 : (List Fld)) (a3 : S) : Req := (a0, a1, a2, a3)
theorem a25 (x y : Req) : eqAll x y st25 ↔ x = y := by
  constructor
  · rintro ⟨h0, h1, h2, h3, -⟩
    have h0 : x.1 = y.1 := Classical.byContradiction h0
    have h1 : x.2.1 = y.2.1 := Classical.byContradiction h1
    have h2 : (x.2.2.1 : (List Fld)) = y.2.2.1 := eqF_iff.1 h2
    have h3 : x.2.2.2 = y.2.2.2 := Classical.byContradiction h3
    show mk25 (x.1) (x.2.1) (x.2.2.1) (x.2.2.2) = mk25 (y.1) (y.2.1) (y.2.2.1) (y.2.2.2)
    rw [h0, h1, h2, h3]
    all_goals rfl
  · rintro rfl
    exact ⟨fun h => h rfl, fun h => h rfl, eqF_iff.2 rfl, fun h => h rfl, trivial⟩
theorem w25 (x y : Req) (h : wd x) : eqFine x y st25 := by
  first | simp only [wd_pair] at h | skip
  simp only [eqFine, st25, wd_pair]
  all_goals simp only [h, and_self]
theorem law25 : ∀ q : Req × Req, pEq q.1 q.2 → eqSt q.1 q.2 st25 (fun r => r = eqF q.1 q.2) := fun q hq => eqSt_holds q.1 q.2 st25 (w25 q.1 q.2 hq) (eqF_iff.trans (a25 q.1 q.2).symm)
theorem all25 (w : World) (hJ : J w) : CtAt Tryd.prog ct25 w :=
  ct_by ok25 (cs25 w hJ) Tryd.func25 (by kernel_rfl) (H := (hint [])) law25 (by kernel_rfl)
noncomputable def E26 : Env := { tt, eqs := [], cts := [ct27] }
theorem ok26 : EnvOk Tryd.prog E26 := ⟨ttOk, by kernel_rfl, rfl, mixOk⟩
theorem cs26 (w0 : World) (hJ : J w0) : EnvCts Tryd.prog E26 w0 w0.heap.size := by
  refine ⟨fun c hc => ?_, fun c hc => ?_⟩
  · rcases List.mem_cons.1 hc with rfl | hc
    · exact fun w hb => all27 w (J_below hJ hb)
    cases hc
  · cases hc
noncomputable def ct26 : Ct := { f := 26, ps := [.v true .ro ls47, .v true .ro ls47], rs := [(false, [.bool])], shared := false, pre := fun (q : Rsp × Rsp) => pEq q.1 q.2, F := fun (q : Rsp × Rsp) => eqF q.1 q.2 }
def st26 : List (EqStep Rsp) := [.ne (fun (x y : Rsp) => x.1 ≠ y.1), .call (fun (x _ : Rsp) => wd (x.2.1 : (List Fld))) (fun (x y : Rsp) => eqF (x.2.1 : (List Fld)) y.2.1), .ne (fun (x y : Rsp) => x.2.2 ≠ y.2.2)]
def mk26 (a0 : Int) (a1 : (List Fld)) (a2 : S) : Rsp := (a0, a1, a2)
theorem a26 (x y : Rsp) : eqAll x y st26 ↔ x = y := by
  constructor
  · rintro ⟨h0, h1, h2, -⟩
    have h0 : x.1 = y.1 := Classical.byContradiction h0
    have h1 : (x.2.1 : (List Fld)) = y.2.1 := eqF_iff.1 h1
    have h2 : x.2.2 = y.2.2 := Classical.byContradiction h2
    show mk26 (x.1) (x.2.1) (x.2.2) = mk26 (y.1) (y.2.1) (y.2.2)
    rw [h0, h1, h2]
    all_goals rfl
  · rintro rfl
    exact ⟨fun h => h rfl, eqF_iff.2 rfl, fun h => h rfl, trivial⟩
theorem w26 (x y : Rsp) (h : wd x) : eqFine x y st26 := by
  first | simp only [wd_pair] at h | skip
  simp only [eqFine, st26, wd_pair]
  all_goals simp only [h, and_self]
theorem law26 : ∀ q : Rsp × Rsp, pEq q.1 q.2 → eqSt q.1 q.2 st26 (fun r => r = eqF q.1 q.2) := fun q hq => eqSt_holds q.1 q.2 st26 (w26 q.1 q.2 hq) (eqF_iff.trans (a26 q.1 q.2).symm)
theorem all26 (w : World) (hJ : J w) : CtAt Tryd.prog ct26 w :=
  ct_by ok26 (cs26 w hJ) Tryd.func26 (by kernel_rfl) (H := (hint [])) law26 (by kernel_rfl)
noncomputable def E72 : Env := { tt, eqs := [], cts := [] }
theorem ok72 : EnvOk Tryd.prog E72 := ⟨ttOk, by kernel_rfl, rfl, mixOk⟩
theorem cs72 (w0 : World) (hJ : J w0) : EnvCts Tryd.prog E72 w0 w0.heap.size := by
  refine ⟨fun c hc => ?_, fun c hc => ?_⟩
  · cases hc
  · cases hc
noncomputable def ct72 : Ct := { f := 72, ps := [.v false .ro ls3], rs := [(false, ls9)], shared := false, pre := fun (x : Int) => pMarkText x, F := fun (x : Int) => mMarkText x }
theorem law72 : ∀ x : Int, pMarkText x → s_laws_markText x (fun r => r = mMarkText x) := fun x h => laws_markText_ok x h
theorem all72 (w : World) (hJ : J w) : CtAt Tryd.prog ct72 w :=
  ct_by ok72 (cs72 w hJ) Tryd.func72 (by kernel_rfl) (H := (hint [(4, [.val 0 (.int .i64), .val 3 (.str)])])) law72 (by kernel_rfl)
noncomputable def E32 : Env := { tt, eqs := [], cts := [ct72] }
theorem ok32 : EnvOk Tryd.prog E32 := ⟨ttOk, by kernel_rfl, rfl, mixOk⟩
theorem cs32 (m : Nat) (w0 : World) (hJ : Jn m w0) : EnvCts Tryd.prog E32 w0 m := by
  refine ⟨fun c hc => ?_, fun c hc => ?_⟩
  · rcases List.mem_cons.1 hc with rfl | hc
    · exact fun w hb => all72 w (Jn_J (Jn_below hJ hb))
    cases hc
  · cases hc
noncomputable def ct32 : CtM := { f := 32, ps := [.v false .io ls42, .v false .ro ls3], rs := [(false, ls3)], pre := fun (x : (List Fld) × Int) => pMarkFieldS x.1 x.2, F := fun (x : (List Fld) × Int) => mMarkFieldS x.1 x.2, W := fun (x : (List Fld) × Int) => wMarkFieldS x.1 x.2 }
theorem law32 : ∀ x : (List Fld) × Int, pMarkFieldS x.1 x.2 → s_laws_markFieldS x.1 x.2 (fun r y => r = mMarkFieldS x.1 x.2 ∧ y = wMarkFieldS x.1 x.2) := fun x h => laws_markFieldS_ok x.1 x.2 h
theorem all32 (m : Nat) (w : World) (hJ : Jn m w) : CtMAt Tryd.prog ct32 m w :=
  ctm_by ok32 (cs32 m w hJ) Tryd.func32 (by kernel_rfl) (H := (hint [(2, [.val 1 (.int .i64), .val 5 (.int .i64), .reg 0 96 [.str, .str] true])])) law32 (by kernel_rfl)
noncomputable def E30 : Env := { tt, eqs := [], cts := [], ms := [ct32] }
theorem ok30 : EnvOk Tryd.prog E30 := ⟨ttOk, by kernel_rfl, rfl, mixOk⟩
theorem cs30 (m : Nat) (w0 : World) (hJ : Jn m w0) : EnvCts Tryd.prog E30 w0 m := by
  refine ⟨fun c hc => ?_, fun c hc => ?_⟩
  · cases hc
  · rcases List.mem_cons.1 hc with rfl | hc
    · exact fun w hb => all32 m w (Jn_below hJ hb)
    cases hc
noncomputable def ct30 : CtM := { f := 30, ps := [.v true .io ls44, .v false .ro ls3], rs := [(false, ls3)], pre := fun (x : Req × Int) => pMarkRequest x.1 x.2, F := fun (x : Req × Int) => mMarkRequest x.1 x.2, W := fun (x : Req × Int) => wMarkRequest x.1 x.2 }
theorem law30 : ∀ x : Req × Int, pMarkRequest x.1 x.2 → s_laws_markRequest x.1 x.2 (fun r y => r = mMarkRequest x.1 x.2 ∧ y = wMarkRequest x.1 x.2) := fun x h => laws_markRequest_ok x.1 x.2 h
theorem all30 (m : Nat) (w : World) (hJ : Jn m w) : CtMAt Tryd.prog ct30 m w :=
  ctm_by ok30 (cs30 m w hJ) Tryd.func30 (by kernel_rfl) (H := (hint [])) law30 (by kernel_rfl)
noncomputable def E31 : Env := { tt, eqs := [], cts := [], ms := [ct32] }
theorem ok31 : EnvOk Tryd.prog E31 := ⟨ttOk, by kernel_rfl, rfl, mixOk⟩
theorem cs31 (m : Nat) (w0 : World) (hJ : Jn m w0) : EnvCts Tryd.prog E31 w0 m := by
  refine ⟨fun c hc => ?_, fun c hc => ?_⟩
  · cases hc
  · rcases List.mem_cons.1 hc with rfl | hc
    · exact fun w hb => all32 m w (Jn_below hJ hb)
    cases hc
noncomputable def ct31 : CtM := { f := 31, ps := [.v true .io ls47, .v false .ro ls3], rs := [(false, ls3)], pre := fun (x : Rsp × Int) => pMarkResponse x.1 x.2, F := fun (x : Rsp × Int) => mMarkResponse x.1 x.2, W := fun (x : Rsp × Int) => wMarkResponse x.1 x.2 }
theorem law31 : ∀ x : Rsp × Int, pMarkResponse x.1 x.2 → s_laws_markResponse x.1 x.2 (fun r y => r = mMarkResponse x.1 x.2 ∧ y = wMarkResponse x.1 x.2) := fun x h => laws_markResponse_ok x.1 x.2 h
theorem all31 (m : Nat) (w : World) (hJ : Jn m w) : CtMAt Tryd.prog ct31 m w :=
  ctm_by ok31 (cs31 m w hJ) Tryd.func31 (by kernel_rfl) (H := (hint [])) law31 (by kernel_rfl)
noncomputable def E33 : Env := { tt, eqs := [], cts := [ct72] }
theorem ok33 : EnvOk Tryd.prog E33 := ⟨ttOk, by kernel_rfl, rfl, mixOk⟩
theorem cs33 (w0 : World) (hJ : J w0) : EnvCts Tryd.prog E33 w0 w0.heap.size := by
  refine ⟨fun c hc => ?_, fun c hc => ?_⟩
  · rcases List.mem_cons.1 hc with rfl | hc
    · exact fun w hb => all72 w (J_below hJ hb)
    cases hc
  · cases hc
noncomputable def ct33 : Ct := { f := 33, ps := [.v false .ro ls42, .v false .ro ls3], rs := [(false, ls3)], shared := false, pre := fun (x : (List Fld) × Int) => pHeldFieldS x.1 x.2, F := fun (x : (List Fld) × Int) => mHeldFieldS x.1 x.2 }
theorem law33 : ∀ x : (List Fld) × Int, pHeldFieldS x.1 x.2 → s_laws_heldFieldS x.1 x.2 (fun r => r = mHeldFieldS x.1 x.2) := fun x h => laws_heldFieldS_ok x.1 x.2 h
theorem all33 (w : World) (hJ : J w) : CtAt Tryd.prog ct33 w :=
  ct_by ok33 (cs33 w hJ) Tryd.func33 (by kernel_rfl) (H := (hint [(2, [.val 1 (.int .i64), .val 5 (.int .i64)])])) law33 (by kernel_rfl)
noncomputable def E5 : Env := { tt, eqs := [], cts := [ct17, ct18, ct21, ct22, ct28, ct29, ct27, ct25, ct26, ct33], ms := [ct30, ct31, ct32] }
theorem ok5 : EnvOk Tryd.prog E5 := ⟨ttOk, by kernel_rfl, rfl, mixOk⟩
theorem cs5 (w0 : World) (hJ : J w0) : EnvCts Tryd.prog E5 w0 w0.heap.size := by
  refine ⟨fun c hc => ?_, fun c hc => ?_⟩
  · rcases List.mem_cons.1 hc with rfl | hc
    · exact fun w hb => all17 w (J_below hJ hb)
    rcases List.mem_cons.1 hc with rfl | hc
    · exact fun w hb => all18 w (J_below hJ hb)
    rcases List.mem_cons.1 hc with rfl | hc
    · exact fun w hb => all21 w (J_below hJ hb)
    rcases List.mem_cons.1 hc with rfl | hc
    · exact fun w hb => all22 w (J_below hJ hb)
    rcases List.mem_cons.1 hc with rfl | hc
    · exact fun w hb => all28 w (J_below hJ hb)
    rcases List.mem_cons.1 hc with rfl | hc
    · exact fun w hb => all29 w (J_below hJ hb)
    rcases List.mem_cons.1 hc with rfl | hc
    · exact fun w hb => all27 w (J_below hJ hb)
    rcases List.mem_cons.1 hc with rfl | hc
    · exact fun w hb => all25 w (J_below hJ hb)
    rcases List.mem_cons.1 hc with rfl | hc
    · exact fun w hb => all26 w (J_below hJ hb)
    rcases List.mem_cons.1 hc with rfl | hc
    · exact fun w hb => all33 w (J_below hJ hb)
    cases hc
  · rcases List.mem_cons.1 hc with rfl | hc
    · exact fun w hb => all30 w0.heap.size w (Jn_of hJ hb)
    rcases List.mem_cons.1 hc with rfl | hc
    · exact fun w hb => all31 w0.heap.size w (Jn_of hJ hb)
    rcases List.mem_cons.1 hc with rfl | hc
    · exact fun w hb => all32 w0.heap.size w (Jn_of hJ hb)
    cases hc
noncomputable def ct5 : Ct := boolCt 5 [.v true .ro ls35, .v true .ro ls37] (fun (x : Req × Rsp) => p_FnExactPicked x.1 x.2)
theorem law5 : ∀ x : Req × Rsp, p_FnExactPicked x.1 x.2 → s_laws_FnExactPicked x.1 x.2 (fun r => r = true) := fun x h => laws_FnExactPicked_ok x.1 x.2 h
theorem all5 (w : World) (hJ : J w) : CtAt Tryd.prog ct5 w :=
  ct_by ok5 (cs5 w hJ) Tryd.func5 (by kernel_rfl) (H := (hint [])) law5 (by kernel_rfl)
end Go.Proofs.YtinphipdffikhaaDoor.Ap
end
