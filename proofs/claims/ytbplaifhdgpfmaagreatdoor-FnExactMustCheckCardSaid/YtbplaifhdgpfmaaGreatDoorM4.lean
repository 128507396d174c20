/- A small verified machine for the operations of the given program, and plain laws of what its functions compute; without conditions of its own. Part 5. -/
import Derived.Test.YtbplaifhdgpfmaaGreatDoorM3
import Derived.Lib.IndexBytes
import Derived.Lib.IndexLaws
import Derived.Lib.Atoi
import Derived.Lib.AtoiTie
import Derived.Lib.AtoiAllCases
import Derived.Test.YtbplaifhdgpfmaaGreatDoorM2
import Derived.Lib.SplitLaws
import Derived.Lib.Split
import Derived.Lib.CountLaws
import Derived.Sort.Walk0
import Derived.Deep.LoopGhost
import Derived.Tactics
import Derived.Tactics2
import Derived.WalkKit
import Derived.RowKit3
import Derived.WideLaws
import Derived.OwnWalk
import Derived.Laws.Slices
import Derived.Laws.Rows
import Derived.Laws.Cells
import Derived.Laws.IdiomStrings
import Derived.Laws.BytesString
import Derived.Lib.ConvBytes
import Derived.Test.YtbplaifhdgpfmaaGreatDoorShelfb
import Derived.Shelf.Strings.SlTrimAscii
set_option linter.unusedVariables false
set_option linter.unusedSimpArgs false
section
/- Laws of the plain library, fifth part: lists in texts. -/
set_option linter.unusedVariables false
namespace Go.Ev

theorem drop_cons' {α : Type} {l : List α} {i : Nat} (h : i < l.length) : l.drop i = l[i] :: l.drop (i + 1) := (List.getElem_cons_drop (h := h)).symm
theorem seg_succ {α : Type} {l : List α} {f i : Nat} (hf : f ≤ i) (h : i < l.length) : (l.take (i + 1)).drop f = (l.take i).drop f ++ [l[i]] := by
  rw [take_succ_app h, List.drop_append_of_le_length (by rw [List.length_take]; omega)]
theorem seg_all {α : Type} {l : List α} {f i : Nat} (hf : f ≤ i) (hi : i ≤ l.length) : (l.take i).drop f ++ l.drop i = l.drop f := by
  conv => rhs; rw [← List.take_append_drop i l]
  rw [List.drop_append_of_le_length (by rw [List.length_take]; omega)]
theorem commasL_nil (q : Bool) (i : Int) : commasL q i [] = [] := by cases q <;> rfl
theorem commasL_one (i : Int) (b : UInt8) : commasL true i [b] = [] := rfl
theorem commasL_in (i : Int) (b c : UInt8) (r : List UInt8) : commasL true i (b :: c :: r) = if b = 34 then commasL false (i + 1) (c :: r) else if b = 92 then commasL true (i + 2) r else commasL true (i + 1) (c :: r) := by rw [commasL]
theorem commasL_out (i : Int) (b : UInt8) (r : List UInt8) : commasL false i (b :: r) = if b = 34 then commasL true (i + 1) r else if b = 44 then i :: commasL false (i + 1) r else commasL false (i + 1) r := by rw [commasL]
def cutAt (l : List UInt8) : Nat → List Int → List (List UInt8)
  | f, [] => [l.drop f]
  | f, a :: az => (l.take a.toNat).drop f :: cutAt l (a.toNat + 1) az
def okC (n : Nat) : Nat → List Int → Prop
  | f, [] => f ≤ n
  | f, a :: az => (f : Int) ≤ a ∧ a < (n : Int) ∧ okC n (a.toNat + 1) az
theorem parts_cut (l : List UInt8) : ∀ (m : Nat) (q : Bool) (i f : Nat), i + m = l.length → f ≤ i →
    partsL q ((l.take i).drop f) (l.drop i) = cutAt l f (commasL q (i : Int) (l.drop i)) ∧ okC l.length f (commasL q (i : Int) (l.drop i)) := by
  intro m
  induction m using Nat.strongRecOn with
  | _ m ih =>
    intro q i f hi hf
    cases m with
    | zero =>
      have e : l.drop i = [] := List.drop_eq_nil_of_le (by omega)
      have e2 : l.take i = l := List.take_of_length_le (by omega)
      rw [e, partsL_nil, commasL_nil, e2]
      exact ⟨rfl, by show f ≤ l.length; omega⟩
    | succ m =>
      have hlt : i < l.length := by omega
      have hc := drop_cons' hlt
      have hs := seg_succ hf hlt
      have step := fun (q' : Bool) => ih m (by omega) q' (i + 1) f (by omega) (by omega)
      have hcast : ((i + 1 : Nat) : Int) = (i : Int) + 1 := by omega
      cases q with
      | false =>
        rw [hc, partsL_out, commasL_out, ← hs, ← hcast]
        split
        · exact step true
        · split
          · have h0 := ih m (by omega) false (i + 1) (i + 1) (by omega) (Nat.le_refl _)
            have e0 : (l.take (i + 1)).drop (i + 1) = [] := List.drop_eq_nil_of_le (by rw [List.length_take]; omega)
            rw [e0] at h0
            simp only [cutAt, okC, Int.toNat_natCast]
            exact ⟨by rw [h0.1], by omega, by omega, h0.2⟩
          · exact step false
      | true =>
        cases m with
        | zero =>
          have e : l.drop (i + 1) = [] := List.drop_eq_nil_of_le (by omega)
          have ha := seg_all hf (Nat.le_of_lt hlt)
          rw [hc, e] at ha
          rw [hc, e, partsL_one, commasL_one, ha]
          exact ⟨rfl, by show f ≤ l.length; omega⟩
        | succ m =>
          have hlt1 : i + 1 < l.length := by omega
          have hc1 := drop_cons' hlt1
          rw [hc, hc1, partsL_in, commasL_in, ← hc1, ← hs, ← hcast]
          split
          · exact step false
          · split
            · have h2 := ih m (by omega) true (i + 2) f (by omega) (by omega)
              have hs2 := seg_succ (f := f) (i := i + 1) (by omega) hlt1
              rw [hs, List.append_assoc] at hs2
              rw [show (l.take i).drop f ++ [l[i], l[i + 1]] = (l.take (i + 2)).drop f from hs2.symm, show (i : Int) + 2 = ((i + 2 : Nat) : Int) by omega]
              exact h2
            · exact step true
theorem trimmed_cons (p : List UInt8) (l : List (List UInt8)) : trimmed (p :: l) = if mTrim (ob p) ≠ lit [] then mTrim (ob p) :: trimmed l else trimmed l := by
  unfold trimmed
  rw [List.map_cons, List.filter_cons]
  split
  · next h => rw [if_pos (by simpa using h)]
  · next h => rw [if_neg (by simpa using h)]
theorem trimmed_nil : trimmed [] = [] := rfl
theorem ext_seg (s : S) (f a : Nat) : s.extract f a = ob (((bs s).take a).drop f) := by
  apply bs_inj
  rw [bs_extract, bs_ob, List.drop_take]
theorem byte_eq {s : S} {i : Nat} (h : i < s.size) (n : Nat) (hn : n < 256) : bt s (i : Int) = (n : Int) ↔ (bs s)[i]'(by rw [bs_len]; exact h) = UInt8.ofNat n := by
  rw [bt_nat s i h]
  constructor
  · intro e
    have e' : ((bs s)[i]'(by rw [bs_len]; exact h)).toNat = n := by omega
    rw [← e']; simp
  · intro e
    rw [e]
    simp
    omega
theorem commas_len : ∀ (q : Bool) (i : Int) (l : List UInt8), (commasL q i l).length ≤ l.length
  | q, i, [] => by rw [commasL_nil]; simp
  | true, i, [b] => by rw [commasL_one]; simp
  | true, i, b :: c :: r => by
    rw [commasL_in]
    have h1 := commas_len false (i + 1) (c :: r)
    have h2 := commas_len true (i + 2) r
    have h3 := commas_len true (i + 1) (c :: r)
    simp only [List.length_cons] at *
    split
    · omega
    · split <;> omega
  | false, i, b :: r => by
    rw [commasL_out]
    have h1 := commas_len true (i + 1) r
    have h2 := commas_len false (i + 1) r
    simp only [List.length_cons] at *
    split
    · omega
    · split
      · simp only [List.length_cons]; omega
      · omega

theorem impl_commas_ok (a0 : S) (h : pCommas a0) : s_impl_commas a0 (fun r => r = mCommas a0) := by
  unfold pCommas sm at h
  intro L hL
  have hl := bs_len a0
  refine loopI hL (fun y => ∃ i : Nat, y.2.2 = (i : Int) ∧ i ≤ a0.size + 1 ∧ y.1.length ≤ i ∧ (i ≤ a0.size → y.1 ++ commasL y.2.1 (i : Int) ((bs a0).drop i) = mCommas a0) ∧ (i = a0.size + 1 → y.1 = mCommas a0))
    (fun y => a0.size + 1 - y.2.2.toNat) (fun y hI ih => ?_) ([], false, 0) ⟨0, rfl, by omega, by simp, fun _ => rfl, fun h => by omega⟩
  obtain ⟨out, q, y3⟩ := y
  obtain ⟨i, hy, hi, hol, h1, h2⟩ := hI
  simp only at hy hol h1 h2 ⊢
  subst hy
  refine ⟨fun hlt => ?_, fun hge => ?_⟩
  · have hi2 : i < a0.size := by omega
    have hi3 : i < (bs a0).length := by omega
    have h1 := h1 (by omega)
    have hc := drop_cons' hi3
    have hw : IntKind.i64.wrap ((i : Int) + 1) = ((i + 1 : Nat) : Int) := wrapS (by omega)
    have hw2 : IntKind.i64.wrap (((i + 1 : Nat) : Int) + 1) = ((i + 2 : Nat) : Int) := by rw [wrapS (by omega)]
    have b34 : bt a0 (i : Int) = 34 ↔ _ := byte_eq hi2 34 (by omega)
    have b92 : bt a0 (i : Int) = 92 ↔ _ := byte_eq hi2 92 (by omega)
    have b44 : bt a0 (i : Int) = 44 ↔ _ := byte_eq hi2 44 (by omega)
    have next : ∀ (out' : List Int) (q' : Bool), out'.length ≤ i + 1 → out' ++ commasL q' ((i : Int) + 1) ((bs a0).drop (i + 1)) = mCommas a0 → L (out', q', ((i + 1 : Nat) : Int)) := fun out' q' hlen e =>
      ih _ ⟨i + 1, rfl, by omega, hlen, fun _ => by rw [← e]; congr 2, fun hh => by omega⟩ (by simp only [Int.toNat_natCast]; omega)
    rw [hw, hw2]
    rw [hc] at h1
    have hq34 : bt a0 (i : Int) = 34 → commasL q (i : Int) ((bs a0)[i] :: (bs a0).drop (i + 1)) = commasL (!q) ((i : Int) + 1) ((bs a0).drop (i + 1)) := fun e => by
      have e' := b34.1 e
      cases q with
      | false => rw [commasL_out, if_pos (by rw [e']; rfl)]; rfl
      | true =>
        cases hr : (bs a0).drop (i + 1) with
        | nil => rw [commasL_one, commasL_nil]
        | cons c r => rw [commasL_in, if_pos (by rw [e']; rfl)]; rfl
    have n34 : bt a0 (i : Int) ≠ 34 → ¬ (bs a0)[i] = 34 := fun e e' => e (b34.2 e')
    have n92 : bt a0 (i : Int) ≠ 92 → ¬ (bs a0)[i] = 92 := fun e e' => e (b92.2 e')
    have n44 : bt a0 (i : Int) ≠ 44 → ¬ (bs a0)[i] = 44 := fun e e' => e (b44.2 e')
    have plain_in : bt a0 (i : Int) ≠ 34 → bt a0 (i : Int) ≠ 92 → q = true → commasL q (i : Int) ((bs a0)[i] :: (bs a0).drop (i + 1)) = commasL q ((i : Int) + 1) ((bs a0).drop (i + 1)) := fun e1 e2 eq => by
      subst eq
      cases hr : (bs a0).drop (i + 1) with
      | nil => rw [commasL_one, commasL_nil]
      | cons c r => rw [commasL_in, if_neg (n34 e1), if_neg (n92 e2)]
    refine ⟨by omega, by omega, fun e34 => next _ _ (by omega) ?_, fun e34 => ⟨fun eq => ⟨by omega, by omega, fun e92 => ?_, fun e92 => ⟨fun nq => absurd eq nq, fun _ => next _ _ (by omega) ?_⟩⟩, fun nq => ⟨fun _ => ⟨by omega, by omega, fun e44 => ?_, fun e44 => next _ _ (by omega) ?_⟩, fun qq => absurd nq qq⟩⟩⟩
    · rw [← h1, hq34 e34]
      cases q <;> rfl
    · -- a byte behind a backslash is passed over
      have e' := b92.1 e92
      subst eq
      refine ih _ ⟨i + 2, rfl, by omega, by simp only; omega, fun hle => ?_, fun hle => ?_⟩ (by simp only [Int.toNat_natCast]; omega)
      · have hi4 : i + 1 < (bs a0).length := by omega
        rw [drop_cons' hi4, commasL_in, if_neg (n34 e34), if_pos (by rw [e']; rfl)] at h1
        rw [← h1]
        simp only
        congr 2
      · have : (bs a0).drop (i + 1) = [] := List.drop_eq_nil_of_le (by omega)
        rw [this, commasL_one] at h1
        simpa using h1
    · rw [← h1, plain_in e34 e92 eq]
    · have e' := b44.1 e44
      have hq : q = false := by simpa using nq
      subst hq
      rw [commasL_out, if_neg (n34 e34), if_pos (by rw [e']; rfl)] at h1
      refine ⟨by simp only [List.length_singleton]; omega, next _ _ (by simp only [List.length_append, List.length_singleton]; omega) ?_⟩
      rw [← h1]; simp
    · have hq : q = false := by simpa using nq
      subst hq
      rw [commasL_out, if_neg (n34 e34), if_neg (n44 e44)] at h1
      exact h1
  · have : i = a0.size ∨ i = a0.size + 1 := by omega
    rcases this with e | e
    · have h1 := h1 (by omega)
      have : (bs a0).drop i = [] := List.drop_eq_nil_of_le (by omega)
      rw [this, commasL_nil, List.append_nil] at h1
      exact h1
    · exact h2 e

theorem impl_SplitList_ok (a0 : S) (h : pSplitList a0) : s_impl_SplitList a0 (fun r => r = mSplitList a0) := by
  have h0 := h
  unfold pSplitList sm at h
  have hl := bs_len a0
  have hpc := parts_cut (bs a0) a0.size false 0 0 (by omega) (Nat.le_refl _)
  rw [List.drop_zero, hl] at hpc
  have hcl := commas_len false 0 (bs a0)
  have hC : mCommas a0 = commasL false (((0 : Nat) : Int)) (bs a0) := rfl
  have hM : mSplitList a0 = trimmed (cutAt (bs a0) 0 (mCommas a0)) := by
    unfold mSplitList
    rw [hC]
    exact congrArg trimmed hpc.1
  have hok : okC a0.size 0 (mCommas a0) := hpc.2
  have hclen : (mCommas a0).length ≤ a0.size := by rw [← hl]; exact hcl
  refine ⟨h0, by simp only [List.length_singleton]; omega, fun L hL => ?_⟩
  generalize mCommas a0 = C at hM hok hclen hL
  have hEl : (C ++ [(a0.size : Int)]).length = C.length + 1 := by simp
  refine loopG hL (C.length + 1) (fun k y => y.2.2 = (k : Int) ∧ y.1.length ≤ k ∧ (k ≤ C.length → ∃ f : Nat, y.2.1 = (f : Int) ∧ f ≤ a0.size ∧ okC a0.size f (C.drop k) ∧ y.1 ++ trimmed (cutAt (bs a0) f (C.drop k)) = mSplitList a0) ∧ (k = C.length + 1 → y.1 = mSplitList a0))
    (fun k y hk hI hn => ?_) (s0 := ([], 0, 0)) ⟨rfl, by simp, fun _ => ⟨0, rfl, by omega, hok, by rw [hM]; rfl⟩, fun h => by omega⟩
  obtain ⟨out, y2, y3⟩ := y
  simp only at hI ⊢
  obtain ⟨rfl, hol, h1, h2⟩ := hI
  rw [hEl]
  refine ⟨fun hlt => ?_, fun hge => h2 (by omega)⟩
  have hk2 : k ≤ C.length := by omega
  obtain ⟨f, rfl, hf, hokf, hout⟩ := h1 hk2
  have hw : IntKind.i64.wrap ((k : Int) + 1) = ((k + 1 : Nat) : Int) := wrapS (by omega)
  rw [hw]
  -- the end of this part
  have key : ∀ a : Nat, rx (C ++ [(a0.size : Int)]) (k : Int) = (a : Int) → f ≤ a → a ≤ a0.size →
      (∀ out' : List S, out' = (if mTrim (ob (((bs a0).take a).drop f)) ≠ lit [] then out ++ [mTrim (ob (((bs a0).take a).drop f))] else out) → L (out', ((a + 1 : Nat) : Int), ((k + 1 : Nat) : Int))) →
      0 ≤ (k : Int) ∧ (k : Int) < ((C.length + 1 : Nat) : Int) ∧ 0 ≤ (f : Int) ∧ (f : Int) ≤ rx (C ++ [(a0.size : Int)]) (k : Int) ∧ rx (C ++ [(a0.size : Int)]) (k : Int) ≤ (a0.size : Int) ∧
        pTrim (a0.extract ((f : Int).toNat) (rx (C ++ [(a0.size : Int)]) (k : Int)).toNat) ∧
        (mTrim (a0.extract ((f : Int).toNat) (rx (C ++ [(a0.size : Int)]) (k : Int)).toNat) ≠ lit [] →
          (out.length + [mTrim (a0.extract ((f : Int).toNat) (rx (C ++ [(a0.size : Int)]) (k : Int)).toNat)].length) * 16 ≤ 140737488355328 ∧
            L (out ++ [mTrim (a0.extract ((f : Int).toNat) (rx (C ++ [(a0.size : Int)]) (k : Int)).toNat)], IntKind.i64.wrap (rx (C ++ [(a0.size : Int)]) (k : Int) + 1), ((k + 1 : Nat) : Int))) ∧
        (¬ mTrim (a0.extract ((f : Int).toNat) (rx (C ++ [(a0.size : Int)]) (k : Int)).toNat) ≠ lit [] →
          L (out, IntKind.i64.wrap (rx (C ++ [(a0.size : Int)]) (k : Int) + 1), ((k + 1 : Nat) : Int))) := by
    intro a ha hfa has hcont
    rw [ha, Int.toNat_natCast, Int.toNat_natCast, wrapS (by omega), ext_seg]
    refine ⟨by omega, by omega, by omega, by omega, by omega, ?_, fun hne => ⟨by simp only [List.length_singleton]; omega, hcont _ (by rw [if_pos hne])⟩, fun hne => hcont _ (by rw [if_neg hne])⟩
    unfold pTrim sm
    rw [ob_size, List.length_drop, List.length_take]
    omega
  by_cases hkC : k < C.length
  · have hc := drop_cons' hkC
    rw [hc] at hokf hout
    simp only [okC] at hokf
    obtain ⟨o1, o2, o3⟩ := hokf
    have hrx : rx (C ++ [(a0.size : Int)]) (k : Int) = (C[k].toNat : Int) := by
      rw [rx_get _ (by rw [hEl]; omega), List.getElem_append_left hkC]; omega
    refine key C[k].toNat hrx (by omega) (by omega) fun out' ho => hn _ (by omega) ⟨rfl, ?_, fun _ => ⟨C[k].toNat + 1, rfl, by omega, o3, ?_⟩, fun h => by omega⟩
    · rw [ho]; split
      · simp only [List.length_append, List.length_singleton]; omega
      · simp only; omega
    · simp only [cutAt] at hout
      rw [trimmed_cons] at hout
      rw [ho, ← hout]
      split
      · simp
      · rfl
  · have hkeq : k = C.length := by omega
    have hdn : C.drop k = [] := List.drop_eq_nil_of_le (by omega)
    rw [hdn] at hout
    simp only [cutAt] at hout
    have hrx : rx (C ++ [(a0.size : Int)]) (k : Int) = (a0.size : Int) := by
      rw [rx_get _ (by rw [hEl]; omega), List.getElem_append_right (by omega)]
      simp [hkeq]
    refine key a0.size hrx hf (Nat.le_refl _) fun out' ho => hn _ (by omega) ⟨rfl, ?_, fun h => by omega, fun _ => ?_⟩
    · rw [ho]; split
      · simp only [List.length_append, List.length_singleton]; omega
      · simp only; omega
    · have e : (bs a0).take a0.size = bs a0 := List.take_of_length_le (by omega)
      rw [trimmed_cons, trimmed_nil] at hout
      rw [ho, ← hout, e]
      split
      · rfl
      · simp
end Go.Ev
end

section
/- Laws of the plain library: lists of parts, as spec takes them. -/
set_option linter.unusedVariables false
namespace Go.Ev
theorem partsL_end (q : Bool) (cur : List UInt8) : partsL q cur [] = [cur] := by cases q <;> rfl
theorem parts_q {l : List UInt8} {f i : Nat} (hf : f ≤ i) (h : i < l.length) : partsL true ((l.take i).drop f) (l.drop i) =
    if l[i] = 34 then partsL false ((l.take (i + 1)).drop f) (l.drop (i + 1))
    else if l[i] = 92 then (if i + 1 < l.length then partsL true ((l.take (i + 2)).drop f) (l.drop (i + 2)) else [l.drop f])
    else partsL true ((l.take (i + 1)).drop f) (l.drop (i + 1)) := by
  have hc := drop_cons' h
  have hs := seg_succ (f := f) hf h
  by_cases hl : i + 1 < l.length
  · have hc1 := drop_cons' hl
    have hs2 := seg_succ (f := f) (i := i + 1) (by omega) hl
    rw [hc, hc1, partsL_in, ← hc1, if_pos hl, hs]
    rw [hs, List.append_assoc] at hs2
    have hs2 : List.drop f (List.take (i + 2) l) = List.drop f (List.take i l) ++ [l[i], l[i + 1]] := hs2
    rw [hs2]
  · have hn : l.drop (i + 1) = [] := List.drop_eq_nil_of_le (by omega)
    have ha : (l.take (i + 1)).drop f = l.drop f := by rw [List.take_of_length_le (by omega)]
    rw [hc, hn, partsL_one, ← hs, partsL_end, partsL_end, if_neg hl, ha]
    split
    · rfl
    · split <;> rfl
theorem spec_SplitList_ok (a0 : S) (h : pSplitList a0) : s_spec_SplitList a0 (fun r => r = mSplitList a0) := by
  unfold pSplitList sm at h
  intro L hL
  have hl := bs_len a0
  refine loopI hL (fun y => ∃ f i : Nat, y.2.1 = (f : Int) ∧ y.2.2.2 = (i : Int) ∧ i ≤ a0.size + 1 ∧ y.1.length ≤ i ∧
      (i ≤ a0.size → f ≤ i ∧ y.1 ++ trimmed (partsL y.2.2.1 (((bs a0).take i).drop f) ((bs a0).drop i)) = mSplitList a0) ∧
      (i = a0.size + 1 → (f < a0.size → y.2.2.1 = true ∧ y.1 ++ trimmed [(bs a0).drop f] = mSplitList a0) ∧ (¬ f < a0.size → y.1 = mSplitList a0)))
    (fun y => a0.size + 1 - y.2.2.2.toNat) (fun y hI ih => ?_) ([], 0, false, 0) ⟨0, 0, rfl, rfl, by omega, by simp, fun _ => ⟨by omega, rfl⟩, fun h => by omega⟩
  obtain ⟨out, y2, q, y4⟩ := y
  obtain ⟨f, i, hy2, hy4, hi, hol, h1, h2⟩ := hI
  simp only at hy2 hy4 hol h1 h2 ⊢
  subst hy2; subst hy4
  have hsz : ∀ a b : Nat, pTrim (a0.extract a b) := fun a b => by
    unfold pTrim sm
    have := bs_len (a0.extract a b)
    rw [bs_extract, List.length_take, List.length_drop] at this
    omega
  have d0 : (0 : Int) ≤ (i : Int) := by omega
  have f0 : (0 : Int) ≤ (f : Int) := by omega
  have hcap : ∀ p : S, (out.length + [p].length) * 16 ≤ 140737488355328 := fun p => by simp only [List.length_singleton]; omega
  have hw : IntKind.i64.wrap ((i : Int) + 1) = ((i + 1 : Nat) : Int) := wrapS (by omega)
  have hw2 : IntKind.i64.wrap (((i + 1 : Nat) : Int) + 1) = ((i + 2 : Nat) : Int) := wrapS (by omega)
  by_cases hgt : i = a0.size + 1
  · obtain ⟨ha, hb⟩ := h2 hgt
    refine ⟨fun hle => by omega, fun _ => ⟨fun hf => ⟨fun hq => ⟨f0, by omega, hsz _ _, fun hp => ⟨hcap _, ?_⟩, fun hp => ?_⟩, fun hq => absurd (ha (by omega)).1 hq⟩, fun hf => hb (by omega)⟩⟩
    · have e := (ha (by omega)).2
      rw [Int.toNat_natCast] at hp ⊢
      rw [ext_seg, List.take_of_length_le (by omega)] at hp ⊢
      rw [trimmed_cons, trimmed_nil, if_pos hp] at e
      exact e
    · have e := (ha (by omega)).2
      rw [Int.toNat_natCast] at hp
      rw [ext_seg, List.take_of_length_le (by omega)] at hp
      rw [trimmed_cons, trimmed_nil, if_neg hp] at e
      simpa using e
  · obtain ⟨hfi, e⟩ := h1 (by omega)
    have d1 : (i : Int) ≤ (a0.size : Int) := by omega
    have hm : (if (a0.size : Int) < (i : Int) then (a0.size : Int) else (i : Int)) = (i : Int) := if_neg (by omega)
    have hfi' : (f : Int) ≤ (i : Int) := by omega
    by_cases hlt : i < a0.size
    · have d2 : (i : Int) < (a0.size : Int) := by omega
      have d3 : ¬ (a0.size : Int) ≤ (i : Int) := by omega
      have hi3 : i < (bs a0).length := by omega
      have hc := drop_cons' hi3
      have hs := seg_succ (l := bs a0) (f := f) (i := i) hfi hi3
      have b34 : bt a0 (i : Int) = 34 ↔ _ := byte_eq hlt 34 (by omega)
      have b92 : bt a0 (i : Int) = 92 ↔ _ := byte_eq hlt 92 (by omega)
      have b44 : bt a0 (i : Int) = 44 ↔ _ := byte_eq hlt 44 (by omega)
      have next : ∀ (out' : List S) (f' : Nat) (q' : Bool), out'.length ≤ i + 1 → f' ≤ i + 1 → out' ++ trimmed (partsL q' (((bs a0).take (i + 1)).drop f') ((bs a0).drop (i + 1))) = mSplitList a0 → L (out', (f' : Int), q', ((i + 1 : Nat) : Int)) := fun out' f' q' hlen hf' e' =>
        ih _ ⟨f', i + 1, rfl, rfl, by omega, hlen, fun _ => ⟨hf', e'⟩, fun hh => by omega⟩ (by simp only [Int.toNat_natCast]; omega)
      have hne1 : ((34 : Int) = 92) = False := by decide
      have hne2 : ((34 : Int) = 44) = False := by decide
      have hne3 : ((44 : Int) = 92) = False := by decide
      have hne4 : ((44 : Int) = 34) = False := by decide
      have hne5 : ((92 : Int) = 34) = False := by decide
      have hne6 : ((92 : Int) = 44) = False := by decide
      have piece : out ++ trimmed (partsL q (((bs a0).take i).drop f) ((bs a0).drop i)) = mSplitList a0 := e
      by_cases c34 : bt a0 (i : Int) = 34
      · have e34 := b34.1 c34
        cases q with
        | false =>
          rw [hc] at e
          simp only [d1, d2, d3, d0, hm, hw, hw2, c34, hne1, hne2, Bool.false_eq_true, not_false_eq_true, not_true_eq_false, true_implies, false_implies, true_and, and_true, decide_true, decide_false]
          rw [partsL_out, if_pos (by rw [e34]; rfl), ← hs] at e
          exact next out f true (by omega) (by omega) e
        | true =>
          simp only [d1, d2, d3, d0, hm, hw, hw2, c34, hne1, hne2, not_false_eq_true, not_true_eq_false, true_implies, false_implies, true_and, and_true, decide_true, decide_false]
          rw [parts_q hfi hi3, if_pos (by rw [e34]; rfl)] at e
          exact next out f false (by omega) (by omega) e
      · have n34 : ¬ (bs a0)[i] = 34 := fun h => c34 (b34.2 (by rw [h]; rfl))
        cases q with
        | true =>
          rw [parts_q hfi hi3, if_neg n34] at e
          by_cases c92 : bt a0 (i : Int) = 92
          · have e92 := b92.1 c92
            simp only [d1, d2, d3, d0, hm, hw, hw2, c92, hne5, hne6, not_false_eq_true, not_true_eq_false, true_implies, false_implies, true_and, and_true, decide_true, decide_false]
            rw [if_pos (by rw [e92]; rfl)] at e
            refine ih (out, (f : Int), true, ((i + 2 : Nat) : Int)) ⟨f, i + 2, rfl, rfl, by omega, (by show out.length ≤ i + 2; omega), fun hle => ⟨by omega, ?_⟩, fun heq => ⟨fun _ => ⟨rfl, ?_⟩, fun hn => absurd (by omega) hn⟩⟩ (by simp only [Int.toNat_natCast]; omega)
            · rw [if_pos (by omega)] at e; exact e
            · rw [if_neg (by omega)] at e; exact e
          · have n92 : ¬ (bs a0)[i] = 92 := fun h => c92 (b92.2 (by rw [h]; rfl))
            rw [if_neg n92] at e
            by_cases c44 : bt a0 (i : Int) = 44
            · simp only [d1, d2, d3, d0, hm, hw, hw2, c44, hne3, hne4, not_false_eq_true, not_true_eq_false, true_implies, false_implies, true_and, and_true, decide_true, decide_false]
              exact next out f true (by omega) (by omega) e
            · simp only [d1, d2, d3, d0, hm, hw, hw2, c34, c92, c44, not_false_eq_true, not_true_eq_false, true_implies, false_implies, true_and, and_true, decide_true, decide_false]
              exact next out f true (by omega) (by omega) e
        | false =>
          rw [hc, partsL_out, if_neg n34] at e
          by_cases c44 : bt a0 (i : Int) = 44
          · have e44 := b44.1 c44
            rw [if_pos (by rw [e44]; rfl), trimmed_cons] at e
            simp only [d1, d2, d3, d0, f0, hfi', hm, hw, hw2, c44, hne3, hne4, hsz, hcap, Bool.false_eq_true, not_false_eq_true, not_true_eq_false, true_implies, false_implies, true_and, and_true, decide_true, decide_false, Int.toNat_natCast]
            have hn : ((bs a0).take (i + 1)).drop (i + 1) = [] := List.drop_eq_nil_of_le (by rw [List.length_take]; omega)
            refine ⟨fun hp => ?_, fun hp => ?_⟩
            · rw [ext_seg] at hp ⊢
              rw [if_pos hp] at e
              exact next _ (i + 1) false (by simp only [List.length_append, List.length_singleton]; omega) (by omega) (by rw [hn, List.append_assoc]; exact e)
            · rw [ext_seg] at hp
              rw [if_neg hp] at e
              exact next _ (i + 1) false (by omega) (by omega) (by rw [hn]; exact e)
          · have n44 : ¬ (bs a0)[i] = 44 := fun h => c44 (b44.2 (by rw [h]; rfl))
            rw [if_neg n44, ← hs] at e
            simp only [d1, d2, d3, d0, hm, hw, hw2, c34, c44, Bool.false_eq_true, not_false_eq_true, not_true_eq_false, true_implies, false_implies, true_and, and_true, decide_true, decide_false]
            exact next out f false (by omega) (by omega) e
    · have hie : i = a0.size := by omega
      subst hie
      have hn : (bs a0).drop a0.size = [] := List.drop_eq_nil_of_le (by omega)
      rw [hn, partsL_end, trimmed_cons, trimmed_nil] at e
      have d2 : ¬ (a0.size : Int) < (a0.size : Int) := by omega
      have d3 : (a0.size : Int) ≤ (a0.size : Int) := by omega
      simp only [d1, d2, d3, d0, f0, hfi', hm, hw, hsz, hcap, not_false_eq_true, not_true_eq_false, true_implies, false_implies, true_and, and_true, Int.toNat_natCast, if_false]
      have fin : ∀ out' : List S, out'.length ≤ a0.size + 1 → out' = mSplitList a0 → L (out', ((a0.size + 1 : Nat) : Int), q, ((a0.size + 1 : Nat) : Int)) := fun out' hlen e' =>
        ih _ ⟨a0.size + 1, a0.size + 1, rfl, rfl, by omega, hlen, fun hh => by omega, fun _ => ⟨fun hh => by omega, fun _ => e'⟩⟩ (by simp only [Int.toNat_natCast]; omega)
      refine ⟨fun hp => ?_, fun hp => ?_⟩
      · rw [ext_seg] at hp ⊢
        rw [if_pos hp] at e
        exact fin _ (by simp only [List.length_append, List.length_singleton]; omega) e
      · rw [ext_seg] at hp
        rw [if_neg hp] at e
        exact fin _ (by omega) (by simpa using e)
end Go.Ev
end

section
/- Laws of the plain library: directives. -/
set_option linter.unusedVariables false
namespace Go.Ev
theorem index_first {l : List UInt8} {c : UInt8} {k : Nat} (hk : l[k]? = some c) (hf : ∀ j, j < k → l[j]? ≠ some c) : Lib.indexByte l c = (k : Int) := by
  have hge := Lib.indexByte_ge l c
  by_cases hn : Lib.indexByte l c = -1
  · exact absurd hk (Lib.indexByte_none hn k)
  · obtain ⟨o, ho⟩ : ∃ o : Nat, Lib.indexByte l c = (o : Int) := ⟨(Lib.indexByte l c).toNat, by omega⟩
    obtain ⟨h1, h2⟩ := Lib.indexByte_some ho
    rcases Nat.lt_trichotomy o k with h | h | h
    · exact absurd h1 (hf o h)
    · rw [ho, h]
    · exact absurd hk (h2 k h)
theorem index_not {l : List UInt8} {c : UInt8} (hf : ∀ j, j < l.length → l[j]? ≠ some c) : Lib.indexByte l c = -1 := by
  have hge := Lib.indexByte_ge l c
  by_cases hn : Lib.indexByte l c = -1
  · exact hn
  · obtain ⟨o, ho⟩ : ∃ o : Nat, Lib.indexByte l c = (o : Int) := ⟨(Lib.indexByte l c).toNat, by omega⟩
    obtain ⟨h1, h2⟩ := Lib.indexByte_some ho
    exact absurd h1 (hf o (List.getElem?_eq_some_iff.1 h1).1)
theorem cut_at {p : S} {k : Nat} (hk : k < p.size) (hb : bt p (k : Int) = 61) (hf : ∀ j, j < k → bt p (j : Int) ≠ 61) : (mCut p (lit [61])).1 = p.extract 0 k ∧ (mCut p (lit [61])).2.1 = p.extract (k + 1) p.size := by
  have hl := bs_len p
  have e : Lib.index (bs p) (bs (lit [61])) = (k : Int) := by
    rw [show bs (lit [61]) = [61] from rfl, Lib.index_one]
    refine index_first ?_ fun j hj hh => ?_
    · rw [List.getElem?_eq_getElem (by omega), (byte_eq hk 61 (by omega)).1 hb]; rfl
    · rw [List.getElem?_eq_getElem (by omega)] at hh
      exact hf j hj ((byte_eq (by omega) 61 (by omega)).2 (Option.some.inj hh))
  unfold mCut Lib.cut
  rw [e, if_pos (by omega)]
  refine ⟨bs_inj ?_, bs_inj ?_⟩
  · rw [bs_ob, bs_extract]; simp
  · rw [bs_ob, bs_extract]
    show (bs p).drop ((k : Int).toNat + 1) = _
    rw [Int.toNat_natCast]
    exact (List.take_of_length_le (by rw [List.length_drop]; omega)).symm
theorem cut_none {p : S} (hf : ∀ j, j < p.size → bt p (j : Int) ≠ 61) : (mCut p (lit [61])).1 = p.extract 0 p.size ∧ (mCut p (lit [61])).2.1 = lit [] := by
  have hl := bs_len p
  have e : Lib.index (bs p) (bs (lit [61])) = -1 := by
    rw [show bs (lit [61]) = [61] from rfl, Lib.index_one]
    refine index_not fun j hj hh => ?_
    rw [List.getElem?_eq_getElem hj] at hh
    exact hf j (by omega) ((byte_eq (by omega) 61 (by omega)).2 (Option.some.inj hh))
  unfold mCut Lib.cut
  rw [e, if_neg (by omega)]
  refine ⟨bs_inj ?_, rfl⟩
  rw [bs_ob, bs_extract, List.drop_zero, List.take_of_length_le (by omega)]
theorem cut_sizes (p : S) : (mCut p (lit [61])).1.size ≤ p.size ∧ (mCut p (lit [61])).2.1.size ≤ p.size := by
  have hl := bs_len p
  unfold mCut Lib.cut
  split
  · simp only [ob_size, List.length_take, List.length_drop]; omega
  · simp only [ob_size, List.length_nil]; omega
theorem extract_size (p : S) (a b : Nat) : (p.extract a b).size ≤ p.size := by
  have := bs_len (p.extract a b)
  have hl := bs_len p
  rw [bs_extract, List.length_take, List.length_drop] at this
  omega
theorem gather {parts : List S} (hn : parts.length ≤ 1073741824) {B L : List Fld × Int → Prop} (hL : ∀ y, B y → L y)
    (step : ∀ (out : List Fld) (i : Nat) (hi : i < parts.length), out.length ≤ i → (dirOf parts[i] = none → L (out, IntKind.i64.wrap ((i : Int) + 1))) → (∀ d, dirOf parts[i] = some d → L (out ++ [d], IntKind.i64.wrap ((i : Int) + 1))) → B (out, (i : Int)))
    (fin : B (parts.filterMap dirOf, (parts.length : Int))) : L ([], 0) := by
  refine loopG hL parts.length (fun i y => y.2 = (i : Int) ∧ y.1.length ≤ i ∧ y.1 ++ (parts.drop i).filterMap dirOf = parts.filterMap dirOf) (fun i y hi hI ih => ?_) ⟨rfl, by simp, rfl⟩
  obtain ⟨out, y2⟩ := y
  obtain ⟨h1, h2, h3⟩ := hI
  simp only at h1 h2 h3
  subst h1
  by_cases hlt : i < parts.length
  · have hw : IntKind.i64.wrap ((i : Int) + 1) = ((i + 1 : Nat) : Int) := wrapS (by omega)
    rw [drop_cons' hlt] at h3
    refine step out i hlt h2 (fun hd => ?_) (fun d hd => ?_)
    · rw [List.filterMap_cons_none hd] at h3
      exact ih _ hlt ⟨hw, by simp only; omega, h3⟩
    · rw [List.filterMap_cons_some hd] at h3
      exact ih _ hlt ⟨hw, by simp only [List.length_append, List.length_singleton]; omega, by simp only [List.append_assoc]; exact h3⟩
  · have hie : i = parts.length := by omega
    subst hie
    rw [List.drop_eq_nil_of_le (Nat.le_refl _)] at h3
    have h3 : out = parts.filterMap dirOf := by simpa using h3
    rw [h3]; exact fin
theorem unq_pos {b : S} (h1 : 2 ≤ (b.size : Int)) (h2 : bt b 0 = 34) (h3 : bt b ((b.size : Int) - 1) = 34) : b.extract 1 (b.size - 1) = mL7Unquote b := by
  unfold mL7Unquote; rw [if_pos ⟨h1, h2, h3⟩]
theorem unq_neg {b : S} (h : ¬ (2 ≤ (b.size : Int) ∧ bt b 0 = 34 ∧ bt b ((b.size : Int) - 1) = 34)) : b = mL7Unquote b := by
  unfold mL7Unquote; rw [if_neg h]
theorem impl_Directives_ok (a0 : List Fld) (h : pDirectives a0) : s_impl_Directives a0 (fun r => r = mDirectives a0) := by
  have hg := fieldGet_size a0 nameCC h
  refine ⟨h, by unfold pSplitList sm; exact Nat.le_trans hg (by omega), ?_⟩
  have hb := splitList_bound (mFieldGet a0 nameCC).1
  have hm : ∀ x ∈ mSplitList (mFieldGet a0 nameCC).1, x.size ≤ 3 * 1048576 := fun x hx => Nat.le_trans (splitList_mem hx) hg
  have ht : (mSplitList (mFieldGet a0 nameCC).1).filterMap dirOf = mDirectives a0 := rfl
  intro L hL
  have hlen : (mSplitList (mFieldGet a0 nameCC).1).length ≤ 1073741824 := by omega
  refine gather (parts := mSplitList (mFieldGet a0 nameCC).1) hlen hL (fun out i hi hol hnone hsome => ?_) ?_
  · unfold nameCC at *
    generalize mSplitList (mFieldGet a0 (lit [99, 97, 99, 104, 101, 45, 99, 111, 110, 116, 114, 111, 108])).1 = parts at *
    have hp := hm parts[i] (List.getElem_mem hi)
    have hc := cut_sizes parts[i]
    simp only [rx_nat parts i hi]
    unfold dirOf at hnone hsome
    generalize (mCut parts[i] (lit [61])).1 = a at *
    generalize (mCut parts[i] (lit [61])).2.1 = b at *
    refine ⟨fun _ => ⟨by omega, by omega, by unfold pCut sm; omega, by unfold pIsTokenText sm; omega, fun ct => hnone (if_neg ct), fun ct => ?_⟩, fun hn => absurd (by omega) hn⟩
    have hsome := hsome _ (if_pos (Classical.not_not.1 ct))
    have hcap : ∀ d : Fld, (out.length + [d].length) * 32 ≤ 140737488355328 := fun d => by simp only [List.length_singleton]; omega
    have hlow : pLower a := by unfold pLower sm; omega
    refine ⟨fun h2 => ?_, fun h2 => ⟨hlow, hcap _, by rw [← unq_neg (fun hh => h2 hh.1)] at hsome; exact hsome⟩⟩
    have hw : IntKind.i64.wrap ((b.size : Int) - 1) = (b.size : Int) - 1 := wrap64 (by omega) (by omega)
    rw [hw]
    refine ⟨by omega, by omega, fun h3 => ⟨by omega, by omega, fun h4 => ⟨by omega, by omega, by omega, hlow, hcap _, ?_⟩, fun h4 => ⟨hlow, hcap _, ?_⟩⟩, fun h3 => ⟨hlow, hcap _, ?_⟩⟩
    · rw [← unq_pos h2 h3 h4] at hsome
      rw [show ((b.size : Int) - 1).toNat = b.size - 1 by omega]
      exact hsome
    · rw [← unq_neg (fun hh => h4 hh.2.2)] at hsome; exact hsome
    · rw [← unq_neg (fun hh => h3 hh.2.1)] at hsome; exact hsome
  · exact ⟨fun hh => absurd hh (by unfold nameCC; omega), fun _ => ht⟩
theorem spec_Directives_ok (a0 : List Fld) (h : pDirectives a0) : s_spec_Directives a0 (fun r => r = mDirectives a0) := by
  have hg := fieldGet_size a0 nameCC h
  refine ⟨h, by unfold pSplitList sm; exact Nat.le_trans hg (by omega), ?_⟩
  have hb := splitList_bound (mFieldGet a0 nameCC).1
  have hm : ∀ x ∈ mSplitList (mFieldGet a0 nameCC).1, x.size ≤ 3 * 1048576 := fun x hx => Nat.le_trans (splitList_mem hx) hg
  have ht : (mSplitList (mFieldGet a0 nameCC).1).filterMap dirOf = mDirectives a0 := rfl
  intro L hL
  have hlen : (mSplitList (mFieldGet a0 nameCC).1).length ≤ 1073741824 := by omega
  refine gather (parts := mSplitList (mFieldGet a0 nameCC).1) hlen hL (fun out i hi hol hnone hsome => ?_) ?_
  · unfold nameCC at *
    generalize mSplitList (mFieldGet a0 (lit [99, 97, 99, 104, 101, 45, 99, 111, 110, 116, 114, 111, 108])).1 = parts at *
    have hp := hm parts[i] (List.getElem_mem hi)
    simp only [rx_nat parts i hi]
    unfold dirOf at hnone hsome
    generalize parts[i] = p at *
    refine ⟨fun _ => ⟨by omega, by omega, fun L2 hL2 => ?_⟩, fun hn => absurd (by omega) hn⟩
    have hcap : ∀ d : Fld, (out.length + [d].length) * 32 ≤ 140737488355328 := fun d => by simp only [List.length_singleton]; omega
    have tok : ∀ a b, pIsTokenText (p.extract a b) := fun a b => by have := extract_size p a b; unfold pIsTokenText sm; omega
    have low : ∀ a b, pLower (p.extract a b) := fun a b => by have := extract_size p a b; unfold pLower sm; omega
    have unq : ∀ a b, pL7Unquote (p.extract a b) := fun a b => by have := extract_size p a b; unfold pL7Unquote sm; omega
    refine loopN hL2 p.size (by omega) (fun k => ∀ j, j < k → bt p (j : Int) ≠ 61) (fun k hk hI ih => ?_) (fun j hj => by omega)
    have hwk : k < p.size → IntKind.i64.wrap ((k : Int) + 1) = ((k + 1 : Nat) : Int) := fun _ => wrapS (by omega)
    refine ⟨fun hlt => ?_, fun hge => ?_⟩
    · have hlt : k < p.size := by omega
      refine ⟨by omega, by omega, fun h61 => ih hlt fun j hj => ?_, fun h61 => ?_⟩
      · by_cases e : j = k
        · subst e; exact h61
        · exact hI j (by omega)
      · obtain ⟨e1, e2⟩ := cut_at hlt (Classical.not_not.1 h61) hI
        rw [e1] at hnone hsome
        rw [e2] at hsome
        rw [hwk hlt, Int.toNat_natCast, Int.toNat_natCast]
        refine ⟨by omega, by omega, tok _ _, fun ct => hnone (if_neg ct), fun ct => ⟨by omega, by omega, low _ _, fun _ => ⟨by omega, by omega, unq _ _, hcap _, hsome _ (if_pos (Classical.not_not.1 ct))⟩, fun hh => absurd (by omega) hh⟩⟩
    · have hke : k = p.size := by omega
      subst hke
      obtain ⟨e1, e2⟩ := cut_none hI
      rw [e1] at hnone hsome
      rw [e2] at hsome
      have hu : mL7Unquote (lit []) = lit [] := (unq_neg (fun hh => by have := hh.1; have h0 : (lit []).size = 0 := rfl; omega)).symm
      rw [hu] at hsome
      rw [Int.toNat_natCast]
      refine ⟨by omega, by omega, tok _ _, fun ct => hnone (if_neg ct), fun ct => ⟨by omega, by omega, low _ _, fun hh => absurd hh (by omega), fun _ => ⟨hcap _, hsome _ (if_pos (Classical.not_not.1 ct))⟩⟩⟩
  · exact ⟨fun hh => absurd hh (by unfold nameCC; omega), fun _ => ht⟩
end Go.Ev
end

section
/- Laws of the plain library: what may be stored, what may be shared. -/
set_option linter.unusedVariables false
namespace Go.Ev
end Go.Ev
end

section
/- Laws of the plain library: numerals that are read. -/
set_option linter.unusedVariables false
namespace Go.Ev
def dvs (l : List UInt8) : List Nat := l.filterMap Lib.digitVal
def dv (l : List UInt8) : Nat := (dvs l).foldl (fun a d => a * 10 + d) 0
def shown (l : List UInt8) : Int := if l.head? = some 45 then -(dv l : Int) else (dv l : Int)
end Go.Ev
end

section
/- Laws of the plain library: a numeral is read, as spec does. -/
set_option linter.unusedVariables false
namespace Go.Ev
end Go.Ev
end

section
/- Laws of the plain library: the version that a tag says. -/
set_option linter.unusedVariables false
namespace Go.Ev
end Go.Ev
end

section
/- Laws of the plain library: a numeral is read by the library. -/
set_option linter.unusedVariables false
namespace Go.Ev
theorem atoi_cons (b : UInt8) (r : List UInt8) : Lib.atoi (b :: r) = if b == 45 then (Lib.decNat r).map fun (m : Nat) => -(m : Int) else if b == 43 then (Lib.decNat r).map fun (m : Nat) => (m : Int) else (Lib.decNat (b :: r)).map fun (m : Nat) => (m : Int) := rfl
end Go.Ev
end

section
/- Laws of the plain library: dates that are read, as spec does. -/
set_option linter.unusedVariables false
namespace Go.Ev
theorem isDig_iff {b : UInt8} : isDig b = true ↔ 48 ≤ b.toNat ∧ b.toNat ≤ 57 := by unfold isDig; simp
theorem decFrom_val : ∀ (l : List UInt8) (a : Nat), l.all isDig = true → Lib.decFrom a l = some (valFrom a l)
  | [], a, _ => rfl
  | b :: l, a, h => by
    simp only [List.all_cons, Bool.and_eq_true] at h
    have hb := isDig_iff.1 h.1
    have e : Lib.digitVal b = some (b.toNat - 48) := by unfold Lib.digitVal; rw [if_pos hb]
    simp only [Lib.decFrom, e]
    exact decFrom_val l _ h.2
theorem val_lt : ∀ (l : List UInt8) (a : Nat), l.all isDig = true → valFrom a l < (a + 1) * 10 ^ l.length
  | [], a, _ => by simp [valFrom]
  | b :: l, a, h => by
    simp only [List.all_cons, Bool.and_eq_true] at h
    have hb := isDig_iff.1 h.1
    have ih := val_lt l (a * 10 + (b.toNat - 48)) h.2
    have e : valFrom a (b :: l) = valFrom (a * 10 + (b.toNat - 48)) l := rfl
    rw [e, List.length_cons, Nat.pow_succ]
    refine Nat.lt_of_lt_of_le ih ?_
    rw [Nat.mul_comm (10 ^ l.length) 10, ← Nat.mul_assoc]
    exact Nat.mul_le_mul_right _ (by omega)
theorem valL_lt {l : List UInt8} (h : l.all isDig = true) : valL l < 10 ^ l.length := by
  have := val_lt l 0 h
  unfold valL
  simpa using this
theorem atoiV_val {l : List UInt8} (hne : l ≠ []) (hd : l.all isDig = true) (hl : l.length ≤ 18) : atoiV (ob l) = (valL l : Int) := by
  cases l with
  | nil => exact absurd rfl hne
  | cons b r =>
    have hb := isDig_iff.1 (by simp only [List.all_cons, Bool.and_eq_true] at hd; exact hd.1 : isDig b = true)
    have h45 : (b == 45) = false := by
      rw [beq_eq_false_iff_ne]; rintro rfl; simp at hb
    have h43 : (b == 43) = false := by
      rw [beq_eq_false_iff_ne]; rintro rfl; simp at hb
    have e : Lib.atoi (b :: r) = some ((valL (b :: r) : Nat) : Int) := by
      rw [atoi_cons, h45, h43]
      simp only [Bool.false_eq_true, if_false]
      unfold Lib.decNat
      simp only [List.isEmpty_cons, Bool.false_eq_true, if_false]
      rw [decFrom_val _ _ hd]
      rfl
    unfold atoiV
    rw [bs_ob, Lib.atoiAll_short _ hl, e]
    rfl
theorem numL_le (l : List UInt8) : -1 ≤ numL l ∧ numL l < 10 ^ l.length := by
  unfold numL
  split
  · next h =>
    have := valL_lt h
    constructor
    · omega
    · exact_mod_cast this
  · constructor
    · omega
    · have : (0 : Int) < 10 ^ l.length := by exact_mod_cast Nat.pow_pos (by omega)
      omega
theorem valL_snoc (l : List UInt8) (b : UInt8) : valL (l ++ [b]) = valL l * 10 + (b.toNat - 48) := by
  unfold valL valFrom
  rw [List.foldl_append]; rfl
theorem spec_l4Num_ok (a0 : S) (a1 a2 : Int) (h : pL4Num a0 a1 a2) : s_spec_l4Num a0 a1 a2 (fun r => r = mL4Num a0 a1 a2) := by
  obtain ⟨h0, h1, h2, h3, h4⟩ := h
  unfold sm at h4
  have hl := bs_len a0
  have w0 : IntKind.i64.wrap (a1 + a2) = a1 + a2 := wrap64 (by omega) (by omega)
  unfold s_spec_l4Num
  rw [w0]
  have hT : ((bs a0).drop a1.toNat).length = a0.size - a1.toNat := by rw [List.length_drop, hl]
  intro L hL
  refine loopI hL (fun y => ∃ k : Nat, (k : Int) ≤ a2 ∧ y.2 = a1 + (k : Int) ∧ (((bs a0).drop a1.toNat).take k).all isDig = true ∧ y.1 = (valL (((bs a0).drop a1.toNat).take k) : Int)) (fun y => (a1 + a2 - y.2).toNat) (fun y hI ih => ?_) (0, a1) ⟨0, by omega, by simp, by simp, by simp [valL, valFrom]⟩
  obtain ⟨x, i⟩ := y
  obtain ⟨k, hk, hi, hd, hx⟩ := hI
  simp only at hi hx ⊢
  subst hi hx
  have hv := valL_lt hd
  refine ⟨fun hlt => ?_, fun hge => ?_⟩
  · have hkl : k < ((bs a0).drop a1.toNat).length := by omega
    have hin : a1.toNat + k < a0.size := by omega
    have hbt : bt a0 (a1 + (k : Int)) = ((((bs a0).drop a1.toNat)[k]).toNat : Int) := by
      have := bt_nat a0 (a1.toNat + k) hin
      rw [show ((a1.toNat + k : Nat) : Int) = a1 + (k : Int) by omega] at this
      rw [this, List.getElem_drop]
    have hmem : ((bs a0).drop a1.toNat)[k] ∈ ((bs a0).drop a1.toNat).take a2.toNat := by
      rw [List.mem_take_iff_getElem]
      exact ⟨k, by omega, rfl⟩
    have bad : ¬ isDig (((bs a0).drop a1.toNat)[k]) = true → -1 = mL4Num a0 a1 a2 := fun hb => by
      unfold mL4Num numL
      rw [if_neg fun hall => hb (List.all_eq_true.1 hall _ hmem)]
    have hx : ((((bs a0).drop a1.toNat)[k]).toNat) < 256 := UInt8.toNat_lt _
    have tk : ((bs a0).drop a1.toNat).take (k + 1) = ((bs a0).drop a1.toNat).take k ++ [((bs a0).drop a1.toNat)[k]] := by rw [List.take_add_one, List.getElem?_eq_getElem hkl]; rfl
    rw [hbt]
    generalize hB : ((bs a0).drop a1.toNat)[k] = B at *
    refine ⟨by omega, by omega, fun c => bad fun hh => by have := isDig_iff.1 hh; omega, fun c => ⟨by omega, by omega, fun c2 => bad fun hh => by have := isDig_iff.1 hh; omega, fun c2 => ⟨by omega, by omega, ?_⟩⟩⟩
    have hlen : (((bs a0).drop a1.toNat).take k).length ≤ 3 := by rw [List.length_take]; omega
    have hp : 10 ^ (((bs a0).drop a1.toNat).take k).length ≤ 10 ^ 3 := Nat.pow_le_pow_right (by omega) hlen
    have w8 : IntKind.u8.wrap ((B.toNat : Int) - 48) = (B.toNat : Int) - 48 := wrap8 (by omega) (by omega)
    have w1 : IntKind.i64.wrap ((B.toNat : Int) - 48) = (B.toNat : Int) - 48 := wrap64 (by omega) (by omega)
    have w2 : IntKind.i64.wrap ((valL (((bs a0).drop a1.toNat).take k) : Int) * 10) = (valL (((bs a0).drop a1.toNat).take k) : Int) * 10 := wrap64 (by omega) (by omega)
    have w3 : IntKind.i64.wrap ((valL (((bs a0).drop a1.toNat).take k) : Int) * 10 + ((B.toNat : Int) - 48)) = (valL (((bs a0).drop a1.toNat).take (k + 1)) : Int) := by
      rw [wrap64 (by omega) (by omega), tk, valL_snoc]; omega
    have w4 : IntKind.i64.wrap (a1 + (k : Int) + 1) = a1 + ((k + 1 : Nat) : Int) := by rw [wrap64 (by omega) (by omega)]; omega
    rw [w8, w1, w2, w3, w4]
    refine ih _ ⟨k + 1, by omega, rfl, ?_, rfl⟩ (by simp only; omega)
    rw [tk, List.all_append, hd]
    simp only [List.all_cons, List.all_nil, Bool.and_true, Bool.true_and]
    exact isDig_iff.2 (by omega)
  · have hke : a2.toNat = k := by omega
    unfold mL4Num numL
    rw [hke, if_pos hd]

def noSp (l : List UInt8) : Bool := l.all fun b => decide (b ≠ 32)
theorem year_tab : ∀ k : Fin 64, bs (mDec (1970 + ((k.val : Nat) : Int))) = yearL (1970 + k.val) ∧ numL (yearL (1970 + k.val)) = 1970 + ((k.val : Nat) : Int) ∧ noSp (yearL (1970 + k.val)) = true := by decide +kernel
theorem two_tab2 : ∀ k : Fin 100, numL (twoL k.val) = ((k.val : Nat) : Int) ∧ noSp (twoL k.val) = true := by decide +kernel
theorem week_tab2 : ∀ i : Fin 7, noSp (bs (rx weekL ((i.val : Nat) : Int))) = true := by decide +kernel
theorem month_tab2 : ∀ i : Fin 12, noSp (bs (rx monthL ((i.val : Nat) : Int))) = true ∧ monU (rx monthL ((i.val : Nat) : Int)) 12 = ((i.val + 1 : Nat) : Int) ∧ mIndex_string monthL (rx monthL ((i.val : Nat) : Int)) = ((i.val : Nat) : Int) := by decide +kernel
theorem three {l : List UInt8} (h : l.length = 3) : ∃ a b c, l = [a, b, c] := by
  match l, h with
  | [a, b, c], _ => exact ⟨a, b, c, rfl⟩
structure DateAt (s : S) (t : Int) (k j d hh mm ss : Nat) (w0 w1 w2 m0 m1 m2 : UInt8) : Prop where
  kL : k < 64
  jL : j < 12
  dL : 1 ≤ d ∧ (d : Int) ≤ mMonthDays (1970 + (k : Int)) ((j : Int) + 1)
  hL : hh < 24
  mL : mm < 60
  sL : ss < 60
  tE : t = ((d : Int) - 1 + daysY k + daysM (1970 + (k : Int)) j) * 86400 + (hh : Int) * 3600 + (mm : Int) * 60 + (ss : Int)
  mon : bs (rx monthL (j : Int)) = [m0, m1, m2]
  wk : noSp [w0, w1, w2] = true
  bytes : bs s = [w0, w1, w2, 44, 32] ++ (twoL d ++ (32 :: ([m0, m1, m2] ++ (32 :: (yearL (1970 + k) ++ (32 :: (twoL hh ++ 58 :: (twoL mm ++ 58 :: (twoL ss ++ [32, 71, 77, 84])))))))))
theorem date_at {s : S} {t : Int} (h : isDate s t) : ∃ k j d hh mm ss w0 w1 w2 m0 m1 m2, DateAt s t k j d hh mm ss w0 w1 w2 m0 m1 m2 := by
  obtain ⟨h0, h1, rfl⟩ := h
  obtain ⟨k, j, civ, hk⟩ := civil_ex (n := t / 86400) (by omega) (by omega)
  obtain ⟨w0, w1, w2, hw⟩ := three (l := bs (rx weekL (t / 86400 % 7))) (by rw [bs_len]; exact week_size (by omega) (by omega))
  obtain ⟨m0, m1, m2, hm⟩ := three (l := bs (rx monthL (j : Int))) (by rw [bs_len]; exact month_size (by omega) (by have := civ.2.1; omega))
  have hj := civ.2.1
  have e1 := civ.2.2.1
  have e2 := civ.2.2.2
  simp only [daysM] at e2
  refine ⟨k, j, (t / 86400 - daysY k - daysM (1970 + (k : Int)) j + 1).toNat, (t / 3600 % 24).toNat, (t / 60 % 60).toNat, (t % 60).toNat, w0, w1, w2, m0, m1, m2, hk, hj, ⟨by omega, by omega⟩, by omega, by omega, by omega, by omega, hm, ?_, ?_⟩
  · have := week_tab2 ⟨(t / 86400 % 7).toNat, by omega⟩
    simp only at this
    rw [show (((t / 86400 % 7).toNat : Nat) : Int) = t / 86400 % 7 by omega, hw] at this
    exact this
  · rw [showDate_at h0 h1 civ]
    obtain ⟨y1, _, _⟩ := year_tab ⟨k, hk⟩
    simp only at y1
    unfold showT
    simp only [bs_append, hw, hm, y1, bs_lit, mTwo, bs_ob, List.append_assoc, List.map_cons, List.map_nil, List.cons_append, List.nil_append]
    rfl
theorem noSp_two {n : Nat} (h : n < 100) : numL (twoL n) = (n : Int) ∧ noSp (twoL n) = true := two_tab2 ⟨n, h⟩
theorem date_spec {s : S} {t : Int} (h : isDate s t) : (s.size : Int) = 29 ∧ 0 ≤ mDaysOf (mL4Num s 12 4) (monU (s.extract 8 11) 12) (mL4Num s 5 2) ∧ 0 ≤ mL4Num s 17 2 ∧ 0 ≤ mL4Num s 20 2 ∧ 0 ≤ mL4Num s 23 2 ∧
    mDaysOf (mL4Num s 12 4) (monU (s.extract 8 11) 12) (mL4Num s 5 2) * 86400 + mL4Num s 17 2 * 3600 + mL4Num s 20 2 * 60 + mL4Num s 23 2 = t := by
  obtain ⟨k, j, d, hh, mm, ss, w0, w1, w2, m0, m1, m2, H⟩ := date_at h
  have hd31 := (monthDays_range (1970 + (k : Int)) (m := (j : Int) + 1) (by omega) (by have := H.jL; omega)).2
  have h1 := H.dL
  have sz : s.size = 29 := by rw [← bs_len, H.bytes]; rfl
  have y : mL4Num s 12 4 = 1970 + (k : Int) := by
    show numL (((bs s).drop 12).take 4) = _
    rw [H.bytes]
    exact (year_tab ⟨k, H.kL⟩).2.1
  have e5 : mL4Num s 5 2 = (d : Int) := by
    show numL (((bs s).drop 5).take 2) = _
    rw [H.bytes]
    exact (noSp_two (by omega)).1
  have e17 : mL4Num s 17 2 = (hh : Int) := by
    show numL (((bs s).drop 17).take 2) = _
    rw [H.bytes]
    exact (noSp_two (by have := H.hL; omega)).1
  have e20 : mL4Num s 20 2 = (mm : Int) := by
    show numL (((bs s).drop 20).take 2) = _
    rw [H.bytes]
    exact (noSp_two (by have := H.mL; omega)).1
  have e23 : mL4Num s 23 2 = (ss : Int) := by
    show numL (((bs s).drop 23).take 2) = _
    rw [H.bytes]
    exact (noSp_two (by have := H.sL; omega)).1
  have em : s.extract 8 11 = rx monthL (j : Int) := by
    apply bs_inj
    rw [bs_extract, H.bytes, H.mon]
    rfl
  have mo : monU (s.extract 8 11) 12 = (j : Int) + 1 := by
    rw [em]
    have := (month_tab2 ⟨j, H.jL⟩).2.1
    simp only at this
    rw [this]; omega
  rw [y, e5, e17, e20, e23, mo]
  have hj := H.jL
  have hk := H.kL
  have hy : mDaysOf (1970 + (k : Int)) ((j : Int) + 1) (d : Int) = (d : Int) - 1 + daysY k + daysM (1970 + (k : Int)) j := by
    rw [← daysOf_yes (in_iff.2 ⟨by omega, by omega⟩) (in_iff.2 ⟨by omega, by omega⟩) (in_iff.2 ⟨by omega, h1.2⟩)]
    rw [show (1970 + (k : Int) - 1970).toNat = k by omega, show ((j : Int) + 1 - 1).toNat = j by omega]
  have r1 := daysY_range k
  have r2 := daysM_range (1970 + (k : Int)) j (by omega)
  rw [hy]
  refine ⟨by omega, by omega, by omega, by omega, by omega, H.tE.symm⟩
theorem date_uniq {s : S} {t t' : Int} (h : isDate s t) (h' : isDate s t') : t = t' := (date_spec h).2.2.2.2.2.symm.trans (date_spec h').2.2.2.2.2
theorem readDate_no {s : S} (h : ∀ t, ¬ isDate s t) : (0, false) = mReadDate s := by
  unfold mReadDate
  rw [dif_neg fun ⟨t, ht⟩ => h t ht]
theorem readDate_yes {s : S} {t : Int} (h : isDate s t) : (t, true) = mReadDate s := by
  have hx : ∃ t, isDate s t := ⟨t, h⟩
  unfold mReadDate
  rw [dif_pos hx, date_uniq h (Classical.choose_spec hx)]
theorem daysOf_bound (y m d : Int) : -1 ≤ mDaysOf y m d ∧ mDaysOf y m d ≤ 30000 := by
  unfold mDaysOf
  split
  · next h =>
    simp only [Bool.and_eq_true] at h
    have iy := in_iff.1 h.1.1
    have im := in_iff.1 h.1.2
    have id := in_iff.1 h.2
    have hr := monthDays_range y im.1 im.2
    have r1 := daysY_range (y - 1970).toNat
    have r2 := daysM_range y (m - 1).toNat (by omega)
    omega
  · omega
theorem date_back {s : S} {t : Int} (hs : (s.size : Int) = 29) (h : mShowDate t = s) : isDate s t := by
  by_cases hr : 0 ≤ t ∧ t ≤ 2000000000
  · exact ⟨hr.1, hr.2, h⟩
  · rw [← showDate_no hr] at h
    rw [← h] at hs
    exact absurd hs (by decide)
theorem l4_bound (s : S) (i : Int) : -1 ≤ mL4Num s i 2 ∧ mL4Num s i 2 ≤ 99 := by
  have h := numL_le (((bs s).drop i.toNat).take 2)
  have hl : (((bs s).drop i.toNat).take 2).length ≤ 2 := by rw [List.length_take]; omega
  have hp : (10 : Int) ^ (((bs s).drop i.toNat).take 2).length ≤ 10 ^ 2 := by exact_mod_cast Nat.pow_le_pow_right (by omega) hl
  have e : mL4Num s i 2 = numL (((bs s).drop i.toNat).take 2) := rfl
  rw [e]
  omega
theorem spec_ReadDate_ok (a0 : S) (h : pReadDate a0) : s_spec_ReadDate a0 (fun r => r = mReadDate a0) := by
  refine ⟨fun hn => readDate_no fun t ht => hn (date_spec ht).1, fun hs => ?_⟩
  have hs : (a0.size : Int) = 29 := Classical.not_not.1 hs
  intro L hL
  refine loopI hL (fun y => ∃ i : Nat, i ≤ 12 ∧ y.2 = 1 + (i : Int) ∧ y.1 = monU (a0.extract 8 11) i) (fun y => (13 - y.2).toNat) (fun y hI ih => ?_) (0, 1) ⟨0, by omega, by simp, rfl⟩
  obtain ⟨x, m⟩ := y
  obtain ⟨i, hi, hm, hx⟩ := hI
  simp only at hm hx ⊢
  subst hm hx
  have wm : IntKind.i64.wrap (1 + (i : Int) - 1) = (i : Int) := by rw [wrap64 (by omega) (by omega)]; omega
  have wn : IntKind.i64.wrap (1 + (i : Int) + 1) = 1 + ((i + 1 : Nat) : Int) := by rw [wrap64 (by omega) (by omega)]; omega
  rw [wm, wn]
  refine ⟨fun hle => ⟨by decide, by decide, by omega, by omega, by show _ < (12 : Int); omega, fun he => ?_, fun he => ?_⟩, fun hge => ?_⟩
  · refine ih _ ⟨i + 1, by omega, rfl, ?_⟩ (by simp only; omega)
    have he : a0.extract 8 11 = rx monthL (i : Int) := he
    simp only [monU]
    rw [if_pos he]; omega
  · refine ih _ ⟨i + 1, by omega, rfl, ?_⟩ (by simp only; omega)
    have he : ¬ a0.extract 8 11 = rx monthL (i : Int) := he
    simp only [monU]
    rw [if_neg he]
  · have hie : i = 12 := by omega
    subst hie
    have hsm : sm a0 := h
    have P := fun t (ht : isDate a0 t) => date_spec ht
    have b0 := daysOf_bound (mL4Num a0 12 4) (monU (a0.extract 8 11) 12) (mL4Num a0 5 2)
    have b1 := l4_bound a0 17
    have b2 := l4_bound a0 20
    have b3 := l4_bound a0 23
    have no : ∀ {p : Prop}, (∀ t, isDate a0 t → p) → ¬ p → (0, false) = mReadDate a0 := fun hp hn => readDate_no fun t ht => hn (hp t ht)
    refine ⟨⟨by omega, by omega, by omega, by omega, hsm⟩, ⟨by omega, by omega, by omega, by omega, hsm⟩, trivial, ⟨by omega, by omega, by omega, by omega, hsm⟩, ⟨by omega, by omega, by omega, by omega, hsm⟩, ⟨by omega, by omega, by omega, by omega, hsm⟩, ?_⟩
    generalize hD : mDaysOf (mL4Num a0 12 4) (monU (a0.extract 8 11) 12) (mL4Num a0 5 2) = D at *
    generalize hA : mL4Num a0 17 2 = A at *
    generalize hB : mL4Num a0 20 2 = B at *
    generalize hC : mL4Num a0 23 2 = C at *
    have w1 : IntKind.i64.wrap (D * 86400) = D * 86400 := wrap64 (by omega) (by omega)
    have w2 : IntKind.i64.wrap (A * 3600) = A * 3600 := wrap64 (by omega) (by omega)
    have w3 : IntKind.i64.wrap (D * 86400 + A * 3600) = D * 86400 + A * 3600 := wrap64 (by omega) (by omega)
    have w4 : IntKind.i64.wrap (B * 60) = B * 60 := wrap64 (by omega) (by omega)
    have w5 : IntKind.i64.wrap (D * 86400 + A * 3600 + B * 60) = D * 86400 + A * 3600 + B * 60 := wrap64 (by omega) (by omega)
    have w6 : IntKind.i64.wrap (D * 86400 + A * 3600 + B * 60 + C) = D * 86400 + A * 3600 + B * 60 + C := wrap64 (by omega) (by omega)
    rw [w1, w2, w3, w4, w5, w6]
    refine ⟨fun c => no (fun t ht => (P t ht).2.1) (by omega), fun c0 => ⟨fun c => no (fun t ht => (P t ht).2.2.1) (by omega), fun c1 => ⟨fun c => no (fun t ht => (P t ht).2.2.2.1) (by omega), fun c2 => ⟨fun c => no (fun t ht => (P t ht).2.2.2.2.1) (by omega), fun c3 => ⟨⟨by omega, by omega⟩, fun c => readDate_no fun t ht => c ?_, fun c => readDate_yes (date_back hs (Classical.not_not.1 c))⟩⟩⟩⟩⟩
    rw [(P t ht).2.2.2.2.2]
    exact ht.2.2
theorem spec_DateOf_ok (a0 : List Fld) (a1 : S) (h : pDateOf a0 a1) : s_spec_DateOf a0 a1 (fun r => r = mDateOf a0 a1) :=
  ⟨h, fun hn => by unfold mDateOf; rw [if_neg hn], fun hy => ⟨by have := fieldGet_size a0 a1 h; show ByteArray.size _ ≤ _; omega, by unfold mDateOf; rw [if_pos (Classical.not_not.1 hy)]⟩⟩
theorem impl_DateOf_ok (a0 : List Fld) (a1 : S) (h : pDateOf a0 a1) : s_impl_DateOf a0 a1 (fun r => r = mDateOf a0 a1) := spec_DateOf_ok a0 a1 h
end Go.Ev
end

section
/- What the program's functions come to, each by itself: printed by a program of this session's own (EwShow) out of the small machine. -/
set_option linter.unusedVariables false
namespace Go.Ev

def s_impl_within (a0 : Int) (Q : (Int → Prop)) : Prop :=
  (Q (if 0 < (if 2147483648 < a0 then 2147483648 else a0) then (if 2147483648 < a0 then 2147483648 else a0) else 0))

end Go.Ev
end

section
/- What the laws' marks come to, and the law of Picked: printed by a program of this session's own (EwShow) out of the small machine. -/
set_option linter.unusedVariables false
namespace Go.Ev

end Go.Ev
end

section
/- What more of the laws' functions come to: printed by a program of this session's own (EwShow) out of the small machine. -/
set_option linter.unusedVariables false
namespace Go.Ev

end Go.Ev
end

section
/- What the laws' functions come to: printed by a program of this session's own (EwShow) out of the small machine. -/
set_option linter.unusedVariables false
namespace Go.Ev

end Go.Ev
end

section
/- Laws of the plain library: worlds. -/
set_option linter.unusedVariables false
namespace Go.Ev
theorem szF_md {α : Type} [Cz α] {x : α} {k : Int} (h : ¬ szF x k < 0) (h0 : 0 ≤ k) (h1 : k ≤ 1048576) : md x := by
  unfold szF leftI at h
  unfold md
  split at h
  · omega
  · omega
end Go.Ev
end

section
/- Laws of the plain library: the law of TagOf. -/
set_option linter.unusedVariables false
namespace Go.Ev
end Go.Ev
end

section
/- Laws of the plain library: the laws' functions of the doors. -/
set_option linter.unusedVariables false
namespace Go.Ev
theorem szF_le {α : Type} [Cz α] (x : α) {k : Int} (h0 : 0 ≤ k) : szF x k ≤ k := by
  unfold szF leftI
  split <;> omega
theorem pSz_next {α β : Type} [Cz α] [Cz β] [Wd β] {x : α} {y : β} {k : Int} (h : ¬ szF x k < 0) (h0 : 0 ≤ k) (h1 : k ≤ 1048576) (hy : wd y) : pSz y (szF x k) :=
  ⟨hy, by omega, by have := szF_le x h0; simp only [capI]; omega⟩
theorem md_req {q : Req} (h : md q) : md q.2.2.1 := by
  unfold md at h ⊢; simp only [cz_pair] at h; omega
theorem md_rsp {r : Rsp} (h : md r) : md r.2.1 := by
  unfold md at h ⊢; simp only [cz_pair] at h; omega
end Go.Ev
end

section
/- Laws of the plain library: more of the laws' functions. -/
set_option linter.unusedVariables false
namespace Go.Ev
end Go.Ev
end

section
/- Laws of the plain library: the laws' marks. -/
set_option linter.unusedVariables false
namespace Go.Ev
end Go.Ev
end

section
/- Laws of the plain library: marks of texts in a row, FieldSet, WithAge, VaryNames. -/
set_option linter.unusedVariables false
namespace Go.Ev
theorem impl_within_ok (a0 : Int) (h : pWithin a0) : s_impl_within a0 (fun r => r = mWithin a0) := rfl

end Go.Ev
end

section
/- Laws of the plain library: lifetimes, ages, what is fresh, what is not modified. -/
set_option linter.unusedVariables false
namespace Go.Ev
theorem readDate_pos (s : S) : 0 ≤ (mReadDate s).1 ∧ (mReadDate s).1 ≤ 2000000000 := by
  by_cases h : ∃ t, isDate s t
  · obtain ⟨t, ht⟩ := h
    rw [← readDate_yes ht]
    exact ⟨ht.1, ht.2.1⟩
  · rw [← readDate_no fun t ht => h ⟨t, ht⟩]
    constructor <;> decide
theorem dateOf_pos (l : List Fld) (n : S) : 0 ≤ (mDateOf l n).1 ∧ (mDateOf l n).1 ≤ 2000000000 := by
  unfold mDateOf
  split
  · exact readDate_pos _
  · constructor <;> decide
theorem seconds_range (s : S) : 0 ≤ (mSeconds s).1 ∧ (mSeconds s).1 ≤ 2147483648 := by
  unfold mSeconds
  split
  · simp only; omega
  · constructor <;> decide
theorem within_range (a : Int) : 0 ≤ mWithin a ∧ mWithin a ≤ 2147483648 := by
  unfold mWithin
  split <;> split <;> omega
theorem impl_later_ok (a0 a1 : Int) (h : pLater a0 a1) : s_impl_later a0 a1 (fun r => r = mLater a0 a1) := by
  obtain ⟨⟨h0, h1⟩, ⟨h2, h3⟩⟩ := h
  refine ⟨fun c => by unfold mLater; rw [if_pos c], fun c => ⟨fun d => by unfold mLater; rw [if_neg c, if_pos d], fun d => by unfold mLater; rw [if_neg c, if_neg d, wrap64 (by omega) (by omega)]⟩⟩
theorem later_in (a b : Int) (ha : in64 a) (hb : in64 b) : in64 (mLater a b) ∧ 0 ≤ mLater a b := by
  obtain ⟨a0, a1⟩ := ha
  obtain ⟨b0, b1⟩ := hb
  unfold mLater in64
  split
  · omega
  · split <;> omega
theorem impl_SatAdd_ok (a0 a1 : Int) (h : pSatAdd a0 a1) : s_impl_SatAdd a0 a1 (fun r => r = mSatAdd a0 a1) := by
  refine ⟨trivial, trivial, ?_⟩
  have r0 := within_range a0
  have r1 := within_range a1
  rw [wrap64 (by omega) (by omega)]
  rfl
theorem spec_SatAdd_ok (a0 a1 : Int) (h : pSatAdd a0 a1) : s_spec_SatAdd a0 a1 (fun r => r = mSatAdd a0 a1) := by
  show (if 2147483648 < (IntKind.i64.wrap (mWithin a0 + mWithin a1)) then 2147483648 else (IntKind.i64.wrap (mWithin a0 + mWithin a1))) = mSatAdd a0 a1
  have r0 := within_range a0
  have r1 := within_range a1
  rw [wrap64 (by omega) (by omega)]
  rfl
theorem satAdd_range (a b : Int) : 0 ≤ mSatAdd a b ∧ mSatAdd a b ≤ 2147483648 := by
  have r0 := within_range a
  have r1 := within_range b
  unfold mSatAdd
  split <;> omega

theorem ccFold_snoc (n : S) (l : List Fld) (d : Fld) : ccFold n (l ++ [d]) = ccF n (ccFold n l) d := by
  unfold ccFold; rw [List.foldl_append]; rfl
theorem ccFold_inv (n : S) : ∀ l : List Fld, ∀ x : Int × Bool, (x.2 = false → x.1 = 2147483648) → ((l.foldl (ccF n) x).2 = false → (l.foldl (ccF n) x).1 = 2147483648)
  | [], x, h => h
  | d :: l, x, h => by
    simp only [List.foldl_cons]
    refine ccFold_inv n l _ ?_
    unfold ccF
    split
    · intro h; simp at h
    · exact h
theorem dirs_bound {l : List Fld} (h : pDirectives l) {d : Fld} (hd : d ∈ mDirectives l) : sm d.2 := by
  obtain ⟨p, hp, he⟩ := List.mem_filterMap.1 hd
  have h1 := splitList_mem hp
  have h2 := fieldGet_size l nameCC h
  have h3 := (cut_sizes p).2
  unfold dirOf at he
  split at he
  · injection he with he
    subst he
    have h4 : (mL7Unquote (mCut p (lit [61])).2.1).size ≤ (mCut p (lit [61])).2.1.size := by
      unfold mL7Unquote
      split
      · rw [ByteArray.size_extract]; omega
      · exact Nat.le_refl _
    show (mL7Unquote (mCut p (lit [61])).2.1).size ≤ _
    omega
  · cases he
theorem spec_CcSeconds_ok (a0 : List Fld) (a1 : S) (h : pCcSeconds a0 a1) : s_spec_CcSeconds a0 a1 (fun r => r = mCcSeconds a0 a1) := by
  refine ⟨h, fun L hL => ?_⟩
  have hlen := directives_len a0 h
  refine loopG hL (mDirectives a0).length (fun i y => y.2.2 = (i : Int) ∧ (y.1, y.2.1) = ccFold a1 ((mDirectives a0).take i)) (fun i y hi hI hn => ?_) (s0 := (2147483648, false, 0)) ⟨rfl, by simp [ccFold]⟩
  obtain ⟨x, b, i'⟩ := y
  obtain ⟨h1, h2⟩ := hI
  simp only at h1 h2 ⊢
  subst h1
  rw [wrapS (by omega)]
  refine ⟨fun hlt => ?_, fun hge => ?_⟩
  · have hi2 : i < (mDirectives a0).length := by omega
    rw [rx_get _ hi2]
    have hs := dirs_bound h (List.getElem_mem hi2)
    have hst : ccFold a1 ((mDirectives a0).take (i + 1)) = ccF a1 (x, b) (mDirectives a0)[i] := by rw [take_succ_app hi2, ccFold_snoc, ← h2]
    refine ⟨by omega, hlt, fun he => ⟨by omega, hlt, hs, ?_⟩, fun he => ?_⟩
    · refine hn _ hi2 ⟨rfl, ?_⟩
      rw [hst]; unfold ccF; rw [if_pos he]
    · refine hn _ hi2 ⟨rfl, ?_⟩
      rw [hst]; unfold ccF; rw [if_neg he]
  · rw [List.take_of_length_le (by omega)] at h2
    refine ⟨fun hb => ?_, fun hb => ?_⟩
    · unfold mCcSeconds; rw [← h2, if_neg hb]
    · unfold mCcSeconds; rw [← h2, if_pos (Classical.not_not.1 hb)]
theorem impl_CcSeconds_ok (a0 : List Fld) (a1 : S) (h : pCcSeconds a0 a1) : s_impl_CcSeconds a0 a1 (fun r => r = mCcSeconds a0 a1) := by
  refine ⟨h, fun L hL => ?_⟩
  have hlen := directives_len a0 h
  refine loopG hL (mDirectives a0).length (fun i y => y.2.2 = (i : Int) ∧ y.2.1 = (ccFold a1 ((mDirectives a0).take i)).2 ∧ y.1 = if y.2.1 = true then (ccFold a1 ((mDirectives a0).take i)).1 else 0) (fun i y hi hI hn => ?_) (s0 := (0, false, 0)) ⟨rfl, by simp [ccFold], by simp⟩
  obtain ⟨x, b, i'⟩ := y
  obtain ⟨h1, h2, h3⟩ := hI
  simp only at h1 h2 h3 ⊢
  subst h1
  rw [wrapS (by omega)]
  refine ⟨fun hlt => ?_, fun hge => ?_⟩
  · have hi2 : i < (mDirectives a0).length := by omega
    rw [rx_get _ hi2]
    have hs := dirs_bound h (List.getElem_mem hi2)
    have hst : ccFold a1 ((mDirectives a0).take (i + 1)) = ccF a1 (ccFold a1 ((mDirectives a0).take i)) (mDirectives a0)[i] := by rw [take_succ_app hi2, ccFold_snoc]
    have hinv := ccFold_inv a1 ((mDirectives a0).take i) (2147483648, false) (fun _ => rfl)
    have hr := seconds_range ((mDirectives a0)[i]).2
    refine ⟨by omega, hlt, fun he => ?_, fun he => ⟨hs, fun hb => ?_, fun hb => ⟨fun hlt2 => ?_, fun hlt2 => ?_⟩⟩⟩
    · refine hn _ hi2 ⟨rfl, ?_, ?_⟩
      · simp only; rw [hst]; unfold ccF; rw [if_neg he]; exact h2
      · simp only; rw [hst]; unfold ccF; rw [if_neg he]; exact h3
    · refine hn _ hi2 ⟨rfl, ?_, ?_⟩
      · simp only; rw [hst]; unfold ccF; rw [if_pos (Classical.not_not.1 he)]
      · simp only; rw [hst]; unfold ccF; rw [if_pos (Classical.not_not.1 he)]
        have e1 : (ccFold a1 ((mDirectives a0).take i)).1 = 2147483648 := hinv (by show (ccFold a1 ((mDirectives a0).take i)).2 = false; rw [← h2]; simpa using hb)
        simp only [if_true]
        rw [e1]
        split <;> omega
    · have hb := Classical.not_not.1 hb
      refine hn _ hi2 ⟨rfl, ?_, ?_⟩
      · simp only; rw [hst]; unfold ccF; rw [if_pos (Classical.not_not.1 he)]
      · simp only; rw [hst]; unfold ccF; rw [if_pos (Classical.not_not.1 he)]
        rw [hb] at h3
        simp only [if_true] at h3 ⊢
        rw [← h3, if_pos hlt2]
    · have hb := Classical.not_not.1 hb
      refine hn _ hi2 ⟨rfl, ?_, ?_⟩
      · simp only; rw [hst]; unfold ccF; rw [if_pos (Classical.not_not.1 he)]
      · simp only; rw [hst]; unfold ccF; rw [if_pos (Classical.not_not.1 he)]
        rw [hb] at h3
        simp only [if_true] at h3 ⊢
        rw [← h3, if_neg hlt2]
  · rw [List.take_of_length_le (by omega)] at h2 h3
    unfold mCcSeconds
    rw [← h2]
    split
    · next hb => rw [if_pos hb] at h3; rw [h3, hb]
    · next hb => rw [if_neg hb] at h3; rw [h3]; simp at hb; rw [hb]
theorem firstAge_pre {r : Rsp} {a1 a2 : Int} (h : pFirstAge r a1 a2) : pSeconds (mFieldGet r.2.1 sAge).1 := by
  have := fieldGet_size r.2.1 sAge h.1
  unfold pSeconds sm
  omega
theorem in64_date (l : List Fld) (n : S) : in64 (mDateOf l n).1 := by
  have := dateOf_pos l n
  constructor <;> omega
theorem later_eq {a b : Int} (h0 : 0 ≤ b) (h : b < a) : mLater a b = a - b := by unfold mLater; rw [if_neg (by omega), if_neg (by omega)]
theorem later_zero {a b : Int} (h : b < 0 ∨ a ≤ b) : mLater a b = 0 := by
  unfold mLater
  rcases h with h | h
  · rw [if_pos h]
  · split
    · rfl
    · rfl
theorem impl_FirstAge_ok (a0 : Rsp) (a1 a2 : Int) (h : pFirstAge a0 a1 a2) : s_impl_FirstAge a0 a1 a2 (fun r => r = mFirstAge a0 a1 a2) := by
  have hs := firstAge_pre h
  obtain ⟨hm, h1, h2⟩ := h
  refine ⟨hm, fun hd => ⟨⟨h2, in64_date _ _⟩, trivial, hm, hs, ⟨h2, h1⟩, trivial, ?_⟩, fun hd => ⟨hm, hs, ⟨h2, h1⟩, trivial, ?_⟩⟩
  · have hd' : (mDateOf a0.2.1 sDate).2 = true := hd
    exact Eq.symm (by unfold mFirstAge; rw [if_pos hd']; rfl)
  · have hd' : ¬ (mDateOf a0.2.1 sDate).2 = true := hd
    exact Eq.symm (by unfold mFirstAge; rw [if_neg hd']; rfl)
theorem spec_FirstAge_ok (a0 : Rsp) (a1 a2 : Int) (h : pFirstAge a0 a1 a2) : s_spec_FirstAge a0 a1 a2 (fun r => r = mFirstAge a0 a1 a2) := by
  have hs := firstAge_pre h
  obtain ⟨hm, h1, h2⟩ := h
  have dp := dateOf_pos a0.2.1 sDate
  have i1 := h1.1; have i2 := h1.2; have i3 := h2.1; have i4 := h2.2
  have wl : a1 < a2 → 0 ≤ a1 → IntKind.i64.wrap (a2 - a1) = mLater a2 a1 := fun c c' => by rw [later_eq c' c, wrap64 (by omega) (by omega)]
  have z1 : a1 < a2 → ¬ 0 ≤ a1 → (0 : Int) = mLater a2 a1 := fun c c' => (later_zero (by omega)).symm
  have z2 : ¬ a1 < a2 → (0 : Int) = mLater a2 a1 := fun c => (later_zero (by omega)).symm
  have pos := satAdd_range (mSeconds (mFieldGet a0.2.1 sAge).1).1 (mLater a2 a1)
  have e : ∀ A B : Int, A = B → ∀ D : Int, D = (if (mDateOf a0.2.1 sDate).2 = true then mWithin (mLater a2 (mDateOf a0.2.1 sDate).1) else 0) → B = mLater a2 a1 → (if D < mSatAdd (mSeconds (mFieldGet a0.2.1 sAge).1).1 A then mSatAdd (mSeconds (mFieldGet a0.2.1 sAge).1).1 A else D) = mFirstAge a0 a1 a2 := by
    intro A B hAB D hD hB
    subst hAB
    subst hB
    unfold mFirstAge
    rw [← hD]
  have dd : (mDateOf a0.2.1 sDate).2 = true → (mDateOf a0.2.1 sDate).1 < a2 → (if 2147483648 < (IntKind.i64.wrap (a2 - (mDateOf a0.2.1 sDate).1)) then 2147483648 else (IntKind.i64.wrap (a2 - (mDateOf a0.2.1 sDate).1))) = (if (mDateOf a0.2.1 sDate).2 = true then mWithin (mLater a2 (mDateOf a0.2.1 sDate).1) else 0) := fun hd hlt => by
    rw [if_pos hd, later_eq dp.1 hlt, wrap64 (by omega) (by omega)]
    unfold mWithin
    split <;> split <;> omega
  have d0 : (mDateOf a0.2.1 sDate).2 = true → ¬ (mDateOf a0.2.1 sDate).1 < a2 → (0 : Int) = (if (mDateOf a0.2.1 sDate).2 = true then mWithin (mLater a2 (mDateOf a0.2.1 sDate).1) else 0) := fun hd hlt => by
    rw [if_pos hd, later_zero (by omega)]; decide
  have d1 : ¬ (mDateOf a0.2.1 sDate).2 = true → (0 : Int) = (if (mDateOf a0.2.1 sDate).2 = true then mWithin (mLater a2 (mDateOf a0.2.1 sDate).1) else 0) := fun hd => by rw [if_neg hd]
  exact ⟨hm, hs, hm, fun hd => ⟨fun hlt => ⟨fun c => ⟨fun c' => ⟨trivial, e _ _ (wl c c') _ (dd hd hlt) rfl⟩, fun c' => ⟨trivial, e _ _ rfl _ (dd hd hlt) (z1 c c')⟩⟩, fun c => ⟨trivial, e _ _ rfl _ (dd hd hlt) (z2 c)⟩⟩,
    fun hlt => ⟨fun c => ⟨fun c' => ⟨trivial, e _ _ (wl c c') _ (d0 hd hlt) rfl⟩, fun c' => ⟨trivial, e _ _ rfl _ (d0 hd hlt) (z1 c c')⟩⟩, fun c => ⟨trivial, e _ _ rfl _ (d0 hd hlt) (z2 c)⟩⟩⟩,
    fun hd => ⟨fun c => ⟨fun c' => ⟨trivial, e _ _ (wl c c') _ (d1 hd) rfl⟩, fun c' => ⟨trivial, e _ _ rfl _ (d1 hd) (z1 c c')⟩⟩, fun c => ⟨trivial, e _ _ rfl _ (d1 hd) (z2 c)⟩⟩⟩
theorem impl_AgeAt_ok (a0 : Rsp) (a1 a2 a3 : Int) (h : pAgeAt a0 a1 a2 a3) : s_impl_AgeAt a0 a1 a2 a3 (fun r => r = mAgeAt a0 a1 a2 a3) :=
  ⟨⟨h.1, h.2.1, h.2.2.1⟩, ⟨h.2.2.2, h.2.2.1⟩, trivial, rfl⟩
theorem spec_AgeAt_ok (a0 : Rsp) (a1 a2 a3 : Int) (h : pAgeAt a0 a1 a2 a3) : s_spec_AgeAt a0 a1 a2 a3 (fun r => r = mAgeAt a0 a1 a2 a3) := by
  obtain ⟨hm, h1, h2, h3⟩ := h
  have i1 := h2.1; have i2 := h2.2; have i3 := h3.1; have i4 := h3.2
  have hf : pFirstAge a0 a1 a2 := ⟨hm, h1, h2⟩
  have e : ∀ A : Int, A = mLater a3 a2 → mSatAdd (mFirstAge a0 a1 a2) A = mAgeAt a0 a1 a2 a3 := fun A hA => by rw [hA]; rfl
  exact ⟨fun c => ⟨fun c' => ⟨hf, trivial, e _ (by rw [later_eq c' c, wrap64 (by omega) (by omega)])⟩, fun c' => ⟨hf, trivial, e _ (later_zero (by omega)).symm⟩⟩, fun c => ⟨hf, trivial, e _ (later_zero (by omega)).symm⟩⟩

theorem nDate : lit [100, 97, 116, 101] = sDate := rfl
theorem nLast : lit [108, 97, 115, 116, 45, 109, 111, 100, 105, 102, 105, 101, 100] = sLast := rfl
theorem nExp : lit [101, 120, 112, 105, 114, 101, 115] = sExpires := rfl
theorem nNo : lit [110, 111, 45, 99, 97, 99, 104, 101] = sNoCache := rfl
theorem nMin : lit [109, 105, 110, 45, 102, 114, 101, 115, 104] = sMinFresh := rfl
theorem nMax : lit [109, 97, 120, 45, 97, 103, 101] = sMaxAge := rfl
theorem nSMax : lit [115, 45, 109, 97, 120, 97, 103, 101] = sSMaxAge := rfl
theorem impl_Lifetime_ok (a0 : Rsp) (h : pLifetime a0) : s_impl_Lifetime a0 (fun r => r = mLifetime a0) := by
  have hm : md a0.2.1 := h
  have p0 := dateOf_pos a0.2.1 sExpires
  have p1 := dateOf_pos a0.2.1 sDate
  have p2 := dateOf_pos a0.2.1 sLast
  unfold s_impl_Lifetime
  rw [nDate, nLast, nExp, nMax, nSMax]
  intro L hL
  have two : ([sSMaxAge, sMaxAge].length : Int) = 2 := rfl
  refine loopG hL 2 (fun i y => y = (i : Int) ∧ (1 ≤ i → ¬ (mCcSeconds a0.2.1 sSMaxAge).2 = true) ∧ (2 ≤ i → ¬ (mCcSeconds a0.2.1 sMaxAge).2 = true)) (fun i y hi hI hn => ?_) (s0 := 0) ⟨rfl, by omega, by omega⟩
  obtain ⟨rfl, c0, c1⟩ := hI
  rw [wrapS (by omega)]
  refine ⟨fun hlt => ⟨by omega, hlt, hm, fun hy => ?_, fun hy => ?_⟩, fun hge => ?_⟩
  · have hlt : (i : Int) < 2 := hlt
    have h2 : i = 0 ∨ i = 1 := by omega
    rcases h2 with rfl | rfl
    · unfold mLifetime
      rw [if_pos (show (mCcSeconds a0.2.1 sSMaxAge).2 = true from hy)]
      rfl
    · unfold mLifetime
      rw [if_neg (c0 (by omega)), if_pos (show (mCcSeconds a0.2.1 sMaxAge).2 = true from hy)]
      rfl
  · have hlt : (i : Int) < 2 := hlt
    have h2 : i = 0 ∨ i = 1 := by omega
    rcases h2 with rfl | rfl
    · exact hn _ (by omega) ⟨rfl, fun _ => hy, by omega⟩
    · exact hn _ (by omega) ⟨rfl, fun _ => c0 (by omega), fun _ => hy⟩
  · have hge : ¬ (i : Int) < 2 := hge
    have hi2 : i = 2 := by omega
    subst hi2
    have n0 := c0 (by omega)
    have n1 := c1 (by omega)
    have base : mLifetime a0 = if (mFieldGet a0.2.1 sExpires).2 = true then
      (if (mDateOf a0.2.1 sExpires).2 = true ∧ (mDateOf a0.2.1 sDate).2 = true then mLater (mDateOf a0.2.1 sExpires).1 (mDateOf a0.2.1 sDate).1 else 0)
      else (if (mDateOf a0.2.1 sLast).2 = true ∧ (mDateOf a0.2.1 sDate).2 = true then (mLater (mDateOf a0.2.1 sDate).1 (mDateOf a0.2.1 sLast).1).tdiv 10 else 0) := by
      unfold mLifetime; rw [if_neg n0, if_neg n1]
    refine ⟨hm, hm, fun (he : (mFieldGet a0.2.1 sExpires).2 = true) => ⟨hm, fun c => ?_, fun c => ⟨fun d => ?_, fun d => ⟨⟨in64_date _ _, in64_date _ _⟩, ?_⟩⟩⟩, fun (he : ¬ (mFieldGet a0.2.1 sExpires).2 = true) => ⟨hm, fun c => ?_, fun c => ⟨fun d => ?_, fun d => ⟨⟨in64_date _ _, in64_date _ _⟩, by decide, ?_⟩⟩⟩⟩
    · exact Eq.symm (by rw [base, if_pos he, if_neg fun hh => c hh.1])
    · exact Eq.symm (by rw [base, if_pos he, if_neg fun hh => d hh.2])
    · exact Eq.symm (by rw [base, if_pos he, if_pos ⟨Classical.not_not.1 c, Classical.not_not.1 d⟩])
    · exact Eq.symm (by rw [base, if_neg he, if_neg fun hh => c hh.1])
    · exact Eq.symm (by rw [base, if_neg he, if_neg fun hh => d hh.2])
    · refine Eq.trans ?_ (Eq.symm (by rw [base, if_neg he, if_pos ⟨Classical.not_not.1 c, Classical.not_not.1 d⟩] : mLifetime a0 = (mLater (mDateOf a0.2.1 sDate).1 (mDateOf a0.2.1 sLast).1).tdiv 10))
      have := later_in (mDateOf a0.2.1 sDate).1 (mDateOf a0.2.1 sLast).1 (in64_date _ _) (in64_date _ _)
      have ht := td10 (mLater (mDateOf a0.2.1 sDate).1 (mDateOf a0.2.1 sLast).1)
      exact wrap64 (by omega) (by have := this.1.2; omega)
theorem diff_later {a b : Int} (ha : 0 ≤ a ∧ a ≤ 2000000000) (hb : 0 ≤ b ∧ b ≤ 2000000000) : (if 0 < IntKind.i64.wrap (a - b) then IntKind.i64.wrap (a - b) else 0) = mLater a b := by
  rw [wrap64 (by omega) (by omega)]
  unfold mLater
  rw [if_neg (show ¬ b < 0 by omega)]
  by_cases hc : a ≤ b
  · rw [if_pos hc, if_neg (by omega)]
  · rw [if_neg hc, if_pos (by omega)]
theorem spec_Lifetime_ok (a0 : Rsp) (h : pLifetime a0) : s_spec_Lifetime a0 (fun r => r = mLifetime a0) := by
  have hm : md a0.2.1 := h
  have p0 := dateOf_pos a0.2.1 sExpires
  have p1 := dateOf_pos a0.2.1 sDate
  have p2 := dateOf_pos a0.2.1 sLast
  unfold s_spec_Lifetime
  rw [nDate, nLast, nExp, nMax, nSMax]
  refine ⟨hm, fun hy => Eq.symm (by unfold mLifetime; rw [if_pos hy]), fun n0 => ⟨hm, fun hy => Eq.symm (by unfold mLifetime; rw [if_neg n0, if_pos hy]), fun n1 => ?_⟩⟩
  have base : mLifetime a0 = if (mFieldGet a0.2.1 sExpires).2 = true then
      (if (mDateOf a0.2.1 sExpires).2 = true ∧ (mDateOf a0.2.1 sDate).2 = true then mLater (mDateOf a0.2.1 sExpires).1 (mDateOf a0.2.1 sDate).1 else 0)
      else (if (mDateOf a0.2.1 sLast).2 = true ∧ (mDateOf a0.2.1 sDate).2 = true then (mLater (mDateOf a0.2.1 sDate).1 (mDateOf a0.2.1 sLast).1).tdiv 10 else 0) := by
      unfold mLifetime; rw [if_neg n0, if_neg n1]
  refine ⟨hm, hm, fun (he : (mFieldGet a0.2.1 sExpires).2 = true) => ⟨hm, fun c => ?_, fun c => ⟨fun d => ?_, fun d => ?_⟩⟩, fun (he : ¬ (mFieldGet a0.2.1 sExpires).2 = true) => ⟨hm, fun d => ⟨fun c => ⟨by decide, ?_⟩, fun c => ?_⟩, fun d => ?_⟩⟩
  · exact Eq.symm (by rw [base, if_pos he, if_neg fun hh => c hh.1])
  · exact Eq.symm (by rw [base, if_pos he, if_neg fun hh => d hh.2])
  · exact (diff_later p0 p1).trans (Eq.symm (by rw [base, if_pos he, if_pos ⟨Classical.not_not.1 c, Classical.not_not.1 d⟩]))
  · refine Eq.trans ?_ (Eq.symm (by rw [base, if_neg he, if_pos ⟨c, d⟩, ← diff_later p1 p2] : mLifetime a0 = (if 0 < IntKind.i64.wrap ((mDateOf a0.2.1 sDate).1 - (mDateOf a0.2.1 sLast).1) then IntKind.i64.wrap ((mDateOf a0.2.1 sDate).1 - (mDateOf a0.2.1 sLast).1) else 0).tdiv 10))
    have := later_in (mDateOf a0.2.1 sDate).1 (mDateOf a0.2.1 sLast).1 (in64_date _ _) (in64_date _ _)
    rw [← diff_later p1 p2] at this
    have ht := td10 (if 0 < IntKind.i64.wrap ((mDateOf a0.2.1 sDate).1 - (mDateOf a0.2.1 sLast).1) then IntKind.i64.wrap ((mDateOf a0.2.1 sDate).1 - (mDateOf a0.2.1 sLast).1) else 0)
    exact wrap64 (by omega) (by have := this.1.2; omega)
  · exact Eq.symm (by rw [base, if_neg he, if_neg fun hh => c hh.1])
  · exact Eq.symm (by rw [base, if_neg he, if_neg fun hh => d hh.2])
theorem spec_MustCheck_ok (a0 : Req) (a1 : Rsp) (a2 a3 a4 : Int) (h : pMustCheck a0 a1 a2 a3 a4) : s_spec_MustCheck a0 a1 a2 a3 a4 (fun r => r = mMustCheck a0 a1 a2 a3 a4) := by
  obtain ⟨h0, h1, h2, h3, h4⟩ := h
  unfold mMustCheck s_spec_MustCheck
  rw [nMax, nNo, nMin]
  refine ⟨h0, fun c => ?_, fun c => ⟨h1, fun d => ?_, fun d => ⟨⟨h1, h2, h3, h4⟩, h1, h0, fun e => ⟨fun f => ?_, fun f => ⟨h0, fun g => ⟨trivial, fun i => ?_, fun i => ?_⟩, fun g => ?_⟩⟩, fun e => ⟨h0, fun g => ⟨trivial, fun i => ?_, fun i => ?_⟩, fun g => ?_⟩⟩⟩⟩
  · rw [show mCcHas a0.2.2.1 sNoCache = true from c]; rfl
  · rw [show mCcHas a1.2.1 sNoCache = true from d]; simp
  · rw [show (mCcSeconds a0.2.2.1 sMaxAge).2 = true from e, show decide ((mCcSeconds a0.2.2.1 sMaxAge).1 < mAgeAt a1 a2 a3 a4) = true from decide_eq_true f]; simp
  · rw [show (mCcSeconds a0.2.2.1 sMinFresh).2 = true from g, show decide (mLifetime a1 < mSatAdd (mAgeAt a1 a2 a3 a4) (mCcSeconds a0.2.2.1 sMinFresh).1) = true from decide_eq_true i]; simp
  · rw [show mCcHas a0.2.2.1 sNoCache = false by simpa using c, show mCcHas a1.2.1 sNoCache = false by simpa using d, show decide ((mCcSeconds a0.2.2.1 sMaxAge).1 < mAgeAt a1 a2 a3 a4) = false from decide_eq_false f, show decide (mLifetime a1 < mSatAdd (mAgeAt a1 a2 a3 a4) (mCcSeconds a0.2.2.1 sMinFresh).1) = false from decide_eq_false i]; simp
  · rw [show mCcHas a0.2.2.1 sNoCache = false by simpa using c, show mCcHas a1.2.1 sNoCache = false by simpa using d, show decide ((mCcSeconds a0.2.2.1 sMaxAge).1 < mAgeAt a1 a2 a3 a4) = false from decide_eq_false f, show (mCcSeconds a0.2.2.1 sMinFresh).2 = false by simpa using g]; simp
  · rw [show (mCcSeconds a0.2.2.1 sMinFresh).2 = true from g, show decide (mLifetime a1 < mSatAdd (mAgeAt a1 a2 a3 a4) (mCcSeconds a0.2.2.1 sMinFresh).1) = true from decide_eq_true i]; simp
  · rw [show mCcHas a0.2.2.1 sNoCache = false by simpa using c, show mCcHas a1.2.1 sNoCache = false by simpa using d, show (mCcSeconds a0.2.2.1 sMaxAge).2 = false by simpa using e, show decide (mLifetime a1 < mSatAdd (mAgeAt a1 a2 a3 a4) (mCcSeconds a0.2.2.1 sMinFresh).1) = false from decide_eq_false i]; simp
  · rw [show mCcHas a0.2.2.1 sNoCache = false by simpa using c, show mCcHas a1.2.1 sNoCache = false by simpa using d, show (mCcSeconds a0.2.2.1 sMaxAge).2 = false by simpa using e, show (mCcSeconds a0.2.2.1 sMinFresh).2 = false by simpa using g]; simp
theorem impl_MustCheck_ok (a0 : Req) (a1 : Rsp) (a2 a3 a4 : Int) (h : pMustCheck a0 a1 a2 a3 a4) : s_impl_MustCheck a0 a1 a2 a3 a4 (fun r => r = mMustCheck a0 a1 a2 a3 a4) := spec_MustCheck_ok a0 a1 a2 a3 a4 h

def p_FnExactMustCheck (a0 : Req) (a1 : Rsp) (a2 a3 a4 : Int) : Prop := wd a0 ∧ wd a1 ∧ wd a2 ∧ wd a3 ∧ wd a4
theorem laws_FnExactMustCheck_ok (a0 : Req) (a1 : Rsp) (a2 a3 a4 : Int) (h : p_FnExactMustCheck a0 a1 a2 a3 a4) : s_laws_FnExactMustCheck a0 a1 a2 a3 a4 (fun r => r = true) := by
  obtain ⟨w0, w1, w2, w3, w4⟩ := h
  refine ⟨⟨w0, by omega, by simp [capI]⟩, fun _ => rfl, fun hs0 => ⟨pSz_next hs0 (by omega) (by omega) w1, fun _ => rfl, fun hs1 => ?_⟩⟩
  have k0 := szF_le a0 (k := 1048576) (by omega)
  have m0 : md a0 := szF_md hs0 (by omega) (by omega)
  have m1 : md a1 := szF_md hs1 (by omega) (by omega)
  have hp : pMustCheck (toF a0) (toF a1) a2 a3 a4 := ⟨md_req m0, md_rsp m1, wd_int.1 w2, wd_int.1 w3, wd_int.1 w4⟩
  exact ⟨m0, m1, hp, m0, m1, hp, fun hne => absurd rfl hne, fun _ => ⟨m0, w0, fun hne => absurd (eqF_iff.2 rfl) hne, fun _ => ⟨m1, w1, fun hne => absurd (eqF_iff.2 rfl) hne, fun _ => rfl⟩⟩⟩
end Go.Ev
end

section
/- Laws of the plain library: dates and seconds that are read, as impl does. -/
set_option linter.unusedVariables false
namespace Go.Ev
def spl (s : S) : List S := mSplit s (lit [32])
theorem occ_one {l : List UInt8} {i : Nat} : Lib.occAt l [32] i = true ↔ l[i]? = some 32 := by
  unfold Lib.occAt
  cases hd : l.drop i with
  | nil =>
    have : l.length ≤ i := List.drop_eq_nil_iff.1 hd
    simp [List.getElem?_eq_none this]
  | cons b r =>
    have hi : i < l.length := by
      rcases Nat.lt_or_ge i l.length with h | h
      · exact h
      · rw [List.drop_eq_nil_of_le h] at hd; cases hd
    have hb : l[i]? = some b := by rw [← List.head?_drop, hd]; rfl
    rw [hb]
    simp [List.isPrefixOf]
    exact ⟨fun h => h.symm, fun h => h.symm⟩
theorem spl_hit {s : S} {p r : List UInt8} (hp : noSp p = true) (h : bs s = p ++ 32 :: r) : spl s = ob p :: spl (ob r) := by
  have hi : Lib.indexB s (lit [32]) = (p.length : Int) := by
    show Lib.index (bs s) [32] = _
    rw [h]
    refine Lib.index_hit (fun j hj => ?_) (by simp) (occ_one.2 (by simp))
    cases ho : Lib.occAt (p ++ 32 :: r) [32] j with
    | false => rfl
    | true =>
      have h1 := occ_one.1 ho
      rw [List.getElem?_append_left hj, List.getElem?_eq_getElem hj] at h1
      have h2 := List.all_eq_true.1 hp _ (List.getElem_mem hj)
      injection h1 with h1
      rw [h1] at h2
      simp at h2
  have hsz : (lit [32]).size = 1 := rfl
  have e1 : s.extract 0 (p.length + 0) = ob p := by
    apply bs_inj
    rw [bs_extract, h, bs_ob]
    simp
  have e2 : s.extract (p.length + (lit [32]).size) s.size = ob r := by
    apply bs_inj
    rw [bs_extract, ← bs_len, h, bs_ob, hsz]
    have : p ++ 32 :: r = (p ++ [32]) ++ r := by simp
    rw [this]
    simp only [List.length_append, List.length_cons, List.length_nil]
    rw [List.drop_left' (by simp), List.take_of_length_le (by omega)]
  unfold spl mSplit
  rw [Lib.countB_hit s (lit [32]) p.length (by rw [hsz]; omega) hi, Nat.add_comm 1, Lib.splitB_hit _ _ _ _ _ hi, e1, e2]
theorem spl_last {s : S} (h : noSp (bs s) = true) : spl s = [s] := by
  have hi : Lib.indexB s (lit [32]) = -1 := by
    show Lib.index (bs s) [32] = _
    refine Lib.index_none fun j hj => ?_
    cases ho : Lib.occAt (bs s) [32] j with
    | false => rfl
    | true =>
      have h1 := occ_one.1 ho
      have h2 := List.all_eq_true.1 h _ (List.mem_of_getElem? h1)
      simp at h2
  unfold spl mSplit
  exact Lib.splitB_miss _ _ _ _ hi
theorem splitB_size (k : Nat) : ∀ (s x : S), x ∈ Lib.splitB (lit [32]) 0 k s → x.size ≤ s.size := by
  induction k with
  | zero => intro s x h; rw [Lib.splitB_zero] at h; simp at h; rw [h]; exact Nat.le_refl _
  | succ k ih =>
    intro s x h
    rcases Lib.index_spec (bs s) [32] with ⟨hm, _⟩ | ⟨i, hi, _⟩
    · rw [Lib.splitB_miss _ _ _ _ hm] at h; simp at h; rw [h]; exact Nat.le_refl _
    · rw [Lib.splitB_hit _ _ _ _ i hi] at h
      rcases List.mem_cons.1 h with h | h
      · rw [h, ByteArray.size_extract]; omega
      · have := ih _ _ h
        rw [ByteArray.size_extract] at this
        omega
theorem rx_spl_size (s : S) (i : Nat) : (rx (spl s) (i : Int)).size ≤ s.size := by
  by_cases hi : i < (spl s).length
  · rw [rx_get _ hi]
    exact splitB_size _ _ _ (List.getElem_mem hi)
  · unfold rx
    have : (spl s)[i]? = none := List.getElem?_eq_none (by omega)
    simp [this, Dft.dft]
theorem number_of {l : List UInt8} {n : Int} (h : numL l = n) (h0 : 0 ≤ n) (hne : l ≠ []) (hl : l.length ≤ 18) : mNumber (ob l) = n := by
  unfold numL at h
  split at h
  · next hd =>
    unfold mNumber
    rw [bs_ob, if_pos hd, atoiV_val hne hd hl, h]
  · omega
theorem impl_number_ok (a0 : S) (h : pNumber a0) : s_impl_number a0 (fun r => r = mNumber a0) := by
  have hsm : a0.size ≤ 1073741824 := h
  have hl := bs_len a0
  intro L hL
  refine loopG hL a0.size (fun i y => y = (i : Int) ∧ ((bs a0).take i).all isDig = true) (fun i y hi hI hn => ?_) (s0 := 0) ⟨rfl, by simp⟩
  obtain ⟨rfl, hd⟩ := hI
  rw [wrapS (by omega)]
  refine ⟨fun hlt => ?_, fun hge => ?_⟩
  · have hi2 : i < (bs a0).length := by omega
    have hbt : bt a0 (i : Int) = (((bs a0)[i]).toNat : Int) := bt_nat a0 i (by omega)
    have bad : ¬ isDig ((bs a0)[i]) = true → -1 = mNumber a0 := fun hb => by
      unfold mNumber
      rw [if_neg fun hall => hb (List.all_eq_true.1 hall _ (List.getElem_mem hi2))]
    rw [hbt]
    refine ⟨by omega, hlt, fun c => bad fun hh => by have := isDig_iff.1 hh; omega, fun c => ⟨by omega, hlt, fun c2 => bad fun hh => by have := isDig_iff.1 hh; omega, fun c2 => ?_⟩⟩
    refine hn _ (by omega) ⟨rfl, ?_⟩
    rw [take_succ_app hi2, List.all_append, hd]
    simp only [List.all_cons, List.all_nil, Bool.and_true, Bool.true_and]
    exact isDig_iff.2 (by omega)
  · rw [List.take_of_length_le (by omega)] at hd
    refine ⟨h, ?_⟩
    unfold mNumber
    rw [if_pos hd]; rfl
theorem noSp_app {a b : List UInt8} : noSp (a ++ b) = (noSp a && noSp b) := by unfold noSp; exact List.all_append
theorem date_impl {s : S} {t : Int} (h : isDate s t) : ((spl s).length : Int) = 6 ∧ (s.size : Int) = 29 ∧ ((rx (spl s) 4).size : Int) = 8 ∧ ((rx (spl s) 3).size : Int) = 4 ∧
    0 ≤ mDaysOf (mNumber (rx (spl s) 3)) (IntKind.i64.wrap (mIndex_string monthL (rx (spl s) 2) + 1)) (mNumber (rx (spl s) 1)) ∧
    IntKind.i64.wrap (IntKind.i64.wrap (IntKind.i64.wrap (IntKind.i64.wrap (mDaysOf (mNumber (rx (spl s) 3)) (IntKind.i64.wrap (mIndex_string monthL (rx (spl s) 2) + 1)) (mNumber (rx (spl s) 1)) * 86400) + IntKind.i64.wrap (3600 * mNumber ((rx (spl s) 4).extract 0 2))) + IntKind.i64.wrap (60 * mNumber ((rx (spl s) 4).extract 3 5))) + mNumber ((rx (spl s) 4).extract 6 (rx (spl s) 4).size)) = t := by
  obtain ⟨k, j, d, hh, mm, ss, w0, w1, w2, m0, m1, m2, H⟩ := date_at h
  have hd31 := (monthDays_range (1970 + (k : Int)) (m := (j : Int) + 1) (by omega) (by have := H.jL; omega)).2
  have h1 := H.dL
  have hj := H.jL
  have hk := H.kL
  have sz : s.size = 29 := by rw [← bs_len, H.bytes]; rfl
  obtain ⟨y1, y2, y3⟩ := year_tab ⟨k, hk⟩
  simp only at y1 y2 y3
  obtain ⟨d1, d2⟩ := noSp_two (n := d) (by omega)
  obtain ⟨a1, a2⟩ := noSp_two (n := hh) (by have := H.hL; omega)
  obtain ⟨b1, b2⟩ := noSp_two (n := mm) (by have := H.mL; omega)
  obtain ⟨c1, c2⟩ := noSp_two (n := ss) (by have := H.sL; omega)
  obtain ⟨mo1, mo2, mo3⟩ := month_tab2 ⟨j, hj⟩
  simp only at mo1 mo2 mo3
  rw [H.mon] at mo1
  have hw : noSp [w0, w1, w2, 44] = true := by
    rw [show [w0, w1, w2, 44] = [w0, w1, w2] ++ [44] from rfl, noSp_app, H.wk]; rfl
  have ht : noSp (twoL hh ++ 58 :: (twoL mm ++ 58 :: twoL ss)) = true := by
    rw [show twoL hh ++ 58 :: (twoL mm ++ 58 :: twoL ss) = twoL hh ++ ([58] ++ (twoL mm ++ ([58] ++ twoL ss))) from rfl, noSp_app, noSp_app, noSp_app, noSp_app, a2, b2, c2]; rfl
  have hB : bs s = [w0, w1, w2, 44] ++ 32 :: (twoL d ++ 32 :: ([m0, m1, m2] ++ 32 :: (yearL (1970 + k) ++ 32 :: ((twoL hh ++ 58 :: (twoL mm ++ 58 :: twoL ss)) ++ 32 :: [71, 77, 84])))) := by
    rw [H.bytes]
    simp only [List.append_assoc, List.cons_append, List.nil_append]
  have hS : spl s = [ob [w0, w1, w2, 44], ob (twoL d), ob [m0, m1, m2], ob (yearL (1970 + k)), ob (twoL hh ++ 58 :: (twoL mm ++ 58 :: twoL ss)), ob [71, 77, 84]] := by
    rw [spl_hit hw hB, spl_hit d2 (bs_ob _), spl_hit mo1 (bs_ob _), spl_hit y3 (bs_ob _), spl_hit ht (bs_ob _), spl_last (by rw [bs_ob]; rfl)]
  have em : ob [m0, m1, m2] = rx monthL (j : Int) := by
    apply bs_inj; rw [bs_ob, H.mon]
  rw [hS]
  have r3 : mNumber (rx [ob [w0, w1, w2, 44], ob (twoL d), ob [m0, m1, m2], ob (yearL (1970 + k)), ob (twoL hh ++ 58 :: (twoL mm ++ 58 :: twoL ss)), ob [71, 77, 84]] 3) = 1970 + (k : Int) := number_of (l := yearL (1970 + k)) y2 (by omega) (by unfold yearL; simp) (by unfold yearL; simp)
  have r2 : IntKind.i64.wrap (mIndex_string monthL (rx [ob [w0, w1, w2, 44], ob (twoL d), ob [m0, m1, m2], ob (yearL (1970 + k)), ob (twoL hh ++ 58 :: (twoL mm ++ 58 :: twoL ss)), ob [71, 77, 84]] 2) + 1) = (j : Int) + 1 := by
    show IntKind.i64.wrap (mIndex_string monthL (ob [m0, m1, m2]) + 1) = _
    rw [em, mo3, wrap64 (by omega) (by omega)]
  have r1 : mNumber (rx [ob [w0, w1, w2, 44], ob (twoL d), ob [m0, m1, m2], ob (yearL (1970 + k)), ob (twoL hh ++ 58 :: (twoL mm ++ 58 :: twoL ss)), ob [71, 77, 84]] 1) = (d : Int) := number_of (l := twoL d) d1 (by omega) (by unfold twoL; simp) (by unfold twoL; simp)
  have e0 : ∀ a b : Nat, ∀ l : List UInt8, ((bs (ob (twoL hh ++ 58 :: (twoL mm ++ 58 :: twoL ss)))).drop a).take (b - a) = l → (ob (twoL hh ++ 58 :: (twoL mm ++ 58 :: twoL ss))).extract a b = ob l := fun a b l hl => by
    apply bs_inj; rw [bs_extract, bs_ob l, ← hl]
  have rh : mNumber ((ob (twoL hh ++ 58 :: (twoL mm ++ 58 :: twoL ss))).extract 0 2) = (hh : Int) := by
    rw [e0 0 2 (twoL hh) (by rw [bs_ob]; rfl)]
    exact number_of a1 (by omega) (by unfold twoL; simp) (by unfold twoL; simp)
  have rm : mNumber ((ob (twoL hh ++ 58 :: (twoL mm ++ 58 :: twoL ss))).extract 3 5) = (mm : Int) := by
    rw [e0 3 5 (twoL mm) (by rw [bs_ob]; rfl)]
    exact number_of b1 (by omega) (by unfold twoL; simp) (by unfold twoL; simp)
  have s8 : (ob (twoL hh ++ 58 :: (twoL mm ++ 58 :: twoL ss))).size = 8 := by rw [ob_size]; rfl
  have rs : mNumber ((ob (twoL hh ++ 58 :: (twoL mm ++ 58 :: twoL ss))).extract 6 (ob (twoL hh ++ 58 :: (twoL mm ++ 58 :: twoL ss))).size) = (ss : Int) := by
    rw [s8, e0 6 8 (twoL ss) (by rw [bs_ob]; rfl)]
    exact number_of c1 (by omega) (by unfold twoL; simp) (by unfold twoL; simp)
  rw [r3, r2, r1]
  have q4 : rx [ob [w0, w1, w2, 44], ob (twoL d), ob [m0, m1, m2], ob (yearL (1970 + k)), ob (twoL hh ++ 58 :: (twoL mm ++ 58 :: twoL ss)), ob [71, 77, 84]] 4 = ob (twoL hh ++ 58 :: (twoL mm ++ 58 :: twoL ss)) := rfl
  have q3 : rx [ob [w0, w1, w2, 44], ob (twoL d), ob [m0, m1, m2], ob (yearL (1970 + k)), ob (twoL hh ++ 58 :: (twoL mm ++ 58 :: twoL ss)), ob [71, 77, 84]] 3 = ob (yearL (1970 + k)) := rfl
  rw [q4, q3, rh, rm, rs, s8, ob_size]
  have hy : mDaysOf (1970 + (k : Int)) ((j : Int) + 1) (d : Int) = (d : Int) - 1 + daysY k + daysM (1970 + (k : Int)) j := by
    rw [← daysOf_yes (in_iff.2 ⟨by omega, by omega⟩) (in_iff.2 ⟨by omega, by omega⟩) (in_iff.2 ⟨by omega, h1.2⟩)]
    rw [show (1970 + (k : Int) - 1970).toNat = k by omega, show ((j : Int) + 1 - 1).toNat = j by omega]
  have g1 := daysY_range k
  have g2 := daysM_range (1970 + (k : Int)) j (by omega)
  rw [hy]
  have g3 := H.hL
  have g4 := H.mL
  have g5 := H.sL
  have hT := H.tE
  refine ⟨rfl, by omega, rfl, by unfold yearL; rfl, by omega, ?_⟩
  have v1 : IntKind.i64.wrap (((d : Int) - 1 + daysY k + daysM (1970 + (k : Int)) j) * 86400) = ((d : Int) - 1 + daysY k + daysM (1970 + (k : Int)) j) * 86400 := wrap64 (by omega) (by omega)
  have v2 : IntKind.i64.wrap (3600 * (hh : Int)) = 3600 * (hh : Int) := wrap64 (by omega) (by omega)
  have v4 : IntKind.i64.wrap (60 * (mm : Int)) = 60 * (mm : Int) := wrap64 (by omega) (by omega)
  rw [v1, v2, v4]
  generalize ((d : Int) - 1 + daysY k + daysM (1970 + (k : Int)) j) * 86400 = D at *
  have b1 : 0 ≤ t ∧ t ≤ 2000000000 := ⟨h.1, h.2.1⟩
  rw [wrap64 (n := D + 3600 * (hh : Int)) (by omega) (by omega), wrap64 (n := D + 3600 * (hh : Int) + 60 * (mm : Int)) (by omega) (by omega), wrap64 (by omega) (by omega)]
  omega
theorem wrap_in64 (n : Int) : in64 (IntKind.i64.wrap n) := by
  unfold in64 IntKind.wrap
  simp only [IntKind.bits, IntKind.signed]
  have h : ∀ m : Int, 0 ≤ m → m < 2 ^ 64 → (-9223372036854775808 ≤ (if (true && decide (m ≥ 2 ^ (64 - 1))) = true then m - 2 ^ 64 else m) ∧ (if (true && decide (m ≥ 2 ^ (64 - 1))) = true then m - 2 ^ 64 else m) ≤ 9223372036854775807) := by
    intro m h0 h1
    by_cases c : m ≥ 2 ^ (64 - 1)
    · rw [if_pos (by simpa using c)]; omega
    · rw [if_neg (by simpa using c)]; omega
  exact h _ (Int.emod_nonneg _ (by decide)) (Int.emod_lt_of_pos _ (by decide))
theorem impl_ReadDate_ok (a0 : S) (h : pReadDate a0) : s_impl_ReadDate a0 (fun r => r = mReadDate a0) := by
  have hsm : a0.size ≤ 1073741824 := h
  have P := fun t (ht : isDate a0 t) => date_impl ht
  have no : ∀ {p : Prop}, (∀ t, isDate a0 t → p) → ¬ p → (0, false) = mReadDate a0 := fun hp hn => readDate_no fun t ht => hn (hp t ht)
  have szr : ∀ i : Nat, sm (rx (spl a0) (i : Int)) := fun i => Nat.le_trans (rx_spl_size a0 i) hsm
  have sze : ∀ (i a b : Nat), sm ((rx (spl a0) (i : Int)).extract a b) := fun i a b => by
    have := szr i
    unfold sm at *
    rw [ByteArray.size_extract]; omega
  unfold s_impl_ReadDate
  rw [show mSplit a0 (lit [32]) = spl a0 from rfl]
  refine ⟨⟨h, rfl⟩, fun c => no (fun t ht => (P t ht).1) c, fun c0 => ⟨fun c => no (fun t ht => (P t ht).2.1) c, fun c1 => ?_⟩⟩
  have c0 := Classical.not_not.1 c0
  refine ⟨by omega, by omega, fun c => no (fun t ht => (P t ht).2.2.1) c, fun c2 => ⟨by omega, by omega, fun c => no (fun t ht => (P t ht).2.2.2.1) c, fun c3 => ?_⟩⟩
  have c2 := Classical.not_not.1 c2
  refine ⟨by omega, by omega, by omega, by omega, szr 3, trivial, by omega, by omega, by show monthL.length ≤ maxLen; decide, by omega, by omega, szr 1, trivial, fun c => no (fun t ht => (P t ht).2.2.2.2.1) (by omega), fun c4 => ?_⟩
  refine ⟨by omega, by omega, sze 4 0 2, by omega, by omega, by omega, sze 4 3 5, by omega, by omega, sze 4 6 _, wrap_in64 _, fun c => readDate_no fun t ht => c ?_, fun c => readDate_yes (date_back (Classical.not_not.1 c1) (Classical.not_not.1 c))⟩
  have e := (P t ht).2.2.2.2.2
  exact (congrArg mShowDate e).trans ht.2.2

theorem valFrom_ge : ∀ (l : List UInt8) (a : Nat), a * 10 ^ l.length ≤ valFrom a l
  | [], a => by simp [valFrom]
  | b :: l, a => by
    have ih := valFrom_ge l (a * 10 + (b.toNat - 48))
    have e : valFrom a (b :: l) = valFrom (a * 10 + (b.toNat - 48)) l := rfl
    rw [e, List.length_cons, Nat.pow_succ]
    refine Nat.le_trans ?_ ih
    rw [Nat.mul_comm (10 ^ l.length) 10, ← Nat.mul_assoc]
    exact Nat.mul_le_mul_right _ (by omega)
theorem valL_zero (l : List UInt8) : valL (48 :: l) = valL l := rfl
theorem valL_trim : ∀ l : List UInt8, valL (Lib.trimLeftB l 48) = valL l
  | [] => rfl
  | b :: l => by
    unfold Lib.trimLeftB
    rw [List.dropWhile_cons]
    split
    · next h =>
      have : b = 48 := by simpa using h
      subst this
      rw [valL_zero]
      exact valL_trim l
    · rfl
theorem trim_all {l : List UInt8} (h : l.all isDig = true) : (Lib.trimLeftB l 48).all isDig = true := by
  rw [List.all_eq_true] at *
  intro x hx
  exact h x ((List.dropWhile_sublist _).subset hx)
theorem trim_big {l : List UInt8} (h : l.all isDig = true) (hl : 10 < (Lib.trimLeftB l 48).length) : 2147483648 ≤ valL l := by
  rw [← valL_trim]
  have hd := trim_all h
  cases ht : Lib.trimLeftB l 48 with
  | nil => rw [ht] at hl; simp at hl
  | cons b r =>
    rw [ht] at hl hd
    have hb : b ≠ 48 := by
      intro e
      have := List.head?_dropWhile_not (p := fun x : UInt8 => x == 48) (l := l)
      unfold Lib.trimLeftB at ht
      rw [ht] at this
      simp [e] at this
    simp only [List.all_cons, Bool.and_eq_true] at hd
    have hbd := isDig_iff.1 hd.1
    have hbn : b.toNat ≠ 48 := fun e => hb (by apply UInt8.toNat_inj.1; exact e)
    have e : valL (b :: r) = valFrom (b.toNat - 48) r := by show valFrom (0 * 10 + (b.toNat - 48)) r = _; rw [Nat.zero_mul, Nat.zero_add]
    rw [e]
    have h1 := valFrom_ge r (b.toNat - 48)
    simp only [List.length_cons] at hl
    have h2 : 10 ^ 10 ≤ 10 ^ r.length := Nat.pow_le_pow_right (by omega) (by omega)
    have h3 : 1 * 10 ^ r.length ≤ (b.toNat - 48) * 10 ^ r.length := Nat.mul_le_mul_right _ (by omega)
    omega
theorem spec_Seconds_ok (a0 : S) (h : pSeconds a0) : s_spec_Seconds a0 (fun r => r = mSeconds a0) := by
  have hsm : a0.size ≤ 1073741824 := h
  have hl := bs_len a0
  intro L hL
  refine loopG hL a0.size (fun i y => y.2 = (i : Int) ∧ ((bs a0).take i).all isDig = true ∧ y.1 = ((min (valL ((bs a0).take i)) 2147483648 : Nat) : Int)) (fun i y hi hI hn => ?_) (s0 := (0, 0)) ⟨rfl, by simp, by simp [valL, valFrom]⟩
  obtain ⟨x, i'⟩ := y
  obtain ⟨hy, hd, hx⟩ := hI
  simp only at hy hx ⊢
  subst hy hx
  rw [wrapS (by omega)]
  refine ⟨fun hlt => ?_, fun hge => ?_⟩
  · have hi2 : i < (bs a0).length := by omega
    have hbt : bt a0 (i : Int) = (((bs a0)[i]).toNat : Int) := bt_nat a0 i (by omega)
    have bad : ¬ isDig ((bs a0)[i]) = true → (0, false) = mSeconds a0 := fun hb => by
      unfold mSeconds
      rw [if_neg fun hall => hb (List.all_eq_true.1 hall.1 _ (List.getElem_mem hi2))]
    rw [hbt]
    have tk := take_succ_app hi2
    generalize hB : (bs a0)[i] = B at *
    have hx : B.toNat < 256 := UInt8.toNat_lt _
    refine ⟨by omega, hlt, fun c => bad fun hh => by have := isDig_iff.1 hh; omega, fun c => ⟨by omega, hlt, fun c2 => bad fun hh => by have := isDig_iff.1 hh; omega, fun c2 => ⟨by omega, hlt, ?_⟩⟩⟩
    have w8 : IntKind.u8.wrap ((B.toNat : Int) - 48) = (B.toNat : Int) - 48 := wrap8 (by omega) (by omega)
    have w1 : IntKind.i64.wrap ((B.toNat : Int) - 48) = (B.toNat : Int) - 48 := wrap64 (by omega) (by omega)
    generalize hV : valL ((bs a0).take i) = V at *
    have w2 : IntKind.i64.wrap (((min V 2147483648 : Nat) : Int) * 10) = ((min V 2147483648 : Nat) : Int) * 10 := wrap64 (by omega) (by omega)
    have w3 : IntKind.i64.wrap (((min V 2147483648 : Nat) : Int) * 10 + ((B.toNat : Int) - 48)) = ((min V 2147483648 : Nat) : Int) * 10 + ((B.toNat : Int) - 48) := wrap64 (by omega) (by omega)
    rw [w8, w1, w2, w3]
    refine hn _ (by omega) ⟨rfl, ?_, ?_⟩
    · rw [tk, List.all_append, hd]
      simp only [List.all_cons, List.all_nil, Bool.and_true, Bool.true_and]
      exact isDig_iff.2 (by omega)
    · simp only
      rw [tk, valL_snoc, hV]
      split <;> omega
  · rw [List.take_of_length_le (by omega)] at hd ⊢
    unfold mSeconds
    by_cases hz : a0.size = 0
    · rw [if_neg fun hh => hh.2 hz]
      have : bs a0 = [] := List.length_eq_zero_iff.1 (by omega)
      rw [this]
      simp [valL, valFrom, hz]
    · rw [if_pos ⟨hd, hz⟩, decide_eq_true (show (0 : Int) < (a0.size : Int) by omega)]
theorem impl_Seconds_ok (a0 : S) (h : pSeconds a0) : s_impl_Seconds a0 (fun r => r = mSeconds a0) := by
  have hsm : a0.size ≤ 1073741824 := h
  have hl := bs_len a0
  intro L hL
  refine loopG hL a0.size (fun i y => y = (i : Int) ∧ ((bs a0).take i).all isDig = true) (fun i y hi hI hn => ?_) (s0 := 0) ⟨rfl, by simp⟩
  obtain ⟨rfl, hd⟩ := hI
  rw [wrapS (by omega)]
  refine ⟨fun hlt => ?_, fun hge => ?_⟩
  · have hi2 : i < (bs a0).length := by omega
    have hbt : bt a0 (i : Int) = (((bs a0)[i]).toNat : Int) := bt_nat a0 i (by omega)
    have bad : ¬ isDig ((bs a0)[i]) = true → (0, false) = mSeconds a0 := fun hb => by
      unfold mSeconds
      rw [if_neg fun hall => hb (List.all_eq_true.1 hall.1 _ (List.getElem_mem hi2))]
    rw [hbt]
    refine ⟨by omega, hlt, fun c => bad fun hh => by have := isDig_iff.1 hh; omega, fun c => ⟨by omega, hlt, fun c2 => bad fun hh => by have := isDig_iff.1 hh; omega, fun c2 => ?_⟩⟩
    refine hn _ (by omega) ⟨rfl, ?_⟩
    rw [take_succ_app hi2, List.all_append, hd]
    simp only [List.all_cons, List.all_nil, Bool.and_true, Bool.true_and]
    exact isDig_iff.2 (by omega)
  · rw [List.take_of_length_le (by omega)] at hd
    have hne : a0 = lit [] ↔ a0.size = 0 := by
      constructor
      · rintro rfl; rfl
      · intro hz
        apply bs_inj
        rw [List.length_eq_zero_iff.1 (show (bs a0).length = 0 by omega)]; rfl
    have hT : (mTrimLeft a0 (lit [48])).size = (Lib.trimLeftB (bs a0) 48).length := by unfold mTrimLeft; rw [ob_size]
    have h48 : (lit [48]).size = 1 := rfl
    have hle : (Lib.trimLeftB (bs a0) 48).length ≤ a0.size := by rw [← hl]; exact (List.dropWhile_sublist _).length_le
    refine ⟨fun c => ?_, fun c => ⟨⟨h, rfl⟩, fun d => ?_, fun d => ⟨by omega, ?_, ?_⟩⟩⟩
    · unfold mSeconds
      rw [if_neg fun hh => hh.2 (hne.1 c)]
    · unfold mSeconds
      have := trim_big hd (by omega)
      rw [if_pos ⟨hd, fun hz => c (hne.2 hz)⟩, Nat.min_eq_right this]; rfl
    · show ByteArray.size _ ≤ _
      rw [ByteArray.size_append]
      omega
    · have ha : (mAtoi (lit [48] ++ mTrimLeft a0 (lit [48]))).1 = (valL (bs a0) : Int) := by
        have e : lit [48] ++ mTrimLeft a0 (lit [48]) = ob (48 :: Lib.trimLeftB (bs a0) 48) := by
          apply bs_inj
          rw [bs_append, bs_ob]
          unfold mTrimLeft
          rw [bs_ob]; rfl
        show atoiV _ = _
        rw [e, atoiV_val (by simp) (by simp only [List.all_cons, Bool.and_eq_true]; exact ⟨rfl, trim_all hd⟩) (by simp only [List.length_cons]; omega), valL_zero, valL_trim]
      rw [ha]
      unfold mSeconds
      rw [if_pos ⟨hd, fun hz => c (hne.2 hz)⟩]
      congr 1
      split <;> omega
end Go.Ev
end

section
/- Library functions: strings.Split as a contract of the small machine. -/
set_option linter.unusedVariables false
namespace Go.Ev
open Go.RowKit
def splitCt (e : TypeId) (f : FuncId) : Ct := { f, ps := [.v false .ro [.str], .v false .ro [.str]], rs := [(false, [.list e [.str]])], shared := false, pre := fun (x : S × S) => pSplit x.1 x.2, F := fun (x : S × S) => mSplit x.1 x.2 }
theorem split_row {w : World} {e : TypeId} {T : Nat → Prop} {xs : List ByteArray} {c : Nat → Option Col} (hl : xs.length ≤ maxLen) (hc : c w.heap.size = some [(0, 0)]) :
    resR T c (w.alloc (.cells (xs.map Value.string).toArray e)) false false [(false, [.list e [.str]])] (xs : caps [[L.list e [.str]]]) 0 [.slice (some ⟨w.heap.size, 0, none⟩) xs.length xs.length] := by
  simp only [resR]
  refine ⟨_, _, [.slice (some ⟨w.heap.size, 0, none⟩) xs.length xs.length], rfl, ?_, .inr rfl, rfl⟩
  simp only [outR]
  refine ⟨_, _, rfl, ?_, rfl⟩
  rw [if_neg (by decide)]
  unfold repL
  refine ⟨xs.map Value.string, ?_, ?_, ?_⟩
  · unfold regRow
    rw [if_pos (by simp)]
    refine Or.inr ⟨w.heap.size, xs.length, (xs.map Value.string).toArray, (0, 0), rfl, hc, heap_alloc_new w _, Nat.le_refl _, hl, by simp, ?_, fun _ => rfl, .inl rfl⟩
    show ((xs.map Value.string).toArray.toList).take (xs.length * 1) = xs.map Value.string
    simp only [Nat.mul_one]
    exact List.take_of_length_le (by simp)
  · show (xs.map Value.string).length = xs.length * 1
    simp
  · intro i x hx
    have hx' : xs[i]? = some x := hx
    have hi : i < xs.length := by
      rcases Nat.lt_or_ge i xs.length with h | h
      · exact h
      · rw [List.getElem?_eq_none h] at hx'; cases hx'
    refine repLs_cons.2 ⟨.string x, [], ?_, rfl, rfl⟩
    rw [List.getElem?_eq_getElem hi] at hx'
    injection hx' with hx'
    have h1 : ((xs.map Value.string).drop i).take 1 = [.string x] := by
      rw [List.drop_eq_getElem_cons (by simpa using hi)]
      simp [hx']
    simpa using h1
theorem split_ct {P : Program} {f : FuncId} {w : World} {e : TypeId} (hf : FnIs P f)
    (hI : ∀ s sep : ByteArray, s.size < 4294967281 → 1 ≤ sep.size → Calls P f #[.string s, .string sep] w fun r w' => r = .returned (.slice (some ⟨w.heap.size, 0, none⟩) (Lib.countB s sep + 1) (Lib.countB s sep + 1)) ∧ w' = w.alloc (.cells ((Lib.splitB sep 0 (Lib.countB s sep) s).map Value.string).toArray e)) :
    CtAt P (splitCt e f) w := by
  intro vals x S hSS ha hp
  obtain ⟨v, vs', hv, h1, h2⟩ := args_v ha
  obtain ⟨v2, vs2, hv2, h3, h4⟩ := args_v h2
  have h4 := args_e h4
  subst h4; subst hv2
  have h1 : v = .string x.1 := h1
  have h3 : v2 = .string x.2 := h3
  subst h1; subst h3
  obtain ⟨hp1, hp2⟩ := (hp : sm x.1 ∧ x.2 = lit [32])
  unfold sm at hp1
  have hsz : x.2.size = 1 := by rw [hp2]; rfl
  refine ⟨hf, ?_⟩
  show Calls P f vals w _
  rw [arr_of hv]
  refine (hI x.1 x.2 (by omega) (by omega)).mono fun r w' ⟨he, hw⟩ => ?_
  have hl : (mSplit x.1 x.2).length = Lib.countB x.1 x.2 + 1 := Lib.splitB_all x.2 (by omega) 0 _ x.1 rfl
  have hle := Lib.countB_le x.2 (by omega) x.1.size x.1 (Nat.le_refl _)
  refine ⟨[.slice (some ⟨w.heap.size, 0, none⟩) (Lib.countB x.1 x.2 + 1) (Lib.countB x.1 x.2 + 1)], _, fun b => if b = w.heap.size then some [(0, 0)] else none, he, ?_, Or.inl rfl, ?_, ?_⟩
  · rw [hw]
    exact (Below.refl _ w).alloc (Nat.le_refl _) _
  · intro b hb
    by_cases hbe : b = w.heap.size
    · subst hbe
      rw [hw]
      exact ⟨Nat.le_refl _, by have := heap_alloc_new w (.cells ((Lib.splitB x.2 0 (Lib.countB x.1 x.2) x.1).map Value.string).toArray e); rcases Nat.lt_or_ge w.heap.size (w.alloc (.cells ((Lib.splitB x.2 0 (Lib.countB x.1 x.2) x.1).map Value.string).toArray e)).heap.size with h | h; exact h; rw [Array.getElem?_eq_none h] at this; cases this⟩
    · simp only [if_neg hbe] at hb
      exact absurd rfl hb
  · rw [← hl, hw]
    exact split_row (by show (mSplit x.1 x.2).length ≤ maxLen; exact Nat.le_trans (Nat.le_of_eq hl) (by simp only [maxLen]; omega)) (by simp)
end Go.Ev
end

section
/- The plain library: what a cache's functions compute. -/
set_option linter.unusedVariables false
namespace Go.Ev
end Go.Ev
end

section
/- What functions of caches come to: printed by a program of this session's own (EwShow) out of the small machine. -/
set_option linter.unusedVariables false
namespace Go.Ev

end Go.Ev
end

section
/- Laws of the plain library: the origin. -/
set_option linter.unusedVariables false
namespace Go.Ev
end Go.Ev
end

section
/- Laws of the plain library: shards. -/
set_option linter.unusedVariables false
namespace Go.Ev
end Go.Ev
end

section
/- Laws of the plain library: caches; what is found in a shard. -/
set_option linter.unusedVariables false
namespace Go.Ev
end Go.Ev
end

section
/- impl.Lower: what its walk needs. -/
set_option linter.unusedVariables false
namespace Go.Ev
open Go Go.RowKit
def LowW (B : Nat) (s : S) (i : Nat) (w w' : World) : Prop :=
  Below B w w' ∧ ∀ j, j < s.size → w'.cell? ⟨B, j, none⟩ = some (.int .u8 (((if j < i then lowB (bs s)[j]! else (bs s)[j]!).toNat : Nat) : Int)) ∧ w'.frozen? ⟨B, j, none⟩ = false
theorem LowW.next {B i : Nat} {s : S} {w w' : World} (h : LowW B s i w w') (hi : i < s.size) {v : Int} (hv : v = ((lowB (bs s)[i]!).toNat : Int)) : LowW B s (i + 1) w (w'.setCell ⟨B, i, none⟩ (.int .u8 v)) := by
  refine ⟨h.1.setCell (Nat.le_refl _) _, fun j hj => ?_⟩
  by_cases e : j = i
  · subst e
    rw [World.cell?_setCell_same _ _ _ (h.2 j hj).1, hv, if_pos (by omega)]
    exact ⟨rfl, by rw [World.frozen?_setCell]; exact (h.2 j hj).2⟩
  · rw [World.cell?_setCell_other _ _ _ _ (by simp [e]), World.frozen?_setCell, (h.2 j hj).1]
    exact ⟨by simp only [show (j < i + 1) ↔ (j < i) by omega], (h.2 j hj).2⟩
theorem LowW.skip {B i : Nat} {s : S} {w w' : World} (h : LowW B s i w w') (hi : i < s.size) (hv : lowB (bs s)[i]! = (bs s)[i]!) : LowW B s (i + 1) w w' := by
  refine ⟨h.1, fun j hj => ?_⟩
  by_cases e : j = i
  · subst e
    have := h.2 j hj
    rw [if_neg (by omega)] at this
    rw [if_pos (by omega), hv]; exact this
  · rw [(h.2 j hj).1]
    exact ⟨by simp only [show (j < i + 1) ↔ (j < i) by omega], (h.2 j hj).2⟩
theorem low_new (P : Program) (src dst e : TypeId) (w : World) (s : S) (hs : P.underlying src = some .string) (hd : P.underlying dst = some (.slice e)) (he : P.underlying e = some (.int .u8)) :
    ∃ W1 cap, (convert src dst (.string s)).run P w = .ok (.slice (some ⟨w.heap.size, 0, none⟩) s.size cap) W1 ∧ LowW w.heap.size s 0 w W1 := by
  refine ⟨_, _, run_bytes_of_string w src dst e s hs hd he, (Below.refl _ _).drew.alloc (Nat.le_refl _) _, fun j hj => ?_⟩
  have h1 := bytesRow_at s (grownCap w s.size 0 e) j hj
  refine ⟨?_, ?_⟩
  · show (w.drew.alloc _).cell? ⟨w.drew.heap.size, j, none⟩ = _
    rw [World.cell?_alloc_mark, h1, if_neg (by omega)]
    have hl : j < (bs s).length := by rw [bs_len]; exact hj
    rw [getElem!_pos (bs s) j hl]; rfl
  · show (w.drew.alloc _).frozen? ⟨w.drew.heap.size, j, none⟩ = _
    rw [World.frozen?_alloc_mark]
    have hsz : s.size ≤ (bytesRow s (grownCap w s.size 0 e)).size := by simp [bytesRow]
    generalize (bytesRow s (grownCap w s.size 0 e)).size = n at hsz
    simp; omega
theorem low_byte (x : UInt8) : (65 ≤ x.toNat ∧ x.toNat ≤ 90 → IntKind.u8.wrap (IntKind.u8.wrap ((x.toNat : Int) + 97) - 65) = ((lowB x).toNat : Int)) ∧ (¬ (65 ≤ x.toNat ∧ x.toNat ≤ 90) → lowB x = x) := by
  refine ⟨fun h => ?_, fun h => by unfold lowB; rw [if_neg h]⟩
  unfold lowB; rw [if_pos h]
  have e : (x + 32).toNat = x.toNat + 32 := by rw [UInt8.toNat_add]; show (x.toNat + 32) % 256 = _; omega
  rw [e]
  have h1 : IntKind.u8.wrap ((x.toNat : Int) + 97) = (x.toNat : Int) + 97 := by rw [IntKind.wrap_u8]; omega
  rw [h1, IntKind.wrap_u8]; omega
theorem low_end (P : Program) (src dst e : TypeId) (B cap : Nat) (w w' : World) (s : S) (hs : P.underlying src = some (.slice e)) (he : P.underlying e = some (.int .u8)) (hd : P.underlying dst = some .string) (h : LowW B s s.size w w') :
    (convert src dst (.slice (some ⟨B, 0, none⟩) s.size cap)).run P w' = .ok (.string (mLower s)) w' := by
  have hl : ((bs s).map lowB).length = s.size := by rw [List.length_map, bs_len]
  have := run_convert_bytes_back (P := P) w' src dst e ⟨B, 0, none⟩ cap ((bs s).map lowB) hs he hd (fun j hj => by
    have hj' : j < s.size := by rw [hl] at hj; exact hj
    have hjb : j < (bs s).length := by rw [bs_len]; exact hj'
    have h1 := (h.2 j hj').1
    rw [if_pos hj', getElem!_pos (bs s) j hjb] at h1
    rw [show (⟨B, 0, none⟩ : Addr).add j = ⟨B, j, none⟩ by unfold Addr.add; split <;> simp_all]
    rw [h1, List.getElem_map])
  rw [hl] at this
  exact this
end Go.Ev
namespace Go.Ev
open Go.RowKit
def lowerCt (f : FuncId) : Ct := { f, ps := [.v false .ro [.str]], rs := [(false, [.str])], shared := false, pre := fun (x : S) => pLower x, F := fun (x : S) => mLower x }
theorem lower_ct {P : Program} {f : FuncId} {w : World} (hf : FnIs P f)
    (hI : ∀ s : ByteArray, s.size ≤ 1073741824 → Calls P f #[.string s] w fun e w' => e = .returned (.string (mLower s)) ∧ Below w.heap.size w w') : CtAt P (lowerCt f) w := by
  refine ct_lib hf fun vals x S hS ha hp => ?_
  obtain ⟨v, vs', hv, h1, h2⟩ := args_v ha
  have h2 := args_e h2
  subst h2
  have h1 : v = .string x := h1
  subst h1
  rw [arr_of hv]
  exact (hI x hp).mono fun e w' ⟨he, hb⟩ => ⟨[.string (mLower x)], _, he, hb, Or.inl rfl, fun S' => res_str _⟩
end Go.Ev
end

section
/- impl.ReadDec: its contract, out of a walk. -/
set_option linter.unusedVariables false
namespace Go.Ev
open Go.RowKit
end Go.Ev
end

section
set_option linter.unusedVariables false
namespace Go.Proofs.YtbplaifhdgpfmaaGreatDoor.ApM
open Go Go.Ev Go.Proofs Go.RowKit
abbrev ls3 : List L := [.int .i64]
abbrev ls4 : List L := [.bool]
abbrev ls5 : List L := [.int .u8]
abbrev ls9 : List L := [.str]
abbrev ls22 : List L := [.list 51 [.str, .str]]
abbrev ls24 : List L := [.str, .str, .list 51 [.str, .str], .str]
abbrev ls26 : List L := [.int .i64, .list 51 [.str, .str], .str]
abbrev ls30 : List L := [.list 59 [.str, .str]]
abbrev ls32 : List L := [.str, .str, .list 59 [.str, .str], .str]
abbrev ls35 : List L := [.int .i64, .list 59 [.str, .str], .str]
abbrev ls51 : List L := [.str, .str]
abbrev ls52 : List L := [.list 54 [.str, .str]]
abbrev ls54 : List L := [.str, .str]
abbrev ls59 : List L := [.str, .str]
abbrev ls63 : List L := [.list 9 [.str]]
abbrev ls83 : List L := [.list 3 [.int .i64]]
def tt : List (Nat × TI) := [
  (2, ⟨.sc, [.int .i64]⟩),
  (3, ⟨.sc, [.int .i64]⟩),
  (4, ⟨.sc, [.bool]⟩),
  (5, ⟨.sc, [.int .u8]⟩),
  (6, ⟨.sc, [.int .u8]⟩),
  (7, ⟨.st [(0, [.int .i64]), (1, [.int .i64]), (2, [.bool]), (3, [.int .u8])], [.int .i64, .int .i64, .bool, .int .u8]⟩),
  (8, ⟨.st [(0, [.int .i64]), (1, [.int .i64]), (2, [.bool]), (3, [.int .u8])], [.int .i64, .int .i64, .bool, .int .u8]⟩),
  (9, ⟨.sc, [.str]⟩),
  (10, ⟨.sc, [.str]⟩),
  (11, ⟨.sc, [.str]⟩),
  (12, ⟨.sc, [.int .u64]⟩),
  (13, ⟨.st [(0, [.str]), (1, [.int .u64])], [.str, .int .u64]⟩),
  (14, ⟨.st [(0, [.str]), (1, [.int .u64])], [.str, .int .u64]⟩),
  (21, ⟨.sc, [.int .i32]⟩),
  (22, ⟨.sl 51 [.str, .str] 32, [.list 51 [.str, .str]]⟩),
  (23, ⟨.st [(0, [.str]), (1, [.str]), (2, [.list 51 [.str, .str]]), (3, [.str])], [.str, .str, .list 51 [.str, .str], .str]⟩),
  (24, ⟨.st [(0, [.str]), (1, [.str]), (2, [.list 51 [.str, .str]]), (3, [.str])], [.str, .str, .list 51 [.str, .str], .str]⟩),
  (25, ⟨.st [(0, [.int .i64]), (1, [.list 51 [.str, .str]]), (2, [.str])], [.int .i64, .list 51 [.str, .str], .str]⟩),
  (26, ⟨.st [(0, [.int .i64]), (1, [.list 51 [.str, .str]]), (2, [.str])], [.int .i64, .list 51 [.str, .str], .str]⟩),
  (30, ⟨.sl 59 [.str, .str] 32, [.list 59 [.str, .str]]⟩),
  (31, ⟨.st [(0, [.str]), (1, [.str]), (2, [.list 59 [.str, .str]]), (3, [.str])], [.str, .str, .list 59 [.str, .str], .str]⟩),
  (32, ⟨.st [(0, [.str]), (1, [.str]), (2, [.list 59 [.str, .str]]), (3, [.str])], [.str, .str, .list 59 [.str, .str], .str]⟩),
  (34, ⟨.st [(0, [.int .i64]), (1, [.list 59 [.str, .str]]), (2, [.str])], [.int .i64, .list 59 [.str, .str], .str]⟩),
  (35, ⟨.st [(0, [.int .i64]), (1, [.list 59 [.str, .str]]), (2, [.str])], [.int .i64, .list 59 [.str, .str], .str]⟩),
  (50, ⟨.st [(0, [.str]), (1, [.str])], [.str, .str]⟩),
  (51, ⟨.st [(0, [.str]), (1, [.str])], [.str, .str]⟩),
  (52, ⟨.sl 54 [.str, .str] 32, [.list 54 [.str, .str]]⟩),
  (54, ⟨.st [(0, [.str]), (1, [.str])], [.str, .str]⟩),
  (59, ⟨.st [(0, [.str]), (1, [.str])], [.str, .str]⟩),
  (63, ⟨.sl 9 [.str] 16, [.list 9 [.str]]⟩),
  (78, ⟨.sl 5 [.int .u8] 1, [.list 5 [.int .u8]]⟩),
  (83, ⟨.sl 3 [.int .i64] 8, [.list 3 [.int .i64]]⟩),
  (111, ⟨.sc, [.int .i64]⟩),
  (118, ⟨.sc, [.int .u64]⟩),
  (121, ⟨.sc, [.int .u64]⟩),
  (130, ⟨.sc, [.int .u32]⟩),
  (135, ⟨.st [(0, [.int .u8]), (1, [.int .u8])], [.int .u8, .int .u8]⟩),
  (136, ⟨.st [(0, [.int .u8]), (1, [.int .u8])], [.int .u8, .int .u8]⟩),
  (141, ⟨.st [(0, [.str])], [.str]⟩),
  (142, ⟨.st [(0, [.str])], [.str]⟩),
  (161, ⟨.sc, [.int .u8]⟩),
  (162, ⟨.sc, [.int .u8]⟩),
  (164, ⟨.sc, [.int .i32]⟩),
  (165, ⟨.sc, [.int .i32]⟩)]
theorem ttOk : ttB Tryz.prog tt = true := by kernel_rfl
theorem mixOk : Tryz.prog.follows .mixedOrders = true := by kernel_rfl
def J (w : World) : Prop := Lib.TabIs Tryz.prog w "internal/strconv.uint64pow10" .u64 Lib.pow10Tab ∧ ErrAt 1 w ∧ ErrAt 2 w ∧ NumAt 0 w ∧ True
theorem J_below {w w' : World} (h : J w) (hb : Below w.heap.size w w') : J w' := ⟨tab_below h.1 hb, errAt_below h.2.1 hb, errAt_below h.2.2.1 hb, numAt_below h.2.2.2.1 hb, trivial⟩
noncomputable def E25 : Env := { tt, eqs := [], cts := [] }
theorem ok25 : EnvOk Tryz.prog E25 := ⟨ttOk, by kernel_rfl, rfl, mixOk⟩
theorem cs25 (w0 : World) (hJ : J w0) : EnvCts Tryz.prog E25 w0 w0.heap.size := by
  refine ⟨fun c hc => ?_, fun c hc => ?_⟩
  · cases hc
  · cases hc
noncomputable def ct25 : Ct := { f := 25, ps := [.v true .ro ls51, .v false .ro [.int .i64]], rs := [(false, [.int .i64])], shared := false, pre := fun (q : Fld × Int) => pSz q.1 q.2, F := fun (q : Fld × Int) => szF q.1 q.2 }
def st25 : List (SzStep Fld) := [.str (fun x : Fld => x.1), .str (fun x : Fld => x.2)]
theorem c25 (x : Fld) : szSum x st25 = cz x := by
  simp only [szSum, st25, cz_pair, cz_int, cz_bool, cz_str]
  all_goals omega
theorem w25 (x : Fld) (h : wd x) : szFine x st25 := by
  first | simp only [wd_pair] at h | skip
  simp only [szFine, st25, wd_pair, wf_wd]
  simp only [h, and_self]
theorem law25 : ∀ q : Fld × Int, pSz q.1 q.2 → szSt q.1 st25 q.2 (fun r => r = szF q.1 q.2) := fun q hq => szSt_holds q.1 st25 q.2 _ (w25 q.1 hq.1) hq.2.1 hq.2.2 (c25 q.1)
theorem all25 (w : World) (hJ : J w) : CtAt Tryz.prog ct25 w :=
  ct_by ok25 (cs25 w hJ) Tryz.func25 (by kernel_rfl) (H := (hint [])) law25 (by kernel_rfl)
noncomputable def E12 : Env := { tt, eqs := [], cts := [ct25] }
theorem ok12 : EnvOk Tryz.prog E12 := ⟨ttOk, by kernel_rfl, rfl, mixOk⟩
theorem cs12 (w0 : World) (hJ : J w0) : EnvCts Tryz.prog E12 w0 w0.heap.size := by
  refine ⟨fun c hc => ?_, fun c hc => ?_⟩
  · rcases List.mem_cons.1 hc with rfl | hc
    · exact fun w hb => all25 w (J_below hJ hb)
    cases hc
  · cases hc
noncomputable def ct12 : Ct := { f := 12, ps := [.v false .ro ls22, .v false .ro [.int .i64]], rs := [(false, [.int .i64])], shared := false, pre := fun (q : (List Fld) × Int) => pSz q.1 q.2, F := fun (q : (List Fld) × Int) => szF q.1 q.2 }
theorem law12 : ∀ q : (List Fld) × Int, pSz q.1 q.2 → szS (α := Fld) Dft.dft (fun y k => pSz y k) (fun y k => szF y k) q.1 q.2 (fun r => r = szF q.1 q.2) := fun q hq => szS_holds (α := Fld) Dft.dft cz wd q.1 q.2 hq.1.1 hq.1.2 hq.2.1 hq.2.2
theorem all12 (w : World) (hJ : J w) : CtAt Tryz.prog ct12 w :=
  ct_by ok12 (cs12 w hJ) Tryz.func12 (by kernel_rfl) (H := (hint [(5, [.val 1 (.int .i64), .val 5 (.int .i64)])])) law12 (by kernel_rfl)
noncomputable def E4 : Env := { tt, eqs := [], cts := [ct12] }
theorem ok4 : EnvOk Tryz.prog E4 := ⟨ttOk, by kernel_rfl, rfl, mixOk⟩
theorem cs4 (w0 : World) (hJ : J w0) : EnvCts Tryz.prog E4 w0 w0.heap.size := by
  refine ⟨fun c hc => ?_, fun c hc => ?_⟩
  · rcases List.mem_cons.1 hc with rfl | hc
    · exact fun w hb => all12 w (J_below hJ hb)
    cases hc
  · cases hc
noncomputable def ct4 : Ct := { f := 4, ps := [.v true .ro ls24, .v false .ro [.int .i64]], rs := [(false, [.int .i64])], shared := false, pre := fun (q : Req × Int) => pSz q.1 q.2, F := fun (q : Req × Int) => szF q.1 q.2 }
def st4 : List (SzStep Req) := [.str (fun x : Req => x.1), .str (fun x : Req => x.2.1), .call (fun x : Req => wd (x.2.2.1 : (List Fld))) (fun x : Req => cz (x.2.2.1 : (List Fld))), .str (fun x : Req => x.2.2.2)]
theorem c4 (x : Req) : szSum x st4 = cz x := by
  simp only [szSum, st4, cz_pair, cz_int, cz_bool, cz_str]
  all_goals omega
theorem w4 (x : Req) (h : wd x) : szFine x st4 := by
  first | simp only [wd_pair] at h | skip
  simp only [szFine, st4, wd_pair, wf_wd]
  simp only [h, and_self]
theorem law4 : ∀ q : Req × Int, pSz q.1 q.2 → szSt q.1 st4 q.2 (fun r => r = szF q.1 q.2) := fun q hq => szSt_holds q.1 st4 q.2 _ (w4 q.1 hq.1) hq.2.1 hq.2.2 (c4 q.1)
theorem all4 (w : World) (hJ : J w) : CtAt Tryz.prog ct4 w :=
  ct_by ok4 (cs4 w hJ) Tryz.func4 (by kernel_rfl) (H := (hint [])) law4 (by kernel_rfl)
noncomputable def E5 : Env := { tt, eqs := [], cts := [ct12] }
theorem ok5 : EnvOk Tryz.prog E5 := ⟨ttOk, by kernel_rfl, rfl, mixOk⟩
theorem cs5 (w0 : World) (hJ : J w0) : EnvCts Tryz.prog E5 w0 w0.heap.size := by
  refine ⟨fun c hc => ?_, fun c hc => ?_⟩
  · rcases List.mem_cons.1 hc with rfl | hc
    · exact fun w hb => all12 w (J_below hJ hb)
    cases hc
  · cases hc
noncomputable def ct5 : Ct := { f := 5, ps := [.v true .ro ls26, .v false .ro [.int .i64]], rs := [(false, [.int .i64])], shared := false, pre := fun (q : Rsp × Int) => pSz q.1 q.2, F := fun (q : Rsp × Int) => szF q.1 q.2 }
def st5 : List (SzStep Rsp) := [.call (fun x : Rsp => wd (x.2.1 : (List Fld))) (fun x : Rsp => cz (x.2.1 : (List Fld))), .str (fun x : Rsp => x.2.2)]
theorem c5 (x : Rsp) : szSum x st5 = cz x := by
  simp only [szSum, st5, cz_pair, cz_int, cz_bool, cz_str]
  all_goals omega
theorem w5 (x : Rsp) (h : wd x) : szFine x st5 := by
  first | simp only [wd_pair] at h | skip
  simp only [szFine, st5, wd_pair, wf_wd]
  simp only [h, and_self]
theorem law5 : ∀ q : Rsp × Int, pSz q.1 q.2 → szSt q.1 st5 q.2 (fun r => r = szF q.1 q.2) := fun q hq => szSt_holds q.1 st5 q.2 _ (w5 q.1 hq.1) hq.2.1 hq.2.2 (c5 q.1)
theorem all5 (w : World) (hJ : J w) : CtAt Tryz.prog ct5 w :=
  ct_by ok5 (cs5 w hJ) Tryz.func5 (by kernel_rfl) (H := (hint [])) law5 (by kernel_rfl)
noncomputable def E31 : Env := { tt, eqs := [], cts := [] }
theorem ok31 : EnvOk Tryz.prog E31 := ⟨ttOk, by kernel_rfl, rfl, mixOk⟩
theorem cs31 (w0 : World) (hJ : J w0) : EnvCts Tryz.prog E31 w0 w0.heap.size := by
  refine ⟨fun c hc => ?_, fun c hc => ?_⟩
  · cases hc
  · cases hc
noncomputable def ct31 : Ct := { f := 31, ps := [.v true .ro ls51], rs := [(true, ls59)], shared := false, pre := fun (x : Fld) => pTo x, F := fun (x : Fld) => toF x }
theorem law31 : ∀ q : Fld, pTo q → conj [] (q = toF q) := fun q hq => rfl
theorem all31 (w : World) (hJ : J w) : CtAt Tryz.prog ct31 w :=
  ct_by ok31 (cs31 w hJ) Tryz.func31 (by kernel_rfl) (H := (hint [])) law31 (by kernel_rfl)
noncomputable def E18 : Env := { tt, eqs := [], cts := [ct31] }
theorem ok18 : EnvOk Tryz.prog E18 := ⟨ttOk, by kernel_rfl, rfl, mixOk⟩
theorem cs18 (w0 : World) (hJ : J w0) : EnvCts Tryz.prog E18 w0 w0.heap.size := by
  refine ⟨fun c hc => ?_, fun c hc => ?_⟩
  · rcases List.mem_cons.1 hc with rfl | hc
    · exact fun w hb => all31 w (J_below hJ hb)
    cases hc
  · cases hc
noncomputable def ct18 : Ct := { f := 18, ps := [.v false .ro ls22], rs := [(false, ls30)], shared := false, pre := fun (x : (List Fld)) => pTo x, F := fun (x : (List Fld)) => toF x }
theorem law18 : ∀ q : (List Fld), pTo q → toS (α := Fld) Dft.dft 32 (fun y => pTo y) q (fun r => r = toF q) := fun q hq => toS_holds (α := Fld) Dft.dft 32 (fun y => pTo y) q (md_len' hq) (by omega) (fun i a h => md_mem hq (List.mem_of_getElem? h)) rfl
theorem all18 (w : World) (hJ : J w) : CtAt Tryz.prog ct18 w :=
  ct_by ok18 (cs18 w hJ) Tryz.func18 (by kernel_rfl) (H := (hint [(3, [.reg 3 59 ls59 true, .val 4 (.int .i64)])])) law18 (by kernel_rfl)
noncomputable def E7 : Env := { tt, eqs := [], cts := [ct18] }
theorem ok7 : EnvOk Tryz.prog E7 := ⟨ttOk, by kernel_rfl, rfl, mixOk⟩
theorem cs7 (w0 : World) (hJ : J w0) : EnvCts Tryz.prog E7 w0 w0.heap.size := by
  refine ⟨fun c hc => ?_, fun c hc => ?_⟩
  · rcases List.mem_cons.1 hc with rfl | hc
    · exact fun w hb => all18 w (J_below hJ hb)
    cases hc
  · cases hc
noncomputable def ct7 : Ct := { f := 7, ps := [.v true .ro ls24], rs := [(true, ls32)], shared := false, pre := fun (x : Req) => pTo x, F := fun (x : Req) => toF x }
theorem law7 : ∀ q : Req, pTo q → conj [pTo (q.2.2.1 : (List Fld))] (q = toF q) := fun q hq => ⟨(czh (czt (czt hq))), rfl⟩
theorem all7 (w : World) (hJ : J w) : CtAt Tryz.prog ct7 w :=
  ct_by ok7 (cs7 w hJ) Tryz.func7 (by kernel_rfl) (H := (hint [])) law7 (by kernel_rfl)
noncomputable def E8 : Env := { tt, eqs := [], cts := [ct18] }
theorem ok8 : EnvOk Tryz.prog E8 := ⟨ttOk, by kernel_rfl, rfl, mixOk⟩
theorem cs8 (w0 : World) (hJ : J w0) : EnvCts Tryz.prog E8 w0 w0.heap.size := by
  refine ⟨fun c hc => ?_, fun c hc => ?_⟩
  · rcases List.mem_cons.1 hc with rfl | hc
    · exact fun w hb => all18 w (J_below hJ hb)
    cases hc
  · cases hc
noncomputable def ct8 : Ct := { f := 8, ps := [.v true .ro ls26], rs := [(true, ls35)], shared := false, pre := fun (x : Rsp) => pTo x, F := fun (x : Rsp) => toF x }
theorem law8 : ∀ q : Rsp, pTo q → conj [pTo (q.2.1 : (List Fld))] (q = toF q) := fun q hq => ⟨(czh (czt hq)), rfl⟩
theorem all8 (w : World) (hJ : J w) : CtAt Tryz.prog ct8 w :=
  ct_by ok8 (cs8 w hJ) Tryz.func8 (by kernel_rfl) (H := (hint [])) law8 (by kernel_rfl)
noncomputable def E29 : Env := { tt, eqs := [], cts := [] }
theorem ok29 : EnvOk Tryz.prog E29 := ⟨ttOk, by kernel_rfl, rfl, mixOk⟩
theorem cs29 (w0 : World) (hJ : J w0) : EnvCts Tryz.prog E29 w0 w0.heap.size := by
  refine ⟨fun c hc => ?_, fun c hc => ?_⟩
  · cases hc
  · cases hc
noncomputable def ct29 : Ct := { f := 29, ps := [.v false .ro ls30, .v false .ro ls9], rs := [(false, ls9), (false, ls4)], shared := false, pre := fun (x : (List Fld) × S) => pFieldGet x.1 x.2, F := fun (x : (List Fld) × S) => mFieldGet x.1 x.2 }
theorem law29 : ∀ x : (List Fld) × S, pFieldGet x.1 x.2 → s_spec_FieldGet x.1 x.2 (fun r => r = mFieldGet x.1 x.2) := fun x h => spec_FieldGet_ok x.1 x.2 h
theorem all29 (w : World) (hJ : J w) : CtAt Tryz.prog ct29 w :=
  ct_by ok29 (cs29 w hJ) Tryz.func29 (by kernel_rfl) (H := (hint [(4, [.val 6 (.str), .val 7 (.bool), .val 8 (.int .i64)])])) law29 (by kernel_rfl)
noncomputable def E79 : Env := { tt, eqs := [], cts := [] }
theorem ok79 : EnvOk Tryz.prog E79 := ⟨ttOk, by kernel_rfl, rfl, mixOk⟩
theorem cs79 (w0 : World) (hJ : J w0) : EnvCts Tryz.prog E79 w0 w0.heap.size := by
  refine ⟨fun c hc => ?_, fun c hc => ?_⟩
  · cases hc
  · cases hc
noncomputable def ct79 : Ct := { f := 79, ps := [.v false .ro ls5], rs := [(false, ls4)], shared := false, pre := fun (x : Int) => pBlank x, F := fun (x : Int) => mBlank x }
theorem law79 : ∀ x : Int, pBlank x → s_spec_l2Blank x (fun r => r = mBlank x) := fun x _ => spec_l2Blank_ok x
theorem all79 (w : World) (hJ : J w) : CtAt Tryz.prog ct79 w :=
  ct_by ok79 (cs79 w hJ) Tryz.func79 (by kernel_rfl) (H := (hint [])) law79 (by kernel_rfl)
noncomputable def E56 : Env := { tt, eqs := [], cts := [ct79] }
theorem ok56 : EnvOk Tryz.prog E56 := ⟨ttOk, by kernel_rfl, rfl, mixOk⟩
theorem cs56 (w0 : World) (hJ : J w0) : EnvCts Tryz.prog E56 w0 w0.heap.size := by
  refine ⟨fun c hc => ?_, fun c hc => ?_⟩
  · rcases List.mem_cons.1 hc with rfl | hc
    · exact fun w hb => all79 w (J_below hJ hb)
    cases hc
  · cases hc
noncomputable def ct56 : Ct := { f := 56, ps := [.v false .ro ls9], rs := [(false, ls9)], shared := false, pre := fun (x : S) => pTrim x, F := fun (x : S) => mTrim x }
theorem law56 : ∀ x : S, pTrim x → s_spec_Trim x (fun r => r = mTrim x) := fun x h => spec_Trim_ok x h
theorem all56 (w : World) (hJ : J w) : CtAt Tryz.prog ct56 w :=
  ct_by ok56 (cs56 w hJ) Tryz.func56 (by kernel_rfl) (H := (hint [(1, [.val 0 (.str)]), (3, [.val 0 (.str)])])) law56 (by kernel_rfl)
noncomputable def E42 : Env := { tt, eqs := [], cts := [ct56] }
theorem ok42 : EnvOk Tryz.prog E42 := ⟨ttOk, by kernel_rfl, rfl, mixOk⟩
theorem cs42 (w0 : World) (hJ : J w0) : EnvCts Tryz.prog E42 w0 w0.heap.size := by
  refine ⟨fun c hc => ?_, fun c hc => ?_⟩
  · rcases List.mem_cons.1 hc with rfl | hc
    · exact fun w hb => all56 w (J_below hJ hb)
    cases hc
  · cases hc
noncomputable def ct42 : Ct := { f := 42, ps := [.v false .ro ls9], rs := [(false, ls63)], shared := false, pre := fun (x : S) => pSplitList x, F := fun (x : S) => mSplitList x }
theorem law42 : ∀ x : S, pSplitList x → s_spec_SplitList x (fun r => r = mSplitList x) := fun x h => spec_SplitList_ok x h
theorem all42 (w : World) (hJ : J w) : CtAt Tryz.prog ct42 w :=
  ct_by ok42 (cs42 w hJ) Tryz.func42 (by kernel_rfl) (H := (hint [(5, [.reg 3 9 [.str] true, .val 4 (.int .i64), .val 5 (.bool), .val 6 (.int .i64)])])) law42 (by kernel_rfl)
noncomputable def E57 : Env := { tt, eqs := [], cts := [] }
theorem ok57 : EnvOk Tryz.prog E57 := ⟨ttOk, by kernel_rfl, rfl, mixOk⟩
theorem cs57 (w0 : World) (hJ : J w0) : EnvCts Tryz.prog E57 w0 w0.heap.size := by
  refine ⟨fun c hc => ?_, fun c hc => ?_⟩
  · cases hc
  · cases hc
noncomputable def ct57 : Ct := { f := 57, ps := [.v false .ro ls5], rs := [(false, ls4)], shared := false, pre := fun (x : Int) => pToken x, F := fun (x : Int) => mToken x }
theorem law57 : ∀ x : Int, pToken x → s_spec_l2Token x (fun r => r = mToken x) := fun x _ => spec_l2Token_ok x
theorem all57 (w : World) (hJ : J w) : CtAt Tryz.prog ct57 w :=
  ct_by ok57 (cs57 w hJ) Tryz.func57 (by kernel_rfl) (H := (hint [])) law57 (by kernel_rfl)
noncomputable def E43 : Env := { tt, eqs := [], cts := [ct57] }
theorem ok43 : EnvOk Tryz.prog E43 := ⟨ttOk, by kernel_rfl, rfl, mixOk⟩
theorem cs43 (w0 : World) (hJ : J w0) : EnvCts Tryz.prog E43 w0 w0.heap.size := by
  refine ⟨fun c hc => ?_, fun c hc => ?_⟩
  · rcases List.mem_cons.1 hc with rfl | hc
    · exact fun w hb => all57 w (J_below hJ hb)
    cases hc
  · cases hc
noncomputable def ct43 : Ct := { f := 43, ps := [.v false .ro ls9], rs := [(false, ls4)], shared := false, pre := fun (x : S) => pIsTokenText x, F := fun (x : S) => mIsTokenText x }
theorem law43 : ∀ x : S, pIsTokenText x → s_spec_IsTokenText x (fun r => r = mIsTokenText x) := fun x h => spec_IsTokenText_ok x h
theorem all43 (w : World) (hJ : J w) : CtAt Tryz.prog ct43 w :=
  ct_by ok43 (cs43 w hJ) Tryz.func43 (by kernel_rfl) (H := (hint [(2, [.val 3 (.int .i64)])])) law43 (by kernel_rfl)
noncomputable def E44 : Env := { tt, eqs := [], cts := [] }
theorem ok44 : EnvOk Tryz.prog E44 := ⟨ttOk, by kernel_rfl, rfl, mixOk⟩
theorem cs44 (w0 : World) (hJ : J w0) : EnvCts Tryz.prog E44 w0 w0.heap.size := by
  refine ⟨fun c hc => ?_, fun c hc => ?_⟩
  · cases hc
  · cases hc
noncomputable def ct44 : Ct := { f := 44, ps := [.v false .ro ls9], rs := [(false, ls9)], shared := false, pre := fun (x : S) => pLower x, F := fun (x : S) => mLower x }
theorem law44 : ∀ x : S, pLower x → s_spec_Lower x (fun r => r = mLower x) := fun x h => spec_Lower_ok x h
theorem all44 (w : World) (hJ : J w) : CtAt Tryz.prog ct44 w :=
  ct_by ok44 (cs44 w hJ) Tryz.func44 (by kernel_rfl) (H := (hint [(3, [.val 4 (.int .i64), .reg 3 5 [.int .u8] false])])) law44 (by kernel_rfl)
noncomputable def E45 : Env := { tt, eqs := [], cts := [] }
theorem ok45 : EnvOk Tryz.prog E45 := ⟨ttOk, by kernel_rfl, rfl, mixOk⟩
theorem cs45 (w0 : World) (hJ : J w0) : EnvCts Tryz.prog E45 w0 w0.heap.size := by
  refine ⟨fun c hc => ?_, fun c hc => ?_⟩
  · cases hc
  · cases hc
noncomputable def ct45 : Ct := { f := 45, ps := [.v false .ro ls9], rs := [(false, ls9)], shared := false, pre := fun (x : S) => pL7Unquote x, F := fun (x : S) => mL7Unquote x }
theorem law45 : ∀ x : S, pL7Unquote x → s_spec_l7Unquote x (fun r => r = mL7Unquote x) := fun x h => spec_l7Unquote_ok x h
theorem all45 (w : World) (hJ : J w) : CtAt Tryz.prog ct45 w :=
  ct_by ok45 (cs45 w hJ) Tryz.func45 (by kernel_rfl) (H := (hint [])) law45 (by kernel_rfl)
noncomputable def E26 : Env := { tt, eqs := [], cts := [ct29, ct42, ct43, ct44, ct45] }
theorem ok26 : EnvOk Tryz.prog E26 := ⟨ttOk, by kernel_rfl, rfl, mixOk⟩
theorem cs26 (w0 : World) (hJ : J w0) : EnvCts Tryz.prog E26 w0 w0.heap.size := by
  refine ⟨fun c hc => ?_, fun c hc => ?_⟩
  · rcases List.mem_cons.1 hc with rfl | hc
    · exact fun w hb => all29 w (J_below hJ hb)
    rcases List.mem_cons.1 hc with rfl | hc
    · exact fun w hb => all42 w (J_below hJ hb)
    rcases List.mem_cons.1 hc with rfl | hc
    · exact fun w hb => all43 w (J_below hJ hb)
    rcases List.mem_cons.1 hc with rfl | hc
    · exact fun w hb => all44 w (J_below hJ hb)
    rcases List.mem_cons.1 hc with rfl | hc
    · exact fun w hb => all45 w (J_below hJ hb)
    cases hc
  · cases hc
noncomputable def ct26 : Ct := { f := 26, ps := [.v false .ro ls30], rs := [(false, ls52)], shared := false, pre := fun (x : (List Fld)) => pDirectives x, F := fun (x : (List Fld)) => mDirectives x }
theorem law26 : ∀ x : (List Fld), pDirectives x → s_spec_Directives x (fun r => r = mDirectives x) := fun x h => spec_Directives_ok x h
theorem all26 (w : World) (hJ : J w) : CtAt Tryz.prog ct26 w :=
  ct_by ok26 (cs26 w hJ) Tryz.func26 (by kernel_rfl) (H := (hint [(5, [.reg 3 54 [.str, .str] true, .val 7 (.int .i64)]), (9, [.val 9 (.int .i64)])])) law26 (by kernel_rfl)
noncomputable def E13 : Env := { tt, eqs := [], cts := [ct26] }
theorem ok13 : EnvOk Tryz.prog E13 := ⟨ttOk, by kernel_rfl, rfl, mixOk⟩
theorem cs13 (w0 : World) (hJ : J w0) : EnvCts Tryz.prog E13 w0 w0.heap.size := by
  refine ⟨fun c hc => ?_, fun c hc => ?_⟩
  · rcases List.mem_cons.1 hc with rfl | hc
    · exact fun w hb => all26 w (J_below hJ hb)
    cases hc
  · cases hc
noncomputable def ct13 : Ct := { f := 13, ps := [.v false .ro ls30, .v false .ro ls9], rs := [(false, ls4)], shared := false, pre := fun (x : (List Fld) × S) => pCcHas x.1 x.2, F := fun (x : (List Fld) × S) => mCcHas x.1 x.2 }
theorem law13 : ∀ x : (List Fld) × S, pCcHas x.1 x.2 → s_spec_CcHas x.1 x.2 (fun r => r = mCcHas x.1 x.2) := fun x h => spec_CcHas_ok x.1 x.2 h
theorem all13 (w : World) (hJ : J w) : CtAt Tryz.prog ct13 w :=
  ct_by ok13 (cs13 w hJ) Tryz.func13 (by kernel_rfl) (H := (hint [(3, [.val 6 (.int .i64)])])) law13 (by kernel_rfl)
noncomputable def E30 : Env := { tt, eqs := [], cts := [] }
theorem ok30 : EnvOk Tryz.prog E30 := ⟨ttOk, by kernel_rfl, rfl, mixOk⟩
theorem cs30 (w0 : World) (hJ : J w0) : EnvCts Tryz.prog E30 w0 w0.heap.size := by
  refine ⟨fun c hc => ?_, fun c hc => ?_⟩
  · cases hc
  · cases hc
noncomputable def ct30 : Ct := { f := 30, ps := [.v false .ro ls9], rs := [(false, ls3), (false, ls4)], shared := false, pre := fun (x : S) => pSeconds x, F := fun (x : S) => mSeconds x }
theorem law30 : ∀ x : S, pSeconds x → s_spec_Seconds x (fun r => r = mSeconds x) := fun x h => spec_Seconds_ok x h
theorem all30 (w : World) (hJ : J w) : CtAt Tryz.prog ct30 w :=
  ct_by ok30 (cs30 w hJ) Tryz.func30 (by kernel_rfl) (H := (hint [(3, [.val 4 (.int .i64), .val 5 (.int .i64)])])) law30 (by kernel_rfl)
noncomputable def E59 : Env := { tt, eqs := [], cts := [] }
theorem ok59 : EnvOk Tryz.prog E59 := ⟨ttOk, by kernel_rfl, rfl, mixOk⟩
theorem cs59 (w0 : World) (hJ : J w0) : EnvCts Tryz.prog E59 w0 w0.heap.size := by
  refine ⟨fun c hc => ?_, fun c hc => ?_⟩
  · cases hc
  · cases hc
noncomputable def ct59 : Ct := { f := 59, ps := [.v false .ro ls9, .v false .ro ls3, .v false .ro ls3], rs := [(false, ls3)], shared := false, pre := fun (x : S × Int × Int) => pL4Num x.1 x.2.1 x.2.2, F := fun (x : S × Int × Int) => mL4Num x.1 x.2.1 x.2.2 }
theorem law59 : ∀ x : S × Int × Int, pL4Num x.1 x.2.1 x.2.2 → s_spec_l4Num x.1 x.2.1 x.2.2 (fun r => r = mL4Num x.1 x.2.1 x.2.2) := fun x h => spec_l4Num_ok x.1 x.2.1 x.2.2 h
theorem all59 (w : World) (hJ : J w) : CtAt Tryz.prog ct59 w :=
  ct_by ok59 (cs59 w hJ) Tryz.func59 (by kernel_rfl) (H := (hint [(3, [.val 7 (.int .i64), .val 8 (.int .i64)])])) law59 (by kernel_rfl)
noncomputable def E80 : Env := { tt, eqs := [], cts := [] }
theorem ok80 : EnvOk Tryz.prog E80 := ⟨ttOk, by kernel_rfl, rfl, mixOk⟩
theorem cs80 (w0 : World) (hJ : J w0) : EnvCts Tryz.prog E80 w0 w0.heap.size := by
  refine ⟨fun c hc => ?_, fun c hc => ?_⟩
  · cases hc
  · cases hc
noncomputable def ct80 : Ct := { f := 80, ps := [.v false .ro ls3, .v false .ro ls3, .v false .ro ls3], rs := [(false, ls4)], shared := false, pre := fun (x : Int × Int × Int) => pIn x.1 x.2.1 x.2.2, F := fun (x : Int × Int × Int) => mIn x.1 x.2.1 x.2.2 }
theorem law80 : ∀ x : Int × Int × Int, pIn x.1 x.2.1 x.2.2 → s_spec_l1In x.1 x.2.1 x.2.2 (fun r => r = mIn x.1 x.2.1 x.2.2) := fun x _ => spec_l1In_ok x.1 x.2.1 x.2.2
theorem all80 (w : World) (hJ : J w) : CtAt Tryz.prog ct80 w :=
  ct_by ok80 (cs80 w hJ) Tryz.func80 (by kernel_rfl) (H := (hint [])) law80 (by kernel_rfl)
noncomputable def E82 : Env := { tt, eqs := [], cts := [] }
theorem ok82 : EnvOk Tryz.prog E82 := ⟨ttOk, by kernel_rfl, rfl, mixOk⟩
theorem cs82 (w0 : World) (hJ : J w0) : EnvCts Tryz.prog E82 w0 w0.heap.size := by
  refine ⟨fun c hc => ?_, fun c hc => ?_⟩
  · cases hc
  · cases hc
noncomputable def ct82 : Ct := { f := 82, ps := [.v false .ro ls3], rs := [(false, ls4)], shared := false, pre := fun (x : Int) => pIsLeap x, F := fun (x : Int) => mIsLeap x }
theorem law82 : ∀ x : Int, pIsLeap x → s_spec_IsLeap x (fun r => r = mIsLeap x) := fun x h => spec_IsLeap_ok x h
theorem all82 (w : World) (hJ : J w) : CtAt Tryz.prog ct82 w :=
  ct_by ok82 (cs82 w hJ) Tryz.func82 (by kernel_rfl) (H := (hint [])) law82 (by kernel_rfl)
noncomputable def E81 : Env := { tt, eqs := [], cts := [ct82] }
theorem ok81 : EnvOk Tryz.prog E81 := ⟨ttOk, by kernel_rfl, rfl, mixOk⟩
theorem cs81 (w0 : World) (hJ : J w0) : EnvCts Tryz.prog E81 w0 w0.heap.size := by
  refine ⟨fun c hc => ?_, fun c hc => ?_⟩
  · rcases List.mem_cons.1 hc with rfl | hc
    · exact fun w hb => all82 w (J_below hJ hb)
    cases hc
  · cases hc
noncomputable def ct81 : Ct := { f := 81, ps := [.v false .ro ls3], rs := [(false, ls83)], shared := false, pre := fun (x : Int) => pL4Months x, F := fun (x : Int) => mL4Months x }
theorem law81 : ∀ x : Int, pL4Months x → s_spec_l4Months x (fun r => r = mL4Months x) := fun x h => spec_l4Months_ok x h
theorem all81 (w : World) (hJ : J w) : CtAt Tryz.prog ct81 w :=
  ct_by ok81 (cs81 w hJ) Tryz.func81 (by kernel_rfl) (H := (hint [])) law81 (by kernel_rfl)
noncomputable def E58 : Env := { tt, eqs := [], cts := [ct80, ct81, ct82] }
theorem ok58 : EnvOk Tryz.prog E58 := ⟨ttOk, by kernel_rfl, rfl, mixOk⟩
theorem cs58 (w0 : World) (hJ : J w0) : EnvCts Tryz.prog E58 w0 w0.heap.size := by
  refine ⟨fun c hc => ?_, fun c hc => ?_⟩
  · rcases List.mem_cons.1 hc with rfl | hc
    · exact fun w hb => all80 w (J_below hJ hb)
    rcases List.mem_cons.1 hc with rfl | hc
    · exact fun w hb => all81 w (J_below hJ hb)
    rcases List.mem_cons.1 hc with rfl | hc
    · exact fun w hb => all82 w (J_below hJ hb)
    cases hc
  · cases hc
noncomputable def ct58 : Ct := { f := 58, ps := [.v false .ro ls3, .v false .ro ls3, .v false .ro ls3], rs := [(false, ls3)], shared := false, pre := fun (x : Int × Int × Int) => pDaysOf x.1 x.2.1 x.2.2, F := fun (x : Int × Int × Int) => mDaysOf x.1 x.2.1 x.2.2 }
theorem law58 : ∀ x : Int × Int × Int, pDaysOf x.1 x.2.1 x.2.2 → s_spec_DaysOf x.1 x.2.1 x.2.2 (fun r => r = mDaysOf x.1 x.2.1 x.2.2) := fun x h => spec_DaysOf_ok x.1 x.2.1 x.2.2 h
theorem all58 (w : World) (hJ : J w) : CtAt Tryz.prog ct58 w :=
  ct_by ok58 (cs58 w hJ) Tryz.func58 (by kernel_rfl) (H := (hint [(5, [.val 7 (.int .i64), .val 8 (.int .i64)]), (11, [.val 7 (.int .i64), .val 9 (.int .i64)])])) law58 (by kernel_rfl)
noncomputable def E83 : Env := { tt, eqs := [], cts := [] }
theorem ok83 : EnvOk Tryz.prog E83 := ⟨ttOk, by kernel_rfl, rfl, mixOk⟩
theorem cs83 (w0 : World) (hJ : J w0) : EnvCts Tryz.prog E83 w0 w0.heap.size := by
  refine ⟨fun c hc => ?_, fun c hc => ?_⟩
  · cases hc
  · cases hc
noncomputable def ct83 : Ct := { f := 83, ps := [.v false .ro ls3], rs := [(false, ls9)], shared := false, pre := fun (x : Int) => pL4Two x, F := fun (x : Int) => mL4Two x }
theorem law83 : ∀ x : Int, pL4Two x → s_spec_l4Two x (fun r => r = mL4Two x) := fun x h => spec_l4Two_ok x h
theorem all83 (w : World) (hJ : J w) : CtAt Tryz.prog ct83 w :=
  ct_by ok83 (cs83 w hJ) Tryz.func83 (by kernel_rfl) (H := (hint [])) law83 (by kernel_rfl)
noncomputable def E84 : Env := { tt, eqs := [], cts := [] }
theorem ok84 : EnvOk Tryz.prog E84 := ⟨ttOk, by kernel_rfl, rfl, mixOk⟩
theorem cs84 (w0 : World) (hJ : J w0) : EnvCts Tryz.prog E84 w0 w0.heap.size := by
  refine ⟨fun c hc => ?_, fun c hc => ?_⟩
  · cases hc
  · cases hc
noncomputable def ct84 : Ct := { f := 84, ps := [.v false .ro ls3], rs := [(false, ls9)], shared := false, pre := fun (x : Int) => pDec x, F := fun (x : Int) => mDec x }
theorem law84 : ∀ x : Int, pDec x → s_spec_Dec x (fun r => r = mDec x) := fun x h => spec_Dec_ok x h
theorem all84 (w : World) (hJ : J w) : CtAt Tryz.prog ct84 w :=
  ct_by ok84 (cs84 w hJ) Tryz.func84 (by kernel_rfl) (H := (hint [(5, [.val 0 (.int .i64), .val 3 (.str)])])) law84 (by kernel_rfl)
noncomputable def E60 : Env := { tt, eqs := [], cts := [ct80, ct58, ct83, ct84] }
theorem ok60 : EnvOk Tryz.prog E60 := ⟨ttOk, by kernel_rfl, rfl, mixOk⟩
theorem cs60 (w0 : World) (hJ : J w0) : EnvCts Tryz.prog E60 w0 w0.heap.size := by
  refine ⟨fun c hc => ?_, fun c hc => ?_⟩
  · rcases List.mem_cons.1 hc with rfl | hc
    · exact fun w hb => all80 w (J_below hJ hb)
    rcases List.mem_cons.1 hc with rfl | hc
    · exact fun w hb => all58 w (J_below hJ hb)
    rcases List.mem_cons.1 hc with rfl | hc
    · exact fun w hb => all83 w (J_below hJ hb)
    rcases List.mem_cons.1 hc with rfl | hc
    · exact fun w hb => all84 w (J_below hJ hb)
    cases hc
  · cases hc
noncomputable def ct60 : Ct := { f := 60, ps := [.v false .ro ls3], rs := [(false, ls9)], shared := false, pre := fun (x : Int) => pShowDate x, F := fun (x : Int) => mShowDate x }
theorem law60 : ∀ x : Int, pShowDate x → s_spec_ShowDate x (fun r => r = mShowDate x) := fun x h => spec_ShowDate_ok x h
theorem all60 (w : World) (hJ : J w) : CtAt Tryz.prog ct60 w :=
  ct_by ok60 (cs60 w hJ) Tryz.func60 (by kernel_rfl) (H := (hint [(6, [.val 4 (.int .i64)]), (8, [.val 5 (.int .i64)])])) law60 (by kernel_rfl)
noncomputable def E46 : Env := { tt, eqs := [], cts := [ct59, ct58, ct60] }
theorem ok46 : EnvOk Tryz.prog E46 := ⟨ttOk, by kernel_rfl, rfl, mixOk⟩
theorem cs46 (w0 : World) (hJ : J w0) : EnvCts Tryz.prog E46 w0 w0.heap.size := by
  refine ⟨fun c hc => ?_, fun c hc => ?_⟩
  · rcases List.mem_cons.1 hc with rfl | hc
    · exact fun w hb => all59 w (J_below hJ hb)
    rcases List.mem_cons.1 hc with rfl | hc
    · exact fun w hb => all58 w (J_below hJ hb)
    rcases List.mem_cons.1 hc with rfl | hc
    · exact fun w hb => all60 w (J_below hJ hb)
    cases hc
  · cases hc
noncomputable def ct46 : Ct := { f := 46, ps := [.v false .ro ls9], rs := [(false, ls3), (false, ls4)], shared := false, pre := fun (x : S) => pReadDate x, F := fun (x : S) => mReadDate x }
theorem law46 : ∀ x : S, pReadDate x → s_spec_ReadDate x (fun r => r = mReadDate x) := fun x h => spec_ReadDate_ok x h
theorem all46 (w : World) (hJ : J w) : CtAt Tryz.prog ct46 w :=
  ct_by ok46 (cs46 w hJ) Tryz.func46 (by kernel_rfl) (H := (hint [(5, [.val 4 (.int .i64), .val 5 (.int .i64)])])) law46 (by kernel_rfl)
noncomputable def E28 : Env := { tt, eqs := [], cts := [ct29, ct46] }
theorem ok28 : EnvOk Tryz.prog E28 := ⟨ttOk, by kernel_rfl, rfl, mixOk⟩
theorem cs28 (w0 : World) (hJ : J w0) : EnvCts Tryz.prog E28 w0 w0.heap.size := by
  refine ⟨fun c hc => ?_, fun c hc => ?_⟩
  · rcases List.mem_cons.1 hc with rfl | hc
    · exact fun w hb => all29 w (J_below hJ hb)
    rcases List.mem_cons.1 hc with rfl | hc
    · exact fun w hb => all46 w (J_below hJ hb)
    cases hc
  · cases hc
noncomputable def ct28 : Ct := { f := 28, ps := [.v false .ro ls30, .v false .ro ls9], rs := [(false, ls3), (false, ls4)], shared := false, pre := fun (x : (List Fld) × S) => pDateOf x.1 x.2, F := fun (x : (List Fld) × S) => mDateOf x.1 x.2 }
theorem law28 : ∀ x : (List Fld) × S, pDateOf x.1 x.2 → s_spec_DateOf x.1 x.2 (fun r => r = mDateOf x.1 x.2) := fun x h => spec_DateOf_ok x.1 x.2 h
theorem all28 (w : World) (hJ : J w) : CtAt Tryz.prog ct28 w :=
  ct_by ok28 (cs28 w hJ) Tryz.func28 (by kernel_rfl) (H := (hint [])) law28 (by kernel_rfl)
noncomputable def E17 : Env := { tt, eqs := [], cts := [] }
theorem ok17 : EnvOk Tryz.prog E17 := ⟨ttOk, by kernel_rfl, rfl, mixOk⟩
theorem cs17 (w0 : World) (hJ : J w0) : EnvCts Tryz.prog E17 w0 w0.heap.size := by
  refine ⟨fun c hc => ?_, fun c hc => ?_⟩
  · cases hc
  · cases hc
noncomputable def ct17 : Ct := { f := 17, ps := [.v false .ro ls3, .v false .ro ls3], rs := [(false, ls3)], shared := false, pre := fun (x : Int × Int) => pSatAdd x.1 x.2, F := fun (x : Int × Int) => mSatAdd x.1 x.2 }
theorem law17 : ∀ x : Int × Int, pSatAdd x.1 x.2 → s_spec_SatAdd x.1 x.2 (fun r => r = mSatAdd x.1 x.2) := fun x h => spec_SatAdd_ok x.1 x.2 h
theorem all17 (w : World) (hJ : J w) : CtAt Tryz.prog ct17 w :=
  ct_by ok17 (cs17 w hJ) Tryz.func17 (by kernel_rfl) (H := (hint [])) law17 (by kernel_rfl)
noncomputable def E27 : Env := { tt, eqs := [], cts := [ct29, ct30, ct28, ct17] }
theorem ok27 : EnvOk Tryz.prog E27 := ⟨ttOk, by kernel_rfl, rfl, mixOk⟩
theorem cs27 (w0 : World) (hJ : J w0) : EnvCts Tryz.prog E27 w0 w0.heap.size := by
  refine ⟨fun c hc => ?_, fun c hc => ?_⟩
  · rcases List.mem_cons.1 hc with rfl | hc
    · exact fun w hb => all29 w (J_below hJ hb)
    rcases List.mem_cons.1 hc with rfl | hc
    · exact fun w hb => all30 w (J_below hJ hb)
    rcases List.mem_cons.1 hc with rfl | hc
    · exact fun w hb => all28 w (J_below hJ hb)
    rcases List.mem_cons.1 hc with rfl | hc
    · exact fun w hb => all17 w (J_below hJ hb)
    cases hc
  · cases hc
noncomputable def ct27 : Ct := { f := 27, ps := [.v true .ro ls35, .v false .ro ls3, .v false .ro ls3], rs := [(false, ls3)], shared := false, pre := fun (x : Rsp × Int × Int) => pFirstAge x.1 x.2.1 x.2.2, F := fun (x : Rsp × Int × Int) => mFirstAge x.1 x.2.1 x.2.2 }
theorem law27 : ∀ x : Rsp × Int × Int, pFirstAge x.1 x.2.1 x.2.2 → s_spec_FirstAge x.1 x.2.1 x.2.2 (fun r => r = mFirstAge x.1 x.2.1 x.2.2) := fun x h => spec_FirstAge_ok x.1 x.2.1 x.2.2 h
theorem all27 (w : World) (hJ : J w) : CtAt Tryz.prog ct27 w :=
  ct_by ok27 (cs27 w hJ) Tryz.func27 (by kernel_rfl) (H := (hint [])) law27 (by kernel_rfl)
noncomputable def E14 : Env := { tt, eqs := [], cts := [ct27, ct17] }
theorem ok14 : EnvOk Tryz.prog E14 := ⟨ttOk, by kernel_rfl, rfl, mixOk⟩
theorem cs14 (w0 : World) (hJ : J w0) : EnvCts Tryz.prog E14 w0 w0.heap.size := by
  refine ⟨fun c hc => ?_, fun c hc => ?_⟩
  · rcases List.mem_cons.1 hc with rfl | hc
    · exact fun w hb => all27 w (J_below hJ hb)
    rcases List.mem_cons.1 hc with rfl | hc
    · exact fun w hb => all17 w (J_below hJ hb)
    cases hc
  · cases hc
noncomputable def ct14 : Ct := { f := 14, ps := [.v true .ro ls35, .v false .ro ls3, .v false .ro ls3, .v false .ro ls3], rs := [(false, ls3)], shared := false, pre := fun (x : Rsp × Int × Int × Int) => pAgeAt x.1 x.2.1 x.2.2.1 x.2.2.2, F := fun (x : Rsp × Int × Int × Int) => mAgeAt x.1 x.2.1 x.2.2.1 x.2.2.2 }
theorem law14 : ∀ x : Rsp × Int × Int × Int, pAgeAt x.1 x.2.1 x.2.2.1 x.2.2.2 → s_spec_AgeAt x.1 x.2.1 x.2.2.1 x.2.2.2 (fun r => r = mAgeAt x.1 x.2.1 x.2.2.1 x.2.2.2) := fun x h => spec_AgeAt_ok x.1 x.2.1 x.2.2.1 x.2.2.2 h
theorem all14 (w : World) (hJ : J w) : CtAt Tryz.prog ct14 w :=
  ct_by ok14 (cs14 w hJ) Tryz.func14 (by kernel_rfl) (H := (hint [])) law14 (by kernel_rfl)
noncomputable def E16 : Env := { tt, eqs := [], cts := [ct26, ct30] }
theorem ok16 : EnvOk Tryz.prog E16 := ⟨ttOk, by kernel_rfl, rfl, mixOk⟩
theorem cs16 (w0 : World) (hJ : J w0) : EnvCts Tryz.prog E16 w0 w0.heap.size := by
  refine ⟨fun c hc => ?_, fun c hc => ?_⟩
  · rcases List.mem_cons.1 hc with rfl | hc
    · exact fun w hb => all26 w (J_below hJ hb)
    rcases List.mem_cons.1 hc with rfl | hc
    · exact fun w hb => all30 w (J_below hJ hb)
    cases hc
  · cases hc
noncomputable def ct16 : Ct := { f := 16, ps := [.v false .ro ls30, .v false .ro ls9], rs := [(false, ls3), (false, ls4)], shared := false, pre := fun (x : (List Fld) × S) => pCcSeconds x.1 x.2, F := fun (x : (List Fld) × S) => mCcSeconds x.1 x.2 }
theorem law16 : ∀ x : (List Fld) × S, pCcSeconds x.1 x.2 → s_spec_CcSeconds x.1 x.2 (fun r => r = mCcSeconds x.1 x.2) := fun x h => spec_CcSeconds_ok x.1 x.2 h
theorem all16 (w : World) (hJ : J w) : CtAt Tryz.prog ct16 w :=
  ct_by ok16 (cs16 w hJ) Tryz.func16 (by kernel_rfl) (H := (hint [(5, [.val 7 (.int .i64), .val 8 (.bool), .val 9 (.int .i64)])])) law16 (by kernel_rfl)
noncomputable def E15 : Env := { tt, eqs := [], cts := [ct16, ct28, ct29] }
theorem ok15 : EnvOk Tryz.prog E15 := ⟨ttOk, by kernel_rfl, rfl, mixOk⟩
theorem cs15 (w0 : World) (hJ : J w0) : EnvCts Tryz.prog E15 w0 w0.heap.size := by
  refine ⟨fun c hc => ?_, fun c hc => ?_⟩
  · rcases List.mem_cons.1 hc with rfl | hc
    · exact fun w hb => all16 w (J_below hJ hb)
    rcases List.mem_cons.1 hc with rfl | hc
    · exact fun w hb => all28 w (J_below hJ hb)
    rcases List.mem_cons.1 hc with rfl | hc
    · exact fun w hb => all29 w (J_below hJ hb)
    cases hc
  · cases hc
noncomputable def ct15 : Ct := { f := 15, ps := [.v true .ro ls35], rs := [(false, ls3)], shared := false, pre := fun (x : Rsp) => pLifetime x, F := fun (x : Rsp) => mLifetime x }
theorem law15 : ∀ x : Rsp, pLifetime x → s_spec_Lifetime x (fun r => r = mLifetime x) := fun x h => spec_Lifetime_ok x h
theorem all15 (w : World) (hJ : J w) : CtAt Tryz.prog ct15 w :=
  ct_by ok15 (cs15 w hJ) Tryz.func15 (by kernel_rfl) (H := (hint [])) law15 (by kernel_rfl)
noncomputable def E6 : Env := { tt, eqs := [], cts := [ct13, ct14, ct15, ct16, ct17] }
theorem ok6 : EnvOk Tryz.prog E6 := ⟨ttOk, by kernel_rfl, rfl, mixOk⟩
theorem cs6 (w0 : World) (hJ : J w0) : EnvCts Tryz.prog E6 w0 w0.heap.size := by
  refine ⟨fun c hc => ?_, fun c hc => ?_⟩
  · rcases List.mem_cons.1 hc with rfl | hc
    · exact fun w hb => all13 w (J_below hJ hb)
    rcases List.mem_cons.1 hc with rfl | hc
    · exact fun w hb => all14 w (J_below hJ hb)
    rcases List.mem_cons.1 hc with rfl | hc
    · exact fun w hb => all15 w (J_below hJ hb)
    rcases List.mem_cons.1 hc with rfl | hc
    · exact fun w hb => all16 w (J_below hJ hb)
    rcases List.mem_cons.1 hc with rfl | hc
    · exact fun w hb => all17 w (J_below hJ hb)
    cases hc
  · cases hc
noncomputable def ct6 : Ct := { f := 6, ps := [.v true .ro ls32, .v true .ro ls35, .v false .ro ls3, .v false .ro ls3, .v false .ro ls3], rs := [(false, ls4)], shared := false, pre := fun (x : Req × Rsp × Int × Int × Int) => pMustCheck x.1 x.2.1 x.2.2.1 x.2.2.2.1 x.2.2.2.2, F := fun (x : Req × Rsp × Int × Int × Int) => mMustCheck x.1 x.2.1 x.2.2.1 x.2.2.2.1 x.2.2.2.2 }
theorem law6 : ∀ x : Req × Rsp × Int × Int × Int, pMustCheck x.1 x.2.1 x.2.2.1 x.2.2.2.1 x.2.2.2.2 → s_spec_MustCheck x.1 x.2.1 x.2.2.1 x.2.2.2.1 x.2.2.2.2 (fun r => r = mMustCheck x.1 x.2.1 x.2.2.1 x.2.2.2.1 x.2.2.2.2) := fun x h => spec_MustCheck_ok x.1 x.2.1 x.2.2.1 x.2.2.2.1 x.2.2.2.2 h
theorem all6 (w : World) (hJ : J w) : CtAt Tryz.prog ct6 w :=
  ct_by ok6 (cs6 w hJ) Tryz.func6 (by kernel_rfl) (H := (hint [])) law6 (by kernel_rfl)
noncomputable def ct61 : Ct := joinCt 9 61
theorem all61 (w : World) (hJ : J w) : CtAt Tryz.prog ct61 w := join_ct ⟨_, Tryz.func61, by kernel_rfl, by kernel_rfl⟩ (fun a c sep => Tryz.strings_Join_none a c sep w) (fun bk o c xs sep h1 h2 h3 h4 h5 => Tryz.strings_Join bk o c xs sep w h1 h2 h3 h4 h5)
noncomputable def E48 : Env := { tt, eqs := [], cts := [ct61] }
theorem ok48 : EnvOk Tryz.prog E48 := ⟨ttOk, by kernel_rfl, rfl, mixOk⟩
theorem cs48 (w0 : World) (hJ : J w0) : EnvCts Tryz.prog E48 w0 w0.heap.size := by
  refine ⟨fun c hc => ?_, fun c hc => ?_⟩
  · rcases List.mem_cons.1 hc with rfl | hc
    · exact fun w hb => all61 w (J_below hJ hb)
    cases hc
  · cases hc
noncomputable def ct48 : Ct := { f := 48, ps := [.v false .ro ls30, .v false .ro ls9], rs := [(false, ls9), (false, ls4)], shared := false, pre := fun (x : (List Fld) × S) => pFieldGet x.1 x.2, F := fun (x : (List Fld) × S) => mFieldGet x.1 x.2 }
theorem law48 : ∀ x : (List Fld) × S, pFieldGet x.1 x.2 → s_impl_FieldGet x.1 x.2 (fun r => r = mFieldGet x.1 x.2) := fun x h => impl_FieldGet_ok x.1 x.2 h
theorem all48 (w : World) (hJ : J w) : CtAt Tryz.prog ct48 w :=
  ct_by ok48 (cs48 w hJ) Tryz.func48 (by kernel_rfl) (H := (hint [(3, [.reg 6 9 [.str] true, .val 12 (.int .i64)])])) law48 (by kernel_rfl)
noncomputable def E62 : Env := { tt, eqs := [], cts := [] }
theorem ok62 : EnvOk Tryz.prog E62 := ⟨ttOk, by kernel_rfl, rfl, mixOk⟩
theorem cs62 (w0 : World) (hJ : J w0) : EnvCts Tryz.prog E62 w0 w0.heap.size := by
  refine ⟨fun c hc => ?_, fun c hc => ?_⟩
  · cases hc
  · cases hc
noncomputable def ct62 : Ct := { f := 62, ps := [.v false .ro ls9], rs := [(false, ls83)], shared := false, pre := fun (x : S) => pCommas x, F := fun (x : S) => mCommas x }
theorem law62 : ∀ x : S, pCommas x → s_impl_commas x (fun r => r = mCommas x) := fun x h => impl_commas_ok x h
theorem all62 (w : World) (hJ : J w) : CtAt Tryz.prog ct62 w :=
  ct_by ok62 (cs62 w hJ) Tryz.func62 (by kernel_rfl) (H := (hint [(4, [.reg 3 3 [.int .i64] true, .val 4 (.bool), .val 5 (.int .i64)])])) law62 (by kernel_rfl)
noncomputable def ct88 : Ct := trimLCt 88
theorem all88 (w : World) (hJ : J w) : CtAt Tryz.prog ct88 w := trimL_ct ⟨_, Tryz.func88, by kernel_rfl, by kernel_rfl⟩ (fun s cs h1 h2 h3 => Go.Proofs.Any.strings_Trim_laid Tryz.lays160 (by kernel_rfl) s cs w h1 h2 h3)
noncomputable def E63 : Env := { tt, eqs := [], cts := [ct88] }
theorem ok63 : EnvOk Tryz.prog E63 := ⟨ttOk, by kernel_rfl, rfl, mixOk⟩
theorem cs63 (w0 : World) (hJ : J w0) : EnvCts Tryz.prog E63 w0 w0.heap.size := by
  refine ⟨fun c hc => ?_, fun c hc => ?_⟩
  · rcases List.mem_cons.1 hc with rfl | hc
    · exact fun w hb => all88 w (J_below hJ hb)
    cases hc
  · cases hc
noncomputable def ct63 : Ct := { f := 63, ps := [.v false .ro ls9], rs := [(false, ls9)], shared := false, pre := fun (x : S) => pTrim x, F := fun (x : S) => mTrim x }
theorem law63 : ∀ x : S, pTrim x → s_impl_Trim x (fun r => r = mTrim x) := fun x h => impl_Trim_ok x h
theorem all63 (w : World) (hJ : J w) : CtAt Tryz.prog ct63 w :=
  ct_by ok63 (cs63 w hJ) Tryz.func63 (by kernel_rfl) (H := (hint [])) law63 (by kernel_rfl)
noncomputable def E49 : Env := { tt, eqs := [], cts := [ct62, ct63] }
theorem ok49 : EnvOk Tryz.prog E49 := ⟨ttOk, by kernel_rfl, rfl, mixOk⟩
theorem cs49 (w0 : World) (hJ : J w0) : EnvCts Tryz.prog E49 w0 w0.heap.size := by
  refine ⟨fun c hc => ?_, fun c hc => ?_⟩
  · rcases List.mem_cons.1 hc with rfl | hc
    · exact fun w hb => all62 w (J_below hJ hb)
    rcases List.mem_cons.1 hc with rfl | hc
    · exact fun w hb => all63 w (J_below hJ hb)
    cases hc
  · cases hc
noncomputable def ct49 : Ct := { f := 49, ps := [.v false .ro ls9], rs := [(false, ls63)], shared := false, pre := fun (x : S) => pSplitList x, F := fun (x : S) => mSplitList x }
theorem law49 : ∀ x : S, pSplitList x → s_impl_SplitList x (fun r => r = mSplitList x) := fun x h => impl_SplitList_ok x h
theorem all49 (w : World) (hJ : J w) : CtAt Tryz.prog ct49 w :=
  ct_by ok49 (cs49 w hJ) Tryz.func49 (by kernel_rfl) (H := (hint [(4, [.reg 3 9 [.str] true, .val 4 (.int .i64), .val 16 (.int .i64)])])) law49 (by kernel_rfl)
noncomputable def ct50 : Ct := cutCt 50
theorem all50 (w : World) (hJ : J w) : CtAt Tryz.prog ct50 w := cut_ct ⟨_, Tryz.func50, by kernel_rfl, by kernel_rfl⟩ (fun s sep h => hJ.2.2.2.1.elim fun m hm => Tryz.strings_Cut s sep m w h hm)
noncomputable def E65 : Env := { tt, eqs := [], cts := [] }
theorem ok65 : EnvOk Tryz.prog E65 := ⟨ttOk, by kernel_rfl, rfl, mixOk⟩
theorem cs65 (w0 : World) (hJ : J w0) : EnvCts Tryz.prog E65 w0 w0.heap.size := by
  refine ⟨fun c hc => ?_, fun c hc => ?_⟩
  · cases hc
  · cases hc
noncomputable def ct65 : Ct := { f := 65, ps := [.v false .ro ls5], rs := [(false, ls4)], shared := false, pre := fun (x : Int) => pIsLetterOrDigit x, F := fun (x : Int) => mIsLetterOrDigit x }
theorem law65 : ∀ x : Int, pIsLetterOrDigit x → s_impl_isLetterOrDigit x (fun r => r = mIsLetterOrDigit x) := fun x _ => impl_isLetterOrDigit_ok x
theorem all65 (w : World) (hJ : J w) : CtAt Tryz.prog ct65 w :=
  ct_by ok65 (cs65 w hJ) Tryz.func65 (by kernel_rfl) (H := (hint [])) law65 (by kernel_rfl)
noncomputable def ct66 : Ct := indexByteCt 66
theorem all66 (w : World) (hJ : J w) : CtAt Tryz.prog ct66 w := indexByte_ct ⟨_, Tryz.func66, by kernel_rfl, by kernel_rfl⟩ (fun s c => Tryz.strings_IndexByte s c w)
noncomputable def E51 : Env := { tt, eqs := [], cts := [ct65, ct66] }
theorem ok51 : EnvOk Tryz.prog E51 := ⟨ttOk, by kernel_rfl, rfl, mixOk⟩
theorem cs51 (w0 : World) (hJ : J w0) : EnvCts Tryz.prog E51 w0 w0.heap.size := by
  refine ⟨fun c hc => ?_, fun c hc => ?_⟩
  · rcases List.mem_cons.1 hc with rfl | hc
    · exact fun w hb => all65 w (J_below hJ hb)
    rcases List.mem_cons.1 hc with rfl | hc
    · exact fun w hb => all66 w (J_below hJ hb)
    cases hc
  · cases hc
noncomputable def ct51 : Ct := { f := 51, ps := [.v false .ro ls9], rs := [(false, ls4)], shared := false, pre := fun (x : S) => pIsTokenText x, F := fun (x : S) => mIsTokenText x }
theorem law51 : ∀ x : S, pIsTokenText x → s_impl_IsTokenText x (fun r => r = mIsTokenText x) := fun x h => impl_IsTokenText_ok x h
theorem all51 (w : World) (hJ : J w) : CtAt Tryz.prog ct51 w :=
  ct_by ok51 (cs51 w hJ) Tryz.func51 (by kernel_rfl) (H := (hint [(2, [.val 6 (.int .i64)])])) law51 (by kernel_rfl)
set_option maxRecDepth 100000 in
theorem lower_calls52 (s : ByteArray) (hs : s.size ≤ 1073741824) (w : World) : Calls Tryz.prog 52 #[.string s] w fun e w' => e = .returned (.string (mLower s)) ∧ Below w.heap.size w w' := by
  obtain ⟨W1, cap, hconv, hW1⟩ := low_new Tryz.prog 9 78 5 w s Tryz.underlying9 Tryz.underlying78 Tryz.underlying5
  go_enter Tryz.func52, Tryz.ntmps52
  go_wp2
  go_loopg [10] s.size (fun gg v10 wr => ∃ i : Nat, i + gg = s.size ∧ v10 = .int .i64 (i : Int) ∧ Hid (LowW w.heap.size s i w wr))
  case atStart => exact ⟨0, by omega, rfl, hW1⟩
  case round =>
    obtain ⟨i, hi, rfl, hW⟩ := hrel
    have hH := hW.out
    by_cases hlt : i < s.size
    · have hcz := hH.2 i hlt
      rw [if_neg (Nat.lt_irrefl i)] at hcz
      have hlb := low_byte (bs s)[i]!
      have hx : ((bs s)[i]!).toNat < 256 := UInt8.toNat_lt _
      generalize hxe : ((bs s)[i]!).toNat = x at *
      obtain ⟨hc, hz⟩ := hcz
      have d1 : ((i : Int) < (s.size : Int)) := by omega
      have d0 : (0 : Int) ≤ (i : Int) := by omega
      have HC := (show Hid (i < s.size ∧ LowW w.heap.size s i w wr ∧ ((bs s)[i]!).toNat = x) from ⟨hlt, hH, hxe⟩)
      have HL := (show Hid _ from hlb)
      clear hH hlb hW hxe hlt
      by_cases c1 : 65 ≤ x
      · by_cases c2 : x ≤ 90
        · have k1 : decide (65 ≤ (x : Int)) = true := decide_eq_true (by omega)
          have k2 : decide ((x : Int) ≤ 90) = true := decide_eq_true (by omega)
          go_wp2
          go_roundg (gk - 1)
          case measure => have := HC.out.1; omega
          case rel =>
            obtain ⟨hlt, hH, hxe⟩ := HC.out
            refine ⟨i + 1, by omega, by simp, hH.next hlt ?_⟩
            rw [← HL.out.1 ⟨c1, c2⟩, IntKind.wrap_u8, IntKind.wrap_u8]; omega
        · have k1 : decide (65 ≤ (x : Int)) = true := decide_eq_true (by omega)
          have k2 : decide ((x : Int) ≤ 90) = false := decide_eq_false (by omega)
          go_wp2
          go_roundg (gk - 1)
          case measure => have := HC.out.1; omega
          case rel =>
            obtain ⟨hlt, hH, hxe⟩ := HC.out
            exact ⟨i + 1, by omega, by simp, hH.skip hlt (HL.out.2 (fun h => c2 h.2))⟩
      · have k1 : decide (65 ≤ (x : Int)) = false := decide_eq_false (by omega)
        go_wp2
        go_roundg (gk - 1)
        case measure => have := HC.out.1; omega
        case rel =>
          obtain ⟨hlt, hH, hxe⟩ := HC.out
          exact ⟨i + 1, by omega, by simp, hH.skip hlt (HL.out.2 (fun h => c1 h.1))⟩
    · have hie : i = s.size := by omega
      subst hie
      have hb := low_end Tryz.prog 78 9 5 w.heap.size cap w wr s Tryz.underlying78 Tryz.underlying5 Tryz.underlying9 hH
      have HC := (show Hid (Below w.heap.size w wr) from hH.1)
      clear hH hW hlt
      go_wp2
      go_ret
      exact ⟨rfl, HC.out⟩
noncomputable def ct52 : Ct := lowerCt 52
theorem all52 (w : World) (hJ : J w) : CtAt Tryz.prog ct52 w := lower_ct ⟨_, Tryz.func52, by kernel_rfl, by kernel_rfl⟩ (fun s h => lower_calls52 s h w)
noncomputable def E33 : Env := { tt, eqs := [], cts := [ct48, ct49, ct50, ct51, ct52] }
theorem ok33 : EnvOk Tryz.prog E33 := ⟨ttOk, by kernel_rfl, rfl, mixOk⟩
theorem cs33 (w0 : World) (hJ : J w0) : EnvCts Tryz.prog E33 w0 w0.heap.size := by
  refine ⟨fun c hc => ?_, fun c hc => ?_⟩
  · rcases List.mem_cons.1 hc with rfl | hc
    · exact fun w hb => all48 w (J_below hJ hb)
    rcases List.mem_cons.1 hc with rfl | hc
    · exact fun w hb => all49 w (J_below hJ hb)
    rcases List.mem_cons.1 hc with rfl | hc
    · exact fun w hb => all50 w (J_below hJ hb)
    rcases List.mem_cons.1 hc with rfl | hc
    · exact fun w hb => all51 w (J_below hJ hb)
    rcases List.mem_cons.1 hc with rfl | hc
    · exact fun w hb => all52 w (J_below hJ hb)
    cases hc
  · cases hc
noncomputable def ct33 : Ct := { f := 33, ps := [.v false .ro ls30], rs := [(false, ls52)], shared := false, pre := fun (x : (List Fld)) => pDirectives x, F := fun (x : (List Fld)) => mDirectives x }
theorem law33 : ∀ x : (List Fld), pDirectives x → s_impl_Directives x (fun r => r = mDirectives x) := fun x h => impl_Directives_ok x h
theorem all33 (w : World) (hJ : J w) : CtAt Tryz.prog ct33 w :=
  ct_by ok33 (cs33 w hJ) Tryz.func33 (by kernel_rfl) (H := (hint [(4, [.reg 5 54 [.str, .str] true, .val 20 (.int .i64)])])) law33 (by kernel_rfl)
noncomputable def E34 : Env := { tt, eqs := [], cts := [] }
theorem ok34 : EnvOk Tryz.prog E34 := ⟨ttOk, by kernel_rfl, rfl, mixOk⟩
theorem cs34 (w0 : World) (hJ : J w0) : EnvCts Tryz.prog E34 w0 w0.heap.size := by
  refine ⟨fun c hc => ?_, fun c hc => ?_⟩
  · cases hc
  · cases hc
noncomputable def ct34 : Ct := { f := 34, ps := [.v true .ro ls54, .p false ls9], rs := [(false, ls4)], shared := false, pre := fun (x : Fld × S) => pCcHas_1 x.1 x.2, F := fun (x : Fld × S) => mCcHas_1 x.1 x.2 }
theorem law34 : ∀ x : Fld × S, pCcHas_1 x.1 x.2 → s_impl_CcHas_1 x.1 x.2 (fun r => r = mCcHas_1 x.1 x.2) := fun x h => impl_CcHas_1_ok x.1 x.2 h
theorem all34 (w : World) (hJ : J w) : CtAt Tryz.prog ct34 w :=
  ct_by ok34 (cs34 w hJ) Tryz.func34 (by kernel_rfl) (H := (hint [])) law34 (by kernel_rfl)
noncomputable def E47_34 : Env := { tt, eqs := [], cts := [ct34] }
theorem ok47_34 : EnvOk Tryz.prog E47_34 := ⟨ttOk, by kernel_rfl, rfl, mixOk⟩
theorem cs47_34 (w0 : World) (hJ : J w0) : EnvCts Tryz.prog E47_34 w0 w0.heap.size := by
  refine ⟨fun c hc => ?_, fun c hc => ?_⟩
  · rcases List.mem_cons.1 hc with rfl | hc
    · exact fun w hb => all34 w (J_below hJ hb)
    cases hc
  · cases hc
noncomputable def ct47_34 : Ct := { f := 47, ps := [.v false .ro ls52, .c 34 [ls9]], rs := [(false, ls3)], shared := false, pre := fun (x : (List Fld) × S) => pIndexFunc_CcHas_1 x.1 x.2, F := fun (x : (List Fld) × S) => mIndexFunc_CcHas_1 x.1 x.2 }
theorem law47_34 : ∀ x : (List Fld) × S, pIndexFunc_CcHas_1 x.1 x.2 → s_IndexFunc_CcHas_1 x.1 x.2 (fun r => r = mIndexFunc_CcHas_1 x.1 x.2) := fun x h => IndexFunc_CcHas_1_ok x.1 x.2 h
theorem all47_34 (w : World) (hJ : J w) : CtAt Tryz.prog ct47_34 w :=
  ct_by ok47_34 (cs47_34 w hJ) Tryz.func47 (by kernel_rfl) (H := (hint [(2, [.val 8 (.int .i64)])])) law47_34 (by kernel_rfl)
noncomputable def E32_34 : Env := { tt, eqs := [], cts := [ct47_34] }
theorem ok32_34 : EnvOk Tryz.prog E32_34 := ⟨ttOk, by kernel_rfl, rfl, mixOk⟩
theorem cs32_34 (w0 : World) (hJ : J w0) : EnvCts Tryz.prog E32_34 w0 w0.heap.size := by
  refine ⟨fun c hc => ?_, fun c hc => ?_⟩
  · rcases List.mem_cons.1 hc with rfl | hc
    · exact fun w hb => all47_34 w (J_below hJ hb)
    cases hc
  · cases hc
noncomputable def ct32_34 : Ct := { f := 32, ps := [.v false .ro ls52, .c 34 [ls9]], rs := [(false, ls4)], shared := false, pre := fun (x : (List Fld) × S) => pContainsFunc_CcHas_1 x.1 x.2, F := fun (x : (List Fld) × S) => mContainsFunc_CcHas_1 x.1 x.2 }
theorem law32_34 : ∀ x : (List Fld) × S, pContainsFunc_CcHas_1 x.1 x.2 → s_ContainsFunc_CcHas_1 x.1 x.2 (fun r => r = mContainsFunc_CcHas_1 x.1 x.2) := fun x h => ContainsFunc_CcHas_1_ok x.1 x.2 h
theorem all32_34 (w : World) (hJ : J w) : CtAt Tryz.prog ct32_34 w :=
  ct_by ok32_34 (cs32_34 w hJ) Tryz.func32 (by kernel_rfl) (H := (hint [])) law32_34 (by kernel_rfl)
noncomputable def E19 : Env := { tt, eqs := [], cts := [ct33, ct32_34] }
theorem ok19 : EnvOk Tryz.prog E19 := ⟨ttOk, by kernel_rfl, rfl, mixOk⟩
theorem cs19 (w0 : World) (hJ : J w0) : EnvCts Tryz.prog E19 w0 w0.heap.size := by
  refine ⟨fun c hc => ?_, fun c hc => ?_⟩
  · rcases List.mem_cons.1 hc with rfl | hc
    · exact fun w hb => all33 w (J_below hJ hb)
    rcases List.mem_cons.1 hc with rfl | hc
    · exact fun w hb => all32_34 w (J_below hJ hb)
    cases hc
  · cases hc
noncomputable def ct19 : Ct := { f := 19, ps := [.v false .ro ls30, .v false .ro ls9], rs := [(false, ls4)], shared := false, pre := fun (x : (List Fld) × S) => pCcHas x.1 x.2, F := fun (x : (List Fld) × S) => mCcHas x.1 x.2 }
theorem law19 : ∀ x : (List Fld) × S, pCcHas x.1 x.2 → s_impl_CcHas x.1 x.2 (fun r => r = mCcHas x.1 x.2) := fun x h => impl_CcHas_ok x.1 x.2 h
theorem all19 (w : World) (hJ : J w) : CtAt Tryz.prog ct19 w :=
  ct_by ok19 (cs19 w hJ) Tryz.func19 (by kernel_rfl) (H := (hint [])) law19 (by kernel_rfl)
noncomputable def ct67 : Ct := splitCt 9 67
theorem all67 (w : World) (hJ : J w) : CtAt Tryz.prog ct67 w := split_ct ⟨_, Tryz.func67, by kernel_rfl, by kernel_rfl⟩ (fun s sep h1 h2 => hJ.2.2.2.1.elim fun m hm => Tryz.strings_Split s sep m w h1 hm h2)
noncomputable def ct55 : Ct := atoiCt 55
theorem all55 (w : World) (hJ : J w) : CtAt Tryz.prog ct55 w := atoi_ct ⟨_, Tryz.func55, by kernel_rfl, by kernel_rfl⟩ hJ.2.1 hJ.2.2.1
    (fun s h v hv => (Tryz.strconv_Atoi_ok s h v hv w).mono fun e w' ⟨he, hw⟩ => ⟨he, by rcases hw with rfl | ⟨t, rfl⟩; exact Below.refl _ _; exact Lib.bytesWorld_below _ _ _⟩)
    (fun s h hv ev h1 h2 => (Tryz.strconv_Atoi_syntax s h hv ev w h1 h2).mono fun e w' ⟨N, he, _, _, hb⟩ => ⟨_, he, hb⟩)
    (fun s h hv ev h1 h2 => (Tryz.strconv_Atoi_range s h hv ev w h1 h2).mono fun e w' ⟨N, he, _, _, hb⟩ => ⟨_, he, hb⟩)
noncomputable def E69 : Env := { tt, eqs := [], cts := [ct55] }
theorem ok69 : EnvOk Tryz.prog E69 := ⟨ttOk, by kernel_rfl, rfl, mixOk⟩
theorem cs69 (w0 : World) (hJ : J w0) : EnvCts Tryz.prog E69 w0 w0.heap.size := by
  refine ⟨fun c hc => ?_, fun c hc => ?_⟩
  · rcases List.mem_cons.1 hc with rfl | hc
    · exact fun w hb => all55 w (J_below hJ hb)
    cases hc
  · cases hc
noncomputable def ct69 : Ct := { f := 69, ps := [.v false .ro ls9], rs := [(false, ls3)], shared := false, pre := fun (x : S) => pNumber x, F := fun (x : S) => mNumber x }
theorem law69 : ∀ x : S, pNumber x → s_impl_number x (fun r => r = mNumber x) := fun x h => impl_number_ok x h
theorem all69 (w : World) (hJ : J w) : CtAt Tryz.prog ct69 w :=
  ct_by ok69 (cs69 w hJ) Tryz.func69 (by kernel_rfl) (H := (hint [(2, [.val 8 (.int .i64)])])) law69 (by kernel_rfl)
noncomputable def E71 : Env := { tt, eqs := [], cts := [] }
theorem ok71 : EnvOk Tryz.prog E71 := ⟨ttOk, by kernel_rfl, rfl, mixOk⟩
theorem cs71 (w0 : World) (hJ : J w0) : EnvCts Tryz.prog E71 w0 w0.heap.size := by
  refine ⟨fun c hc => ?_, fun c hc => ?_⟩
  · cases hc
  · cases hc
noncomputable def ct71 : Ct := { f := 71, ps := [], rs := [(false, ls63)], shared := false, pre := fun (x : Unit) => pMonths (), F := fun (x : Unit) => mMonths () }
theorem law71 : ∀ x : Unit, pMonths () → s_impl_months  (fun r => r = mMonths ()) := fun x h => impl_months_ok
theorem all71 (w : World) (hJ : J w) : CtAt Tryz.prog ct71 w :=
  ct_by ok71 (cs71 w hJ) Tryz.func71 (by kernel_rfl) (H := (hint [])) law71 (by kernel_rfl)
noncomputable def E70 : Env := { tt, eqs := [], cts := [] }
theorem ok70 : EnvOk Tryz.prog E70 := ⟨ttOk, by kernel_rfl, rfl, mixOk⟩
theorem cs70 (w0 : World) (hJ : J w0) : EnvCts Tryz.prog E70 w0 w0.heap.size := by
  refine ⟨fun c hc => ?_, fun c hc => ?_⟩
  · cases hc
  · cases hc
noncomputable def ct70 : Ct := { f := 70, ps := [.v false .ro ls63, .v false .ro ls9], rs := [(false, ls3)], shared := false, pre := fun (x : (List S) × S) => pIndex_string x.1 x.2, F := fun (x : (List S) × S) => mIndex_string x.1 x.2 }
theorem law70 : ∀ x : (List S) × S, pIndex_string x.1 x.2 → s_slices_Index_string x.1 x.2 (fun r => r = mIndex_string x.1 x.2) := fun x h => slices_Index_string_ok x.1 x.2 h
theorem all70 (w : World) (hJ : J w) : CtAt Tryz.prog ct70 w :=
  ct_by ok70 (cs70 w hJ) Tryz.func70 (by kernel_rfl) (H := (hint [(2, [.val 8 (.int .i64)])])) law70 (by kernel_rfl)
noncomputable def E92 : Env := { tt, eqs := [], cts := [] }
theorem ok92 : EnvOk Tryz.prog E92 := ⟨ttOk, by kernel_rfl, rfl, mixOk⟩
theorem cs92 (w0 : World) (hJ : J w0) : EnvCts Tryz.prog E92 w0 w0.heap.size := by
  refine ⟨fun c hc => ?_, fun c hc => ?_⟩
  · cases hc
  · cases hc
noncomputable def ct92 : Ct := { f := 92, ps := [.v false .ro ls3, .v false .ro ls3, .v false .ro ls3], rs := [(false, ls4)], shared := false, pre := fun (x : Int × Int × Int) => pIn x.1 x.2.1 x.2.2, F := fun (x : Int × Int × Int) => mIn x.1 x.2.1 x.2.2 }
theorem law92 : ∀ x : Int × Int × Int, pIn x.1 x.2.1 x.2.2 → s_impl_in x.1 x.2.1 x.2.2 (fun r => r = mIn x.1 x.2.1 x.2.2) := fun x _ => impl_in_ok x.1 x.2.1 x.2.2
theorem all92 (w : World) (hJ : J w) : CtAt Tryz.prog ct92 w :=
  ct_by ok92 (cs92 w hJ) Tryz.func92 (by kernel_rfl) (H := (hint [])) law92 (by kernel_rfl)
noncomputable def E117 : Env := { tt, eqs := [], cts := [] }
theorem ok117 : EnvOk Tryz.prog E117 := ⟨ttOk, by kernel_rfl, rfl, mixOk⟩
theorem cs117 (w0 : World) (hJ : J w0) : EnvCts Tryz.prog E117 w0 w0.heap.size := by
  refine ⟨fun c hc => ?_, fun c hc => ?_⟩
  · cases hc
  · cases hc
noncomputable def ct117 : Ct := { f := 117, ps := [.v false .ro ls3], rs := [(false, ls4)], shared := false, pre := fun (x : Int) => pIsLeap x, F := fun (x : Int) => mIsLeap x }
theorem law117 : ∀ x : Int, pIsLeap x → s_impl_IsLeap x (fun r => r = mIsLeap x) := fun x h => impl_IsLeap_ok x h
theorem all117 (w : World) (hJ : J w) : CtAt Tryz.prog ct117 w :=
  ct_by ok117 (cs117 w hJ) Tryz.func117 (by kernel_rfl) (H := (hint [])) law117 (by kernel_rfl)
noncomputable def E93 : Env := { tt, eqs := [], cts := [ct117] }
theorem ok93 : EnvOk Tryz.prog E93 := ⟨ttOk, by kernel_rfl, rfl, mixOk⟩
theorem cs93 (w0 : World) (hJ : J w0) : EnvCts Tryz.prog E93 w0 w0.heap.size := by
  refine ⟨fun c hc => ?_, fun c hc => ?_⟩
  · rcases List.mem_cons.1 hc with rfl | hc
    · exact fun w hb => all117 w (J_below hJ hb)
    cases hc
  · cases hc
noncomputable def ct93 : Ct := { f := 93, ps := [.v false .ro ls3, .v false .ro ls3], rs := [(false, ls3)], shared := false, pre := fun (x : Int × Int) => pMonthDays x.1 x.2, F := fun (x : Int × Int) => mMonthDays x.1 x.2 }
theorem law93 : ∀ x : Int × Int, pMonthDays x.1 x.2 → s_impl_monthDays x.1 x.2 (fun r => r = mMonthDays x.1 x.2) := fun x h => impl_monthDays_ok x.1 x.2 h
theorem all93 (w : World) (hJ : J w) : CtAt Tryz.prog ct93 w :=
  ct_by ok93 (cs93 w hJ) Tryz.func93 (by kernel_rfl) (H := (hint [])) law93 (by kernel_rfl)
noncomputable def E94 : Env := { tt, eqs := [], cts := [ct117] }
theorem ok94 : EnvOk Tryz.prog E94 := ⟨ttOk, by kernel_rfl, rfl, mixOk⟩
theorem cs94 (w0 : World) (hJ : J w0) : EnvCts Tryz.prog E94 w0 w0.heap.size := by
  refine ⟨fun c hc => ?_, fun c hc => ?_⟩
  · rcases List.mem_cons.1 hc with rfl | hc
    · exact fun w hb => all117 w (J_below hJ hb)
    cases hc
  · cases hc
noncomputable def ct94 : Ct := { f := 94, ps := [.v false .ro ls3], rs := [(false, ls3)], shared := false, pre := fun (x : Int) => pYearDays x, F := fun (x : Int) => mYearDays x }
theorem law94 : ∀ x : Int, pYearDays x → s_impl_yearDays x (fun r => r = mYearDays x) := fun x h => impl_yearDays_ok x h
theorem all94 (w : World) (hJ : J w) : CtAt Tryz.prog ct94 w :=
  ct_by ok94 (cs94 w hJ) Tryz.func94 (by kernel_rfl) (H := (hint [])) law94 (by kernel_rfl)
noncomputable def E68 : Env := { tt, eqs := [], cts := [ct92, ct93, ct94] }
theorem ok68 : EnvOk Tryz.prog E68 := ⟨ttOk, by kernel_rfl, rfl, mixOk⟩
theorem cs68 (w0 : World) (hJ : J w0) : EnvCts Tryz.prog E68 w0 w0.heap.size := by
  refine ⟨fun c hc => ?_, fun c hc => ?_⟩
  · rcases List.mem_cons.1 hc with rfl | hc
    · exact fun w hb => all92 w (J_below hJ hb)
    rcases List.mem_cons.1 hc with rfl | hc
    · exact fun w hb => all93 w (J_below hJ hb)
    rcases List.mem_cons.1 hc with rfl | hc
    · exact fun w hb => all94 w (J_below hJ hb)
    cases hc
  · cases hc
noncomputable def ct68 : Ct := { f := 68, ps := [.v false .ro ls3, .v false .ro ls3, .v false .ro ls3], rs := [(false, ls3)], shared := false, pre := fun (x : Int × Int × Int) => pDaysOf x.1 x.2.1 x.2.2, F := fun (x : Int × Int × Int) => mDaysOf x.1 x.2.1 x.2.2 }
theorem law68 : ∀ x : Int × Int × Int, pDaysOf x.1 x.2.1 x.2.2 → s_impl_DaysOf x.1 x.2.1 x.2.2 (fun r => r = mDaysOf x.1 x.2.1 x.2.2) := fun x h => impl_DaysOf_ok x.1 x.2.1 x.2.2 h
theorem all68 (w : World) (hJ : J w) : CtAt Tryz.prog ct68 w :=
  ct_by ok68 (cs68 w hJ) Tryz.func68 (by kernel_rfl) (H := (hint [(5, [.val 7 (.int .i64), .val 8 (.int .i64)]), (9, [.val 7 (.int .i64), .val 9 (.int .i64)])])) law68 (by kernel_rfl)
noncomputable def ct96 : Ct := itoaCt 96
theorem all96 (w : World) (hJ : J w) : CtAt Tryz.prog ct96 w := itoa_ct ⟨_, Tryz.func96, by kernel_rfl, by kernel_rfl⟩ (fun k h0 h1 => Tryz.strconv_Itoa k h0 h1 w hJ.1)
noncomputable def E95 : Env := { tt, eqs := [], cts := [ct96] }
theorem ok95 : EnvOk Tryz.prog E95 := ⟨ttOk, by kernel_rfl, rfl, mixOk⟩
theorem cs95 (w0 : World) (hJ : J w0) : EnvCts Tryz.prog E95 w0 w0.heap.size := by
  refine ⟨fun c hc => ?_, fun c hc => ?_⟩
  · rcases List.mem_cons.1 hc with rfl | hc
    · exact fun w hb => all96 w (J_below hJ hb)
    cases hc
  · cases hc
noncomputable def ct95 : Ct := { f := 95, ps := [.v false .ro ls3], rs := [(false, ls9)], shared := false, pre := fun (x : Int) => pTwo x, F := fun (x : Int) => mTwo x }
theorem law95 : ∀ x : Int, pTwo x → s_impl_two x (fun r => r = mTwo x) := fun x h => impl_two_ok x h
theorem all95 (w : World) (hJ : J w) : CtAt Tryz.prog ct95 w :=
  ct_by ok95 (cs95 w hJ) Tryz.func95 (by kernel_rfl) (H := (hint [])) law95 (by kernel_rfl)
noncomputable def E72 : Env := { tt, eqs := [], cts := [ct92, ct94, ct93, ct95, ct71, ct96] }
theorem ok72 : EnvOk Tryz.prog E72 := ⟨ttOk, by kernel_rfl, rfl, mixOk⟩
theorem cs72 (w0 : World) (hJ : J w0) : EnvCts Tryz.prog E72 w0 w0.heap.size := by
  refine ⟨fun c hc => ?_, fun c hc => ?_⟩
  · rcases List.mem_cons.1 hc with rfl | hc
    · exact fun w hb => all92 w (J_below hJ hb)
    rcases List.mem_cons.1 hc with rfl | hc
    · exact fun w hb => all94 w (J_below hJ hb)
    rcases List.mem_cons.1 hc with rfl | hc
    · exact fun w hb => all93 w (J_below hJ hb)
    rcases List.mem_cons.1 hc with rfl | hc
    · exact fun w hb => all95 w (J_below hJ hb)
    rcases List.mem_cons.1 hc with rfl | hc
    · exact fun w hb => all71 w (J_below hJ hb)
    rcases List.mem_cons.1 hc with rfl | hc
    · exact fun w hb => all96 w (J_below hJ hb)
    cases hc
  · cases hc
noncomputable def ct72 : Ct := { f := 72, ps := [.v false .ro ls3], rs := [(false, ls9)], shared := false, pre := fun (x : Int) => pShowDate x, F := fun (x : Int) => mShowDate x }
theorem law72 : ∀ x : Int, pShowDate x → s_impl_ShowDate x (fun r => r = mShowDate x) := fun x h => impl_ShowDate_ok x h
theorem all72 (w : World) (hJ : J w) : CtAt Tryz.prog ct72 w :=
  ct_by ok72 (cs72 w hJ) Tryz.func72 (by kernel_rfl) (H := (hint [(6, [.val 3 (.int .i64), .val 6 (.int .i64)]), (9, [.val 3 (.int .i64), .val 7 (.int .i64)])])) law72 (by kernel_rfl)
noncomputable def E53 : Env := { tt, eqs := [], cts := [ct67, ct69, ct71, ct70, ct68, ct72] }
theorem ok53 : EnvOk Tryz.prog E53 := ⟨ttOk, by kernel_rfl, rfl, mixOk⟩
theorem cs53 (w0 : World) (hJ : J w0) : EnvCts Tryz.prog E53 w0 w0.heap.size := by
  refine ⟨fun c hc => ?_, fun c hc => ?_⟩
  · rcases List.mem_cons.1 hc with rfl | hc
    · exact fun w hb => all67 w (J_below hJ hb)
    rcases List.mem_cons.1 hc with rfl | hc
    · exact fun w hb => all69 w (J_below hJ hb)
    rcases List.mem_cons.1 hc with rfl | hc
    · exact fun w hb => all71 w (J_below hJ hb)
    rcases List.mem_cons.1 hc with rfl | hc
    · exact fun w hb => all70 w (J_below hJ hb)
    rcases List.mem_cons.1 hc with rfl | hc
    · exact fun w hb => all68 w (J_below hJ hb)
    rcases List.mem_cons.1 hc with rfl | hc
    · exact fun w hb => all72 w (J_below hJ hb)
    cases hc
  · cases hc
noncomputable def ct53 : Ct := { f := 53, ps := [.v false .ro ls9], rs := [(false, ls3), (false, ls4)], shared := false, pre := fun (x : S) => pReadDate x, F := fun (x : S) => mReadDate x }
theorem law53 : ∀ x : S, pReadDate x → s_impl_ReadDate x (fun r => r = mReadDate x) := fun x h => impl_ReadDate_ok x h
theorem all53 (w : World) (hJ : J w) : CtAt Tryz.prog ct53 w :=
  ct_by ok53 (cs53 w hJ) Tryz.func53 (by kernel_rfl) (H := (hint [])) law53 (by kernel_rfl)
noncomputable def E37 : Env := { tt, eqs := [], cts := [ct48, ct53] }
theorem ok37 : EnvOk Tryz.prog E37 := ⟨ttOk, by kernel_rfl, rfl, mixOk⟩
theorem cs37 (w0 : World) (hJ : J w0) : EnvCts Tryz.prog E37 w0 w0.heap.size := by
  refine ⟨fun c hc => ?_, fun c hc => ?_⟩
  · rcases List.mem_cons.1 hc with rfl | hc
    · exact fun w hb => all48 w (J_below hJ hb)
    rcases List.mem_cons.1 hc with rfl | hc
    · exact fun w hb => all53 w (J_below hJ hb)
    cases hc
  · cases hc
noncomputable def ct37 : Ct := { f := 37, ps := [.v false .ro ls30, .v false .ro ls9], rs := [(false, ls3), (false, ls4)], shared := false, pre := fun (x : (List Fld) × S) => pDateOf x.1 x.2, F := fun (x : (List Fld) × S) => mDateOf x.1 x.2 }
theorem law37 : ∀ x : (List Fld) × S, pDateOf x.1 x.2 → s_impl_DateOf x.1 x.2 (fun r => r = mDateOf x.1 x.2) := fun x h => impl_DateOf_ok x.1 x.2 h
theorem all37 (w : World) (hJ : J w) : CtAt Tryz.prog ct37 w :=
  ct_by ok37 (cs37 w hJ) Tryz.func37 (by kernel_rfl) (H := (hint [])) law37 (by kernel_rfl)
noncomputable def E36 : Env := { tt, eqs := [], cts := [] }
theorem ok36 : EnvOk Tryz.prog E36 := ⟨ttOk, by kernel_rfl, rfl, mixOk⟩
theorem cs36 (w0 : World) (hJ : J w0) : EnvCts Tryz.prog E36 w0 w0.heap.size := by
  refine ⟨fun c hc => ?_, fun c hc => ?_⟩
  · cases hc
  · cases hc
noncomputable def ct36 : Ct := { f := 36, ps := [.v false .ro ls3, .v false .ro ls3], rs := [(false, ls3)], shared := false, pre := fun (x : Int × Int) => pLater x.1 x.2, F := fun (x : Int × Int) => mLater x.1 x.2 }
theorem law36 : ∀ x : Int × Int, pLater x.1 x.2 → s_impl_later x.1 x.2 (fun r => r = mLater x.1 x.2) := fun x h => impl_later_ok x.1 x.2 h
theorem all36 (w : World) (hJ : J w) : CtAt Tryz.prog ct36 w :=
  ct_by ok36 (cs36 w hJ) Tryz.func36 (by kernel_rfl) (H := (hint [])) law36 (by kernel_rfl)
noncomputable def E40 : Env := { tt, eqs := [], cts := [] }
theorem ok40 : EnvOk Tryz.prog E40 := ⟨ttOk, by kernel_rfl, rfl, mixOk⟩
theorem cs40 (w0 : World) (hJ : J w0) : EnvCts Tryz.prog E40 w0 w0.heap.size := by
  refine ⟨fun c hc => ?_, fun c hc => ?_⟩
  · cases hc
  · cases hc
noncomputable def ct40 : Ct := { f := 40, ps := [.v false .ro ls3], rs := [(false, ls3)], shared := false, pre := fun (x : Int) => pWithin x, F := fun (x : Int) => mWithin x }
theorem law40 : ∀ x : Int, pWithin x → s_impl_within x (fun r => r = mWithin x) := fun x h => impl_within_ok x h
theorem all40 (w : World) (hJ : J w) : CtAt Tryz.prog ct40 w :=
  ct_by ok40 (cs40 w hJ) Tryz.func40 (by kernel_rfl) (H := (hint [])) law40 (by kernel_rfl)
noncomputable def ct54 : Ct := trimLeftCt 54
theorem all54 (w : World) (hJ : J w) : CtAt Tryz.prog ct54 w := trimLeft_ct ⟨_, Tryz.func54, by kernel_rfl, by kernel_rfl⟩ (fun s => Tryz.strings_TrimLeft_one s 48 (by decide) w)
noncomputable def E39 : Env := { tt, eqs := [], cts := [ct54, ct55] }
theorem ok39 : EnvOk Tryz.prog E39 := ⟨ttOk, by kernel_rfl, rfl, mixOk⟩
theorem cs39 (w0 : World) (hJ : J w0) : EnvCts Tryz.prog E39 w0 w0.heap.size := by
  refine ⟨fun c hc => ?_, fun c hc => ?_⟩
  · rcases List.mem_cons.1 hc with rfl | hc
    · exact fun w hb => all54 w (J_below hJ hb)
    rcases List.mem_cons.1 hc with rfl | hc
    · exact fun w hb => all55 w (J_below hJ hb)
    cases hc
  · cases hc
noncomputable def ct39 : Ct := { f := 39, ps := [.v false .ro ls9], rs := [(false, ls3), (false, ls4)], shared := false, pre := fun (x : S) => pSeconds x, F := fun (x : S) => mSeconds x }
theorem law39 : ∀ x : S, pSeconds x → s_impl_Seconds x (fun r => r = mSeconds x) := fun x h => impl_Seconds_ok x h
theorem all39 (w : World) (hJ : J w) : CtAt Tryz.prog ct39 w :=
  ct_by ok39 (cs39 w hJ) Tryz.func39 (by kernel_rfl) (H := (hint [(2, [.val 10 (.int .i64)])])) law39 (by kernel_rfl)
noncomputable def E23 : Env := { tt, eqs := [], cts := [ct40] }
theorem ok23 : EnvOk Tryz.prog E23 := ⟨ttOk, by kernel_rfl, rfl, mixOk⟩
theorem cs23 (w0 : World) (hJ : J w0) : EnvCts Tryz.prog E23 w0 w0.heap.size := by
  refine ⟨fun c hc => ?_, fun c hc => ?_⟩
  · rcases List.mem_cons.1 hc with rfl | hc
    · exact fun w hb => all40 w (J_below hJ hb)
    cases hc
  · cases hc
noncomputable def ct23 : Ct := { f := 23, ps := [.v false .ro ls3, .v false .ro ls3], rs := [(false, ls3)], shared := false, pre := fun (x : Int × Int) => pSatAdd x.1 x.2, F := fun (x : Int × Int) => mSatAdd x.1 x.2 }
theorem law23 : ∀ x : Int × Int, pSatAdd x.1 x.2 → s_impl_SatAdd x.1 x.2 (fun r => r = mSatAdd x.1 x.2) := fun x h => impl_SatAdd_ok x.1 x.2 h
theorem all23 (w : World) (hJ : J w) : CtAt Tryz.prog ct23 w :=
  ct_by ok23 (cs23 w hJ) Tryz.func23 (by kernel_rfl) (H := (hint [])) law23 (by kernel_rfl)
noncomputable def E35 : Env := { tt, eqs := [], cts := [ct37, ct36, ct40, ct48, ct39, ct23] }
theorem ok35 : EnvOk Tryz.prog E35 := ⟨ttOk, by kernel_rfl, rfl, mixOk⟩
theorem cs35 (w0 : World) (hJ : J w0) : EnvCts Tryz.prog E35 w0 w0.heap.size := by
  refine ⟨fun c hc => ?_, fun c hc => ?_⟩
  · rcases List.mem_cons.1 hc with rfl | hc
    · exact fun w hb => all37 w (J_below hJ hb)
    rcases List.mem_cons.1 hc with rfl | hc
    · exact fun w hb => all36 w (J_below hJ hb)
    rcases List.mem_cons.1 hc with rfl | hc
    · exact fun w hb => all40 w (J_below hJ hb)
    rcases List.mem_cons.1 hc with rfl | hc
    · exact fun w hb => all48 w (J_below hJ hb)
    rcases List.mem_cons.1 hc with rfl | hc
    · exact fun w hb => all39 w (J_below hJ hb)
    rcases List.mem_cons.1 hc with rfl | hc
    · exact fun w hb => all23 w (J_below hJ hb)
    cases hc
  · cases hc
noncomputable def ct35 : Ct := { f := 35, ps := [.v true .ro ls35, .v false .ro ls3, .v false .ro ls3], rs := [(false, ls3)], shared := false, pre := fun (x : Rsp × Int × Int) => pFirstAge x.1 x.2.1 x.2.2, F := fun (x : Rsp × Int × Int) => mFirstAge x.1 x.2.1 x.2.2 }
theorem law35 : ∀ x : Rsp × Int × Int, pFirstAge x.1 x.2.1 x.2.2 → s_impl_FirstAge x.1 x.2.1 x.2.2 (fun r => r = mFirstAge x.1 x.2.1 x.2.2) := fun x h => impl_FirstAge_ok x.1 x.2.1 x.2.2 h
theorem all35 (w : World) (hJ : J w) : CtAt Tryz.prog ct35 w :=
  ct_by ok35 (cs35 w hJ) Tryz.func35 (by kernel_rfl) (H := (hint [])) law35 (by kernel_rfl)
noncomputable def E20 : Env := { tt, eqs := [], cts := [ct35, ct36, ct23] }
theorem ok20 : EnvOk Tryz.prog E20 := ⟨ttOk, by kernel_rfl, rfl, mixOk⟩
theorem cs20 (w0 : World) (hJ : J w0) : EnvCts Tryz.prog E20 w0 w0.heap.size := by
  refine ⟨fun c hc => ?_, fun c hc => ?_⟩
  · rcases List.mem_cons.1 hc with rfl | hc
    · exact fun w hb => all35 w (J_below hJ hb)
    rcases List.mem_cons.1 hc with rfl | hc
    · exact fun w hb => all36 w (J_below hJ hb)
    rcases List.mem_cons.1 hc with rfl | hc
    · exact fun w hb => all23 w (J_below hJ hb)
    cases hc
  · cases hc
noncomputable def ct20 : Ct := { f := 20, ps := [.v true .ro ls35, .v false .ro ls3, .v false .ro ls3, .v false .ro ls3], rs := [(false, ls3)], shared := false, pre := fun (x : Rsp × Int × Int × Int) => pAgeAt x.1 x.2.1 x.2.2.1 x.2.2.2, F := fun (x : Rsp × Int × Int × Int) => mAgeAt x.1 x.2.1 x.2.2.1 x.2.2.2 }
theorem law20 : ∀ x : Rsp × Int × Int × Int, pAgeAt x.1 x.2.1 x.2.2.1 x.2.2.2 → s_impl_AgeAt x.1 x.2.1 x.2.2.1 x.2.2.2 (fun r => r = mAgeAt x.1 x.2.1 x.2.2.1 x.2.2.2) := fun x h => impl_AgeAt_ok x.1 x.2.1 x.2.2.1 x.2.2.2 h
theorem all20 (w : World) (hJ : J w) : CtAt Tryz.prog ct20 w :=
  ct_by ok20 (cs20 w hJ) Tryz.func20 (by kernel_rfl) (H := (hint [])) law20 (by kernel_rfl)
noncomputable def E22 : Env := { tt, eqs := [], cts := [ct33, ct39] }
theorem ok22 : EnvOk Tryz.prog E22 := ⟨ttOk, by kernel_rfl, rfl, mixOk⟩
theorem cs22 (w0 : World) (hJ : J w0) : EnvCts Tryz.prog E22 w0 w0.heap.size := by
  refine ⟨fun c hc => ?_, fun c hc => ?_⟩
  · rcases List.mem_cons.1 hc with rfl | hc
    · exact fun w hb => all33 w (J_below hJ hb)
    rcases List.mem_cons.1 hc with rfl | hc
    · exact fun w hb => all39 w (J_below hJ hb)
    cases hc
  · cases hc
noncomputable def ct22 : Ct := { f := 22, ps := [.v false .ro ls30, .v false .ro ls9], rs := [(false, ls3), (false, ls4)], shared := false, pre := fun (x : (List Fld) × S) => pCcSeconds x.1 x.2, F := fun (x : (List Fld) × S) => mCcSeconds x.1 x.2 }
theorem law22 : ∀ x : (List Fld) × S, pCcSeconds x.1 x.2 → s_impl_CcSeconds x.1 x.2 (fun r => r = mCcSeconds x.1 x.2) := fun x h => impl_CcSeconds_ok x.1 x.2 h
theorem all22 (w : World) (hJ : J w) : CtAt Tryz.prog ct22 w :=
  ct_by ok22 (cs22 w hJ) Tryz.func22 (by kernel_rfl) (H := (hint [(3, [.val 6 (.int .i64), .val 7 (.bool), .val 15 (.int .i64)])])) law22 (by kernel_rfl)
noncomputable def E38 : Env := { tt, eqs := [], cts := [ct48] }
theorem ok38 : EnvOk Tryz.prog E38 := ⟨ttOk, by kernel_rfl, rfl, mixOk⟩
theorem cs38 (w0 : World) (hJ : J w0) : EnvCts Tryz.prog E38 w0 w0.heap.size := by
  refine ⟨fun c hc => ?_, fun c hc => ?_⟩
  · rcases List.mem_cons.1 hc with rfl | hc
    · exact fun w hb => all48 w (J_below hJ hb)
    cases hc
  · cases hc
noncomputable def ct38 : Ct := { f := 38, ps := [.v false .ro ls30, .v false .ro ls9], rs := [(false, ls4)], shared := false, pre := fun (x : (List Fld) × S) => pHasField x.1 x.2, F := fun (x : (List Fld) × S) => mHasField x.1 x.2 }
theorem law38 : ∀ x : (List Fld) × S, pHasField x.1 x.2 → s_impl_hasField x.1 x.2 (fun r => r = mHasField x.1 x.2) := fun x h => impl_hasField_ok x.1 x.2 h
theorem all38 (w : World) (hJ : J w) : CtAt Tryz.prog ct38 w :=
  ct_by ok38 (cs38 w hJ) Tryz.func38 (by kernel_rfl) (H := (hint [])) law38 (by kernel_rfl)
noncomputable def E21 : Env := { tt, eqs := [], cts := [ct22, ct37, ct38, ct36] }
theorem ok21 : EnvOk Tryz.prog E21 := ⟨ttOk, by kernel_rfl, rfl, mixOk⟩
theorem cs21 (w0 : World) (hJ : J w0) : EnvCts Tryz.prog E21 w0 w0.heap.size := by
  refine ⟨fun c hc => ?_, fun c hc => ?_⟩
  · rcases List.mem_cons.1 hc with rfl | hc
    · exact fun w hb => all22 w (J_below hJ hb)
    rcases List.mem_cons.1 hc with rfl | hc
    · exact fun w hb => all37 w (J_below hJ hb)
    rcases List.mem_cons.1 hc with rfl | hc
    · exact fun w hb => all38 w (J_below hJ hb)
    rcases List.mem_cons.1 hc with rfl | hc
    · exact fun w hb => all36 w (J_below hJ hb)
    cases hc
  · cases hc
noncomputable def ct21 : Ct := { f := 21, ps := [.v true .ro ls35], rs := [(false, ls3)], shared := false, pre := fun (x : Rsp) => pLifetime x, F := fun (x : Rsp) => mLifetime x }
theorem law21 : ∀ x : Rsp, pLifetime x → s_impl_Lifetime x (fun r => r = mLifetime x) := fun x h => impl_Lifetime_ok x h
theorem all21 (w : World) (hJ : J w) : CtAt Tryz.prog ct21 w :=
  ct_by ok21 (cs21 w hJ) Tryz.func21 (by kernel_rfl) (H := (hint [(2, [.val 15 (.int .i64)])])) law21 (by kernel_rfl)
noncomputable def E9 : Env := { tt, eqs := [], cts := [ct19, ct20, ct21, ct22, ct23] }
theorem ok9 : EnvOk Tryz.prog E9 := ⟨ttOk, by kernel_rfl, rfl, mixOk⟩
theorem cs9 (w0 : World) (hJ : J w0) : EnvCts Tryz.prog E9 w0 w0.heap.size := by
  refine ⟨fun c hc => ?_, fun c hc => ?_⟩
  · rcases List.mem_cons.1 hc with rfl | hc
    · exact fun w hb => all19 w (J_below hJ hb)
    rcases List.mem_cons.1 hc with rfl | hc
    · exact fun w hb => all20 w (J_below hJ hb)
    rcases List.mem_cons.1 hc with rfl | hc
    · exact fun w hb => all21 w (J_below hJ hb)
    rcases List.mem_cons.1 hc with rfl | hc
    · exact fun w hb => all22 w (J_below hJ hb)
    rcases List.mem_cons.1 hc with rfl | hc
    · exact fun w hb => all23 w (J_below hJ hb)
    cases hc
  · cases hc
noncomputable def ct9 : Ct := { f := 9, ps := [.v true .ro ls32, .v true .ro ls35, .v false .ro ls3, .v false .ro ls3, .v false .ro ls3], rs := [(false, ls4)], shared := false, pre := fun (x : Req × Rsp × Int × Int × Int) => pMustCheck x.1 x.2.1 x.2.2.1 x.2.2.2.1 x.2.2.2.2, F := fun (x : Req × Rsp × Int × Int × Int) => mMustCheck x.1 x.2.1 x.2.2.1 x.2.2.2.1 x.2.2.2.2 }
theorem law9 : ∀ x : Req × Rsp × Int × Int × Int, pMustCheck x.1 x.2.1 x.2.2.1 x.2.2.2.1 x.2.2.2.2 → s_impl_MustCheck x.1 x.2.1 x.2.2.1 x.2.2.2.1 x.2.2.2.2 (fun r => r = mMustCheck x.1 x.2.1 x.2.2.1 x.2.2.2.1 x.2.2.2.2) := fun x h => impl_MustCheck_ok x.1 x.2.1 x.2.2.1 x.2.2.2.1 x.2.2.2.2 h
theorem all9 (w : World) (hJ : J w) : CtAt Tryz.prog ct9 w :=
  ct_by ok9 (cs9 w hJ) Tryz.func9 (by kernel_rfl) (H := (hint [])) law9 (by kernel_rfl)
noncomputable def E41 : Env := { tt, eqs := [], cts := [] }
theorem ok41 : EnvOk Tryz.prog E41 := ⟨ttOk, by kernel_rfl, rfl, mixOk⟩
theorem cs41 (w0 : World) (hJ : J w0) : EnvCts Tryz.prog E41 w0 w0.heap.size := by
  refine ⟨fun c hc => ?_, fun c hc => ?_⟩
  · cases hc
  · cases hc
noncomputable def ct41 : Ct := { f := 41, ps := [.v true .ro ls59, .v true .ro ls59], rs := [(false, [.bool])], shared := false, pre := fun (q : Fld × Fld) => pEq q.1 q.2, F := fun (q : Fld × Fld) => eqF q.1 q.2 }
def st41 : List (EqStep Fld) := [.ne (fun (x y : Fld) => x.1 ≠ y.1), .ne (fun (x y : Fld) => x.2 ≠ y.2)]
def mk41 (a0 : S) (a1 : S) : Fld := (a0, a1)
theorem a41 (x y : Fld) : eqAll x y st41 ↔ x = y := by
  constructor
  · rintro ⟨h0, h1, -⟩
    have h0 : x.1 = y.1 := Classical.byContradiction h0
    have h1 : x.2 = y.2 := Classical.byContradiction h1
    show mk41 (x.1) (x.2) = mk41 (y.1) (y.2)
    rw [h0, h1]
    all_goals rfl
  · rintro rfl
    exact ⟨fun h => h rfl, fun h => h rfl, trivial⟩
theorem w41 (x y : Fld) (h : wd x) : eqFine x y st41 := by
  first | simp only [wd_pair] at h | skip
  simp only [eqFine, st41, wd_pair]
  all_goals simp only [h, and_self]
theorem law41 : ∀ q : Fld × Fld, pEq q.1 q.2 → eqSt q.1 q.2 st41 (fun r => r = eqF q.1 q.2) := fun q hq => eqSt_holds q.1 q.2 st41 (w41 q.1 q.2 hq) (eqF_iff.trans (a41 q.1 q.2).symm)
theorem all41 (w : World) (hJ : J w) : CtAt Tryz.prog ct41 w :=
  ct_by ok41 (cs41 w hJ) Tryz.func41 (by kernel_rfl) (H := (hint [])) law41 (by kernel_rfl)
noncomputable def E24 : Env := { tt, eqs := [], cts := [ct41] }
theorem ok24 : EnvOk Tryz.prog E24 := ⟨ttOk, by kernel_rfl, rfl, mixOk⟩
theorem cs24 (w0 : World) (hJ : J w0) : EnvCts Tryz.prog E24 w0 w0.heap.size := by
  refine ⟨fun c hc => ?_, fun c hc => ?_⟩
  · rcases List.mem_cons.1 hc with rfl | hc
    · exact fun w hb => all41 w (J_below hJ hb)
    cases hc
  · cases hc
noncomputable def ct24 : Ct := { f := 24, ps := [.v false .ro ls30, .v false .ro ls30], rs := [(false, [.bool])], shared := false, pre := fun (q : (List Fld) × (List Fld)) => pEq q.1 q.2, F := fun (q : (List Fld) × (List Fld)) => eqF q.1 q.2 }
theorem law24 : ∀ q : (List Fld) × (List Fld), pEq q.1 q.2 → eqS (α := Fld) Dft.dft (fun a b => pEq a b) (fun a b => eqF a b) q.1 q.2 (fun r => r = eqF q.1 q.2) := fun q hq => eqS_holds (α := Fld) Dft.dft (fun a b => pEq a b) (fun a b => eqF a b) q.1 q.2 hq.1 (fun i a _ h => hq.2 i a h) (fun _ _ => eqF_iff) eqF_iff
theorem all24 (w : World) (hJ : J w) : CtAt Tryz.prog ct24 w :=
  ct_by ok24 (cs24 w hJ) Tryz.func24 (by kernel_rfl) (H := (hint [(4, [.val 5 (.int .i64)])])) law24 (by kernel_rfl)
noncomputable def E10 : Env := { tt, eqs := [], cts := [ct24] }
theorem ok10 : EnvOk Tryz.prog E10 := ⟨ttOk, by kernel_rfl, rfl, mixOk⟩
theorem cs10 (w0 : World) (hJ : J w0) : EnvCts Tryz.prog E10 w0 w0.heap.size := by
  refine ⟨fun c hc => ?_, fun c hc => ?_⟩
  · rcases List.mem_cons.1 hc with rfl | hc
    · exact fun w hb => all24 w (J_below hJ hb)
    cases hc
  · cases hc
noncomputable def ct10 : Ct := { f := 10, ps := [.v true .ro ls32, .v true .ro ls32], rs := [(false, [.bool])], shared := false, pre := fun (q : Req × Req) => pEq q.1 q.2, F := fun (q : Req × Req) => eqF q.1 q.2 }
def st10 : List (EqStep Req) := [.ne (fun (x y : Req) => x.1 ≠ y.1), .ne (fun (x y : Req) => x.2.1 ≠ y.2.1), .call (fun (x _ : Req) => wd (x.2.2.1 : (List Fld))) (fun (x y : Req) => eqF (x.2.2.1 : (List Fld)) y.2.2.1), .ne (fun (x y : Req) => x.2.2.2 ≠ y.2.2.2)]
def mk10 (a0 : S) (a1 : S) (a2 : (List Fld)) (a3 : S) : Req := (a0, a1, a2, a3)
theorem a10 (x y : Req) : eqAll x y st10 ↔ x = y := by
  constructor
  · rintro ⟨h0, h1, h2, h3, -⟩
    have h0 : x.1 = y.1 := Classical.byContradiction h0
    have h1 : x.2.1 = y.2.1 := Classical.byContradiction h1
    have h2 : (x.2.2.1 : (List Fld)) = y.2.2.1 := eqF_iff.1 h2
    have h3 : x.2.2.2 = y.2.2.2 := Classical.byContradiction h3
    show mk10 (x.1) (x.2.1) (x.2.2.1) (x.2.2.2) = mk10 (y.1) (y.2.1) (y.2.2.1) (y.2.2.2)
    rw [h0, h1, h2, h3]
    all_goals rfl
  · rintro rfl
    exact ⟨fun h => h rfl, fun h => h rfl, eqF_iff.2 rfl, fun h => h rfl, trivial⟩
theorem w10 (x y : Req) (h : wd x) : eqFine x y st10 := by
  first | simp only [wd_pair] at h | skip
  simp only [eqFine, st10, wd_pair]
  all_goals simp only [h, and_self]
theorem law10 : ∀ q : Req × Req, pEq q.1 q.2 → eqSt q.1 q.2 st10 (fun r => r = eqF q.1 q.2) := fun q hq => eqSt_holds q.1 q.2 st10 (w10 q.1 q.2 hq) (eqF_iff.trans (a10 q.1 q.2).symm)
theorem all10 (w : World) (hJ : J w) : CtAt Tryz.prog ct10 w :=
  ct_by ok10 (cs10 w hJ) Tryz.func10 (by kernel_rfl) (H := (hint [])) law10 (by kernel_rfl)
noncomputable def E11 : Env := { tt, eqs := [], cts := [ct24] }
theorem ok11 : EnvOk Tryz.prog E11 := ⟨ttOk, by kernel_rfl, rfl, mixOk⟩
theorem cs11 (w0 : World) (hJ : J w0) : EnvCts Tryz.prog E11 w0 w0.heap.size := by
  refine ⟨fun c hc => ?_, fun c hc => ?_⟩
  · rcases List.mem_cons.1 hc with rfl | hc
    · exact fun w hb => all24 w (J_below hJ hb)
    cases hc
  · cases hc
noncomputable def ct11 : Ct := { f := 11, ps := [.v true .ro ls35, .v true .ro ls35], rs := [(false, [.bool])], shared := false, pre := fun (q : Rsp × Rsp) => pEq q.1 q.2, F := fun (q : Rsp × Rsp) => eqF q.1 q.2 }
def st11 : List (EqStep Rsp) := [.ne (fun (x y : Rsp) => x.1 ≠ y.1), .call (fun (x _ : Rsp) => wd (x.2.1 : (List Fld))) (fun (x y : Rsp) => eqF (x.2.1 : (List Fld)) y.2.1), .ne (fun (x y : Rsp) => x.2.2 ≠ y.2.2)]
def mk11 (a0 : Int) (a1 : (List Fld)) (a2 : S) : Rsp := (a0, a1, a2)
theorem a11 (x y : Rsp) : eqAll x y st11 ↔ x = y := by
  constructor
  · rintro ⟨h0, h1, h2, -⟩
    have h0 : x.1 = y.1 := Classical.byContradiction h0
    have h1 : (x.2.1 : (List Fld)) = y.2.1 := eqF_iff.1 h1
    have h2 : x.2.2 = y.2.2 := Classical.byContradiction h2
    show mk11 (x.1) (x.2.1) (x.2.2) = mk11 (y.1) (y.2.1) (y.2.2)
    rw [h0, h1, h2]
    all_goals rfl
  · rintro rfl
    exact ⟨fun h => h rfl, eqF_iff.2 rfl, fun h => h rfl, trivial⟩
theorem w11 (x y : Rsp) (h : wd x) : eqFine x y st11 := by
  first | simp only [wd_pair] at h | skip
  simp only [eqFine, st11, wd_pair]
  all_goals simp only [h, and_self]
theorem law11 : ∀ q : Rsp × Rsp, pEq q.1 q.2 → eqSt q.1 q.2 st11 (fun r => r = eqF q.1 q.2) := fun q hq => eqSt_holds q.1 q.2 st11 (w11 q.1 q.2 hq) (eqF_iff.trans (a11 q.1 q.2).symm)
theorem all11 (w : World) (hJ : J w) : CtAt Tryz.prog ct11 w :=
  ct_by ok11 (cs11 w hJ) Tryz.func11 (by kernel_rfl) (H := (hint [])) law11 (by kernel_rfl)
noncomputable def E3 : Env := { tt, eqs := [], cts := [ct4, ct5, ct7, ct8, ct6, ct9, ct10, ct11] }
theorem ok3 : EnvOk Tryz.prog E3 := ⟨ttOk, by kernel_rfl, rfl, mixOk⟩
theorem cs3 (w0 : World) (hJ : J w0) : EnvCts Tryz.prog E3 w0 w0.heap.size := by
  refine ⟨fun c hc => ?_, fun c hc => ?_⟩
  · rcases List.mem_cons.1 hc with rfl | hc
    · exact fun w hb => all4 w (J_below hJ hb)
    rcases List.mem_cons.1 hc with rfl | hc
    · exact fun w hb => all5 w (J_below hJ hb)
    rcases List.mem_cons.1 hc with rfl | hc
    · exact fun w hb => all7 w (J_below hJ hb)
    rcases List.mem_cons.1 hc with rfl | hc
    · exact fun w hb => all8 w (J_below hJ hb)
    rcases List.mem_cons.1 hc with rfl | hc
    · exact fun w hb => all6 w (J_below hJ hb)
    rcases List.mem_cons.1 hc with rfl | hc
    · exact fun w hb => all9 w (J_below hJ hb)
    rcases List.mem_cons.1 hc with rfl | hc
    · exact fun w hb => all10 w (J_below hJ hb)
    rcases List.mem_cons.1 hc with rfl | hc
    · exact fun w hb => all11 w (J_below hJ hb)
    cases hc
  · cases hc
noncomputable def ct3 : Ct := boolCt 3 [.v true .ro ls24, .v true .ro ls26, .v false .ro ls3, .v false .ro ls3, .v false .ro ls3] (fun (x : Req × Rsp × Int × Int × Int) => p_FnExactMustCheck x.1 x.2.1 x.2.2.1 x.2.2.2.1 x.2.2.2.2)
theorem law3 : ∀ x : Req × Rsp × Int × Int × Int, p_FnExactMustCheck x.1 x.2.1 x.2.2.1 x.2.2.2.1 x.2.2.2.2 → s_laws_FnExactMustCheck x.1 x.2.1 x.2.2.1 x.2.2.2.1 x.2.2.2.2 (fun r => r = true) := fun x h => laws_FnExactMustCheck_ok x.1 x.2.1 x.2.2.1 x.2.2.2.1 x.2.2.2.2 h
theorem all3 (w : World) (hJ : J w) : CtAt Tryz.prog ct3 w :=
  ct_by ok3 (cs3 w hJ) Tryz.func3 (by kernel_rfl) (H := (hint [])) law3 (by kernel_rfl)
end Go.Proofs.YtbplaifhdgpfmaaGreatDoor.ApM
end
