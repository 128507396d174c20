/- A small verified machine for the operations of the given program, and plain laws of what its functions compute; without conditions of its own. Part 4. -/
import Derived.Test.YtlkhfjhnpedabaaGreatDoorN2
import Derived.Lib.IndexBytes
import Derived.Lib.IndexLaws
import Derived.Lib.Atoi
import Derived.Lib.AtoiTie
import Derived.Lib.AtoiAllCases
import Derived.Lib.SplitLaws
import Derived.Lib.Split
import Derived.Lib.CountLaws
import Derived.Sort.Walk0
import Derived.Deep.LoopGhost
import Derived.Tactics
import Derived.Tactics2
import Derived.WalkKit
import Derived.RowKit3
import Derived.WideLaws
import Derived.OwnWalk
import Derived.Laws.Slices
import Derived.Laws.Rows
import Derived.Laws.Cells
import Derived.Laws.IdiomStrings
import Derived.Laws.BytesString
import Derived.Lib.ConvBytes
import Derived.Test.YtlkhfjhnpedabaaGreatDoorShelfb
import Derived.Shelf.Strings.SlTrimAscii
set_option linter.unusedVariables false
set_option linter.unusedSimpArgs false
section
/- Laws of the plain library, fourth part: parts of texts. -/
set_option linter.unusedVariables false
namespace Go.Ev

def blk (b : UInt8) : Bool := [(32 : UInt8), 9].contains b
theorem blk_iff (b : UInt8) : blk b = true ↔ mBlank (b.toNat : Int) = true := by
  have h : ∀ n : Fin 256, (blk (UInt8.ofNat n.val) = true) ↔ mBlank (n.val : Int) = true := by decide +kernel
  have := h ⟨b.toNat, b.toNat_lt⟩
  simpa using this
theorem trimS_cons {b : UInt8} (h : blk b = true) (l : List UInt8) : Lib.trimS (b :: l) [32, 9] = Lib.trimS l [32, 9] := by
  have h' : [(32 : UInt8), 9].contains b = true := h
  unfold Lib.trimS Lib.trimLeftS Lib.trimRightS
  rw [List.reverse_cons, List.dropWhile_append]
  split
  · next hd =>
    have hd : l.reverse.dropWhile (fun x => [(32 : UInt8), 9].contains x) = [] := by simpa using hd
    rw [hd]
    have : List.dropWhile (fun x => [(32 : UInt8), 9].contains x) [b] = [] := by
      rw [List.dropWhile_cons, if_pos h']; rfl
    rw [this]
  · rw [List.reverse_append, List.reverse_singleton, List.singleton_append, List.dropWhile_cons, if_pos h']
theorem trimS_snoc {b : UInt8} (h : blk b = true) (l : List UInt8) : Lib.trimS (l ++ [b]) [32, 9] = Lib.trimS l [32, 9] := by
  have h' : [(32 : UInt8), 9].contains b = true := h
  unfold Lib.trimS Lib.trimRightS
  rw [List.reverse_append, List.reverse_singleton, List.singleton_append, List.dropWhile_cons, if_pos h']
theorem trimS_id {l : List UInt8} (h0 : ∀ b, l.head? = some b → blk b = false) (h1 : ∀ b, l.getLast? = some b → blk b = false) : Lib.trimS l [32, 9] = l := by
  have key : ∀ l : List UInt8, (∀ b, l.head? = some b → blk b = false) → l.dropWhile (fun x => [(32 : UInt8), 9].contains x) = l := fun l h => by
    cases l with
    | nil => rfl
    | cons b r =>
      rw [List.dropWhile_cons, if_neg]
      have := h b rfl
      unfold blk at this
      rw [this]; simp
  unfold Lib.trimS Lib.trimLeftS Lib.trimRightS
  rw [key l.reverse (fun b hb => h1 b (by rw [List.head?_reverse] at hb; exact hb)), List.reverse_reverse, key l h0]
theorem spec_Trim_ok (a0 : S) (h : pTrim a0) : s_spec_Trim a0 (fun r => r = mTrim a0) := by
  unfold pTrim sm at h
  -- the second loop
  have back : ∀ y : S, y.size ≤ a0.size → mTrim y = mTrim a0 → (∀ b, (bs y).head? = some b → blk b = false) → ∀ L2 : S → Prop,
      (∀ y3 : S, ((0 < (y3.size : Int) → 0 ≤ IntKind.i64.wrap ((y3.size : Int) - 1) ∧ IntKind.i64.wrap ((y3.size : Int) - 1) < (y3.size : Int) ∧ pBlank (bt y3 (IntKind.i64.wrap ((y3.size : Int) - 1))) ∧
          (mBlank (bt y3 (IntKind.i64.wrap ((y3.size : Int) - 1))) = true → 0 ≤ IntKind.i64.wrap ((y3.size : Int) - 1) ∧ IntKind.i64.wrap ((y3.size : Int) - 1) ≤ (y3.size : Int) ∧ L2 (y3.extract 0 (IntKind.i64.wrap ((y3.size : Int) - 1)).toNat)) ∧
          (¬ mBlank (bt y3 (IntKind.i64.wrap ((y3.size : Int) - 1))) = true → y3 = mTrim a0)) ∧
        (¬ 0 < (y3.size : Int) → y3 = mTrim a0)) → L2 y3) → L2 y := by
    intro y hy hm hh L2 hL
    refine loopI hL (fun y => y.size ≤ a0.size ∧ mTrim y = mTrim a0 ∧ ∀ b, (bs y).head? = some b → blk b = false) (fun y => y.size) (fun y ⟨hy, hm, hh⟩ ih => ?_) y ⟨hy, hm, hh⟩
    refine ⟨fun h0 => ?_, fun h0 => ?_⟩
    · have hpos : 0 < y.size := by omega
      have hw : IntKind.i64.wrap ((y.size : Int) - 1) = ((y.size - 1 : Nat) : Int) := by rw [wrap64 (by omega) (by omega)]; omega
      rw [hw]
      have hlen := bs_len y
      have hb := bt_nat y (y.size - 1) (by omega)
      have hlast : (bs y).getLast? = some ((bs y)[y.size - 1]'(by omega)) := by
        rw [List.getLast?_eq_getElem?]
        simp only [hlen]
        exact List.getElem?_eq_getElem _
      refine ⟨by omega, by omega, trivial, fun hbl => ⟨by omega, by omega, ?_⟩, fun hbl => ?_⟩
      · rw [Int.toNat_natCast]
        have hcut : bs (y.extract 0 (y.size - 1)) = (bs y).take (y.size - 1) := by rw [bs_extract]; simp
        have hspl : bs y = (bs y).take (y.size - 1) ++ [(bs y)[y.size - 1]'(by omega)] := by
          rw [← take_succ_app (by omega), List.take_of_length_le (by omega)]
        refine ih _ ⟨?_, ?_, fun b hb2 => ?_⟩ ?_
        · rw [← bs_len, hcut, List.length_take]; omega
        · rw [← hm]
          unfold mTrim
          rw [hcut]
          conv => rhs; rw [hspl]
          rw [trimS_snoc]
          rw [blk_iff, ← hb]; exact hbl
        · rw [hcut] at hb2
          refine hh b ?_
          rw [hspl]
          cases hx : (bs y).take (y.size - 1) with
          | nil => rw [hx] at hb2; cases hb2
          | cons c r => rw [hx] at hb2; simpa using hb2
        · rw [← bs_len, hcut, List.length_take]; omega
      · rw [← hm]
        unfold mTrim
        rw [trimS_id hh]
        · rfl
        · intro b hb2
          rw [hlast] at hb2
          injection hb2 with hb2
          rw [← hb2]
          cases hx : blk (bs y)[y.size - 1] with
          | false => rfl
          | true =>
            rw [blk_iff, ← hb] at hx
            exact absurd hx hbl
    · rw [← hm]
      have : bs y = [] := List.eq_nil_of_length_eq_zero (by rw [bs_len]; omega)
      apply bs_inj
      unfold mTrim
      rw [this]; rfl
  intro L hL
  refine loopI hL (fun y => y.size ≤ a0.size ∧ mTrim y = mTrim a0) (fun y => y.size) (fun y ⟨hy, hm⟩ ih => ?_) a0 ⟨Nat.le_refl _, rfl⟩
  have hlen := bs_len y
  refine ⟨fun h0 => ?_, fun h0 => ?_⟩
  · have hpos : 0 < y.size := by omega
    have hb := bt_nat y 0 hpos
    have hcons : bs y = (bs y)[0]'(by omega) :: (bs y).drop 1 := by
      conv => lhs; rw [← List.drop_zero (l := bs y)]
      exact (List.getElem_cons_drop (h := by omega)).symm
    refine ⟨by omega, by omega, trivial, fun hbl => ⟨by omega, by omega, ?_⟩, fun hbl L2 hL2 => ?_⟩
    · have hcut : bs (y.extract ((1 : Int).toNat) y.size) = (bs y).drop 1 := by
        rw [bs_extract]
        exact List.take_of_length_le (by rw [List.length_drop, hlen]; omega)
      refine ih _ ⟨?_, ?_⟩ ?_
      · rw [← bs_len, hcut, List.length_drop]; omega
      · rw [← hm]
        unfold mTrim
        rw [hcut]
        conv => rhs; rw [hcons]
        rw [trimS_cons]
        rw [blk_iff, ← hb]; exact hbl
      · rw [← bs_len, hcut, List.length_drop]; omega
    · refine back y hy hm (fun b hb2 => ?_) L2 hL2
      rw [hcons] at hb2
      injection hb2 with hb2
      rw [← hb2]
      cases hx : blk (bs y)[0] with
      | false => rfl
      | true =>
        rw [blk_iff, ← hb] at hx
        exact absurd hx hbl
  · intro L2 hL2
    refine back y hy hm (fun b hb2 => ?_) L2 hL2
    have : bs y = [] := List.eq_nil_of_length_eq_zero (by omega)
    rw [this] at hb2; cases hb2

end Go.Ev
end

section
/- Laws of the plain library, fifth part: lists in texts. -/
set_option linter.unusedVariables false
namespace Go.Ev

theorem drop_cons' {α : Type} {l : List α} {i : Nat} (h : i < l.length) : l.drop i = l[i] :: l.drop (i + 1) := (List.getElem_cons_drop (h := h)).symm
theorem seg_succ {α : Type} {l : List α} {f i : Nat} (hf : f ≤ i) (h : i < l.length) : (l.take (i + 1)).drop f = (l.take i).drop f ++ [l[i]] := by
  rw [take_succ_app h, List.drop_append_of_le_length (by rw [List.length_take]; omega)]
theorem seg_all {α : Type} {l : List α} {f i : Nat} (hf : f ≤ i) (hi : i ≤ l.length) : (l.take i).drop f ++ l.drop i = l.drop f := by
  conv => rhs; rw [← List.take_append_drop i l]
  rw [List.drop_append_of_le_length (by rw [List.length_take]; omega)]
theorem commasL_nil (q : Bool) (i : Int) : commasL q i [] = [] := by cases q <;> rfl
theorem commasL_one (i : Int) (b : UInt8) : commasL true i [b] = [] := rfl
theorem commasL_in (i : Int) (b c : UInt8) (r : List UInt8) : commasL true i (b :: c :: r) = if b = 34 then commasL false (i + 1) (c :: r) else if b = 92 then commasL true (i + 2) r else commasL true (i + 1) (c :: r) := by rw [commasL]
theorem commasL_out (i : Int) (b : UInt8) (r : List UInt8) : commasL false i (b :: r) = if b = 34 then commasL true (i + 1) r else if b = 44 then i :: commasL false (i + 1) r else commasL false (i + 1) r := by rw [commasL]
def cutAt (l : List UInt8) : Nat → List Int → List (List UInt8)
  | f, [] => [l.drop f]
  | f, a :: az => (l.take a.toNat).drop f :: cutAt l (a.toNat + 1) az
def okC (n : Nat) : Nat → List Int → Prop
  | f, [] => f ≤ n
  | f, a :: az => (f : Int) ≤ a ∧ a < (n : Int) ∧ okC n (a.toNat + 1) az
theorem parts_cut (l : List UInt8) : ∀ (m : Nat) (q : Bool) (i f : Nat), i + m = l.length → f ≤ i →
    partsL q ((l.take i).drop f) (l.drop i) = cutAt l f (commasL q (i : Int) (l.drop i)) ∧ okC l.length f (commasL q (i : Int) (l.drop i)) := by
  intro m
  induction m using Nat.strongRecOn with
  | _ m ih =>
    intro q i f hi hf
    cases m with
    | zero =>
      have e : l.drop i = [] := List.drop_eq_nil_of_le (by omega)
      have e2 : l.take i = l := List.take_of_length_le (by omega)
      rw [e, partsL_nil, commasL_nil, e2]
      exact ⟨rfl, by show f ≤ l.length; omega⟩
    | succ m =>
      have hlt : i < l.length := by omega
      have hc := drop_cons' hlt
      have hs := seg_succ hf hlt
      have step := fun (q' : Bool) => ih m (by omega) q' (i + 1) f (by omega) (by omega)
      have hcast : ((i + 1 : Nat) : Int) = (i : Int) + 1 := by omega
      cases q with
      | false =>
        rw [hc, partsL_out, commasL_out, ← hs, ← hcast]
        split
        · exact step true
        · split
          · have h0 := ih m (by omega) false (i + 1) (i + 1) (by omega) (Nat.le_refl _)
            have e0 : (l.take (i + 1)).drop (i + 1) = [] := List.drop_eq_nil_of_le (by rw [List.length_take]; omega)
            rw [e0] at h0
            simp only [cutAt, okC, Int.toNat_natCast]
            exact ⟨by rw [h0.1], by omega, by omega, h0.2⟩
          · exact step false
      | true =>
        cases m with
        | zero =>
          have e : l.drop (i + 1) = [] := List.drop_eq_nil_of_le (by omega)
          have ha := seg_all hf (Nat.le_of_lt hlt)
          rw [hc, e] at ha
          rw [hc, e, partsL_one, commasL_one, ha]
          exact ⟨rfl, by show f ≤ l.length; omega⟩
        | succ m =>
          have hlt1 : i + 1 < l.length := by omega
          have hc1 := drop_cons' hlt1
          rw [hc, hc1, partsL_in, commasL_in, ← hc1, ← hs, ← hcast]
          split
          · exact step false
          · split
            · have h2 := ih m (by omega) true (i + 2) f (by omega) (by omega)
              have hs2 := seg_succ (f := f) (i := i + 1) (by omega) hlt1
              rw [hs, List.append_assoc] at hs2
              rw [show (l.take i).drop f ++ [l[i], l[i + 1]] = (l.take (i + 2)).drop f from hs2.symm, show (i : Int) + 2 = ((i + 2 : Nat) : Int) by omega]
              exact h2
            · exact step true
theorem trimmed_cons (p : List UInt8) (l : List (List UInt8)) : trimmed (p :: l) = if mTrim (ob p) ≠ lit [] then mTrim (ob p) :: trimmed l else trimmed l := by
  unfold trimmed
  rw [List.map_cons, List.filter_cons]
  split
  · next h => rw [if_pos (by simpa using h)]
  · next h => rw [if_neg (by simpa using h)]
theorem trimmed_nil : trimmed [] = [] := rfl
theorem ext_seg (s : S) (f a : Nat) : s.extract f a = ob (((bs s).take a).drop f) := by
  apply bs_inj
  rw [bs_extract, bs_ob, List.drop_take]
theorem byte_eq {s : S} {i : Nat} (h : i < s.size) (n : Nat) (hn : n < 256) : bt s (i : Int) = (n : Int) ↔ (bs s)[i]'(by rw [bs_len]; exact h) = UInt8.ofNat n := by
  rw [bt_nat s i h]
  constructor
  · intro e
    have e' : ((bs s)[i]'(by rw [bs_len]; exact h)).toNat = n := by omega
    rw [← e']; simp
  · intro e
    rw [e]
    simp
    omega
theorem commas_len : ∀ (q : Bool) (i : Int) (l : List UInt8), (commasL q i l).length ≤ l.length
  | q, i, [] => by rw [commasL_nil]; simp
  | true, i, [b] => by rw [commasL_one]; simp
  | true, i, b :: c :: r => by
    rw [commasL_in]
    have h1 := commas_len false (i + 1) (c :: r)
    have h2 := commas_len true (i + 2) r
    have h3 := commas_len true (i + 1) (c :: r)
    simp only [List.length_cons] at *
    split
    · omega
    · split <;> omega
  | false, i, b :: r => by
    rw [commasL_out]
    have h1 := commas_len true (i + 1) r
    have h2 := commas_len false (i + 1) r
    simp only [List.length_cons] at *
    split
    · omega
    · split
      · simp only [List.length_cons]; omega
      · omega

theorem impl_commas_ok (a0 : S) (h : pCommas a0) : s_impl_commas a0 (fun r => r = mCommas a0) := by
  unfold pCommas sm at h
  intro L hL
  have hl := bs_len a0
  refine loopI hL (fun y => ∃ i : Nat, y.2.2 = (i : Int) ∧ i ≤ a0.size + 1 ∧ y.1.length ≤ i ∧ (i ≤ a0.size → y.1 ++ commasL y.2.1 (i : Int) ((bs a0).drop i) = mCommas a0) ∧ (i = a0.size + 1 → y.1 = mCommas a0))
    (fun y => a0.size + 1 - y.2.2.toNat) (fun y hI ih => ?_) ([], false, 0) ⟨0, rfl, by omega, by simp, fun _ => rfl, fun h => by omega⟩
  obtain ⟨out, q, y3⟩ := y
  obtain ⟨i, hy, hi, hol, h1, h2⟩ := hI
  simp only at hy hol h1 h2 ⊢
  subst hy
  refine ⟨fun hlt => ?_, fun hge => ?_⟩
  · have hi2 : i < a0.size := by omega
    have hi3 : i < (bs a0).length := by omega
    have h1 := h1 (by omega)
    have hc := drop_cons' hi3
    have hw : IntKind.i64.wrap ((i : Int) + 1) = ((i + 1 : Nat) : Int) := wrapS (by omega)
    have hw2 : IntKind.i64.wrap (((i + 1 : Nat) : Int) + 1) = ((i + 2 : Nat) : Int) := by rw [wrapS (by omega)]
    have b34 : bt a0 (i : Int) = 34 ↔ _ := byte_eq hi2 34 (by omega)
    have b92 : bt a0 (i : Int) = 92 ↔ _ := byte_eq hi2 92 (by omega)
    have b44 : bt a0 (i : Int) = 44 ↔ _ := byte_eq hi2 44 (by omega)
    have next : ∀ (out' : List Int) (q' : Bool), out'.length ≤ i + 1 → out' ++ commasL q' ((i : Int) + 1) ((bs a0).drop (i + 1)) = mCommas a0 → L (out', q', ((i + 1 : Nat) : Int)) := fun out' q' hlen e =>
      ih _ ⟨i + 1, rfl, by omega, hlen, fun _ => by rw [← e]; congr 2, fun hh => by omega⟩ (by simp only [Int.toNat_natCast]; omega)
    rw [hw, hw2]
    rw [hc] at h1
    have hq34 : bt a0 (i : Int) = 34 → commasL q (i : Int) ((bs a0)[i] :: (bs a0).drop (i + 1)) = commasL (!q) ((i : Int) + 1) ((bs a0).drop (i + 1)) := fun e => by
      have e' := b34.1 e
      cases q with
      | false => rw [commasL_out, if_pos (by rw [e']; rfl)]; rfl
      | true =>
        cases hr : (bs a0).drop (i + 1) with
        | nil => rw [commasL_one, commasL_nil]
        | cons c r => rw [commasL_in, if_pos (by rw [e']; rfl)]; rfl
    have n34 : bt a0 (i : Int) ≠ 34 → ¬ (bs a0)[i] = 34 := fun e e' => e (b34.2 e')
    have n92 : bt a0 (i : Int) ≠ 92 → ¬ (bs a0)[i] = 92 := fun e e' => e (b92.2 e')
    have n44 : bt a0 (i : Int) ≠ 44 → ¬ (bs a0)[i] = 44 := fun e e' => e (b44.2 e')
    have plain_in : bt a0 (i : Int) ≠ 34 → bt a0 (i : Int) ≠ 92 → q = true → commasL q (i : Int) ((bs a0)[i] :: (bs a0).drop (i + 1)) = commasL q ((i : Int) + 1) ((bs a0).drop (i + 1)) := fun e1 e2 eq => by
      subst eq
      cases hr : (bs a0).drop (i + 1) with
      | nil => rw [commasL_one, commasL_nil]
      | cons c r => rw [commasL_in, if_neg (n34 e1), if_neg (n92 e2)]
    refine ⟨by omega, by omega, fun e34 => next _ _ (by omega) ?_, fun e34 => ⟨fun eq => ⟨by omega, by omega, fun e92 => ?_, fun e92 => ⟨fun nq => absurd eq nq, fun _ => next _ _ (by omega) ?_⟩⟩, fun nq => ⟨fun _ => ⟨by omega, by omega, fun e44 => ?_, fun e44 => next _ _ (by omega) ?_⟩, fun qq => absurd nq qq⟩⟩⟩
    · rw [← h1, hq34 e34]
      cases q <;> rfl
    · -- a byte behind a backslash is passed over
      have e' := b92.1 e92
      subst eq
      refine ih _ ⟨i + 2, rfl, by omega, by simp only; omega, fun hle => ?_, fun hle => ?_⟩ (by simp only [Int.toNat_natCast]; omega)
      · have hi4 : i + 1 < (bs a0).length := by omega
        rw [drop_cons' hi4, commasL_in, if_neg (n34 e34), if_pos (by rw [e']; rfl)] at h1
        rw [← h1]
        simp only
        congr 2
      · have : (bs a0).drop (i + 1) = [] := List.drop_eq_nil_of_le (by omega)
        rw [this, commasL_one] at h1
        simpa using h1
    · rw [← h1, plain_in e34 e92 eq]
    · have e' := b44.1 e44
      have hq : q = false := by simpa using nq
      subst hq
      rw [commasL_out, if_neg (n34 e34), if_pos (by rw [e']; rfl)] at h1
      refine ⟨by simp only [List.length_singleton]; omega, next _ _ (by simp only [List.length_append, List.length_singleton]; omega) ?_⟩
      rw [← h1]; simp
    · have hq : q = false := by simpa using nq
      subst hq
      rw [commasL_out, if_neg (n34 e34), if_neg (n44 e44)] at h1
      exact h1
  · have : i = a0.size ∨ i = a0.size + 1 := by omega
    rcases this with e | e
    · have h1 := h1 (by omega)
      have : (bs a0).drop i = [] := List.drop_eq_nil_of_le (by omega)
      rw [this, commasL_nil, List.append_nil] at h1
      exact h1
    · exact h2 e

theorem impl_SplitList_ok (a0 : S) (h : pSplitList a0) : s_impl_SplitList a0 (fun r => r = mSplitList a0) := by
  have h0 := h
  unfold pSplitList sm at h
  have hl := bs_len a0
  have hpc := parts_cut (bs a0) a0.size false 0 0 (by omega) (Nat.le_refl _)
  rw [List.drop_zero, hl] at hpc
  have hcl := commas_len false 0 (bs a0)
  have hC : mCommas a0 = commasL false (((0 : Nat) : Int)) (bs a0) := rfl
  have hM : mSplitList a0 = trimmed (cutAt (bs a0) 0 (mCommas a0)) := by
    unfold mSplitList
    rw [hC]
    exact congrArg trimmed hpc.1
  have hok : okC a0.size 0 (mCommas a0) := hpc.2
  have hclen : (mCommas a0).length ≤ a0.size := by rw [← hl]; exact hcl
  refine ⟨h0, by simp only [List.length_singleton]; omega, fun L hL => ?_⟩
  generalize mCommas a0 = C at hM hok hclen hL
  have hEl : (C ++ [(a0.size : Int)]).length = C.length + 1 := by simp
  refine loopG hL (C.length + 1) (fun k y => y.2.2 = (k : Int) ∧ y.1.length ≤ k ∧ (k ≤ C.length → ∃ f : Nat, y.2.1 = (f : Int) ∧ f ≤ a0.size ∧ okC a0.size f (C.drop k) ∧ y.1 ++ trimmed (cutAt (bs a0) f (C.drop k)) = mSplitList a0) ∧ (k = C.length + 1 → y.1 = mSplitList a0))
    (fun k y hk hI hn => ?_) (s0 := ([], 0, 0)) ⟨rfl, by simp, fun _ => ⟨0, rfl, by omega, hok, by rw [hM]; rfl⟩, fun h => by omega⟩
  obtain ⟨out, y2, y3⟩ := y
  simp only at hI ⊢
  obtain ⟨rfl, hol, h1, h2⟩ := hI
  rw [hEl]
  refine ⟨fun hlt => ?_, fun hge => h2 (by omega)⟩
  have hk2 : k ≤ C.length := by omega
  obtain ⟨f, rfl, hf, hokf, hout⟩ := h1 hk2
  have hw : IntKind.i64.wrap ((k : Int) + 1) = ((k + 1 : Nat) : Int) := wrapS (by omega)
  rw [hw]
  -- the end of this part
  have key : ∀ a : Nat, rx (C ++ [(a0.size : Int)]) (k : Int) = (a : Int) → f ≤ a → a ≤ a0.size →
      (∀ out' : List S, out' = (if mTrim (ob (((bs a0).take a).drop f)) ≠ lit [] then out ++ [mTrim (ob (((bs a0).take a).drop f))] else out) → L (out', ((a + 1 : Nat) : Int), ((k + 1 : Nat) : Int))) →
      0 ≤ (k : Int) ∧ (k : Int) < ((C.length + 1 : Nat) : Int) ∧ 0 ≤ (f : Int) ∧ (f : Int) ≤ rx (C ++ [(a0.size : Int)]) (k : Int) ∧ rx (C ++ [(a0.size : Int)]) (k : Int) ≤ (a0.size : Int) ∧
        pTrim (a0.extract ((f : Int).toNat) (rx (C ++ [(a0.size : Int)]) (k : Int)).toNat) ∧
        (mTrim (a0.extract ((f : Int).toNat) (rx (C ++ [(a0.size : Int)]) (k : Int)).toNat) ≠ lit [] →
          (out.length + [mTrim (a0.extract ((f : Int).toNat) (rx (C ++ [(a0.size : Int)]) (k : Int)).toNat)].length) * 16 ≤ 140737488355328 ∧
            L (out ++ [mTrim (a0.extract ((f : Int).toNat) (rx (C ++ [(a0.size : Int)]) (k : Int)).toNat)], IntKind.i64.wrap (rx (C ++ [(a0.size : Int)]) (k : Int) + 1), ((k + 1 : Nat) : Int))) ∧
        (¬ mTrim (a0.extract ((f : Int).toNat) (rx (C ++ [(a0.size : Int)]) (k : Int)).toNat) ≠ lit [] →
          L (out, IntKind.i64.wrap (rx (C ++ [(a0.size : Int)]) (k : Int) + 1), ((k + 1 : Nat) : Int))) := by
    intro a ha hfa has hcont
    rw [ha, Int.toNat_natCast, Int.toNat_natCast, wrapS (by omega), ext_seg]
    refine ⟨by omega, by omega, by omega, by omega, by omega, ?_, fun hne => ⟨by simp only [List.length_singleton]; omega, hcont _ (by rw [if_pos hne])⟩, fun hne => hcont _ (by rw [if_neg hne])⟩
    unfold pTrim sm
    rw [ob_size, List.length_drop, List.length_take]
    omega
  by_cases hkC : k < C.length
  · have hc := drop_cons' hkC
    rw [hc] at hokf hout
    simp only [okC] at hokf
    obtain ⟨o1, o2, o3⟩ := hokf
    have hrx : rx (C ++ [(a0.size : Int)]) (k : Int) = (C[k].toNat : Int) := by
      rw [rx_get _ (by rw [hEl]; omega), List.getElem_append_left hkC]; omega
    refine key C[k].toNat hrx (by omega) (by omega) fun out' ho => hn _ (by omega) ⟨rfl, ?_, fun _ => ⟨C[k].toNat + 1, rfl, by omega, o3, ?_⟩, fun h => by omega⟩
    · rw [ho]; split
      · simp only [List.length_append, List.length_singleton]; omega
      · simp only; omega
    · simp only [cutAt] at hout
      rw [trimmed_cons] at hout
      rw [ho, ← hout]
      split
      · simp
      · rfl
  · have hkeq : k = C.length := by omega
    have hdn : C.drop k = [] := List.drop_eq_nil_of_le (by omega)
    rw [hdn] at hout
    simp only [cutAt] at hout
    have hrx : rx (C ++ [(a0.size : Int)]) (k : Int) = (a0.size : Int) := by
      rw [rx_get _ (by rw [hEl]; omega), List.getElem_append_right (by omega)]
      simp [hkeq]
    refine key a0.size hrx hf (Nat.le_refl _) fun out' ho => hn _ (by omega) ⟨rfl, ?_, fun h => by omega, fun _ => ?_⟩
    · rw [ho]; split
      · simp only [List.length_append, List.length_singleton]; omega
      · simp only; omega
    · have e : (bs a0).take a0.size = bs a0 := List.take_of_length_le (by omega)
      rw [trimmed_cons, trimmed_nil] at hout
      rw [ho, ← hout, e]
      split
      · rfl
      · simp
end Go.Ev
end

section
/- Laws of the plain library: lists of parts, as spec takes them. -/
set_option linter.unusedVariables false
namespace Go.Ev
theorem partsL_end (q : Bool) (cur : List UInt8) : partsL q cur [] = [cur] := by cases q <;> rfl
theorem parts_q {l : List UInt8} {f i : Nat} (hf : f ≤ i) (h : i < l.length) : partsL true ((l.take i).drop f) (l.drop i) =
    if l[i] = 34 then partsL false ((l.take (i + 1)).drop f) (l.drop (i + 1))
    else if l[i] = 92 then (if i + 1 < l.length then partsL true ((l.take (i + 2)).drop f) (l.drop (i + 2)) else [l.drop f])
    else partsL true ((l.take (i + 1)).drop f) (l.drop (i + 1)) := by
  have hc := drop_cons' h
  have hs := seg_succ (f := f) hf h
  by_cases hl : i + 1 < l.length
  · have hc1 := drop_cons' hl
    have hs2 := seg_succ (f := f) (i := i + 1) (by omega) hl
    rw [hc, hc1, partsL_in, ← hc1, if_pos hl, hs]
    rw [hs, List.append_assoc] at hs2
    have hs2 : List.drop f (List.take (i + 2) l) = List.drop f (List.take i l) ++ [l[i], l[i + 1]] := hs2
    rw [hs2]
  · have hn : l.drop (i + 1) = [] := List.drop_eq_nil_of_le (by omega)
    have ha : (l.take (i + 1)).drop f = l.drop f := by rw [List.take_of_length_le (by omega)]
    rw [hc, hn, partsL_one, ← hs, partsL_end, partsL_end, if_neg hl, ha]
    split
    · rfl
    · split <;> rfl
theorem spec_SplitList_ok (a0 : S) (h : pSplitList a0) : s_spec_SplitList a0 (fun r => r = mSplitList a0) := by
  unfold pSplitList sm at h
  intro L hL
  have hl := bs_len a0
  refine loopI hL (fun y => ∃ f i : Nat, y.2.1 = (f : Int) ∧ y.2.2.2 = (i : Int) ∧ i ≤ a0.size + 1 ∧ y.1.length ≤ i ∧
      (i ≤ a0.size → f ≤ i ∧ y.1 ++ trimmed (partsL y.2.2.1 (((bs a0).take i).drop f) ((bs a0).drop i)) = mSplitList a0) ∧
      (i = a0.size + 1 → (f < a0.size → y.2.2.1 = true ∧ y.1 ++ trimmed [(bs a0).drop f] = mSplitList a0) ∧ (¬ f < a0.size → y.1 = mSplitList a0)))
    (fun y => a0.size + 1 - y.2.2.2.toNat) (fun y hI ih => ?_) ([], 0, false, 0) ⟨0, 0, rfl, rfl, by omega, by simp, fun _ => ⟨by omega, rfl⟩, fun h => by omega⟩
  obtain ⟨out, y2, q, y4⟩ := y
  obtain ⟨f, i, hy2, hy4, hi, hol, h1, h2⟩ := hI
  simp only at hy2 hy4 hol h1 h2 ⊢
  subst hy2; subst hy4
  have hsz : ∀ a b : Nat, pTrim (a0.extract a b) := fun a b => by
    unfold pTrim sm
    have := bs_len (a0.extract a b)
    rw [bs_extract, List.length_take, List.length_drop] at this
    omega
  have d0 : (0 : Int) ≤ (i : Int) := by omega
  have f0 : (0 : Int) ≤ (f : Int) := by omega
  have hcap : ∀ p : S, (out.length + [p].length) * 16 ≤ 140737488355328 := fun p => by simp only [List.length_singleton]; omega
  have hw : IntKind.i64.wrap ((i : Int) + 1) = ((i + 1 : Nat) : Int) := wrapS (by omega)
  have hw2 : IntKind.i64.wrap (((i + 1 : Nat) : Int) + 1) = ((i + 2 : Nat) : Int) := wrapS (by omega)
  by_cases hgt : i = a0.size + 1
  · obtain ⟨ha, hb⟩ := h2 hgt
    refine ⟨fun hle => by omega, fun _ => ⟨fun hf => ⟨fun hq => ⟨f0, by omega, hsz _ _, fun hp => ⟨hcap _, ?_⟩, fun hp => ?_⟩, fun hq => absurd (ha (by omega)).1 hq⟩, fun hf => hb (by omega)⟩⟩
    · have e := (ha (by omega)).2
      rw [Int.toNat_natCast] at hp ⊢
      rw [ext_seg, List.take_of_length_le (by omega)] at hp ⊢
      rw [trimmed_cons, trimmed_nil, if_pos hp] at e
      exact e
    · have e := (ha (by omega)).2
      rw [Int.toNat_natCast] at hp
      rw [ext_seg, List.take_of_length_le (by omega)] at hp
      rw [trimmed_cons, trimmed_nil, if_neg hp] at e
      simpa using e
  · obtain ⟨hfi, e⟩ := h1 (by omega)
    have d1 : (i : Int) ≤ (a0.size : Int) := by omega
    have hm : (if (a0.size : Int) < (i : Int) then (a0.size : Int) else (i : Int)) = (i : Int) := if_neg (by omega)
    have hfi' : (f : Int) ≤ (i : Int) := by omega
    by_cases hlt : i < a0.size
    · have d2 : (i : Int) < (a0.size : Int) := by omega
      have d3 : ¬ (a0.size : Int) ≤ (i : Int) := by omega
      have hi3 : i < (bs a0).length := by omega
      have hc := drop_cons' hi3
      have hs := seg_succ (l := bs a0) (f := f) (i := i) hfi hi3
      have b34 : bt a0 (i : Int) = 34 ↔ _ := byte_eq hlt 34 (by omega)
      have b92 : bt a0 (i : Int) = 92 ↔ _ := byte_eq hlt 92 (by omega)
      have b44 : bt a0 (i : Int) = 44 ↔ _ := byte_eq hlt 44 (by omega)
      have next : ∀ (out' : List S) (f' : Nat) (q' : Bool), out'.length ≤ i + 1 → f' ≤ i + 1 → out' ++ trimmed (partsL q' (((bs a0).take (i + 1)).drop f') ((bs a0).drop (i + 1))) = mSplitList a0 → L (out', (f' : Int), q', ((i + 1 : Nat) : Int)) := fun out' f' q' hlen hf' e' =>
        ih _ ⟨f', i + 1, rfl, rfl, by omega, hlen, fun _ => ⟨hf', e'⟩, fun hh => by omega⟩ (by simp only [Int.toNat_natCast]; omega)
      have hne1 : ((34 : Int) = 92) = False := by decide
      have hne2 : ((34 : Int) = 44) = False := by decide
      have hne3 : ((44 : Int) = 92) = False := by decide
      have hne4 : ((44 : Int) = 34) = False := by decide
      have hne5 : ((92 : Int) = 34) = False := by decide
      have hne6 : ((92 : Int) = 44) = False := by decide
      have piece : out ++ trimmed (partsL q (((bs a0).take i).drop f) ((bs a0).drop i)) = mSplitList a0 := e
      by_cases c34 : bt a0 (i : Int) = 34
      · have e34 := b34.1 c34
        cases q with
        | false =>
          rw [hc] at e
          simp only [d1, d2, d3, d0, hm, hw, hw2, c34, hne1, hne2, Bool.false_eq_true, not_false_eq_true, not_true_eq_false, true_implies, false_implies, true_and, and_true, decide_true, decide_false]
          rw [partsL_out, if_pos (by rw [e34]; rfl), ← hs] at e
          exact next out f true (by omega) (by omega) e
        | true =>
          simp only [d1, d2, d3, d0, hm, hw, hw2, c34, hne1, hne2, not_false_eq_true, not_true_eq_false, true_implies, false_implies, true_and, and_true, decide_true, decide_false]
          rw [parts_q hfi hi3, if_pos (by rw [e34]; rfl)] at e
          exact next out f false (by omega) (by omega) e
      · have n34 : ¬ (bs a0)[i] = 34 := fun h => c34 (b34.2 (by rw [h]; rfl))
        cases q with
        | true =>
          rw [parts_q hfi hi3, if_neg n34] at e
          by_cases c92 : bt a0 (i : Int) = 92
          · have e92 := b92.1 c92
            simp only [d1, d2, d3, d0, hm, hw, hw2, c92, hne5, hne6, not_false_eq_true, not_true_eq_false, true_implies, false_implies, true_and, and_true, decide_true, decide_false]
            rw [if_pos (by rw [e92]; rfl)] at e
            refine ih (out, (f : Int), true, ((i + 2 : Nat) : Int)) ⟨f, i + 2, rfl, rfl, by omega, (by show out.length ≤ i + 2; omega), fun hle => ⟨by omega, ?_⟩, fun heq => ⟨fun _ => ⟨rfl, ?_⟩, fun hn => absurd (by omega) hn⟩⟩ (by simp only [Int.toNat_natCast]; omega)
            · rw [if_pos (by omega)] at e; exact e
            · rw [if_neg (by omega)] at e; exact e
          · have n92 : ¬ (bs a0)[i] = 92 := fun h => c92 (b92.2 (by rw [h]; rfl))
            rw [if_neg n92] at e
            by_cases c44 : bt a0 (i : Int) = 44
            · simp only [d1, d2, d3, d0, hm, hw, hw2, c44, hne3, hne4, not_false_eq_true, not_true_eq_false, true_implies, false_implies, true_and, and_true, decide_true, decide_false]
              exact next out f true (by omega) (by omega) e
            · simp only [d1, d2, d3, d0, hm, hw, hw2, c34, c92, c44, not_false_eq_true, not_true_eq_false, true_implies, false_implies, true_and, and_true, decide_true, decide_false]
              exact next out f true (by omega) (by omega) e
        | false =>
          rw [hc, partsL_out, if_neg n34] at e
          by_cases c44 : bt a0 (i : Int) = 44
          · have e44 := b44.1 c44
            rw [if_pos (by rw [e44]; rfl), trimmed_cons] at e
            simp only [d1, d2, d3, d0, f0, hfi', hm, hw, hw2, c44, hne3, hne4, hsz, hcap, Bool.false_eq_true, not_false_eq_true, not_true_eq_false, true_implies, false_implies, true_and, and_true, decide_true, decide_false, Int.toNat_natCast]
            have hn : ((bs a0).take (i + 1)).drop (i + 1) = [] := List.drop_eq_nil_of_le (by rw [List.length_take]; omega)
            refine ⟨fun hp => ?_, fun hp => ?_⟩
            · rw [ext_seg] at hp ⊢
              rw [if_pos hp] at e
              exact next _ (i + 1) false (by simp only [List.length_append, List.length_singleton]; omega) (by omega) (by rw [hn, List.append_assoc]; exact e)
            · rw [ext_seg] at hp
              rw [if_neg hp] at e
              exact next _ (i + 1) false (by omega) (by omega) (by rw [hn]; exact e)
          · have n44 : ¬ (bs a0)[i] = 44 := fun h => c44 (b44.2 (by rw [h]; rfl))
            rw [if_neg n44, ← hs] at e
            simp only [d1, d2, d3, d0, hm, hw, hw2, c34, c44, Bool.false_eq_true, not_false_eq_true, not_true_eq_false, true_implies, false_implies, true_and, and_true, decide_true, decide_false]
            exact next out f false (by omega) (by omega) e
    · have hie : i = a0.size := by omega
      subst hie
      have hn : (bs a0).drop a0.size = [] := List.drop_eq_nil_of_le (by omega)
      rw [hn, partsL_end, trimmed_cons, trimmed_nil] at e
      have d2 : ¬ (a0.size : Int) < (a0.size : Int) := by omega
      have d3 : (a0.size : Int) ≤ (a0.size : Int) := by omega
      simp only [d1, d2, d3, d0, f0, hfi', hm, hw, hsz, hcap, not_false_eq_true, not_true_eq_false, true_implies, false_implies, true_and, and_true, Int.toNat_natCast, if_false]
      have fin : ∀ out' : List S, out'.length ≤ a0.size + 1 → out' = mSplitList a0 → L (out', ((a0.size + 1 : Nat) : Int), q, ((a0.size + 1 : Nat) : Int)) := fun out' hlen e' =>
        ih _ ⟨a0.size + 1, a0.size + 1, rfl, rfl, by omega, hlen, fun hh => by omega, fun _ => ⟨fun hh => by omega, fun _ => e'⟩⟩ (by simp only [Int.toNat_natCast]; omega)
      refine ⟨fun hp => ?_, fun hp => ?_⟩
      · rw [ext_seg] at hp ⊢
        rw [if_pos hp] at e
        exact fin _ (by simp only [List.length_append, List.length_singleton]; omega) e
      · rw [ext_seg] at hp
        rw [if_neg hp] at e
        exact fin _ (by omega) (by simpa using e)
end Go.Ev
end

section
/- Laws of the plain library: directives. -/
set_option linter.unusedVariables false
namespace Go.Ev
end Go.Ev
end

section
/- Laws of the plain library: what may be stored, what may be shared. -/
set_option linter.unusedVariables false
namespace Go.Ev
end Go.Ev
end

section
/- Laws of the plain library: numerals that are read. -/
set_option linter.unusedVariables false
namespace Go.Ev
def dvs (l : List UInt8) : List Nat := l.filterMap Lib.digitVal
def dv (l : List UInt8) : Nat := (dvs l).foldl (fun a d => a * 10 + d) 0
def shown (l : List UInt8) : Int := if l.head? = some 45 then -(dv l : Int) else (dv l : Int)
end Go.Ev
end

section
/- Laws of the plain library: a numeral is read, as spec does. -/
set_option linter.unusedVariables false
namespace Go.Ev
end Go.Ev
end

section
/- Laws of the plain library: the version that a tag says. -/
set_option linter.unusedVariables false
namespace Go.Ev
end Go.Ev
end

section
/- Laws of the plain library: a numeral is read by the library. -/
set_option linter.unusedVariables false
namespace Go.Ev
theorem atoi_cons (b : UInt8) (r : List UInt8) : Lib.atoi (b :: r) = if b == 45 then (Lib.decNat r).map fun (m : Nat) => -(m : Int) else if b == 43 then (Lib.decNat r).map fun (m : Nat) => (m : Int) else (Lib.decNat (b :: r)).map fun (m : Nat) => (m : Int) := rfl
end Go.Ev
end

section
/- Laws of the plain library: dates that are read, as spec does. -/
set_option linter.unusedVariables false
namespace Go.Ev
theorem isDig_iff {b : UInt8} : isDig b = true ↔ 48 ≤ b.toNat ∧ b.toNat ≤ 57 := by unfold isDig; simp
theorem decFrom_val : ∀ (l : List UInt8) (a : Nat), l.all isDig = true → Lib.decFrom a l = some (valFrom a l)
  | [], a, _ => rfl
  | b :: l, a, h => by
    simp only [List.all_cons, Bool.and_eq_true] at h
    have hb := isDig_iff.1 h.1
    have e : Lib.digitVal b = some (b.toNat - 48) := by unfold Lib.digitVal; rw [if_pos hb]
    simp only [Lib.decFrom, e]
    exact decFrom_val l _ h.2
theorem val_lt : ∀ (l : List UInt8) (a : Nat), l.all isDig = true → valFrom a l < (a + 1) * 10 ^ l.length
  | [], a, _ => by simp [valFrom]
  | b :: l, a, h => by
    simp only [List.all_cons, Bool.and_eq_true] at h
    have hb := isDig_iff.1 h.1
    have ih := val_lt l (a * 10 + (b.toNat - 48)) h.2
    have e : valFrom a (b :: l) = valFrom (a * 10 + (b.toNat - 48)) l := rfl
    rw [e, List.length_cons, Nat.pow_succ]
    refine Nat.lt_of_lt_of_le ih ?_
    rw [Nat.mul_comm (10 ^ l.length) 10, ← Nat.mul_assoc]
    exact Nat.mul_le_mul_right _ (by omega)
theorem valL_lt {l : List UInt8} (h : l.all isDig = true) : valL l < 10 ^ l.length := by
  have := val_lt l 0 h
  unfold valL
  simpa using this
theorem atoiV_val {l : List UInt8} (hne : l ≠ []) (hd : l.all isDig = true) (hl : l.length ≤ 18) : atoiV (ob l) = (valL l : Int) := by
  cases l with
  | nil => exact absurd rfl hne
  | cons b r =>
    have hb := isDig_iff.1 (by simp only [List.all_cons, Bool.and_eq_true] at hd; exact hd.1 : isDig b = true)
    have h45 : (b == 45) = false := by
      rw [beq_eq_false_iff_ne]; rintro rfl; simp at hb
    have h43 : (b == 43) = false := by
      rw [beq_eq_false_iff_ne]; rintro rfl; simp at hb
    have e : Lib.atoi (b :: r) = some ((valL (b :: r) : Nat) : Int) := by
      rw [atoi_cons, h45, h43]
      simp only [Bool.false_eq_true, if_false]
      unfold Lib.decNat
      simp only [List.isEmpty_cons, Bool.false_eq_true, if_false]
      rw [decFrom_val _ _ hd]
      rfl
    unfold atoiV
    rw [bs_ob, Lib.atoiAll_short _ hl, e]
    rfl
theorem numL_le (l : List UInt8) : -1 ≤ numL l ∧ numL l < 10 ^ l.length := by
  unfold numL
  split
  · next h =>
    have := valL_lt h
    constructor
    · omega
    · exact_mod_cast this
  · constructor
    · omega
    · have : (0 : Int) < 10 ^ l.length := by exact_mod_cast Nat.pow_pos (by omega)
      omega
theorem valL_snoc (l : List UInt8) (b : UInt8) : valL (l ++ [b]) = valL l * 10 + (b.toNat - 48) := by
  unfold valL valFrom
  rw [List.foldl_append]; rfl
theorem spec_l4Num_ok (a0 : S) (a1 a2 : Int) (h : pL4Num a0 a1 a2) : s_spec_l4Num a0 a1 a2 (fun r => r = mL4Num a0 a1 a2) := by
  obtain ⟨h0, h1, h2, h3, h4⟩ := h
  unfold sm at h4
  have hl := bs_len a0
  have w0 : IntKind.i64.wrap (a1 + a2) = a1 + a2 := wrap64 (by omega) (by omega)
  unfold s_spec_l4Num
  rw [w0]
  have hT : ((bs a0).drop a1.toNat).length = a0.size - a1.toNat := by rw [List.length_drop, hl]
  intro L hL
  refine loopI hL (fun y => ∃ k : Nat, (k : Int) ≤ a2 ∧ y.2 = a1 + (k : Int) ∧ (((bs a0).drop a1.toNat).take k).all isDig = true ∧ y.1 = (valL (((bs a0).drop a1.toNat).take k) : Int)) (fun y => (a1 + a2 - y.2).toNat) (fun y hI ih => ?_) (0, a1) ⟨0, by omega, by simp, by simp, by simp [valL, valFrom]⟩
  obtain ⟨x, i⟩ := y
  obtain ⟨k, hk, hi, hd, hx⟩ := hI
  simp only at hi hx ⊢
  subst hi hx
  have hv := valL_lt hd
  refine ⟨fun hlt => ?_, fun hge => ?_⟩
  · have hkl : k < ((bs a0).drop a1.toNat).length := by omega
    have hin : a1.toNat + k < a0.size := by omega
    have hbt : bt a0 (a1 + (k : Int)) = ((((bs a0).drop a1.toNat)[k]).toNat : Int) := by
      have := bt_nat a0 (a1.toNat + k) hin
      rw [show ((a1.toNat + k : Nat) : Int) = a1 + (k : Int) by omega] at this
      rw [this, List.getElem_drop]
    have hmem : ((bs a0).drop a1.toNat)[k] ∈ ((bs a0).drop a1.toNat).take a2.toNat := by
      rw [List.mem_take_iff_getElem]
      exact ⟨k, by omega, rfl⟩
    have bad : ¬ isDig (((bs a0).drop a1.toNat)[k]) = true → -1 = mL4Num a0 a1 a2 := fun hb => by
      unfold mL4Num numL
      rw [if_neg fun hall => hb (List.all_eq_true.1 hall _ hmem)]
    have hx : ((((bs a0).drop a1.toNat)[k]).toNat) < 256 := UInt8.toNat_lt _
    have tk : ((bs a0).drop a1.toNat).take (k + 1) = ((bs a0).drop a1.toNat).take k ++ [((bs a0).drop a1.toNat)[k]] := by rw [List.take_add_one, List.getElem?_eq_getElem hkl]; rfl
    rw [hbt]
    generalize hB : ((bs a0).drop a1.toNat)[k] = B at *
    refine ⟨by omega, by omega, fun c => bad fun hh => by have := isDig_iff.1 hh; omega, fun c => ⟨by omega, by omega, fun c2 => bad fun hh => by have := isDig_iff.1 hh; omega, fun c2 => ⟨by omega, by omega, ?_⟩⟩⟩
    have hlen : (((bs a0).drop a1.toNat).take k).length ≤ 3 := by rw [List.length_take]; omega
    have hp : 10 ^ (((bs a0).drop a1.toNat).take k).length ≤ 10 ^ 3 := Nat.pow_le_pow_right (by omega) hlen
    have w8 : IntKind.u8.wrap ((B.toNat : Int) - 48) = (B.toNat : Int) - 48 := wrap8 (by omega) (by omega)
    have w1 : IntKind.i64.wrap ((B.toNat : Int) - 48) = (B.toNat : Int) - 48 := wrap64 (by omega) (by omega)
    have w2 : IntKind.i64.wrap ((valL (((bs a0).drop a1.toNat).take k) : Int) * 10) = (valL (((bs a0).drop a1.toNat).take k) : Int) * 10 := wrap64 (by omega) (by omega)
    have w3 : IntKind.i64.wrap ((valL (((bs a0).drop a1.toNat).take k) : Int) * 10 + ((B.toNat : Int) - 48)) = (valL (((bs a0).drop a1.toNat).take (k + 1)) : Int) := by
      rw [wrap64 (by omega) (by omega), tk, valL_snoc]; omega
    have w4 : IntKind.i64.wrap (a1 + (k : Int) + 1) = a1 + ((k + 1 : Nat) : Int) := by rw [wrap64 (by omega) (by omega)]; omega
    rw [w8, w1, w2, w3, w4]
    refine ih _ ⟨k + 1, by omega, rfl, ?_, rfl⟩ (by simp only; omega)
    rw [tk, List.all_append, hd]
    simp only [List.all_cons, List.all_nil, Bool.and_true, Bool.true_and]
    exact isDig_iff.2 (by omega)
  · have hke : a2.toNat = k := by omega
    unfold mL4Num numL
    rw [hke, if_pos hd]

def noSp (l : List UInt8) : Bool := l.all fun b => decide (b ≠ 32)
theorem year_tab : ∀ k : Fin 64, bs (mDec (1970 + ((k.val : Nat) : Int))) = yearL (1970 + k.val) ∧ numL (yearL (1970 + k.val)) = 1970 + ((k.val : Nat) : Int) ∧ noSp (yearL (1970 + k.val)) = true := by decide +kernel
theorem two_tab2 : ∀ k : Fin 100, numL (twoL k.val) = ((k.val : Nat) : Int) ∧ noSp (twoL k.val) = true := by decide +kernel
theorem week_tab2 : ∀ i : Fin 7, noSp (bs (rx weekL ((i.val : Nat) : Int))) = true := by decide +kernel
theorem month_tab2 : ∀ i : Fin 12, noSp (bs (rx monthL ((i.val : Nat) : Int))) = true ∧ monU (rx monthL ((i.val : Nat) : Int)) 12 = ((i.val + 1 : Nat) : Int) ∧ mIndex_string monthL (rx monthL ((i.val : Nat) : Int)) = ((i.val : Nat) : Int) := by decide +kernel
theorem three {l : List UInt8} (h : l.length = 3) : ∃ a b c, l = [a, b, c] := by
  match l, h with
  | [a, b, c], _ => exact ⟨a, b, c, rfl⟩
structure DateAt (s : S) (t : Int) (k j d hh mm ss : Nat) (w0 w1 w2 m0 m1 m2 : UInt8) : Prop where
  kL : k < 64
  jL : j < 12
  dL : 1 ≤ d ∧ (d : Int) ≤ mMonthDays (1970 + (k : Int)) ((j : Int) + 1)
  hL : hh < 24
  mL : mm < 60
  sL : ss < 60
  tE : t = ((d : Int) - 1 + daysY k + daysM (1970 + (k : Int)) j) * 86400 + (hh : Int) * 3600 + (mm : Int) * 60 + (ss : Int)
  mon : bs (rx monthL (j : Int)) = [m0, m1, m2]
  wk : noSp [w0, w1, w2] = true
  bytes : bs s = [w0, w1, w2, 44, 32] ++ (twoL d ++ (32 :: ([m0, m1, m2] ++ (32 :: (yearL (1970 + k) ++ (32 :: (twoL hh ++ 58 :: (twoL mm ++ 58 :: (twoL ss ++ [32, 71, 77, 84])))))))))
theorem date_at {s : S} {t : Int} (h : isDate s t) : ∃ k j d hh mm ss w0 w1 w2 m0 m1 m2, DateAt s t k j d hh mm ss w0 w1 w2 m0 m1 m2 := by
  obtain ⟨h0, h1, rfl⟩ := h
  obtain ⟨k, j, civ, hk⟩ := civil_ex (n := t / 86400) (by omega) (by omega)
  obtain ⟨w0, w1, w2, hw⟩ := three (l := bs (rx weekL (t / 86400 % 7))) (by rw [bs_len]; exact week_size (by omega) (by omega))
  obtain ⟨m0, m1, m2, hm⟩ := three (l := bs (rx monthL (j : Int))) (by rw [bs_len]; exact month_size (by omega) (by have := civ.2.1; omega))
  have hj := civ.2.1
  have e1 := civ.2.2.1
  have e2 := civ.2.2.2
  simp only [daysM] at e2
  refine ⟨k, j, (t / 86400 - daysY k - daysM (1970 + (k : Int)) j + 1).toNat, (t / 3600 % 24).toNat, (t / 60 % 60).toNat, (t % 60).toNat, w0, w1, w2, m0, m1, m2, hk, hj, ⟨by omega, by omega⟩, by omega, by omega, by omega, by omega, hm, ?_, ?_⟩
  · have := week_tab2 ⟨(t / 86400 % 7).toNat, by omega⟩
    simp only at this
    rw [show (((t / 86400 % 7).toNat : Nat) : Int) = t / 86400 % 7 by omega, hw] at this
    exact this
  · rw [showDate_at h0 h1 civ]
    obtain ⟨y1, _, _⟩ := year_tab ⟨k, hk⟩
    simp only at y1
    unfold showT
    simp only [bs_append, hw, hm, y1, bs_lit, mTwo, bs_ob, List.append_assoc, List.map_cons, List.map_nil, List.cons_append, List.nil_append]
    rfl
theorem noSp_two {n : Nat} (h : n < 100) : numL (twoL n) = (n : Int) ∧ noSp (twoL n) = true := two_tab2 ⟨n, h⟩
theorem date_spec {s : S} {t : Int} (h : isDate s t) : (s.size : Int) = 29 ∧ 0 ≤ mDaysOf (mL4Num s 12 4) (monU (s.extract 8 11) 12) (mL4Num s 5 2) ∧ 0 ≤ mL4Num s 17 2 ∧ 0 ≤ mL4Num s 20 2 ∧ 0 ≤ mL4Num s 23 2 ∧
    mDaysOf (mL4Num s 12 4) (monU (s.extract 8 11) 12) (mL4Num s 5 2) * 86400 + mL4Num s 17 2 * 3600 + mL4Num s 20 2 * 60 + mL4Num s 23 2 = t := by
  obtain ⟨k, j, d, hh, mm, ss, w0, w1, w2, m0, m1, m2, H⟩ := date_at h
  have hd31 := (monthDays_range (1970 + (k : Int)) (m := (j : Int) + 1) (by omega) (by have := H.jL; omega)).2
  have h1 := H.dL
  have sz : s.size = 29 := by rw [← bs_len, H.bytes]; rfl
  have y : mL4Num s 12 4 = 1970 + (k : Int) := by
    show numL (((bs s).drop 12).take 4) = _
    rw [H.bytes]
    exact (year_tab ⟨k, H.kL⟩).2.1
  have e5 : mL4Num s 5 2 = (d : Int) := by
    show numL (((bs s).drop 5).take 2) = _
    rw [H.bytes]
    exact (noSp_two (by omega)).1
  have e17 : mL4Num s 17 2 = (hh : Int) := by
    show numL (((bs s).drop 17).take 2) = _
    rw [H.bytes]
    exact (noSp_two (by have := H.hL; omega)).1
  have e20 : mL4Num s 20 2 = (mm : Int) := by
    show numL (((bs s).drop 20).take 2) = _
    rw [H.bytes]
    exact (noSp_two (by have := H.mL; omega)).1
  have e23 : mL4Num s 23 2 = (ss : Int) := by
    show numL (((bs s).drop 23).take 2) = _
    rw [H.bytes]
    exact (noSp_two (by have := H.sL; omega)).1
  have em : s.extract 8 11 = rx monthL (j : Int) := by
    apply bs_inj
    rw [bs_extract, H.bytes, H.mon]
    rfl
  have mo : monU (s.extract 8 11) 12 = (j : Int) + 1 := by
    rw [em]
    have := (month_tab2 ⟨j, H.jL⟩).2.1
    simp only at this
    rw [this]; omega
  rw [y, e5, e17, e20, e23, mo]
  have hj := H.jL
  have hk := H.kL
  have hy : mDaysOf (1970 + (k : Int)) ((j : Int) + 1) (d : Int) = (d : Int) - 1 + daysY k + daysM (1970 + (k : Int)) j := by
    rw [← daysOf_yes (in_iff.2 ⟨by omega, by omega⟩) (in_iff.2 ⟨by omega, by omega⟩) (in_iff.2 ⟨by omega, h1.2⟩)]
    rw [show (1970 + (k : Int) - 1970).toNat = k by omega, show ((j : Int) + 1 - 1).toNat = j by omega]
  have r1 := daysY_range k
  have r2 := daysM_range (1970 + (k : Int)) j (by omega)
  rw [hy]
  refine ⟨by omega, by omega, by omega, by omega, by omega, H.tE.symm⟩
theorem date_uniq {s : S} {t t' : Int} (h : isDate s t) (h' : isDate s t') : t = t' := (date_spec h).2.2.2.2.2.symm.trans (date_spec h').2.2.2.2.2
theorem readDate_no {s : S} (h : ∀ t, ¬ isDate s t) : (0, false) = mReadDate s := by
  unfold mReadDate
  rw [dif_neg fun ⟨t, ht⟩ => h t ht]
theorem readDate_yes {s : S} {t : Int} (h : isDate s t) : (t, true) = mReadDate s := by
  have hx : ∃ t, isDate s t := ⟨t, h⟩
  unfold mReadDate
  rw [dif_pos hx, date_uniq h (Classical.choose_spec hx)]
theorem daysOf_bound (y m d : Int) : -1 ≤ mDaysOf y m d ∧ mDaysOf y m d ≤ 30000 := by
  unfold mDaysOf
  split
  · next h =>
    simp only [Bool.and_eq_true] at h
    have iy := in_iff.1 h.1.1
    have im := in_iff.1 h.1.2
    have id := in_iff.1 h.2
    have hr := monthDays_range y im.1 im.2
    have r1 := daysY_range (y - 1970).toNat
    have r2 := daysM_range y (m - 1).toNat (by omega)
    omega
  · omega
theorem date_back {s : S} {t : Int} (hs : (s.size : Int) = 29) (h : mShowDate t = s) : isDate s t := by
  by_cases hr : 0 ≤ t ∧ t ≤ 2000000000
  · exact ⟨hr.1, hr.2, h⟩
  · rw [← showDate_no hr] at h
    rw [← h] at hs
    exact absurd hs (by decide)
theorem l4_bound (s : S) (i : Int) : -1 ≤ mL4Num s i 2 ∧ mL4Num s i 2 ≤ 99 := by
  have h := numL_le (((bs s).drop i.toNat).take 2)
  have hl : (((bs s).drop i.toNat).take 2).length ≤ 2 := by rw [List.length_take]; omega
  have hp : (10 : Int) ^ (((bs s).drop i.toNat).take 2).length ≤ 10 ^ 2 := by exact_mod_cast Nat.pow_le_pow_right (by omega) hl
  have e : mL4Num s i 2 = numL (((bs s).drop i.toNat).take 2) := rfl
  rw [e]
  omega
theorem spec_ReadDate_ok (a0 : S) (h : pReadDate a0) : s_spec_ReadDate a0 (fun r => r = mReadDate a0) := by
  refine ⟨fun hn => readDate_no fun t ht => hn (date_spec ht).1, fun hs => ?_⟩
  have hs : (a0.size : Int) = 29 := Classical.not_not.1 hs
  intro L hL
  refine loopI hL (fun y => ∃ i : Nat, i ≤ 12 ∧ y.2 = 1 + (i : Int) ∧ y.1 = monU (a0.extract 8 11) i) (fun y => (13 - y.2).toNat) (fun y hI ih => ?_) (0, 1) ⟨0, by omega, by simp, rfl⟩
  obtain ⟨x, m⟩ := y
  obtain ⟨i, hi, hm, hx⟩ := hI
  simp only at hm hx ⊢
  subst hm hx
  have wm : IntKind.i64.wrap (1 + (i : Int) - 1) = (i : Int) := by rw [wrap64 (by omega) (by omega)]; omega
  have wn : IntKind.i64.wrap (1 + (i : Int) + 1) = 1 + ((i + 1 : Nat) : Int) := by rw [wrap64 (by omega) (by omega)]; omega
  rw [wm, wn]
  refine ⟨fun hle => ⟨by decide, by decide, by omega, by omega, by show _ < (12 : Int); omega, fun he => ?_, fun he => ?_⟩, fun hge => ?_⟩
  · refine ih _ ⟨i + 1, by omega, rfl, ?_⟩ (by simp only; omega)
    have he : a0.extract 8 11 = rx monthL (i : Int) := he
    simp only [monU]
    rw [if_pos he]; omega
  · refine ih _ ⟨i + 1, by omega, rfl, ?_⟩ (by simp only; omega)
    have he : ¬ a0.extract 8 11 = rx monthL (i : Int) := he
    simp only [monU]
    rw [if_neg he]
  · have hie : i = 12 := by omega
    subst hie
    have hsm : sm a0 := h
    have P := fun t (ht : isDate a0 t) => date_spec ht
    have b0 := daysOf_bound (mL4Num a0 12 4) (monU (a0.extract 8 11) 12) (mL4Num a0 5 2)
    have b1 := l4_bound a0 17
    have b2 := l4_bound a0 20
    have b3 := l4_bound a0 23
    have no : ∀ {p : Prop}, (∀ t, isDate a0 t → p) → ¬ p → (0, false) = mReadDate a0 := fun hp hn => readDate_no fun t ht => hn (hp t ht)
    refine ⟨⟨by omega, by omega, by omega, by omega, hsm⟩, ⟨by omega, by omega, by omega, by omega, hsm⟩, trivial, ⟨by omega, by omega, by omega, by omega, hsm⟩, ⟨by omega, by omega, by omega, by omega, hsm⟩, ⟨by omega, by omega, by omega, by omega, hsm⟩, ?_⟩
    generalize hD : mDaysOf (mL4Num a0 12 4) (monU (a0.extract 8 11) 12) (mL4Num a0 5 2) = D at *
    generalize hA : mL4Num a0 17 2 = A at *
    generalize hB : mL4Num a0 20 2 = B at *
    generalize hC : mL4Num a0 23 2 = C at *
    have w1 : IntKind.i64.wrap (D * 86400) = D * 86400 := wrap64 (by omega) (by omega)
    have w2 : IntKind.i64.wrap (A * 3600) = A * 3600 := wrap64 (by omega) (by omega)
    have w3 : IntKind.i64.wrap (D * 86400 + A * 3600) = D * 86400 + A * 3600 := wrap64 (by omega) (by omega)
    have w4 : IntKind.i64.wrap (B * 60) = B * 60 := wrap64 (by omega) (by omega)
    have w5 : IntKind.i64.wrap (D * 86400 + A * 3600 + B * 60) = D * 86400 + A * 3600 + B * 60 := wrap64 (by omega) (by omega)
    have w6 : IntKind.i64.wrap (D * 86400 + A * 3600 + B * 60 + C) = D * 86400 + A * 3600 + B * 60 + C := wrap64 (by omega) (by omega)
    rw [w1, w2, w3, w4, w5, w6]
    refine ⟨fun c => no (fun t ht => (P t ht).2.1) (by omega), fun c0 => ⟨fun c => no (fun t ht => (P t ht).2.2.1) (by omega), fun c1 => ⟨fun c => no (fun t ht => (P t ht).2.2.2.1) (by omega), fun c2 => ⟨fun c => no (fun t ht => (P t ht).2.2.2.2.1) (by omega), fun c3 => ⟨⟨by omega, by omega⟩, fun c => readDate_no fun t ht => c ?_, fun c => readDate_yes (date_back hs (Classical.not_not.1 c))⟩⟩⟩⟩⟩
    rw [(P t ht).2.2.2.2.2]
    exact ht.2.2
theorem spec_DateOf_ok (a0 : List Fld) (a1 : S) (h : pDateOf a0 a1) : s_spec_DateOf a0 a1 (fun r => r = mDateOf a0 a1) :=
  ⟨h, fun hn => by unfold mDateOf; rw [if_neg hn], fun hy => ⟨by have := fieldGet_size a0 a1 h; show ByteArray.size _ ≤ _; omega, by unfold mDateOf; rw [if_pos (Classical.not_not.1 hy)]⟩⟩
theorem impl_DateOf_ok (a0 : List Fld) (a1 : S) (h : pDateOf a0 a1) : s_impl_DateOf a0 a1 (fun r => r = mDateOf a0 a1) := spec_DateOf_ok a0 a1 h
end Go.Ev
end

section
/- What the program's functions come to, each by itself: printed by a program of this session's own (EwShow) out of the small machine. -/
set_option linter.unusedVariables false
namespace Go.Ev

end Go.Ev
end

section
/- What the laws' marks come to, and the law of Picked: printed by a program of this session's own (EwShow) out of the small machine. -/
set_option linter.unusedVariables false
namespace Go.Ev

end Go.Ev
end

section
/- What more of the laws' functions come to: printed by a program of this session's own (EwShow) out of the small machine. -/
set_option linter.unusedVariables false
namespace Go.Ev

end Go.Ev
end

section
/- What the laws' functions come to: printed by a program of this session's own (EwShow) out of the small machine. -/
set_option linter.unusedVariables false
namespace Go.Ev

end Go.Ev
end

section
/- Laws of the plain library: worlds. -/
set_option linter.unusedVariables false
namespace Go.Ev
theorem szF_md {α : Type} [Cz α] {x : α} {k : Int} (h : ¬ szF x k < 0) (h0 : 0 ≤ k) (h1 : k ≤ 1048576) : md x := by
  unfold szF leftI at h
  unfold md
  split at h
  · omega
  · omega
end Go.Ev
end

section
/- Laws of the plain library: the law of TagOf. -/
set_option linter.unusedVariables false
namespace Go.Ev
end Go.Ev
end

section
/- Laws of the plain library: the laws' functions of the doors. -/
set_option linter.unusedVariables false
namespace Go.Ev
theorem md_req {q : Req} (h : md q) : md q.2.2.1 := by
  unfold md at h ⊢; simp only [cz_pair] at h; omega
end Go.Ev
end

section
/- Laws of the plain library: more of the laws' functions. -/
set_option linter.unusedVariables false
namespace Go.Ev
end Go.Ev
end

section
/- Laws of the plain library: the laws' marks. -/
set_option linter.unusedVariables false
namespace Go.Ev
end Go.Ev
end

section
/- Laws of the plain library: marks of texts in a row, FieldSet, WithAge, VaryNames. -/
set_option linter.unusedVariables false
namespace Go.Ev
end Go.Ev
end

section
/- Laws of the plain library: lifetimes, ages, what is fresh, what is not modified. -/
set_option linter.unusedVariables false
namespace Go.Ev
theorem nMod : lit [105, 102, 45, 109, 111, 100, 105, 102, 105, 101, 100, 45, 115, 105, 110, 99, 101] = sModSince := rfl
theorem nMatch : lit [105, 102, 45, 110, 111, 110, 101, 45, 109, 97, 116, 99, 104] = sNoMatch := rfl
theorem spec_l11Weak_ok (a0 : S) (h : pStrong a0) : s_spec_l11Weak a0 (fun r => r = mStrong a0) := by
  refine ⟨fun c => ⟨by omega, by omega, fun d => ⟨by omega, by omega, ?_⟩, fun d => ?_⟩, fun c => ?_⟩
  · unfold mStrong; rw [if_pos ⟨by omega, d⟩]; rfl
  · unfold mStrong; rw [if_neg fun hh => d hh.2]
  · unfold mStrong; rw [if_neg fun hh => c (by have := hh.1; omega)]
theorem stringslite_HasPrefix_ok (a0 a1 : S) (h : pHasPrefix a0 a1) : s_stringslite_HasPrefix a0 a1 (fun r => r = mHasPrefix a0 a1) := by
  refine ⟨fun c => ⟨by omega, c, ?_⟩, fun c => ?_⟩
  · unfold mHasPrefix
    rw [decide_eq_true (show a1.size ≤ a0.size by omega), Bool.true_and, Int.toNat_natCast]
  · unfold mHasPrefix
    rw [decide_eq_false (show ¬ a1.size ≤ a0.size by omega)]; rfl
theorem stringslite_CutPrefix_ok (a0 a1 : S) (h : pCutPrefix a0 a1) : s_stringslite_CutPrefix a0 a1 (fun r => r = mCutPrefix a0 a1) := by
  refine ⟨trivial, fun c => ?_, fun c => ?_⟩
  · unfold mCutPrefix; rw [if_neg c]
  · have c := Classical.not_not.1 c
    have hle : a1.size ≤ a0.size := by unfold mHasPrefix at c; simp at c; exact c.1
    refine ⟨by omega, by omega, ?_⟩
    unfold mCutPrefix; rw [if_pos c]; rfl
theorem strings_cutPrefix_ok (a0 a1 : S) (h : pCutPrefix a0 a1) : s_strings_cutPrefix a0 a1 (fun r => r = mCutPrefix a0 a1) := ⟨trivial, rfl⟩
theorem size_zero {s : S} : s = lit [] ↔ s.size = 0 := by
  constructor
  · rintro rfl; rfl
  · intro h
    apply bs_inj
    have := bs_len s
    rw [h] at this
    rw [List.length_eq_zero_iff.1 this]; rfl
theorem impl_strong_ok (a0 : S) (h : pStrong a0) : s_impl_strong a0 (fun r => r = mStrong a0) := by
  have two : (lit [87, 47]).size = 2 := rfl
  refine ⟨trivial, fun c => ?_, fun c => ⟨fun d => ?_, fun d => ?_⟩⟩
  · have c : ¬ mHasPrefix a0 (lit [87, 47]) = true := fun hh => c (by unfold mCutPrefix; rw [if_pos hh])
    unfold mStrong
    rw [if_neg fun hh => c (by unfold mHasPrefix; rw [two]; simp only [Bool.and_eq_true, decide_eq_true_eq]; exact ⟨by omega, hh.2⟩)]
  · have c := Classical.not_not.1 c
    have hp : mHasPrefix a0 (lit [87, 47]) = true := by
      unfold mCutPrefix at c; split at c
      · assumption
      · simp at c
    unfold mCutPrefix at d
    rw [if_pos hp, size_zero] at d
    simp only [two, ByteArray.size_extract] at d
    unfold mStrong
    rw [if_neg fun hh => by have := hh.1; omega]
  · have c := Classical.not_not.1 c
    have hp : mHasPrefix a0 (lit [87, 47]) = true := by
      unfold mCutPrefix at c; split at c
      · assumption
      · simp at c
    unfold mCutPrefix at d ⊢
    rw [if_pos hp] at d ⊢
    rw [size_zero] at d
    simp only [two, ByteArray.size_extract] at d ⊢
    unfold mHasPrefix at hp
    rw [two] at hp
    simp only [Bool.and_eq_true, decide_eq_true_eq] at hp
    unfold mStrong
    rw [if_pos ⟨by omega, hp.2⟩]
theorem impl_NotModified_1_ok (a0 a1 : S) (h : pNotModified_1 a0 a1) : s_impl_NotModified_1 a0 a1 (fun r => r = mNotModified_1 a0 a1) := by
  refine ⟨fun c => ?_, fun c => ⟨h.1, h.2, ?_⟩⟩
  · unfold mNotModified_1; rw [decide_eq_true c]; rfl
  · unfold mNotModified_1; rw [decide_eq_false c]; rfl
theorem IndexFunc_NotModified_1_ok (a0 : List S) (a1 : S) (h : pIndexFunc_NotModified_1 a0 a1) : s_IndexFunc_NotModified_1 a0 a1 (fun r => r = mIndexFunc_NotModified_1 a0 a1) :=
  idxS_ok (P := fun x => pNotModified_1 x a1) (F := fun x => mNotModified_1 x a1) h.1 fun x hx => ⟨h.2.1 _ hx, h.2.2⟩
theorem ContainsFunc_NotModified_1_ok (a0 : List S) (a1 : S) (h : pContainsFunc_NotModified_1 a0 a1) : s_ContainsFunc_NotModified_1 a0 a1 (fun r => r = mContainsFunc_NotModified_1 a0 a1) := ⟨h, idxI_nonneg⟩
theorem noMatch_bound {q : Req} (h : md q.2.2.1) : (mSplitList (mFieldGet q.2.2.1 sNoMatch).1).length ≤ 3 * 1048576 + 1 ∧ ∀ x, x ∈ mSplitList (mFieldGet q.2.2.1 sNoMatch).1 → sm x := by
  have h2 := fieldGet_size q.2.2.1 sNoMatch h
  refine ⟨?_, fun x hx => ?_⟩
  · have := (splitList_bound (mFieldGet q.2.2.1 sNoMatch).1).2
    omega
  · have := splitList_mem hx
    unfold sm; omega
theorem impl_NotModified_ok (a0 : Req) (a1 : S) (a2 : Int) (h : pNotModified a0 a1 a2) : s_impl_NotModified a0 a1 a2 (fun r => r = mNotModified a0 a1 a2) := by
  obtain ⟨hm, ht⟩ := h
  have h2 := fieldGet_size a0.2.2.1 sNoMatch hm
  obtain ⟨b1, b2⟩ := noMatch_bound hm
  unfold s_impl_NotModified
  rw [nMatch, nMod]
  refine ⟨hm, fun c => ⟨?_, ⟨?_, b2, ht⟩, ?_⟩, fun c => ⟨hm, fun d => ⟨trivial, ?_⟩, fun d => ?_⟩⟩
  · show ByteArray.size _ ≤ _; omega
  · simp only [maxLen]; show (mSplitList (mFieldGet a0.2.2.1 sNoMatch).1).length ≤ _; omega
  · unfold mNotModified; rw [if_pos (show (mFieldGet a0.2.2.1 sNoMatch).2 = true from c)]; rfl
  · unfold mNotModified; rw [if_neg (show ¬ (mFieldGet a0.2.2.1 sNoMatch).2 = true from c), show (mDateOf a0.2.2.1 sModSince).2 = true from d]; rfl
  · unfold mNotModified; rw [if_neg (show ¬ (mFieldGet a0.2.2.1 sNoMatch).2 = true from c), show (mDateOf a0.2.2.1 sModSince).2 = false by simpa using d]; rfl
theorem spec_NotModified_ok (a0 : Req) (a1 : S) (a2 : Int) (h : pNotModified a0 a1 a2) : s_spec_NotModified a0 a1 a2 (fun r => r = mNotModified a0 a1 a2) := by
  obtain ⟨hm, ht⟩ := h
  have h2 := fieldGet_size a0.2.2.1 sNoMatch hm
  obtain ⟨b1, b2⟩ := noMatch_bound hm
  unfold s_spec_NotModified
  rw [nMatch, nMod]
  refine ⟨hm, fun c => ⟨?_, fun L hL => ?_⟩, fun c => ⟨hm, fun d => ⟨fun e => ?_, fun e => ?_⟩, fun d => ?_⟩⟩
  · show ByteArray.size _ ≤ _; omega
  · have base : mNotModified a0 a1 a2 = (mSplitList (mFieldGet a0.2.2.1 sNoMatch).1).any fun x => mNotModified_1 x a1 := by unfold mNotModified; rw [if_pos (show (mFieldGet a0.2.2.1 sNoMatch).2 = true from c)]
    generalize mSplitList (mFieldGet a0.2.2.1 sNoMatch).1 = l at *
    refine loopG hL l.length (fun i y => y = (i : Int) ∧ ∀ j, j < i → ∀ hj : j < l.length, mNotModified_1 l[j] a1 = false) (fun i y hi hI hn => ?_) (s0 := 0) ⟨rfl, fun j hj => absurd hj (by omega)⟩
    obtain ⟨rfl, ha⟩ := hI
    rw [wrapS (by omega)]
    refine ⟨fun hlt => ?_, fun hge => ?_⟩
    · have hi2 : i < l.length := by omega
      rw [rx_get _ hi2]
      refine ⟨by omega, hlt, fun e => ?_, fun e => ⟨by omega, hlt, b2 _ (List.getElem_mem hi2), ht, fun f => ?_, fun f => ?_⟩⟩
      · rw [base, any_true hi2 (by unfold mNotModified_1; rw [decide_eq_true e]; rfl)]
      · rw [base, any_true hi2 (by unfold mNotModified_1; rw [decide_eq_true f]; simp)]
      · refine hn _ hi2 ⟨rfl, fun j hj hjl => ?_⟩
        by_cases hji : j = i
        · subst hji; unfold mNotModified_1; rw [decide_eq_false e, decide_eq_false f]; rfl
        · exact ha j (by omega) hjl
    · rw [base]
      refine Eq.symm (List.any_eq_false.2 fun x hx => ?_)
      obtain ⟨j, hj, rfl⟩ := List.getElem_of_mem hx
      rw [ha j (by omega) hj]; simp
  · unfold mNotModified mIn; rw [if_neg (show ¬ (mFieldGet a0.2.2.1 sNoMatch).2 = true from c), show (mDateOf a0.2.2.1 sModSince).2 = true from d, decide_eq_true e]; rfl
  · unfold mNotModified mIn; rw [if_neg (show ¬ (mFieldGet a0.2.2.1 sNoMatch).2 = true from c), show (mDateOf a0.2.2.1 sModSince).2 = true from d, decide_eq_false e]; rfl
  · unfold mNotModified; rw [if_neg (show ¬ (mFieldGet a0.2.2.1 sNoMatch).2 = true from c), show (mDateOf a0.2.2.1 sModSince).2 = false by simpa using d]; rfl

def p_FnExactNotModified (a0 : Req) (a1 : S) (a2 : Int) : Prop := wd a0 ∧ wd a1 ∧ wd a2
theorem laws_FnExactNotModified_ok (a0 : Req) (a1 : S) (a2 : Int) (h : p_FnExactNotModified a0 a1 a2) : s_laws_FnExactNotModified a0 a1 a2 (fun r => r = true) := by
  obtain ⟨w0, w1, w2⟩ := h
  refine ⟨fun _ => rfl, fun hs => ⟨⟨w0, by omega, by simp [capI]⟩, fun _ => rfl, fun hs0 => ?_⟩⟩
  have m0 : md a0 := szF_md hs0 (by omega) (by omega)
  have hp : pNotModified (toF a0) a1 a2 := ⟨md_req m0, by unfold sm; omega⟩
  exact ⟨m0, hp, m0, hp, fun hne => absurd rfl hne, fun _ => ⟨m0, w0, fun hne => absurd (eqF_iff.2 rfl) hne, fun _ => rfl⟩⟩
end Go.Ev
end

section
/- Laws of the plain library: dates and seconds that are read, as impl does. -/
set_option linter.unusedVariables false
namespace Go.Ev
def spl (s : S) : List S := mSplit s (lit [32])
theorem occ_one {l : List UInt8} {i : Nat} : Lib.occAt l [32] i = true ↔ l[i]? = some 32 := by
  unfold Lib.occAt
  cases hd : l.drop i with
  | nil =>
    have : l.length ≤ i := List.drop_eq_nil_iff.1 hd
    simp [List.getElem?_eq_none this]
  | cons b r =>
    have hi : i < l.length := by
      rcases Nat.lt_or_ge i l.length with h | h
      · exact h
      · rw [List.drop_eq_nil_of_le h] at hd; cases hd
    have hb : l[i]? = some b := by rw [← List.head?_drop, hd]; rfl
    rw [hb]
    simp [List.isPrefixOf]
    exact ⟨fun h => h.symm, fun h => h.symm⟩
theorem spl_hit {s : S} {p r : List UInt8} (hp : noSp p = true) (h : bs s = p ++ 32 :: r) : spl s = ob p :: spl (ob r) := by
  have hi : Lib.indexB s (lit [32]) = (p.length : Int) := by
    show Lib.index (bs s) [32] = _
    rw [h]
    refine Lib.index_hit (fun j hj => ?_) (by simp) (occ_one.2 (by simp))
    cases ho : Lib.occAt (p ++ 32 :: r) [32] j with
    | false => rfl
    | true =>
      have h1 := occ_one.1 ho
      rw [List.getElem?_append_left hj, List.getElem?_eq_getElem hj] at h1
      have h2 := List.all_eq_true.1 hp _ (List.getElem_mem hj)
      injection h1 with h1
      rw [h1] at h2
      simp at h2
  have hsz : (lit [32]).size = 1 := rfl
  have e1 : s.extract 0 (p.length + 0) = ob p := by
    apply bs_inj
    rw [bs_extract, h, bs_ob]
    simp
  have e2 : s.extract (p.length + (lit [32]).size) s.size = ob r := by
    apply bs_inj
    rw [bs_extract, ← bs_len, h, bs_ob, hsz]
    have : p ++ 32 :: r = (p ++ [32]) ++ r := by simp
    rw [this]
    simp only [List.length_append, List.length_cons, List.length_nil]
    rw [List.drop_left' (by simp), List.take_of_length_le (by omega)]
  unfold spl mSplit
  rw [Lib.countB_hit s (lit [32]) p.length (by rw [hsz]; omega) hi, Nat.add_comm 1, Lib.splitB_hit _ _ _ _ _ hi, e1, e2]
theorem spl_last {s : S} (h : noSp (bs s) = true) : spl s = [s] := by
  have hi : Lib.indexB s (lit [32]) = -1 := by
    show Lib.index (bs s) [32] = _
    refine Lib.index_none fun j hj => ?_
    cases ho : Lib.occAt (bs s) [32] j with
    | false => rfl
    | true =>
      have h1 := occ_one.1 ho
      have h2 := List.all_eq_true.1 h _ (List.mem_of_getElem? h1)
      simp at h2
  unfold spl mSplit
  exact Lib.splitB_miss _ _ _ _ hi
theorem splitB_size (k : Nat) : ∀ (s x : S), x ∈ Lib.splitB (lit [32]) 0 k s → x.size ≤ s.size := by
  induction k with
  | zero => intro s x h; rw [Lib.splitB_zero] at h; simp at h; rw [h]; exact Nat.le_refl _
  | succ k ih =>
    intro s x h
    rcases Lib.index_spec (bs s) [32] with ⟨hm, _⟩ | ⟨i, hi, _⟩
    · rw [Lib.splitB_miss _ _ _ _ hm] at h; simp at h; rw [h]; exact Nat.le_refl _
    · rw [Lib.splitB_hit _ _ _ _ i hi] at h
      rcases List.mem_cons.1 h with h | h
      · rw [h, ByteArray.size_extract]; omega
      · have := ih _ _ h
        rw [ByteArray.size_extract] at this
        omega
theorem rx_spl_size (s : S) (i : Nat) : (rx (spl s) (i : Int)).size ≤ s.size := by
  by_cases hi : i < (spl s).length
  · rw [rx_get _ hi]
    exact splitB_size _ _ _ (List.getElem_mem hi)
  · unfold rx
    have : (spl s)[i]? = none := List.getElem?_eq_none (by omega)
    simp [this, Dft.dft]
theorem number_of {l : List UInt8} {n : Int} (h : numL l = n) (h0 : 0 ≤ n) (hne : l ≠ []) (hl : l.length ≤ 18) : mNumber (ob l) = n := by
  unfold numL at h
  split at h
  · next hd =>
    unfold mNumber
    rw [bs_ob, if_pos hd, atoiV_val hne hd hl, h]
  · omega
theorem impl_number_ok (a0 : S) (h : pNumber a0) : s_impl_number a0 (fun r => r = mNumber a0) := by
  have hsm : a0.size ≤ 1073741824 := h
  have hl := bs_len a0
  intro L hL
  refine loopG hL a0.size (fun i y => y = (i : Int) ∧ ((bs a0).take i).all isDig = true) (fun i y hi hI hn => ?_) (s0 := 0) ⟨rfl, by simp⟩
  obtain ⟨rfl, hd⟩ := hI
  rw [wrapS (by omega)]
  refine ⟨fun hlt => ?_, fun hge => ?_⟩
  · have hi2 : i < (bs a0).length := by omega
    have hbt : bt a0 (i : Int) = (((bs a0)[i]).toNat : Int) := bt_nat a0 i (by omega)
    have bad : ¬ isDig ((bs a0)[i]) = true → -1 = mNumber a0 := fun hb => by
      unfold mNumber
      rw [if_neg fun hall => hb (List.all_eq_true.1 hall _ (List.getElem_mem hi2))]
    rw [hbt]
    refine ⟨by omega, hlt, fun c => bad fun hh => by have := isDig_iff.1 hh; omega, fun c => ⟨by omega, hlt, fun c2 => bad fun hh => by have := isDig_iff.1 hh; omega, fun c2 => ?_⟩⟩
    refine hn _ (by omega) ⟨rfl, ?_⟩
    rw [take_succ_app hi2, List.all_append, hd]
    simp only [List.all_cons, List.all_nil, Bool.and_true, Bool.true_and]
    exact isDig_iff.2 (by omega)
  · rw [List.take_of_length_le (by omega)] at hd
    refine ⟨h, ?_⟩
    unfold mNumber
    rw [if_pos hd]; rfl
theorem noSp_app {a b : List UInt8} : noSp (a ++ b) = (noSp a && noSp b) := by unfold noSp; exact List.all_append
theorem date_impl {s : S} {t : Int} (h : isDate s t) : ((spl s).length : Int) = 6 ∧ (s.size : Int) = 29 ∧ ((rx (spl s) 4).size : Int) = 8 ∧ ((rx (spl s) 3).size : Int) = 4 ∧
    0 ≤ mDaysOf (mNumber (rx (spl s) 3)) (IntKind.i64.wrap (mIndex_string monthL (rx (spl s) 2) + 1)) (mNumber (rx (spl s) 1)) ∧
    IntKind.i64.wrap (IntKind.i64.wrap (IntKind.i64.wrap (IntKind.i64.wrap (mDaysOf (mNumber (rx (spl s) 3)) (IntKind.i64.wrap (mIndex_string monthL (rx (spl s) 2) + 1)) (mNumber (rx (spl s) 1)) * 86400) + IntKind.i64.wrap (3600 * mNumber ((rx (spl s) 4).extract 0 2))) + IntKind.i64.wrap (60 * mNumber ((rx (spl s) 4).extract 3 5))) + mNumber ((rx (spl s) 4).extract 6 (rx (spl s) 4).size)) = t := by
  obtain ⟨k, j, d, hh, mm, ss, w0, w1, w2, m0, m1, m2, H⟩ := date_at h
  have hd31 := (monthDays_range (1970 + (k : Int)) (m := (j : Int) + 1) (by omega) (by have := H.jL; omega)).2
  have h1 := H.dL
  have hj := H.jL
  have hk := H.kL
  have sz : s.size = 29 := by rw [← bs_len, H.bytes]; rfl
  obtain ⟨y1, y2, y3⟩ := year_tab ⟨k, hk⟩
  simp only at y1 y2 y3
  obtain ⟨d1, d2⟩ := noSp_two (n := d) (by omega)
  obtain ⟨a1, a2⟩ := noSp_two (n := hh) (by have := H.hL; omega)
  obtain ⟨b1, b2⟩ := noSp_two (n := mm) (by have := H.mL; omega)
  obtain ⟨c1, c2⟩ := noSp_two (n := ss) (by have := H.sL; omega)
  obtain ⟨mo1, mo2, mo3⟩ := month_tab2 ⟨j, hj⟩
  simp only at mo1 mo2 mo3
  rw [H.mon] at mo1
  have hw : noSp [w0, w1, w2, 44] = true := by
    rw [show [w0, w1, w2, 44] = [w0, w1, w2] ++ [44] from rfl, noSp_app, H.wk]; rfl
  have ht : noSp (twoL hh ++ 58 :: (twoL mm ++ 58 :: twoL ss)) = true := by
    rw [show twoL hh ++ 58 :: (twoL mm ++ 58 :: twoL ss) = twoL hh ++ ([58] ++ (twoL mm ++ ([58] ++ twoL ss))) from rfl, noSp_app, noSp_app, noSp_app, noSp_app, a2, b2, c2]; rfl
  have hB : bs s = [w0, w1, w2, 44] ++ 32 :: (twoL d ++ 32 :: ([m0, m1, m2] ++ 32 :: (yearL (1970 + k) ++ 32 :: ((twoL hh ++ 58 :: (twoL mm ++ 58 :: twoL ss)) ++ 32 :: [71, 77, 84])))) := by
    rw [H.bytes]
    simp only [List.append_assoc, List.cons_append, List.nil_append]
  have hS : spl s = [ob [w0, w1, w2, 44], ob (twoL d), ob [m0, m1, m2], ob (yearL (1970 + k)), ob (twoL hh ++ 58 :: (twoL mm ++ 58 :: twoL ss)), ob [71, 77, 84]] := by
    rw [spl_hit hw hB, spl_hit d2 (bs_ob _), spl_hit mo1 (bs_ob _), spl_hit y3 (bs_ob _), spl_hit ht (bs_ob _), spl_last (by rw [bs_ob]; rfl)]
  have em : ob [m0, m1, m2] = rx monthL (j : Int) := by
    apply bs_inj; rw [bs_ob, H.mon]
  rw [hS]
  have r3 : mNumber (rx [ob [w0, w1, w2, 44], ob (twoL d), ob [m0, m1, m2], ob (yearL (1970 + k)), ob (twoL hh ++ 58 :: (twoL mm ++ 58 :: twoL ss)), ob [71, 77, 84]] 3) = 1970 + (k : Int) := number_of (l := yearL (1970 + k)) y2 (by omega) (by unfold yearL; simp) (by unfold yearL; simp)
  have r2 : IntKind.i64.wrap (mIndex_string monthL (rx [ob [w0, w1, w2, 44], ob (twoL d), ob [m0, m1, m2], ob (yearL (1970 + k)), ob (twoL hh ++ 58 :: (twoL mm ++ 58 :: twoL ss)), ob [71, 77, 84]] 2) + 1) = (j : Int) + 1 := by
    show IntKind.i64.wrap (mIndex_string monthL (ob [m0, m1, m2]) + 1) = _
    rw [em, mo3, wrap64 (by omega) (by omega)]
  have r1 : mNumber (rx [ob [w0, w1, w2, 44], ob (twoL d), ob [m0, m1, m2], ob (yearL (1970 + k)), ob (twoL hh ++ 58 :: (twoL mm ++ 58 :: twoL ss)), ob [71, 77, 84]] 1) = (d : Int) := number_of (l := twoL d) d1 (by omega) (by unfold twoL; simp) (by unfold twoL; simp)
  have e0 : ∀ a b : Nat, ∀ l : List UInt8, ((bs (ob (twoL hh ++ 58 :: (twoL mm ++ 58 :: twoL ss)))).drop a).take (b - a) = l → (ob (twoL hh ++ 58 :: (twoL mm ++ 58 :: twoL ss))).extract a b = ob l := fun a b l hl => by
    apply bs_inj; rw [bs_extract, bs_ob l, ← hl]
  have rh : mNumber ((ob (twoL hh ++ 58 :: (twoL mm ++ 58 :: twoL ss))).extract 0 2) = (hh : Int) := by
    rw [e0 0 2 (twoL hh) (by rw [bs_ob]; rfl)]
    exact number_of a1 (by omega) (by unfold twoL; simp) (by unfold twoL; simp)
  have rm : mNumber ((ob (twoL hh ++ 58 :: (twoL mm ++ 58 :: twoL ss))).extract 3 5) = (mm : Int) := by
    rw [e0 3 5 (twoL mm) (by rw [bs_ob]; rfl)]
    exact number_of b1 (by omega) (by unfold twoL; simp) (by unfold twoL; simp)
  have s8 : (ob (twoL hh ++ 58 :: (twoL mm ++ 58 :: twoL ss))).size = 8 := by rw [ob_size]; rfl
  have rs : mNumber ((ob (twoL hh ++ 58 :: (twoL mm ++ 58 :: twoL ss))).extract 6 (ob (twoL hh ++ 58 :: (twoL mm ++ 58 :: twoL ss))).size) = (ss : Int) := by
    rw [s8, e0 6 8 (twoL ss) (by rw [bs_ob]; rfl)]
    exact number_of c1 (by omega) (by unfold twoL; simp) (by unfold twoL; simp)
  rw [r3, r2, r1]
  have q4 : rx [ob [w0, w1, w2, 44], ob (twoL d), ob [m0, m1, m2], ob (yearL (1970 + k)), ob (twoL hh ++ 58 :: (twoL mm ++ 58 :: twoL ss)), ob [71, 77, 84]] 4 = ob (twoL hh ++ 58 :: (twoL mm ++ 58 :: twoL ss)) := rfl
  have q3 : rx [ob [w0, w1, w2, 44], ob (twoL d), ob [m0, m1, m2], ob (yearL (1970 + k)), ob (twoL hh ++ 58 :: (twoL mm ++ 58 :: twoL ss)), ob [71, 77, 84]] 3 = ob (yearL (1970 + k)) := rfl
  rw [q4, q3, rh, rm, rs, s8, ob_size]
  have hy : mDaysOf (1970 + (k : Int)) ((j : Int) + 1) (d : Int) = (d : Int) - 1 + daysY k + daysM (1970 + (k : Int)) j := by
    rw [← daysOf_yes (in_iff.2 ⟨by omega, by omega⟩) (in_iff.2 ⟨by omega, by omega⟩) (in_iff.2 ⟨by omega, h1.2⟩)]
    rw [show (1970 + (k : Int) - 1970).toNat = k by omega, show ((j : Int) + 1 - 1).toNat = j by omega]
  have g1 := daysY_range k
  have g2 := daysM_range (1970 + (k : Int)) j (by omega)
  rw [hy]
  have g3 := H.hL
  have g4 := H.mL
  have g5 := H.sL
  have hT := H.tE
  refine ⟨rfl, by omega, rfl, by unfold yearL; rfl, by omega, ?_⟩
  have v1 : IntKind.i64.wrap (((d : Int) - 1 + daysY k + daysM (1970 + (k : Int)) j) * 86400) = ((d : Int) - 1 + daysY k + daysM (1970 + (k : Int)) j) * 86400 := wrap64 (by omega) (by omega)
  have v2 : IntKind.i64.wrap (3600 * (hh : Int)) = 3600 * (hh : Int) := wrap64 (by omega) (by omega)
  have v4 : IntKind.i64.wrap (60 * (mm : Int)) = 60 * (mm : Int) := wrap64 (by omega) (by omega)
  rw [v1, v2, v4]
  generalize ((d : Int) - 1 + daysY k + daysM (1970 + (k : Int)) j) * 86400 = D at *
  have b1 : 0 ≤ t ∧ t ≤ 2000000000 := ⟨h.1, h.2.1⟩
  rw [wrap64 (n := D + 3600 * (hh : Int)) (by omega) (by omega), wrap64 (n := D + 3600 * (hh : Int) + 60 * (mm : Int)) (by omega) (by omega), wrap64 (by omega) (by omega)]
  omega
theorem wrap_in64 (n : Int) : in64 (IntKind.i64.wrap n) := by
  unfold in64 IntKind.wrap
  simp only [IntKind.bits, IntKind.signed]
  have h : ∀ m : Int, 0 ≤ m → m < 2 ^ 64 → (-9223372036854775808 ≤ (if (true && decide (m ≥ 2 ^ (64 - 1))) = true then m - 2 ^ 64 else m) ∧ (if (true && decide (m ≥ 2 ^ (64 - 1))) = true then m - 2 ^ 64 else m) ≤ 9223372036854775807) := by
    intro m h0 h1
    by_cases c : m ≥ 2 ^ (64 - 1)
    · rw [if_pos (by simpa using c)]; omega
    · rw [if_neg (by simpa using c)]; omega
  exact h _ (Int.emod_nonneg _ (by decide)) (Int.emod_lt_of_pos _ (by decide))
theorem impl_ReadDate_ok (a0 : S) (h : pReadDate a0) : s_impl_ReadDate a0 (fun r => r = mReadDate a0) := by
  have hsm : a0.size ≤ 1073741824 := h
  have P := fun t (ht : isDate a0 t) => date_impl ht
  have no : ∀ {p : Prop}, (∀ t, isDate a0 t → p) → ¬ p → (0, false) = mReadDate a0 := fun hp hn => readDate_no fun t ht => hn (hp t ht)
  have szr : ∀ i : Nat, sm (rx (spl a0) (i : Int)) := fun i => Nat.le_trans (rx_spl_size a0 i) hsm
  have sze : ∀ (i a b : Nat), sm ((rx (spl a0) (i : Int)).extract a b) := fun i a b => by
    have := szr i
    unfold sm at *
    rw [ByteArray.size_extract]; omega
  unfold s_impl_ReadDate
  rw [show mSplit a0 (lit [32]) = spl a0 from rfl]
  refine ⟨⟨h, rfl⟩, fun c => no (fun t ht => (P t ht).1) c, fun c0 => ⟨fun c => no (fun t ht => (P t ht).2.1) c, fun c1 => ?_⟩⟩
  have c0 := Classical.not_not.1 c0
  refine ⟨by omega, by omega, fun c => no (fun t ht => (P t ht).2.2.1) c, fun c2 => ⟨by omega, by omega, fun c => no (fun t ht => (P t ht).2.2.2.1) c, fun c3 => ?_⟩⟩
  have c2 := Classical.not_not.1 c2
  refine ⟨by omega, by omega, by omega, by omega, szr 3, trivial, by omega, by omega, by show monthL.length ≤ maxLen; decide, by omega, by omega, szr 1, trivial, fun c => no (fun t ht => (P t ht).2.2.2.2.1) (by omega), fun c4 => ?_⟩
  refine ⟨by omega, by omega, sze 4 0 2, by omega, by omega, by omega, sze 4 3 5, by omega, by omega, sze 4 6 _, wrap_in64 _, fun c => readDate_no fun t ht => c ?_, fun c => readDate_yes (date_back (Classical.not_not.1 c1) (Classical.not_not.1 c))⟩
  have e := (P t ht).2.2.2.2.2
  exact (congrArg mShowDate e).trans ht.2.2

end Go.Ev
end

section
/- Library functions: strings.Split as a contract of the small machine. -/
set_option linter.unusedVariables false
namespace Go.Ev
open Go.RowKit
def splitCt (e : TypeId) (f : FuncId) : Ct := { f, ps := [.v false .ro [.str], .v false .ro [.str]], rs := [(false, [.list e [.str]])], shared := false, pre := fun (x : S × S) => pSplit x.1 x.2, F := fun (x : S × S) => mSplit x.1 x.2 }
theorem split_row {w : World} {e : TypeId} {T : Nat → Prop} {xs : List ByteArray} {c : Nat → Option Nat} (hl : xs.length ≤ maxLen) (hc : c w.heap.size = some 0) :
    resR T c (w.alloc (.cells (xs.map Value.string).toArray e)) false [(false, [.list e [.str]])] (xs : caps [[L.list e [.str]]]) 0 [.slice (some ⟨w.heap.size, 0, none⟩) xs.length xs.length] := by
  simp only [resR]
  refine ⟨_, _, [.slice (some ⟨w.heap.size, 0, none⟩) xs.length xs.length], rfl, ?_, .inr rfl, rfl⟩
  simp only [outR]
  refine ⟨_, _, rfl, ?_, rfl⟩
  rw [if_neg (by decide)]
  unfold repL
  refine ⟨xs.map Value.string, ?_, ?_, ?_⟩
  · unfold regRow
    rw [if_pos (by simp)]
    refine Or.inr ⟨w.heap.size, xs.length, (xs.map Value.string).toArray, (0, 0), rfl, by unfold colOf; rw [hc]; rfl, heap_alloc_new w _, Nat.le_refl _, hl, by simp, ?_, fun _ => rfl, .inl rfl⟩
    show ((xs.map Value.string).toArray.toList).take (xs.length * 1) = xs.map Value.string
    simp only [Nat.mul_one]
    exact List.take_of_length_le (by simp)
  · show (xs.map Value.string).length = xs.length * 1
    simp
  · intro i x hx
    have hx' : xs[i]? = some x := hx
    have hi : i < xs.length := by
      rcases Nat.lt_or_ge i xs.length with h | h
      · exact h
      · rw [List.getElem?_eq_none h] at hx'; cases hx'
    refine repLs_cons.2 ⟨.string x, [], ?_, rfl, rfl⟩
    rw [List.getElem?_eq_getElem hi] at hx'
    injection hx' with hx'
    have h1 : ((xs.map Value.string).drop i).take 1 = [.string x] := by
      rw [List.drop_eq_getElem_cons (by simpa using hi)]
      simp [hx']
    simpa using h1
theorem split_ct {P : Program} {f : FuncId} {w : World} {e : TypeId} (hf : FnIs P f)
    (hI : ∀ s sep : ByteArray, s.size < 4294967281 → 1 ≤ sep.size → Calls P f #[.string s, .string sep] w fun r w' => r = .returned (.slice (some ⟨w.heap.size, 0, none⟩) (Lib.countB s sep + 1) (Lib.countB s sep + 1)) ∧ w' = w.alloc (.cells ((Lib.splitB sep 0 (Lib.countB s sep) s).map Value.string).toArray e)) :
    CtAt P (splitCt e f) w := by
  intro vals x S hSS ha hp
  obtain ⟨v, vs', hv, h1, h2⟩ := args_v ha
  obtain ⟨v2, vs2, hv2, h3, h4⟩ := args_v h2
  have h4 := args_e h4
  subst h4; subst hv2
  have h1 : v = .string x.1 := h1
  have h3 : v2 = .string x.2 := h3
  subst h1; subst h3
  obtain ⟨hp1, hp2⟩ := (hp : sm x.1 ∧ x.2 = lit [32])
  unfold sm at hp1
  have hsz : x.2.size = 1 := by rw [hp2]; rfl
  refine ⟨hf, ?_⟩
  show Calls P f vals w _
  rw [arr_of hv]
  refine (hI x.1 x.2 (by omega) (by omega)).mono fun r w' ⟨he, hw⟩ => ?_
  have hl : (mSplit x.1 x.2).length = Lib.countB x.1 x.2 + 1 := Lib.splitB_all x.2 (by omega) 0 _ x.1 rfl
  have hle := Lib.countB_le x.2 (by omega) x.1.size x.1 (Nat.le_refl _)
  refine ⟨[.slice (some ⟨w.heap.size, 0, none⟩) (Lib.countB x.1 x.2 + 1) (Lib.countB x.1 x.2 + 1)], _, fun b => if b = w.heap.size then some 0 else none, he, ?_, Or.inl rfl, ?_, ?_⟩
  · rw [hw]
    exact (Below.refl _ w).alloc (Nat.le_refl _) _
  · intro b hb
    by_cases hbe : b = w.heap.size
    · subst hbe
      rw [hw]
      exact ⟨Nat.le_refl _, by have := heap_alloc_new w (.cells ((Lib.splitB x.2 0 (Lib.countB x.1 x.2) x.1).map Value.string).toArray e); rcases Nat.lt_or_ge w.heap.size (w.alloc (.cells ((Lib.splitB x.2 0 (Lib.countB x.1 x.2) x.1).map Value.string).toArray e)).heap.size with h | h; exact h; rw [Array.getElem?_eq_none h] at this; cases this⟩
    · simp only [if_neg hbe] at hb
      exact absurd rfl hb
  · rw [← hl, hw]
    exact split_row (by show (mSplit x.1 x.2).length ≤ maxLen; exact Nat.le_trans (Nat.le_of_eq hl) (by simp only [maxLen]; omega)) (by simp)
end Go.Ev
end

section
/- The plain library: what a cache's functions compute. -/
set_option linter.unusedVariables false
namespace Go.Ev
end Go.Ev
end

section
/- What functions of caches come to: printed by a program of this session's own (EwShow) out of the small machine. -/
set_option linter.unusedVariables false
namespace Go.Ev

end Go.Ev
end

section
/- Laws of the plain library: the origin. -/
set_option linter.unusedVariables false
namespace Go.Ev
end Go.Ev
end

section
/- Laws of the plain library: shards. -/
set_option linter.unusedVariables false
namespace Go.Ev
end Go.Ev
end

section
/- Laws of the plain library: caches; what is found in a shard. -/
set_option linter.unusedVariables false
namespace Go.Ev
end Go.Ev
end

section
/- impl.Lower: what its walk needs. -/
set_option linter.unusedVariables false
namespace Go.Ev
open Go Go.RowKit
def LowW (B : Nat) (s : S) (i : Nat) (w w' : World) : Prop :=
  Below B w w' ∧ ∀ j, j < s.size → w'.cell? ⟨B, j, none⟩ = some (.int .u8 (((if j < i then lowB (bs s)[j]! else (bs s)[j]!).toNat : Nat) : Int)) ∧ w'.frozen? ⟨B, j, none⟩ = false
theorem LowW.next {B i : Nat} {s : S} {w w' : World} (h : LowW B s i w w') (hi : i < s.size) {v : Int} (hv : v = ((lowB (bs s)[i]!).toNat : Int)) : LowW B s (i + 1) w (w'.setCell ⟨B, i, none⟩ (.int .u8 v)) := by
  refine ⟨h.1.setCell (Nat.le_refl _) _, fun j hj => ?_⟩
  by_cases e : j = i
  · subst e
    rw [World.cell?_setCell_same _ _ _ (h.2 j hj).1, hv, if_pos (by omega)]
    exact ⟨rfl, by rw [World.frozen?_setCell]; exact (h.2 j hj).2⟩
  · rw [World.cell?_setCell_other _ _ _ _ (by simp [e]), World.frozen?_setCell, (h.2 j hj).1]
    exact ⟨by simp only [show (j < i + 1) ↔ (j < i) by omega], (h.2 j hj).2⟩
theorem LowW.skip {B i : Nat} {s : S} {w w' : World} (h : LowW B s i w w') (hi : i < s.size) (hv : lowB (bs s)[i]! = (bs s)[i]!) : LowW B s (i + 1) w w' := by
  refine ⟨h.1, fun j hj => ?_⟩
  by_cases e : j = i
  · subst e
    have := h.2 j hj
    rw [if_neg (by omega)] at this
    rw [if_pos (by omega), hv]; exact this
  · rw [(h.2 j hj).1]
    exact ⟨by simp only [show (j < i + 1) ↔ (j < i) by omega], (h.2 j hj).2⟩
end Go.Ev
namespace Go.Ev
open Go.RowKit
end Go.Ev
end

section
/- impl.ReadDec: its contract, out of a walk. -/
set_option linter.unusedVariables false
namespace Go.Ev
open Go.RowKit
end Go.Ev
end

section
set_option linter.unusedVariables false
namespace Go.Proofs.YtlkhfjhnpedabaaGreatDoor.ApN
open Go Go.Ev Go.Proofs Go.RowKit
abbrev ls3 : List L := [.int .i64]
abbrev ls4 : List L := [.bool]
abbrev ls5 : List L := [.int .u8]
abbrev ls9 : List L := [.str]
abbrev ls38 : List L := [.list 123 [.str, .str]]
abbrev ls40 : List L := [.str, .str, .list 123 [.str, .str], .str]
abbrev ls48 : List L := [.list 126 [.str, .str]]
abbrev ls50 : List L := [.str, .str, .list 126 [.str, .str], .str]
abbrev ls95 : List L := [.list 9 [.str]]
abbrev ls123 : List L := [.str, .str]
abbrev ls126 : List L := [.str, .str]
abbrev ls133 : List L := [.list 3 [.int .i64]]
def tt : List (Nat × TI) := [
  (2, ⟨.sc, [.int .i64]⟩),
  (3, ⟨.sc, [.int .i64]⟩),
  (4, ⟨.sc, [.bool]⟩),
  (5, ⟨.sc, [.int .u8]⟩),
  (6, ⟨.sc, [.int .u8]⟩),
  (7, ⟨.st [(0, [.int .i64]), (1, [.int .i64]), (2, [.bool]), (3, [.int .u8])], [.int .i64, .int .i64, .bool, .int .u8]⟩),
  (8, ⟨.st [(0, [.int .i64]), (1, [.int .i64]), (2, [.bool]), (3, [.int .u8])], [.int .i64, .int .i64, .bool, .int .u8]⟩),
  (9, ⟨.sc, [.str]⟩),
  (10, ⟨.sc, [.str]⟩),
  (11, ⟨.sc, [.str]⟩),
  (12, ⟨.sc, [.int .u64]⟩),
  (13, ⟨.st [(0, [.str]), (1, [.int .u64])], [.str, .int .u64]⟩),
  (14, ⟨.st [(0, [.str]), (1, [.int .u64])], [.str, .int .u64]⟩),
  (21, ⟨.sc, [.int .i32]⟩),
  (22, ⟨.sl 37 [.int .i64, .int .i64, .list 120 [.str, .list 123 [.str, .str], .int .i64, .list 123 [.str, .str], .str, .int .i64, .int .i64, .bool], .int .i64] 48, [.list 37 [.int .i64, .int .i64, .list 120 [.str, .list 123 [.str, .str], .int .i64, .list 123 [.str, .str], .str, .int .i64, .int .i64, .bool], .int .i64]]⟩),
  (23, ⟨.sl 106 [.str, .int .i64] 24, [.list 106 [.str, .int .i64]]⟩),
  (24, ⟨.st [(0, [.list 37 [.int .i64, .int .i64, .list 120 [.str, .list 123 [.str, .str], .int .i64, .list 123 [.str, .str], .str, .int .i64, .int .i64, .bool], .int .i64]]), (1, [.list 106 [.str, .int .i64]])], [.list 37 [.int .i64, .int .i64, .list 120 [.str, .list 123 [.str, .str], .int .i64, .list 123 [.str, .str], .str, .int .i64, .int .i64, .bool], .int .i64], .list 106 [.str, .int .i64]]⟩),
  (25, ⟨.st [(0, [.list 37 [.int .i64, .int .i64, .list 120 [.str, .list 123 [.str, .str], .int .i64, .list 123 [.str, .str], .str, .int .i64, .int .i64, .bool], .int .i64]]), (1, [.list 106 [.str, .int .i64]])], [.list 37 [.int .i64, .int .i64, .list 120 [.str, .list 123 [.str, .str], .int .i64, .list 123 [.str, .str], .str, .int .i64, .int .i64, .bool], .int .i64], .list 106 [.str, .int .i64]]⟩),
  (28, ⟨.sl 46 [.int .i64, .int .i64, .list 76 [.str, .list 126 [.str, .str], .int .i64, .list 126 [.str, .str], .str, .int .i64, .int .i64, .bool], .int .i64] 48, [.list 46 [.int .i64, .int .i64, .list 76 [.str, .list 126 [.str, .str], .int .i64, .list 126 [.str, .str], .str, .int .i64, .int .i64, .bool], .int .i64]]⟩),
  (29, ⟨.sl 79 [.str, .int .i64] 24, [.list 79 [.str, .int .i64]]⟩),
  (30, ⟨.st [(0, [.list 46 [.int .i64, .int .i64, .list 76 [.str, .list 126 [.str, .str], .int .i64, .list 126 [.str, .str], .str, .int .i64, .int .i64, .bool], .int .i64]]), (1, [.list 79 [.str, .int .i64]])], [.list 46 [.int .i64, .int .i64, .list 76 [.str, .list 126 [.str, .str], .int .i64, .list 126 [.str, .str], .str, .int .i64, .int .i64, .bool], .int .i64], .list 79 [.str, .int .i64]]⟩),
  (31, ⟨.st [(0, [.list 46 [.int .i64, .int .i64, .list 76 [.str, .list 126 [.str, .str], .int .i64, .list 126 [.str, .str], .str, .int .i64, .int .i64, .bool], .int .i64]]), (1, [.list 79 [.str, .int .i64]])], [.list 46 [.int .i64, .int .i64, .list 76 [.str, .list 126 [.str, .str], .int .i64, .list 126 [.str, .str], .str, .int .i64, .int .i64, .bool], .int .i64], .list 79 [.str, .int .i64]]⟩),
  (35, ⟨.sl 120 [.str, .list 123 [.str, .str], .int .i64, .list 123 [.str, .str], .str, .int .i64, .int .i64, .bool] 112, [.list 120 [.str, .list 123 [.str, .str], .int .i64, .list 123 [.str, .str], .str, .int .i64, .int .i64, .bool]]⟩),
  (36, ⟨.st [(0, [.int .i64]), (1, [.int .i64]), (2, [.list 120 [.str, .list 123 [.str, .str], .int .i64, .list 123 [.str, .str], .str, .int .i64, .int .i64, .bool]]), (3, [.int .i64])], [.int .i64, .int .i64, .list 120 [.str, .list 123 [.str, .str], .int .i64, .list 123 [.str, .str], .str, .int .i64, .int .i64, .bool], .int .i64]⟩),
  (37, ⟨.st [(0, [.int .i64]), (1, [.int .i64]), (2, [.list 120 [.str, .list 123 [.str, .str], .int .i64, .list 123 [.str, .str], .str, .int .i64, .int .i64, .bool]]), (3, [.int .i64])], [.int .i64, .int .i64, .list 120 [.str, .list 123 [.str, .str], .int .i64, .list 123 [.str, .str], .str, .int .i64, .int .i64, .bool], .int .i64]⟩),
  (38, ⟨.sl 123 [.str, .str] 32, [.list 123 [.str, .str]]⟩),
  (39, ⟨.st [(0, [.str]), (1, [.str]), (2, [.list 123 [.str, .str]]), (3, [.str])], [.str, .str, .list 123 [.str, .str], .str]⟩),
  (40, ⟨.st [(0, [.str]), (1, [.str]), (2, [.list 123 [.str, .str]]), (3, [.str])], [.str, .str, .list 123 [.str, .str], .str]⟩),
  (44, ⟨.sl 76 [.str, .list 126 [.str, .str], .int .i64, .list 126 [.str, .str], .str, .int .i64, .int .i64, .bool] 112, [.list 76 [.str, .list 126 [.str, .str], .int .i64, .list 126 [.str, .str], .str, .int .i64, .int .i64, .bool]]⟩),
  (45, ⟨.st [(0, [.int .i64]), (1, [.int .i64]), (2, [.list 76 [.str, .list 126 [.str, .str], .int .i64, .list 126 [.str, .str], .str, .int .i64, .int .i64, .bool]]), (3, [.int .i64])], [.int .i64, .int .i64, .list 76 [.str, .list 126 [.str, .str], .int .i64, .list 126 [.str, .str], .str, .int .i64, .int .i64, .bool], .int .i64]⟩),
  (46, ⟨.st [(0, [.int .i64]), (1, [.int .i64]), (2, [.list 76 [.str, .list 126 [.str, .str], .int .i64, .list 126 [.str, .str], .str, .int .i64, .int .i64, .bool]]), (3, [.int .i64])], [.int .i64, .int .i64, .list 76 [.str, .list 126 [.str, .str], .int .i64, .list 126 [.str, .str], .str, .int .i64, .int .i64, .bool], .int .i64]⟩),
  (48, ⟨.sl 126 [.str, .str] 32, [.list 126 [.str, .str]]⟩),
  (49, ⟨.st [(0, [.str]), (1, [.str]), (2, [.list 126 [.str, .str]]), (3, [.str])], [.str, .str, .list 126 [.str, .str], .str]⟩),
  (50, ⟨.st [(0, [.str]), (1, [.str]), (2, [.list 126 [.str, .str]]), (3, [.str])], [.str, .str, .list 126 [.str, .str], .str]⟩),
  (57, ⟨.st [(0, [.int .i64]), (1, [.list 123 [.str, .str]]), (2, [.str])], [.int .i64, .list 123 [.str, .str], .str]⟩),
  (58, ⟨.st [(0, [.int .i64]), (1, [.list 123 [.str, .str]]), (2, [.str])], [.int .i64, .list 123 [.str, .str], .str]⟩),
  (61, ⟨.st [(0, [.int .i64]), (1, [.list 126 [.str, .str]]), (2, [.str])], [.int .i64, .list 126 [.str, .str], .str]⟩),
  (62, ⟨.st [(0, [.int .i64]), (1, [.list 126 [.str, .str]]), (2, [.str])], [.int .i64, .list 126 [.str, .str], .str]⟩),
  (73, ⟨.st [(0, [.str]), (1, [.list 126 [.str, .str]]), (2, [.int .i64, .list 126 [.str, .str], .str]), (5, [.int .i64]), (6, [.int .i64])], [.str, .list 126 [.str, .str], .int .i64, .list 126 [.str, .str], .str, .int .i64, .int .i64]⟩),
  (74, ⟨.st [(0, [.str]), (1, [.list 126 [.str, .str]]), (2, [.int .i64, .list 126 [.str, .str], .str]), (5, [.int .i64]), (6, [.int .i64])], [.str, .list 126 [.str, .str], .int .i64, .list 126 [.str, .str], .str, .int .i64, .int .i64]⟩),
  (75, ⟨.st [(0, [.str, .list 126 [.str, .str], .int .i64, .list 126 [.str, .str], .str, .int .i64, .int .i64]), (7, [.bool])], [.str, .list 126 [.str, .str], .int .i64, .list 126 [.str, .str], .str, .int .i64, .int .i64, .bool]⟩),
  (76, ⟨.st [(0, [.str, .list 126 [.str, .str], .int .i64, .list 126 [.str, .str], .str, .int .i64, .int .i64]), (7, [.bool])], [.str, .list 126 [.str, .str], .int .i64, .list 126 [.str, .str], .str, .int .i64, .int .i64, .bool]⟩),
  (78, ⟨.st [(0, [.str]), (1, [.int .i64])], [.str, .int .i64]⟩),
  (79, ⟨.st [(0, [.str]), (1, [.int .i64])], [.str, .int .i64]⟩),
  (95, ⟨.sl 9 [.str] 16, [.list 9 [.str]]⟩),
  (106, ⟨.st [(0, [.str]), (1, [.int .i64])], [.str, .int .i64]⟩),
  (117, ⟨.st [(0, [.str]), (1, [.list 123 [.str, .str]]), (2, [.int .i64, .list 123 [.str, .str], .str]), (5, [.int .i64]), (6, [.int .i64])], [.str, .list 123 [.str, .str], .int .i64, .list 123 [.str, .str], .str, .int .i64, .int .i64]⟩),
  (118, ⟨.st [(0, [.str]), (1, [.list 123 [.str, .str]]), (2, [.int .i64, .list 123 [.str, .str], .str]), (5, [.int .i64]), (6, [.int .i64])], [.str, .list 123 [.str, .str], .int .i64, .list 123 [.str, .str], .str, .int .i64, .int .i64]⟩),
  (119, ⟨.st [(0, [.str, .list 123 [.str, .str], .int .i64, .list 123 [.str, .str], .str, .int .i64, .int .i64]), (7, [.bool])], [.str, .list 123 [.str, .str], .int .i64, .list 123 [.str, .str], .str, .int .i64, .int .i64, .bool]⟩),
  (120, ⟨.st [(0, [.str, .list 123 [.str, .str], .int .i64, .list 123 [.str, .str], .str, .int .i64, .int .i64]), (7, [.bool])], [.str, .list 123 [.str, .str], .int .i64, .list 123 [.str, .str], .str, .int .i64, .int .i64, .bool]⟩),
  (122, ⟨.st [(0, [.str]), (1, [.str])], [.str, .str]⟩),
  (123, ⟨.st [(0, [.str]), (1, [.str])], [.str, .str]⟩),
  (126, ⟨.st [(0, [.str]), (1, [.str])], [.str, .str]⟩),
  (133, ⟨.sl 3 [.int .i64] 8, [.list 3 [.int .i64]]⟩),
  (137, ⟨.sl 139 [.str, .str] 32, [.list 139 [.str, .str]]⟩),
  (139, ⟨.st [(0, [.str]), (1, [.str])], [.str, .str]⟩),
  (152, ⟨.sl 5 [.int .u8] 1, [.list 5 [.int .u8]]⟩),
  (192, ⟨.sc, [.int .i64]⟩),
  (202, ⟨.sc, [.int .u64]⟩),
  (203, ⟨.sc, [.int .u64]⟩),
  (211, ⟨.st [(0, [.int .u8]), (1, [.int .u8])], [.int .u8, .int .u8]⟩),
  (212, ⟨.st [(0, [.int .u8]), (1, [.int .u8])], [.int .u8, .int .u8]⟩),
  (220, ⟨.sc, [.int .u32]⟩),
  (225, ⟨.st [(0, [.str])], [.str]⟩),
  (226, ⟨.st [(0, [.str])], [.str]⟩),
  (240, ⟨.sc, [.int .u8]⟩),
  (241, ⟨.sc, [.int .u8]⟩),
  (243, ⟨.sc, [.int .i32]⟩),
  (244, ⟨.sc, [.int .i32]⟩)]
theorem ttOk : ttB Tryz.prog tt = true := by kernel_rfl
theorem mixOk : Tryz.prog.follows .mixedOrders = true := by kernel_rfl
def J (w : World) : Prop := Lib.TabIs Tryz.prog w "internal/strconv.uint64pow10" .u64 Lib.pow10Tab ∧ ErrAt 1 w ∧ ErrAt 2 w ∧ NumAt 0 w ∧ True
theorem J_below {w w' : World} (h : J w) (hb : Below w.heap.size w w') : J w' := ⟨tab_below h.1 hb, errAt_below h.2.1 hb, errAt_below h.2.2.1 hb, numAt_below h.2.2.2.1 hb, trivial⟩
noncomputable def E89 : Env := { tt, eqs := [], cts := [] }
theorem ok89 : EnvOk Tryz.prog E89 := ⟨ttOk, by kernel_rfl, rfl, mixOk⟩
theorem cs89 (w0 : World) (hJ : J w0) : EnvCts Tryz.prog E89 w0 w0.heap.size := by
  refine ⟨fun c hc => ?_, fun c hc => ?_⟩
  · cases hc
  · cases hc
noncomputable def ct89 : Ct := { f := 89, ps := [.v true .ro ls123, .v false .ro [.int .i64]], rs := [(false, [.int .i64])], shared := false, pre := fun (q : Fld × Int) => pSz q.1 q.2, F := fun (q : Fld × Int) => szF q.1 q.2 }
def st89 : List (SzStep Fld) := [.str (fun x : Fld => x.1), .str (fun x : Fld => x.2)]
theorem c89 (x : Fld) : szSum x st89 = cz x := by
  simp only [szSum, st89, cz_pair, cz_int, cz_bool, cz_str]
  all_goals omega
theorem w89 (x : Fld) (h : wd x) : szFine x st89 := by
  first | simp only [wd_pair] at h | skip
  simp only [szFine, st89, wd_pair, wf_wd]
  simp only [h, and_self]
theorem law89 : ∀ q : Fld × Int, pSz q.1 q.2 → szSt q.1 st89 q.2 (fun r => r = szF q.1 q.2) := fun q hq => szSt_holds q.1 st89 q.2 _ (w89 q.1 hq.1) hq.2.1 hq.2.2 (c89 q.1)
theorem all89 (w : World) (hJ : J w) : CtAt Tryz.prog ct89 w :=
  ct_by ok89 (cs89 w hJ) Tryz.func89 (by kernel_rfl) (H := (hint [])) law89 (by kernel_rfl)
noncomputable def E47 : Env := { tt, eqs := [], cts := [ct89] }
theorem ok47 : EnvOk Tryz.prog E47 := ⟨ttOk, by kernel_rfl, rfl, mixOk⟩
theorem cs47 (w0 : World) (hJ : J w0) : EnvCts Tryz.prog E47 w0 w0.heap.size := by
  refine ⟨fun c hc => ?_, fun c hc => ?_⟩
  · rcases List.mem_cons.1 hc with rfl | hc
    · exact fun w hb => all89 w (J_below hJ hb)
    cases hc
  · cases hc
noncomputable def ct47 : Ct := { f := 47, ps := [.v false .ro ls38, .v false .ro [.int .i64]], rs := [(false, [.int .i64])], shared := false, pre := fun (q : (List Fld) × Int) => pSz q.1 q.2, F := fun (q : (List Fld) × Int) => szF q.1 q.2 }
theorem law47 : ∀ q : (List Fld) × Int, pSz q.1 q.2 → szS (α := Fld) Dft.dft (fun y k => pSz y k) (fun y k => szF y k) q.1 q.2 (fun r => r = szF q.1 q.2) := fun q hq => szS_holds (α := Fld) Dft.dft cz wd q.1 q.2 hq.1.1 hq.1.2 hq.2.1 hq.2.2
theorem all47 (w : World) (hJ : J w) : CtAt Tryz.prog ct47 w :=
  ct_by ok47 (cs47 w hJ) Tryz.func47 (by kernel_rfl) (H := (hint [(5, [.val 1 (.int .i64), .val 5 (.int .i64)])])) law47 (by kernel_rfl)
noncomputable def E14 : Env := { tt, eqs := [], cts := [ct47] }
theorem ok14 : EnvOk Tryz.prog E14 := ⟨ttOk, by kernel_rfl, rfl, mixOk⟩
theorem cs14 (w0 : World) (hJ : J w0) : EnvCts Tryz.prog E14 w0 w0.heap.size := by
  refine ⟨fun c hc => ?_, fun c hc => ?_⟩
  · rcases List.mem_cons.1 hc with rfl | hc
    · exact fun w hb => all47 w (J_below hJ hb)
    cases hc
  · cases hc
noncomputable def ct14 : Ct := { f := 14, ps := [.v true .ro ls40, .v false .ro [.int .i64]], rs := [(false, [.int .i64])], shared := false, pre := fun (q : Req × Int) => pSz q.1 q.2, F := fun (q : Req × Int) => szF q.1 q.2 }
def st14 : List (SzStep Req) := [.str (fun x : Req => x.1), .str (fun x : Req => x.2.1), .call (fun x : Req => wd (x.2.2.1 : (List Fld))) (fun x : Req => cz (x.2.2.1 : (List Fld))), .str (fun x : Req => x.2.2.2)]
theorem c14 (x : Req) : szSum x st14 = cz x := by
  simp only [szSum, st14, cz_pair, cz_int, cz_bool, cz_str]
  all_goals omega
theorem w14 (x : Req) (h : wd x) : szFine x st14 := by
  first | simp only [wd_pair] at h | skip
  simp only [szFine, st14, wd_pair, wf_wd]
  simp only [h, and_self]
theorem law14 : ∀ q : Req × Int, pSz q.1 q.2 → szSt q.1 st14 q.2 (fun r => r = szF q.1 q.2) := fun q hq => szSt_holds q.1 st14 q.2 _ (w14 q.1 hq.1) hq.2.1 hq.2.2 (c14 q.1)
theorem all14 (w : World) (hJ : J w) : CtAt Tryz.prog ct14 w :=
  ct_by ok14 (cs14 w hJ) Tryz.func14 (by kernel_rfl) (H := (hint [])) law14 (by kernel_rfl)
noncomputable def E93 : Env := { tt, eqs := [], cts := [] }
theorem ok93 : EnvOk Tryz.prog E93 := ⟨ttOk, by kernel_rfl, rfl, mixOk⟩
theorem cs93 (w0 : World) (hJ : J w0) : EnvCts Tryz.prog E93 w0 w0.heap.size := by
  refine ⟨fun c hc => ?_, fun c hc => ?_⟩
  · cases hc
  · cases hc
noncomputable def ct93 : Ct := { f := 93, ps := [.v true .ro ls123], rs := [(true, ls126)], shared := false, pre := fun (x : Fld) => pTo x, F := fun (x : Fld) => toF x }
theorem law93 : ∀ q : Fld, pTo q → conj [] (q = toF q) := fun q hq => rfl
theorem all93 (w : World) (hJ : J w) : CtAt Tryz.prog ct93 w :=
  ct_by ok93 (cs93 w hJ) Tryz.func93 (by kernel_rfl) (H := (hint [])) law93 (by kernel_rfl)
noncomputable def E50 : Env := { tt, eqs := [], cts := [ct93] }
theorem ok50 : EnvOk Tryz.prog E50 := ⟨ttOk, by kernel_rfl, rfl, mixOk⟩
theorem cs50 (w0 : World) (hJ : J w0) : EnvCts Tryz.prog E50 w0 w0.heap.size := by
  refine ⟨fun c hc => ?_, fun c hc => ?_⟩
  · rcases List.mem_cons.1 hc with rfl | hc
    · exact fun w hb => all93 w (J_below hJ hb)
    cases hc
  · cases hc
noncomputable def ct50 : Ct := { f := 50, ps := [.v false .ro ls38], rs := [(false, ls48)], shared := false, pre := fun (x : (List Fld)) => pTo x, F := fun (x : (List Fld)) => toF x }
theorem law50 : ∀ q : (List Fld), pTo q → toS (α := Fld) Dft.dft 32 (fun y => pTo y) q (fun r => r = toF q) := fun q hq => toS_holds (α := Fld) Dft.dft 32 (fun y => pTo y) q (md_len' hq) (by omega) (fun i a h => md_mem hq (List.mem_of_getElem? h)) rfl
theorem all50 (w : World) (hJ : J w) : CtAt Tryz.prog ct50 w :=
  ct_by ok50 (cs50 w hJ) Tryz.func50 (by kernel_rfl) (H := (hint [(3, [.reg 3 126 ls126 true, .val 4 (.int .i64)])])) law50 (by kernel_rfl)
noncomputable def E17 : Env := { tt, eqs := [], cts := [ct50] }
theorem ok17 : EnvOk Tryz.prog E17 := ⟨ttOk, by kernel_rfl, rfl, mixOk⟩
theorem cs17 (w0 : World) (hJ : J w0) : EnvCts Tryz.prog E17 w0 w0.heap.size := by
  refine ⟨fun c hc => ?_, fun c hc => ?_⟩
  · rcases List.mem_cons.1 hc with rfl | hc
    · exact fun w hb => all50 w (J_below hJ hb)
    cases hc
  · cases hc
noncomputable def ct17 : Ct := { f := 17, ps := [.v true .ro ls40], rs := [(true, ls50)], shared := false, pre := fun (x : Req) => pTo x, F := fun (x : Req) => toF x }
theorem law17 : ∀ q : Req, pTo q → conj [pTo (q.2.2.1 : (List Fld))] (q = toF q) := fun q hq => ⟨(czh (czt (czt hq))), rfl⟩
theorem all17 (w : World) (hJ : J w) : CtAt Tryz.prog ct17 w :=
  ct_by ok17 (cs17 w hJ) Tryz.func17 (by kernel_rfl) (H := (hint [])) law17 (by kernel_rfl)
noncomputable def E54 : Env := { tt, eqs := [], cts := [] }
theorem ok54 : EnvOk Tryz.prog E54 := ⟨ttOk, by kernel_rfl, rfl, mixOk⟩
theorem cs54 (w0 : World) (hJ : J w0) : EnvCts Tryz.prog E54 w0 w0.heap.size := by
  refine ⟨fun c hc => ?_, fun c hc => ?_⟩
  · cases hc
  · cases hc
noncomputable def ct54 : Ct := { f := 54, ps := [.v false .ro ls48, .v false .ro ls9], rs := [(false, ls9), (false, ls4)], shared := false, pre := fun (x : (List Fld) × S) => pFieldGet x.1 x.2, F := fun (x : (List Fld) × S) => mFieldGet x.1 x.2 }
theorem law54 : ∀ x : (List Fld) × S, pFieldGet x.1 x.2 → s_spec_FieldGet x.1 x.2 (fun r => r = mFieldGet x.1 x.2) := fun x h => spec_FieldGet_ok x.1 x.2 h
theorem all54 (w : World) (hJ : J w) : CtAt Tryz.prog ct54 w :=
  ct_by ok54 (cs54 w hJ) Tryz.func54 (by kernel_rfl) (H := (hint [(4, [.val 6 (.str), .val 7 (.bool), .val 8 (.int .i64)])])) law54 (by kernel_rfl)
noncomputable def E127 : Env := { tt, eqs := [], cts := [] }
theorem ok127 : EnvOk Tryz.prog E127 := ⟨ttOk, by kernel_rfl, rfl, mixOk⟩
theorem cs127 (w0 : World) (hJ : J w0) : EnvCts Tryz.prog E127 w0 w0.heap.size := by
  refine ⟨fun c hc => ?_, fun c hc => ?_⟩
  · cases hc
  · cases hc
noncomputable def ct127 : Ct := { f := 127, ps := [.v false .ro ls5], rs := [(false, ls4)], shared := false, pre := fun (x : Int) => pBlank x, F := fun (x : Int) => mBlank x }
theorem law127 : ∀ x : Int, pBlank x → s_spec_l2Blank x (fun r => r = mBlank x) := fun x _ => spec_l2Blank_ok x
theorem all127 (w : World) (hJ : J w) : CtAt Tryz.prog ct127 w :=
  ct_by ok127 (cs127 w hJ) Tryz.func127 (by kernel_rfl) (H := (hint [])) law127 (by kernel_rfl)
noncomputable def E98 : Env := { tt, eqs := [], cts := [ct127] }
theorem ok98 : EnvOk Tryz.prog E98 := ⟨ttOk, by kernel_rfl, rfl, mixOk⟩
theorem cs98 (w0 : World) (hJ : J w0) : EnvCts Tryz.prog E98 w0 w0.heap.size := by
  refine ⟨fun c hc => ?_, fun c hc => ?_⟩
  · rcases List.mem_cons.1 hc with rfl | hc
    · exact fun w hb => all127 w (J_below hJ hb)
    cases hc
  · cases hc
noncomputable def ct98 : Ct := { f := 98, ps := [.v false .ro ls9], rs := [(false, ls9)], shared := false, pre := fun (x : S) => pTrim x, F := fun (x : S) => mTrim x }
theorem law98 : ∀ x : S, pTrim x → s_spec_Trim x (fun r => r = mTrim x) := fun x h => spec_Trim_ok x h
theorem all98 (w : World) (hJ : J w) : CtAt Tryz.prog ct98 w :=
  ct_by ok98 (cs98 w hJ) Tryz.func98 (by kernel_rfl) (H := (hint [(1, [.val 0 (.str)]), (3, [.val 0 (.str)])])) law98 (by kernel_rfl)
noncomputable def E55 : Env := { tt, eqs := [], cts := [ct98] }
theorem ok55 : EnvOk Tryz.prog E55 := ⟨ttOk, by kernel_rfl, rfl, mixOk⟩
theorem cs55 (w0 : World) (hJ : J w0) : EnvCts Tryz.prog E55 w0 w0.heap.size := by
  refine ⟨fun c hc => ?_, fun c hc => ?_⟩
  · rcases List.mem_cons.1 hc with rfl | hc
    · exact fun w hb => all98 w (J_below hJ hb)
    cases hc
  · cases hc
noncomputable def ct55 : Ct := { f := 55, ps := [.v false .ro ls9], rs := [(false, ls95)], shared := false, pre := fun (x : S) => pSplitList x, F := fun (x : S) => mSplitList x }
theorem law55 : ∀ x : S, pSplitList x → s_spec_SplitList x (fun r => r = mSplitList x) := fun x h => spec_SplitList_ok x h
theorem all55 (w : World) (hJ : J w) : CtAt Tryz.prog ct55 w :=
  ct_by ok55 (cs55 w hJ) Tryz.func55 (by kernel_rfl) (H := (hint [(5, [.reg 3 9 [.str] true, .val 4 (.int .i64), .val 5 (.bool), .val 6 (.int .i64)])])) law55 (by kernel_rfl)
noncomputable def E56 : Env := { tt, eqs := [], cts := [] }
theorem ok56 : EnvOk Tryz.prog E56 := ⟨ttOk, by kernel_rfl, rfl, mixOk⟩
theorem cs56 (w0 : World) (hJ : J w0) : EnvCts Tryz.prog E56 w0 w0.heap.size := by
  refine ⟨fun c hc => ?_, fun c hc => ?_⟩
  · cases hc
  · cases hc
noncomputable def ct56 : Ct := { f := 56, ps := [.v false .ro ls9], rs := [(false, ls9)], shared := false, pre := fun (x : S) => pStrong x, F := fun (x : S) => mStrong x }
theorem law56 : ∀ x : S, pStrong x → s_spec_l11Weak x (fun r => r = mStrong x) := fun x h => spec_l11Weak_ok x h
theorem all56 (w : World) (hJ : J w) : CtAt Tryz.prog ct56 w :=
  ct_by ok56 (cs56 w hJ) Tryz.func56 (by kernel_rfl) (H := (hint [])) law56 (by kernel_rfl)
noncomputable def E129 : Env := { tt, eqs := [], cts := [] }
theorem ok129 : EnvOk Tryz.prog E129 := ⟨ttOk, by kernel_rfl, rfl, mixOk⟩
theorem cs129 (w0 : World) (hJ : J w0) : EnvCts Tryz.prog E129 w0 w0.heap.size := by
  refine ⟨fun c hc => ?_, fun c hc => ?_⟩
  · cases hc
  · cases hc
noncomputable def ct129 : Ct := { f := 129, ps := [.v false .ro ls9, .v false .ro ls3, .v false .ro ls3], rs := [(false, ls3)], shared := false, pre := fun (x : S × Int × Int) => pL4Num x.1 x.2.1 x.2.2, F := fun (x : S × Int × Int) => mL4Num x.1 x.2.1 x.2.2 }
theorem law129 : ∀ x : S × Int × Int, pL4Num x.1 x.2.1 x.2.2 → s_spec_l4Num x.1 x.2.1 x.2.2 (fun r => r = mL4Num x.1 x.2.1 x.2.2) := fun x h => spec_l4Num_ok x.1 x.2.1 x.2.2 h
theorem all129 (w : World) (hJ : J w) : CtAt Tryz.prog ct129 w :=
  ct_by ok129 (cs129 w hJ) Tryz.func129 (by kernel_rfl) (H := (hint [(3, [.val 7 (.int .i64), .val 8 (.int .i64)])])) law129 (by kernel_rfl)
noncomputable def E32 : Env := { tt, eqs := [], cts := [] }
theorem ok32 : EnvOk Tryz.prog E32 := ⟨ttOk, by kernel_rfl, rfl, mixOk⟩
theorem cs32 (w0 : World) (hJ : J w0) : EnvCts Tryz.prog E32 w0 w0.heap.size := by
  refine ⟨fun c hc => ?_, fun c hc => ?_⟩
  · cases hc
  · cases hc
noncomputable def ct32 : Ct := { f := 32, ps := [.v false .ro ls3, .v false .ro ls3, .v false .ro ls3], rs := [(false, ls4)], shared := false, pre := fun (x : Int × Int × Int) => pIn x.1 x.2.1 x.2.2, F := fun (x : Int × Int × Int) => mIn x.1 x.2.1 x.2.2 }
theorem law32 : ∀ x : Int × Int × Int, pIn x.1 x.2.1 x.2.2 → s_spec_l1In x.1 x.2.1 x.2.2 (fun r => r = mIn x.1 x.2.1 x.2.2) := fun x _ => spec_l1In_ok x.1 x.2.1 x.2.2
theorem all32 (w : World) (hJ : J w) : CtAt Tryz.prog ct32 w :=
  ct_by ok32 (cs32 w hJ) Tryz.func32 (by kernel_rfl) (H := (hint [])) law32 (by kernel_rfl)
noncomputable def E156 : Env := { tt, eqs := [], cts := [] }
theorem ok156 : EnvOk Tryz.prog E156 := ⟨ttOk, by kernel_rfl, rfl, mixOk⟩
theorem cs156 (w0 : World) (hJ : J w0) : EnvCts Tryz.prog E156 w0 w0.heap.size := by
  refine ⟨fun c hc => ?_, fun c hc => ?_⟩
  · cases hc
  · cases hc
noncomputable def ct156 : Ct := { f := 156, ps := [.v false .ro ls3], rs := [(false, ls4)], shared := false, pre := fun (x : Int) => pIsLeap x, F := fun (x : Int) => mIsLeap x }
theorem law156 : ∀ x : Int, pIsLeap x → s_spec_IsLeap x (fun r => r = mIsLeap x) := fun x h => spec_IsLeap_ok x h
theorem all156 (w : World) (hJ : J w) : CtAt Tryz.prog ct156 w :=
  ct_by ok156 (cs156 w hJ) Tryz.func156 (by kernel_rfl) (H := (hint [])) law156 (by kernel_rfl)
noncomputable def E155 : Env := { tt, eqs := [], cts := [ct156] }
theorem ok155 : EnvOk Tryz.prog E155 := ⟨ttOk, by kernel_rfl, rfl, mixOk⟩
theorem cs155 (w0 : World) (hJ : J w0) : EnvCts Tryz.prog E155 w0 w0.heap.size := by
  refine ⟨fun c hc => ?_, fun c hc => ?_⟩
  · rcases List.mem_cons.1 hc with rfl | hc
    · exact fun w hb => all156 w (J_below hJ hb)
    cases hc
  · cases hc
noncomputable def ct155 : Ct := { f := 155, ps := [.v false .ro ls3], rs := [(false, ls133)], shared := false, pre := fun (x : Int) => pL4Months x, F := fun (x : Int) => mL4Months x }
theorem law155 : ∀ x : Int, pL4Months x → s_spec_l4Months x (fun r => r = mL4Months x) := fun x h => spec_l4Months_ok x h
theorem all155 (w : World) (hJ : J w) : CtAt Tryz.prog ct155 w :=
  ct_by ok155 (cs155 w hJ) Tryz.func155 (by kernel_rfl) (H := (hint [])) law155 (by kernel_rfl)
noncomputable def E128 : Env := { tt, eqs := [], cts := [ct32, ct155, ct156] }
theorem ok128 : EnvOk Tryz.prog E128 := ⟨ttOk, by kernel_rfl, rfl, mixOk⟩
theorem cs128 (w0 : World) (hJ : J w0) : EnvCts Tryz.prog E128 w0 w0.heap.size := by
  refine ⟨fun c hc => ?_, fun c hc => ?_⟩
  · rcases List.mem_cons.1 hc with rfl | hc
    · exact fun w hb => all32 w (J_below hJ hb)
    rcases List.mem_cons.1 hc with rfl | hc
    · exact fun w hb => all155 w (J_below hJ hb)
    rcases List.mem_cons.1 hc with rfl | hc
    · exact fun w hb => all156 w (J_below hJ hb)
    cases hc
  · cases hc
noncomputable def ct128 : Ct := { f := 128, ps := [.v false .ro ls3, .v false .ro ls3, .v false .ro ls3], rs := [(false, ls3)], shared := false, pre := fun (x : Int × Int × Int) => pDaysOf x.1 x.2.1 x.2.2, F := fun (x : Int × Int × Int) => mDaysOf x.1 x.2.1 x.2.2 }
theorem law128 : ∀ x : Int × Int × Int, pDaysOf x.1 x.2.1 x.2.2 → s_spec_DaysOf x.1 x.2.1 x.2.2 (fun r => r = mDaysOf x.1 x.2.1 x.2.2) := fun x h => spec_DaysOf_ok x.1 x.2.1 x.2.2 h
theorem all128 (w : World) (hJ : J w) : CtAt Tryz.prog ct128 w :=
  ct_by ok128 (cs128 w hJ) Tryz.func128 (by kernel_rfl) (H := (hint [(5, [.val 7 (.int .i64), .val 8 (.int .i64)]), (11, [.val 7 (.int .i64), .val 9 (.int .i64)])])) law128 (by kernel_rfl)
noncomputable def E157 : Env := { tt, eqs := [], cts := [] }
theorem ok157 : EnvOk Tryz.prog E157 := ⟨ttOk, by kernel_rfl, rfl, mixOk⟩
theorem cs157 (w0 : World) (hJ : J w0) : EnvCts Tryz.prog E157 w0 w0.heap.size := by
  refine ⟨fun c hc => ?_, fun c hc => ?_⟩
  · cases hc
  · cases hc
noncomputable def ct157 : Ct := { f := 157, ps := [.v false .ro ls3], rs := [(false, ls9)], shared := false, pre := fun (x : Int) => pL4Two x, F := fun (x : Int) => mL4Two x }
theorem law157 : ∀ x : Int, pL4Two x → s_spec_l4Two x (fun r => r = mL4Two x) := fun x h => spec_l4Two_ok x h
theorem all157 (w : World) (hJ : J w) : CtAt Tryz.prog ct157 w :=
  ct_by ok157 (cs157 w hJ) Tryz.func157 (by kernel_rfl) (H := (hint [])) law157 (by kernel_rfl)
noncomputable def E158 : Env := { tt, eqs := [], cts := [] }
theorem ok158 : EnvOk Tryz.prog E158 := ⟨ttOk, by kernel_rfl, rfl, mixOk⟩
theorem cs158 (w0 : World) (hJ : J w0) : EnvCts Tryz.prog E158 w0 w0.heap.size := by
  refine ⟨fun c hc => ?_, fun c hc => ?_⟩
  · cases hc
  · cases hc
noncomputable def ct158 : Ct := { f := 158, ps := [.v false .ro ls3], rs := [(false, ls9)], shared := false, pre := fun (x : Int) => pDec x, F := fun (x : Int) => mDec x }
theorem law158 : ∀ x : Int, pDec x → s_spec_Dec x (fun r => r = mDec x) := fun x h => spec_Dec_ok x h
theorem all158 (w : World) (hJ : J w) : CtAt Tryz.prog ct158 w :=
  ct_by ok158 (cs158 w hJ) Tryz.func158 (by kernel_rfl) (H := (hint [(5, [.val 0 (.int .i64), .val 3 (.str)])])) law158 (by kernel_rfl)
noncomputable def E130 : Env := { tt, eqs := [], cts := [ct32, ct128, ct157, ct158] }
theorem ok130 : EnvOk Tryz.prog E130 := ⟨ttOk, by kernel_rfl, rfl, mixOk⟩
theorem cs130 (w0 : World) (hJ : J w0) : EnvCts Tryz.prog E130 w0 w0.heap.size := by
  refine ⟨fun c hc => ?_, fun c hc => ?_⟩
  · rcases List.mem_cons.1 hc with rfl | hc
    · exact fun w hb => all32 w (J_below hJ hb)
    rcases List.mem_cons.1 hc with rfl | hc
    · exact fun w hb => all128 w (J_below hJ hb)
    rcases List.mem_cons.1 hc with rfl | hc
    · exact fun w hb => all157 w (J_below hJ hb)
    rcases List.mem_cons.1 hc with rfl | hc
    · exact fun w hb => all158 w (J_below hJ hb)
    cases hc
  · cases hc
noncomputable def ct130 : Ct := { f := 130, ps := [.v false .ro ls3], rs := [(false, ls9)], shared := false, pre := fun (x : Int) => pShowDate x, F := fun (x : Int) => mShowDate x }
theorem law130 : ∀ x : Int, pShowDate x → s_spec_ShowDate x (fun r => r = mShowDate x) := fun x h => spec_ShowDate_ok x h
theorem all130 (w : World) (hJ : J w) : CtAt Tryz.prog ct130 w :=
  ct_by ok130 (cs130 w hJ) Tryz.func130 (by kernel_rfl) (H := (hint [(6, [.val 4 (.int .i64)]), (8, [.val 5 (.int .i64)])])) law130 (by kernel_rfl)
noncomputable def E99 : Env := { tt, eqs := [], cts := [ct129, ct128, ct130] }
theorem ok99 : EnvOk Tryz.prog E99 := ⟨ttOk, by kernel_rfl, rfl, mixOk⟩
theorem cs99 (w0 : World) (hJ : J w0) : EnvCts Tryz.prog E99 w0 w0.heap.size := by
  refine ⟨fun c hc => ?_, fun c hc => ?_⟩
  · rcases List.mem_cons.1 hc with rfl | hc
    · exact fun w hb => all129 w (J_below hJ hb)
    rcases List.mem_cons.1 hc with rfl | hc
    · exact fun w hb => all128 w (J_below hJ hb)
    rcases List.mem_cons.1 hc with rfl | hc
    · exact fun w hb => all130 w (J_below hJ hb)
    cases hc
  · cases hc
noncomputable def ct99 : Ct := { f := 99, ps := [.v false .ro ls9], rs := [(false, ls3), (false, ls4)], shared := false, pre := fun (x : S) => pReadDate x, F := fun (x : S) => mReadDate x }
theorem law99 : ∀ x : S, pReadDate x → s_spec_ReadDate x (fun r => r = mReadDate x) := fun x h => spec_ReadDate_ok x h
theorem all99 (w : World) (hJ : J w) : CtAt Tryz.prog ct99 w :=
  ct_by ok99 (cs99 w hJ) Tryz.func99 (by kernel_rfl) (H := (hint [(5, [.val 4 (.int .i64), .val 5 (.int .i64)])])) law99 (by kernel_rfl)
noncomputable def E57 : Env := { tt, eqs := [], cts := [ct54, ct99] }
theorem ok57 : EnvOk Tryz.prog E57 := ⟨ttOk, by kernel_rfl, rfl, mixOk⟩
theorem cs57 (w0 : World) (hJ : J w0) : EnvCts Tryz.prog E57 w0 w0.heap.size := by
  refine ⟨fun c hc => ?_, fun c hc => ?_⟩
  · rcases List.mem_cons.1 hc with rfl | hc
    · exact fun w hb => all54 w (J_below hJ hb)
    rcases List.mem_cons.1 hc with rfl | hc
    · exact fun w hb => all99 w (J_below hJ hb)
    cases hc
  · cases hc
noncomputable def ct57 : Ct := { f := 57, ps := [.v false .ro ls48, .v false .ro ls9], rs := [(false, ls3), (false, ls4)], shared := false, pre := fun (x : (List Fld) × S) => pDateOf x.1 x.2, F := fun (x : (List Fld) × S) => mDateOf x.1 x.2 }
theorem law57 : ∀ x : (List Fld) × S, pDateOf x.1 x.2 → s_spec_DateOf x.1 x.2 (fun r => r = mDateOf x.1 x.2) := fun x h => spec_DateOf_ok x.1 x.2 h
theorem all57 (w : World) (hJ : J w) : CtAt Tryz.prog ct57 w :=
  ct_by ok57 (cs57 w hJ) Tryz.func57 (by kernel_rfl) (H := (hint [])) law57 (by kernel_rfl)
noncomputable def E21 : Env := { tt, eqs := [], cts := [ct54, ct55, ct56, ct57] }
theorem ok21 : EnvOk Tryz.prog E21 := ⟨ttOk, by kernel_rfl, rfl, mixOk⟩
theorem cs21 (w0 : World) (hJ : J w0) : EnvCts Tryz.prog E21 w0 w0.heap.size := by
  refine ⟨fun c hc => ?_, fun c hc => ?_⟩
  · rcases List.mem_cons.1 hc with rfl | hc
    · exact fun w hb => all54 w (J_below hJ hb)
    rcases List.mem_cons.1 hc with rfl | hc
    · exact fun w hb => all55 w (J_below hJ hb)
    rcases List.mem_cons.1 hc with rfl | hc
    · exact fun w hb => all56 w (J_below hJ hb)
    rcases List.mem_cons.1 hc with rfl | hc
    · exact fun w hb => all57 w (J_below hJ hb)
    cases hc
  · cases hc
noncomputable def ct21 : Ct := { f := 21, ps := [.v true .ro ls50, .v false .ro ls9, .v false .ro ls3], rs := [(false, ls4)], shared := false, pre := fun (x : Req × S × Int) => pNotModified x.1 x.2.1 x.2.2, F := fun (x : Req × S × Int) => mNotModified x.1 x.2.1 x.2.2 }
theorem law21 : ∀ x : Req × S × Int, pNotModified x.1 x.2.1 x.2.2 → s_spec_NotModified x.1 x.2.1 x.2.2 (fun r => r = mNotModified x.1 x.2.1 x.2.2) := fun x h => spec_NotModified_ok x.1 x.2.1 x.2.2 h
theorem all21 (w : World) (hJ : J w) : CtAt Tryz.prog ct21 w :=
  ct_by ok21 (cs21 w hJ) Tryz.func21 (by kernel_rfl) (H := (hint [(5, [.val 10 (.int .i64)])])) law21 (by kernel_rfl)
noncomputable def ct100 : Ct := joinCt 9 100
theorem all100 (w : World) (hJ : J w) : CtAt Tryz.prog ct100 w := join_ct ⟨_, Tryz.func100, by kernel_rfl, by kernel_rfl⟩ (fun a c sep => Tryz.strings_Join_none a c sep w) (fun bk o c xs sep h1 h2 h3 h4 h5 => Tryz.strings_Join bk o c xs sep w h1 h2 h3 h4 h5)
noncomputable def E58 : Env := { tt, eqs := [], cts := [ct100] }
theorem ok58 : EnvOk Tryz.prog E58 := ⟨ttOk, by kernel_rfl, rfl, mixOk⟩
theorem cs58 (w0 : World) (hJ : J w0) : EnvCts Tryz.prog E58 w0 w0.heap.size := by
  refine ⟨fun c hc => ?_, fun c hc => ?_⟩
  · rcases List.mem_cons.1 hc with rfl | hc
    · exact fun w hb => all100 w (J_below hJ hb)
    cases hc
  · cases hc
noncomputable def ct58 : Ct := { f := 58, ps := [.v false .ro ls48, .v false .ro ls9], rs := [(false, ls9), (false, ls4)], shared := false, pre := fun (x : (List Fld) × S) => pFieldGet x.1 x.2, F := fun (x : (List Fld) × S) => mFieldGet x.1 x.2 }
theorem law58 : ∀ x : (List Fld) × S, pFieldGet x.1 x.2 → s_impl_FieldGet x.1 x.2 (fun r => r = mFieldGet x.1 x.2) := fun x h => impl_FieldGet_ok x.1 x.2 h
theorem all58 (w : World) (hJ : J w) : CtAt Tryz.prog ct58 w :=
  ct_by ok58 (cs58 w hJ) Tryz.func58 (by kernel_rfl) (H := (hint [(3, [.reg 6 9 [.str] true, .val 12 (.int .i64)])])) law58 (by kernel_rfl)
noncomputable def E102 : Env := { tt, eqs := [], cts := [] }
theorem ok102 : EnvOk Tryz.prog E102 := ⟨ttOk, by kernel_rfl, rfl, mixOk⟩
theorem cs102 (w0 : World) (hJ : J w0) : EnvCts Tryz.prog E102 w0 w0.heap.size := by
  refine ⟨fun c hc => ?_, fun c hc => ?_⟩
  · cases hc
  · cases hc
noncomputable def ct102 : Ct := { f := 102, ps := [.v false .ro ls9], rs := [(false, ls133)], shared := false, pre := fun (x : S) => pCommas x, F := fun (x : S) => mCommas x }
theorem law102 : ∀ x : S, pCommas x → s_impl_commas x (fun r => r = mCommas x) := fun x h => impl_commas_ok x h
theorem all102 (w : World) (hJ : J w) : CtAt Tryz.prog ct102 w :=
  ct_by ok102 (cs102 w hJ) Tryz.func102 (by kernel_rfl) (H := (hint [(4, [.reg 3 3 [.int .i64] true, .val 4 (.bool), .val 5 (.int .i64)])])) law102 (by kernel_rfl)
noncomputable def ct134 : Ct := trimLCt 134
theorem all134 (w : World) (hJ : J w) : CtAt Tryz.prog ct134 w := trimL_ct ⟨_, Tryz.func134, by kernel_rfl, by kernel_rfl⟩ (fun s cs h1 h2 h3 => Go.Proofs.Any.strings_Trim_laid Tryz.lays160 (by kernel_rfl) s cs w h1 h2 h3)
noncomputable def E103 : Env := { tt, eqs := [], cts := [ct134] }
theorem ok103 : EnvOk Tryz.prog E103 := ⟨ttOk, by kernel_rfl, rfl, mixOk⟩
theorem cs103 (w0 : World) (hJ : J w0) : EnvCts Tryz.prog E103 w0 w0.heap.size := by
  refine ⟨fun c hc => ?_, fun c hc => ?_⟩
  · rcases List.mem_cons.1 hc with rfl | hc
    · exact fun w hb => all134 w (J_below hJ hb)
    cases hc
  · cases hc
noncomputable def ct103 : Ct := { f := 103, ps := [.v false .ro ls9], rs := [(false, ls9)], shared := false, pre := fun (x : S) => pTrim x, F := fun (x : S) => mTrim x }
theorem law103 : ∀ x : S, pTrim x → s_impl_Trim x (fun r => r = mTrim x) := fun x h => impl_Trim_ok x h
theorem all103 (w : World) (hJ : J w) : CtAt Tryz.prog ct103 w :=
  ct_by ok103 (cs103 w hJ) Tryz.func103 (by kernel_rfl) (H := (hint [])) law103 (by kernel_rfl)
noncomputable def E60 : Env := { tt, eqs := [], cts := [ct102, ct103] }
theorem ok60 : EnvOk Tryz.prog E60 := ⟨ttOk, by kernel_rfl, rfl, mixOk⟩
theorem cs60 (w0 : World) (hJ : J w0) : EnvCts Tryz.prog E60 w0 w0.heap.size := by
  refine ⟨fun c hc => ?_, fun c hc => ?_⟩
  · rcases List.mem_cons.1 hc with rfl | hc
    · exact fun w hb => all102 w (J_below hJ hb)
    rcases List.mem_cons.1 hc with rfl | hc
    · exact fun w hb => all103 w (J_below hJ hb)
    cases hc
  · cases hc
noncomputable def ct60 : Ct := { f := 60, ps := [.v false .ro ls9], rs := [(false, ls95)], shared := false, pre := fun (x : S) => pSplitList x, F := fun (x : S) => mSplitList x }
theorem law60 : ∀ x : S, pSplitList x → s_impl_SplitList x (fun r => r = mSplitList x) := fun x h => impl_SplitList_ok x h
theorem all60 (w : World) (hJ : J w) : CtAt Tryz.prog ct60 w :=
  ct_by ok60 (cs60 w hJ) Tryz.func60 (by kernel_rfl) (H := (hint [(4, [.reg 3 9 [.str] true, .val 4 (.int .i64), .val 16 (.int .i64)])])) law60 (by kernel_rfl)
noncomputable def E168 : Env := { tt, eqs := [], cts := [] }
theorem ok168 : EnvOk Tryz.prog E168 := ⟨ttOk, by kernel_rfl, rfl, mixOk⟩
theorem cs168 (w0 : World) (hJ : J w0) : EnvCts Tryz.prog E168 w0 w0.heap.size := by
  refine ⟨fun c hc => ?_, fun c hc => ?_⟩
  · cases hc
  · cases hc
noncomputable def ct168 : Ct := { f := 168, ps := [.v false .ro ls9, .v false .ro ls9], rs := [(false, ls4)], shared := false, pre := fun (x : S × S) => pHasPrefix x.1 x.2, F := fun (x : S × S) => mHasPrefix x.1 x.2 }
theorem law168 : ∀ x : S × S, pHasPrefix x.1 x.2 → s_stringslite_HasPrefix x.1 x.2 (fun r => r = mHasPrefix x.1 x.2) := fun x h => stringslite_HasPrefix_ok x.1 x.2 h
theorem all168 (w : World) (hJ : J w) : CtAt Tryz.prog ct168 w :=
  ct_by ok168 (cs168 w hJ) Tryz.func168 (by kernel_rfl) (H := (hint [])) law168 (by kernel_rfl)
noncomputable def E135 : Env := { tt, eqs := [], cts := [ct168] }
theorem ok135 : EnvOk Tryz.prog E135 := ⟨ttOk, by kernel_rfl, rfl, mixOk⟩
theorem cs135 (w0 : World) (hJ : J w0) : EnvCts Tryz.prog E135 w0 w0.heap.size := by
  refine ⟨fun c hc => ?_, fun c hc => ?_⟩
  · rcases List.mem_cons.1 hc with rfl | hc
    · exact fun w hb => all168 w (J_below hJ hb)
    cases hc
  · cases hc
noncomputable def ct135 : Ct := { f := 135, ps := [.v false .ro ls9, .v false .ro ls9], rs := [(false, ls9), (false, ls4)], shared := false, pre := fun (x : S × S) => pCutPrefix x.1 x.2, F := fun (x : S × S) => mCutPrefix x.1 x.2 }
theorem law135 : ∀ x : S × S, pCutPrefix x.1 x.2 → s_stringslite_CutPrefix x.1 x.2 (fun r => r = mCutPrefix x.1 x.2) := fun x h => stringslite_CutPrefix_ok x.1 x.2 h
theorem all135 (w : World) (hJ : J w) : CtAt Tryz.prog ct135 w :=
  ct_by ok135 (cs135 w hJ) Tryz.func135 (by kernel_rfl) (H := (hint [])) law135 (by kernel_rfl)
noncomputable def E104 : Env := { tt, eqs := [], cts := [ct135] }
theorem ok104 : EnvOk Tryz.prog E104 := ⟨ttOk, by kernel_rfl, rfl, mixOk⟩
theorem cs104 (w0 : World) (hJ : J w0) : EnvCts Tryz.prog E104 w0 w0.heap.size := by
  refine ⟨fun c hc => ?_, fun c hc => ?_⟩
  · rcases List.mem_cons.1 hc with rfl | hc
    · exact fun w hb => all135 w (J_below hJ hb)
    cases hc
  · cases hc
noncomputable def ct104 : Ct := { f := 104, ps := [.v false .ro ls9, .v false .ro ls9], rs := [(false, ls9), (false, ls4)], shared := false, pre := fun (x : S × S) => pCutPrefix x.1 x.2, F := fun (x : S × S) => mCutPrefix x.1 x.2 }
theorem law104 : ∀ x : S × S, pCutPrefix x.1 x.2 → s_strings_cutPrefix x.1 x.2 (fun r => r = mCutPrefix x.1 x.2) := fun x h => strings_cutPrefix_ok x.1 x.2 h
theorem all104 (w : World) (hJ : J w) : CtAt Tryz.prog ct104 w :=
  ct_by ok104 (cs104 w hJ) Tryz.func104 (by kernel_rfl) (H := (hint [])) law104 (by kernel_rfl)
noncomputable def E62 : Env := { tt, eqs := [], cts := [ct104] }
theorem ok62 : EnvOk Tryz.prog E62 := ⟨ttOk, by kernel_rfl, rfl, mixOk⟩
theorem cs62 (w0 : World) (hJ : J w0) : EnvCts Tryz.prog E62 w0 w0.heap.size := by
  refine ⟨fun c hc => ?_, fun c hc => ?_⟩
  · rcases List.mem_cons.1 hc with rfl | hc
    · exact fun w hb => all104 w (J_below hJ hb)
    cases hc
  · cases hc
noncomputable def ct62 : Ct := { f := 62, ps := [.v false .ro ls9], rs := [(false, ls9)], shared := false, pre := fun (x : S) => pStrong x, F := fun (x : S) => mStrong x }
theorem law62 : ∀ x : S, pStrong x → s_impl_strong x (fun r => r = mStrong x) := fun x h => impl_strong_ok x h
theorem all62 (w : World) (hJ : J w) : CtAt Tryz.prog ct62 w :=
  ct_by ok62 (cs62 w hJ) Tryz.func62 (by kernel_rfl) (H := (hint [])) law62 (by kernel_rfl)
noncomputable def E61 : Env := { tt, eqs := [], cts := [ct62] }
theorem ok61 : EnvOk Tryz.prog E61 := ⟨ttOk, by kernel_rfl, rfl, mixOk⟩
theorem cs61 (w0 : World) (hJ : J w0) : EnvCts Tryz.prog E61 w0 w0.heap.size := by
  refine ⟨fun c hc => ?_, fun c hc => ?_⟩
  · rcases List.mem_cons.1 hc with rfl | hc
    · exact fun w hb => all62 w (J_below hJ hb)
    cases hc
  · cases hc
noncomputable def ct61 : Ct := { f := 61, ps := [.v false .ro ls9, .p false ls9], rs := [(false, ls4)], shared := false, pre := fun (x : S × S) => pNotModified_1 x.1 x.2, F := fun (x : S × S) => mNotModified_1 x.1 x.2 }
theorem law61 : ∀ x : S × S, pNotModified_1 x.1 x.2 → s_impl_NotModified_1 x.1 x.2 (fun r => r = mNotModified_1 x.1 x.2) := fun x h => impl_NotModified_1_ok x.1 x.2 h
theorem all61 (w : World) (hJ : J w) : CtAt Tryz.prog ct61 w :=
  ct_by ok61 (cs61 w hJ) Tryz.func61 (by kernel_rfl) (H := (hint [])) law61 (by kernel_rfl)
noncomputable def E101_61 : Env := { tt, eqs := [], cts := [ct61] }
theorem ok101_61 : EnvOk Tryz.prog E101_61 := ⟨ttOk, by kernel_rfl, rfl, mixOk⟩
theorem cs101_61 (w0 : World) (hJ : J w0) : EnvCts Tryz.prog E101_61 w0 w0.heap.size := by
  refine ⟨fun c hc => ?_, fun c hc => ?_⟩
  · rcases List.mem_cons.1 hc with rfl | hc
    · exact fun w hb => all61 w (J_below hJ hb)
    cases hc
  · cases hc
noncomputable def ct101_61 : Ct := { f := 101, ps := [.v false .ro ls95, .c 61 [ls9]], rs := [(false, ls3)], shared := false, pre := fun (x : (List S) × S) => pIndexFunc_NotModified_1 x.1 x.2, F := fun (x : (List S) × S) => mIndexFunc_NotModified_1 x.1 x.2 }
theorem law101_61 : ∀ x : (List S) × S, pIndexFunc_NotModified_1 x.1 x.2 → s_IndexFunc_NotModified_1 x.1 x.2 (fun r => r = mIndexFunc_NotModified_1 x.1 x.2) := fun x h => IndexFunc_NotModified_1_ok x.1 x.2 h
theorem all101_61 (w : World) (hJ : J w) : CtAt Tryz.prog ct101_61 w :=
  ct_by ok101_61 (cs101_61 w hJ) Tryz.func101 (by kernel_rfl) (H := (hint [(2, [.val 8 (.int .i64)])])) law101_61 (by kernel_rfl)
noncomputable def E59_61 : Env := { tt, eqs := [], cts := [ct101_61] }
theorem ok59_61 : EnvOk Tryz.prog E59_61 := ⟨ttOk, by kernel_rfl, rfl, mixOk⟩
theorem cs59_61 (w0 : World) (hJ : J w0) : EnvCts Tryz.prog E59_61 w0 w0.heap.size := by
  refine ⟨fun c hc => ?_, fun c hc => ?_⟩
  · rcases List.mem_cons.1 hc with rfl | hc
    · exact fun w hb => all101_61 w (J_below hJ hb)
    cases hc
  · cases hc
noncomputable def ct59_61 : Ct := { f := 59, ps := [.v false .ro ls95, .c 61 [ls9]], rs := [(false, ls4)], shared := false, pre := fun (x : (List S) × S) => pContainsFunc_NotModified_1 x.1 x.2, F := fun (x : (List S) × S) => mContainsFunc_NotModified_1 x.1 x.2 }
theorem law59_61 : ∀ x : (List S) × S, pContainsFunc_NotModified_1 x.1 x.2 → s_ContainsFunc_NotModified_1 x.1 x.2 (fun r => r = mContainsFunc_NotModified_1 x.1 x.2) := fun x h => ContainsFunc_NotModified_1_ok x.1 x.2 h
theorem all59_61 (w : World) (hJ : J w) : CtAt Tryz.prog ct59_61 w :=
  ct_by ok59_61 (cs59_61 w hJ) Tryz.func59 (by kernel_rfl) (H := (hint [])) law59_61 (by kernel_rfl)
noncomputable def ct136 : Ct := splitCt 9 136
theorem all136 (w : World) (hJ : J w) : CtAt Tryz.prog ct136 w := split_ct ⟨_, Tryz.func136, by kernel_rfl, by kernel_rfl⟩ (fun s sep h1 h2 => hJ.2.2.2.1.elim fun m hm => Tryz.strings_Split s sep m w h1 hm h2)
noncomputable def ct150 : Ct := atoiCt 150
theorem all150 (w : World) (hJ : J w) : CtAt Tryz.prog ct150 w := atoi_ct ⟨_, Tryz.func150, by kernel_rfl, by kernel_rfl⟩ hJ.2.1 hJ.2.2.1
    (fun s h v hv => (Tryz.strconv_Atoi_ok s h v hv w).mono fun e w' ⟨he, hw⟩ => ⟨he, by rcases hw with rfl | ⟨t, rfl⟩; exact Below.refl _ _; exact Lib.bytesWorld_below _ _ _⟩)
    (fun s h hv ev h1 h2 => (Tryz.strconv_Atoi_syntax s h hv ev w h1 h2).mono fun e w' ⟨N, he, _, _, hb⟩ => ⟨_, he, hb⟩)
    (fun s h hv ev h1 h2 => (Tryz.strconv_Atoi_range s h hv ev w h1 h2).mono fun e w' ⟨N, he, _, _, hb⟩ => ⟨_, he, hb⟩)
noncomputable def E138 : Env := { tt, eqs := [], cts := [ct150] }
theorem ok138 : EnvOk Tryz.prog E138 := ⟨ttOk, by kernel_rfl, rfl, mixOk⟩
theorem cs138 (w0 : World) (hJ : J w0) : EnvCts Tryz.prog E138 w0 w0.heap.size := by
  refine ⟨fun c hc => ?_, fun c hc => ?_⟩
  · rcases List.mem_cons.1 hc with rfl | hc
    · exact fun w hb => all150 w (J_below hJ hb)
    cases hc
  · cases hc
noncomputable def ct138 : Ct := { f := 138, ps := [.v false .ro ls9], rs := [(false, ls3)], shared := false, pre := fun (x : S) => pNumber x, F := fun (x : S) => mNumber x }
theorem law138 : ∀ x : S, pNumber x → s_impl_number x (fun r => r = mNumber x) := fun x h => impl_number_ok x h
theorem all138 (w : World) (hJ : J w) : CtAt Tryz.prog ct138 w :=
  ct_by ok138 (cs138 w hJ) Tryz.func138 (by kernel_rfl) (H := (hint [(2, [.val 8 (.int .i64)])])) law138 (by kernel_rfl)
noncomputable def E140 : Env := { tt, eqs := [], cts := [] }
theorem ok140 : EnvOk Tryz.prog E140 := ⟨ttOk, by kernel_rfl, rfl, mixOk⟩
theorem cs140 (w0 : World) (hJ : J w0) : EnvCts Tryz.prog E140 w0 w0.heap.size := by
  refine ⟨fun c hc => ?_, fun c hc => ?_⟩
  · cases hc
  · cases hc
noncomputable def ct140 : Ct := { f := 140, ps := [], rs := [(false, ls95)], shared := false, pre := fun (x : Unit) => pMonths (), F := fun (x : Unit) => mMonths () }
theorem law140 : ∀ x : Unit, pMonths () → s_impl_months  (fun r => r = mMonths ()) := fun x h => impl_months_ok
theorem all140 (w : World) (hJ : J w) : CtAt Tryz.prog ct140 w :=
  ct_by ok140 (cs140 w hJ) Tryz.func140 (by kernel_rfl) (H := (hint [])) law140 (by kernel_rfl)
noncomputable def E139 : Env := { tt, eqs := [], cts := [] }
theorem ok139 : EnvOk Tryz.prog E139 := ⟨ttOk, by kernel_rfl, rfl, mixOk⟩
theorem cs139 (w0 : World) (hJ : J w0) : EnvCts Tryz.prog E139 w0 w0.heap.size := by
  refine ⟨fun c hc => ?_, fun c hc => ?_⟩
  · cases hc
  · cases hc
noncomputable def ct139 : Ct := { f := 139, ps := [.v false .ro ls95, .v false .ro ls9], rs := [(false, ls3)], shared := false, pre := fun (x : (List S) × S) => pIndex_string x.1 x.2, F := fun (x : (List S) × S) => mIndex_string x.1 x.2 }
theorem law139 : ∀ x : (List S) × S, pIndex_string x.1 x.2 → s_slices_Index_string x.1 x.2 (fun r => r = mIndex_string x.1 x.2) := fun x h => slices_Index_string_ok x.1 x.2 h
theorem all139 (w : World) (hJ : J w) : CtAt Tryz.prog ct139 w :=
  ct_by ok139 (cs139 w hJ) Tryz.func139 (by kernel_rfl) (H := (hint [(2, [.val 8 (.int .i64)])])) law139 (by kernel_rfl)
noncomputable def E38 : Env := { tt, eqs := [], cts := [] }
theorem ok38 : EnvOk Tryz.prog E38 := ⟨ttOk, by kernel_rfl, rfl, mixOk⟩
theorem cs38 (w0 : World) (hJ : J w0) : EnvCts Tryz.prog E38 w0 w0.heap.size := by
  refine ⟨fun c hc => ?_, fun c hc => ?_⟩
  · cases hc
  · cases hc
noncomputable def ct38 : Ct := { f := 38, ps := [.v false .ro ls3, .v false .ro ls3, .v false .ro ls3], rs := [(false, ls4)], shared := false, pre := fun (x : Int × Int × Int) => pIn x.1 x.2.1 x.2.2, F := fun (x : Int × Int × Int) => mIn x.1 x.2.1 x.2.2 }
theorem law38 : ∀ x : Int × Int × Int, pIn x.1 x.2.1 x.2.2 → s_impl_in x.1 x.2.1 x.2.2 (fun r => r = mIn x.1 x.2.1 x.2.2) := fun x _ => impl_in_ok x.1 x.2.1 x.2.2
theorem all38 (w : World) (hJ : J w) : CtAt Tryz.prog ct38 w :=
  ct_by ok38 (cs38 w hJ) Tryz.func38 (by kernel_rfl) (H := (hint [])) law38 (by kernel_rfl)
noncomputable def E192 : Env := { tt, eqs := [], cts := [] }
theorem ok192 : EnvOk Tryz.prog E192 := ⟨ttOk, by kernel_rfl, rfl, mixOk⟩
theorem cs192 (w0 : World) (hJ : J w0) : EnvCts Tryz.prog E192 w0 w0.heap.size := by
  refine ⟨fun c hc => ?_, fun c hc => ?_⟩
  · cases hc
  · cases hc
noncomputable def ct192 : Ct := { f := 192, ps := [.v false .ro ls3], rs := [(false, ls4)], shared := false, pre := fun (x : Int) => pIsLeap x, F := fun (x : Int) => mIsLeap x }
theorem law192 : ∀ x : Int, pIsLeap x → s_impl_IsLeap x (fun r => r = mIsLeap x) := fun x h => impl_IsLeap_ok x h
theorem all192 (w : World) (hJ : J w) : CtAt Tryz.prog ct192 w :=
  ct_by ok192 (cs192 w hJ) Tryz.func192 (by kernel_rfl) (H := (hint [])) law192 (by kernel_rfl)
noncomputable def E170 : Env := { tt, eqs := [], cts := [ct192] }
theorem ok170 : EnvOk Tryz.prog E170 := ⟨ttOk, by kernel_rfl, rfl, mixOk⟩
theorem cs170 (w0 : World) (hJ : J w0) : EnvCts Tryz.prog E170 w0 w0.heap.size := by
  refine ⟨fun c hc => ?_, fun c hc => ?_⟩
  · rcases List.mem_cons.1 hc with rfl | hc
    · exact fun w hb => all192 w (J_below hJ hb)
    cases hc
  · cases hc
noncomputable def ct170 : Ct := { f := 170, ps := [.v false .ro ls3, .v false .ro ls3], rs := [(false, ls3)], shared := false, pre := fun (x : Int × Int) => pMonthDays x.1 x.2, F := fun (x : Int × Int) => mMonthDays x.1 x.2 }
theorem law170 : ∀ x : Int × Int, pMonthDays x.1 x.2 → s_impl_monthDays x.1 x.2 (fun r => r = mMonthDays x.1 x.2) := fun x h => impl_monthDays_ok x.1 x.2 h
theorem all170 (w : World) (hJ : J w) : CtAt Tryz.prog ct170 w :=
  ct_by ok170 (cs170 w hJ) Tryz.func170 (by kernel_rfl) (H := (hint [])) law170 (by kernel_rfl)
noncomputable def E171 : Env := { tt, eqs := [], cts := [ct192] }
theorem ok171 : EnvOk Tryz.prog E171 := ⟨ttOk, by kernel_rfl, rfl, mixOk⟩
theorem cs171 (w0 : World) (hJ : J w0) : EnvCts Tryz.prog E171 w0 w0.heap.size := by
  refine ⟨fun c hc => ?_, fun c hc => ?_⟩
  · rcases List.mem_cons.1 hc with rfl | hc
    · exact fun w hb => all192 w (J_below hJ hb)
    cases hc
  · cases hc
noncomputable def ct171 : Ct := { f := 171, ps := [.v false .ro ls3], rs := [(false, ls3)], shared := false, pre := fun (x : Int) => pYearDays x, F := fun (x : Int) => mYearDays x }
theorem law171 : ∀ x : Int, pYearDays x → s_impl_yearDays x (fun r => r = mYearDays x) := fun x h => impl_yearDays_ok x h
theorem all171 (w : World) (hJ : J w) : CtAt Tryz.prog ct171 w :=
  ct_by ok171 (cs171 w hJ) Tryz.func171 (by kernel_rfl) (H := (hint [])) law171 (by kernel_rfl)
noncomputable def E137 : Env := { tt, eqs := [], cts := [ct38, ct170, ct171] }
theorem ok137 : EnvOk Tryz.prog E137 := ⟨ttOk, by kernel_rfl, rfl, mixOk⟩
theorem cs137 (w0 : World) (hJ : J w0) : EnvCts Tryz.prog E137 w0 w0.heap.size := by
  refine ⟨fun c hc => ?_, fun c hc => ?_⟩
  · rcases List.mem_cons.1 hc with rfl | hc
    · exact fun w hb => all38 w (J_below hJ hb)
    rcases List.mem_cons.1 hc with rfl | hc
    · exact fun w hb => all170 w (J_below hJ hb)
    rcases List.mem_cons.1 hc with rfl | hc
    · exact fun w hb => all171 w (J_below hJ hb)
    cases hc
  · cases hc
noncomputable def ct137 : Ct := { f := 137, ps := [.v false .ro ls3, .v false .ro ls3, .v false .ro ls3], rs := [(false, ls3)], shared := false, pre := fun (x : Int × Int × Int) => pDaysOf x.1 x.2.1 x.2.2, F := fun (x : Int × Int × Int) => mDaysOf x.1 x.2.1 x.2.2 }
theorem law137 : ∀ x : Int × Int × Int, pDaysOf x.1 x.2.1 x.2.2 → s_impl_DaysOf x.1 x.2.1 x.2.2 (fun r => r = mDaysOf x.1 x.2.1 x.2.2) := fun x h => impl_DaysOf_ok x.1 x.2.1 x.2.2 h
theorem all137 (w : World) (hJ : J w) : CtAt Tryz.prog ct137 w :=
  ct_by ok137 (cs137 w hJ) Tryz.func137 (by kernel_rfl) (H := (hint [(5, [.val 7 (.int .i64), .val 8 (.int .i64)]), (9, [.val 7 (.int .i64), .val 9 (.int .i64)])])) law137 (by kernel_rfl)
noncomputable def ct173 : Ct := itoaCt 173
theorem all173 (w : World) (hJ : J w) : CtAt Tryz.prog ct173 w := itoa_ct ⟨_, Tryz.func173, by kernel_rfl, by kernel_rfl⟩ (fun k h0 h1 => Tryz.strconv_Itoa k h0 h1 w hJ.1)
noncomputable def E172 : Env := { tt, eqs := [], cts := [ct173] }
theorem ok172 : EnvOk Tryz.prog E172 := ⟨ttOk, by kernel_rfl, rfl, mixOk⟩
theorem cs172 (w0 : World) (hJ : J w0) : EnvCts Tryz.prog E172 w0 w0.heap.size := by
  refine ⟨fun c hc => ?_, fun c hc => ?_⟩
  · rcases List.mem_cons.1 hc with rfl | hc
    · exact fun w hb => all173 w (J_below hJ hb)
    cases hc
  · cases hc
noncomputable def ct172 : Ct := { f := 172, ps := [.v false .ro ls3], rs := [(false, ls9)], shared := false, pre := fun (x : Int) => pTwo x, F := fun (x : Int) => mTwo x }
theorem law172 : ∀ x : Int, pTwo x → s_impl_two x (fun r => r = mTwo x) := fun x h => impl_two_ok x h
theorem all172 (w : World) (hJ : J w) : CtAt Tryz.prog ct172 w :=
  ct_by ok172 (cs172 w hJ) Tryz.func172 (by kernel_rfl) (H := (hint [])) law172 (by kernel_rfl)
noncomputable def E141 : Env := { tt, eqs := [], cts := [ct38, ct171, ct170, ct172, ct140, ct173] }
theorem ok141 : EnvOk Tryz.prog E141 := ⟨ttOk, by kernel_rfl, rfl, mixOk⟩
theorem cs141 (w0 : World) (hJ : J w0) : EnvCts Tryz.prog E141 w0 w0.heap.size := by
  refine ⟨fun c hc => ?_, fun c hc => ?_⟩
  · rcases List.mem_cons.1 hc with rfl | hc
    · exact fun w hb => all38 w (J_below hJ hb)
    rcases List.mem_cons.1 hc with rfl | hc
    · exact fun w hb => all171 w (J_below hJ hb)
    rcases List.mem_cons.1 hc with rfl | hc
    · exact fun w hb => all170 w (J_below hJ hb)
    rcases List.mem_cons.1 hc with rfl | hc
    · exact fun w hb => all172 w (J_below hJ hb)
    rcases List.mem_cons.1 hc with rfl | hc
    · exact fun w hb => all140 w (J_below hJ hb)
    rcases List.mem_cons.1 hc with rfl | hc
    · exact fun w hb => all173 w (J_below hJ hb)
    cases hc
  · cases hc
noncomputable def ct141 : Ct := { f := 141, ps := [.v false .ro ls3], rs := [(false, ls9)], shared := false, pre := fun (x : Int) => pShowDate x, F := fun (x : Int) => mShowDate x }
theorem law141 : ∀ x : Int, pShowDate x → s_impl_ShowDate x (fun r => r = mShowDate x) := fun x h => impl_ShowDate_ok x h
theorem all141 (w : World) (hJ : J w) : CtAt Tryz.prog ct141 w :=
  ct_by ok141 (cs141 w hJ) Tryz.func141 (by kernel_rfl) (H := (hint [(6, [.val 3 (.int .i64), .val 6 (.int .i64)]), (9, [.val 3 (.int .i64), .val 7 (.int .i64)])])) law141 (by kernel_rfl)
noncomputable def E105 : Env := { tt, eqs := [], cts := [ct136, ct138, ct140, ct139, ct137, ct141] }
theorem ok105 : EnvOk Tryz.prog E105 := ⟨ttOk, by kernel_rfl, rfl, mixOk⟩
theorem cs105 (w0 : World) (hJ : J w0) : EnvCts Tryz.prog E105 w0 w0.heap.size := by
  refine ⟨fun c hc => ?_, fun c hc => ?_⟩
  · rcases List.mem_cons.1 hc with rfl | hc
    · exact fun w hb => all136 w (J_below hJ hb)
    rcases List.mem_cons.1 hc with rfl | hc
    · exact fun w hb => all138 w (J_below hJ hb)
    rcases List.mem_cons.1 hc with rfl | hc
    · exact fun w hb => all140 w (J_below hJ hb)
    rcases List.mem_cons.1 hc with rfl | hc
    · exact fun w hb => all139 w (J_below hJ hb)
    rcases List.mem_cons.1 hc with rfl | hc
    · exact fun w hb => all137 w (J_below hJ hb)
    rcases List.mem_cons.1 hc with rfl | hc
    · exact fun w hb => all141 w (J_below hJ hb)
    cases hc
  · cases hc
noncomputable def ct105 : Ct := { f := 105, ps := [.v false .ro ls9], rs := [(false, ls3), (false, ls4)], shared := false, pre := fun (x : S) => pReadDate x, F := fun (x : S) => mReadDate x }
theorem law105 : ∀ x : S, pReadDate x → s_impl_ReadDate x (fun r => r = mReadDate x) := fun x h => impl_ReadDate_ok x h
theorem all105 (w : World) (hJ : J w) : CtAt Tryz.prog ct105 w :=
  ct_by ok105 (cs105 w hJ) Tryz.func105 (by kernel_rfl) (H := (hint [])) law105 (by kernel_rfl)
noncomputable def E63 : Env := { tt, eqs := [], cts := [ct58, ct105] }
theorem ok63 : EnvOk Tryz.prog E63 := ⟨ttOk, by kernel_rfl, rfl, mixOk⟩
theorem cs63 (w0 : World) (hJ : J w0) : EnvCts Tryz.prog E63 w0 w0.heap.size := by
  refine ⟨fun c hc => ?_, fun c hc => ?_⟩
  · rcases List.mem_cons.1 hc with rfl | hc
    · exact fun w hb => all58 w (J_below hJ hb)
    rcases List.mem_cons.1 hc with rfl | hc
    · exact fun w hb => all105 w (J_below hJ hb)
    cases hc
  · cases hc
noncomputable def ct63 : Ct := { f := 63, ps := [.v false .ro ls48, .v false .ro ls9], rs := [(false, ls3), (false, ls4)], shared := false, pre := fun (x : (List Fld) × S) => pDateOf x.1 x.2, F := fun (x : (List Fld) × S) => mDateOf x.1 x.2 }
theorem law63 : ∀ x : (List Fld) × S, pDateOf x.1 x.2 → s_impl_DateOf x.1 x.2 (fun r => r = mDateOf x.1 x.2) := fun x h => impl_DateOf_ok x.1 x.2 h
theorem all63 (w : World) (hJ : J w) : CtAt Tryz.prog ct63 w :=
  ct_by ok63 (cs63 w hJ) Tryz.func63 (by kernel_rfl) (H := (hint [])) law63 (by kernel_rfl)
noncomputable def E22 : Env := { tt, eqs := [], cts := [ct58, ct60, ct59_61, ct63, ct38] }
theorem ok22 : EnvOk Tryz.prog E22 := ⟨ttOk, by kernel_rfl, rfl, mixOk⟩
theorem cs22 (w0 : World) (hJ : J w0) : EnvCts Tryz.prog E22 w0 w0.heap.size := by
  refine ⟨fun c hc => ?_, fun c hc => ?_⟩
  · rcases List.mem_cons.1 hc with rfl | hc
    · exact fun w hb => all58 w (J_below hJ hb)
    rcases List.mem_cons.1 hc with rfl | hc
    · exact fun w hb => all60 w (J_below hJ hb)
    rcases List.mem_cons.1 hc with rfl | hc
    · exact fun w hb => all59_61 w (J_below hJ hb)
    rcases List.mem_cons.1 hc with rfl | hc
    · exact fun w hb => all63 w (J_below hJ hb)
    rcases List.mem_cons.1 hc with rfl | hc
    · exact fun w hb => all38 w (J_below hJ hb)
    cases hc
  · cases hc
noncomputable def ct22 : Ct := { f := 22, ps := [.v true .ro ls50, .v false .ro ls9, .v false .ro ls3], rs := [(false, ls4)], shared := false, pre := fun (x : Req × S × Int) => pNotModified x.1 x.2.1 x.2.2, F := fun (x : Req × S × Int) => mNotModified x.1 x.2.1 x.2.2 }
theorem law22 : ∀ x : Req × S × Int, pNotModified x.1 x.2.1 x.2.2 → s_impl_NotModified x.1 x.2.1 x.2.2 (fun r => r = mNotModified x.1 x.2.1 x.2.2) := fun x h => impl_NotModified_ok x.1 x.2.1 x.2.2 h
theorem all22 (w : World) (hJ : J w) : CtAt Tryz.prog ct22 w :=
  ct_by ok22 (cs22 w hJ) Tryz.func22 (by kernel_rfl) (H := (hint [])) law22 (by kernel_rfl)
noncomputable def E97 : Env := { tt, eqs := [], cts := [] }
theorem ok97 : EnvOk Tryz.prog E97 := ⟨ttOk, by kernel_rfl, rfl, mixOk⟩
theorem cs97 (w0 : World) (hJ : J w0) : EnvCts Tryz.prog E97 w0 w0.heap.size := by
  refine ⟨fun c hc => ?_, fun c hc => ?_⟩
  · cases hc
  · cases hc
noncomputable def ct97 : Ct := { f := 97, ps := [.v true .ro ls126, .v true .ro ls126], rs := [(false, [.bool])], shared := false, pre := fun (q : Fld × Fld) => pEq q.1 q.2, F := fun (q : Fld × Fld) => eqF q.1 q.2 }
def st97 : List (EqStep Fld) := [.ne (fun (x y : Fld) => x.1 ≠ y.1), .ne (fun (x y : Fld) => x.2 ≠ y.2)]
def mk97 (a0 : S) (a1 : S) : Fld := (a0, a1)
theorem a97 (x y : Fld) : eqAll x y st97 ↔ x = y := by
  constructor
  · rintro ⟨h0, h1, -⟩
    have h0 : x.1 = y.1 := Classical.byContradiction h0
    have h1 : x.2 = y.2 := Classical.byContradiction h1
    show mk97 (x.1) (x.2) = mk97 (y.1) (y.2)
    rw [h0, h1]
    all_goals rfl
  · rintro rfl
    exact ⟨fun h => h rfl, fun h => h rfl, trivial⟩
theorem w97 (x y : Fld) (h : wd x) : eqFine x y st97 := by
  first | simp only [wd_pair] at h | skip
  simp only [eqFine, st97, wd_pair]
  all_goals simp only [h, and_self]
theorem law97 : ∀ q : Fld × Fld, pEq q.1 q.2 → eqSt q.1 q.2 st97 (fun r => r = eqF q.1 q.2) := fun q hq => eqSt_holds q.1 q.2 st97 (w97 q.1 q.2 hq) (eqF_iff.trans (a97 q.1 q.2).symm)
theorem all97 (w : World) (hJ : J w) : CtAt Tryz.prog ct97 w :=
  ct_by ok97 (cs97 w hJ) Tryz.func97 (by kernel_rfl) (H := (hint [])) law97 (by kernel_rfl)
noncomputable def E53 : Env := { tt, eqs := [], cts := [ct97] }
theorem ok53 : EnvOk Tryz.prog E53 := ⟨ttOk, by kernel_rfl, rfl, mixOk⟩
theorem cs53 (w0 : World) (hJ : J w0) : EnvCts Tryz.prog E53 w0 w0.heap.size := by
  refine ⟨fun c hc => ?_, fun c hc => ?_⟩
  · rcases List.mem_cons.1 hc with rfl | hc
    · exact fun w hb => all97 w (J_below hJ hb)
    cases hc
  · cases hc
noncomputable def ct53 : Ct := { f := 53, ps := [.v false .ro ls48, .v false .ro ls48], rs := [(false, [.bool])], shared := false, pre := fun (q : (List Fld) × (List Fld)) => pEq q.1 q.2, F := fun (q : (List Fld) × (List Fld)) => eqF q.1 q.2 }
theorem law53 : ∀ q : (List Fld) × (List Fld), pEq q.1 q.2 → eqS (α := Fld) Dft.dft (fun a b => pEq a b) (fun a b => eqF a b) q.1 q.2 (fun r => r = eqF q.1 q.2) := fun q hq => eqS_holds (α := Fld) Dft.dft (fun a b => pEq a b) (fun a b => eqF a b) q.1 q.2 hq.1 (fun i a _ h => hq.2 i a h) (fun _ _ => eqF_iff) eqF_iff
theorem all53 (w : World) (hJ : J w) : CtAt Tryz.prog ct53 w :=
  ct_by ok53 (cs53 w hJ) Tryz.func53 (by kernel_rfl) (H := (hint [(4, [.val 5 (.int .i64)])])) law53 (by kernel_rfl)
noncomputable def E20 : Env := { tt, eqs := [], cts := [ct53] }
theorem ok20 : EnvOk Tryz.prog E20 := ⟨ttOk, by kernel_rfl, rfl, mixOk⟩
theorem cs20 (w0 : World) (hJ : J w0) : EnvCts Tryz.prog E20 w0 w0.heap.size := by
  refine ⟨fun c hc => ?_, fun c hc => ?_⟩
  · rcases List.mem_cons.1 hc with rfl | hc
    · exact fun w hb => all53 w (J_below hJ hb)
    cases hc
  · cases hc
noncomputable def ct20 : Ct := { f := 20, ps := [.v true .ro ls50, .v true .ro ls50], rs := [(false, [.bool])], shared := false, pre := fun (q : Req × Req) => pEq q.1 q.2, F := fun (q : Req × Req) => eqF q.1 q.2 }
def st20 : List (EqStep Req) := [.ne (fun (x y : Req) => x.1 ≠ y.1), .ne (fun (x y : Req) => x.2.1 ≠ y.2.1), .call (fun (x _ : Req) => wd (x.2.2.1 : (List Fld))) (fun (x y : Req) => eqF (x.2.2.1 : (List Fld)) y.2.2.1), .ne (fun (x y : Req) => x.2.2.2 ≠ y.2.2.2)]
def mk20 (a0 : S) (a1 : S) (a2 : (List Fld)) (a3 : S) : Req := (a0, a1, a2, a3)
theorem a20 (x y : Req) : eqAll x y st20 ↔ x = y := by
  constructor
  · rintro ⟨h0, h1, h2, h3, -⟩
    have h0 : x.1 = y.1 := Classical.byContradiction h0
    have h1 : x.2.1 = y.2.1 := Classical.byContradiction h1
    have h2 : (x.2.2.1 : (List Fld)) = y.2.2.1 := eqF_iff.1 h2
    have h3 : x.2.2.2 = y.2.2.2 := Classical.byContradiction h3
    show mk20 (x.1) (x.2.1) (x.2.2.1) (x.2.2.2) = mk20 (y.1) (y.2.1) (y.2.2.1) (y.2.2.2)
    rw [h0, h1, h2, h3]
    all_goals rfl
  · rintro rfl
    exact ⟨fun h => h rfl, fun h => h rfl, eqF_iff.2 rfl, fun h => h rfl, trivial⟩
theorem w20 (x y : Req) (h : wd x) : eqFine x y st20 := by
  first | simp only [wd_pair] at h | skip
  simp only [eqFine, st20, wd_pair]
  all_goals simp only [h, and_self]
theorem law20 : ∀ q : Req × Req, pEq q.1 q.2 → eqSt q.1 q.2 st20 (fun r => r = eqF q.1 q.2) := fun q hq => eqSt_holds q.1 q.2 st20 (w20 q.1 q.2 hq) (eqF_iff.trans (a20 q.1 q.2).symm)
theorem all20 (w : World) (hJ : J w) : CtAt Tryz.prog ct20 w :=
  ct_by ok20 (cs20 w hJ) Tryz.func20 (by kernel_rfl) (H := (hint [])) law20 (by kernel_rfl)
noncomputable def E5 : Env := { tt, eqs := [], cts := [ct14, ct17, ct21, ct22, ct20] }
theorem ok5 : EnvOk Tryz.prog E5 := ⟨ttOk, by kernel_rfl, rfl, mixOk⟩
theorem cs5 (w0 : World) (hJ : J w0) : EnvCts Tryz.prog E5 w0 w0.heap.size := by
  refine ⟨fun c hc => ?_, fun c hc => ?_⟩
  · rcases List.mem_cons.1 hc with rfl | hc
    · exact fun w hb => all14 w (J_below hJ hb)
    rcases List.mem_cons.1 hc with rfl | hc
    · exact fun w hb => all17 w (J_below hJ hb)
    rcases List.mem_cons.1 hc with rfl | hc
    · exact fun w hb => all21 w (J_below hJ hb)
    rcases List.mem_cons.1 hc with rfl | hc
    · exact fun w hb => all22 w (J_below hJ hb)
    rcases List.mem_cons.1 hc with rfl | hc
    · exact fun w hb => all20 w (J_below hJ hb)
    cases hc
  · cases hc
noncomputable def ct5 : Ct := boolCt 5 [.v true .ro ls40, .v false .ro ls9, .v false .ro ls3] (fun (x : Req × S × Int) => p_FnExactNotModified x.1 x.2.1 x.2.2)
theorem law5 : ∀ x : Req × S × Int, p_FnExactNotModified x.1 x.2.1 x.2.2 → s_laws_FnExactNotModified x.1 x.2.1 x.2.2 (fun r => r = true) := fun x h => laws_FnExactNotModified_ok x.1 x.2.1 x.2.2 h
theorem all5 (w : World) (hJ : J w) : CtAt Tryz.prog ct5 w :=
  ct_by ok5 (cs5 w hJ) Tryz.func5 (by kernel_rfl) (H := (hint [])) law5 (by kernel_rfl)
end Go.Proofs.YtlkhfjhnpedabaaGreatDoor.ApN
end
