/- A small verified machine for the operations of the given program, and plain laws of what its functions compute; without conditions of its own. Part 4. -/
import Derived.Test.YtinphipdffikhaaDoorG2
import Derived.Sort.Walk0
import Derived.Lib.AppendIntMem
import Derived.Lib.LaidTab
import Derived.Stop.LaidErr
import Derived.DataReads
import Derived.Lib.Join
import Derived.Lib.SlTrimSet
import Derived.Laws.IdiomStrings
import Derived.Deep.LoopGhost
import Derived.Tactics
import Derived.Tactics2
import Derived.WalkKit
import Derived.RowKit3
import Derived.WideLaws
import Derived.OwnWalk
import Derived.Laws.Slices
import Derived.Laws.Rows
import Derived.Laws.Cells
import Derived.Laws.BytesString
import Derived.Lib.ConvBytes
import Derived.Test.YtinphipdffikhaaDoorShelf
import Derived.Shelf.Strings.SlTrimAscii

section
/- Laws of the plain library, third part: texts out of texts. -/
set_option linter.unusedVariables false
namespace Go.Ev

/-! ### Lower -/
theorem bytesOf_ints (s : S) : bytesOf s = ints s := rfl
theorem lowI (b : UInt8) : ((lowB b).toNat : Int) = if 65 ≤ (b.toNat : Int) ∧ (b.toNat : Int) ≤ 90 then (b.toNat : Int) + 32 else (b.toNat : Int) := by
  unfold lowB
  split
  · next h =>
    rw [if_pos (by omega)]
    have : (b + 32).toNat = b.toNat + 32 := by
      rw [UInt8.toNat_add]
      have : (32 : UInt8).toNat = 32 := rfl
      rw [this]
      omega
    omega
  · next h => rw [if_neg (by omega)]
theorem strOf_map (l : List UInt8) : strOf (l.map fun b => (b.toNat : Int)) = ob l := by
  unfold strOf ob
  congr 2
  rw [List.map_map]
  conv => rhs; rw [← List.map_id l]
  apply List.map_congr_left
  intro b _
  simp
theorem spec_Lower_ok (a0 : S) (h : pLower a0) : s_spec_Lower a0 (fun r => r = mLower a0) := by
  unfold pLower sm at h
  refine ⟨by omega, fun L hL => ?_⟩
  rw [bytesOf_ints]
  let f : List UInt8 → List Int := fun l => l.map fun b => (b.toNat : Int)
  have hl := bs_len a0
  refine loopG hL a0.size (fun i y => y.1 = (i : Int) ∧ y.2 = f (((bs a0).take i).map lowB ++ (bs a0).drop i)) (fun i y hi hI hn => ?_) (s0 := (0, ints a0)) ⟨rfl, by simp [f, ints]⟩
  obtain ⟨y1, y2⟩ := y
  simp only at hI ⊢
  obtain ⟨rfl, rfl⟩ := hI
  have hlen : (f (((bs a0).take i).map lowB ++ (bs a0).drop i)).length = a0.size := by
    simp only [f, List.length_map, List.length_append, List.length_take, List.length_drop]
    omega
  refine ⟨fun hlt => ?_, fun hge => ?_⟩
  · rw [hlen] at hlt ⊢
    have hi2 : i < a0.size := by omega
    have hi3 : i < (bs a0).length := by omega
    have hget : rx (f (((bs a0).take i).map lowB ++ (bs a0).drop i)) (i : Int) = ((bs a0)[i].toNat : Int) := by
      rw [rx_get _ (by rw [hlen]; exact hi2)]
      simp only [f, List.getElem_map]
      rw [List.getElem_append_right (by simp; omega)]
      simp only [List.length_map, List.length_take, List.getElem_drop]
      congr 3
      omega
    have hlow := lowI (bs a0)[i]
    have hb := (bs a0)[i].toNat_lt
    have hset : ∀ v : Int, v = ((lowB (bs a0)[i]).toNat : Int) → (f (((bs a0).take i).map lowB ++ (bs a0).drop i)).set ((i : Int).toNat) v = f (((bs a0).take (i + 1)).map lowB ++ (bs a0).drop (i + 1)) := fun v hv => by
      rw [hv, Int.toNat_natCast, take_succ_app hi3]
      simp only [f, List.map_append, List.map_cons, List.map_nil]
      rw [List.set_append_right _ _ (by simp; omega)]
      simp only [List.length_map, List.length_take]
      rw [show i - min i (bs a0).length = 0 by omega, ← List.getElem_cons_drop (h := hi3)]
      simp
    have hkeep : (bs a0)[i].toNat = (lowB (bs a0)[i]).toNat → f (((bs a0).take i).map lowB ++ (bs a0).drop i) = f (((bs a0).take (i + 1)).map lowB ++ (bs a0).drop (i + 1)) := fun hv => by
      rw [take_succ_app hi3]
      simp only [f, List.map_append, List.map_cons, List.map_nil]
      rw [← List.getElem_cons_drop (h := hi3)]
      simp only [List.map_cons, List.append_assoc, List.cons_append, List.nil_append, hv]
    have hw : IntKind.i64.wrap ((i : Int) + 1) = ((i + 1 : Nat) : Int) := wrapS (by omega)
    rw [hget, hw]
    refine ⟨by omega, by omega, fun h1 => ⟨by omega, by omega, fun h2 => ⟨by omega, by omega, by omega, by omega, ?_⟩, fun h2 => ?_⟩, fun h1 => ?_⟩
    · refine hn _ hi2 ⟨rfl, hset _ ?_⟩
      rw [hlow, if_pos ⟨h1, h2⟩, wrap8 (by omega) (by omega)]
    · refine hn _ hi2 ⟨rfl, hkeep ?_⟩
      rw [if_neg (by omega)] at hlow
      omega
    · refine hn _ hi2 ⟨rfl, hkeep ?_⟩
      rw [if_neg (by omega)] at hlow
      omega
  · rw [hlen] at hge
    have e : i = (bs a0).length := by omega
    rw [e, List.drop_length, List.take_length, List.append_nil]
    exact strOf_map _

/-! ### Joining -/
theorem joinL_snoc (sep : S) : ∀ (vs : List S) (v : S), joinL sep (vs ++ [v]) = if vs = [] then v else joinL sep vs ++ sep ++ v
  | [], v => rfl
  | [x], v => rfl
  | x :: y :: r, v => by
    have ih := joinL_snoc sep (y :: r) v
    simp only [List.cons_append, joinL, reduceCtorEq, if_false] at ih ⊢
    rw [ih]
    apply bs_inj
    simp only [bs_append, List.append_assoc]
theorem joinL_size (sep : S) : ∀ (vs : List S), (joinL sep vs).size ≤ sumN (vs.map fun x => x.size) + vs.length * sep.size
  | [] => by show (lit []).size ≤ _; exact Nat.zero_le _
  | [x] => by simp only [joinL, List.map_cons, List.map_nil, sumN, List.length_singleton]; omega
  | x :: y :: r => by
    have ih := joinL_size sep (y :: r)
    simp only [joinL, size_append, List.map_cons, sumN, List.length_cons] at ih ⊢
    rw [Nat.succ_mul]
    omega
theorem sumN_append : ∀ (a b : List Nat), sumN (a ++ b) = sumN a + sumN b
  | [], b => by simp [sumN]
  | x :: a, b => by simp only [List.cons_append, sumN, sumN_append a b]; omega
theorem valuesOf_bound (n : S) : ∀ (l : List Fld), sumN ((valuesOf l n).map fun x => x.size) + (valuesOf l n).length ≤ cz l
  | [] => by simp [valuesOf, sumN]
  | f :: l => by
    have ih := valuesOf_bound n l
    simp only [valuesOf, cz_list, List.filter_cons, List.length_cons, List.map_cons, sumN, cz_pair, cz_str] at ih ⊢
    split
    · simp only [List.map_cons, sumN, List.length_cons]; omega
    · omega
theorem valuesOf_take (l : List Fld) (n : S) {i : Nat} (h : i < l.length) : valuesOf (l.take (i + 1)) n = if l[i].1 = n then valuesOf (l.take i) n ++ [l[i].2] else valuesOf (l.take i) n := by
  rw [take_succ_app h]
  unfold valuesOf
  rw [List.filter_append, List.map_append]
  by_cases e : l[i].1 = n
  · simp [e]
  · simp [e]
theorem sum_take' {α : Type} (c : α → Nat) (l : List α) (i : Nat) : sumN ((l.take i).map c) ≤ sumN (l.map c) := by
  have h : sumN (l.map c) = sumN ((l.take i).map c) + sumN ((l.drop i).map c) := by
    rw [← sumN_append, ← List.map_append, List.take_append_drop]
  omega
theorem cz_take {α : Type} [Cz α] (l : List α) (i : Nat) : cz (l.take i) ≤ cz l := by
  have h : sumN (l.map cz) = sumN ((l.take i).map cz) + sumN ((l.drop i).map cz) := by
    rw [← sumN_append, ← List.map_append, List.take_append_drop]
  simp only [cz_list, List.length_take]
  omega
theorem sep_size : (lit [44, 32]).size = 2 := rfl
theorem spec_FieldGet_ok (a0 : List Fld) (a1 : S) (h : pFieldGet a0 a1) : s_spec_FieldGet a0 a1 (fun r => r = mFieldGet a0 a1) := by
  intro L hL
  have hlen := md_len' h
  have hb : ∀ i, (joinL (lit [44, 32]) (valuesOf (a0.take i) a1)).size ≤ 3 * 1048576 := fun i => by
    have h1 := joinL_size (lit [44, 32]) (valuesOf (a0.take i) a1)
    have h2 := valuesOf_bound a1 (a0.take i)
    have h3 := cz_take a0 i
    have h4 : cz a0 ≤ 1048576 := h
    rw [sep_size] at h1
    omega
  refine loopG hL a0.length (fun i y => y.2.2 = (i : Int) ∧ y.1 = joinL (lit [44, 32]) (valuesOf (a0.take i) a1) ∧ y.2.1 = decide (valuesOf (a0.take i) a1 ≠ [])) (fun i y hi hI hn => ?_) (s0 := (lit [], false, 0)) ⟨rfl, rfl, rfl⟩
  obtain ⟨y1, y2, y3⟩ := y
  simp only at hI ⊢
  obtain ⟨rfl, rfl, rfl⟩ := hI
  refine ⟨fun hlt => ?_, fun hge => ?_⟩
  · have hi2 : i < a0.length := by omega
    have hv := valuesOf_take a0 a1 hi2
    have hval : cz a0[i] ≤ 1048576 := md_mem h (List.getElem_mem hi2)
    simp only [cz_pair, cz_str] at hval
    have hbi := hb i
    rw [rx_get a0 hi2, wrapS (by omega)]
    refine ⟨by omega, by omega, fun hne => hn _ hi2 ⟨rfl, ?_, ?_⟩, fun heq => ?_⟩
    · rw [hv, if_neg hne]
    · rw [hv, if_neg hne]
    · have heq : a0[i].1 = a1 := Classical.not_not.1 heq
      rw [if_pos heq] at hv
      refine ⟨fun hs => ?_, fun hs => ?_⟩
      · have hs := of_decide_eq_true hs
        refine ⟨by rw [sep_size]; omega, by omega, by omega, by rw [size_append, sep_size]; omega, hn _ hi2 ⟨rfl, ?_, ?_⟩⟩
        · rw [hv, joinL_snoc, if_neg hs]
        · rw [hv]; simp
      · have hs : valuesOf (a0.take i) a1 = [] := by simpa using hs
        refine ⟨by omega, by omega, by omega, hn _ hi2 ⟨rfl, ?_, ?_⟩⟩
        · rw [hv, hs, joinL_snoc, if_pos rfl]
          apply bs_inj; rw [bs_append]; rfl
        · rw [hv]; simp
  · have e : a0.take i = a0 := List.take_of_length_le (by omega)
    rw [e]
    unfold mFieldGet mJoin
    congr 1
    rw [decide_eq_decide]
    rw [List.length_pos_iff]
theorem pJoin_values (a0 : List Fld) (a1 : S) (h : pFieldGet a0 a1) : pJoin (valuesOf a0 a1) (lit [44, 32]) := by
  have h2 := valuesOf_bound a1 a0
  have h4 : cz a0 ≤ 1048576 := h
  exact ⟨by omega, by omega, by rw [sep_size]; omega⟩
theorem impl_FieldGet_ok (a0 : List Fld) (a1 : S) (h : pFieldGet a0 a1) : s_impl_FieldGet a0 a1 (fun r => r = mFieldGet a0 a1) := by
  intro L hL
  have hlen := md_len' h
  refine loopG hL a0.length (fun i y => y.2 = (i : Int) ∧ y.1 = valuesOf (a0.take i) a1) (fun i y hi hI hn => ?_) (s0 := ([], 0)) ⟨rfl, rfl⟩
  obtain ⟨y1, y2⟩ := y
  simp only at hI ⊢
  obtain ⟨rfl, rfl⟩ := hI
  refine ⟨fun hlt => ?_, fun hge => ?_⟩
  · have hi2 : i < a0.length := by omega
    have hv := valuesOf_take a0 a1 hi2
    have h2 := valuesOf_bound a1 (a0.take i)
    have h3 := cz_take a0 i
    have h4 : cz a0 ≤ 1048576 := h
    rw [rx_get a0 hi2, wrapS (by omega)]
    refine ⟨by omega, by omega, fun he => ⟨by simp only [List.length_singleton]; omega, hn _ hi2 ⟨rfl, by rw [hv, if_pos he]⟩⟩, fun hne => hn _ hi2 ⟨rfl, by rw [hv, if_neg hne]⟩⟩
  · have e : a0.take i = a0 := List.take_of_length_le (by omega)
    rw [e]
    refine ⟨pJoin_values a0 a1 h, ?_⟩
    unfold mFieldGet
    congr 1
    rw [decide_eq_decide]
    omega
theorem fieldGet_size (a0 : List Fld) (a1 : S) (h : pFieldGet a0 a1) : (mFieldGet a0 a1).1.size ≤ 3 * 1048576 := by
  have h1 := joinL_size (lit [44, 32]) (valuesOf a0 a1)
  have h2 := valuesOf_bound a1 a0
  have h4 : cz a0 ≤ 1048576 := h
  rw [sep_size] at h1
  unfold mFieldGet mJoin
  simp only
  omega

/-! ### Parts -/
theorem partsL_nil (q : Bool) (cur : List UInt8) : partsL q cur [] = [cur] := by cases q <;> rfl
theorem partsL_one (cur : List UInt8) (b : UInt8) : partsL true cur [b] = [cur ++ [b]] := rfl
theorem partsL_in (cur : List UInt8) (b c : UInt8) (r : List UInt8) : partsL true cur (b :: c :: r) = if b = 34 then partsL false (cur ++ [b]) (c :: r) else if b = 92 then partsL true (cur ++ [b, c]) r else partsL true (cur ++ [b]) (c :: r) := by rw [partsL]
theorem partsL_out (cur : List UInt8) (b : UInt8) (r : List UInt8) : partsL false cur (b :: r) = if b = 34 then partsL true (cur ++ [b]) r else if b = 44 then cur :: partsL false [] r else partsL false (cur ++ [b]) r := by rw [partsL]
theorem partsL_bound : ∀ (q : Bool) (cur l : List UInt8), sumN ((partsL q cur l).map List.length) ≤ cur.length + l.length ∧ (partsL q cur l).length ≤ l.length + 1
  | q, cur, [] => by rw [partsL_nil]; simp [sumN]
  | true, cur, [b] => by rw [partsL_one]; simp [sumN]
  | true, cur, b :: c :: r => by
    rw [partsL_in]
    split
    · have := partsL_bound false (cur ++ [b]) (c :: r)
      simp only [List.length_append, List.length_cons, List.length_nil] at this ⊢
      omega
    · split
      · have := partsL_bound true (cur ++ [b, c]) r
        simp only [List.length_append, List.length_cons, List.length_nil] at this ⊢
        omega
      · have := partsL_bound true (cur ++ [b]) (c :: r)
        simp only [List.length_append, List.length_cons, List.length_nil] at this ⊢
        omega
  | false, cur, b :: r => by
    rw [partsL_out]
    split
    · have := partsL_bound true (cur ++ [b]) r
      simp only [List.length_append, List.length_cons, List.length_nil] at this ⊢
      omega
    · split
      · have := partsL_bound false [] r
        simp only [List.length_append, List.length_cons, List.length_nil, List.map_cons, sumN] at this ⊢
        omega
      · have := partsL_bound false (cur ++ [b]) r
        simp only [List.length_append, List.length_cons, List.length_nil] at this ⊢
        omega
theorem dropWhile_le {α : Type} (p : α → Bool) (l : List α) : (l.dropWhile p).length ≤ l.length := (List.dropWhile_sublist p).length_le
theorem trimS_le (l cs : List UInt8) : (Lib.trimS l cs).length ≤ l.length := by
  unfold Lib.trimS Lib.trimLeftS Lib.trimRightS
  have h1 := dropWhile_le (cs.contains ·) ((l.reverse.dropWhile (cs.contains ·)).reverse)
  have h2 := dropWhile_le (cs.contains ·) l.reverse
  simp only [List.length_reverse] at h1 h2
  omega
theorem mTrim_le (s : S) : (mTrim s).size ≤ s.size := by
  unfold mTrim
  rw [ob_size, ← bs_len]
  exact trimS_le _ _
theorem trimmed_bound : ∀ (l : List (List UInt8)), sumN ((trimmed l).map fun x => x.size) ≤ sumN (l.map List.length) ∧ (trimmed l).length ≤ l.length
  | [] => by simp [trimmed, sumN]
  | p :: l => by
    have ih := trimmed_bound l
    have h := mTrim_le (ob p)
    rw [ob_size] at h
    simp only [trimmed, List.map_cons, List.filter_cons] at ih ⊢
    split
    · simp only [List.map_cons, sumN, List.length_cons]; omega
    · simp only [sumN, List.length_cons]; omega
theorem splitList_bound (s : S) : sumN ((mSplitList s).map fun x => x.size) ≤ s.size ∧ (mSplitList s).length ≤ s.size + 1 := by
  have h1 := partsL_bound false [] (bs s)
  have h2 := trimmed_bound (partsL false [] (bs s))
  rw [bs_len] at h1
  unfold mSplitList
  simp only [List.length_nil] at h1
  omega
theorem splitList_mem {s x : S} (h : x ∈ mSplitList s) : x.size ≤ s.size := by
  have h1 := (splitList_bound s).1
  have h2 := sumN_mem (List.mem_map.2 ⟨x, h, rfl⟩ : x.size ∈ (mSplitList s).map fun x => x.size)
  omega
theorem pJoin_parts (a0 : S) (h : a0.size ≤ 1048576 * 16) : pJoin (mSplitList a0) (lit [44, 32]) := by
  have hb := splitList_bound a0
  exact ⟨by omega, by omega, by rw [sep_size]; omega⟩
theorem impl_Normal_ok (a0 : S) (h : pNormal a0) : s_impl_Normal a0 (fun r => r = mNormal a0) := by
  unfold pNormal at h
  exact ⟨by unfold pSplitList sm; omega, pJoin_parts a0 (by omega), rfl⟩
theorem spec_Normal_ok (a0 : S) (h : pNormal a0) : s_spec_Normal a0 (fun r => r = mNormal a0) := by
  unfold pNormal at h
  refine ⟨by unfold pSplitList sm; omega, fun L hL => ?_⟩
  have hb := splitList_bound a0
  have hsz : ∀ i, (joinL (lit [44, 32]) ((mSplitList a0).take i)).size ≤ a0.size + 2 * (a0.size + 1) := fun i => by
    have h1 := joinL_size (lit [44, 32]) ((mSplitList a0).take i)
    have h2 : sumN (((mSplitList a0).take i).map fun x => x.size) ≤ sumN ((mSplitList a0).map fun x => x.size) := sum_take' (fun x : S => x.size) _ _
    rw [sep_size, List.length_take] at h1
    omega
  refine loopG hL (mSplitList a0).length (fun i y => y.2 = (i : Int) ∧ y.1 = joinL (lit [44, 32]) ((mSplitList a0).take i)) (fun i y hi hI hn => ?_) (s0 := (lit [], 0)) ⟨rfl, rfl⟩
  obtain ⟨y1, y2⟩ := y
  simp only at hI ⊢
  obtain ⟨rfl, rfl⟩ := hI
  have hs := hsz i
  refine ⟨fun hlt => ?_, fun hge => ?_⟩
  · have hi2 : i < (mSplitList a0).length := by omega
    have hx := splitList_mem (List.getElem_mem hi2)
    have hj := joinL_snoc (lit [44, 32]) ((mSplitList a0).take i) (mSplitList a0)[i]
    rw [← take_succ_app hi2] at hj
    rw [rx_get _ hi2, wrapS (by omega)]
    refine ⟨fun h0 => ⟨by rw [sep_size]; omega, by omega, by omega, by rw [size_append, sep_size]; omega, hn _ hi2 ⟨rfl, ?_⟩⟩, fun h0 => ⟨by omega, by omega, by omega, hn _ hi2 ⟨rfl, ?_⟩⟩⟩
    · rw [hj, if_neg]
      intro e
      have := congrArg List.length e
      simp only [List.length_take, List.length_nil] at this
      omega
    · have e : i = 0 := by omega
      subst e
      rw [hj, List.take_zero, if_pos rfl]
      apply bs_inj; rw [bs_append]; rfl
  · have e : (mSplitList a0).take i = mSplitList a0 := List.take_of_length_le (by omega)
    rw [e]; rfl

/-! ### Directives, asked for -/
theorem impl_CcHas_ok' (a0 : List Fld) (a1 : S) (h : pCcHas a0 a1) (hd : (mDirectives a0).length ≤ maxLen) : s_impl_CcHas a0 a1 (fun r => r = mCcHas a0 a1) := ⟨h, hd, rfl⟩
theorem directives_len (a0 : List Fld) (h : pDirectives a0) : (mDirectives a0).length ≤ 3 * 1048576 + 1 := by
  have h1 := List.length_filterMap_le dirOf (mSplitList (mFieldGet a0 nameCC).1)
  have h2 := (splitList_bound (mFieldGet a0 nameCC).1).2
  have h3 := fieldGet_size a0 nameCC h
  unfold mDirectives
  omega
theorem impl_CcHas_ok (a0 : List Fld) (a1 : S) (h : pCcHas a0 a1) : s_impl_CcHas a0 a1 (fun r => r = mCcHas a0 a1) := by
  have hd := directives_len a0 h
  exact ⟨h, by unfold pContainsFunc_CcHas_1; simp only [maxLen]; omega, rfl⟩
theorem spec_CcHas_ok (a0 : List Fld) (a1 : S) (h : pCcHas a0 a1) : s_spec_CcHas a0 a1 (fun r => r = mCcHas a0 a1) := by
  have hd := directives_len a0 h
  refine ⟨h, scanT_ok (C := fun x : Fld => x.1 = a1) (Qh := fun _ => true = mCcHas a0 a1) (by simp only [maxLen]; omega) (fun i hi hc _ => ?_) (fun hx => ?_)⟩
  · unfold mCcHas mCcHas_1
    exact (any_true hi (by simpa using hc)).symm
  · unfold mCcHas mCcHas_1
    exact (List.any_eq_false.2 fun x hx' => by have := hx x hx'; simpa using this).symm
theorem impl_CcHas_1_ok (a0 : Fld) (a1 : S) (h : pCcHas_1 a0 a1) : s_impl_CcHas_1 a0 a1 (fun r => r = mCcHas_1 a0 a1) := rfl
theorem impl_Storable_1_ok (a0 : S) (a1 : Rsp) (h : pStorable_1 a0 a1) : s_impl_Storable_1 a0 a1 (fun r => r = mStorable_1 a0 a1) := ⟨h, rfl⟩
end Go.Ev
end

section
/- Laws of the plain library, fourth part: parts of texts. -/
set_option linter.unusedVariables false
namespace Go.Ev

/-! ### Trim -/
def blk (b : UInt8) : Bool := [(32 : UInt8), 9].contains b
theorem blk_iff (b : UInt8) : blk b = true ↔ mBlank (b.toNat : Int) = true := by
  have h : ∀ n : Fin 256, (blk (UInt8.ofNat n.val) = true) ↔ mBlank (n.val : Int) = true := by decide +kernel
  have := h ⟨b.toNat, b.toNat_lt⟩
  simpa using this
theorem trimS_cons {b : UInt8} (h : blk b = true) (l : List UInt8) : Lib.trimS (b :: l) [32, 9] = Lib.trimS l [32, 9] := by
  have h' : [(32 : UInt8), 9].contains b = true := h
  unfold Lib.trimS Lib.trimLeftS Lib.trimRightS
  rw [List.reverse_cons, List.dropWhile_append]
  split
  · next hd =>
    have hd : l.reverse.dropWhile (fun x => [(32 : UInt8), 9].contains x) = [] := by simpa using hd
    rw [hd]
    have : List.dropWhile (fun x => [(32 : UInt8), 9].contains x) [b] = [] := by
      rw [List.dropWhile_cons, if_pos h']; rfl
    rw [this]
  · rw [List.reverse_append, List.reverse_singleton, List.singleton_append, List.dropWhile_cons, if_pos h']
theorem trimS_snoc {b : UInt8} (h : blk b = true) (l : List UInt8) : Lib.trimS (l ++ [b]) [32, 9] = Lib.trimS l [32, 9] := by
  have h' : [(32 : UInt8), 9].contains b = true := h
  unfold Lib.trimS Lib.trimRightS
  rw [List.reverse_append, List.reverse_singleton, List.singleton_append, List.dropWhile_cons, if_pos h']
theorem trimS_id {l : List UInt8} (h0 : ∀ b, l.head? = some b → blk b = false) (h1 : ∀ b, l.getLast? = some b → blk b = false) : Lib.trimS l [32, 9] = l := by
  have key : ∀ l : List UInt8, (∀ b, l.head? = some b → blk b = false) → l.dropWhile (fun x => [(32 : UInt8), 9].contains x) = l := fun l h => by
    cases l with
    | nil => rfl
    | cons b r =>
      rw [List.dropWhile_cons, if_neg]
      have := h b rfl
      unfold blk at this
      rw [this]; simp
  unfold Lib.trimS Lib.trimLeftS Lib.trimRightS
  rw [key l.reverse (fun b hb => h1 b (by rw [List.head?_reverse] at hb; exact hb)), List.reverse_reverse, key l h0]
theorem bs_ext {s t : S} : s = t ↔ bs s = bs t := ⟨fun h => by rw [h], bs_inj⟩
theorem spec_Trim_ok (a0 : S) (h : pTrim a0) : s_spec_Trim a0 (fun r => r = mTrim a0) := by
  unfold pTrim sm at h
  -- the second loop
  have back : ∀ y : S, y.size ≤ a0.size → mTrim y = mTrim a0 → (∀ b, (bs y).head? = some b → blk b = false) → ∀ L2 : S → Prop,
      (∀ y3 : S, ((0 < (y3.size : Int) → 0 ≤ IntKind.i64.wrap ((y3.size : Int) - 1) ∧ IntKind.i64.wrap ((y3.size : Int) - 1) < (y3.size : Int) ∧ pBlank (bt y3 (IntKind.i64.wrap ((y3.size : Int) - 1))) ∧
          (mBlank (bt y3 (IntKind.i64.wrap ((y3.size : Int) - 1))) = true → 0 ≤ IntKind.i64.wrap ((y3.size : Int) - 1) ∧ IntKind.i64.wrap ((y3.size : Int) - 1) ≤ (y3.size : Int) ∧ L2 (y3.extract 0 (IntKind.i64.wrap ((y3.size : Int) - 1)).toNat)) ∧
          (¬ mBlank (bt y3 (IntKind.i64.wrap ((y3.size : Int) - 1))) = true → y3 = mTrim a0)) ∧
        (¬ 0 < (y3.size : Int) → y3 = mTrim a0)) → L2 y3) → L2 y := by
    intro y hy hm hh L2 hL
    refine loopI hL (fun y => y.size ≤ a0.size ∧ mTrim y = mTrim a0 ∧ ∀ b, (bs y).head? = some b → blk b = false) (fun y => y.size) (fun y ⟨hy, hm, hh⟩ ih => ?_) y ⟨hy, hm, hh⟩
    refine ⟨fun h0 => ?_, fun h0 => ?_⟩
    · have hpos : 0 < y.size := by omega
      have hw : IntKind.i64.wrap ((y.size : Int) - 1) = ((y.size - 1 : Nat) : Int) := by rw [wrap64 (by omega) (by omega)]; omega
      rw [hw]
      have hlen := bs_len y
      have hb := bt_nat y (y.size - 1) (by omega)
      have hlast : (bs y).getLast? = some ((bs y)[y.size - 1]'(by omega)) := by
        rw [List.getLast?_eq_getElem?]
        simp only [hlen]
        exact List.getElem?_eq_getElem _
      refine ⟨by omega, by omega, trivial, fun hbl => ⟨by omega, by omega, ?_⟩, fun hbl => ?_⟩
      · rw [Int.toNat_natCast]
        have hcut : bs (y.extract 0 (y.size - 1)) = (bs y).take (y.size - 1) := by rw [bs_extract]; simp
        have hspl : bs y = (bs y).take (y.size - 1) ++ [(bs y)[y.size - 1]'(by omega)] := by
          rw [← take_succ_app (by omega), List.take_of_length_le (by omega)]
        refine ih _ ⟨?_, ?_, fun b hb2 => ?_⟩ ?_
        · rw [← bs_len, hcut, List.length_take]; omega
        · rw [← hm]
          unfold mTrim
          rw [hcut]
          conv => rhs; rw [hspl]
          rw [trimS_snoc]
          rw [blk_iff, ← hb]; exact hbl
        · rw [hcut] at hb2
          refine hh b ?_
          rw [hspl]
          cases hx : (bs y).take (y.size - 1) with
          | nil => rw [hx] at hb2; cases hb2
          | cons c r => rw [hx] at hb2; simpa using hb2
        · rw [← bs_len, hcut, List.length_take]; omega
      · rw [← hm]
        unfold mTrim
        rw [trimS_id hh]
        · rfl
        · intro b hb2
          rw [hlast] at hb2
          injection hb2 with hb2
          rw [← hb2]
          cases hx : blk (bs y)[y.size - 1] with
          | false => rfl
          | true =>
            rw [blk_iff, ← hb] at hx
            exact absurd hx hbl
    · rw [← hm]
      have : bs y = [] := List.eq_nil_of_length_eq_zero (by rw [bs_len]; omega)
      apply bs_inj
      unfold mTrim
      rw [this]; rfl
  intro L hL
  refine loopI hL (fun y => y.size ≤ a0.size ∧ mTrim y = mTrim a0) (fun y => y.size) (fun y ⟨hy, hm⟩ ih => ?_) a0 ⟨Nat.le_refl _, rfl⟩
  have hlen := bs_len y
  refine ⟨fun h0 => ?_, fun h0 => ?_⟩
  · have hpos : 0 < y.size := by omega
    have hb := bt_nat y 0 hpos
    have hcons : bs y = (bs y)[0]'(by omega) :: (bs y).drop 1 := by
      conv => lhs; rw [← List.drop_zero (l := bs y)]
      exact (List.getElem_cons_drop (h := by omega)).symm
    refine ⟨by omega, by omega, trivial, fun hbl => ⟨by omega, by omega, ?_⟩, fun hbl L2 hL2 => ?_⟩
    · have hcut : bs (y.extract ((1 : Int).toNat) y.size) = (bs y).drop 1 := by
        rw [bs_extract]
        exact List.take_of_length_le (by rw [List.length_drop, hlen]; omega)
      refine ih _ ⟨?_, ?_⟩ ?_
      · rw [← bs_len, hcut, List.length_drop]; omega
      · rw [← hm]
        unfold mTrim
        rw [hcut]
        conv => rhs; rw [hcons]
        rw [trimS_cons]
        rw [blk_iff, ← hb]; exact hbl
      · rw [← bs_len, hcut, List.length_drop]; omega
    · refine back y hy hm (fun b hb2 => ?_) L2 hL2
      rw [hcons] at hb2
      injection hb2 with hb2
      rw [← hb2]
      cases hx : blk (bs y)[0] with
      | false => rfl
      | true =>
        rw [blk_iff, ← hb] at hx
        exact absurd hx hbl
  · intro L2 hL2
    refine back y hy hm (fun b hb2 => ?_) L2 hL2
    have : bs y = [] := List.eq_nil_of_length_eq_zero (by omega)
    rw [this] at hb2; cases hb2

/-! ### Names, each once -/
theorem onceL_append : ∀ (out a b : List S), onceL out (a ++ b) = onceL (onceL out a) b
  | out, [], b => rfl
  | out, x :: a, b => by
    simp only [List.cons_append, onceL]
    exact onceL_append _ a b
theorem onceL_len : ∀ (out a : List S), (onceL out a).length ≤ out.length + a.length
  | out, [] => by simp [onceL]
  | out, x :: a => by
    simp only [onceL, List.length_cons]
    have := onceL_len (if out.any (fun y => decide (x = y)) then out else out ++ [x]) a
    split at this
    · rename_i h; rw [if_pos h]; omega
    · rename_i h; rw [if_neg h]; simp only [List.length_append, List.length_singleton] at this; omega
theorem onceL_snoc (out l : List S) (x : S) : onceL out (l ++ [x]) = if (onceL out l).any (fun y => decide (x = y)) then onceL out l else onceL out l ++ [x] := by
  rw [onceL_append]; rfl
theorem impl_VaryNames_ok (a0 : Rsp) (h : pVaryNames a0) : s_impl_VaryNames a0 (fun r => r = mVaryNames a0) := by
  have hc : lit [118, 97, 114, 121] = sVary := rfl
  unfold s_impl_VaryNames
  rw [hc]
  have hf := fieldGet_size a0.2.1 sVary h
  have hsp := splitList_bound (mFieldGet a0.2.1 sVary).1
  refine ⟨h, by unfold pSplitList sm; omega, fun L hL => ?_⟩
  generalize hl : mSplitList (mFieldGet a0.2.1 sVary).1 = l at hL hsp
  have hm : mVaryNames a0 = onceL [] (l.map mLower) := by unfold mVaryNames; rw [hl]
  have hmem : ∀ x ∈ l, sm x := fun x hx => by
    rw [← hl] at hx
    have := splitList_mem hx
    unfold sm; omega
  refine loopG hL l.length (fun i y => y.2 = (i : Int) ∧ y.1 = onceL [] ((l.take i).map mLower)) (fun i y hi hI hn => ?_) (s0 := ([], 0)) ⟨rfl, rfl⟩
  obtain ⟨y1, y2⟩ := y
  simp only at hI ⊢
  obtain ⟨rfl, rfl⟩ := hI
  have hlen := onceL_len [] ((l.take i).map mLower)
  simp only [List.length_nil, List.length_map, List.length_take] at hlen
  refine ⟨fun hlt => ?_, fun hge => ?_⟩
  · have hi2 : i < l.length := by omega
    have hs := onceL_snoc [] ((l.take i).map mLower) (mLower l[i])
    rw [← List.map_singleton (f := mLower), ← List.map_append, ← take_succ_app hi2] at hs
    rw [rx_get _ hi2, wrapS (by omega)]
    refine ⟨by omega, by omega, hmem _ (List.getElem_mem hi2), by unfold pContains_string; simp only [maxLen]; omega, fun hc => ⟨by simp only [List.length_singleton]; omega, hn _ hi2 ⟨rfl, ?_⟩⟩, fun hc => hn _ hi2 ⟨rfl, ?_⟩⟩
    · unfold mContains_string at hc
      rw [hs, if_neg hc]; rfl
    · unfold mContains_string at hc
      rw [hs, if_pos (Classical.not_not.1 hc)]
  · have e : l.take i = l := List.take_of_length_le (by omega)
    rw [e, hm]
theorem spec_VaryNames_ok (a0 : Rsp) (h : pVaryNames a0) : s_spec_VaryNames a0 (fun r => r = mVaryNames a0) := by
  have hc : lit [118, 97, 114, 121] = sVary := rfl
  unfold s_spec_VaryNames
  rw [hc]
  have hf := fieldGet_size a0.2.1 sVary h
  have hsp := splitList_bound (mFieldGet a0.2.1 sVary).1
  refine ⟨h, by unfold pSplitList sm; omega, fun L hL => ?_⟩
  generalize hl : mSplitList (mFieldGet a0.2.1 sVary).1 = l at hL hsp
  have hm : mVaryNames a0 = onceL [] (l.map mLower) := by unfold mVaryNames; rw [hl]
  have hmem : ∀ x ∈ l, sm x := fun x hx => by
    rw [← hl] at hx
    have := splitList_mem hx
    unfold sm; omega
  refine loopG hL l.length (fun i y => y.2 = (i : Int) ∧ y.1 = onceL [] ((l.take i).map mLower)) (fun i y hi hI hn => ?_) (s0 := ([], 0)) ⟨rfl, rfl⟩
  obtain ⟨y1, y2⟩ := y
  simp only at hI ⊢
  obtain ⟨rfl, rfl⟩ := hI
  have hlen := onceL_len [] ((l.take i).map mLower)
  simp only [List.length_nil, List.length_map, List.length_take] at hlen
  refine ⟨fun hlt => ?_, fun hge => ?_⟩
  · have hi2 : i < l.length := by omega
    have hs := onceL_snoc [] ((l.take i).map mLower) (mLower l[i])
    rw [← List.map_singleton (f := mLower), ← List.map_append, ← take_succ_app hi2] at hs
    rw [rx_get _ hi2, wrapS (by omega)]
    refine ⟨by omega, by omega, hmem _ (List.getElem_mem hi2), fun L2 hL2 => ?_⟩
    generalize ho : onceL [] ((l.take i).map mLower) = out at hL2 hs hlen
    refine loopG hL2 out.length (fun k y => y.2 = (k : Int) ∧ y.1 = (out.take k).any (fun y => decide (mLower l[i] = y))) (fun k y hk hI2 hn2 => ?_) (s0 := (false, 0)) ⟨rfl, rfl⟩
    obtain ⟨y3, y4⟩ := y
    simp only at hI2 ⊢
    obtain ⟨rfl, rfl⟩ := hI2
    refine ⟨fun hlt2 => ?_, fun hge2 => ?_⟩
    · have hk2 : k < out.length := by omega
      have ht : (out.take (k + 1)).any (fun y => decide (mLower l[i] = y)) = ((out.take k).any (fun y => decide (mLower l[i] = y)) || decide (mLower l[i] = out[k])) := by
        rw [take_succ_app hk2, List.any_append]; simp
      rw [wrapS (by omega)]
      refine ⟨fun hc => hn2 _ hk2 ⟨rfl, by rw [ht, hc]; rfl⟩, fun hc => ⟨by omega, by omega, hn2 _ hk2 ⟨rfl, ?_⟩⟩⟩
      rw [ht, rx_get out hk2]
      rw [Bool.not_eq_true] at hc
      rw [hc, Bool.false_or]
      exact decide_eq_decide.2 ⟨Eq.symm, Eq.symm⟩
    · have e : out.take k = out := List.take_of_length_le (by omega)
      rw [e]
      refine ⟨fun hc => ⟨by simp only [List.length_singleton]; omega, hn _ hi2 ⟨rfl, ?_⟩⟩, fun hc => hn _ hi2 ⟨rfl, ?_⟩⟩
      · rw [hs, if_neg hc]; rfl
      · rw [hs, if_pos (Classical.not_not.1 hc)]
  · have e : l.take i = l := List.take_of_length_le (by omega)
    rw [e, hm]
theorem varyNames_len (r : Rsp) (h : pVaryNames r) : (mVaryNames r).length ≤ 3 * 1048576 + 1 := by
  have hf := fieldGet_size r.2.1 sVary h
  have hsp := splitList_bound (mFieldGet r.2.1 sVary).1
  have := onceL_len [] ((mSplitList (mFieldGet r.2.1 sVary).1).map mLower)
  simp only [List.length_nil, List.length_map] at this
  unfold mVaryNames
  omega
theorem filterMap_take {α β : Type} (f : α → Option β) (l : List α) {i : Nat} (h : i < l.length) : (l.take (i + 1)).filterMap f = (l.take i).filterMap f ++ (match f l[i] with | some y => [y] | none => []) := by
  rw [take_succ_app h, List.filterMap_append]
  congr 1
  cases hf : f l[i] with
  | none => simp [hf]
  | some y => simp [hf]
theorem spec_Picked_ok (a0 : Req) (a1 : Rsp) (h : pPicked a0 a1) : s_spec_Picked a0 a1 (fun r => r = mPicked a0 a1) := by
  have hv := varyNames_len a1 h.2
  refine ⟨h.2, fun L hL => ?_⟩
  refine loopG hL (mVaryNames a1).length (fun i y => y.2 = (i : Int) ∧ y.1 = ((mVaryNames a1).take i).filterMap (pickOf a0)) (fun i y hi hI hn => ?_) (s0 := ([], 0)) ⟨rfl, rfl⟩
  obtain ⟨y1, y2⟩ := y
  simp only at hI ⊢
  obtain ⟨rfl, rfl⟩ := hI
  have hlen := List.length_filterMap_le (pickOf a0) ((mVaryNames a1).take i)
  rw [List.length_take] at hlen
  refine ⟨fun hlt => ?_, fun hge => ?_⟩
  · have hi2 : i < (mVaryNames a1).length := by omega
    have hs := filterMap_take (pickOf a0) (mVaryNames a1) hi2
    have hsz := fieldGet_size a0.2.2.1 (mVaryNames a1)[i] h.1
    rw [rx_get _ hi2, wrapS (by omega)]
    refine ⟨by omega, by omega, h.1, fun hc => ?_, fun hc => hn _ hi2 ⟨rfl, ?_⟩⟩
    · refine ⟨by omega, by omega, by unfold pNormal; omega, by simp only [List.length_singleton]; omega, hn _ hi2 ⟨rfl, ?_⟩⟩
      rw [hs]
      unfold pickOf
      rw [if_pos hc]
    · rw [hs]
      have : pickOf a0 (mVaryNames a1)[i] = none := by unfold pickOf; rw [if_neg hc]
      rw [this]; simp
  · have e : (mVaryNames a1).take i = mVaryNames a1 := List.take_of_length_le (by omega)
    rw [e]; rfl
theorem impl_Picked_ok (a0 : Req) (a1 : Rsp) (h : pPicked a0 a1) : s_impl_Picked a0 a1 (fun r => r = mPicked a0 a1) := by
  have hv := varyNames_len a1 h.2
  refine ⟨h.2, fun L hL => ?_⟩
  refine loopG hL (mVaryNames a1).length (fun i y => y.2 = (i : Int) ∧ y.1 = ((mVaryNames a1).take i).filterMap (pickOf a0)) (fun i y hi hI hn => ?_) (s0 := ([], 0)) ⟨rfl, rfl⟩
  obtain ⟨y1, y2⟩ := y
  simp only at hI ⊢
  obtain ⟨rfl, rfl⟩ := hI
  have hlen := List.length_filterMap_le (pickOf a0) ((mVaryNames a1).take i)
  rw [List.length_take] at hlen
  refine ⟨fun hlt => ?_, fun hge => ?_⟩
  · have hi2 : i < (mVaryNames a1).length := by omega
    have hs := filterMap_take (pickOf a0) (mVaryNames a1) hi2
    have hsz := fieldGet_size a0.2.2.1 (mVaryNames a1)[i] h.1
    rw [rx_get _ hi2, wrapS (by omega)]
    refine ⟨by omega, by omega, h.1, fun hc => ?_, fun hc => hn _ hi2 ⟨rfl, ?_⟩⟩
    · refine ⟨by unfold pNormal; omega, by simp only [List.length_singleton]; omega, hn _ hi2 ⟨rfl, ?_⟩⟩
      rw [hs]
      unfold pickOf
      rw [if_pos hc]
    · rw [hs]
      have : pickOf a0 (mVaryNames a1)[i] = none := by unfold pickOf; rw [if_neg hc]
      rw [this]; simp
  · have e : (mVaryNames a1).take i = mVaryNames a1 := List.take_of_length_le (by omega)
    rw [e]; rfl
theorem picked_len (q : Req) (r : Rsp) (h : pPicked q r) : (mPicked q r).length ≤ 3 * 1048576 + 1 := by
  have := List.length_filterMap_le (pickOf q) (mVaryNames r)
  have := varyNames_len r h.2
  unfold mPicked
  omega
theorem spec_VaryFits_ok (a0 : Req) (a1 : Rsp) (a2 : List Fld) (h : pVaryFits a0 a1 a2) : s_spec_VaryFits a0 a1 a2 (fun r => r = mVaryFits a0 a1 a2) := by
  have := picked_len a0 a1 h
  exact ⟨h, by unfold pSameFields; simp only [maxLen]; omega, rfl⟩
theorem impl_VaryFits_ok (a0 : Req) (a1 : Rsp) (a2 : List Fld) (h : pVaryFits a0 a1 a2) : s_impl_VaryFits a0 a1 a2 (fun r => r = mVaryFits a0 a1 a2) := spec_VaryFits_ok a0 a1 a2 h
end Go.Ev
end

section
/- Laws of the plain library: the origin. -/
set_option linter.unusedVariables false
namespace Go.Ev
theorem bytesLess_not : ∀ x y : List UInt8, Op.bytesLess x y = false ↔ (Op.bytesLess y x = true ∨ x = y)
  | [], [] => by simp [Op.bytesLess]
  | [], b :: y => by simp [Op.bytesLess]
  | a :: x, [] => by simp [Op.bytesLess]
  | a :: x, b :: y => by
    have ih := bytesLess_not x y
    simp only [Op.bytesLess, Bool.or_eq_false_iff, Bool.and_eq_false_iff, Bool.or_eq_true, Bool.and_eq_true, decide_eq_true_eq, decide_eq_false_iff_not, beq_iff_eq, List.cons.injEq, beq_eq_false_iff_ne, ne_eq]
    rcases Nat.lt_trichotomy a.toNat b.toNat with h | h | h
    · have h1 : a < b := h
      have h2 : ¬ b < a := by show ¬ b.toNat < a.toNat; omega
      have h3 : a ≠ b := by rintro rfl; omega
      have h4 : b ≠ a := fun e => h3 e.symm
      simp [h1, h2, h3, h4]
    · have e : a = b := UInt8.toNat_inj.1 h
      subst e
      have h1 : ¬ a < a := by show ¬ a.toNat < a.toNat; omega
      simp [h1, ih]
    · have h1 : ¬ a < b := by show ¬ a.toNat < b.toNat; omega
      have h2 : b < a := h
      have h3 : a ≠ b := by rintro rfl; omega
      simp [h1, h2, h3]
theorem strLt_not (x y : S) : (strLt y x ∨ x = y) ↔ ¬ strLt x y := by
  unfold strLt
  rw [Bool.not_eq_true, bytesLess_not]
  refine or_congr Iff.rfl ⟨fun h => h ▸ rfl, fun h => ?_⟩
  exact bs_inj (by rw [ByteArray.toList_eq, ByteArray.toList_eq] at h; exact h)
theorem org_mem {o : List Rsc} (h : md o) {i : Nat} (hi : i < o.length) : md (rx o (i : Int)) := by
  rw [rx_nat o i hi]
  unfold md at h ⊢
  have := cz_mem (List.getElem_mem hi : o[i] ∈ o)
  omega
open Classical in
theorem org_false {o : List Rsc} {i : Nat} (hi : i < o.length) (h : ¬ orgAt o i) : false = mOriginOk o := by
  unfold mOriginOk
  rw [decide_eq_false (fun hh => h (hh.1 i hi))]
open Classical in
theorem org_end {o : List Rsc} (h : ∀ i, i < o.length → orgAt o i) : decide ((o.length : Int) ≤ 8) = mOriginOk o := by
  unfold mOriginOk
  by_cases hl : o.length ≤ 8
  · rw [decide_eq_true (by omega), decide_eq_true ⟨h, hl⟩]
  · rw [decide_eq_false (by omega), decide_eq_false (fun hh => hl hh.2)]
theorem org_parts {o : List Rsc} (h : md o) {i : Nat} (hi : i < o.length) : pUriOk (rx o (i : Int)).1 ∧ pOwnFields (rx o (i : Int)).2.2.2.2.2.2 := by
  have := org_mem h hi
  unfold md at this
  simp only [cz_pair] at this
  unfold pUriOk pOwnFields sm md
  have h1 : cz (rx o (i : Int)).1 = (rx o (i : Int)).1.size := rfl
  constructor <;> omega
theorem impl_OriginOk_ok (a0 : List Rsc) (h : pOriginOk a0) : s_impl_OriginOk a0 (fun r => r = mOriginOk a0) := by
  have hl : a0.length ≤ 1048576 := Nat.le_trans (cz_len a0) h
  intro L hL
  refine loopN hL a0.length (by omega) (fun i => ∀ j, j < i → orgAt a0 j) (fun i hi hI ih => ?_) (fun j hj => by omega)
  refine ⟨fun hlt => ?_, fun hge => org_end (fun j hj => hI j (by omega))⟩
  have hlt : i < a0.length := by omega
  obtain ⟨p1, p2⟩ := org_parts h hlt
  have hprev : 0 < (i : Int) → IntKind.i64.wrap ((i : Int) - 1) = ((i - 1 : Nat) : Int) := fun h0 => by rw [wrap64 (by omega) (by omega)]; omega
  have next : orgAt a0 i → L (IntKind.i64.wrap ((i : Int) + 1)) := fun ho => ih hlt (fun j hj => by
    by_cases e : j = i
    · subst e; exact ho
    · exact hI j (by omega))
  have nil : ∀ {P : Prop}, ¬ orgAt a0 i → false = mOriginOk a0 := fun hn => org_false hlt hn
  unfold orgAt resOk at next nil
  simp only [Bool.and_eq_true, decide_eq_true_eq] at next nil
  refine ⟨by omega, by omega, p1, fun c => org_false hlt (fun ho => ?_), fun c1 => ⟨fun h0 => ?_, fun h0 => ?_⟩⟩
  · unfold orgAt resOk at ho; simp only [Bool.and_eq_true] at ho; exact c ho.1.1.1.1.1.1
  · rw [hprev h0]
    refine ⟨by omega, by omega, fun c => org_false hlt (fun ho => ?_), fun c2 => ?_⟩
    · rcases ho.2 with ho | ho
      · omega
      · exact c ho
    · refine ⟨fun c => org_false hlt (fun ho => ?_), fun c3 => ⟨trivial, fun c => org_false hlt (fun ho => ?_), fun c4 => ⟨trivial, fun c => org_false hlt (fun ho => ?_), fun c5 => ⟨fun c => org_false hlt (fun ho => ?_), fun c6 => ⟨p2, fun c => org_false hlt (fun ho => ?_), fun c7 => next ?_⟩⟩⟩⟩⟩
      all_goals first
        | (unfold orgAt resOk at ho; simp only [Bool.and_eq_true, decide_eq_true_eq] at ho; obtain ⟨⟨⟨⟨⟨⟨ho1, ho2⟩, ho3⟩, ho4⟩, ho5⟩, ho6⟩, -⟩ := ho; first | omega | exact c ho3 | exact c ho4 | exact c ho6)
        | exact ⟨⟨⟨⟨⟨⟨Classical.not_not.1 c1, by omega⟩, Classical.not_not.1 c4⟩, Classical.not_not.1 c5⟩, by omega⟩, Classical.not_not.1 c7⟩, Or.inr (Classical.not_not.1 c2)⟩
  · have hz : i = 0 := by omega
    refine ⟨fun c => org_false hlt (fun ho => ?_), fun c3 => ⟨trivial, fun c => org_false hlt (fun ho => ?_), fun c4 => ⟨trivial, fun c => org_false hlt (fun ho => ?_), fun c5 => ⟨fun c => org_false hlt (fun ho => ?_), fun c6 => ⟨p2, fun c => org_false hlt (fun ho => ?_), fun c7 => next ?_⟩⟩⟩⟩⟩
    all_goals first
      | (unfold orgAt resOk at ho; simp only [Bool.and_eq_true, decide_eq_true_eq] at ho; obtain ⟨⟨⟨⟨⟨⟨ho1, ho2⟩, ho3⟩, ho4⟩, ho5⟩, ho6⟩, -⟩ := ho; first | omega | exact c ho3 | exact c ho4 | exact c ho6)
      | exact ⟨⟨⟨⟨⟨⟨Classical.not_not.1 c1, by omega⟩, Classical.not_not.1 c4⟩, Classical.not_not.1 c5⟩, by omega⟩, Classical.not_not.1 c7⟩, Or.inl hz⟩
theorem spec_OriginOk_ok (a0 : List Rsc) (h : pOriginOk a0) : s_spec_OriginOk a0 (fun r => r = mOriginOk a0) := by
  have hl : a0.length ≤ 1048576 := Nat.le_trans (cz_len a0) h
  intro L hL
  refine loopN hL a0.length (by omega) (fun i => ∀ j, j < i → orgAt a0 j) (fun i hi hI ih => ?_) (fun j hj => by omega)
  refine ⟨fun hlt => ?_, fun hge => org_end (fun j hj => hI j (by omega))⟩
  have hlt : i < a0.length := by omega
  obtain ⟨p1, p2⟩ := org_parts h hlt
  have hprev : 0 < (i : Int) → IntKind.i64.wrap ((i : Int) - 1) = ((i - 1 : Nat) : Int) := fun h0 => by rw [wrap64 (by omega) (by omega)]; omega
  have next : orgAt a0 i → L (IntKind.i64.wrap ((i : Int) + 1)) := fun ho => ih hlt (fun j hj => by
    by_cases e : j = i
    · subst e; exact ho
    · exact hI j (by omega))
  unfold orgAt resOk at next
  simp only [Bool.and_eq_true, decide_eq_true_eq] at next
  refine ⟨by omega, by omega, p1, fun c => org_false hlt (fun ho => ?_), fun c1 => ⟨fun c => org_false hlt (fun ho => ?_), fun c3 => ⟨trivial, fun c => org_false hlt (fun ho => ?_), fun c4 => ⟨trivial, fun c => org_false hlt (fun ho => ?_), fun c5 => ⟨p2, fun c => org_false hlt (fun ho => ?_), fun c7 => ⟨fun c => org_false hlt (fun ho => ?_), fun c6 => ⟨fun h0 => ?_, fun h0 => next ?_⟩⟩⟩⟩⟩⟩⟩
  case _ => unfold orgAt resOk at ho; simp only [Bool.and_eq_true] at ho; exact c ho.1.1.1.1.1.1
  case _ => unfold orgAt resOk at ho; simp only [Bool.and_eq_true, decide_eq_true_eq] at ho; have := ho.1.1.1.1.1.2; omega
  case _ => unfold orgAt resOk at ho; simp only [Bool.and_eq_true, decide_eq_true_eq] at ho; exact c ho.1.1.1.1.2
  case _ => unfold orgAt resOk at ho; simp only [Bool.and_eq_true, decide_eq_true_eq] at ho; exact c ho.1.1.1.2
  case _ => unfold orgAt resOk at ho; simp only [Bool.and_eq_true, decide_eq_true_eq] at ho; exact c ho.1.2
  case _ => unfold orgAt resOk at ho; simp only [Bool.and_eq_true, decide_eq_true_eq] at ho; have := ho.1.1.2; omega
  case _ =>
    rw [hprev h0]
    refine ⟨by omega, by omega, fun c => org_false hlt (fun ho => ?_), fun c2 => next ⟨⟨⟨⟨⟨⟨Classical.not_not.1 c1, by omega⟩, Classical.not_not.1 c4⟩, Classical.not_not.1 c5⟩, by omega⟩, Classical.not_not.1 c7⟩, Or.inr ?_⟩⟩
    · rcases ho.2 with ho | ho
      · omega
      · exact (strLt_not _ _).1 (c.imp id Eq.symm) ho
    · exact Classical.byContradiction fun hn => c2 (((strLt_not _ _).2 hn).imp id Eq.symm)
  case _ => exact ⟨⟨⟨⟨⟨⟨Classical.not_not.1 c1, by omega⟩, Classical.not_not.1 c4⟩, Classical.not_not.1 c5⟩, by omega⟩, Classical.not_not.1 c7⟩, Or.inl (by omega)⟩
end Go.Ev
end

section
/- What the laws' functions come to: printed by a program of this session's own (EwShow) out of the small machine. -/
set_option linter.unusedVariables false
namespace Go.Ev

def s_laws_FnExactFilled (a0 : Shd) (Q : (Bool → Prop)) : Prop :=
  pSz a0 1048576 ∧
  ((szF a0 1048576) < 0 →
    (Q true)) ∧
  (¬ ((szF a0 1048576) < 0) →
    pTo a0 ∧
    pFilled (toF a0) ∧
    pTo a0 ∧
    pFilled (toF a0) ∧
    ((mFilled (toF a0)) ≠ (mFilled (toF a0)) →
      (Q false)) ∧
    (¬ ((mFilled (toF a0)) ≠ (mFilled (toF a0))) →
      pTo a0 ∧
      pEq (toF a0) (toF a0) ∧
      (¬ ((eqF (toF a0) (toF a0)) = true) →
        (Q false)) ∧
      (¬ (¬ ((eqF (toF a0) (toF a0)) = true)) →
        (Q true))))

def s_laws_FnExactMayShare (a0 : Req) (a1 : Flt) (a2 : Int) (Q : (Bool → Prop)) : Prop :=
  pSz a0 1048576 ∧
  ((szF a0 1048576) < 0 →
    (Q true)) ∧
  (¬ ((szF a0 1048576) < 0) →
    pSz a1 (szF a0 1048576) ∧
    ((szF a1 (szF a0 1048576)) < 0 →
      (Q true)) ∧
    (¬ ((szF a1 (szF a0 1048576)) < 0) →
      pTo a0 ∧
      pTo a1 ∧
      pMayShare (toF a0) (toF a1) a2 ∧
      pTo a0 ∧
      pTo a1 ∧
      pMayShare (toF a0) (toF a1) a2 ∧
      ((mMayShare (toF a0) (toF a1) a2) ≠ (mMayShare (toF a0) (toF a1) a2) →
        (Q false)) ∧
      (¬ ((mMayShare (toF a0) (toF a1) a2) ≠ (mMayShare (toF a0) (toF a1) a2)) →
        pTo a0 ∧
        pEq (toF a0) (toF a0) ∧
        (¬ ((eqF (toF a0) (toF a0)) = true) →
          (Q false)) ∧
        (¬ (¬ ((eqF (toF a0) (toF a0)) = true)) →
          pTo a1 ∧
          pEq (toF a1) (toF a1) ∧
          (¬ ((eqF (toF a1) (toF a1)) = true) →
            (Q false)) ∧
          (¬ (¬ ((eqF (toF a1) (toF a1)) = true)) →
            (Q true))))))

def s_laws_FnExactOnlyStored (a0 : Req) (Q : (Bool → Prop)) : Prop :=
  pSz a0 1048576 ∧
  ((szF a0 1048576) < 0 →
    (Q true)) ∧
  (¬ ((szF a0 1048576) < 0) →
    pTo a0 ∧
    pOnlyStored (toF a0) ∧
    pTo a0 ∧
    pOnlyStored (toF a0) ∧
    ((mOnlyStored (toF a0)) ≠ (mOnlyStored (toF a0)) →
      (Q false)) ∧
    (¬ ((mOnlyStored (toF a0)) ≠ (mOnlyStored (toF a0))) →
      pTo a0 ∧
      pEq (toF a0) (toF a0) ∧
      (¬ ((eqF (toF a0) (toF a0)) = true) →
        (Q false)) ∧
      (¬ (¬ ((eqF (toF a0) (toF a0)) = true)) →
        (Q true))))

def s_laws_FnExactOriginOk (a0 : (List Rsc)) (Q : (Bool → Prop)) : Prop :=
  pSz a0 1048576 ∧
  ((szF a0 1048576) < 0 →
    (Q true)) ∧
  (¬ ((szF a0 1048576) < 0) →
    pTo a0 ∧
    pOriginOk (toF a0) ∧
    pTo a0 ∧
    pOriginOk (toF a0) ∧
    ((mOriginOk (toF a0)) ≠ (mOriginOk (toF a0)) →
      (Q false)) ∧
    (¬ ((mOriginOk (toF a0)) ≠ (mOriginOk (toF a0))) →
      pTo a0 ∧
      pEq (toF a0) (toF a0) ∧
      (¬ ((eqF (toF a0) (toF a0)) = true) →
        (Q false)) ∧
      (¬ (¬ ((eqF (toF a0) (toF a0)) = true)) →
        (Q true))))

def s_laws_FnExactShardOk (a0 : Shd) (Q : (Bool → Prop)) : Prop :=
  pSz a0 1048576 ∧
  ((szF a0 1048576) < 0 →
    (Q true)) ∧
  (¬ ((szF a0 1048576) < 0) →
    pTo a0 ∧
    pShardOk (toF a0) ∧
    pTo a0 ∧
    pShardOk (toF a0) ∧
    ((mShardOk (toF a0)) ≠ (mShardOk (toF a0)) →
      (Q false)) ∧
    (¬ ((mShardOk (toF a0)) ≠ (mShardOk (toF a0))) →
      pTo a0 ∧
      pEq (toF a0) (toF a0) ∧
      (¬ ((eqF (toF a0) (toF a0)) = true) →
        (Q false)) ∧
      (¬ (¬ ((eqF (toF a0) (toF a0)) = true)) →
        (Q true))))

def s_laws_FnExactStorable (a0 : Req) (a1 : Rsp) (Q : (Bool → Prop)) : Prop :=
  pSz a0 1048576 ∧
  ((szF a0 1048576) < 0 →
    (Q true)) ∧
  (¬ ((szF a0 1048576) < 0) →
    pSz a1 (szF a0 1048576) ∧
    ((szF a1 (szF a0 1048576)) < 0 →
      (Q true)) ∧
    (¬ ((szF a1 (szF a0 1048576)) < 0) →
      pTo a0 ∧
      pTo a1 ∧
      pStorable (toF a0) (toF a1) ∧
      pTo a0 ∧
      pTo a1 ∧
      pStorable (toF a0) (toF a1) ∧
      ((mStorable (toF a0) (toF a1)) ≠ (mStorable (toF a0) (toF a1)) →
        (Q false)) ∧
      (¬ ((mStorable (toF a0) (toF a1)) ≠ (mStorable (toF a0) (toF a1))) →
        pTo a0 ∧
        pEq (toF a0) (toF a0) ∧
        (¬ ((eqF (toF a0) (toF a0)) = true) →
          (Q false)) ∧
        (¬ (¬ ((eqF (toF a0) (toF a0)) = true)) →
          pTo a1 ∧
          pEq (toF a1) (toF a1) ∧
          (¬ ((eqF (toF a1) (toF a1)) = true) →
            (Q false)) ∧
          (¬ (¬ ((eqF (toF a1) (toF a1)) = true)) →
            (Q true))))))

def s_laws_FnExactVaryFits (a0 : Req) (a1 : Rsp) (a2 : (List Fld)) (Q : (Bool → Prop)) : Prop :=
  pSz a0 1048576 ∧
  ((szF a0 1048576) < 0 →
    (Q true)) ∧
  (¬ ((szF a0 1048576) < 0) →
    pSz a1 (szF a0 1048576) ∧
    ((szF a1 (szF a0 1048576)) < 0 →
      (Q true)) ∧
    (¬ ((szF a1 (szF a0 1048576)) < 0) →
      pSz a2 (szF a1 (szF a0 1048576)) ∧
      ((szF a2 (szF a1 (szF a0 1048576))) < 0 →
        (Q true)) ∧
      (¬ ((szF a2 (szF a1 (szF a0 1048576))) < 0) →
        pTo a0 ∧
        pTo a1 ∧
        pTo a2 ∧
        pVaryFits (toF a0) (toF a1) (toF a2) ∧
        pTo a0 ∧
        pTo a1 ∧
        pTo a2 ∧
        pVaryFits (toF a0) (toF a1) (toF a2) ∧
        ((mVaryFits (toF a0) (toF a1) (toF a2)) ≠ (mVaryFits (toF a0) (toF a1) (toF a2)) →
          (Q false)) ∧
        (¬ ((mVaryFits (toF a0) (toF a1) (toF a2)) ≠ (mVaryFits (toF a0) (toF a1) (toF a2))) →
          pTo a0 ∧
          pEq (toF a0) (toF a0) ∧
          (¬ ((eqF (toF a0) (toF a0)) = true) →
            (Q false)) ∧
          (¬ (¬ ((eqF (toF a0) (toF a0)) = true)) →
            pTo a1 ∧
            pEq (toF a1) (toF a1) ∧
            (¬ ((eqF (toF a1) (toF a1)) = true) →
              (Q false)) ∧
            (¬ (¬ ((eqF (toF a1) (toF a1)) = true)) →
              pTo a2 ∧
              pEq (toF a2) (toF a2) ∧
              (¬ ((eqF (toF a2) (toF a2)) = true) →
                (Q false)) ∧
              (¬ (¬ ((eqF (toF a2) (toF a2)) = true)) →
                (Q true))))))))

end Go.Ev
end

section
/- A law's end: from the contract of the law's function to its calls. -/
set_option linter.unusedVariables false
namespace Go.Ev
open Go.RowKit Go.WideShapes
/-- The contract of a law's function: it returns true. -/
def boolCt (f : FuncId) (ps : List PT) (pre : pts ps → Prop) : Ct := { f, ps, rs := [(false, [.bool])], shared := false, pre, F := fun _ => (true : Bool) }
theorem bool_end {P : Program} {f : FuncId} {ps : List PT} {pre : pts ps → Prop} {W : World} {vals : Array Value} {x : pts ps} (h : CtAt P (boolCt f ps pre) W) (hargs : argsR (now W) W ps x vals.toList) (hpre : pre x) :
    Calls P f vals W fun e w' => e = .returned (.bool true) ∧ Below W.heap.size W w' := by
  obtain ⟨_, hc⟩ := h vals x (now W) (fun b hb => hb) hargs hpre
  refine hc.mono fun e w' ⟨vs, v, col, he, hb, hv, _, hr⟩ => ?_
  simp only [boolCt, resR] at hr
  obtain ⟨u, vs', cs, rfl, ho, hs, rfl⟩ := hr
  simp only [outR, repL] at ho
  obtain ⟨u2, cs', rfl, hb2, rfl⟩ := ho
  simp only [slotV, Bool.false_eq_true, if_false] at hs
  have e1 : u2 = u := by simpa using hs
  subst e1
  have hu : u2 = .bool true := hb2
  subst hu
  refine ⟨?_, hb⟩
  rw [he]
  rcases hv with hv | ⟨hv, _⟩
  · have : v = .bool true := by simpa using hv.symm
    rw [this]
  · simp at hv
theorem args_nil {S : Nat → Prop} {W : World} : argsR S W [] () [] := rfl
theorem args_cons {S : Nat → Prop} {W : World} {p : PT} {ps : List PT} {x : p.den} {xs : pts ps} {v : Value} {vs : List Value} (h1 : argR S W p x v) (h2 : argsR S W ps xs vs) : argsR S W (p :: ps) (pmk x xs) (v :: vs) := by
  simp only [argsR]
  exact ⟨v, vs, rfl, by rw [phd_pmk]; exact h1, by rw [ptl_pmk]; exact h2⟩
theorem arg_agg {S : Nat → Prop} {W : World} {ts : List L} {x : dens ts} {cs : Array Value} (h : repLs (roRow W S) ts [] 0 0 x cs.toList) : argR S W (.v true .ro ts) x (.agg cs) := ⟨cs.toList, h, by simp [slotV]⟩
theorem arg_one {S : Nat → Prop} {W : World} {ts : List L} {x : dens ts} {v : Value} (h : repLs (roRow W S) ts [] 0 0 x [v]) : argR S W (.v false .ro ts) x v := ⟨[v], h, by simp [slotV]⟩
theorem by_like {A B : Prop} (hA : A) (h : A = B) : B := h ▸ hA
end Go.Ev
end

section
/- Laws of the plain library: worlds. -/
set_option linter.unusedVariables false
namespace Go.Ev
theorem wld_conns (w : Wld) (h : md w) : w.2.2.1.length ≤ 1048576 := by
  unfold md at h
  have := cz_len w.2.2.1
  simp only [cz_pair] at h
  omega
theorem wld_flights (w : Wld) (h : md w) : w.2.2.2.2.2.1.length ≤ 1048576 := by
  unfold md at h
  have := cz_len w.2.2.2.2.2.1
  simp only [cz_pair] at h
  omega
theorem spec_Blocked_ok (a0 : Wld) (a1 : Int) (h : pBlocked a0 a1) : s_spec_Blocked a0 a1 (fun r => r = mBlocked a0 a1) := by
  have h1 := wld_conns a0 h
  have h2 := wld_flights a0 h
  unfold s_spec_Blocked mBlocked
  rw [wrap64 (by omega) (by omega), wrap64 (by omega) (by omega)]
  refine ⟨trivial, fun hc => ?_, fun hc => ?_⟩
  · rw [Bool.not_eq_true] at hc; rw [hc]; rfl
  · have hc := Classical.not_not.1 hc
    have hr : 0 ≤ a1 ∧ a1 ≤ (a0.2.2.1.length : Int) - 1 := by unfold mIn at hc; simpa using hc
    rw [hc]
    refine ⟨by omega, by omega, fun h7 => by simp [h7], fun h7 => ⟨fun h5 => ⟨trivial, fun hf => ?_, fun hf => ?_⟩, fun h5 => by simp [h7, h5]⟩⟩
    · have hr2 : 0 ≤ (rx a0.2.2.1 a1).2.2.2.2.2.2.2.2.2.2.2.2.2.2.2.2.2.2.2.1 ∧ (rx a0.2.2.1 a1).2.2.2.2.2.2.2.2.2.2.2.2.2.2.2.2.2.2.2.1 ≤ (a0.2.2.2.2.2.1.length : Int) - 1 := by unfold mIn at hf; simpa using hf
      refine ⟨by omega, by omega, ?_⟩
      rw [hf]
      simp [h7, h5]
    · rw [Bool.not_eq_true] at hf
      rw [hf]
      simp [h7, h5]
theorem impl_Blocked_ok (a0 : Wld) (a1 : Int) (h : pBlocked a0 a1) : s_impl_Blocked a0 a1 (fun r => r = mBlocked a0 a1) := spec_Blocked_ok a0 a1 h
theorem spec_AllDone_ok (a0 : Wld) (h : pAllDone a0) : s_spec_AllDone a0 (fun r => r = mAllDone a0) := by
  have h1 := wld_conns a0 h
  refine scanT_ok (xs := a0.2.2.1) (C := fun c : Cnn => c.1 ≠ 7) (Qh := fun _ => false = mAllDone a0) (by simp only [maxLen]; omega) (fun i hi hc _ => ?_) (fun hx => ?_)
  · unfold mAllDone mAllDone_1
    rw [any_true hi (by simpa using hc)]; rfl
  · unfold mAllDone mAllDone_1
    rw [List.any_eq_false.2 fun x hx' => by have := hx x hx'; simpa using this]; rfl
theorem impl_AllDone_1_ok (a0 : Cnn) : s_impl_AllDone_1 a0 (fun r => r = mAllDone_1 a0) := rfl
theorem IndexFunc_AllDone_1_ok (a0 : List Cnn) (a1 : Unit) (h : pIndexFunc_AllDone_1 a0 a1) : s_IndexFunc_AllDone_1 a0 a1 (fun r => r = mIndexFunc_AllDone_1 a0 a1) :=
  idxS_ok (P := pAllDone_1) h fun _ _ => trivial
theorem ContainsFunc_AllDone_1_ok (a0 : List Cnn) (a1 : Unit) (h : pContainsFunc_AllDone_1 a0 a1) : s_ContainsFunc_AllDone_1 a0 a1 (fun r => r = mContainsFunc_AllDone_1 a0 a1) := ⟨h, idxI_nonneg⟩
theorem impl_AllDone_ok (a0 : Wld) (h : pAllDone a0) : s_impl_AllDone a0 (fun r => r = mAllDone a0) := by
  have h1 := wld_conns a0 h
  refine ⟨by unfold pContainsFunc_AllDone_1; simp only [maxLen]; omega, ?_⟩
  unfold mAllDone mContainsFunc_AllDone_1
  cases a0.2.2.1.any mAllDone_1 <;> rfl

/-! ### Laws -/
/-- The budget holds: the data are of moderate size. -/
theorem szF_md {α : Type} [Cz α] {x : α} {k : Int} (h : ¬ szF x k < 0) (h0 : 0 ≤ k) (h1 : k ≤ 1048576) : md x := by
  unfold szF leftI at h
  unfold md
  split at h
  · omega
  · omega
def p_FnExactBlocked (w : Wld) (i : Int) : Prop := wd w ∧ wd i
def p_FnExactAllDone (w : Wld) : Prop := wd w
theorem laws_FnExactBlocked_ok (a0 : Wld) (a1 : Int) (h : p_FnExactBlocked a0 a1) : s_laws_FnExactBlocked a0 a1 (fun r => r = true) := by
  replace h := h.1
  refine ⟨⟨h, by omega, by simp [capI]⟩, fun _ => rfl, fun hs => ?_⟩
  have hm : md a0 := szF_md hs (by omega) (by omega)
  exact ⟨hm, hm, hm, hm, fun hne => absurd rfl hne, fun _ => ⟨hm, h, fun hne => absurd (eqF_iff.2 rfl) hne, fun _ => rfl⟩⟩
theorem laws_FnExactAllDone_ok (a0 : Wld) (h : p_FnExactAllDone a0) : s_laws_FnExactAllDone a0 (fun r => r = true) := by
  refine ⟨⟨h, by omega, by simp [capI]⟩, fun _ => rfl, fun hs => ?_⟩
  have hm : md a0 := szF_md hs (by omega) (by omega)
  exact ⟨hm, hm, hm, hm, fun hne => absurd rfl hne, fun _ => ⟨hm, h, fun hne => absurd (eqF_iff.2 rfl) hne, fun _ => rfl⟩⟩
end Go.Ev
end

section
/- Laws of the plain library: numerals. -/
set_option linter.unusedVariables false
namespace Go.Ev
/-- What of the numeral is still to be written. -/
def decLeft (n : Int) : List UInt8 := if n = 0 then [] else Lib.decDigits n.natAbs
theorem td10 (n : Int) : (0 ≤ n ∧ n.tdiv 10 = n / 10 ∧ n.tmod 10 = n % 10) ∨ (n < 0 ∧ n.tdiv 10 = -((-n) / 10) ∧ n.tmod 10 = -((-n) % 10)) := by
  rcases Int.le_total 0 n with h | h
  · exact Or.inl ⟨h, Int.tdiv_eq_ediv_of_nonneg h, Int.tmod_eq_emod_of_nonneg h⟩
  · by_cases h0 : n = 0
    · subst h0; exact Or.inl ⟨by omega, rfl, rfl⟩
    · refine Or.inr ⟨by omega, ?_, ?_⟩
      · rw [← Int.tdiv_eq_ediv_of_nonneg (by omega), Int.neg_tdiv, Int.neg_neg]
      · rw [← Int.tmod_eq_emod_of_nonneg (by omega), Int.neg_tmod, Int.neg_neg]
theorem decLeft_step {n : Int} (h : n ≠ 0) : decLeft n = decLeft (n.tdiv 10) ++ [UInt8.ofNat (48 + n.natAbs % 10)] := by
  have e : (n.tdiv 10).natAbs = n.natAbs / 10 := by rw [Int.natAbs_tdiv]; rfl
  have ht := td10 n
  unfold decLeft
  rw [if_neg h]
  by_cases h1 : n.natAbs < 10
  · have : n.tdiv 10 = 0 := by omega
    rw [if_pos this, Lib.decDigits_one h1, Nat.mod_eq_of_lt h1]; rfl
  · have : n.tdiv 10 ≠ 0 := by omega
    rw [if_neg this, e, Lib.decDigits, dif_neg h1]
theorem digit_neg {n : Int} (h0 : in64 n) (h : n.tmod 10 < 0) : strOf [IntKind.u8.wrap (IntKind.i64.wrap (48 + IntKind.i64.wrap (0 - n.tmod 10)))] = ob [UInt8.ofNat (48 + n.natAbs % 10)] := by
  obtain ⟨ha, hb⟩ := h0
  have ht := td10 n
  have e1 : IntKind.i64.wrap (0 - n.tmod 10) = ((n.natAbs % 10 : Nat) : Int) := by rw [wrap64 (by omega) (by omega)]; omega
  have e2 : IntKind.i64.wrap (48 + ((n.natAbs % 10 : Nat) : Int)) = ((48 + n.natAbs % 10 : Nat) : Int) := by rw [wrap64 (by omega) (by omega)]; omega
  have hlt : n.natAbs % 10 < 10 := Nat.mod_lt _ (by decide)
  rw [e1, e2]
  generalize n.natAbs % 10 = k at hlt
  have : ∀ k : Fin 10, strOf [IntKind.u8.wrap ((48 + k.val : Nat) : Int)] = ob [UInt8.ofNat (48 + k.val)] := by decide +kernel
  exact this ⟨k, hlt⟩
theorem digit_pos {n : Int} (h0 : in64 n) (h : ¬ n.tmod 10 < 0) : strOf [IntKind.u8.wrap (IntKind.i64.wrap (48 + n.tmod 10))] = ob [UInt8.ofNat (48 + n.natAbs % 10)] := by
  obtain ⟨ha, hb⟩ := h0
  have ht := td10 n
  have e2 : IntKind.i64.wrap (48 + n.tmod 10) = ((48 + n.natAbs % 10 : Nat) : Int) := by rw [wrap64 (by omega) (by omega)]; omega
  have hlt : n.natAbs % 10 < 10 := Nat.mod_lt _ (by decide)
  rw [e2]
  generalize n.natAbs % 10 = k at hlt
  have : ∀ k : Fin 10, strOf [IntKind.u8.wrap ((48 + k.val : Nat) : Int)] = ob [UInt8.ofNat (48 + k.val)] := by decide +kernel
  exact this ⟨k, hlt⟩
theorem spec_Dec_ok (a0 : Int) (h : pDec a0) : s_spec_Dec a0 (fun r => r = mDec a0) := by
  obtain ⟨ha, hb⟩ := h
  have hlen := Lib.itoa_length_le a0 ha hb
  refine ⟨fun h0 => by subst h0; exact bs_inj (by decide +kernel), fun h0 => fun L hL => ?_⟩
  refine loopI hL (fun y => in64 y.1 ∧ (0 ≤ a0 → 0 ≤ y.1) ∧ (a0 < 0 → y.1 ≤ 0) ∧ decLeft y.1 ++ bs y.2 = Lib.decDigits a0.natAbs) (fun y => y.1.natAbs) (fun y hI ih => ?_) (a0, lit []) ⟨⟨ha, hb⟩, fun h => h, fun h => by omega, by unfold decLeft; rw [if_neg h0, bs_lit]; simp⟩
  obtain ⟨n, s⟩ := y
  obtain ⟨h64, hp, hn, he⟩ := hI
  simp only at h64 hp hn he ⊢
  have hl : (Lib.decDigits a0.natAbs).length ≤ 21 := by
    unfold Lib.itoa at hlen
    split at hlen
    · simp only [List.length_cons] at hlen; omega
    · rw [show a0.toNat = a0.natAbs by omega] at hlen; exact hlen
  have hs : s.size ≤ 21 := by rw [← bs_len]; rw [← he, List.length_append] at hl; omega
  have ht := td10 n
  have d64 : in64 (n.tdiv 10) := by obtain ⟨a, b⟩ := h64; constructor <;> omega
  have wd : IntKind.i64.wrap (n.tdiv 10) = n.tdiv 10 := wrap64 (by have := d64.1; omega) (by have := d64.2; omega)
  have next : n ≠ 0 → L (n.tdiv 10, ob [UInt8.ofNat (48 + n.natAbs % 10)] ++ s) := fun hne => by
    refine ih _ ⟨d64, fun h => ?_, fun h => ?_, ?_⟩ ?_
    · have := hp h; simp only; omega
    · have := hn h; simp only; omega
    · simp only
      rw [bs_append, bs_ob, ← List.append_assoc, ← decLeft_step hne, he]
    · simp only; omega
  have h1 : (ob [UInt8.ofNat (48 + n.natAbs % 10)]).size = 1 := ob_size _
  have h2 : (lit [45]).size = 1 := rfl
  rw [wd]
  refine ⟨fun hne => ⟨by decide, fun hneg => ?_, fun hneg => ?_⟩, fun heq => ?_⟩
  · rw [digit_neg h64 hneg, h1]; exact ⟨by omega, by decide, next hne⟩
  · rw [digit_pos h64 hneg, h1]; exact ⟨by omega, by decide, next hne⟩
  · have h00 : n = 0 := Classical.byContradiction heq
    subst h00
    have he : bs s = Lib.decDigits a0.natAbs := by simpa [decLeft] using he
    refine ⟨fun hneg => ⟨by rw [h2]; omega, bs_inj ?_⟩, fun hneg => bs_inj ?_⟩
    · rw [bs_append, he, mDec, mItoa, bs_ob, Lib.itoa, if_pos hneg]; rfl
    · rw [he, mDec, mItoa, bs_ob, Lib.itoa, if_neg hneg, show a0.toNat = a0.natAbs by omega]
end Go.Ev
end

section
/- Library functions: from a call's law to a contract of the small machine. -/
set_option linter.unusedVariables false
namespace Go.Ev
open Go.RowKit
theorem tab_below {P : Program} {w W : World} {name : String} {k : IntKind} {zs : List Int} (h : Lib.TabIs P w name k zs) (hb : Below w.heap.size w W) : Lib.TabIs P W name k zs := by
  unfold Lib.TabIs World.var? at *
  cases hg : P.globalNamed name with
  | none => simp [hg] at h
  | some g =>
    simp only [hg, Option.bind_some] at h ⊢
    have hlt : g < w.heap.size := by
      rcases Nat.lt_or_ge g w.heap.size with h' | h'
      · exact h'
      · rw [Array.getElem?_eq_none h'] at h; simp at h
    rw [hb.block g hlt]
    exact h
/-- The function is there, and has a body. -/
def FnIs (P : Program) (f : FuncId) : Prop := ∃ fn, P.funcs[f]? = some fn ∧ (fn.name == "runtime.NumGoroutine") = false ∧ fn.body.isNone = false
theorem args_v {S : Nat → Prop} {W : World} {t : L} {ps : List PT} {x : pts (.v false .ro [t] :: ps)} {vs : List Value} (h : argsR S W (.v false .ro [t] :: ps) x vs) :
    ∃ v vs', vs = v :: vs' ∧ repL (roRow W S) t [(0, 0)] (hd (phd x)) v ∧ argsR S W ps (ptl x) vs' := by
  simp only [argsR, argR] at h
  obtain ⟨v, vs', rfl, ⟨cs, hc, hs⟩, h2⟩ := h
  obtain ⟨u, cs', rfl, hu, hn⟩ := repLs_cons.1 hc
  simp only [repLs] at hn
  subst hn
  simp only [slotV, Bool.false_eq_true, if_false] at hs
  obtain rfl : u = v := by simpa using hs
  exact ⟨u, vs', rfl, hu, h2⟩
theorem args_e {S : Nat → Prop} {W : World} {x : pts []} {vs : List Value} (h : argsR S W [] x vs) : vs = [] := h
theorem arr_of {vals : Array Value} {l : List Value} (h : vals.toList = l) : vals = l.toArray := by rw [← h]
/-- A contract, from a call's law. -/
theorem ct_lib {P : Program} {c : Ct} {w : World} (hf : FnIs P c.f)
    (h : ∀ (vals : Array Value) (x : pts c.ps) (S : Nat → Prop), (∀ b, S b → b < w.heap.size) → argsR S w c.ps x vals.toList → c.pre x →
      Calls P c.f vals w fun e w' => ∃ vs v, e = .returned v ∧ Below w.heap.size w w' ∧ retV vs v ∧ ∀ S', resR S' (fun _ => none) w' c.shared c.rs (c.F x) 0 vs) : CtAt P c w :=
  fun vals x S hS ha hp => ⟨hf, (h vals x S hS ha hp).mono fun e w' ⟨vs, v, he, hb, hv, hr⟩ => ⟨vs, v, fun _ => none, he, hb, hv, fun b hb => absurd rfl hb, hr _⟩⟩
theorem res_str {S : Nat → Prop} {col : Nat → Option Nat} {W : World} (x : ByteArray) : resR S col W false [(false, [.str])] (x : caps [[L.str]]) 0 [.string x] := by
  simp only [resR]
  exact ⟨_, _, [.string x], rfl, by simp only [outR]; exact ⟨_, _, rfl, rfl, rfl⟩, rfl, rfl⟩
theorem res_int {S : Nat → Prop} {col : Nat → Option Nat} {W : World} {k : IntKind} (x : Int) : resR S col W false [(false, [.int k])] (x : caps [[L.int k]]) 0 [.int k x] := by
  simp only [resR]
  exact ⟨_, _, [.int k x], rfl, by simp only [outR]; exact ⟨_, _, rfl, rfl, rfl⟩, rfl, rfl⟩
/-! ### strconv.Itoa -/
def itoaCt (f : FuncId) : Ct := { f, ps := [.v false .ro [.int .i64]], rs := [(false, [.str])], shared := false, pre := fun (x : Int) => pItoa x, F := fun (x : Int) => mItoa x }
theorem itoa_ct {P : Program} {f : FuncId} {w : World} (hf : FnIs P f)
    (hI : ∀ n : Int, -9223372036854775808 ≤ n → n ≤ 9223372036854775807 → Calls P f #[.int .i64 n] w fun e w' => e = .returned (.string ⟨(Lib.itoa n).toArray⟩) ∧ ∃ k os, w' = Sort.grow (w.drewN k) os) : CtAt P (itoaCt f) w := by
  refine ct_lib hf fun vals x S hS ha hp => ?_
  obtain ⟨v, vs', hv, h1, h2⟩ := args_v ha
  have h2 := args_e h2
  subst h2
  have h1 : v = .int .i64 x := h1
  subst h1
  rw [arr_of hv]
  refine (hI x hp.1 hp.2).mono fun e w' ⟨he, k, os, hw⟩ => ?_
  refine ⟨[.string (mItoa x)], _, he, ?_, Or.inl rfl, fun S' => res_str _⟩
  rw [hw]
  exact Lib.below_grow _ w (Nat.le_refl _) k os
end Go.Ev
end

section
/- Laws of the plain library: the law of TagOf. -/
set_option linter.unusedVariables false
namespace Go.Ev
def s_laws_FnExactTagOf (a0 : Int) (Q : (Bool → Prop)) : Prop :=
  pTagOf a0 ∧
  pTagOf a0 ∧
  ((mTagOf a0) ≠ (mTagOf a0) →
    (Q false)) ∧
  (¬ ((mTagOf a0) ≠ (mTagOf a0)) →
    (Q true))
def p_FnExactTagOf (a0 : Int) : Prop := wd a0
theorem in64_wd {n : Int} (h : wd n) : in64 n := by
  have h : (Lit.int .i64 n).wf = true := h
  simp [Lit.wf, IntKind.min, IntKind.max, IntKind.bits, IntKind.signed] at h
  constructor <;> omega
theorem laws_FnExactTagOf_ok (a0 : Int) (h : p_FnExactTagOf a0) : s_laws_FnExactTagOf a0 (fun r => r = true) :=
  ⟨in64_wd h, in64_wd h, fun hne => absurd rfl hne, fun _ => rfl⟩
end Go.Ev
end

section
/- Laws of the plain library: the laws' functions of the doors. -/
set_option linter.unusedVariables false
namespace Go.Ev
def p_FnExactOriginOk (a0 : List Rsc) : Prop := wd a0
theorem laws_FnExactOriginOk_ok (a0 : List Rsc) (h : p_FnExactOriginOk a0) : s_laws_FnExactOriginOk a0 (fun r => r = true) := by
  refine ⟨⟨h, by omega, by simp [capI]⟩, fun _ => rfl, fun hs => ?_⟩
  have hm : md a0 := szF_md hs (by omega) (by omega)
  exact ⟨hm, hm, hm, hm, fun hne => absurd rfl hne, fun _ => ⟨hm, h, fun hne => absurd (eqF_iff.2 rfl) hne, fun _ => rfl⟩⟩
def p_FnExactShardOk (a0 : Shd) : Prop := wd a0
theorem laws_FnExactShardOk_ok (a0 : Shd) (h : p_FnExactShardOk a0) : s_laws_FnExactShardOk a0 (fun r => r = true) := by
  refine ⟨⟨h, by omega, by simp [capI]⟩, fun _ => rfl, fun hs => ?_⟩
  have hm : md a0 := szF_md hs (by omega) (by omega)
  exact ⟨hm, hm, hm, hm, fun hne => absurd rfl hne, fun _ => ⟨hm, h, fun hne => absurd (eqF_iff.2 rfl) hne, fun _ => rfl⟩⟩
def p_FnExactFilled (a0 : Shd) : Prop := wd a0
theorem laws_FnExactFilled_ok (a0 : Shd) (h : p_FnExactFilled a0) : s_laws_FnExactFilled a0 (fun r => r = true) := by
  refine ⟨⟨h, by omega, by simp [capI]⟩, fun _ => rfl, fun hs => ?_⟩
  have hm : md a0 := szF_md hs (by omega) (by omega)
  exact ⟨hm, hm, hm, hm, fun hne => absurd rfl hne, fun _ => ⟨hm, h, fun hne => absurd (eqF_iff.2 rfl) hne, fun _ => rfl⟩⟩
def p_FnExactOnlyStored (a0 : Req) : Prop := wd a0
theorem laws_FnExactOnlyStored_ok (a0 : Req) (h : p_FnExactOnlyStored a0) : s_laws_FnExactOnlyStored a0 (fun r => r = true) := by
  refine ⟨⟨h, by omega, by simp [capI]⟩, fun _ => rfl, fun hs => ?_⟩
  have hm : md a0 := szF_md hs (by omega) (by omega)
  exact ⟨hm, hm, hm, hm, fun hne => absurd rfl hne, fun _ => ⟨hm, h, fun hne => absurd (eqF_iff.2 rfl) hne, fun _ => rfl⟩⟩
end Go.Ev
end

section
/- Library functions: strings.Join, strings.Trim, strings.Cut, strings.IndexByte: contracts of the small machine. -/
set_option linter.unusedVariables false
namespace Go.Ev
open Go.RowKit
theorem res_bool {S : Nat → Prop} {col : Nat → Option Nat} {W : World} (x : Bool) : resR S col W false [(false, [.bool])] (x : caps [[L.bool]]) 0 [.bool x] := by
  simp only [resR]
  exact ⟨_, _, [.bool x], rfl, by simp only [outR]; exact ⟨_, _, rfl, rfl, rfl⟩, rfl, rfl⟩
theorem cell_lt {w : World} {a : Addr} {v : Value} (h : w.cell? a = some v) : a.block < w.heap.size := by
  rcases Nat.lt_or_ge a.block w.heap.size with h' | h'
  · exact h'
  · unfold World.cell? at h
    rw [Array.getElem?_eq_none h'] at h
    simp at h
/-! ### strings.IndexByte -/
def indexByteCt (f : FuncId) : Ct := { f, ps := [.v false .ro [.str], .v false .ro [.int .u8]], rs := [(false, [.int .i64])], shared := false, pre := fun (x : S × Int) => pIndexByte x.1 x.2, F := fun (x : S × Int) => mIndexByte x.1 x.2 }
theorem indexByte_ct {P : Program} {f : FuncId} {w : World} (hf : FnIs P f)
    (hI : ∀ (s : ByteArray) (c : Int), Calls P f #[.string s, .int .u8 c] w fun e w' => e = .returned (.int .i64 (Lib.indexByte s.data.toList c.toNat.toUInt8)) ∧ w' = w) : CtAt P (indexByteCt f) w := by
  refine ct_lib hf fun vals x S hS ha hp => ?_
  obtain ⟨v, vs', hv, h1, h2⟩ := args_v ha
  obtain ⟨u, us', rfl, h3, h4⟩ := args_v h2
  have h4 := args_e h4
  subst h4
  have h1 : v = .string x.1 := h1
  have h3 : u = .int .u8 x.2 := h3
  subst h1; subst h3
  rw [arr_of hv]
  refine (hI x.1 x.2).mono fun e w' ⟨he, hw⟩ => ⟨[.int .i64 (mIndexByte x.1 x.2)], _, he, ?_, Or.inl rfl, fun S' => res_int _⟩
  rw [hw]; exact Below.refl _ _
/-! ### strings.Trim -/
def trimLCt (f : FuncId) : Ct := { f, ps := [.v false .ro [.str], .v false .ro [.str]], rs := [(false, [.str])], shared := false, pre := fun (x : S × S) => pTrimL x.1 x.2, F := fun (x : S × S) => mTrimL x.1 x.2 }
theorem trimL_ct {P : Program} {f : FuncId} {w : World} (hf : FnIs P f)
    (hI : ∀ (s cs : ByteArray), s.size ≤ 9223372036854775807 → cs.size < 4294967281 → (∀ (j : Nat) b, cs.data.toList[j]? = some b → b.toNat < 128) →
      Calls P f #[.string s, .string cs] w fun e w' => e = .returned (.string ⟨(Lib.trimS s.data.toList cs.data.toList).toArray⟩) ∧ Below w.heap.size w w') : CtAt P (trimLCt f) w := by
  refine ct_lib hf fun vals x S hS ha hp => ?_
  obtain ⟨v, vs', hv, h1, h2⟩ := args_v ha
  obtain ⟨u, us', rfl, h3, h4⟩ := args_v h2
  have h4 := args_e h4
  subst h4
  have h1 : v = .string x.1 := h1
  have h3 : u = .string x.2 := h3
  subst h1; subst h3
  rw [arr_of hv]
  have hp : x.1.size ≤ 1073741824 ∧ x.2 = lit [32, 9] := hp
  obtain ⟨hp1, hp2⟩ := hp
  have hall : ∀ b ∈ (lit [32, 9]).data.toList, b.toNat < 128 := by decide
  refine (hI x.1 x.2 (by omega) (by rw [hp2]; decide) (fun j b hb => by rw [hp2] at hb; exact hall b (List.mem_of_getElem? hb))).mono fun e w' ⟨he, hb⟩ => ⟨[.string (mTrimL x.1 x.2)], _, he, hb, Or.inl rfl, fun S' => res_str _⟩
/-! ### strings.Cut -/
def cutCt (f : FuncId) : Ct := { f, ps := [.v false .ro [.str], .v false .ro [.str]], rs := [(false, [.str]), (false, [.str]), (false, [.bool])], shared := false, pre := fun (x : S × S) => pCut x.1 x.2, F := fun (x : S × S) => mCut x.1 x.2 }
theorem cut_ct {P : Program} {f : FuncId} {w : World} (hf : FnIs P f)
    (hI : ∀ (s sep : ByteArray), s.size < 4294967281 →
      Calls P f #[.string s, .string sep] w fun e w' => e = .returned (.tuple #[.string ⟨(Lib.cut s.data.toList sep.data.toList).1.toArray⟩, .string ⟨(Lib.cut s.data.toList sep.data.toList).2.1.toArray⟩, .bool (Lib.cut s.data.toList sep.data.toList).2.2]) ∧ ∃ n, w' = w.drewN n) : CtAt P (cutCt f) w := by
  refine ct_lib hf fun vals x S hS ha hp => ?_
  obtain ⟨v, vs', hv, h1, h2⟩ := args_v ha
  obtain ⟨u, us', rfl, h3, h4⟩ := args_v h2
  have h4 := args_e h4
  subst h4
  have h1 : v = .string x.1 := h1
  have h3 : u = .string x.2 := h3
  subst h1; subst h3
  rw [arr_of hv]
  have hp : x.1.size ≤ 1073741824 := hp
  refine (hI x.1 x.2 (by omega)).mono fun e w' ⟨he, n, hw⟩ => ⟨[.string (mCut x.1 x.2).1, .string (mCut x.1 x.2).2.1, .bool (mCut x.1 x.2).2.2], _, he, ?_, Or.inr ⟨by simp, rfl⟩, fun S' => ?_⟩
  · rw [hw]
    exact ⟨rfl, rfl, rfl, Nat.le_refl _, fun _ _ => rfl⟩
  · simp only [cutCt, resR]
    refine ⟨_, _, [.string (mCut x.1 x.2).1], rfl, by simp only [outR]; exact ⟨_, _, rfl, rfl, rfl⟩, rfl, ?_⟩
    refine ⟨_, _, [.string (mCut x.1 x.2).2.1], rfl, by simp only [outR]; exact ⟨_, _, rfl, rfl, rfl⟩, rfl, ?_⟩
    exact ⟨_, _, [.bool (mCut x.1 x.2).2.2], rfl, by simp only [outR]; exact ⟨_, _, rfl, rfl, rfl⟩, rfl, rfl⟩
/-! ### strings.Join -/
theorem joinL_tail (sep : S) : ∀ (x : S) (r : List S), bs (joinL sep (x :: r)) = bs x ++ Lib.joinTail (bs sep) (r.map bs)
  | x, [] => by simp [joinL, Lib.joinTail]
  | x, y :: r => by
    rw [joinL, bs_append, bs_append, joinL_tail sep y r]
    simp only [Lib.joinTail, List.map_cons, List.flatten_cons, List.append_assoc]
theorem mJoin_lib (xs : List S) (sep : S) : mJoin xs sep = ob (Lib.join (xs.map bs) (bs sep)) := by
  cases xs with
  | nil => rfl
  | cons x r =>
    refine bs_inj ?_
    rw [bs_ob, mJoin, joinL_tail, List.map_cons, Lib.join_cons]
theorem lens_sum : ∀ xs : List S, Lib.lens (xs.map bs) = sumN (xs.map fun x => x.size)
  | [] => rfl
  | x :: r => by
    have := lens_sum r
    unfold Lib.lens at this ⊢
    simp only [List.map_cons, List.sum_cons, sumN, bs_len] at this ⊢
    omega
theorem join_core {P : Program} {f : FuncId} {w : World} {S : Nat → Prop} (hS : ∀ b, S b → b < w.heap.size)
    (h0 : ∀ (a : Option Addr) (c : Nat) (sep : ByteArray), Calls P f #[.slice a 0 c, .string sep] w fun e w' => e = .returned (.string ⟨#[]⟩) ∧ w' = w)
    (hI : ∀ (bk o c : Nat) (xs : List ByteArray) (sep : ByteArray), (∀ (j : Nat) x, xs[j]? = some x → w.cell? ⟨bk, o + j, none⟩ = some (.string x)) → bk < w.heap.size → xs.length ≤ 140737488355328 → xs.length ≤ c → (Lib.join (xs.map (·.data.toList)) sep.data.toList).length ≤ 140737488355328 →
      Calls P f #[.slice (some ⟨bk, o, none⟩) xs.length c, .string sep] w fun e w' => e = .returned (.string ⟨(Lib.join (xs.map (·.data.toList)) sep.data.toList).toArray⟩) ∧ Below w.heap.size w w')
    (xs : List ByteArray) (sep : ByteArray) (hp : pJoin xs sep) (A : Option Addr) (cap : Nat) (cs : List Value) (hcap : xs.length ≤ cap) (hcl : cs.length = xs.length * 1)
    (hA : 0 < xs.length * 1 → ∃ ad, A = some ad ∧ S ad.block ∧ ∀ (j : Nat) (u : Value), cs[j]? = some u → w.cell? (ad.add j) = some u)
    (hx : ∀ (i : Nat) (y : ByteArray), xs[i]? = some y → (cs.drop (i * 1)).take 1 = [.string y]) :
    Calls P f #[.slice A xs.length cap, .string sep] w fun e w' => e = .returned (.string (mJoin xs sep)) ∧ Below w.heap.size w w' := by
  obtain ⟨hp1, hp2, hp3⟩ := hp
  by_cases hn : xs.length = 0
  · have : xs = [] := List.length_eq_zero_iff.1 hn
    subst this
    refine (h0 A cap sep).mono fun e w' ⟨he, hw⟩ => ⟨he, ?_⟩
    rw [hw]; exact Below.refl _ _
  · obtain ⟨ad, rfl, hb, hcells⟩ := hA (by omega)
    have hget : ∀ (j : Nat) (y : ByteArray), xs[j]? = some y → w.cell? (ad.add j) = some (.string y) := fun j y hj => by
      refine hcells j _ ?_
      have := congrArg (·[0]?) (hx j y hj)
      simpa [List.getElem?_take, List.getElem?_drop] using this
    have hx0 : xs[0]? = some (xs[0]'(by omega)) := List.getElem?_eq_getElem (by omega)
    have hsp := World.cell?_spot (hget 0 _ hx0)
    have hadd : ∀ j, ad.add j = ⟨ad.block, ad.off + j, none⟩ := fun j => by
      have : ad.spot = none := by
        rw [addr_zero] at hsp; exact hsp
      obtain ⟨b, o, s⟩ := ad
      simp only at this
      subst this
      unfold Addr.add
      split
      · rename_i h; subst h; rfl
      · rfl
    have had : ad = ⟨ad.block, ad.off, none⟩ := by have := hadd 0; rw [addr_zero] at this; exact this
    have hjl : (Lib.join (xs.map (·.data.toList)) sep.data.toList).length ≤ 140737488355328 := by
      cases xs with
      | nil => simp at hn
      | cons y r =>
        have h6 := Lib.join_length (bs y) (r.map bs) (bs sep)
        have h7 := lens_sum (y :: r)
        have h8 : (bs sep).length ≤ 16 := by rw [bs_len]; exact hp3
        have h9 : (bs sep).length * (r.map bs).length ≤ 16 * r.length := by rw [List.length_map]; exact Nat.mul_le_mul_right _ h8
        have h10 : (Lib.join ((y :: r).map bs) (bs sep)).length ≤ 140737488355328 := by
          rw [List.map_cons, h6]
          rw [List.map_cons] at h7
          simp only [List.length_cons] at hp1
          omega
        exact h10
    rw [had]
    refine (hI ad.block ad.off cap xs sep (fun j y hj => by rw [← hadd j]; exact hget j y hj) (hS _ hb) (by omega) hcap hjl).mono fun e w' ⟨he, hbel⟩ => ⟨?_, hbel⟩
    rw [he, mJoin_lib]; rfl
def joinCt (e : TypeId) (f : FuncId) : Ct := { f, ps := [.v false .ro [.list e [.str]], .v false .ro [.str]], rs := [(false, [.str])], shared := false, pre := fun (x : List S × S) => pJoin x.1 x.2, F := fun (x : List S × S) => mJoin x.1 x.2 }
theorem join_row {w : World} {S : Nat → Prop} {e : TypeId} {p : Col} {xs : List ByteArray} {v : Value} (h : repL (roRow w S) (.list e [.str]) p (xs : List (dens [L.str])) v) :
    ∃ (A : Option Addr) (cap : Nat) (cs : List Value), v = .slice A xs.length cap ∧ xs.length ≤ cap ∧ cs.length = xs.length * 1 ∧ (0 < xs.length * 1 → ∃ ad, A = some ad ∧ S ad.block ∧ ∀ (j : Nat) (u : Value), cs[j]? = some u → w.cell? (ad.add j) = some u) ∧
      ∀ (i : Nat) (y : ByteArray), xs[i]? = some y → (cs.drop (i * 1)).take 1 = [.string y] := by
  simp only [repL] at h
  obtain ⟨cs, ⟨A, cap, hv, hcap, hA⟩, hcl, hx⟩ := h
  refine ⟨A, cap, cs, hv, hcap, hcl, hA, fun i y hi => ?_⟩
  have h5 := hx i y hi
  simp only [repLs, repL] at h5
  obtain ⟨v, hv, rfl⟩ := h5
  exact hv
theorem join_ct {P : Program} {e : TypeId} {f : FuncId} {w : World} (hf : FnIs P f)
    (h0 : ∀ (a : Option Addr) (c : Nat) (sep : ByteArray), Calls P f #[.slice a 0 c, .string sep] w fun e w' => e = .returned (.string ⟨#[]⟩) ∧ w' = w)
    (hI : ∀ (bk o c : Nat) (xs : List ByteArray) (sep : ByteArray), (∀ (j : Nat) x, xs[j]? = some x → w.cell? ⟨bk, o + j, none⟩ = some (.string x)) → bk < w.heap.size → xs.length ≤ 140737488355328 → xs.length ≤ c → (Lib.join (xs.map (·.data.toList)) sep.data.toList).length ≤ 140737488355328 →
      Calls P f #[.slice (some ⟨bk, o, none⟩) xs.length c, .string sep] w fun e w' => e = .returned (.string ⟨(Lib.join (xs.map (·.data.toList)) sep.data.toList).toArray⟩) ∧ Below w.heap.size w w') : CtAt P (joinCt e f) w := by
  refine ct_lib hf fun vals x S hS ha hp => ?_
  obtain ⟨v, vs', hv, h1, h2⟩ := args_v ha
  obtain ⟨u, us', rfl, h3, h4⟩ := args_v h2
  have h4 := args_e h4
  subst h4
  have h3 : u = .string x.2 := h3
  subst h3
  obtain ⟨A, cap, cs, rfl, hcap, hcl, hA, hx⟩ := join_row (xs := x.1) h1
  rw [arr_of hv]
  exact (join_core hS h0 hI x.1 x.2 hp A cap cs hcap hcl hA hx).mono fun e w' ⟨he, hb⟩ => ⟨[.string (mJoin x.1 x.2)], _, he, hb, Or.inl rfl, fun S' => res_str _⟩
end Go.Ev
end

section
/- impl.Lower: what its walk needs. -/
set_option linter.unusedVariables false
namespace Go.Ev
open Go Go.RowKit
/-- The row behind i steps. -/
def lowAt (s : S) (i : Nat) : List UInt8 := ((bs s).take i).map lowB ++ (bs s).drop i
theorem lowAt_len (s : S) (i : Nat) : (lowAt s i).length = s.size := by
  unfold lowAt
  rw [List.length_append, List.length_map, List.length_take, List.length_drop, bs_len]; omega
theorem lowAt_get (s : S) (i j : Nat) (h : j < s.size) : (lowAt s i)[j]? = some (if j < i then lowB (bs s)[j]! else (bs s)[j]!) := by
  have hl : j < (bs s).length := by rw [bs_len]; exact h
  unfold lowAt
  by_cases hj : j < i
  · rw [if_pos hj, List.getElem?_append_left (by simp; omega), List.getElem?_map, List.getElem?_take, if_pos hj, List.getElem?_eq_getElem hl, getElem!_pos (bs s) j hl]; rfl
  · rw [if_neg hj, List.getElem?_append_right (by simp; omega), List.getElem?_drop, List.length_map, List.length_take, show i + (j - min i (bs s).length) = j by omega, List.getElem?_eq_getElem hl, getElem!_pos (bs s) j hl]
/-- What the block holds, in a world. -/
def LowW (B : Nat) (s : S) (i : Nat) (w w' : World) : Prop :=
  Below B w w' ∧ ∀ j, j < s.size → w'.cell? ⟨B, j, none⟩ = some (.int .u8 (((if j < i then lowB (bs s)[j]! else (bs s)[j]!).toNat : Nat) : Int)) ∧ w'.frozen? ⟨B, j, none⟩ = false
theorem LowW.next {B i : Nat} {s : S} {w w' : World} (h : LowW B s i w w') (hi : i < s.size) {v : Int} (hv : v = ((lowB (bs s)[i]!).toNat : Int)) : LowW B s (i + 1) w (w'.setCell ⟨B, i, none⟩ (.int .u8 v)) := by
  refine ⟨h.1.setCell (Nat.le_refl _) _, fun j hj => ?_⟩
  by_cases e : j = i
  · subst e
    rw [World.cell?_setCell_same _ _ _ (h.2 j hj).1, hv, if_pos (by omega)]
    exact ⟨rfl, by rw [World.frozen?_setCell]; exact (h.2 j hj).2⟩
  · rw [World.cell?_setCell_other _ _ _ _ (by simp [e]), World.frozen?_setCell, (h.2 j hj).1]
    exact ⟨by simp only [show (j < i + 1) ↔ (j < i) by omega], (h.2 j hj).2⟩
theorem LowW.skip {B i : Nat} {s : S} {w w' : World} (h : LowW B s i w w') (hi : i < s.size) (hv : lowB (bs s)[i]! = (bs s)[i]!) : LowW B s (i + 1) w w' := by
  refine ⟨h.1, fun j hj => ?_⟩
  by_cases e : j = i
  · subst e
    have := h.2 j hj
    rw [if_neg (by omega)] at this
    rw [if_pos (by omega), hv]; exact this
  · rw [(h.2 j hj).1]
    exact ⟨by simp only [show (j < i + 1) ↔ (j < i) by omega], (h.2 j hj).2⟩
/-- '[]byte(s)'. -/
theorem low_new (P : Program) (src dst e : TypeId) (w : World) (s : S) (hs : P.underlying src = some .string) (hd : P.underlying dst = some (.slice e)) (he : P.underlying e = some (.int .u8)) :
    ∃ W1 cap, (convert src dst (.string s)).run P w = .ok (.slice (some ⟨w.heap.size, 0, none⟩) s.size cap) W1 ∧ LowW w.heap.size s 0 w W1 := by
  refine ⟨_, _, run_bytes_of_string w src dst e s hs hd he, (Below.refl _ _).drew.alloc (Nat.le_refl _) _, fun j hj => ?_⟩
  have h1 := bytesRow_at s (grownCap w s.size 0 e) j hj
  refine ⟨?_, ?_⟩
  · show (w.drew.alloc _).cell? ⟨w.drew.heap.size, j, none⟩ = _
    rw [World.cell?_alloc_mark, h1, if_neg (by omega)]
    have hl : j < (bs s).length := by rw [bs_len]; exact hj
    rw [getElem!_pos (bs s) j hl]; rfl
  · show (w.drew.alloc _).frozen? ⟨w.drew.heap.size, j, none⟩ = _
    rw [World.frozen?_alloc_mark]
    have hsz : s.size ≤ (bytesRow s (grownCap w s.size 0 e)).size := by simp [bytesRow]
    generalize (bytesRow s (grownCap w s.size 0 e)).size = n at hsz
    simp; omega
theorem low_byte (x : UInt8) : (65 ≤ x.toNat ∧ x.toNat ≤ 90 → IntKind.u8.wrap (IntKind.u8.wrap ((x.toNat : Int) + 97) - 65) = ((lowB x).toNat : Int)) ∧ (¬ (65 ≤ x.toNat ∧ x.toNat ≤ 90) → lowB x = x) := by
  refine ⟨fun h => ?_, fun h => by unfold lowB; rw [if_neg h]⟩
  unfold lowB; rw [if_pos h]
  have e : (x + 32).toNat = x.toNat + 32 := by rw [UInt8.toNat_add]; show (x.toNat + 32) % 256 = _; omega
  rw [e]
  have h1 : IntKind.u8.wrap ((x.toNat : Int) + 97) = (x.toNat : Int) + 97 := by rw [IntKind.wrap_u8]; omega
  rw [h1, IntKind.wrap_u8]; omega
theorem low_end (P : Program) (src dst e : TypeId) (B cap : Nat) (w w' : World) (s : S) (hs : P.underlying src = some (.slice e)) (he : P.underlying e = some (.int .u8)) (hd : P.underlying dst = some .string) (h : LowW B s s.size w w') :
    (convert src dst (.slice (some ⟨B, 0, none⟩) s.size cap)).run P w' = .ok (.string (mLower s)) w' := by
  have hl : ((bs s).map lowB).length = s.size := by rw [List.length_map, bs_len]
  have := run_convert_bytes_back (P := P) w' src dst e ⟨B, 0, none⟩ cap ((bs s).map lowB) hs he hd (fun j hj => by
    have hj' : j < s.size := by rw [hl] at hj; exact hj
    have hjb : j < (bs s).length := by rw [bs_len]; exact hj'
    have h1 := (h.2 j hj').1
    rw [if_pos hj', getElem!_pos (bs s) j hjb] at h1
    rw [show (⟨B, 0, none⟩ : Addr).add j = ⟨B, j, none⟩ by unfold Addr.add; split <;> simp_all]
    rw [h1, List.getElem_map])
  rw [hl] at this
  exact this
end Go.Ev
namespace Go.Ev
open Go.RowKit
def lowerCt (f : FuncId) : Ct := { f, ps := [.v false .ro [.str]], rs := [(false, [.str])], shared := false, pre := fun (x : S) => pLower x, F := fun (x : S) => mLower x }
theorem lower_ct {P : Program} {f : FuncId} {w : World} (hf : FnIs P f)
    (hI : ∀ s : ByteArray, s.size ≤ 1073741824 → Calls P f #[.string s] w fun e w' => e = .returned (.string (mLower s)) ∧ Below w.heap.size w w') : CtAt P (lowerCt f) w := by
  refine ct_lib hf fun vals x S hS ha hp => ?_
  obtain ⟨v, vs', hv, h1, h2⟩ := args_v ha
  have h2 := args_e h2
  subst h2
  have h1 : v = .string x := h1
  subst h1
  rw [arr_of hv]
  exact (hI x hp).mono fun e w' ⟨he, hb⟩ => ⟨[.string (mLower x)], _, he, hb, Or.inl rfl, fun S' => res_str _⟩
end Go.Ev
end

section
set_option linter.unusedVariables false
namespace Go.Proofs.YtinphipdffikhaaDoor.Ap
open Go Go.Ev Go.Proofs Go.RowKit
abbrev ls3 : List L := [.int .i64]
abbrev ls4 : List L := [.bool]
abbrev ls5 : List L := [.int .u8]
abbrev ls9 : List L := [.str]
abbrev ls22 : List L := [.list 127 [.str, .str, .int .i64, .int .i64, .bool, .bool, .list 95 [.str, .str]]]
abbrev ls24 : List L := [.list 127 [.str, .str, .int .i64, .int .i64, .bool, .bool, .list 95 [.str, .str]]]
abbrev ls27 : List L := [.list 87 [.str, .str, .int .i64, .int .i64, .bool, .bool, .list 96 [.str, .str]]]
abbrev ls29 : List L := [.list 87 [.str, .str, .int .i64, .int .i64, .bool, .bool, .list 96 [.str, .str]]]
abbrev ls33 : List L := [.list 95 [.str, .str]]
abbrev ls42 : List L := [.list 96 [.str, .str]]
abbrev ls87 : List L := [.str, .str, .int .i64, .int .i64, .bool, .bool, .list 96 [.str, .str]]
abbrev ls95 : List L := [.str, .str]
abbrev ls96 : List L := [.str, .str]
abbrev ls127 : List L := [.str, .str, .int .i64, .int .i64, .bool, .bool, .list 95 [.str, .str]]
def tt : List (Nat × TI) := [
  (2, ⟨.sc, [.int .i64]⟩),
  (3, ⟨.sc, [.int .i64]⟩),
  (4, ⟨.sc, [.bool]⟩),
  (5, ⟨.sc, [.int .u8]⟩),
  (6, ⟨.sc, [.int .u8]⟩),
  (7, ⟨.st [(0, [.int .i64]), (1, [.int .i64]), (2, [.bool]), (3, [.int .u8])], [.int .i64, .int .i64, .bool, .int .u8]⟩),
  (8, ⟨.st [(0, [.int .i64]), (1, [.int .i64]), (2, [.bool]), (3, [.int .u8])], [.int .i64, .int .i64, .bool, .int .u8]⟩),
  (9, ⟨.sc, [.str]⟩),
  (10, ⟨.sc, [.str]⟩),
  (11, ⟨.sc, [.str]⟩),
  (12, ⟨.sc, [.int .u64]⟩),
  (13, ⟨.st [(0, [.str]), (1, [.int .u64])], [.str, .int .u64]⟩),
  (14, ⟨.st [(0, [.str]), (1, [.int .u64])], [.str, .int .u64]⟩),
  (21, ⟨.sc, [.int .i32]⟩),
  (22, ⟨.sl 127 [.str, .str, .int .i64, .int .i64, .bool, .bool, .list 95 [.str, .str]] 80, [.list 127 [.str, .str, .int .i64, .int .i64, .bool, .bool, .list 95 [.str, .str]]]⟩),
  (23, ⟨.st [(0, [.list 127 [.str, .str, .int .i64, .int .i64, .bool, .bool, .list 95 [.str, .str]]])], [.list 127 [.str, .str, .int .i64, .int .i64, .bool, .bool, .list 95 [.str, .str]]]⟩),
  (24, ⟨.st [(0, [.list 127 [.str, .str, .int .i64, .int .i64, .bool, .bool, .list 95 [.str, .str]]])], [.list 127 [.str, .str, .int .i64, .int .i64, .bool, .bool, .list 95 [.str, .str]]]⟩),
  (27, ⟨.sl 87 [.str, .str, .int .i64, .int .i64, .bool, .bool, .list 96 [.str, .str]] 80, [.list 87 [.str, .str, .int .i64, .int .i64, .bool, .bool, .list 96 [.str, .str]]]⟩),
  (28, ⟨.st [(0, [.list 87 [.str, .str, .int .i64, .int .i64, .bool, .bool, .list 96 [.str, .str]]])], [.list 87 [.str, .str, .int .i64, .int .i64, .bool, .bool, .list 96 [.str, .str]]]⟩),
  (29, ⟨.st [(0, [.list 87 [.str, .str, .int .i64, .int .i64, .bool, .bool, .list 96 [.str, .str]]])], [.list 87 [.str, .str, .int .i64, .int .i64, .bool, .bool, .list 96 [.str, .str]]]⟩),
  (33, ⟨.sl 95 [.str, .str] 32, [.list 95 [.str, .str]]⟩),
  (34, ⟨.st [(0, [.str]), (1, [.str]), (2, [.list 95 [.str, .str]]), (3, [.str])], [.str, .str, .list 95 [.str, .str], .str]⟩),
  (35, ⟨.st [(0, [.str]), (1, [.str]), (2, [.list 95 [.str, .str]]), (3, [.str])], [.str, .str, .list 95 [.str, .str], .str]⟩),
  (36, ⟨.st [(0, [.int .i64]), (1, [.list 95 [.str, .str]]), (2, [.str])], [.int .i64, .list 95 [.str, .str], .str]⟩),
  (37, ⟨.st [(0, [.int .i64]), (1, [.list 95 [.str, .str]]), (2, [.str])], [.int .i64, .list 95 [.str, .str], .str]⟩),
  (42, ⟨.sl 96 [.str, .str] 32, [.list 96 [.str, .str]]⟩),
  (43, ⟨.st [(0, [.str]), (1, [.str]), (2, [.list 96 [.str, .str]]), (3, [.str])], [.str, .str, .list 96 [.str, .str], .str]⟩),
  (44, ⟨.st [(0, [.str]), (1, [.str]), (2, [.list 96 [.str, .str]]), (3, [.str])], [.str, .str, .list 96 [.str, .str], .str]⟩),
  (46, ⟨.st [(0, [.int .i64]), (1, [.list 96 [.str, .str]]), (2, [.str])], [.int .i64, .list 96 [.str, .str], .str]⟩),
  (47, ⟨.st [(0, [.int .i64]), (1, [.list 96 [.str, .str]]), (2, [.str])], [.int .i64, .list 96 [.str, .str], .str]⟩),
  (63, ⟨.sl 145 [.str, .list 95 [.str, .str], .int .i64, .list 95 [.str, .str], .str, .int .i64, .int .i64, .bool] 112, [.list 145 [.str, .list 95 [.str, .str], .int .i64, .list 95 [.str, .str], .str, .int .i64, .int .i64, .bool]]⟩),
  (64, ⟨.st [(0, [.int .i64]), (1, [.int .i64]), (2, [.list 145 [.str, .list 95 [.str, .str], .int .i64, .list 95 [.str, .str], .str, .int .i64, .int .i64, .bool]]), (3, [.int .i64])], [.int .i64, .int .i64, .list 145 [.str, .list 95 [.str, .str], .int .i64, .list 95 [.str, .str], .str, .int .i64, .int .i64, .bool], .int .i64]⟩),
  (65, ⟨.st [(0, [.int .i64]), (1, [.int .i64]), (2, [.list 145 [.str, .list 95 [.str, .str], .int .i64, .list 95 [.str, .str], .str, .int .i64, .int .i64, .bool]]), (3, [.int .i64])], [.int .i64, .int .i64, .list 145 [.str, .list 95 [.str, .str], .int .i64, .list 95 [.str, .str], .str, .int .i64, .int .i64, .bool], .int .i64]⟩),
  (68, ⟨.sl 113 [.str, .list 96 [.str, .str], .int .i64, .list 96 [.str, .str], .str, .int .i64, .int .i64, .bool] 112, [.list 113 [.str, .list 96 [.str, .str], .int .i64, .list 96 [.str, .str], .str, .int .i64, .int .i64, .bool]]⟩),
  (69, ⟨.st [(0, [.int .i64]), (1, [.int .i64]), (2, [.list 113 [.str, .list 96 [.str, .str], .int .i64, .list 96 [.str, .str], .str, .int .i64, .int .i64, .bool]]), (3, [.int .i64])], [.int .i64, .int .i64, .list 113 [.str, .list 96 [.str, .str], .int .i64, .list 96 [.str, .str], .str, .int .i64, .int .i64, .bool], .int .i64]⟩),
  (70, ⟨.st [(0, [.int .i64]), (1, [.int .i64]), (2, [.list 113 [.str, .list 96 [.str, .str], .int .i64, .list 96 [.str, .str], .str, .int .i64, .int .i64, .bool]]), (3, [.int .i64])], [.int .i64, .int .i64, .list 113 [.str, .list 96 [.str, .str], .int .i64, .list 96 [.str, .str], .str, .int .i64, .int .i64, .bool], .int .i64]⟩),
  (76, ⟨.st [(0, [.str]), (1, [.bool]), (2, [.int .i64]), (3, [.bool]), (4, [.bool]), (5, [.str, .str, .list 95 [.str, .str], .str]), (9, [.int .i64, .list 95 [.str, .str], .str]), (12, [.int .i64]), (13, [.int .i64])], [.str, .bool, .int .i64, .bool, .bool, .str, .str, .list 95 [.str, .str], .str, .int .i64, .list 95 [.str, .str], .str, .int .i64, .int .i64]⟩),
  (77, ⟨.st [(0, [.str]), (1, [.bool]), (2, [.int .i64]), (3, [.bool]), (4, [.bool]), (5, [.str, .str, .list 95 [.str, .str], .str]), (9, [.int .i64, .list 95 [.str, .str], .str]), (12, [.int .i64]), (13, [.int .i64])], [.str, .bool, .int .i64, .bool, .bool, .str, .str, .list 95 [.str, .str], .str, .int .i64, .list 95 [.str, .str], .str, .int .i64, .int .i64]⟩),
  (80, ⟨.st [(0, [.str]), (1, [.bool]), (2, [.int .i64]), (3, [.bool]), (4, [.bool]), (5, [.str, .str, .list 96 [.str, .str], .str]), (9, [.int .i64, .list 96 [.str, .str], .str]), (12, [.int .i64]), (13, [.int .i64])], [.str, .bool, .int .i64, .bool, .bool, .str, .str, .list 96 [.str, .str], .str, .int .i64, .list 96 [.str, .str], .str, .int .i64, .int .i64]⟩),
  (81, ⟨.st [(0, [.str]), (1, [.bool]), (2, [.int .i64]), (3, [.bool]), (4, [.bool]), (5, [.str, .str, .list 96 [.str, .str], .str]), (9, [.int .i64, .list 96 [.str, .str], .str]), (12, [.int .i64]), (13, [.int .i64])], [.str, .bool, .int .i64, .bool, .bool, .str, .str, .list 96 [.str, .str], .str, .int .i64, .list 96 [.str, .str], .str, .int .i64, .int .i64]⟩),
  (86, ⟨.st [(0, [.str]), (1, [.str]), (2, [.int .i64]), (3, [.int .i64]), (4, [.bool]), (5, [.bool]), (6, [.list 96 [.str, .str]])], [.str, .str, .int .i64, .int .i64, .bool, .bool, .list 96 [.str, .str]]⟩),
  (87, ⟨.st [(0, [.str]), (1, [.str]), (2, [.int .i64]), (3, [.int .i64]), (4, [.bool]), (5, [.bool]), (6, [.list 96 [.str, .str]])], [.str, .str, .int .i64, .int .i64, .bool, .bool, .list 96 [.str, .str]]⟩),
  (94, ⟨.st [(0, [.str]), (1, [.str])], [.str, .str]⟩),
  (95, ⟨.st [(0, [.str]), (1, [.str])], [.str, .str]⟩),
  (96, ⟨.st [(0, [.str]), (1, [.str])], [.str, .str]⟩),
  (99, ⟨.sl 9 [.str] 16, [.list 9 [.str]]⟩),
  (110, ⟨.st [(0, [.str]), (1, [.list 96 [.str, .str]]), (2, [.int .i64, .list 96 [.str, .str], .str]), (5, [.int .i64]), (6, [.int .i64])], [.str, .list 96 [.str, .str], .int .i64, .list 96 [.str, .str], .str, .int .i64, .int .i64]⟩),
  (111, ⟨.st [(0, [.str]), (1, [.list 96 [.str, .str]]), (2, [.int .i64, .list 96 [.str, .str], .str]), (5, [.int .i64]), (6, [.int .i64])], [.str, .list 96 [.str, .str], .int .i64, .list 96 [.str, .str], .str, .int .i64, .int .i64]⟩),
  (112, ⟨.st [(0, [.str, .list 96 [.str, .str], .int .i64, .list 96 [.str, .str], .str, .int .i64, .int .i64]), (7, [.bool])], [.str, .list 96 [.str, .str], .int .i64, .list 96 [.str, .str], .str, .int .i64, .int .i64, .bool]⟩),
  (113, ⟨.st [(0, [.str, .list 96 [.str, .str], .int .i64, .list 96 [.str, .str], .str, .int .i64, .int .i64]), (7, [.bool])], [.str, .list 96 [.str, .str], .int .i64, .list 96 [.str, .str], .str, .int .i64, .int .i64, .bool]⟩),
  (126, ⟨.st [(0, [.str]), (1, [.str]), (2, [.int .i64]), (3, [.int .i64]), (4, [.bool]), (5, [.bool]), (6, [.list 95 [.str, .str]])], [.str, .str, .int .i64, .int .i64, .bool, .bool, .list 95 [.str, .str]]⟩),
  (127, ⟨.st [(0, [.str]), (1, [.str]), (2, [.int .i64]), (3, [.int .i64]), (4, [.bool]), (5, [.bool]), (6, [.list 95 [.str, .str]])], [.str, .str, .int .i64, .int .i64, .bool, .bool, .list 95 [.str, .str]]⟩),
  (131, ⟨.sl 5 [.int .u8] 1, [.list 5 [.int .u8]]⟩),
  (132, ⟨.sl 134 [.str, .str] 32, [.list 134 [.str, .str]]⟩),
  (134, ⟨.st [(0, [.str]), (1, [.str])], [.str, .str]⟩),
  (142, ⟨.st [(0, [.str]), (1, [.list 95 [.str, .str]]), (2, [.int .i64, .list 95 [.str, .str], .str]), (5, [.int .i64]), (6, [.int .i64])], [.str, .list 95 [.str, .str], .int .i64, .list 95 [.str, .str], .str, .int .i64, .int .i64]⟩),
  (143, ⟨.st [(0, [.str]), (1, [.list 95 [.str, .str]]), (2, [.int .i64, .list 95 [.str, .str], .str]), (5, [.int .i64]), (6, [.int .i64])], [.str, .list 95 [.str, .str], .int .i64, .list 95 [.str, .str], .str, .int .i64, .int .i64]⟩),
  (144, ⟨.st [(0, [.str, .list 95 [.str, .str], .int .i64, .list 95 [.str, .str], .str, .int .i64, .int .i64]), (7, [.bool])], [.str, .list 95 [.str, .str], .int .i64, .list 95 [.str, .str], .str, .int .i64, .int .i64, .bool]⟩),
  (145, ⟨.st [(0, [.str, .list 95 [.str, .str], .int .i64, .list 95 [.str, .str], .str, .int .i64, .int .i64]), (7, [.bool])], [.str, .list 95 [.str, .str], .int .i64, .list 95 [.str, .str], .str, .int .i64, .int .i64, .bool]⟩),
  (150, ⟨.sl 3 [.int .i64] 8, [.list 3 [.int .i64]]⟩),
  (171, ⟨.sc, [.int .i64]⟩),
  (188, ⟨.sc, [.int .u64]⟩),
  (191, ⟨.sc, [.int .u64]⟩),
  (202, ⟨.st [(0, [.str])], [.str]⟩),
  (203, ⟨.st [(0, [.str])], [.str]⟩),
  (210, ⟨.sc, [.int .u32]⟩),
  (218, ⟨.st [(0, [.int .u8]), (1, [.int .u8])], [.int .u8, .int .u8]⟩),
  (219, ⟨.st [(0, [.int .u8]), (1, [.int .u8])], [.int .u8, .int .u8]⟩),
  (231, ⟨.sc, [.int .u8]⟩),
  (232, ⟨.sc, [.int .u8]⟩),
  (234, ⟨.sc, [.int .i32]⟩),
  (235, ⟨.sc, [.int .i32]⟩)]
theorem ttOk : ttB Tryd.prog tt = true := by kernel_rfl
theorem mixOk : Tryd.prog.follows .mixedOrders = true := by kernel_rfl
def J (w : World) : Prop := (∃ m, w.cell? ⟨2, 0, none⟩ = some (.int .i64 m)) ∧ True
theorem J_below {w w' : World} (h : J w) (hb : Below w.heap.size w w') : J w' := by
  obtain ⟨⟨m, hm⟩, _⟩ := h
  have hlt : 2 < w.heap.size := cell_lt hm
  exact ⟨⟨m, (hb.cell hlt).trans hm⟩, trivial⟩
noncomputable def E61 : Env := { tt, eqs := [], cts := [] }
theorem ok61 : EnvOk Tryd.prog E61 := ⟨ttOk, by kernel_rfl, rfl, mixOk⟩
theorem cs61 (w0 : World) (hJ : J w0) : EnvCts Tryd.prog E61 w0 := by
  intro c hc
  cases hc
noncomputable def ct61 : Ct := { f := 61, ps := [.v true .ro ls95, .v false .ro [.int .i64]], rs := [(false, [.int .i64])], shared := false, pre := fun (q : Fld × Int) => pSz q.1 q.2, F := fun (q : Fld × Int) => szF q.1 q.2 }
def st61 : List (SzStep Fld) := [.str (fun x : Fld => x.1), .str (fun x : Fld => x.2)]
theorem c61 (x : Fld) : szSum x st61 = cz x := by
  simp only [szSum, st61, cz_pair, cz_int, cz_bool, cz_str]
  all_goals omega
theorem w61 (x : Fld) (h : wd x) : szFine x st61 := by
  first | simp only [wd_pair] at h | skip
  simp only [szFine, st61, wd_pair, wf_wd]
  simp only [h, and_self]
theorem law61 : ∀ q : Fld × Int, pSz q.1 q.2 → szSt q.1 st61 q.2 (fun r => r = szF q.1 q.2) := fun q hq => szSt_holds q.1 st61 q.2 _ (w61 q.1 hq.1) hq.2.1 hq.2.2 (c61 q.1)
theorem all61 (w : World) (hJ : J w) : CtAt Tryd.prog ct61 w :=
  ct_by ok61 (cs61 w hJ) Tryd.func61 (by kernel_rfl) (H := (hint [])) law61 (by kernel_rfl)
noncomputable def E19 : Env := { tt, eqs := [], cts := [ct61] }
theorem ok19 : EnvOk Tryd.prog E19 := ⟨ttOk, by kernel_rfl, rfl, mixOk⟩
theorem cs19 (w0 : World) (hJ : J w0) : EnvCts Tryd.prog E19 w0 := by
  intro c hc
  rcases List.mem_cons.1 hc with rfl | hc
  · exact fun w hb => all61 w (J_below hJ hb)
  cases hc
noncomputable def ct19 : Ct := { f := 19, ps := [.v false .ro ls33, .v false .ro [.int .i64]], rs := [(false, [.int .i64])], shared := false, pre := fun (q : (List Fld) × Int) => pSz q.1 q.2, F := fun (q : (List Fld) × Int) => szF q.1 q.2 }
theorem law19 : ∀ q : (List Fld) × Int, pSz q.1 q.2 → szS (α := Fld) Dft.dft (fun y k => pSz y k) (fun y k => szF y k) q.1 q.2 (fun r => r = szF q.1 q.2) := fun q hq => szS_holds (α := Fld) Dft.dft cz wd q.1 q.2 hq.1.1 hq.1.2 hq.2.1 hq.2.2
theorem all19 (w : World) (hJ : J w) : CtAt Tryd.prog ct19 w :=
  ct_by ok19 (cs19 w hJ) Tryd.func19 (by kernel_rfl) (H := (hint [(5, [.val 1 (.int .i64), .val 5 (.int .i64)])])) law19 (by kernel_rfl)
noncomputable def E102 : Env := { tt, eqs := [], cts := [ct19] }
theorem ok102 : EnvOk Tryd.prog E102 := ⟨ttOk, by kernel_rfl, rfl, mixOk⟩
theorem cs102 (w0 : World) (hJ : J w0) : EnvCts Tryd.prog E102 w0 := by
  intro c hc
  rcases List.mem_cons.1 hc with rfl | hc
  · exact fun w hb => all19 w (J_below hJ hb)
  cases hc
noncomputable def ct102 : Ct := { f := 102, ps := [.v true .ro ls127, .v false .ro [.int .i64]], rs := [(false, [.int .i64])], shared := false, pre := fun (q : Rsc × Int) => pSz q.1 q.2, F := fun (q : Rsc × Int) => szF q.1 q.2 }
def st102 : List (SzStep Rsc) := [.str (fun x : Rsc => x.1), .str (fun x : Rsc => x.2.1), .call (fun x : Rsc => wd (x.2.2.2.2.2.2 : (List Fld))) (fun x : Rsc => cz (x.2.2.2.2.2.2 : (List Fld)))]
theorem c102 (x : Rsc) : szSum x st102 = cz x := by
  simp only [szSum, st102, cz_pair, cz_int, cz_bool, cz_str]
  all_goals omega
theorem w102 (x : Rsc) (h : wd x) : szFine x st102 := by
  first | simp only [wd_pair] at h | skip
  simp only [szFine, st102, wd_pair, wf_wd]
  simp only [h, and_self]
theorem law102 : ∀ q : Rsc × Int, pSz q.1 q.2 → szSt q.1 st102 q.2 (fun r => r = szF q.1 q.2) := fun q hq => szSt_holds q.1 st102 q.2 _ (w102 q.1 hq.1) hq.2.1 hq.2.2 (c102 q.1)
theorem all102 (w : World) (hJ : J w) : CtAt Tryd.prog ct102 w :=
  ct_by ok102 (cs102 w hJ) Tryd.func102 (by kernel_rfl) (H := (hint [])) law102 (by kernel_rfl)
noncomputable def E52 : Env := { tt, eqs := [], cts := [ct102] }
theorem ok52 : EnvOk Tryd.prog E52 := ⟨ttOk, by kernel_rfl, rfl, mixOk⟩
theorem cs52 (w0 : World) (hJ : J w0) : EnvCts Tryd.prog E52 w0 := by
  intro c hc
  rcases List.mem_cons.1 hc with rfl | hc
  · exact fun w hb => all102 w (J_below hJ hb)
  cases hc
noncomputable def ct52 : Ct := { f := 52, ps := [.v false .ro ls22, .v false .ro [.int .i64]], rs := [(false, [.int .i64])], shared := false, pre := fun (q : (List Rsc) × Int) => pSz q.1 q.2, F := fun (q : (List Rsc) × Int) => szF q.1 q.2 }
theorem law52 : ∀ q : (List Rsc) × Int, pSz q.1 q.2 → szS (α := Rsc) Dft.dft (fun y k => pSz y k) (fun y k => szF y k) q.1 q.2 (fun r => r = szF q.1 q.2) := fun q hq => szS_holds (α := Rsc) Dft.dft cz wd q.1 q.2 hq.1.1 hq.1.2 hq.2.1 hq.2.2
theorem all52 (w : World) (hJ : J w) : CtAt Tryd.prog ct52 w :=
  ct_by ok52 (cs52 w hJ) Tryd.func52 (by kernel_rfl) (H := (hint [(5, [.val 1 (.int .i64), .val 5 (.int .i64)])])) law52 (by kernel_rfl)
noncomputable def E12 : Env := { tt, eqs := [], cts := [ct52] }
theorem ok12 : EnvOk Tryd.prog E12 := ⟨ttOk, by kernel_rfl, rfl, mixOk⟩
theorem cs12 (w0 : World) (hJ : J w0) : EnvCts Tryd.prog E12 w0 := by
  intro c hc
  rcases List.mem_cons.1 hc with rfl | hc
  · exact fun w hb => all52 w (J_below hJ hb)
  cases hc
noncomputable def ct12 : Ct := { f := 12, ps := [.v true .ro ls24, .v false .ro [.int .i64]], rs := [(false, [.int .i64])], shared := false, pre := fun (q : (List Rsc) × Int) => pSz q.1 q.2, F := fun (q : (List Rsc) × Int) => szF q.1 q.2 }
def st12 : List (SzStep (List Rsc)) := [.call (fun x : (List Rsc) => wd (x : (List Rsc))) (fun x : (List Rsc) => cz (x : (List Rsc)))]
theorem c12 (x : (List Rsc)) : szSum x st12 = cz x := by
  simp only [szSum, st12, cz_pair, cz_int, cz_bool, cz_str]
  all_goals omega
theorem w12 (x : (List Rsc)) (h : wd x) : szFine x st12 := by
  first | simp only [wd_pair] at h | skip
  simp only [szFine, st12, wd_pair, wf_wd]
  simp only [h, and_self]
theorem law12 : ∀ q : (List Rsc) × Int, pSz q.1 q.2 → szSt q.1 st12 q.2 (fun r => r = szF q.1 q.2) := fun q hq => szSt_holds q.1 st12 q.2 _ (w12 q.1 hq.1) hq.2.1 hq.2.2 (c12 q.1)
theorem all12 (w : World) (hJ : J w) : CtAt Tryd.prog ct12 w :=
  ct_by ok12 (cs12 w hJ) Tryd.func12 (by kernel_rfl) (H := (hint [])) law12 (by kernel_rfl)
noncomputable def E63 : Env := { tt, eqs := [], cts := [] }
theorem ok63 : EnvOk Tryd.prog E63 := ⟨ttOk, by kernel_rfl, rfl, mixOk⟩
theorem cs63 (w0 : World) (hJ : J w0) : EnvCts Tryd.prog E63 w0 := by
  intro c hc
  cases hc
noncomputable def ct63 : Ct := { f := 63, ps := [.v true .ro ls95], rs := [(true, ls96)], shared := false, pre := fun (x : Fld) => pTo x, F := fun (x : Fld) => toF x }
theorem law63 : ∀ q : Fld, pTo q → conj [] (q = toF q) := fun q hq => rfl
theorem all63 (w : World) (hJ : J w) : CtAt Tryd.prog ct63 w :=
  ct_by ok63 (cs63 w hJ) Tryd.func63 (by kernel_rfl) (H := (hint [])) law63 (by kernel_rfl)
noncomputable def E23 : Env := { tt, eqs := [], cts := [ct63] }
theorem ok23 : EnvOk Tryd.prog E23 := ⟨ttOk, by kernel_rfl, rfl, mixOk⟩
theorem cs23 (w0 : World) (hJ : J w0) : EnvCts Tryd.prog E23 w0 := by
  intro c hc
  rcases List.mem_cons.1 hc with rfl | hc
  · exact fun w hb => all63 w (J_below hJ hb)
  cases hc
noncomputable def ct23 : Ct := { f := 23, ps := [.v false .ro ls33], rs := [(false, ls42)], shared := false, pre := fun (x : (List Fld)) => pTo x, F := fun (x : (List Fld)) => toF x }
theorem law23 : ∀ q : (List Fld), pTo q → toS (α := Fld) Dft.dft 32 (fun y => pTo y) q (fun r => r = toF q) := fun q hq => toS_holds (α := Fld) Dft.dft 32 (fun y => pTo y) q (md_len' hq) (by omega) (fun i a h => md_mem hq (List.mem_of_getElem? h)) rfl
theorem all23 (w : World) (hJ : J w) : CtAt Tryd.prog ct23 w :=
  ct_by ok23 (cs23 w hJ) Tryd.func23 (by kernel_rfl) (H := (hint [(3, [.reg 3 96 ls96 true, .val 4 (.int .i64)])])) law23 (by kernel_rfl)
noncomputable def E104 : Env := { tt, eqs := [], cts := [ct23] }
theorem ok104 : EnvOk Tryd.prog E104 := ⟨ttOk, by kernel_rfl, rfl, mixOk⟩
theorem cs104 (w0 : World) (hJ : J w0) : EnvCts Tryd.prog E104 w0 := by
  intro c hc
  rcases List.mem_cons.1 hc with rfl | hc
  · exact fun w hb => all23 w (J_below hJ hb)
  cases hc
noncomputable def ct104 : Ct := { f := 104, ps := [.v true .ro ls127], rs := [(true, ls87)], shared := false, pre := fun (x : Rsc) => pTo x, F := fun (x : Rsc) => toF x }
theorem law104 : ∀ q : Rsc, pTo q → conj [pTo (q.2.2.2.2.2.2 : (List Fld))] (q = toF q) := fun q hq => ⟨(czt (czt (czt (czt (czt (czt hq)))))), rfl⟩
theorem all104 (w : World) (hJ : J w) : CtAt Tryd.prog ct104 w :=
  ct_by ok104 (cs104 w hJ) Tryd.func104 (by kernel_rfl) (H := (hint [])) law104 (by kernel_rfl)
noncomputable def E56 : Env := { tt, eqs := [], cts := [ct104] }
theorem ok56 : EnvOk Tryd.prog E56 := ⟨ttOk, by kernel_rfl, rfl, mixOk⟩
theorem cs56 (w0 : World) (hJ : J w0) : EnvCts Tryd.prog E56 w0 := by
  intro c hc
  rcases List.mem_cons.1 hc with rfl | hc
  · exact fun w hb => all104 w (J_below hJ hb)
  cases hc
noncomputable def ct56 : Ct := { f := 56, ps := [.v false .ro ls22], rs := [(false, ls27)], shared := false, pre := fun (x : (List Rsc)) => pTo x, F := fun (x : (List Rsc)) => toF x }
theorem law56 : ∀ q : (List Rsc), pTo q → toS (α := Rsc) Dft.dft 80 (fun y => pTo y) q (fun r => r = toF q) := fun q hq => toS_holds (α := Rsc) Dft.dft 80 (fun y => pTo y) q (md_len' hq) (by omega) (fun i a h => md_mem hq (List.mem_of_getElem? h)) rfl
theorem all56 (w : World) (hJ : J w) : CtAt Tryd.prog ct56 w :=
  ct_by ok56 (cs56 w hJ) Tryd.func56 (by kernel_rfl) (H := (hint [(3, [.reg 3 87 ls87 true, .val 4 (.int .i64)])])) law56 (by kernel_rfl)
noncomputable def E14 : Env := { tt, eqs := [], cts := [ct56] }
theorem ok14 : EnvOk Tryd.prog E14 := ⟨ttOk, by kernel_rfl, rfl, mixOk⟩
theorem cs14 (w0 : World) (hJ : J w0) : EnvCts Tryd.prog E14 w0 := by
  intro c hc
  rcases List.mem_cons.1 hc with rfl | hc
  · exact fun w hb => all56 w (J_below hJ hb)
  cases hc
noncomputable def ct14 : Ct := { f := 14, ps := [.v true .ro ls24], rs := [(true, ls29)], shared := false, pre := fun (x : (List Rsc)) => pTo x, F := fun (x : (List Rsc)) => toF x }
theorem law14 : ∀ q : (List Rsc), pTo q → conj [pTo (q : (List Rsc))] (q = toF q) := fun q hq => ⟨hq, rfl⟩
theorem all14 (w : World) (hJ : J w) : CtAt Tryd.prog ct14 w :=
  ct_by ok14 (cs14 w hJ) Tryd.func14 (by kernel_rfl) (H := (hint [])) law14 (by kernel_rfl)
noncomputable def E54 : Env := { tt, eqs := [], cts := [] }
theorem ok54 : EnvOk Tryd.prog E54 := ⟨ttOk, by kernel_rfl, rfl, mixOk⟩
theorem cs54 (w0 : World) (hJ : J w0) : EnvCts Tryd.prog E54 w0 := by
  intro c hc
  cases hc
noncomputable def ct54 : Ct := { f := 54, ps := [.v false .ro ls3, .v false .ro ls3, .v false .ro ls3], rs := [(false, ls4)], shared := false, pre := fun (x : Int × Int × Int) => pIn x.1 x.2.1 x.2.2, F := fun (x : Int × Int × Int) => mIn x.1 x.2.1 x.2.2 }
theorem law54 : ∀ x : Int × Int × Int, pIn x.1 x.2.1 x.2.2 → s_spec_l1In x.1 x.2.1 x.2.2 (fun r => r = mIn x.1 x.2.1 x.2.2) := fun x _ => spec_l1In_ok x.1 x.2.1 x.2.2
theorem all54 (w : World) (hJ : J w) : CtAt Tryd.prog ct54 w :=
  ct_by ok54 (cs54 w hJ) Tryd.func54 (by kernel_rfl) (H := (hint [])) law54 (by kernel_rfl)
noncomputable def E53 : Env := { tt, eqs := [], cts := [ct54] }
theorem ok53 : EnvOk Tryd.prog E53 := ⟨ttOk, by kernel_rfl, rfl, mixOk⟩
theorem cs53 (w0 : World) (hJ : J w0) : EnvCts Tryd.prog E53 w0 := by
  intro c hc
  rcases List.mem_cons.1 hc with rfl | hc
  · exact fun w hb => all54 w (J_below hJ hb)
  cases hc
noncomputable def ct53 : Ct := { f := 53, ps := [.v false .ro ls9], rs := [(false, ls4)], shared := false, pre := fun (x : S) => pUriOk x, F := fun (x : S) => mUriOk x }
theorem law53 : ∀ x : S, pUriOk x → s_spec_UriOk x (fun r => r = mUriOk x) := fun x h => spec_UriOk_ok x h
theorem all53 (w : World) (hJ : J w) : CtAt Tryd.prog ct53 w :=
  ct_by ok53 (cs53 w hJ) Tryd.func53 (by kernel_rfl) (H := (hint [(2, [.val 3 (.int .i64)])])) law53 (by kernel_rfl)
noncomputable def E67 : Env := { tt, eqs := [], cts := [] }
theorem ok67 : EnvOk Tryd.prog E67 := ⟨ttOk, by kernel_rfl, rfl, mixOk⟩
theorem cs67 (w0 : World) (hJ : J w0) : EnvCts Tryd.prog E67 w0 := by
  intro c hc
  cases hc
noncomputable def ct67 : Ct := { f := 67, ps := [.v false .ro ls42, .v false .ro ls9], rs := [(false, ls9), (false, ls4)], shared := false, pre := fun (x : (List Fld) × S) => pFieldGet x.1 x.2, F := fun (x : (List Fld) × S) => mFieldGet x.1 x.2 }
theorem law67 : ∀ x : (List Fld) × S, pFieldGet x.1 x.2 → s_spec_FieldGet x.1 x.2 (fun r => r = mFieldGet x.1 x.2) := fun x h => spec_FieldGet_ok x.1 x.2 h
theorem all67 (w : World) (hJ : J w) : CtAt Tryd.prog ct67 w :=
  ct_by ok67 (cs67 w hJ) Tryd.func67 (by kernel_rfl) (H := (hint [(4, [.val 6 (.str), .val 7 (.bool), .val 8 (.int .i64)])])) law67 (by kernel_rfl)
noncomputable def E154 : Env := { tt, eqs := [], cts := [] }
theorem ok154 : EnvOk Tryd.prog E154 := ⟨ttOk, by kernel_rfl, rfl, mixOk⟩
theorem cs154 (w0 : World) (hJ : J w0) : EnvCts Tryd.prog E154 w0 := by
  intro c hc
  cases hc
noncomputable def ct154 : Ct := { f := 154, ps := [.v false .ro ls5], rs := [(false, ls4)], shared := false, pre := fun (x : Int) => pToken x, F := fun (x : Int) => mToken x }
theorem law154 : ∀ x : Int, pToken x → s_spec_l2Token x (fun r => r = mToken x) := fun x _ => spec_l2Token_ok x
theorem all154 (w : World) (hJ : J w) : CtAt Tryd.prog ct154 w :=
  ct_by ok154 (cs154 w hJ) Tryd.func154 (by kernel_rfl) (H := (hint [])) law154 (by kernel_rfl)
noncomputable def E136 : Env := { tt, eqs := [], cts := [ct154] }
theorem ok136 : EnvOk Tryd.prog E136 := ⟨ttOk, by kernel_rfl, rfl, mixOk⟩
theorem cs136 (w0 : World) (hJ : J w0) : EnvCts Tryd.prog E136 w0 := by
  intro c hc
  rcases List.mem_cons.1 hc with rfl | hc
  · exact fun w hb => all154 w (J_below hJ hb)
  cases hc
noncomputable def ct136 : Ct := { f := 136, ps := [.v false .ro ls9], rs := [(false, ls4)], shared := false, pre := fun (x : S) => pIsTokenText x, F := fun (x : S) => mIsTokenText x }
theorem law136 : ∀ x : S, pIsTokenText x → s_spec_IsTokenText x (fun r => r = mIsTokenText x) := fun x h => spec_IsTokenText_ok x h
theorem all136 (w : World) (hJ : J w) : CtAt Tryd.prog ct136 w :=
  ct_by ok136 (cs136 w hJ) Tryd.func136 (by kernel_rfl) (H := (hint [(2, [.val 3 (.int .i64)])])) law136 (by kernel_rfl)
noncomputable def E109 : Env := { tt, eqs := [], cts := [] }
theorem ok109 : EnvOk Tryd.prog E109 := ⟨ttOk, by kernel_rfl, rfl, mixOk⟩
theorem cs109 (w0 : World) (hJ : J w0) : EnvCts Tryd.prog E109 w0 := by
  intro c hc
  cases hc
noncomputable def ct109 : Ct := { f := 109, ps := [.v false .ro ls9], rs := [(false, ls9)], shared := false, pre := fun (x : S) => pLower x, F := fun (x : S) => mLower x }
theorem law109 : ∀ x : S, pLower x → s_spec_Lower x (fun r => r = mLower x) := fun x h => spec_Lower_ok x h
theorem all109 (w : World) (hJ : J w) : CtAt Tryd.prog ct109 w :=
  ct_by ok109 (cs109 w hJ) Tryd.func109 (by kernel_rfl) (H := (hint [(3, [.val 4 (.int .i64), .reg 3 5 [.int .u8] false])])) law109 (by kernel_rfl)
noncomputable def E147 : Env := { tt, eqs := [], cts := [] }
theorem ok147 : EnvOk Tryd.prog E147 := ⟨ttOk, by kernel_rfl, rfl, mixOk⟩
theorem cs147 (w0 : World) (hJ : J w0) : EnvCts Tryd.prog E147 w0 := by
  intro c hc
  cases hc
noncomputable def ct147 : Ct := { f := 147, ps := [.v false .ro ls5], rs := [(false, ls4)], shared := false, pre := fun (x : Int) => pBlank x, F := fun (x : Int) => mBlank x }
theorem law147 : ∀ x : Int, pBlank x → s_spec_l2Blank x (fun r => r = mBlank x) := fun x _ => spec_l2Blank_ok x
theorem all147 (w : World) (hJ : J w) : CtAt Tryd.prog ct147 w :=
  ct_by ok147 (cs147 w hJ) Tryd.func147 (by kernel_rfl) (H := (hint [])) law147 (by kernel_rfl)
noncomputable def E123 : Env := { tt, eqs := [], cts := [ct147] }
theorem ok123 : EnvOk Tryd.prog E123 := ⟨ttOk, by kernel_rfl, rfl, mixOk⟩
theorem cs123 (w0 : World) (hJ : J w0) : EnvCts Tryd.prog E123 w0 := by
  intro c hc
  rcases List.mem_cons.1 hc with rfl | hc
  · exact fun w hb => all147 w (J_below hJ hb)
  cases hc
noncomputable def ct123 : Ct := { f := 123, ps := [.v false .ro ls9], rs := [(false, ls9)], shared := false, pre := fun (x : S) => pTrim x, F := fun (x : S) => mTrim x }
theorem law123 : ∀ x : S, pTrim x → s_spec_Trim x (fun r => r = mTrim x) := fun x h => spec_Trim_ok x h
theorem all123 (w : World) (hJ : J w) : CtAt Tryd.prog ct123 w :=
  ct_by ok123 (cs123 w hJ) Tryd.func123 (by kernel_rfl) (H := (hint [(1, [.val 0 (.str)]), (3, [.val 0 (.str)])])) law123 (by kernel_rfl)
noncomputable def E149 : Env := { tt, eqs := [], cts := [ct123] }
theorem ok149 : EnvOk Tryd.prog E149 := ⟨ttOk, by kernel_rfl, rfl, mixOk⟩
theorem cs149 (w0 : World) (hJ : J w0) : EnvCts Tryd.prog E149 w0 := by
  intro c hc
  rcases List.mem_cons.1 hc with rfl | hc
  · exact fun w hb => all123 w (J_below hJ hb)
  cases hc
noncomputable def ct149 : Ct := { f := 149, ps := [.v false .ro ls9], rs := [(false, ls4)], shared := false, pre := fun (x : S) => pIsValueText x, F := fun (x : S) => mIsValueText x }
theorem law149 : ∀ x : S, pIsValueText x → s_spec_IsValueText x (fun r => r = mIsValueText x) := fun x h => spec_IsValueText_ok x h
theorem all149 (w : World) (hJ : J w) : CtAt Tryd.prog ct149 w :=
  ct_by ok149 (cs149 w hJ) Tryd.func149 (by kernel_rfl) (H := (hint [(2, [.val 3 (.int .i64)])])) law149 (by kernel_rfl)
noncomputable def E129 : Env := { tt, eqs := [], cts := [ct136, ct109, ct149] }
theorem ok129 : EnvOk Tryd.prog E129 := ⟨ttOk, by kernel_rfl, rfl, mixOk⟩
theorem cs129 (w0 : World) (hJ : J w0) : EnvCts Tryd.prog E129 w0 := by
  intro c hc
  rcases List.mem_cons.1 hc with rfl | hc
  · exact fun w hb => all136 w (J_below hJ hb)
  rcases List.mem_cons.1 hc with rfl | hc
  · exact fun w hb => all109 w (J_below hJ hb)
  rcases List.mem_cons.1 hc with rfl | hc
  · exact fun w hb => all149 w (J_below hJ hb)
  cases hc
noncomputable def ct129 : Ct := { f := 129, ps := [.v true .ro ls96], rs := [(false, ls4)], shared := false, pre := fun (x : Fld) => pFieldOk x, F := fun (x : Fld) => mFieldOk x }
theorem law129 : ∀ x : Fld, pFieldOk x → s_spec_l3FieldOk x (fun r => r = mFieldOk x) := fun x h => spec_l3FieldOk_ok x h
theorem all129 (w : World) (hJ : J w) : CtAt Tryd.prog ct129 w :=
  ct_by ok129 (cs129 w hJ) Tryd.func129 (by kernel_rfl) (H := (hint [])) law129 (by kernel_rfl)
noncomputable def E103 : Env := { tt, eqs := [], cts := [ct129] }
theorem ok103 : EnvOk Tryd.prog E103 := ⟨ttOk, by kernel_rfl, rfl, mixOk⟩
theorem cs103 (w0 : World) (hJ : J w0) : EnvCts Tryd.prog E103 w0 := by
  intro c hc
  rcases List.mem_cons.1 hc with rfl | hc
  · exact fun w hb => all129 w (J_below hJ hb)
  cases hc
noncomputable def ct103 : Ct := { f := 103, ps := [.v false .ro ls42], rs := [(false, ls4)], shared := false, pre := fun (x : (List Fld)) => pFieldsOk x, F := fun (x : (List Fld)) => mFieldsOk x }
theorem law103 : ∀ x : (List Fld), pFieldsOk x → s_spec_FieldsOk x (fun r => r = mFieldsOk x) := fun x h => spec_FieldsOk_ok x h
theorem all103 (w : World) (hJ : J w) : CtAt Tryd.prog ct103 w :=
  ct_by ok103 (cs103 w hJ) Tryd.func103 (by kernel_rfl) (H := (hint [(2, [.val 3 (.int .i64)])])) law103 (by kernel_rfl)
noncomputable def E55 : Env := { tt, eqs := [], cts := [ct67, ct103] }
theorem ok55 : EnvOk Tryd.prog E55 := ⟨ttOk, by kernel_rfl, rfl, mixOk⟩
theorem cs55 (w0 : World) (hJ : J w0) : EnvCts Tryd.prog E55 w0 := by
  intro c hc
  rcases List.mem_cons.1 hc with rfl | hc
  · exact fun w hb => all67 w (J_below hJ hb)
  rcases List.mem_cons.1 hc with rfl | hc
  · exact fun w hb => all103 w (J_below hJ hb)
  cases hc
noncomputable def ct55 : Ct := { f := 55, ps := [.v false .ro ls42], rs := [(false, ls4)], shared := false, pre := fun (x : (List Fld)) => pOwnFields x, F := fun (x : (List Fld)) => mOwnFields x }
theorem law55 : ∀ x : (List Fld), pOwnFields x → s_spec_l6Plain x (fun r => r = mOwnFields x) := fun x h => spec_l6Plain_ok x h
theorem all55 (w : World) (hJ : J w) : CtAt Tryd.prog ct55 w :=
  ct_by ok55 (cs55 w hJ) Tryd.func55 (by kernel_rfl) (H := (hint [])) law55 (by kernel_rfl)
noncomputable def E13 : Env := { tt, eqs := [], cts := [ct53, ct54, ct55] }
theorem ok13 : EnvOk Tryd.prog E13 := ⟨ttOk, by kernel_rfl, rfl, mixOk⟩
theorem cs13 (w0 : World) (hJ : J w0) : EnvCts Tryd.prog E13 w0 := by
  intro c hc
  rcases List.mem_cons.1 hc with rfl | hc
  · exact fun w hb => all53 w (J_below hJ hb)
  rcases List.mem_cons.1 hc with rfl | hc
  · exact fun w hb => all54 w (J_below hJ hb)
  rcases List.mem_cons.1 hc with rfl | hc
  · exact fun w hb => all55 w (J_below hJ hb)
  cases hc
noncomputable def ct13 : Ct := { f := 13, ps := [.v true .ro ls29], rs := [(false, ls4)], shared := false, pre := fun (x : (List Rsc)) => pOriginOk x, F := fun (x : (List Rsc)) => mOriginOk x }
theorem law13 : ∀ x : (List Rsc), pOriginOk x → s_spec_OriginOk x (fun r => r = mOriginOk x) := fun x h => spec_OriginOk_ok x h
theorem all13 (w : World) (hJ : J w) : CtAt Tryd.prog ct13 w :=
  ct_by ok13 (cs13 w hJ) Tryd.func13 (by kernel_rfl) (H := (hint [(2, [.val 3 (.int .i64)])])) law13 (by kernel_rfl)
noncomputable def E58 : Env := { tt, eqs := [], cts := [] }
theorem ok58 : EnvOk Tryd.prog E58 := ⟨ttOk, by kernel_rfl, rfl, mixOk⟩
theorem cs58 (w0 : World) (hJ : J w0) : EnvCts Tryd.prog E58 w0 := by
  intro c hc
  cases hc
noncomputable def ct58 : Ct := { f := 58, ps := [.v false .ro ls3, .v false .ro ls3, .v false .ro ls3], rs := [(false, ls4)], shared := false, pre := fun (x : Int × Int × Int) => pIn x.1 x.2.1 x.2.2, F := fun (x : Int × Int × Int) => mIn x.1 x.2.1 x.2.2 }
theorem law58 : ∀ x : Int × Int × Int, pIn x.1 x.2.1 x.2.2 → s_impl_in x.1 x.2.1 x.2.2 (fun r => r = mIn x.1 x.2.1 x.2.2) := fun x _ => impl_in_ok x.1 x.2.1 x.2.2
theorem all58 (w : World) (hJ : J w) : CtAt Tryd.prog ct58 w :=
  ct_by ok58 (cs58 w hJ) Tryd.func58 (by kernel_rfl) (H := (hint [])) law58 (by kernel_rfl)
noncomputable def E57 : Env := { tt, eqs := [], cts := [ct58] }
theorem ok57 : EnvOk Tryd.prog E57 := ⟨ttOk, by kernel_rfl, rfl, mixOk⟩
theorem cs57 (w0 : World) (hJ : J w0) : EnvCts Tryd.prog E57 w0 := by
  intro c hc
  rcases List.mem_cons.1 hc with rfl | hc
  · exact fun w hb => all58 w (J_below hJ hb)
  cases hc
noncomputable def ct57 : Ct := { f := 57, ps := [.v false .ro ls9], rs := [(false, ls4)], shared := false, pre := fun (x : S) => pUriOk x, F := fun (x : S) => mUriOk x }
theorem law57 : ∀ x : S, pUriOk x → s_impl_UriOk x (fun r => r = mUriOk x) := fun x h => impl_UriOk_ok x h
theorem all57 (w : World) (hJ : J w) : CtAt Tryd.prog ct57 w :=
  ct_by ok57 (cs57 w hJ) Tryd.func57 (by kernel_rfl) (H := (hint [(2, [.val 6 (.int .i64)])])) law57 (by kernel_rfl)
noncomputable def E156 : Env := { tt, eqs := [], cts := [] }
theorem ok156 : EnvOk Tryd.prog E156 := ⟨ttOk, by kernel_rfl, rfl, mixOk⟩
theorem cs156 (w0 : World) (hJ : J w0) : EnvCts Tryd.prog E156 w0 := by
  intro c hc
  cases hc
noncomputable def ct156 : Ct := { f := 156, ps := [.v false .ro ls5], rs := [(false, ls4)], shared := false, pre := fun (x : Int) => pIsLetterOrDigit x, F := fun (x : Int) => mIsLetterOrDigit x }
theorem law156 : ∀ x : Int, pIsLetterOrDigit x → s_impl_isLetterOrDigit x (fun r => r = mIsLetterOrDigit x) := fun x _ => impl_isLetterOrDigit_ok x
theorem all156 (w : World) (hJ : J w) : CtAt Tryd.prog ct156 w :=
  ct_by ok156 (cs156 w hJ) Tryd.func156 (by kernel_rfl) (H := (hint [])) law156 (by kernel_rfl)
noncomputable def ct157 : Ct := indexByteCt 157
theorem all157 (w : World) (hJ : J w) : CtAt Tryd.prog ct157 w := indexByte_ct ⟨_, Tryd.func157, by kernel_rfl, by kernel_rfl⟩ (fun s c => Tryd.strings_IndexByte s c w)
noncomputable def E140 : Env := { tt, eqs := [], cts := [ct156, ct157] }
theorem ok140 : EnvOk Tryd.prog E140 := ⟨ttOk, by kernel_rfl, rfl, mixOk⟩
theorem cs140 (w0 : World) (hJ : J w0) : EnvCts Tryd.prog E140 w0 := by
  intro c hc
  rcases List.mem_cons.1 hc with rfl | hc
  · exact fun w hb => all156 w (J_below hJ hb)
  rcases List.mem_cons.1 hc with rfl | hc
  · exact fun w hb => all157 w (J_below hJ hb)
  cases hc
noncomputable def ct140 : Ct := { f := 140, ps := [.v false .ro ls9], rs := [(false, ls4)], shared := false, pre := fun (x : S) => pIsTokenText x, F := fun (x : S) => mIsTokenText x }
theorem law140 : ∀ x : S, pIsTokenText x → s_impl_IsTokenText x (fun r => r = mIsTokenText x) := fun x h => impl_IsTokenText_ok x h
theorem all140 (w : World) (hJ : J w) : CtAt Tryd.prog ct140 w :=
  ct_by ok140 (cs140 w hJ) Tryd.func140 (by kernel_rfl) (H := (hint [(2, [.val 6 (.int .i64)])])) law140 (by kernel_rfl)
set_option maxRecDepth 100000 in
theorem lower_calls110 (s : ByteArray) (hs : s.size ≤ 1073741824) (w : World) : Calls Tryd.prog 110 #[.string s] w fun e w' => e = .returned (.string (mLower s)) ∧ Below w.heap.size w w' := by
  obtain ⟨W1, cap, hconv, hW1⟩ := low_new Tryd.prog 9 131 5 w s Tryd.underlying9 Tryd.underlying131 Tryd.underlying5
  go_enter Tryd.func110, Tryd.ntmps110
  go_wp2
  go_loopg [10] s.size (fun gg v10 wr => ∃ i : Nat, i + gg = s.size ∧ v10 = .int .i64 (i : Int) ∧ Hid (LowW w.heap.size s i w wr))
  case atStart => exact ⟨0, by omega, rfl, hW1⟩
  case round =>
    obtain ⟨i, hi, rfl, hW⟩ := hrel
    have hH := hW.out
    by_cases hlt : i < s.size
    · have hcz := hH.2 i hlt
      rw [if_neg (Nat.lt_irrefl i)] at hcz
      have hlb := low_byte (bs s)[i]!
      have hx : ((bs s)[i]!).toNat < 256 := UInt8.toNat_lt _
      generalize hxe : ((bs s)[i]!).toNat = x at *
      obtain ⟨hc, hz⟩ := hcz
      have d1 : ((i : Int) < (s.size : Int)) := by omega
      have d0 : (0 : Int) ≤ (i : Int) := by omega
      have HC := (show Hid (i < s.size ∧ LowW w.heap.size s i w wr ∧ ((bs s)[i]!).toNat = x) from ⟨hlt, hH, hxe⟩)
      have HL := (show Hid _ from hlb)
      clear hH hlb hW hxe hlt
      by_cases c1 : 65 ≤ x
      · by_cases c2 : x ≤ 90
        · have k1 : decide (65 ≤ (x : Int)) = true := decide_eq_true (by omega)
          have k2 : decide ((x : Int) ≤ 90) = true := decide_eq_true (by omega)
          go_wp2
          go_roundg (gk - 1)
          case measure => have := HC.out.1; omega
          case rel =>
            obtain ⟨hlt, hH, hxe⟩ := HC.out
            refine ⟨i + 1, by omega, by simp, hH.next hlt ?_⟩
            rw [← HL.out.1 ⟨c1, c2⟩, IntKind.wrap_u8, IntKind.wrap_u8]; omega
        · have k1 : decide (65 ≤ (x : Int)) = true := decide_eq_true (by omega)
          have k2 : decide ((x : Int) ≤ 90) = false := decide_eq_false (by omega)
          go_wp2
          go_roundg (gk - 1)
          case measure => have := HC.out.1; omega
          case rel =>
            obtain ⟨hlt, hH, hxe⟩ := HC.out
            exact ⟨i + 1, by omega, by simp, hH.skip hlt (HL.out.2 (fun h => c2 h.2))⟩
      · have k1 : decide (65 ≤ (x : Int)) = false := decide_eq_false (by omega)
        go_wp2
        go_roundg (gk - 1)
        case measure => have := HC.out.1; omega
        case rel =>
          obtain ⟨hlt, hH, hxe⟩ := HC.out
          exact ⟨i + 1, by omega, by simp, hH.skip hlt (HL.out.2 (fun h => c1 h.1))⟩
    · have hie : i = s.size := by omega
      subst hie
      have hb := low_end Tryd.prog 131 9 5 w.heap.size cap w wr s Tryd.underlying131 Tryd.underlying5 Tryd.underlying9 hH
      have HC := (show Hid (Below w.heap.size w wr) from hH.1)
      clear hH hW hlt
      go_wp2
      go_ret
      exact ⟨rfl, HC.out⟩
noncomputable def ct110 : Ct := lowerCt 110
theorem all110 (w : World) (hJ : J w) : CtAt Tryd.prog ct110 w := lower_ct ⟨_, Tryd.func110, by kernel_rfl, by kernel_rfl⟩ (fun s h => lower_calls110 s h w)
noncomputable def ct148 : Ct := trimLCt 148
theorem all148 (w : World) (hJ : J w) : CtAt Tryd.prog ct148 w := trimL_ct ⟨_, Tryd.func148, by kernel_rfl, by kernel_rfl⟩ (fun s cs h1 h2 h3 => Go.Proofs.Any.strings_Trim_laid Tryd.lays160 (by kernel_rfl) s cs w h1 h2 h3)
noncomputable def E128 : Env := { tt, eqs := [], cts := [ct148] }
theorem ok128 : EnvOk Tryd.prog E128 := ⟨ttOk, by kernel_rfl, rfl, mixOk⟩
theorem cs128 (w0 : World) (hJ : J w0) : EnvCts Tryd.prog E128 w0 := by
  intro c hc
  rcases List.mem_cons.1 hc with rfl | hc
  · exact fun w hb => all148 w (J_below hJ hb)
  cases hc
noncomputable def ct128 : Ct := { f := 128, ps := [.v false .ro ls9], rs := [(false, ls9)], shared := false, pre := fun (x : S) => pTrim x, F := fun (x : S) => mTrim x }
theorem law128 : ∀ x : S, pTrim x → s_impl_Trim x (fun r => r = mTrim x) := fun x h => impl_Trim_ok x h
theorem all128 (w : World) (hJ : J w) : CtAt Tryd.prog ct128 w :=
  ct_by ok128 (cs128 w hJ) Tryd.func128 (by kernel_rfl) (H := (hint [])) law128 (by kernel_rfl)
noncomputable def E151 : Env := { tt, eqs := [], cts := [ct128] }
theorem ok151 : EnvOk Tryd.prog E151 := ⟨ttOk, by kernel_rfl, rfl, mixOk⟩
theorem cs151 (w0 : World) (hJ : J w0) : EnvCts Tryd.prog E151 w0 := by
  intro c hc
  rcases List.mem_cons.1 hc with rfl | hc
  · exact fun w hb => all128 w (J_below hJ hb)
  cases hc
noncomputable def ct151 : Ct := { f := 151, ps := [.v false .ro ls9], rs := [(false, ls4)], shared := false, pre := fun (x : S) => pIsValueText x, F := fun (x : S) => mIsValueText x }
theorem law151 : ∀ x : S, pIsValueText x → s_impl_IsValueText x (fun r => r = mIsValueText x) := fun x h => impl_IsValueText_ok x h
theorem all151 (w : World) (hJ : J w) : CtAt Tryd.prog ct151 w :=
  ct_by ok151 (cs151 w hJ) Tryd.func151 (by kernel_rfl) (H := (hint [(2, [.val 6 (.int .i64)])])) law151 (by kernel_rfl)
noncomputable def E132 : Env := { tt, eqs := [], cts := [ct140, ct110, ct151] }
theorem ok132 : EnvOk Tryd.prog E132 := ⟨ttOk, by kernel_rfl, rfl, mixOk⟩
theorem cs132 (w0 : World) (hJ : J w0) : EnvCts Tryd.prog E132 w0 := by
  intro c hc
  rcases List.mem_cons.1 hc with rfl | hc
  · exact fun w hb => all140 w (J_below hJ hb)
  rcases List.mem_cons.1 hc with rfl | hc
  · exact fun w hb => all110 w (J_below hJ hb)
  rcases List.mem_cons.1 hc with rfl | hc
  · exact fun w hb => all151 w (J_below hJ hb)
  cases hc
noncomputable def ct132 : Ct := { f := 132, ps := [.v true .ro ls96], rs := [(false, ls4)], shared := false, pre := fun (x : Fld) => pFieldOk x, F := fun (x : Fld) => mFieldOk x }
theorem law132 : ∀ x : Fld, pFieldOk x → s_impl_fieldOk x (fun r => r = mFieldOk x) := fun x h => impl_fieldOk_ok x h
theorem all132 (w : World) (hJ : J w) : CtAt Tryd.prog ct132 w :=
  ct_by ok132 (cs132 w hJ) Tryd.func132 (by kernel_rfl) (H := (hint [])) law132 (by kernel_rfl)
noncomputable def E131 : Env := { tt, eqs := [], cts := [ct132] }
theorem ok131 : EnvOk Tryd.prog E131 := ⟨ttOk, by kernel_rfl, rfl, mixOk⟩
theorem cs131 (w0 : World) (hJ : J w0) : EnvCts Tryd.prog E131 w0 := by
  intro c hc
  rcases List.mem_cons.1 hc with rfl | hc
  · exact fun w hb => all132 w (J_below hJ hb)
  cases hc
noncomputable def ct131 : Ct := { f := 131, ps := [.v true .ro ls96], rs := [(false, ls4)], shared := false, pre := fun (x : Fld) => pFieldsOk_1 x, F := fun (x : Fld) => mFieldsOk_1 x }
theorem law131 : ∀ x : Fld, pFieldsOk_1 x → s_impl_FieldsOk_1 x (fun r => r = mFieldsOk_1 x) := fun x h => impl_FieldsOk_1_ok x h
theorem all131 (w : World) (hJ : J w) : CtAt Tryd.prog ct131 w :=
  ct_by ok131 (cs131 w hJ) Tryd.func131 (by kernel_rfl) (H := (hint [])) law131 (by kernel_rfl)
noncomputable def E150_131 : Env := { tt, eqs := [], cts := [ct131] }
theorem ok150_131 : EnvOk Tryd.prog E150_131 := ⟨ttOk, by kernel_rfl, rfl, mixOk⟩
theorem cs150_131 (w0 : World) (hJ : J w0) : EnvCts Tryd.prog E150_131 w0 := by
  intro c hc
  rcases List.mem_cons.1 hc with rfl | hc
  · exact fun w hb => all131 w (J_below hJ hb)
  cases hc
noncomputable def ct150_131 : Ct := { f := 150, ps := [.v false .ro ls42, .c 131 []], rs := [(false, ls3)], shared := false, pre := fun (x : (List Fld) × Unit) => pIndexFunc_FieldsOk_1 x.1 x.2, F := fun (x : (List Fld) × Unit) => mIndexFunc_FieldsOk_1 x.1 x.2 }
theorem law150_131 : ∀ x : (List Fld) × Unit, pIndexFunc_FieldsOk_1 x.1 x.2 → s_IndexFunc_FieldsOk_1 x.1 x.2 (fun r => r = mIndexFunc_FieldsOk_1 x.1 x.2) := fun x h => IndexFunc_FieldsOk_1_ok x.1 x.2 h
theorem all150_131 (w : World) (hJ : J w) : CtAt Tryd.prog ct150_131 w :=
  ct_by ok150_131 (cs150_131 w hJ) Tryd.func150 (by kernel_rfl) (H := (hint [(2, [.val 8 (.int .i64)])])) law150_131 (by kernel_rfl)
noncomputable def E130_131 : Env := { tt, eqs := [], cts := [ct150_131] }
theorem ok130_131 : EnvOk Tryd.prog E130_131 := ⟨ttOk, by kernel_rfl, rfl, mixOk⟩
theorem cs130_131 (w0 : World) (hJ : J w0) : EnvCts Tryd.prog E130_131 w0 := by
  intro c hc
  rcases List.mem_cons.1 hc with rfl | hc
  · exact fun w hb => all150_131 w (J_below hJ hb)
  cases hc
noncomputable def ct130_131 : Ct := { f := 130, ps := [.v false .ro ls42, .c 131 []], rs := [(false, ls4)], shared := false, pre := fun (x : (List Fld) × Unit) => pContainsFunc_FieldsOk_1 x.1 x.2, F := fun (x : (List Fld) × Unit) => mContainsFunc_FieldsOk_1 x.1 x.2 }
theorem law130_131 : ∀ x : (List Fld) × Unit, pContainsFunc_FieldsOk_1 x.1 x.2 → s_ContainsFunc_FieldsOk_1 x.1 x.2 (fun r => r = mContainsFunc_FieldsOk_1 x.1 x.2) := fun x h => ContainsFunc_FieldsOk_1_ok x.1 x.2 h
theorem all130_131 (w : World) (hJ : J w) : CtAt Tryd.prog ct130_131 w :=
  ct_by ok130_131 (cs130_131 w hJ) Tryd.func130 (by kernel_rfl) (H := (hint [])) law130_131 (by kernel_rfl)
noncomputable def E105 : Env := { tt, eqs := [], cts := [ct130_131] }
theorem ok105 : EnvOk Tryd.prog E105 := ⟨ttOk, by kernel_rfl, rfl, mixOk⟩
theorem cs105 (w0 : World) (hJ : J w0) : EnvCts Tryd.prog E105 w0 := by
  intro c hc
  rcases List.mem_cons.1 hc with rfl | hc
  · exact fun w hb => all130_131 w (J_below hJ hb)
  cases hc
noncomputable def ct105 : Ct := { f := 105, ps := [.v false .ro ls42], rs := [(false, ls4)], shared := false, pre := fun (x : (List Fld)) => pFieldsOk x, F := fun (x : (List Fld)) => mFieldsOk x }
theorem law105 : ∀ x : (List Fld), pFieldsOk x → s_impl_FieldsOk x (fun r => r = mFieldsOk x) := fun x h => impl_FieldsOk_ok x h
theorem all105 (w : World) (hJ : J w) : CtAt Tryd.prog ct105 w :=
  ct_by ok105 (cs105 w hJ) Tryd.func105 (by kernel_rfl) (H := (hint [])) law105 (by kernel_rfl)
noncomputable def ct111 : Ct := joinCt 9 111
theorem all111 (w : World) (hJ : J w) : CtAt Tryd.prog ct111 w := join_ct ⟨_, Tryd.func111, by kernel_rfl, by kernel_rfl⟩ (fun a c sep => Tryd.strings_Join_none a c sep w) (fun bk o c xs sep h1 h2 h3 h4 h5 => Tryd.strings_Join bk o c xs sep w h1 h2 h3 h4 h5)
noncomputable def E70 : Env := { tt, eqs := [], cts := [ct111] }
theorem ok70 : EnvOk Tryd.prog E70 := ⟨ttOk, by kernel_rfl, rfl, mixOk⟩
theorem cs70 (w0 : World) (hJ : J w0) : EnvCts Tryd.prog E70 w0 := by
  intro c hc
  rcases List.mem_cons.1 hc with rfl | hc
  · exact fun w hb => all111 w (J_below hJ hb)
  cases hc
noncomputable def ct70 : Ct := { f := 70, ps := [.v false .ro ls42, .v false .ro ls9], rs := [(false, ls9), (false, ls4)], shared := false, pre := fun (x : (List Fld) × S) => pFieldGet x.1 x.2, F := fun (x : (List Fld) × S) => mFieldGet x.1 x.2 }
theorem law70 : ∀ x : (List Fld) × S, pFieldGet x.1 x.2 → s_impl_FieldGet x.1 x.2 (fun r => r = mFieldGet x.1 x.2) := fun x h => impl_FieldGet_ok x.1 x.2 h
theorem all70 (w : World) (hJ : J w) : CtAt Tryd.prog ct70 w :=
  ct_by ok70 (cs70 w hJ) Tryd.func70 (by kernel_rfl) (H := (hint [(3, [.reg 6 9 [.str] true, .val 12 (.int .i64)])])) law70 (by kernel_rfl)
noncomputable def E98 : Env := { tt, eqs := [], cts := [ct70] }
theorem ok98 : EnvOk Tryd.prog E98 := ⟨ttOk, by kernel_rfl, rfl, mixOk⟩
theorem cs98 (w0 : World) (hJ : J w0) : EnvCts Tryd.prog E98 w0 := by
  intro c hc
  rcases List.mem_cons.1 hc with rfl | hc
  · exact fun w hb => all70 w (J_below hJ hb)
  cases hc
noncomputable def ct98 : Ct := { f := 98, ps := [.v false .ro ls42, .v false .ro ls9], rs := [(false, ls4)], shared := false, pre := fun (x : (List Fld) × S) => pHasField x.1 x.2, F := fun (x : (List Fld) × S) => mHasField x.1 x.2 }
theorem law98 : ∀ x : (List Fld) × S, pHasField x.1 x.2 → s_impl_hasField x.1 x.2 (fun r => r = mHasField x.1 x.2) := fun x h => impl_hasField_ok x.1 x.2 h
theorem all98 (w : World) (hJ : J w) : CtAt Tryd.prog ct98 w :=
  ct_by ok98 (cs98 w hJ) Tryd.func98 (by kernel_rfl) (H := (hint [])) law98 (by kernel_rfl)
noncomputable def E106 : Env := { tt, eqs := [], cts := [ct98] }
theorem ok106 : EnvOk Tryd.prog E106 := ⟨ttOk, by kernel_rfl, rfl, mixOk⟩
theorem cs106 (w0 : World) (hJ : J w0) : EnvCts Tryd.prog E106 w0 := by
  intro c hc
  rcases List.mem_cons.1 hc with rfl | hc
  · exact fun w hb => all98 w (J_below hJ hb)
  cases hc
noncomputable def ct106 : Ct := { f := 106, ps := [.v false .ro ls42], rs := [(false, ls4)], shared := false, pre := fun (x : (List Fld)) => pBodyFields x, F := fun (x : (List Fld)) => mBodyFields x }
theorem law106 : ∀ x : (List Fld), pBodyFields x → s_impl_bodyFields x (fun r => r = mBodyFields x) := fun x h => impl_bodyFields_ok x h
theorem all106 (w : World) (hJ : J w) : CtAt Tryd.prog ct106 w :=
  ct_by ok106 (cs106 w hJ) Tryd.func106 (by kernel_rfl) (H := (hint [])) law106 (by kernel_rfl)
noncomputable def E59 : Env := { tt, eqs := [], cts := [ct105, ct106] }
theorem ok59 : EnvOk Tryd.prog E59 := ⟨ttOk, by kernel_rfl, rfl, mixOk⟩
theorem cs59 (w0 : World) (hJ : J w0) : EnvCts Tryd.prog E59 w0 := by
  intro c hc
  rcases List.mem_cons.1 hc with rfl | hc
  · exact fun w hb => all105 w (J_below hJ hb)
  rcases List.mem_cons.1 hc with rfl | hc
  · exact fun w hb => all106 w (J_below hJ hb)
  cases hc
noncomputable def ct59 : Ct := { f := 59, ps := [.v false .ro ls42], rs := [(false, ls4)], shared := false, pre := fun (x : (List Fld)) => pOwnFields x, F := fun (x : (List Fld)) => mOwnFields x }
theorem law59 : ∀ x : (List Fld), pOwnFields x → s_impl_ownFields x (fun r => r = mOwnFields x) := fun x h => impl_ownFields_ok x h
theorem all59 (w : World) (hJ : J w) : CtAt Tryd.prog ct59 w :=
  ct_by ok59 (cs59 w hJ) Tryd.func59 (by kernel_rfl) (H := (hint [])) law59 (by kernel_rfl)
noncomputable def E15 : Env := { tt, eqs := [], cts := [ct57, ct58, ct59] }
theorem ok15 : EnvOk Tryd.prog E15 := ⟨ttOk, by kernel_rfl, rfl, mixOk⟩
theorem cs15 (w0 : World) (hJ : J w0) : EnvCts Tryd.prog E15 w0 := by
  intro c hc
  rcases List.mem_cons.1 hc with rfl | hc
  · exact fun w hb => all57 w (J_below hJ hb)
  rcases List.mem_cons.1 hc with rfl | hc
  · exact fun w hb => all58 w (J_below hJ hb)
  rcases List.mem_cons.1 hc with rfl | hc
  · exact fun w hb => all59 w (J_below hJ hb)
  cases hc
noncomputable def ct15 : Ct := { f := 15, ps := [.v true .ro ls29], rs := [(false, ls4)], shared := false, pre := fun (x : (List Rsc)) => pOriginOk x, F := fun (x : (List Rsc)) => mOriginOk x }
theorem law15 : ∀ x : (List Rsc), pOriginOk x → s_impl_OriginOk x (fun r => r = mOriginOk x) := fun x h => impl_OriginOk_ok x h
theorem all15 (w : World) (hJ : J w) : CtAt Tryd.prog ct15 w :=
  ct_by ok15 (cs15 w hJ) Tryd.func15 (by kernel_rfl) (H := (hint [(2, [.val 8 (.int .i64)])])) law15 (by kernel_rfl)
noncomputable def E65 : Env := { tt, eqs := [], cts := [] }
theorem ok65 : EnvOk Tryd.prog E65 := ⟨ttOk, by kernel_rfl, rfl, mixOk⟩
theorem cs65 (w0 : World) (hJ : J w0) : EnvCts Tryd.prog E65 w0 := by
  intro c hc
  cases hc
noncomputable def ct65 : Ct := { f := 65, ps := [.v true .ro ls96, .v true .ro ls96], rs := [(false, [.bool])], shared := false, pre := fun (q : Fld × Fld) => pEq q.1 q.2, F := fun (q : Fld × Fld) => eqF q.1 q.2 }
def st65 : List (EqStep Fld) := [.ne (fun (x y : Fld) => x.1 ≠ y.1), .ne (fun (x y : Fld) => x.2 ≠ y.2)]
def mk65 (a0 : S) (a1 : S) : Fld := (a0, a1)
theorem a65 (x y : Fld) : eqAll x y st65 ↔ x = y := by
  constructor
  · rintro ⟨h0, h1, -⟩
    have h0 : x.1 = y.1 := Classical.byContradiction h0
    have h1 : x.2 = y.2 := Classical.byContradiction h1
    show mk65 (x.1) (x.2) = mk65 (y.1) (y.2)
    rw [h0, h1]
    all_goals rfl
  · rintro rfl
    exact ⟨fun h => h rfl, fun h => h rfl, trivial⟩
theorem w65 (x y : Fld) (h : wd x) : eqFine x y st65 := by
  first | simp only [wd_pair] at h | skip
  simp only [eqFine, st65, wd_pair]
  all_goals simp only [h, and_self]
theorem law65 : ∀ q : Fld × Fld, pEq q.1 q.2 → eqSt q.1 q.2 st65 (fun r => r = eqF q.1 q.2) := fun q hq => eqSt_holds q.1 q.2 st65 (w65 q.1 q.2 hq) (eqF_iff.trans (a65 q.1 q.2).symm)
theorem all65 (w : World) (hJ : J w) : CtAt Tryd.prog ct65 w :=
  ct_by ok65 (cs65 w hJ) Tryd.func65 (by kernel_rfl) (H := (hint [])) law65 (by kernel_rfl)
noncomputable def E27 : Env := { tt, eqs := [], cts := [ct65] }
theorem ok27 : EnvOk Tryd.prog E27 := ⟨ttOk, by kernel_rfl, rfl, mixOk⟩
theorem cs27 (w0 : World) (hJ : J w0) : EnvCts Tryd.prog E27 w0 := by
  intro c hc
  rcases List.mem_cons.1 hc with rfl | hc
  · exact fun w hb => all65 w (J_below hJ hb)
  cases hc
noncomputable def ct27 : Ct := { f := 27, ps := [.v false .ro ls42, .v false .ro ls42], rs := [(false, [.bool])], shared := false, pre := fun (q : (List Fld) × (List Fld)) => pEq q.1 q.2, F := fun (q : (List Fld) × (List Fld)) => eqF q.1 q.2 }
theorem law27 : ∀ q : (List Fld) × (List Fld), pEq q.1 q.2 → eqS (α := Fld) Dft.dft (fun a b => pEq a b) (fun a b => eqF a b) q.1 q.2 (fun r => r = eqF q.1 q.2) := fun q hq => eqS_holds (α := Fld) Dft.dft (fun a b => pEq a b) (fun a b => eqF a b) q.1 q.2 hq.1 (fun i a _ h => hq.2 i a h) (fun _ _ => eqF_iff) eqF_iff
theorem all27 (w : World) (hJ : J w) : CtAt Tryd.prog ct27 w :=
  ct_by ok27 (cs27 w hJ) Tryd.func27 (by kernel_rfl) (H := (hint [(4, [.val 5 (.int .i64)])])) law27 (by kernel_rfl)
noncomputable def E107 : Env := { tt, eqs := [], cts := [ct27] }
theorem ok107 : EnvOk Tryd.prog E107 := ⟨ttOk, by kernel_rfl, rfl, mixOk⟩
theorem cs107 (w0 : World) (hJ : J w0) : EnvCts Tryd.prog E107 w0 := by
  intro c hc
  rcases List.mem_cons.1 hc with rfl | hc
  · exact fun w hb => all27 w (J_below hJ hb)
  cases hc
noncomputable def ct107 : Ct := { f := 107, ps := [.v true .ro ls87, .v true .ro ls87], rs := [(false, [.bool])], shared := false, pre := fun (q : Rsc × Rsc) => pEq q.1 q.2, F := fun (q : Rsc × Rsc) => eqF q.1 q.2 }
def st107 : List (EqStep Rsc) := [.ne (fun (x y : Rsc) => x.1 ≠ y.1), .ne (fun (x y : Rsc) => x.2.1 ≠ y.2.1), .ne (fun (x y : Rsc) => x.2.2.1 ≠ y.2.2.1), .ne (fun (x y : Rsc) => x.2.2.2.1 ≠ y.2.2.2.1), .ne (fun (x y : Rsc) => x.2.2.2.2.1 ≠ y.2.2.2.2.1), .ne (fun (x y : Rsc) => x.2.2.2.2.2.1 ≠ y.2.2.2.2.2.1), .call (fun (x _ : Rsc) => wd (x.2.2.2.2.2.2 : (List Fld))) (fun (x y : Rsc) => eqF (x.2.2.2.2.2.2 : (List Fld)) y.2.2.2.2.2.2)]
def mk107 (a0 : S) (a1 : S) (a2 : Int) (a3 : Int) (a4 : Bool) (a5 : Bool) (a6 : (List Fld)) : Rsc := (a0, a1, a2, a3, a4, a5, a6)
theorem a107 (x y : Rsc) : eqAll x y st107 ↔ x = y := by
  constructor
  · rintro ⟨h0, h1, h2, h3, h4, h5, h6, -⟩
    have h0 : x.1 = y.1 := Classical.byContradiction h0
    have h1 : x.2.1 = y.2.1 := Classical.byContradiction h1
    have h2 : x.2.2.1 = y.2.2.1 := Classical.byContradiction h2
    have h3 : x.2.2.2.1 = y.2.2.2.1 := Classical.byContradiction h3
    have h4 : x.2.2.2.2.1 = y.2.2.2.2.1 := Classical.byContradiction h4
    have h5 : x.2.2.2.2.2.1 = y.2.2.2.2.2.1 := Classical.byContradiction h5
    have h6 : (x.2.2.2.2.2.2 : (List Fld)) = y.2.2.2.2.2.2 := eqF_iff.1 h6
    show mk107 (x.1) (x.2.1) (x.2.2.1) (x.2.2.2.1) (x.2.2.2.2.1) (x.2.2.2.2.2.1) (x.2.2.2.2.2.2) = mk107 (y.1) (y.2.1) (y.2.2.1) (y.2.2.2.1) (y.2.2.2.2.1) (y.2.2.2.2.2.1) (y.2.2.2.2.2.2)
    rw [h0, h1, h2, h3, h4, h5, h6]
    all_goals rfl
  · rintro rfl
    exact ⟨fun h => h rfl, fun h => h rfl, fun h => h rfl, fun h => h rfl, fun h => h rfl, fun h => h rfl, eqF_iff.2 rfl, trivial⟩
theorem w107 (x y : Rsc) (h : wd x) : eqFine x y st107 := by
  first | simp only [wd_pair] at h | skip
  simp only [eqFine, st107, wd_pair]
  all_goals simp only [h, and_self]
theorem law107 : ∀ q : Rsc × Rsc, pEq q.1 q.2 → eqSt q.1 q.2 st107 (fun r => r = eqF q.1 q.2) := fun q hq => eqSt_holds q.1 q.2 st107 (w107 q.1 q.2 hq) (eqF_iff.trans (a107 q.1 q.2).symm)
theorem all107 (w : World) (hJ : J w) : CtAt Tryd.prog ct107 w :=
  ct_by ok107 (cs107 w hJ) Tryd.func107 (by kernel_rfl) (H := (hint [])) law107 (by kernel_rfl)
noncomputable def E60 : Env := { tt, eqs := [], cts := [ct107] }
theorem ok60 : EnvOk Tryd.prog E60 := ⟨ttOk, by kernel_rfl, rfl, mixOk⟩
theorem cs60 (w0 : World) (hJ : J w0) : EnvCts Tryd.prog E60 w0 := by
  intro c hc
  rcases List.mem_cons.1 hc with rfl | hc
  · exact fun w hb => all107 w (J_below hJ hb)
  cases hc
noncomputable def ct60 : Ct := { f := 60, ps := [.v false .ro ls27, .v false .ro ls27], rs := [(false, [.bool])], shared := false, pre := fun (q : (List Rsc) × (List Rsc)) => pEq q.1 q.2, F := fun (q : (List Rsc) × (List Rsc)) => eqF q.1 q.2 }
theorem law60 : ∀ q : (List Rsc) × (List Rsc), pEq q.1 q.2 → eqS (α := Rsc) Dft.dft (fun a b => pEq a b) (fun a b => eqF a b) q.1 q.2 (fun r => r = eqF q.1 q.2) := fun q hq => eqS_holds (α := Rsc) Dft.dft (fun a b => pEq a b) (fun a b => eqF a b) q.1 q.2 hq.1 (fun i a _ h => hq.2 i a h) (fun _ _ => eqF_iff) eqF_iff
theorem all60 (w : World) (hJ : J w) : CtAt Tryd.prog ct60 w :=
  ct_by ok60 (cs60 w hJ) Tryd.func60 (by kernel_rfl) (H := (hint [(4, [.val 5 (.int .i64)])])) law60 (by kernel_rfl)
noncomputable def E16 : Env := { tt, eqs := [], cts := [ct60] }
theorem ok16 : EnvOk Tryd.prog E16 := ⟨ttOk, by kernel_rfl, rfl, mixOk⟩
theorem cs16 (w0 : World) (hJ : J w0) : EnvCts Tryd.prog E16 w0 := by
  intro c hc
  rcases List.mem_cons.1 hc with rfl | hc
  · exact fun w hb => all60 w (J_below hJ hb)
  cases hc
noncomputable def ct16 : Ct := { f := 16, ps := [.v true .ro ls29, .v true .ro ls29], rs := [(false, [.bool])], shared := false, pre := fun (q : (List Rsc) × (List Rsc)) => pEq q.1 q.2, F := fun (q : (List Rsc) × (List Rsc)) => eqF q.1 q.2 }
def st16 : List (EqStep (List Rsc)) := [.call (fun (x _ : (List Rsc)) => wd (x : (List Rsc))) (fun (x y : (List Rsc)) => eqF (x : (List Rsc)) y)]
def mk16 (a0 : (List Rsc)) : (List Rsc) := a0
theorem a16 (x y : (List Rsc)) : eqAll x y st16 ↔ x = y := by
  constructor
  · rintro ⟨h0, -⟩
    have h0 : (x : (List Rsc)) = y := eqF_iff.1 h0
    show mk16 (x) = mk16 (y)
    rw [h0]
    all_goals rfl
  · rintro rfl
    exact ⟨eqF_iff.2 rfl, trivial⟩
theorem w16 (x y : (List Rsc)) (h : wd x) : eqFine x y st16 := by
  first | simp only [wd_pair] at h | skip
  simp only [eqFine, st16, wd_pair]
  all_goals simp only [h, and_self]
theorem law16 : ∀ q : (List Rsc) × (List Rsc), pEq q.1 q.2 → eqSt q.1 q.2 st16 (fun r => r = eqF q.1 q.2) := fun q hq => eqSt_holds q.1 q.2 st16 (w16 q.1 q.2 hq) (eqF_iff.trans (a16 q.1 q.2).symm)
theorem all16 (w : World) (hJ : J w) : CtAt Tryd.prog ct16 w :=
  ct_by ok16 (cs16 w hJ) Tryd.func16 (by kernel_rfl) (H := (hint [])) law16 (by kernel_rfl)
noncomputable def E3 : Env := { tt, eqs := [], cts := [ct12, ct14, ct13, ct15, ct16] }
theorem ok3 : EnvOk Tryd.prog E3 := ⟨ttOk, by kernel_rfl, rfl, mixOk⟩
theorem cs3 (w0 : World) (hJ : J w0) : EnvCts Tryd.prog E3 w0 := by
  intro c hc
  rcases List.mem_cons.1 hc with rfl | hc
  · exact fun w hb => all12 w (J_below hJ hb)
  rcases List.mem_cons.1 hc with rfl | hc
  · exact fun w hb => all14 w (J_below hJ hb)
  rcases List.mem_cons.1 hc with rfl | hc
  · exact fun w hb => all13 w (J_below hJ hb)
  rcases List.mem_cons.1 hc with rfl | hc
  · exact fun w hb => all15 w (J_below hJ hb)
  rcases List.mem_cons.1 hc with rfl | hc
  · exact fun w hb => all16 w (J_below hJ hb)
  cases hc
noncomputable def ct3 : Ct := boolCt 3 [.v true .ro ls24] (fun (x : (List Rsc)) => p_FnExactOriginOk x)
theorem law3 : ∀ x : (List Rsc), p_FnExactOriginOk x → s_laws_FnExactOriginOk x (fun r => r = true) := fun x h => laws_FnExactOriginOk_ok x h
theorem all3 (w : World) (hJ : J w) : CtAt Tryd.prog ct3 w :=
  ct_by ok3 (cs3 w hJ) Tryd.func3 (by kernel_rfl) (H := (hint [])) law3 (by kernel_rfl)
end Go.Proofs.YtinphipdffikhaaDoor.Ap
end
