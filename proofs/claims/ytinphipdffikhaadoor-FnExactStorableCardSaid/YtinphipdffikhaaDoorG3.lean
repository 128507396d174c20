/- A small verified machine for the operations of the given program, and plain laws of what its functions compute; without conditions of its own. Part 4. -/
import Derived.Test.YtinphipdffikhaaDoorG2
import Derived.Sort.Walk0
import Derived.Lib.IndexBytes
import Derived.Lib.IndexLaws
import Derived.Lib.AppendIntMem
import Derived.Lib.LaidTab
import Derived.Stop.LaidErr
import Derived.DataReads
import Derived.Lib.Join
import Derived.Lib.SlTrimSet
import Derived.Laws.IdiomStrings
import Derived.Deep.LoopGhost
import Derived.Tactics
import Derived.Tactics2
import Derived.WalkKit
import Derived.RowKit3
import Derived.WideLaws
import Derived.OwnWalk
import Derived.Laws.Slices
import Derived.Laws.Rows
import Derived.Laws.Cells
import Derived.Laws.BytesString
import Derived.Lib.ConvBytes
set_option linter.unusedVariables false
set_option linter.unusedSimpArgs false
section
/- Laws of the plain library, third part: texts out of texts. -/
set_option linter.unusedVariables false
namespace Go.Ev

/-! ### Lower -/
theorem bytesOf_ints (s : S) : bytesOf s = ints s := rfl
theorem lowI (b : UInt8) : ((lowB b).toNat : Int) = if 65 ≤ (b.toNat : Int) ∧ (b.toNat : Int) ≤ 90 then (b.toNat : Int) + 32 else (b.toNat : Int) := by
  unfold lowB
  split
  · next h =>
    rw [if_pos (by omega)]
    have : (b + 32).toNat = b.toNat + 32 := by
      rw [UInt8.toNat_add]
      have : (32 : UInt8).toNat = 32 := rfl
      rw [this]
      omega
    omega
  · next h => rw [if_neg (by omega)]
theorem strOf_map (l : List UInt8) : strOf (l.map fun b => (b.toNat : Int)) = ob l := by
  unfold strOf ob
  congr 2
  rw [List.map_map]
  conv => rhs; rw [← List.map_id l]
  apply List.map_congr_left
  intro b _
  simp
theorem spec_Lower_ok (a0 : S) (h : pLower a0) : s_spec_Lower a0 (fun r => r = mLower a0) := by
  unfold pLower sm at h
  refine ⟨by omega, fun L hL => ?_⟩
  rw [bytesOf_ints]
  let f : List UInt8 → List Int := fun l => l.map fun b => (b.toNat : Int)
  have hl := bs_len a0
  refine loopG hL a0.size (fun i y => y.1 = (i : Int) ∧ y.2 = f (((bs a0).take i).map lowB ++ (bs a0).drop i)) (fun i y hi hI hn => ?_) (s0 := (0, ints a0)) ⟨rfl, by simp [f, ints]⟩
  obtain ⟨y1, y2⟩ := y
  simp only at hI ⊢
  obtain ⟨rfl, rfl⟩ := hI
  have hlen : (f (((bs a0).take i).map lowB ++ (bs a0).drop i)).length = a0.size := by
    simp only [f, List.length_map, List.length_append, List.length_take, List.length_drop]
    omega
  refine ⟨fun hlt => ?_, fun hge => ?_⟩
  · rw [hlen] at hlt ⊢
    have hi2 : i < a0.size := by omega
    have hi3 : i < (bs a0).length := by omega
    have hget : rx (f (((bs a0).take i).map lowB ++ (bs a0).drop i)) (i : Int) = ((bs a0)[i].toNat : Int) := by
      rw [rx_get _ (by rw [hlen]; exact hi2)]
      simp only [f, List.getElem_map]
      rw [List.getElem_append_right (by simp; omega)]
      simp only [List.length_map, List.length_take, List.getElem_drop]
      congr 3
      omega
    have hlow := lowI (bs a0)[i]
    have hb := (bs a0)[i].toNat_lt
    have hset : ∀ v : Int, v = ((lowB (bs a0)[i]).toNat : Int) → (f (((bs a0).take i).map lowB ++ (bs a0).drop i)).set ((i : Int).toNat) v = f (((bs a0).take (i + 1)).map lowB ++ (bs a0).drop (i + 1)) := fun v hv => by
      rw [hv, Int.toNat_natCast, take_succ_app hi3]
      simp only [f, List.map_append, List.map_cons, List.map_nil]
      rw [List.set_append_right _ _ (by simp; omega)]
      simp only [List.length_map, List.length_take]
      rw [show i - min i (bs a0).length = 0 by omega, ← List.getElem_cons_drop (h := hi3)]
      simp
    have hkeep : (bs a0)[i].toNat = (lowB (bs a0)[i]).toNat → f (((bs a0).take i).map lowB ++ (bs a0).drop i) = f (((bs a0).take (i + 1)).map lowB ++ (bs a0).drop (i + 1)) := fun hv => by
      rw [take_succ_app hi3]
      simp only [f, List.map_append, List.map_cons, List.map_nil]
      rw [← List.getElem_cons_drop (h := hi3)]
      simp only [List.map_cons, List.append_assoc, List.cons_append, List.nil_append, hv]
    have hw : IntKind.i64.wrap ((i : Int) + 1) = ((i + 1 : Nat) : Int) := wrapS (by omega)
    rw [hget, hw]
    refine ⟨by omega, by omega, fun h1 => ⟨by omega, by omega, fun h2 => ⟨by omega, by omega, by omega, by omega, ?_⟩, fun h2 => ?_⟩, fun h1 => ?_⟩
    · refine hn _ hi2 ⟨rfl, hset _ ?_⟩
      rw [hlow, if_pos ⟨h1, h2⟩, wrap8 (by omega) (by omega)]
    · refine hn _ hi2 ⟨rfl, hkeep ?_⟩
      rw [if_neg (by omega)] at hlow
      omega
    · refine hn _ hi2 ⟨rfl, hkeep ?_⟩
      rw [if_neg (by omega)] at hlow
      omega
  · rw [hlen] at hge
    have e : i = (bs a0).length := by omega
    rw [e, List.drop_length, List.take_length, List.append_nil]
    exact strOf_map _

/-! ### Joining -/
theorem joinL_snoc (sep : S) : ∀ (vs : List S) (v : S), joinL sep (vs ++ [v]) = if vs = [] then v else joinL sep vs ++ sep ++ v
  | [], v => rfl
  | [x], v => rfl
  | x :: y :: r, v => by
    have ih := joinL_snoc sep (y :: r) v
    simp only [List.cons_append, joinL, reduceCtorEq, if_false] at ih ⊢
    rw [ih]
    apply bs_inj
    simp only [bs_append, List.append_assoc]
theorem joinL_size (sep : S) : ∀ (vs : List S), (joinL sep vs).size ≤ sumN (vs.map fun x => x.size) + vs.length * sep.size
  | [] => by show (lit []).size ≤ _; exact Nat.zero_le _
  | [x] => by simp only [joinL, List.map_cons, List.map_nil, sumN, List.length_singleton]; omega
  | x :: y :: r => by
    have ih := joinL_size sep (y :: r)
    simp only [joinL, size_append, List.map_cons, sumN, List.length_cons] at ih ⊢
    rw [Nat.succ_mul]
    omega
theorem sumN_append : ∀ (a b : List Nat), sumN (a ++ b) = sumN a + sumN b
  | [], b => by simp [sumN]
  | x :: a, b => by simp only [List.cons_append, sumN, sumN_append a b]; omega
theorem valuesOf_bound (n : S) : ∀ (l : List Fld), sumN ((valuesOf l n).map fun x => x.size) + (valuesOf l n).length ≤ cz l
  | [] => by simp [valuesOf, sumN]
  | f :: l => by
    have ih := valuesOf_bound n l
    simp only [valuesOf, cz_list, List.filter_cons, List.length_cons, List.map_cons, sumN, cz_pair, cz_str] at ih ⊢
    split
    · simp only [List.map_cons, sumN, List.length_cons]; omega
    · omega
theorem valuesOf_take (l : List Fld) (n : S) {i : Nat} (h : i < l.length) : valuesOf (l.take (i + 1)) n = if l[i].1 = n then valuesOf (l.take i) n ++ [l[i].2] else valuesOf (l.take i) n := by
  rw [take_succ_app h]
  unfold valuesOf
  rw [List.filter_append, List.map_append]
  by_cases e : l[i].1 = n
  · simp [e]
  · simp [e]
theorem sum_take' {α : Type} (c : α → Nat) (l : List α) (i : Nat) : sumN ((l.take i).map c) ≤ sumN (l.map c) := by
  have h : sumN (l.map c) = sumN ((l.take i).map c) + sumN ((l.drop i).map c) := by
    rw [← sumN_append, ← List.map_append, List.take_append_drop]
  omega
theorem cz_take {α : Type} [Cz α] (l : List α) (i : Nat) : cz (l.take i) ≤ cz l := by
  have h : sumN (l.map cz) = sumN ((l.take i).map cz) + sumN ((l.drop i).map cz) := by
    rw [← sumN_append, ← List.map_append, List.take_append_drop]
  simp only [cz_list, List.length_take]
  omega
theorem sep_size : (lit [44, 32]).size = 2 := rfl
theorem spec_FieldGet_ok (a0 : List Fld) (a1 : S) (h : pFieldGet a0 a1) : s_spec_FieldGet a0 a1 (fun r => r = mFieldGet a0 a1) := by
  intro L hL
  have hlen := md_len' h
  have hb : ∀ i, (joinL (lit [44, 32]) (valuesOf (a0.take i) a1)).size ≤ 3 * 1048576 := fun i => by
    have h1 := joinL_size (lit [44, 32]) (valuesOf (a0.take i) a1)
    have h2 := valuesOf_bound a1 (a0.take i)
    have h3 := cz_take a0 i
    have h4 : cz a0 ≤ 1048576 := h
    rw [sep_size] at h1
    omega
  refine loopG hL a0.length (fun i y => y.2.2 = (i : Int) ∧ y.1 = joinL (lit [44, 32]) (valuesOf (a0.take i) a1) ∧ y.2.1 = decide (valuesOf (a0.take i) a1 ≠ [])) (fun i y hi hI hn => ?_) (s0 := (lit [], false, 0)) ⟨rfl, rfl, rfl⟩
  obtain ⟨y1, y2, y3⟩ := y
  simp only at hI ⊢
  obtain ⟨rfl, rfl, rfl⟩ := hI
  refine ⟨fun hlt => ?_, fun hge => ?_⟩
  · have hi2 : i < a0.length := by omega
    have hv := valuesOf_take a0 a1 hi2
    have hval : cz a0[i] ≤ 1048576 := md_mem h (List.getElem_mem hi2)
    simp only [cz_pair, cz_str] at hval
    have hbi := hb i
    rw [rx_get a0 hi2, wrapS (by omega)]
    refine ⟨by omega, by omega, fun hne => hn _ hi2 ⟨rfl, ?_, ?_⟩, fun heq => ?_⟩
    · rw [hv, if_neg hne]
    · rw [hv, if_neg hne]
    · have heq : a0[i].1 = a1 := Classical.not_not.1 heq
      rw [if_pos heq] at hv
      refine ⟨fun hs => ?_, fun hs => ?_⟩
      · have hs := of_decide_eq_true hs
        refine ⟨by rw [sep_size]; omega, by omega, by omega, by rw [size_append, sep_size]; omega, hn _ hi2 ⟨rfl, ?_, ?_⟩⟩
        · rw [hv, joinL_snoc, if_neg hs]
        · rw [hv]; simp
      · have hs : valuesOf (a0.take i) a1 = [] := by simpa using hs
        refine ⟨by omega, by omega, by omega, hn _ hi2 ⟨rfl, ?_, ?_⟩⟩
        · rw [hv, hs, joinL_snoc, if_pos rfl]
          apply bs_inj; rw [bs_append]; rfl
        · rw [hv]; simp
  · have e : a0.take i = a0 := List.take_of_length_le (by omega)
    rw [e]
    unfold mFieldGet mJoin
    congr 1
    rw [decide_eq_decide]
    rw [List.length_pos_iff]
theorem pJoin_values (a0 : List Fld) (a1 : S) (h : pFieldGet a0 a1) : pJoin (valuesOf a0 a1) (lit [44, 32]) := by
  have h2 := valuesOf_bound a1 a0
  have h4 : cz a0 ≤ 1048576 := h
  exact ⟨by omega, by omega, by rw [sep_size]; omega⟩
theorem impl_FieldGet_ok (a0 : List Fld) (a1 : S) (h : pFieldGet a0 a1) : s_impl_FieldGet a0 a1 (fun r => r = mFieldGet a0 a1) := by
  intro L hL
  have hlen := md_len' h
  refine loopG hL a0.length (fun i y => y.2 = (i : Int) ∧ y.1 = valuesOf (a0.take i) a1) (fun i y hi hI hn => ?_) (s0 := ([], 0)) ⟨rfl, rfl⟩
  obtain ⟨y1, y2⟩ := y
  simp only at hI ⊢
  obtain ⟨rfl, rfl⟩ := hI
  refine ⟨fun hlt => ?_, fun hge => ?_⟩
  · have hi2 : i < a0.length := by omega
    have hv := valuesOf_take a0 a1 hi2
    have h2 := valuesOf_bound a1 (a0.take i)
    have h3 := cz_take a0 i
    have h4 : cz a0 ≤ 1048576 := h
    rw [rx_get a0 hi2, wrapS (by omega)]
    refine ⟨by omega, by omega, fun he => ⟨by simp only [List.length_singleton]; omega, hn _ hi2 ⟨rfl, by rw [hv, if_pos he]⟩⟩, fun hne => hn _ hi2 ⟨rfl, by rw [hv, if_neg hne]⟩⟩
  · have e : a0.take i = a0 := List.take_of_length_le (by omega)
    rw [e]
    refine ⟨pJoin_values a0 a1 h, ?_⟩
    unfold mFieldGet
    congr 1
    rw [decide_eq_decide]
    omega
theorem fieldGet_size (a0 : List Fld) (a1 : S) (h : pFieldGet a0 a1) : (mFieldGet a0 a1).1.size ≤ 3 * 1048576 := by
  have h1 := joinL_size (lit [44, 32]) (valuesOf a0 a1)
  have h2 := valuesOf_bound a1 a0
  have h4 : cz a0 ≤ 1048576 := h
  rw [sep_size] at h1
  unfold mFieldGet mJoin
  simp only
  omega

/-! ### Parts -/
theorem partsL_nil (q : Bool) (cur : List UInt8) : partsL q cur [] = [cur] := by cases q <;> rfl
theorem partsL_one (cur : List UInt8) (b : UInt8) : partsL true cur [b] = [cur ++ [b]] := rfl
theorem partsL_in (cur : List UInt8) (b c : UInt8) (r : List UInt8) : partsL true cur (b :: c :: r) = if b = 34 then partsL false (cur ++ [b]) (c :: r) else if b = 92 then partsL true (cur ++ [b, c]) r else partsL true (cur ++ [b]) (c :: r) := by rw [partsL]
theorem partsL_out (cur : List UInt8) (b : UInt8) (r : List UInt8) : partsL false cur (b :: r) = if b = 34 then partsL true (cur ++ [b]) r else if b = 44 then cur :: partsL false [] r else partsL false (cur ++ [b]) r := by rw [partsL]
theorem partsL_bound : ∀ (q : Bool) (cur l : List UInt8), sumN ((partsL q cur l).map List.length) ≤ cur.length + l.length ∧ (partsL q cur l).length ≤ l.length + 1
  | q, cur, [] => by rw [partsL_nil]; simp [sumN]
  | true, cur, [b] => by rw [partsL_one]; simp [sumN]
  | true, cur, b :: c :: r => by
    rw [partsL_in]
    split
    · have := partsL_bound false (cur ++ [b]) (c :: r)
      simp only [List.length_append, List.length_cons, List.length_nil] at this ⊢
      omega
    · split
      · have := partsL_bound true (cur ++ [b, c]) r
        simp only [List.length_append, List.length_cons, List.length_nil] at this ⊢
        omega
      · have := partsL_bound true (cur ++ [b]) (c :: r)
        simp only [List.length_append, List.length_cons, List.length_nil] at this ⊢
        omega
  | false, cur, b :: r => by
    rw [partsL_out]
    split
    · have := partsL_bound true (cur ++ [b]) r
      simp only [List.length_append, List.length_cons, List.length_nil] at this ⊢
      omega
    · split
      · have := partsL_bound false [] r
        simp only [List.length_append, List.length_cons, List.length_nil, List.map_cons, sumN] at this ⊢
        omega
      · have := partsL_bound false (cur ++ [b]) r
        simp only [List.length_append, List.length_cons, List.length_nil] at this ⊢
        omega
theorem dropWhile_le {α : Type} (p : α → Bool) (l : List α) : (l.dropWhile p).length ≤ l.length := (List.dropWhile_sublist p).length_le
theorem trimS_le (l cs : List UInt8) : (Lib.trimS l cs).length ≤ l.length := by
  unfold Lib.trimS Lib.trimLeftS Lib.trimRightS
  have h1 := dropWhile_le (cs.contains ·) ((l.reverse.dropWhile (cs.contains ·)).reverse)
  have h2 := dropWhile_le (cs.contains ·) l.reverse
  simp only [List.length_reverse] at h1 h2
  omega
theorem mTrim_le (s : S) : (mTrim s).size ≤ s.size := by
  unfold mTrim
  rw [ob_size, ← bs_len]
  exact trimS_le _ _
theorem trimmed_bound : ∀ (l : List (List UInt8)), sumN ((trimmed l).map fun x => x.size) ≤ sumN (l.map List.length) ∧ (trimmed l).length ≤ l.length
  | [] => by simp [trimmed, sumN]
  | p :: l => by
    have ih := trimmed_bound l
    have h := mTrim_le (ob p)
    rw [ob_size] at h
    simp only [trimmed, List.map_cons, List.filter_cons] at ih ⊢
    split
    · simp only [List.map_cons, sumN, List.length_cons]; omega
    · simp only [sumN, List.length_cons]; omega
theorem splitList_bound (s : S) : sumN ((mSplitList s).map fun x => x.size) ≤ s.size ∧ (mSplitList s).length ≤ s.size + 1 := by
  have h1 := partsL_bound false [] (bs s)
  have h2 := trimmed_bound (partsL false [] (bs s))
  rw [bs_len] at h1
  unfold mSplitList
  simp only [List.length_nil] at h1
  omega
theorem splitList_mem {s x : S} (h : x ∈ mSplitList s) : x.size ≤ s.size := by
  have h1 := (splitList_bound s).1
  have h2 := sumN_mem (List.mem_map.2 ⟨x, h, rfl⟩ : x.size ∈ (mSplitList s).map fun x => x.size)
  omega
theorem pJoin_parts (a0 : S) (h : a0.size ≤ 1048576 * 16) : pJoin (mSplitList a0) (lit [44, 32]) := by
  have hb := splitList_bound a0
  exact ⟨by omega, by omega, by rw [sep_size]; omega⟩
theorem impl_Normal_ok (a0 : S) (h : pNormal a0) : s_impl_Normal a0 (fun r => r = mNormal a0) := by
  unfold pNormal at h
  exact ⟨by unfold pSplitList sm; omega, pJoin_parts a0 (by omega), rfl⟩
theorem spec_Normal_ok (a0 : S) (h : pNormal a0) : s_spec_Normal a0 (fun r => r = mNormal a0) := by
  unfold pNormal at h
  refine ⟨by unfold pSplitList sm; omega, fun L hL => ?_⟩
  have hb := splitList_bound a0
  have hsz : ∀ i, (joinL (lit [44, 32]) ((mSplitList a0).take i)).size ≤ a0.size + 2 * (a0.size + 1) := fun i => by
    have h1 := joinL_size (lit [44, 32]) ((mSplitList a0).take i)
    have h2 : sumN (((mSplitList a0).take i).map fun x => x.size) ≤ sumN ((mSplitList a0).map fun x => x.size) := sum_take' (fun x : S => x.size) _ _
    rw [sep_size, List.length_take] at h1
    omega
  refine loopG hL (mSplitList a0).length (fun i y => y.2 = (i : Int) ∧ y.1 = joinL (lit [44, 32]) ((mSplitList a0).take i)) (fun i y hi hI hn => ?_) (s0 := (lit [], 0)) ⟨rfl, rfl⟩
  obtain ⟨y1, y2⟩ := y
  simp only at hI ⊢
  obtain ⟨rfl, rfl⟩ := hI
  have hs := hsz i
  refine ⟨fun hlt => ?_, fun hge => ?_⟩
  · have hi2 : i < (mSplitList a0).length := by omega
    have hx := splitList_mem (List.getElem_mem hi2)
    have hj := joinL_snoc (lit [44, 32]) ((mSplitList a0).take i) (mSplitList a0)[i]
    rw [← take_succ_app hi2] at hj
    rw [rx_get _ hi2, wrapS (by omega)]
    refine ⟨fun h0 => ⟨by rw [sep_size]; omega, by omega, by omega, by rw [size_append, sep_size]; omega, hn _ hi2 ⟨rfl, ?_⟩⟩, fun h0 => ⟨by omega, by omega, by omega, hn _ hi2 ⟨rfl, ?_⟩⟩⟩
    · rw [hj, if_neg]
      intro e
      have := congrArg List.length e
      simp only [List.length_take, List.length_nil] at this
      omega
    · have e : i = 0 := by omega
      subst e
      rw [hj, List.take_zero, if_pos rfl]
      apply bs_inj; rw [bs_append]; rfl
  · have e : (mSplitList a0).take i = mSplitList a0 := List.take_of_length_le (by omega)
    rw [e]; rfl

/-! ### Directives, asked for -/
theorem impl_CcHas_ok' (a0 : List Fld) (a1 : S) (h : pCcHas a0 a1) (hd : (mDirectives a0).length ≤ maxLen) : s_impl_CcHas a0 a1 (fun r => r = mCcHas a0 a1) := ⟨h, hd, rfl⟩
theorem directives_len (a0 : List Fld) (h : pDirectives a0) : (mDirectives a0).length ≤ 3 * 1048576 + 1 := by
  have h1 := List.length_filterMap_le dirOf (mSplitList (mFieldGet a0 nameCC).1)
  have h2 := (splitList_bound (mFieldGet a0 nameCC).1).2
  have h3 := fieldGet_size a0 nameCC h
  unfold mDirectives
  omega
theorem impl_CcHas_ok (a0 : List Fld) (a1 : S) (h : pCcHas a0 a1) : s_impl_CcHas a0 a1 (fun r => r = mCcHas a0 a1) := by
  have hd := directives_len a0 h
  exact ⟨h, by unfold pContainsFunc_CcHas_1; simp only [maxLen]; omega, rfl⟩
theorem spec_CcHas_ok (a0 : List Fld) (a1 : S) (h : pCcHas a0 a1) : s_spec_CcHas a0 a1 (fun r => r = mCcHas a0 a1) := by
  have hd := directives_len a0 h
  refine ⟨h, scanT_ok (C := fun x : Fld => x.1 = a1) (Qh := fun _ => true = mCcHas a0 a1) (by simp only [maxLen]; omega) (fun i hi hc _ => ?_) (fun hx => ?_)⟩
  · unfold mCcHas mCcHas_1
    exact (any_true hi (by simpa using hc)).symm
  · unfold mCcHas mCcHas_1
    exact (List.any_eq_false.2 fun x hx' => by have := hx x hx'; simpa using this).symm
theorem impl_CcHas_1_ok (a0 : Fld) (a1 : S) (h : pCcHas_1 a0 a1) : s_impl_CcHas_1 a0 a1 (fun r => r = mCcHas_1 a0 a1) := rfl
theorem impl_Storable_1_ok (a0 : S) (a1 : Rsp) (h : pStorable_1 a0 a1) : s_impl_Storable_1 a0 a1 (fun r => r = mStorable_1 a0 a1) := ⟨h, rfl⟩
end Go.Ev
end

section
/- Laws of the plain library, fourth part: parts of texts. -/
set_option linter.unusedVariables false
namespace Go.Ev

/-! ### Trim -/
def blk (b : UInt8) : Bool := [(32 : UInt8), 9].contains b
theorem blk_iff (b : UInt8) : blk b = true ↔ mBlank (b.toNat : Int) = true := by
  have h : ∀ n : Fin 256, (blk (UInt8.ofNat n.val) = true) ↔ mBlank (n.val : Int) = true := by decide +kernel
  have := h ⟨b.toNat, b.toNat_lt⟩
  simpa using this
theorem trimS_cons {b : UInt8} (h : blk b = true) (l : List UInt8) : Lib.trimS (b :: l) [32, 9] = Lib.trimS l [32, 9] := by
  have h' : [(32 : UInt8), 9].contains b = true := h
  unfold Lib.trimS Lib.trimLeftS Lib.trimRightS
  rw [List.reverse_cons, List.dropWhile_append]
  split
  · next hd =>
    have hd : l.reverse.dropWhile (fun x => [(32 : UInt8), 9].contains x) = [] := by simpa using hd
    rw [hd]
    have : List.dropWhile (fun x => [(32 : UInt8), 9].contains x) [b] = [] := by
      rw [List.dropWhile_cons, if_pos h']; rfl
    rw [this]
  · rw [List.reverse_append, List.reverse_singleton, List.singleton_append, List.dropWhile_cons, if_pos h']
theorem trimS_snoc {b : UInt8} (h : blk b = true) (l : List UInt8) : Lib.trimS (l ++ [b]) [32, 9] = Lib.trimS l [32, 9] := by
  have h' : [(32 : UInt8), 9].contains b = true := h
  unfold Lib.trimS Lib.trimRightS
  rw [List.reverse_append, List.reverse_singleton, List.singleton_append, List.dropWhile_cons, if_pos h']
theorem trimS_id {l : List UInt8} (h0 : ∀ b, l.head? = some b → blk b = false) (h1 : ∀ b, l.getLast? = some b → blk b = false) : Lib.trimS l [32, 9] = l := by
  have key : ∀ l : List UInt8, (∀ b, l.head? = some b → blk b = false) → l.dropWhile (fun x => [(32 : UInt8), 9].contains x) = l := fun l h => by
    cases l with
    | nil => rfl
    | cons b r =>
      rw [List.dropWhile_cons, if_neg]
      have := h b rfl
      unfold blk at this
      rw [this]; simp
  unfold Lib.trimS Lib.trimLeftS Lib.trimRightS
  rw [key l.reverse (fun b hb => h1 b (by rw [List.head?_reverse] at hb; exact hb)), List.reverse_reverse, key l h0]
theorem bs_ext {s t : S} : s = t ↔ bs s = bs t := ⟨fun h => by rw [h], bs_inj⟩
theorem spec_Trim_ok (a0 : S) (h : pTrim a0) : s_spec_Trim a0 (fun r => r = mTrim a0) := by
  unfold pTrim sm at h
  -- the second loop
  have back : ∀ y : S, y.size ≤ a0.size → mTrim y = mTrim a0 → (∀ b, (bs y).head? = some b → blk b = false) → ∀ L2 : S → Prop,
      (∀ y3 : S, ((0 < (y3.size : Int) → 0 ≤ IntKind.i64.wrap ((y3.size : Int) - 1) ∧ IntKind.i64.wrap ((y3.size : Int) - 1) < (y3.size : Int) ∧ pBlank (bt y3 (IntKind.i64.wrap ((y3.size : Int) - 1))) ∧
          (mBlank (bt y3 (IntKind.i64.wrap ((y3.size : Int) - 1))) = true → 0 ≤ IntKind.i64.wrap ((y3.size : Int) - 1) ∧ IntKind.i64.wrap ((y3.size : Int) - 1) ≤ (y3.size : Int) ∧ L2 (y3.extract 0 (IntKind.i64.wrap ((y3.size : Int) - 1)).toNat)) ∧
          (¬ mBlank (bt y3 (IntKind.i64.wrap ((y3.size : Int) - 1))) = true → y3 = mTrim a0)) ∧
        (¬ 0 < (y3.size : Int) → y3 = mTrim a0)) → L2 y3) → L2 y := by
    intro y hy hm hh L2 hL
    refine loopI hL (fun y => y.size ≤ a0.size ∧ mTrim y = mTrim a0 ∧ ∀ b, (bs y).head? = some b → blk b = false) (fun y => y.size) (fun y ⟨hy, hm, hh⟩ ih => ?_) y ⟨hy, hm, hh⟩
    refine ⟨fun h0 => ?_, fun h0 => ?_⟩
    · have hpos : 0 < y.size := by omega
      have hw : IntKind.i64.wrap ((y.size : Int) - 1) = ((y.size - 1 : Nat) : Int) := by rw [wrap64 (by omega) (by omega)]; omega
      rw [hw]
      have hlen := bs_len y
      have hb := bt_nat y (y.size - 1) (by omega)
      have hlast : (bs y).getLast? = some ((bs y)[y.size - 1]'(by omega)) := by
        rw [List.getLast?_eq_getElem?]
        simp only [hlen]
        exact List.getElem?_eq_getElem _
      refine ⟨by omega, by omega, trivial, fun hbl => ⟨by omega, by omega, ?_⟩, fun hbl => ?_⟩
      · rw [Int.toNat_natCast]
        have hcut : bs (y.extract 0 (y.size - 1)) = (bs y).take (y.size - 1) := by rw [bs_extract]; simp
        have hspl : bs y = (bs y).take (y.size - 1) ++ [(bs y)[y.size - 1]'(by omega)] := by
          rw [← take_succ_app (by omega), List.take_of_length_le (by omega)]
        refine ih _ ⟨?_, ?_, fun b hb2 => ?_⟩ ?_
        · rw [← bs_len, hcut, List.length_take]; omega
        · rw [← hm]
          unfold mTrim
          rw [hcut]
          conv => rhs; rw [hspl]
          rw [trimS_snoc]
          rw [blk_iff, ← hb]; exact hbl
        · rw [hcut] at hb2
          refine hh b ?_
          rw [hspl]
          cases hx : (bs y).take (y.size - 1) with
          | nil => rw [hx] at hb2; cases hb2
          | cons c r => rw [hx] at hb2; simpa using hb2
        · rw [← bs_len, hcut, List.length_take]; omega
      · rw [← hm]
        unfold mTrim
        rw [trimS_id hh]
        · rfl
        · intro b hb2
          rw [hlast] at hb2
          injection hb2 with hb2
          rw [← hb2]
          cases hx : blk (bs y)[y.size - 1] with
          | false => rfl
          | true =>
            rw [blk_iff, ← hb] at hx
            exact absurd hx hbl
    · rw [← hm]
      have : bs y = [] := List.eq_nil_of_length_eq_zero (by rw [bs_len]; omega)
      apply bs_inj
      unfold mTrim
      rw [this]; rfl
  intro L hL
  refine loopI hL (fun y => y.size ≤ a0.size ∧ mTrim y = mTrim a0) (fun y => y.size) (fun y ⟨hy, hm⟩ ih => ?_) a0 ⟨Nat.le_refl _, rfl⟩
  have hlen := bs_len y
  refine ⟨fun h0 => ?_, fun h0 => ?_⟩
  · have hpos : 0 < y.size := by omega
    have hb := bt_nat y 0 hpos
    have hcons : bs y = (bs y)[0]'(by omega) :: (bs y).drop 1 := by
      conv => lhs; rw [← List.drop_zero (l := bs y)]
      exact (List.getElem_cons_drop (h := by omega)).symm
    refine ⟨by omega, by omega, trivial, fun hbl => ⟨by omega, by omega, ?_⟩, fun hbl L2 hL2 => ?_⟩
    · have hcut : bs (y.extract ((1 : Int).toNat) y.size) = (bs y).drop 1 := by
        rw [bs_extract]
        exact List.take_of_length_le (by rw [List.length_drop, hlen]; omega)
      refine ih _ ⟨?_, ?_⟩ ?_
      · rw [← bs_len, hcut, List.length_drop]; omega
      · rw [← hm]
        unfold mTrim
        rw [hcut]
        conv => rhs; rw [hcons]
        rw [trimS_cons]
        rw [blk_iff, ← hb]; exact hbl
      · rw [← bs_len, hcut, List.length_drop]; omega
    · refine back y hy hm (fun b hb2 => ?_) L2 hL2
      rw [hcons] at hb2
      injection hb2 with hb2
      rw [← hb2]
      cases hx : blk (bs y)[0] with
      | false => rfl
      | true =>
        rw [blk_iff, ← hb] at hx
        exact absurd hx hbl
  · intro L2 hL2
    refine back y hy hm (fun b hb2 => ?_) L2 hL2
    have : bs y = [] := List.eq_nil_of_length_eq_zero (by omega)
    rw [this] at hb2; cases hb2

/-! ### Names, each once -/
theorem onceL_append : ∀ (out a b : List S), onceL out (a ++ b) = onceL (onceL out a) b
  | out, [], b => rfl
  | out, x :: a, b => by
    simp only [List.cons_append, onceL]
    exact onceL_append _ a b
theorem onceL_len : ∀ (out a : List S), (onceL out a).length ≤ out.length + a.length
  | out, [] => by simp [onceL]
  | out, x :: a => by
    simp only [onceL, List.length_cons]
    have := onceL_len (if out.any (fun y => decide (x = y)) then out else out ++ [x]) a
    split at this
    · rename_i h; rw [if_pos h]; omega
    · rename_i h; rw [if_neg h]; simp only [List.length_append, List.length_singleton] at this; omega
theorem onceL_snoc (out l : List S) (x : S) : onceL out (l ++ [x]) = if (onceL out l).any (fun y => decide (x = y)) then onceL out l else onceL out l ++ [x] := by
  rw [onceL_append]; rfl
theorem impl_VaryNames_ok (a0 : Rsp) (h : pVaryNames a0) : s_impl_VaryNames a0 (fun r => r = mVaryNames a0) := by
  have hc : lit [118, 97, 114, 121] = sVary := rfl
  unfold s_impl_VaryNames
  rw [hc]
  have hf := fieldGet_size a0.2.1 sVary h
  have hsp := splitList_bound (mFieldGet a0.2.1 sVary).1
  refine ⟨h, by unfold pSplitList sm; omega, fun L hL => ?_⟩
  generalize hl : mSplitList (mFieldGet a0.2.1 sVary).1 = l at hL hsp
  have hm : mVaryNames a0 = onceL [] (l.map mLower) := by unfold mVaryNames; rw [hl]
  have hmem : ∀ x ∈ l, sm x := fun x hx => by
    rw [← hl] at hx
    have := splitList_mem hx
    unfold sm; omega
  refine loopG hL l.length (fun i y => y.2 = (i : Int) ∧ y.1 = onceL [] ((l.take i).map mLower)) (fun i y hi hI hn => ?_) (s0 := ([], 0)) ⟨rfl, rfl⟩
  obtain ⟨y1, y2⟩ := y
  simp only at hI ⊢
  obtain ⟨rfl, rfl⟩ := hI
  have hlen := onceL_len [] ((l.take i).map mLower)
  simp only [List.length_nil, List.length_map, List.length_take] at hlen
  refine ⟨fun hlt => ?_, fun hge => ?_⟩
  · have hi2 : i < l.length := by omega
    have hs := onceL_snoc [] ((l.take i).map mLower) (mLower l[i])
    rw [← List.map_singleton (f := mLower), ← List.map_append, ← take_succ_app hi2] at hs
    rw [rx_get _ hi2, wrapS (by omega)]
    refine ⟨by omega, by omega, hmem _ (List.getElem_mem hi2), by unfold pContains_string; simp only [maxLen]; omega, fun hc => ⟨by simp only [List.length_singleton]; omega, hn _ hi2 ⟨rfl, ?_⟩⟩, fun hc => hn _ hi2 ⟨rfl, ?_⟩⟩
    · unfold mContains_string at hc
      rw [hs, if_neg hc]; rfl
    · unfold mContains_string at hc
      rw [hs, if_pos (Classical.not_not.1 hc)]
  · have e : l.take i = l := List.take_of_length_le (by omega)
    rw [e, hm]
theorem spec_VaryNames_ok (a0 : Rsp) (h : pVaryNames a0) : s_spec_VaryNames a0 (fun r => r = mVaryNames a0) := by
  have hc : lit [118, 97, 114, 121] = sVary := rfl
  unfold s_spec_VaryNames
  rw [hc]
  have hf := fieldGet_size a0.2.1 sVary h
  have hsp := splitList_bound (mFieldGet a0.2.1 sVary).1
  refine ⟨h, by unfold pSplitList sm; omega, fun L hL => ?_⟩
  generalize hl : mSplitList (mFieldGet a0.2.1 sVary).1 = l at hL hsp
  have hm : mVaryNames a0 = onceL [] (l.map mLower) := by unfold mVaryNames; rw [hl]
  have hmem : ∀ x ∈ l, sm x := fun x hx => by
    rw [← hl] at hx
    have := splitList_mem hx
    unfold sm; omega
  refine loopG hL l.length (fun i y => y.2 = (i : Int) ∧ y.1 = onceL [] ((l.take i).map mLower)) (fun i y hi hI hn => ?_) (s0 := ([], 0)) ⟨rfl, rfl⟩
  obtain ⟨y1, y2⟩ := y
  simp only at hI ⊢
  obtain ⟨rfl, rfl⟩ := hI
  have hlen := onceL_len [] ((l.take i).map mLower)
  simp only [List.length_nil, List.length_map, List.length_take] at hlen
  refine ⟨fun hlt => ?_, fun hge => ?_⟩
  · have hi2 : i < l.length := by omega
    have hs := onceL_snoc [] ((l.take i).map mLower) (mLower l[i])
    rw [← List.map_singleton (f := mLower), ← List.map_append, ← take_succ_app hi2] at hs
    rw [rx_get _ hi2, wrapS (by omega)]
    refine ⟨by omega, by omega, hmem _ (List.getElem_mem hi2), fun L2 hL2 => ?_⟩
    generalize ho : onceL [] ((l.take i).map mLower) = out at hL2 hs hlen
    refine loopG hL2 out.length (fun k y => y.2 = (k : Int) ∧ y.1 = (out.take k).any (fun y => decide (mLower l[i] = y))) (fun k y hk hI2 hn2 => ?_) (s0 := (false, 0)) ⟨rfl, rfl⟩
    obtain ⟨y3, y4⟩ := y
    simp only at hI2 ⊢
    obtain ⟨rfl, rfl⟩ := hI2
    refine ⟨fun hlt2 => ?_, fun hge2 => ?_⟩
    · have hk2 : k < out.length := by omega
      have ht : (out.take (k + 1)).any (fun y => decide (mLower l[i] = y)) = ((out.take k).any (fun y => decide (mLower l[i] = y)) || decide (mLower l[i] = out[k])) := by
        rw [take_succ_app hk2, List.any_append]; simp
      rw [wrapS (by omega)]
      refine ⟨fun hc => hn2 _ hk2 ⟨rfl, by rw [ht, hc]; rfl⟩, fun hc => ⟨by omega, by omega, hn2 _ hk2 ⟨rfl, ?_⟩⟩⟩
      rw [ht, rx_get out hk2]
      rw [Bool.not_eq_true] at hc
      rw [hc, Bool.false_or]
      exact decide_eq_decide.2 ⟨Eq.symm, Eq.symm⟩
    · have e : out.take k = out := List.take_of_length_le (by omega)
      rw [e]
      refine ⟨fun hc => ⟨by simp only [List.length_singleton]; omega, hn _ hi2 ⟨rfl, ?_⟩⟩, fun hc => hn _ hi2 ⟨rfl, ?_⟩⟩
      · rw [hs, if_neg hc]; rfl
      · rw [hs, if_pos (Classical.not_not.1 hc)]
  · have e : l.take i = l := List.take_of_length_le (by omega)
    rw [e, hm]
theorem varyNames_len (r : Rsp) (h : pVaryNames r) : (mVaryNames r).length ≤ 3 * 1048576 + 1 := by
  have hf := fieldGet_size r.2.1 sVary h
  have hsp := splitList_bound (mFieldGet r.2.1 sVary).1
  have := onceL_len [] ((mSplitList (mFieldGet r.2.1 sVary).1).map mLower)
  simp only [List.length_nil, List.length_map] at this
  unfold mVaryNames
  omega
theorem filterMap_take {α β : Type} (f : α → Option β) (l : List α) {i : Nat} (h : i < l.length) : (l.take (i + 1)).filterMap f = (l.take i).filterMap f ++ (match f l[i] with | some y => [y] | none => []) := by
  rw [take_succ_app h, List.filterMap_append]
  congr 1
  cases hf : f l[i] with
  | none => simp [hf]
  | some y => simp [hf]
theorem spec_Picked_ok (a0 : Req) (a1 : Rsp) (h : pPicked a0 a1) : s_spec_Picked a0 a1 (fun r => r = mPicked a0 a1) := by
  have hv := varyNames_len a1 h.2
  refine ⟨h.2, fun L hL => ?_⟩
  refine loopG hL (mVaryNames a1).length (fun i y => y.2 = (i : Int) ∧ y.1 = ((mVaryNames a1).take i).filterMap (pickOf a0)) (fun i y hi hI hn => ?_) (s0 := ([], 0)) ⟨rfl, rfl⟩
  obtain ⟨y1, y2⟩ := y
  simp only at hI ⊢
  obtain ⟨rfl, rfl⟩ := hI
  have hlen := List.length_filterMap_le (pickOf a0) ((mVaryNames a1).take i)
  rw [List.length_take] at hlen
  refine ⟨fun hlt => ?_, fun hge => ?_⟩
  · have hi2 : i < (mVaryNames a1).length := by omega
    have hs := filterMap_take (pickOf a0) (mVaryNames a1) hi2
    have hsz := fieldGet_size a0.2.2.1 (mVaryNames a1)[i] h.1
    rw [rx_get _ hi2, wrapS (by omega)]
    refine ⟨by omega, by omega, h.1, fun hc => ?_, fun hc => hn _ hi2 ⟨rfl, ?_⟩⟩
    · refine ⟨by omega, by omega, by unfold pNormal; omega, by simp only [List.length_singleton]; omega, hn _ hi2 ⟨rfl, ?_⟩⟩
      rw [hs]
      unfold pickOf
      rw [if_pos hc]
    · rw [hs]
      have : pickOf a0 (mVaryNames a1)[i] = none := by unfold pickOf; rw [if_neg hc]
      rw [this]; simp
  · have e : (mVaryNames a1).take i = mVaryNames a1 := List.take_of_length_le (by omega)
    rw [e]; rfl
theorem impl_Picked_ok (a0 : Req) (a1 : Rsp) (h : pPicked a0 a1) : s_impl_Picked a0 a1 (fun r => r = mPicked a0 a1) := by
  have hv := varyNames_len a1 h.2
  refine ⟨h.2, fun L hL => ?_⟩
  refine loopG hL (mVaryNames a1).length (fun i y => y.2 = (i : Int) ∧ y.1 = ((mVaryNames a1).take i).filterMap (pickOf a0)) (fun i y hi hI hn => ?_) (s0 := ([], 0)) ⟨rfl, rfl⟩
  obtain ⟨y1, y2⟩ := y
  simp only at hI ⊢
  obtain ⟨rfl, rfl⟩ := hI
  have hlen := List.length_filterMap_le (pickOf a0) ((mVaryNames a1).take i)
  rw [List.length_take] at hlen
  refine ⟨fun hlt => ?_, fun hge => ?_⟩
  · have hi2 : i < (mVaryNames a1).length := by omega
    have hs := filterMap_take (pickOf a0) (mVaryNames a1) hi2
    have hsz := fieldGet_size a0.2.2.1 (mVaryNames a1)[i] h.1
    rw [rx_get _ hi2, wrapS (by omega)]
    refine ⟨by omega, by omega, h.1, fun hc => ?_, fun hc => hn _ hi2 ⟨rfl, ?_⟩⟩
    · refine ⟨by unfold pNormal; omega, by simp only [List.length_singleton]; omega, hn _ hi2 ⟨rfl, ?_⟩⟩
      rw [hs]
      unfold pickOf
      rw [if_pos hc]
    · rw [hs]
      have : pickOf a0 (mVaryNames a1)[i] = none := by unfold pickOf; rw [if_neg hc]
      rw [this]; simp
  · have e : (mVaryNames a1).take i = mVaryNames a1 := List.take_of_length_le (by omega)
    rw [e]; rfl
theorem picked_len (q : Req) (r : Rsp) (h : pPicked q r) : (mPicked q r).length ≤ 3 * 1048576 + 1 := by
  have := List.length_filterMap_le (pickOf q) (mVaryNames r)
  have := varyNames_len r h.2
  unfold mPicked
  omega
theorem spec_VaryFits_ok (a0 : Req) (a1 : Rsp) (a2 : List Fld) (h : pVaryFits a0 a1 a2) : s_spec_VaryFits a0 a1 a2 (fun r => r = mVaryFits a0 a1 a2) := by
  have := picked_len a0 a1 h
  exact ⟨h, by unfold pSameFields; simp only [maxLen]; omega, rfl⟩
theorem impl_VaryFits_ok (a0 : Req) (a1 : Rsp) (a2 : List Fld) (h : pVaryFits a0 a1 a2) : s_impl_VaryFits a0 a1 a2 (fun r => r = mVaryFits a0 a1 a2) := spec_VaryFits_ok a0 a1 a2 h
end Go.Ev
end

section
/- Laws of the plain library: the origin. -/
set_option linter.unusedVariables false
namespace Go.Ev
theorem bytesLess_not : ∀ x y : List UInt8, Op.bytesLess x y = false ↔ (Op.bytesLess y x = true ∨ x = y)
  | [], [] => by simp [Op.bytesLess]
  | [], b :: y => by simp [Op.bytesLess]
  | a :: x, [] => by simp [Op.bytesLess]
  | a :: x, b :: y => by
    have ih := bytesLess_not x y
    simp only [Op.bytesLess, Bool.or_eq_false_iff, Bool.and_eq_false_iff, Bool.or_eq_true, Bool.and_eq_true, decide_eq_true_eq, decide_eq_false_iff_not, beq_iff_eq, List.cons.injEq, beq_eq_false_iff_ne, ne_eq]
    rcases Nat.lt_trichotomy a.toNat b.toNat with h | h | h
    · have h1 : a < b := h
      have h2 : ¬ b < a := by show ¬ b.toNat < a.toNat; omega
      have h3 : a ≠ b := by rintro rfl; omega
      have h4 : b ≠ a := fun e => h3 e.symm
      simp [h1, h2, h3, h4]
    · have e : a = b := UInt8.toNat_inj.1 h
      subst e
      have h1 : ¬ a < a := by show ¬ a.toNat < a.toNat; omega
      simp [h1, ih]
    · have h1 : ¬ a < b := by show ¬ a.toNat < b.toNat; omega
      have h2 : b < a := h
      have h3 : a ≠ b := by rintro rfl; omega
      simp [h1, h2, h3]
theorem strLt_not (x y : S) : (strLt y x ∨ x = y) ↔ ¬ strLt x y := by
  unfold strLt
  rw [Bool.not_eq_true, bytesLess_not]
  refine or_congr Iff.rfl ⟨fun h => h ▸ rfl, fun h => ?_⟩
  exact bs_inj (by rw [ByteArray.toList_eq, ByteArray.toList_eq] at h; exact h)
theorem org_mem {o : List Rsc} (h : md o) {i : Nat} (hi : i < o.length) : md (rx o (i : Int)) := by
  rw [rx_nat o i hi]
  unfold md at h ⊢
  have := cz_mem (List.getElem_mem hi : o[i] ∈ o)
  omega
open Classical in
theorem org_false {o : List Rsc} {i : Nat} (hi : i < o.length) (h : ¬ orgAt o i) : false = mOriginOk o := by
  unfold mOriginOk
  rw [decide_eq_false (fun hh => h (hh.1 i hi))]
open Classical in
theorem org_end {o : List Rsc} (h : ∀ i, i < o.length → orgAt o i) : decide ((o.length : Int) ≤ 8) = mOriginOk o := by
  unfold mOriginOk
  by_cases hl : o.length ≤ 8
  · rw [decide_eq_true (by omega), decide_eq_true ⟨h, hl⟩]
  · rw [decide_eq_false (by omega), decide_eq_false (fun hh => hl hh.2)]
theorem org_parts {o : List Rsc} (h : md o) {i : Nat} (hi : i < o.length) : pUriOk (rx o (i : Int)).1 ∧ pOwnFields (rx o (i : Int)).2.2.2.2.2.2 := by
  have := org_mem h hi
  unfold md at this
  simp only [cz_pair] at this
  unfold pUriOk pOwnFields sm md
  have h1 : cz (rx o (i : Int)).1 = (rx o (i : Int)).1.size := rfl
  constructor <;> omega
theorem impl_OriginOk_ok (a0 : List Rsc) (h : pOriginOk a0) : s_impl_OriginOk a0 (fun r => r = mOriginOk a0) := by
  have hl : a0.length ≤ 1048576 := Nat.le_trans (cz_len a0) h
  intro L hL
  refine loopN hL a0.length (by omega) (fun i => ∀ j, j < i → orgAt a0 j) (fun i hi hI ih => ?_) (fun j hj => by omega)
  refine ⟨fun hlt => ?_, fun hge => org_end (fun j hj => hI j (by omega))⟩
  have hlt : i < a0.length := by omega
  obtain ⟨p1, p2⟩ := org_parts h hlt
  have hprev : 0 < (i : Int) → IntKind.i64.wrap ((i : Int) - 1) = ((i - 1 : Nat) : Int) := fun h0 => by rw [wrap64 (by omega) (by omega)]; omega
  have next : orgAt a0 i → L (IntKind.i64.wrap ((i : Int) + 1)) := fun ho => ih hlt (fun j hj => by
    by_cases e : j = i
    · subst e; exact ho
    · exact hI j (by omega))
  have nil : ∀ {P : Prop}, ¬ orgAt a0 i → false = mOriginOk a0 := fun hn => org_false hlt hn
  unfold orgAt resOk at next nil
  simp only [Bool.and_eq_true, decide_eq_true_eq] at next nil
  refine ⟨by omega, by omega, p1, fun c => org_false hlt (fun ho => ?_), fun c1 => ⟨fun h0 => ?_, fun h0 => ?_⟩⟩
  · unfold orgAt resOk at ho; simp only [Bool.and_eq_true] at ho; exact c ho.1.1.1.1.1.1
  · rw [hprev h0]
    refine ⟨by omega, by omega, fun c => org_false hlt (fun ho => ?_), fun c2 => ?_⟩
    · rcases ho.2 with ho | ho
      · omega
      · exact c ho
    · refine ⟨fun c => org_false hlt (fun ho => ?_), fun c3 => ⟨trivial, fun c => org_false hlt (fun ho => ?_), fun c4 => ⟨trivial, fun c => org_false hlt (fun ho => ?_), fun c5 => ⟨fun c => org_false hlt (fun ho => ?_), fun c6 => ⟨p2, fun c => org_false hlt (fun ho => ?_), fun c7 => next ?_⟩⟩⟩⟩⟩
      all_goals first
        | (unfold orgAt resOk at ho; simp only [Bool.and_eq_true, decide_eq_true_eq] at ho; obtain ⟨⟨⟨⟨⟨⟨ho1, ho2⟩, ho3⟩, ho4⟩, ho5⟩, ho6⟩, -⟩ := ho; first | omega | exact c ho3 | exact c ho4 | exact c ho6)
        | exact ⟨⟨⟨⟨⟨⟨Classical.not_not.1 c1, by omega⟩, Classical.not_not.1 c4⟩, Classical.not_not.1 c5⟩, by omega⟩, Classical.not_not.1 c7⟩, Or.inr (Classical.not_not.1 c2)⟩
  · have hz : i = 0 := by omega
    refine ⟨fun c => org_false hlt (fun ho => ?_), fun c3 => ⟨trivial, fun c => org_false hlt (fun ho => ?_), fun c4 => ⟨trivial, fun c => org_false hlt (fun ho => ?_), fun c5 => ⟨fun c => org_false hlt (fun ho => ?_), fun c6 => ⟨p2, fun c => org_false hlt (fun ho => ?_), fun c7 => next ?_⟩⟩⟩⟩⟩
    all_goals first
      | (unfold orgAt resOk at ho; simp only [Bool.and_eq_true, decide_eq_true_eq] at ho; obtain ⟨⟨⟨⟨⟨⟨ho1, ho2⟩, ho3⟩, ho4⟩, ho5⟩, ho6⟩, -⟩ := ho; first | omega | exact c ho3 | exact c ho4 | exact c ho6)
      | exact ⟨⟨⟨⟨⟨⟨Classical.not_not.1 c1, by omega⟩, Classical.not_not.1 c4⟩, Classical.not_not.1 c5⟩, by omega⟩, Classical.not_not.1 c7⟩, Or.inl hz⟩
theorem spec_OriginOk_ok (a0 : List Rsc) (h : pOriginOk a0) : s_spec_OriginOk a0 (fun r => r = mOriginOk a0) := by
  have hl : a0.length ≤ 1048576 := Nat.le_trans (cz_len a0) h
  intro L hL
  refine loopN hL a0.length (by omega) (fun i => ∀ j, j < i → orgAt a0 j) (fun i hi hI ih => ?_) (fun j hj => by omega)
  refine ⟨fun hlt => ?_, fun hge => org_end (fun j hj => hI j (by omega))⟩
  have hlt : i < a0.length := by omega
  obtain ⟨p1, p2⟩ := org_parts h hlt
  have hprev : 0 < (i : Int) → IntKind.i64.wrap ((i : Int) - 1) = ((i - 1 : Nat) : Int) := fun h0 => by rw [wrap64 (by omega) (by omega)]; omega
  have next : orgAt a0 i → L (IntKind.i64.wrap ((i : Int) + 1)) := fun ho => ih hlt (fun j hj => by
    by_cases e : j = i
    · subst e; exact ho
    · exact hI j (by omega))
  unfold orgAt resOk at next
  simp only [Bool.and_eq_true, decide_eq_true_eq] at next
  refine ⟨by omega, by omega, p1, fun c => org_false hlt (fun ho => ?_), fun c1 => ⟨fun c => org_false hlt (fun ho => ?_), fun c3 => ⟨trivial, fun c => org_false hlt (fun ho => ?_), fun c4 => ⟨trivial, fun c => org_false hlt (fun ho => ?_), fun c5 => ⟨p2, fun c => org_false hlt (fun ho => ?_), fun c7 => ⟨fun c => org_false hlt (fun ho => ?_), fun c6 => ⟨fun h0 => ?_, fun h0 => next ?_⟩⟩⟩⟩⟩⟩⟩
  case _ => unfold orgAt resOk at ho; simp only [Bool.and_eq_true] at ho; exact c ho.1.1.1.1.1.1
  case _ => unfold orgAt resOk at ho; simp only [Bool.and_eq_true, decide_eq_true_eq] at ho; have := ho.1.1.1.1.1.2; omega
  case _ => unfold orgAt resOk at ho; simp only [Bool.and_eq_true, decide_eq_true_eq] at ho; exact c ho.1.1.1.1.2
  case _ => unfold orgAt resOk at ho; simp only [Bool.and_eq_true, decide_eq_true_eq] at ho; exact c ho.1.1.1.2
  case _ => unfold orgAt resOk at ho; simp only [Bool.and_eq_true, decide_eq_true_eq] at ho; exact c ho.1.2
  case _ => unfold orgAt resOk at ho; simp only [Bool.and_eq_true, decide_eq_true_eq] at ho; have := ho.1.1.2; omega
  case _ =>
    rw [hprev h0]
    refine ⟨by omega, by omega, fun c => org_false hlt (fun ho => ?_), fun c2 => next ⟨⟨⟨⟨⟨⟨Classical.not_not.1 c1, by omega⟩, Classical.not_not.1 c4⟩, Classical.not_not.1 c5⟩, by omega⟩, Classical.not_not.1 c7⟩, Or.inr ?_⟩⟩
    · rcases ho.2 with ho | ho
      · omega
      · exact (strLt_not _ _).1 (c.imp id Eq.symm) ho
    · exact Classical.byContradiction fun hn => c2 (((strLt_not _ _).2 hn).imp id Eq.symm)
  case _ => exact ⟨⟨⟨⟨⟨⟨Classical.not_not.1 c1, by omega⟩, Classical.not_not.1 c4⟩, Classical.not_not.1 c5⟩, by omega⟩, Classical.not_not.1 c7⟩, Or.inl (by omega)⟩
end Go.Ev
end

section
/- Laws of the plain library: shards. -/
set_option linter.unusedVariables false
namespace Go.Ev
theorem impl_StoredOk_ok (a0 : Sto) (h : pStoredOk a0) : s_impl_StoredOk a0 (fun r => r = mStoredOk a0) := by
  have h1 : cz a0 ≤ 1048576 := h
  simp only [cz_pair] at h1
  have hs : cz a0.1 = a0.1.size := rfl
  have p1 : pUriOk a0.1 := by unfold pUriOk sm; omega
  have p2 : pResponseOk (a0.2.2.1, a0.2.2.2.1, a0.2.2.2.2.1) := by unfold pResponseOk md; simp only; omega
  unfold s_impl_StoredOk mStoredOk pIn
  grind
theorem spec_StoredOk_ok (a0 : Sto) (h : pStoredOk a0) : s_spec_StoredOk a0 (fun r => r = mStoredOk a0) := by
  have h1 : cz a0 ≤ 1048576 := h
  simp only [cz_pair] at h1
  have hs : cz a0.1 = a0.1.size := rfl
  have p1 : pUriOk a0.1 := by unfold pUriOk sm; omega
  have p2 : pResponseOk (a0.2.2.1, a0.2.2.2.1, a0.2.2.2.2.1) := by unfold pResponseOk md; simp only; omega
  unfold s_spec_StoredOk mStoredOk pIn
  grind
theorem sumN_take {l : List Nat} : ∀ {i : Nat} (h : i < l.length), sumN (l.take (i + 1)) = sumN (l.take i) + l[i] := by
  induction l with
  | nil => intro i h; simp at h
  | cons a l ih =>
    intro i h
    cases i with
    | zero => simp [sumN]
    | succ i =>
      have := ih (i := i) (by simpa using h)
      simp only [List.take_succ_cons, sumN, List.getElem_cons_succ] at this ⊢
      omega
theorem sumN_take_le {l : List Nat} : ∀ {i : Nat}, sumN (l.take i) ≤ sumN l := by
  induction l with
  | nil => intro i; simp
  | cons a l ih =>
    intro i
    cases i with
    | zero => simp [sumN]
    | succ i => have := ih (i := i); simp only [List.take_succ_cons, sumN] at this ⊢; omega
theorem bodies_le {r : List Slt} (h : cz r ≤ 1048576) : sumN (r.map fun x => x.2.2.2.2.1.size) ≤ 1048576 := by
  have key : ∀ r : List Slt, sumN (r.map fun x => x.2.2.2.2.1.size) ≤ sumN (r.map cz) := by
    intro r
    induction r with
    | nil => exact Nat.le_refl _
    | cons x r ih =>
      simp only [List.map_cons, sumN]
      have : x.2.2.2.2.1.size ≤ cz x := by simp only [cz_pair, cz_str]; omega
      omega
  have := key r
  rw [cz_list] at h
  omega
/-- The loop over the bodies. -/
def bodyB (r : List Slt) (Q : Int → Prop) (L : Int × Int → Prop) (y : Int × Int) : Prop :=
  (y.2 < (r.length : Int) → 0 ≤ y.2 ∧ y.2 < (r.length : Int) ∧ (L ((IntKind.i64.wrap (y.1 + ((rx r y.2).2.2.2.2.1.size : Int))), (IntKind.i64.wrap (y.2 + 1))))) ∧ (¬ (y.2 < (r.length : Int)) → (Q y.1))
theorem bodies_loop {r : List Slt} (h : cz r ≤ 1048576) {L : Int × Int → Prop} (hL : ∀ y, bodyB r (fun x => x = mBodies r) L y → L y) : L (0, 0) := by
  have hb := bodies_le h
  have hlen : r.length ≤ 1048576 := Nat.le_trans (cz_len r) h
  refine loopG hL r.length (fun i y => y.2 = (i : Int) ∧ y.1 = ((sumN ((r.map fun x => x.2.2.2.2.1.size).take i) : Nat) : Int)) (fun i y hi hI ih => ?_) ⟨rfl, by simp [sumN]⟩
  obtain ⟨h1, h2⟩ := hI
  have hle := sumN_take_le (l := r.map fun x => x.2.2.2.2.1.size) (i := i)
  unfold bodyB
  rw [h1, h2]
  refine ⟨fun hlt => ?_, fun hge => ?_⟩
  · have hlt : i < r.length := by omega
    have hle2 := sumN_take_le (l := r.map fun x => x.2.2.2.2.1.size) (i := i + 1)
    have hs := sumN_take (l := r.map fun x => x.2.2.2.2.1.size) (i := i) (by simpa using hlt)
    rw [List.getElem_map] at hs
    refine ⟨by omega, by omega, ih _ hlt ⟨?_, ?_⟩⟩
    · exact wrapS (by omega)
    · rw [rx_nat r i hlt, hs, wrap64 (by omega) (by omega)]; omega
  · have : i = r.length := by omega
    subst this
    rw [List.take_of_length_le (by simp)]; rfl
theorem impl_bodies_ok (a0 : List Slt) (h : pBodies a0) : s_impl_bodies a0 (fun r => r = mBodies a0) := fun L hL => bodies_loop h hL
theorem shd_ring {s : Shd} (h : md s) : cz s.2.2.1 ≤ 1048576 := by
  unfold md at h; simp only [cz_pair] at h; omega
theorem spec_l12Filled_ok (a0 : Shd) (h : pFilledS a0) : s_spec_l12Filled a0 (fun r => r = mFilledS a0) := fun L hL => bodies_loop (shd_ring h) hL
theorem alike_comm (a b : Sto) : mStandAlike a b = mStandAlike b a := by
  unfold mStandAlike
  rw [show (decide (a.1 = b.1)) = decide (b.1 = a.1) from decide_eq_decide.2 ⟨Eq.symm, Eq.symm⟩, show (decide (a.2.1 = b.2.1)) = decide (b.2.1 = a.2.1) from decide_eq_decide.2 ⟨Eq.symm, Eq.symm⟩]
theorem slt_md {r : List Slt} (h : cz r ≤ 1048576) {i : Nat} (hi : i < r.length) : md (stoOf (rx r (i : Int))) ∧ (rx r (i : Int)).2.1.length ≤ maxLen := by
  rw [rx_nat r i hi]
  have h1 := cz_mem (List.getElem_mem hi : r[i] ∈ r)
  have h2 := cz_len r[i].2.1
  unfold md stoOf
  simp only [cz_pair] at h1 ⊢
  simp only [maxLen]
  constructor <;> omega
/-- impl's loop over the ring. -/
def ringBodyI (r : List Slt) (Q : Bool → Prop) (E : Prop) (L : Int → Prop) (y1 : Int) : Prop :=
  (y1 < (r.length : Int) →
    0 ≤ y1 ∧
    y1 < (r.length : Int) ∧
    pStoredOk (stoOf (rx r y1)) ∧
    (¬ ((mStoredOk (stoOf (rx r y1))) = true) →
      (Q false)) ∧
    (¬ (¬ ((mStoredOk (stoOf (rx r y1))) = true)) →
      0 ≤ y1 ∧
      y1 ≤ (r.length : Int) ∧
      pContainsFunc_ShardOk_1 (r.take y1.toNat) (rx r y1) ∧
      ((mContainsFunc_ShardOk_1 (r.take y1.toNat) (rx r y1)) = true →
        (Q false)) ∧
      (¬ ((mContainsFunc_ShardOk_1 (r.take y1.toNat) (rx r y1)) = true) →
        (L (IntKind.i64.wrap (y1 + 1)))))) ∧
  (¬ (y1 < (r.length : Int)) → E)
def ringAt (r : List Slt) (i : Nat) : Prop := mStoredOk (stoOf (rx r (i : Int))) = true ∧ ∀ j, j < i → mStandAlike (stoOf (rx r (j : Int))) (stoOf (rx r (i : Int))) = false
theorem ring_has {r : List Slt} {i : Nat} (hi : i < r.length) : mContainsFunc_ShardOk_1 (r.take i) (rx r (i : Int)) = true ↔ ∃ j, j < i ∧ mStandAlike (stoOf (rx r (j : Int))) (stoOf (rx r (i : Int))) = true := by
  unfold mContainsFunc_ShardOk_1 mShardOk_1
  rw [List.any_eq_true]
  constructor
  · rintro ⟨y, hy, hs⟩
    obtain ⟨j, hj, rfl⟩ := List.mem_iff_getElem.1 hy
    have hj' : j < i := by simp at hj; omega
    refine ⟨j, hj', ?_⟩
    rw [alike_comm, rx_nat r j (by omega)]
    rw [List.getElem_take] at hs; exact hs
  · rintro ⟨j, hj, hs⟩
    refine ⟨(r.take i)[j]'(by simp; omega), List.getElem_mem _, ?_⟩
    rw [alike_comm, rx_nat r j (by omega)] at hs
    rw [List.getElem_take]; exact hs
theorem ring_impl {r : List Slt} (h : cz r ≤ 1048576) {Q : Bool → Prop} {E : Prop} (hf : ¬ ringFine r → Q false) (hE : ringFine r → E) {L : Int → Prop} (hL : ∀ y, ringBodyI r Q E L y → L y) : L 0 := by
  have hlen : r.length ≤ 1048576 := Nat.le_trans (cz_len r) h
  refine loopN hL r.length (by omega) (fun i => ∀ j, j < i → ringAt r j) (fun i hi hI ih => ?_) (fun j hj => by omega)
  refine ⟨fun hlt => ?_, fun hge => hE fun j hj => hI j (by omega)⟩
  have hlt : i < r.length := by omega
  obtain ⟨p1, p2⟩ := slt_md h hlt
  refine ⟨by omega, by omega, p1, fun c => hf fun ho => c (ho i hlt).1, fun c => ⟨by omega, by omega, ⟨by simp only [List.length_take, maxLen]; omega, p2⟩, fun c2 => hf fun ho => ?_, fun c2 => ?_⟩⟩
  · rw [Int.toNat_natCast] at c2
    obtain ⟨j, hj, hs⟩ := (ring_has hlt).1 c2
    rw [(ho i hlt).2 j hj] at hs
    cases hs
  · rw [Int.toNat_natCast] at c2
    refine ih hlt fun j hj => ?_
    by_cases e : j = i
    · subst e
      exact ⟨Classical.not_not.1 c, fun k hk => by
        rw [← Bool.not_eq_true]
        exact fun hs => c2 ((ring_has hlt).2 ⟨k, hk, hs⟩)⟩
    · exact hI j (by omega)
/-- spec's. -/
def ringBodyS2 (r : List Slt) (Q : Bool → Prop) (N : Int → Prop) (y1 : Int) (L : Int → Prop) (y3 : Int) : Prop :=
  (y3 < y1 →
    0 ≤ y3 ∧
    y3 < (r.length : Int) ∧
    0 ≤ y1 ∧
    y1 < (r.length : Int) ∧
    pStandAlike (stoOf (rx r y3)) (stoOf (rx r y1)) ∧
    ((mStandAlike (stoOf (rx r y3)) (stoOf (rx r y1))) = true →
      (Q false)) ∧
    (¬ ((mStandAlike (stoOf (rx r y3)) (stoOf (rx r y1))) = true) →
      (L (IntKind.i64.wrap (y3 + 1))))) ∧
  (¬ (y3 < y1) →
    (N (IntKind.i64.wrap (y1 + 1))))
def ringBodyS (r : List Slt) (Q : Bool → Prop) (L : Int → Prop) (y1 : Int) : Prop :=
  (y1 < (r.length : Int) →
    0 ≤ y1 ∧
    y1 < (r.length : Int) ∧
    pStoredOk (stoOf (rx r y1)) ∧
    (¬ ((mStoredOk (stoOf (rx r y1))) = true) →
      (Q false)) ∧
    (¬ (¬ ((mStoredOk (stoOf (rx r y1))) = true)) →
      (∀ L2 : (Int → Prop), (∀ y3, ringBodyS2 r Q L y1 L2 y3 → L2 y3) → L2 0))) ∧
  (¬ (y1 < (r.length : Int)) → Q true)
theorem ring_spec {r : List Slt} (h : cz r ≤ 1048576) {Q : Bool → Prop} (hf : ¬ ringFine r → Q false) (hE : ringFine r → Q true) {L : Int → Prop} (hL : ∀ y, ringBodyS r Q L y → L y) : L 0 := by
  have hlen : r.length ≤ 1048576 := Nat.le_trans (cz_len r) h
  refine loopN hL r.length (by omega) (fun i => ∀ j, j < i → ringAt r j) (fun i hi hI ih => ?_) (fun j hj => by omega)
  refine ⟨fun hlt => ?_, fun hge => hE fun j hj => hI j (by omega)⟩
  have hlt : i < r.length := by omega
  obtain ⟨p1, p2⟩ := slt_md h hlt
  refine ⟨by omega, by omega, p1, fun c => hf fun ho => c (ho i hlt).1, fun c => fun L2 hL2 => ?_⟩
  refine loopN hL2 i (by omega) (fun k => ∀ j, j < k → mStandAlike (stoOf (rx r (j : Int))) (stoOf (rx r (i : Int))) = false) (fun k hk hK ih2 => ?_) (fun j hj => by omega)
  refine ⟨fun hk1 => ?_, fun hk1 => ih hlt fun j hj => ?_⟩
  · have hk1 : k < i := by omega
    obtain ⟨q1, q2⟩ := slt_md h (show k < r.length by omega)
    refine ⟨by omega, by omega, by omega, by omega, q2, fun c2 => hf fun ho => ?_, fun c2 => ih2 hk1 fun j hj => ?_⟩
    · rw [(ho i hlt).2 k hk1] at c2; cases c2
    · by_cases e : j = k
      · subst e; rw [← Bool.not_eq_true]; exact c2
      · exact hK j (by omega)
  · by_cases e : j = i
    · subst e; exact ⟨Classical.not_not.1 c, fun j' hj' => hK j' (by omega)⟩
    · exact hI j (by omega)
open Classical in
theorem impl_ShardOk_ok (a0 : Shd) (h : pShardOk a0) : s_impl_ShardOk a0 (fun r => r = mShardOk a0) := by
  have hr := shd_ring h
  have hlen : a0.2.2.1.length ≤ 1048576 := Nat.le_trans (cz_len _) hr
  have hw : IntKind.i64.wrap ((a0.2.2.1.length : Int) - 1) = (a0.2.2.1.length : Int) - 1 := wrap64 (by omega) (by omega)
  unfold s_impl_ShardOk
  rw [hw]
  refine ⟨trivial, fun c => ?_, fun c1 => ⟨fun c => ?_, fun c2 => ⟨fun c3 => ⟨trivial, fun c => ?_, fun c4 => fun L hL => ring_impl (Q := fun r => r = mShardOk a0) (E := pBodies a0.2.2.1 ∧ decide (mBodies a0.2.2.1 ≤ a0.2.1) = mShardOk a0) hr ?_ ?_ hL⟩, fun c3 => fun L hL => ring_impl (Q := fun r => r = mShardOk a0) (E := pBodies a0.2.2.1 ∧ decide (mBodies a0.2.2.1 ≤ a0.2.1) = mShardOk a0) hr ?_ ?_ hL⟩⟩⟩
  · unfold mShardOk; rw [Bool.not_eq_true] at c; rw [c]; rfl
  · unfold mShardOk; rw [decide_eq_false (show ¬ (a0.2.2.1.length : Int) ≤ a0.1 by omega)]; simp
  · unfold mShardOk; rw [Bool.not_eq_true] at c; rw [c, decide_eq_false c3]; simp
  · intro hn; unfold mShardOk; rw [decide_eq_false hn]; simp
  · intro hn
    refine ⟨hr, ?_⟩
    unfold mShardOk; rw [decide_eq_true hn, Classical.not_not.1 c1, Classical.not_not.1 c4, decide_eq_true (show (a0.2.2.1.length : Int) ≤ a0.1 by omega)]; simp
  · intro hn; unfold mShardOk; rw [decide_eq_false hn]; simp
  · intro hn
    refine ⟨hr, ?_⟩
    unfold mShardOk; rw [decide_eq_true hn, Classical.not_not.1 c1, decide_eq_true (Classical.not_not.1 c3), decide_eq_true (show (a0.2.2.1.length : Int) ≤ a0.1 by omega)]; simp
open Classical in
theorem spec_ShardOk_ok (a0 : Shd) (h : pShardOk a0) : s_spec_ShardOk a0 (fun r => r = mShardOk a0) := by
  have hr := shd_ring h
  have hlen : a0.2.2.1.length ≤ 1048576 := Nat.le_trans (cz_len _) hr
  have hw : IntKind.i64.wrap ((a0.2.2.1.length : Int) - 1) = (a0.2.2.1.length : Int) - 1 := wrap64 (by omega) (by omega)
  unfold s_spec_ShardOk
  rw [hw]
  refine ⟨trivial, fun c => ?_, fun c1 => ⟨trivial, fun c => ?_, fun c1b => ⟨fun c => ?_, fun c2 => ⟨h, fun c => ?_, fun c5 => ⟨fun c3 => ⟨trivial, fun c => ?_, fun c4 => fun L hL => ring_spec (Q := fun r => r = mShardOk a0) hr ?_ ?_ hL⟩, fun c3 => fun L hL => ring_spec (Q := fun r => r = mShardOk a0) hr ?_ ?_ hL⟩⟩⟩⟩⟩
  · unfold mShardOk mShardSizes; rw [Bool.not_eq_true] at c; rw [c]; rfl
  · unfold mShardOk mShardSizes; rw [Bool.not_eq_true] at c; rw [c]; simp
  · unfold mShardOk; rw [decide_eq_false (show ¬ (a0.2.2.1.length : Int) ≤ a0.1 by omega)]; simp
  · unfold mFilledS at c; unfold mShardOk; rw [decide_eq_false (show ¬ mBodies a0.2.2.1 ≤ a0.2.1 by omega)]; simp
  · unfold mShardOk; rw [Bool.not_eq_true] at c; rw [c, decide_eq_false c3]; simp
  · intro hn; unfold mShardOk; rw [decide_eq_false hn]; simp
  · intro hn
    unfold mFilledS at c5
    unfold mShardOk mShardSizes; rw [decide_eq_true hn, Classical.not_not.1 c1, Classical.not_not.1 c1b, Classical.not_not.1 c4, decide_eq_true (show (a0.2.2.1.length : Int) ≤ a0.1 by omega), decide_eq_true (show mBodies a0.2.2.1 ≤ a0.2.1 by omega)]; simp
  · intro hn; unfold mShardOk; rw [decide_eq_false hn]; simp
  · intro hn
    unfold mFilledS at c5
    unfold mShardOk mShardSizes; rw [decide_eq_true hn, Classical.not_not.1 c1, Classical.not_not.1 c1b, decide_eq_true (Classical.not_not.1 c3), decide_eq_true (show (a0.2.2.1.length : Int) ≤ a0.1 by omega), decide_eq_true (show mBodies a0.2.2.1 ≤ a0.2.1 by omega)]; simp
theorem impl_Filled_ok (a0 : Shd) (h : pFilled a0) : s_impl_Filled a0 (fun r => r = mFilled a0) :=
  ⟨h, fun c => by unfold mFilled; rw [if_neg c], fun c => ⟨shd_ring h, by unfold mFilled; rw [if_pos (Classical.not_not.1 c)]⟩⟩
theorem spec_Filled_ok (a0 : Shd) (h : pFilled a0) : s_spec_Filled a0 (fun r => r = mFilled a0) :=
  ⟨h, fun c => by unfold mFilled; rw [if_neg c], fun c => ⟨h, by unfold mFilled; rw [if_pos (Classical.not_not.1 c)]; rfl⟩⟩
end Go.Ev
end

section
/- Laws of the plain library, fifth part: lists in texts. -/
set_option linter.unusedVariables false
namespace Go.Ev

theorem drop_cons' {α : Type} {l : List α} {i : Nat} (h : i < l.length) : l.drop i = l[i] :: l.drop (i + 1) := (List.getElem_cons_drop (h := h)).symm
theorem seg_succ {α : Type} {l : List α} {f i : Nat} (hf : f ≤ i) (h : i < l.length) : (l.take (i + 1)).drop f = (l.take i).drop f ++ [l[i]] := by
  rw [take_succ_app h, List.drop_append_of_le_length (by rw [List.length_take]; omega)]
theorem seg_all {α : Type} {l : List α} {f i : Nat} (hf : f ≤ i) (hi : i ≤ l.length) : (l.take i).drop f ++ l.drop i = l.drop f := by
  conv => rhs; rw [← List.take_append_drop i l]
  rw [List.drop_append_of_le_length (by rw [List.length_take]; omega)]
theorem commasL_nil (q : Bool) (i : Int) : commasL q i [] = [] := by cases q <;> rfl
theorem commasL_one (i : Int) (b : UInt8) : commasL true i [b] = [] := rfl
theorem commasL_in (i : Int) (b c : UInt8) (r : List UInt8) : commasL true i (b :: c :: r) = if b = 34 then commasL false (i + 1) (c :: r) else if b = 92 then commasL true (i + 2) r else commasL true (i + 1) (c :: r) := by rw [commasL]
theorem commasL_out (i : Int) (b : UInt8) (r : List UInt8) : commasL false i (b :: r) = if b = 34 then commasL true (i + 1) r else if b = 44 then i :: commasL false (i + 1) r else commasL false (i + 1) r := by rw [commasL]
/-- The parts, by the places of the commas. -/
def cutAt (l : List UInt8) : Nat → List Int → List (List UInt8)
  | f, [] => [l.drop f]
  | f, a :: az => (l.take a.toNat).drop f :: cutAt l (a.toNat + 1) az
def okC (n : Nat) : Nat → List Int → Prop
  | f, [] => f ≤ n
  | f, a :: az => (f : Int) ≤ a ∧ a < (n : Int) ∧ okC n (a.toNat + 1) az
theorem parts_cut (l : List UInt8) : ∀ (m : Nat) (q : Bool) (i f : Nat), i + m = l.length → f ≤ i →
    partsL q ((l.take i).drop f) (l.drop i) = cutAt l f (commasL q (i : Int) (l.drop i)) ∧ okC l.length f (commasL q (i : Int) (l.drop i)) := by
  intro m
  induction m using Nat.strongRecOn with
  | _ m ih =>
    intro q i f hi hf
    cases m with
    | zero =>
      have e : l.drop i = [] := List.drop_eq_nil_of_le (by omega)
      have e2 : l.take i = l := List.take_of_length_le (by omega)
      rw [e, partsL_nil, commasL_nil, e2]
      exact ⟨rfl, by show f ≤ l.length; omega⟩
    | succ m =>
      have hlt : i < l.length := by omega
      have hc := drop_cons' hlt
      have hs := seg_succ hf hlt
      have step := fun (q' : Bool) => ih m (by omega) q' (i + 1) f (by omega) (by omega)
      have hcast : ((i + 1 : Nat) : Int) = (i : Int) + 1 := by omega
      cases q with
      | false =>
        rw [hc, partsL_out, commasL_out, ← hs, ← hcast]
        split
        · exact step true
        · split
          · have h0 := ih m (by omega) false (i + 1) (i + 1) (by omega) (Nat.le_refl _)
            have e0 : (l.take (i + 1)).drop (i + 1) = [] := List.drop_eq_nil_of_le (by rw [List.length_take]; omega)
            rw [e0] at h0
            simp only [cutAt, okC, Int.toNat_natCast]
            exact ⟨by rw [h0.1], by omega, by omega, h0.2⟩
          · exact step false
      | true =>
        cases m with
        | zero =>
          have e : l.drop (i + 1) = [] := List.drop_eq_nil_of_le (by omega)
          have ha := seg_all hf (Nat.le_of_lt hlt)
          rw [hc, e] at ha
          rw [hc, e, partsL_one, commasL_one, ha]
          exact ⟨rfl, by show f ≤ l.length; omega⟩
        | succ m =>
          have hlt1 : i + 1 < l.length := by omega
          have hc1 := drop_cons' hlt1
          rw [hc, hc1, partsL_in, commasL_in, ← hc1, ← hs, ← hcast]
          split
          · exact step false
          · split
            · have h2 := ih m (by omega) true (i + 2) f (by omega) (by omega)
              have hs2 := seg_succ (f := f) (i := i + 1) (by omega) hlt1
              rw [hs, List.append_assoc] at hs2
              rw [show (l.take i).drop f ++ [l[i], l[i + 1]] = (l.take (i + 2)).drop f from hs2.symm, show (i : Int) + 2 = ((i + 2 : Nat) : Int) by omega]
              exact h2
            · exact step true
theorem trimmed_cons (p : List UInt8) (l : List (List UInt8)) : trimmed (p :: l) = if mTrim (ob p) ≠ lit [] then mTrim (ob p) :: trimmed l else trimmed l := by
  unfold trimmed
  rw [List.map_cons, List.filter_cons]
  split
  · next h => rw [if_pos (by simpa using h)]
  · next h => rw [if_neg (by simpa using h)]
theorem trimmed_nil : trimmed [] = [] := rfl
theorem ext_seg (s : S) (f a : Nat) : s.extract f a = ob (((bs s).take a).drop f) := by
  apply bs_inj
  rw [bs_extract, bs_ob, List.drop_take]
theorem byte_eq {s : S} {i : Nat} (h : i < s.size) (n : Nat) (hn : n < 256) : bt s (i : Int) = (n : Int) ↔ (bs s)[i]'(by rw [bs_len]; exact h) = UInt8.ofNat n := by
  rw [bt_nat s i h]
  constructor
  · intro e
    have e' : ((bs s)[i]'(by rw [bs_len]; exact h)).toNat = n := by omega
    rw [← e']; simp
  · intro e
    rw [e]
    simp
    omega
theorem commas_len : ∀ (q : Bool) (i : Int) (l : List UInt8), (commasL q i l).length ≤ l.length
  | q, i, [] => by rw [commasL_nil]; simp
  | true, i, [b] => by rw [commasL_one]; simp
  | true, i, b :: c :: r => by
    rw [commasL_in]
    have h1 := commas_len false (i + 1) (c :: r)
    have h2 := commas_len true (i + 2) r
    have h3 := commas_len true (i + 1) (c :: r)
    simp only [List.length_cons] at *
    split
    · omega
    · split <;> omega
  | false, i, b :: r => by
    rw [commasL_out]
    have h1 := commas_len true (i + 1) r
    have h2 := commas_len false (i + 1) r
    simp only [List.length_cons] at *
    split
    · omega
    · split
      · simp only [List.length_cons]; omega
      · omega

theorem impl_commas_ok (a0 : S) (h : pCommas a0) : s_impl_commas a0 (fun r => r = mCommas a0) := by
  unfold pCommas sm at h
  intro L hL
  have hl := bs_len a0
  refine loopI hL (fun y => ∃ i : Nat, y.2.2 = (i : Int) ∧ i ≤ a0.size + 1 ∧ y.1.length ≤ i ∧ (i ≤ a0.size → y.1 ++ commasL y.2.1 (i : Int) ((bs a0).drop i) = mCommas a0) ∧ (i = a0.size + 1 → y.1 = mCommas a0))
    (fun y => a0.size + 1 - y.2.2.toNat) (fun y hI ih => ?_) ([], false, 0) ⟨0, rfl, by omega, by simp, fun _ => rfl, fun h => by omega⟩
  obtain ⟨out, q, y3⟩ := y
  obtain ⟨i, hy, hi, hol, h1, h2⟩ := hI
  simp only at hy hol h1 h2 ⊢
  subst hy
  refine ⟨fun hlt => ?_, fun hge => ?_⟩
  · have hi2 : i < a0.size := by omega
    have hi3 : i < (bs a0).length := by omega
    have h1 := h1 (by omega)
    have hc := drop_cons' hi3
    have hw : IntKind.i64.wrap ((i : Int) + 1) = ((i + 1 : Nat) : Int) := wrapS (by omega)
    have hw2 : IntKind.i64.wrap (((i + 1 : Nat) : Int) + 1) = ((i + 2 : Nat) : Int) := by rw [wrapS (by omega)]
    have b34 : bt a0 (i : Int) = 34 ↔ _ := byte_eq hi2 34 (by omega)
    have b92 : bt a0 (i : Int) = 92 ↔ _ := byte_eq hi2 92 (by omega)
    have b44 : bt a0 (i : Int) = 44 ↔ _ := byte_eq hi2 44 (by omega)
    have next : ∀ (out' : List Int) (q' : Bool), out'.length ≤ i + 1 → out' ++ commasL q' ((i : Int) + 1) ((bs a0).drop (i + 1)) = mCommas a0 → L (out', q', ((i + 1 : Nat) : Int)) := fun out' q' hlen e =>
      ih _ ⟨i + 1, rfl, by omega, hlen, fun _ => by rw [← e]; congr 2, fun hh => by omega⟩ (by simp only [Int.toNat_natCast]; omega)
    rw [hw, hw2]
    rw [hc] at h1
    have hq34 : bt a0 (i : Int) = 34 → commasL q (i : Int) ((bs a0)[i] :: (bs a0).drop (i + 1)) = commasL (!q) ((i : Int) + 1) ((bs a0).drop (i + 1)) := fun e => by
      have e' := b34.1 e
      cases q with
      | false => rw [commasL_out, if_pos (by rw [e']; rfl)]; rfl
      | true =>
        cases hr : (bs a0).drop (i + 1) with
        | nil => rw [commasL_one, commasL_nil]
        | cons c r => rw [commasL_in, if_pos (by rw [e']; rfl)]; rfl
    have n34 : bt a0 (i : Int) ≠ 34 → ¬ (bs a0)[i] = 34 := fun e e' => e (b34.2 e')
    have n92 : bt a0 (i : Int) ≠ 92 → ¬ (bs a0)[i] = 92 := fun e e' => e (b92.2 e')
    have n44 : bt a0 (i : Int) ≠ 44 → ¬ (bs a0)[i] = 44 := fun e e' => e (b44.2 e')
    have plain_in : bt a0 (i : Int) ≠ 34 → bt a0 (i : Int) ≠ 92 → q = true → commasL q (i : Int) ((bs a0)[i] :: (bs a0).drop (i + 1)) = commasL q ((i : Int) + 1) ((bs a0).drop (i + 1)) := fun e1 e2 eq => by
      subst eq
      cases hr : (bs a0).drop (i + 1) with
      | nil => rw [commasL_one, commasL_nil]
      | cons c r => rw [commasL_in, if_neg (n34 e1), if_neg (n92 e2)]
    refine ⟨by omega, by omega, fun e34 => next _ _ (by omega) ?_, fun e34 => ⟨fun eq => ⟨by omega, by omega, fun e92 => ?_, fun e92 => ⟨fun nq => absurd eq nq, fun _ => next _ _ (by omega) ?_⟩⟩, fun nq => ⟨fun _ => ⟨by omega, by omega, fun e44 => ?_, fun e44 => next _ _ (by omega) ?_⟩, fun qq => absurd nq qq⟩⟩⟩
    · rw [← h1, hq34 e34]
      cases q <;> rfl
    · -- a byte behind a backslash is passed over
      have e' := b92.1 e92
      subst eq
      refine ih _ ⟨i + 2, rfl, by omega, by simp only; omega, fun hle => ?_, fun hle => ?_⟩ (by simp only [Int.toNat_natCast]; omega)
      · have hi4 : i + 1 < (bs a0).length := by omega
        rw [drop_cons' hi4, commasL_in, if_neg (n34 e34), if_pos (by rw [e']; rfl)] at h1
        rw [← h1]
        simp only
        congr 2
      · have : (bs a0).drop (i + 1) = [] := List.drop_eq_nil_of_le (by omega)
        rw [this, commasL_one] at h1
        simpa using h1
    · rw [← h1, plain_in e34 e92 eq]
    · have e' := b44.1 e44
      have hq : q = false := by simpa using nq
      subst hq
      rw [commasL_out, if_neg (n34 e34), if_pos (by rw [e']; rfl)] at h1
      refine ⟨by simp only [List.length_singleton]; omega, next _ _ (by simp only [List.length_append, List.length_singleton]; omega) ?_⟩
      rw [← h1]; simp
    · have hq : q = false := by simpa using nq
      subst hq
      rw [commasL_out, if_neg (n34 e34), if_neg (n44 e44)] at h1
      exact h1
  · have : i = a0.size ∨ i = a0.size + 1 := by omega
    rcases this with e | e
    · have h1 := h1 (by omega)
      have : (bs a0).drop i = [] := List.drop_eq_nil_of_le (by omega)
      rw [this, commasL_nil, List.append_nil] at h1
      exact h1
    · exact h2 e

theorem impl_SplitList_ok (a0 : S) (h : pSplitList a0) : s_impl_SplitList a0 (fun r => r = mSplitList a0) := by
  have h0 := h
  unfold pSplitList sm at h
  have hl := bs_len a0
  have hpc := parts_cut (bs a0) a0.size false 0 0 (by omega) (Nat.le_refl _)
  rw [List.drop_zero, hl] at hpc
  have hcl := commas_len false 0 (bs a0)
  have hC : mCommas a0 = commasL false (((0 : Nat) : Int)) (bs a0) := rfl
  have hM : mSplitList a0 = trimmed (cutAt (bs a0) 0 (mCommas a0)) := by
    unfold mSplitList
    rw [hC]
    exact congrArg trimmed hpc.1
  have hok : okC a0.size 0 (mCommas a0) := hpc.2
  have hclen : (mCommas a0).length ≤ a0.size := by rw [← hl]; exact hcl
  refine ⟨h0, by simp only [List.length_singleton]; omega, fun L hL => ?_⟩
  generalize mCommas a0 = C at hM hok hclen hL
  have hEl : (C ++ [(a0.size : Int)]).length = C.length + 1 := by simp
  refine loopG hL (C.length + 1) (fun k y => y.2.2 = (k : Int) ∧ y.1.length ≤ k ∧ (k ≤ C.length → ∃ f : Nat, y.2.1 = (f : Int) ∧ f ≤ a0.size ∧ okC a0.size f (C.drop k) ∧ y.1 ++ trimmed (cutAt (bs a0) f (C.drop k)) = mSplitList a0) ∧ (k = C.length + 1 → y.1 = mSplitList a0))
    (fun k y hk hI hn => ?_) (s0 := ([], 0, 0)) ⟨rfl, by simp, fun _ => ⟨0, rfl, by omega, hok, by rw [hM]; rfl⟩, fun h => by omega⟩
  obtain ⟨out, y2, y3⟩ := y
  simp only at hI ⊢
  obtain ⟨rfl, hol, h1, h2⟩ := hI
  rw [hEl]
  refine ⟨fun hlt => ?_, fun hge => h2 (by omega)⟩
  have hk2 : k ≤ C.length := by omega
  obtain ⟨f, rfl, hf, hokf, hout⟩ := h1 hk2
  have hw : IntKind.i64.wrap ((k : Int) + 1) = ((k + 1 : Nat) : Int) := wrapS (by omega)
  rw [hw]
  -- the end of this part
  have key : ∀ a : Nat, rx (C ++ [(a0.size : Int)]) (k : Int) = (a : Int) → f ≤ a → a ≤ a0.size →
      (∀ out' : List S, out' = (if mTrim (ob (((bs a0).take a).drop f)) ≠ lit [] then out ++ [mTrim (ob (((bs a0).take a).drop f))] else out) → L (out', ((a + 1 : Nat) : Int), ((k + 1 : Nat) : Int))) →
      0 ≤ (k : Int) ∧ (k : Int) < ((C.length + 1 : Nat) : Int) ∧ 0 ≤ (f : Int) ∧ (f : Int) ≤ rx (C ++ [(a0.size : Int)]) (k : Int) ∧ rx (C ++ [(a0.size : Int)]) (k : Int) ≤ (a0.size : Int) ∧
        pTrim (a0.extract ((f : Int).toNat) (rx (C ++ [(a0.size : Int)]) (k : Int)).toNat) ∧
        (mTrim (a0.extract ((f : Int).toNat) (rx (C ++ [(a0.size : Int)]) (k : Int)).toNat) ≠ lit [] →
          (out.length + [mTrim (a0.extract ((f : Int).toNat) (rx (C ++ [(a0.size : Int)]) (k : Int)).toNat)].length) * 16 ≤ 140737488355328 ∧
            L (out ++ [mTrim (a0.extract ((f : Int).toNat) (rx (C ++ [(a0.size : Int)]) (k : Int)).toNat)], IntKind.i64.wrap (rx (C ++ [(a0.size : Int)]) (k : Int) + 1), ((k + 1 : Nat) : Int))) ∧
        (¬ mTrim (a0.extract ((f : Int).toNat) (rx (C ++ [(a0.size : Int)]) (k : Int)).toNat) ≠ lit [] →
          L (out, IntKind.i64.wrap (rx (C ++ [(a0.size : Int)]) (k : Int) + 1), ((k + 1 : Nat) : Int))) := by
    intro a ha hfa has hcont
    rw [ha, Int.toNat_natCast, Int.toNat_natCast, wrapS (by omega), ext_seg]
    refine ⟨by omega, by omega, by omega, by omega, by omega, ?_, fun hne => ⟨by simp only [List.length_singleton]; omega, hcont _ (by rw [if_pos hne])⟩, fun hne => hcont _ (by rw [if_neg hne])⟩
    unfold pTrim sm
    rw [ob_size, List.length_drop, List.length_take]
    omega
  by_cases hkC : k < C.length
  · have hc := drop_cons' hkC
    rw [hc] at hokf hout
    simp only [okC] at hokf
    obtain ⟨o1, o2, o3⟩ := hokf
    have hrx : rx (C ++ [(a0.size : Int)]) (k : Int) = (C[k].toNat : Int) := by
      rw [rx_get _ (by rw [hEl]; omega), List.getElem_append_left hkC]; omega
    refine key C[k].toNat hrx (by omega) (by omega) fun out' ho => hn _ (by omega) ⟨rfl, ?_, fun _ => ⟨C[k].toNat + 1, rfl, by omega, o3, ?_⟩, fun h => by omega⟩
    · rw [ho]; split
      · simp only [List.length_append, List.length_singleton]; omega
      · simp only; omega
    · simp only [cutAt] at hout
      rw [trimmed_cons] at hout
      rw [ho, ← hout]
      split
      · simp
      · rfl
  · have hkeq : k = C.length := by omega
    have hdn : C.drop k = [] := List.drop_eq_nil_of_le (by omega)
    rw [hdn] at hout
    simp only [cutAt] at hout
    have hrx : rx (C ++ [(a0.size : Int)]) (k : Int) = (a0.size : Int) := by
      rw [rx_get _ (by rw [hEl]; omega), List.getElem_append_right (by omega)]
      simp [hkeq]
    refine key a0.size hrx hf (Nat.le_refl _) fun out' ho => hn _ (by omega) ⟨rfl, ?_, fun h => by omega, fun _ => ?_⟩
    · rw [ho]; split
      · simp only [List.length_append, List.length_singleton]; omega
      · simp only; omega
    · have e : (bs a0).take a0.size = bs a0 := List.take_of_length_le (by omega)
      rw [trimmed_cons, trimmed_nil] at hout
      rw [ho, ← hout, e]
      split
      · rfl
      · simp
end Go.Ev
end

section
/- Laws of the plain library: lists of parts, as spec takes them. -/
set_option linter.unusedVariables false
namespace Go.Ev
theorem partsL_end (q : Bool) (cur : List UInt8) : partsL q cur [] = [cur] := by cases q <;> rfl
theorem parts_q {l : List UInt8} {f i : Nat} (hf : f ≤ i) (h : i < l.length) : partsL true ((l.take i).drop f) (l.drop i) =
    if l[i] = 34 then partsL false ((l.take (i + 1)).drop f) (l.drop (i + 1))
    else if l[i] = 92 then (if i + 1 < l.length then partsL true ((l.take (i + 2)).drop f) (l.drop (i + 2)) else [l.drop f])
    else partsL true ((l.take (i + 1)).drop f) (l.drop (i + 1)) := by
  have hc := drop_cons' h
  have hs := seg_succ (f := f) hf h
  by_cases hl : i + 1 < l.length
  · have hc1 := drop_cons' hl
    have hs2 := seg_succ (f := f) (i := i + 1) (by omega) hl
    rw [hc, hc1, partsL_in, ← hc1, if_pos hl, hs]
    rw [hs, List.append_assoc] at hs2
    have hs2 : List.drop f (List.take (i + 2) l) = List.drop f (List.take i l) ++ [l[i], l[i + 1]] := hs2
    rw [hs2]
  · have hn : l.drop (i + 1) = [] := List.drop_eq_nil_of_le (by omega)
    have ha : (l.take (i + 1)).drop f = l.drop f := by rw [List.take_of_length_le (by omega)]
    rw [hc, hn, partsL_one, ← hs, partsL_end, partsL_end, if_neg hl, ha]
    split
    · rfl
    · split <;> rfl
theorem spec_SplitList_ok (a0 : S) (h : pSplitList a0) : s_spec_SplitList a0 (fun r => r = mSplitList a0) := by
  unfold pSplitList sm at h
  intro L hL
  have hl := bs_len a0
  refine loopI hL (fun y => ∃ f i : Nat, y.2.1 = (f : Int) ∧ y.2.2.2 = (i : Int) ∧ i ≤ a0.size + 1 ∧ y.1.length ≤ i ∧
      (i ≤ a0.size → f ≤ i ∧ y.1 ++ trimmed (partsL y.2.2.1 (((bs a0).take i).drop f) ((bs a0).drop i)) = mSplitList a0) ∧
      (i = a0.size + 1 → (f < a0.size → y.2.2.1 = true ∧ y.1 ++ trimmed [(bs a0).drop f] = mSplitList a0) ∧ (¬ f < a0.size → y.1 = mSplitList a0)))
    (fun y => a0.size + 1 - y.2.2.2.toNat) (fun y hI ih => ?_) ([], 0, false, 0) ⟨0, 0, rfl, rfl, by omega, by simp, fun _ => ⟨by omega, rfl⟩, fun h => by omega⟩
  obtain ⟨out, y2, q, y4⟩ := y
  obtain ⟨f, i, hy2, hy4, hi, hol, h1, h2⟩ := hI
  simp only at hy2 hy4 hol h1 h2 ⊢
  subst hy2; subst hy4
  have hsz : ∀ a b : Nat, pTrim (a0.extract a b) := fun a b => by
    unfold pTrim sm
    have := bs_len (a0.extract a b)
    rw [bs_extract, List.length_take, List.length_drop] at this
    omega
  have d0 : (0 : Int) ≤ (i : Int) := by omega
  have f0 : (0 : Int) ≤ (f : Int) := by omega
  have hcap : ∀ p : S, (out.length + [p].length) * 16 ≤ 140737488355328 := fun p => by simp only [List.length_singleton]; omega
  have hw : IntKind.i64.wrap ((i : Int) + 1) = ((i + 1 : Nat) : Int) := wrapS (by omega)
  have hw2 : IntKind.i64.wrap (((i + 1 : Nat) : Int) + 1) = ((i + 2 : Nat) : Int) := wrapS (by omega)
  by_cases hgt : i = a0.size + 1
  · obtain ⟨ha, hb⟩ := h2 hgt
    refine ⟨fun hle => by omega, fun _ => ⟨fun hf => ⟨fun hq => ⟨f0, by omega, hsz _ _, fun hp => ⟨hcap _, ?_⟩, fun hp => ?_⟩, fun hq => absurd (ha (by omega)).1 hq⟩, fun hf => hb (by omega)⟩⟩
    · have e := (ha (by omega)).2
      rw [Int.toNat_natCast] at hp ⊢
      rw [ext_seg, List.take_of_length_le (by omega)] at hp ⊢
      rw [trimmed_cons, trimmed_nil, if_pos hp] at e
      exact e
    · have e := (ha (by omega)).2
      rw [Int.toNat_natCast] at hp
      rw [ext_seg, List.take_of_length_le (by omega)] at hp
      rw [trimmed_cons, trimmed_nil, if_neg hp] at e
      simpa using e
  · obtain ⟨hfi, e⟩ := h1 (by omega)
    have d1 : (i : Int) ≤ (a0.size : Int) := by omega
    have hm : (if (a0.size : Int) < (i : Int) then (a0.size : Int) else (i : Int)) = (i : Int) := if_neg (by omega)
    have hfi' : (f : Int) ≤ (i : Int) := by omega
    by_cases hlt : i < a0.size
    · have d2 : (i : Int) < (a0.size : Int) := by omega
      have d3 : ¬ (a0.size : Int) ≤ (i : Int) := by omega
      have hi3 : i < (bs a0).length := by omega
      have hc := drop_cons' hi3
      have hs := seg_succ (l := bs a0) (f := f) (i := i) hfi hi3
      have b34 : bt a0 (i : Int) = 34 ↔ _ := byte_eq hlt 34 (by omega)
      have b92 : bt a0 (i : Int) = 92 ↔ _ := byte_eq hlt 92 (by omega)
      have b44 : bt a0 (i : Int) = 44 ↔ _ := byte_eq hlt 44 (by omega)
      have next : ∀ (out' : List S) (f' : Nat) (q' : Bool), out'.length ≤ i + 1 → f' ≤ i + 1 → out' ++ trimmed (partsL q' (((bs a0).take (i + 1)).drop f') ((bs a0).drop (i + 1))) = mSplitList a0 → L (out', (f' : Int), q', ((i + 1 : Nat) : Int)) := fun out' f' q' hlen hf' e' =>
        ih _ ⟨f', i + 1, rfl, rfl, by omega, hlen, fun _ => ⟨hf', e'⟩, fun hh => by omega⟩ (by simp only [Int.toNat_natCast]; omega)
      have hne1 : ((34 : Int) = 92) = False := by decide
      have hne2 : ((34 : Int) = 44) = False := by decide
      have hne3 : ((44 : Int) = 92) = False := by decide
      have hne4 : ((44 : Int) = 34) = False := by decide
      have hne5 : ((92 : Int) = 34) = False := by decide
      have hne6 : ((92 : Int) = 44) = False := by decide
      have piece : out ++ trimmed (partsL q (((bs a0).take i).drop f) ((bs a0).drop i)) = mSplitList a0 := e
      by_cases c34 : bt a0 (i : Int) = 34
      · have e34 := b34.1 c34
        cases q with
        | false =>
          rw [hc] at e
          simp only [d1, d2, d3, d0, hm, hw, hw2, c34, hne1, hne2, Bool.false_eq_true, not_false_eq_true, not_true_eq_false, true_implies, false_implies, true_and, and_true, decide_true, decide_false]
          rw [partsL_out, if_pos (by rw [e34]; rfl), ← hs] at e
          exact next out f true (by omega) (by omega) e
        | true =>
          simp only [d1, d2, d3, d0, hm, hw, hw2, c34, hne1, hne2, not_false_eq_true, not_true_eq_false, true_implies, false_implies, true_and, and_true, decide_true, decide_false]
          rw [parts_q hfi hi3, if_pos (by rw [e34]; rfl)] at e
          exact next out f false (by omega) (by omega) e
      · have n34 : ¬ (bs a0)[i] = 34 := fun h => c34 (b34.2 (by rw [h]; rfl))
        cases q with
        | true =>
          rw [parts_q hfi hi3, if_neg n34] at e
          by_cases c92 : bt a0 (i : Int) = 92
          · have e92 := b92.1 c92
            simp only [d1, d2, d3, d0, hm, hw, hw2, c92, hne5, hne6, not_false_eq_true, not_true_eq_false, true_implies, false_implies, true_and, and_true, decide_true, decide_false]
            rw [if_pos (by rw [e92]; rfl)] at e
            refine ih (out, (f : Int), true, ((i + 2 : Nat) : Int)) ⟨f, i + 2, rfl, rfl, by omega, (by show out.length ≤ i + 2; omega), fun hle => ⟨by omega, ?_⟩, fun heq => ⟨fun _ => ⟨rfl, ?_⟩, fun hn => absurd (by omega) hn⟩⟩ (by simp only [Int.toNat_natCast]; omega)
            · rw [if_pos (by omega)] at e; exact e
            · rw [if_neg (by omega)] at e; exact e
          · have n92 : ¬ (bs a0)[i] = 92 := fun h => c92 (b92.2 (by rw [h]; rfl))
            rw [if_neg n92] at e
            by_cases c44 : bt a0 (i : Int) = 44
            · simp only [d1, d2, d3, d0, hm, hw, hw2, c44, hne3, hne4, not_false_eq_true, not_true_eq_false, true_implies, false_implies, true_and, and_true, decide_true, decide_false]
              exact next out f true (by omega) (by omega) e
            · simp only [d1, d2, d3, d0, hm, hw, hw2, c34, c92, c44, not_false_eq_true, not_true_eq_false, true_implies, false_implies, true_and, and_true, decide_true, decide_false]
              exact next out f true (by omega) (by omega) e
        | false =>
          rw [hc, partsL_out, if_neg n34] at e
          by_cases c44 : bt a0 (i : Int) = 44
          · have e44 := b44.1 c44
            rw [if_pos (by rw [e44]; rfl), trimmed_cons] at e
            simp only [d1, d2, d3, d0, f0, hfi', hm, hw, hw2, c44, hne3, hne4, hsz, hcap, Bool.false_eq_true, not_false_eq_true, not_true_eq_false, true_implies, false_implies, true_and, and_true, decide_true, decide_false, Int.toNat_natCast]
            have hn : ((bs a0).take (i + 1)).drop (i + 1) = [] := List.drop_eq_nil_of_le (by rw [List.length_take]; omega)
            refine ⟨fun hp => ?_, fun hp => ?_⟩
            · rw [ext_seg] at hp ⊢
              rw [if_pos hp] at e
              exact next _ (i + 1) false (by simp only [List.length_append, List.length_singleton]; omega) (by omega) (by rw [hn, List.append_assoc]; exact e)
            · rw [ext_seg] at hp
              rw [if_neg hp] at e
              exact next _ (i + 1) false (by omega) (by omega) (by rw [hn]; exact e)
          · have n44 : ¬ (bs a0)[i] = 44 := fun h => c44 (b44.2 (by rw [h]; rfl))
            rw [if_neg n44, ← hs] at e
            simp only [d1, d2, d3, d0, hm, hw, hw2, c34, c44, Bool.false_eq_true, not_false_eq_true, not_true_eq_false, true_implies, false_implies, true_and, and_true, decide_true, decide_false]
            exact next out f false (by omega) (by omega) e
    · have hie : i = a0.size := by omega
      subst hie
      have hn : (bs a0).drop a0.size = [] := List.drop_eq_nil_of_le (by omega)
      rw [hn, partsL_end, trimmed_cons, trimmed_nil] at e
      have d2 : ¬ (a0.size : Int) < (a0.size : Int) := by omega
      have d3 : (a0.size : Int) ≤ (a0.size : Int) := by omega
      simp only [d1, d2, d3, d0, f0, hfi', hm, hw, hsz, hcap, not_false_eq_true, not_true_eq_false, true_implies, false_implies, true_and, and_true, Int.toNat_natCast, if_false]
      have fin : ∀ out' : List S, out'.length ≤ a0.size + 1 → out' = mSplitList a0 → L (out', ((a0.size + 1 : Nat) : Int), q, ((a0.size + 1 : Nat) : Int)) := fun out' hlen e' =>
        ih _ ⟨a0.size + 1, a0.size + 1, rfl, rfl, by omega, hlen, fun hh => by omega, fun _ => ⟨fun hh => by omega, fun _ => e'⟩⟩ (by simp only [Int.toNat_natCast]; omega)
      refine ⟨fun hp => ?_, fun hp => ?_⟩
      · rw [ext_seg] at hp ⊢
        rw [if_pos hp] at e
        exact fin _ (by simp only [List.length_append, List.length_singleton]; omega) e
      · rw [ext_seg] at hp
        rw [if_neg hp] at e
        exact fin _ (by omega) (by simpa using e)
end Go.Ev
end

section
/- Laws of the plain library: directives. -/
set_option linter.unusedVariables false
namespace Go.Ev
theorem index_first {l : List UInt8} {c : UInt8} {k : Nat} (hk : l[k]? = some c) (hf : ∀ j, j < k → l[j]? ≠ some c) : Lib.indexByte l c = (k : Int) := by
  have hge := Lib.indexByte_ge l c
  by_cases hn : Lib.indexByte l c = -1
  · exact absurd hk (Lib.indexByte_none hn k)
  · obtain ⟨o, ho⟩ : ∃ o : Nat, Lib.indexByte l c = (o : Int) := ⟨(Lib.indexByte l c).toNat, by omega⟩
    obtain ⟨h1, h2⟩ := Lib.indexByte_some ho
    rcases Nat.lt_trichotomy o k with h | h | h
    · exact absurd h1 (hf o h)
    · rw [ho, h]
    · exact absurd hk (h2 k h)
theorem index_not {l : List UInt8} {c : UInt8} (hf : ∀ j, j < l.length → l[j]? ≠ some c) : Lib.indexByte l c = -1 := by
  have hge := Lib.indexByte_ge l c
  by_cases hn : Lib.indexByte l c = -1
  · exact hn
  · obtain ⟨o, ho⟩ : ∃ o : Nat, Lib.indexByte l c = (o : Int) := ⟨(Lib.indexByte l c).toNat, by omega⟩
    obtain ⟨h1, h2⟩ := Lib.indexByte_some ho
    exact absurd h1 (hf o (List.getElem?_eq_some_iff.1 h1).1)
theorem cut_at {p : S} {k : Nat} (hk : k < p.size) (hb : bt p (k : Int) = 61) (hf : ∀ j, j < k → bt p (j : Int) ≠ 61) : (mCut p (lit [61])).1 = p.extract 0 k ∧ (mCut p (lit [61])).2.1 = p.extract (k + 1) p.size := by
  have hl := bs_len p
  have e : Lib.index (bs p) (bs (lit [61])) = (k : Int) := by
    rw [show bs (lit [61]) = [61] from rfl, Lib.index_one]
    refine index_first ?_ fun j hj hh => ?_
    · rw [List.getElem?_eq_getElem (by omega), (byte_eq hk 61 (by omega)).1 hb]; rfl
    · rw [List.getElem?_eq_getElem (by omega)] at hh
      exact hf j hj ((byte_eq (by omega) 61 (by omega)).2 (Option.some.inj hh))
  unfold mCut Lib.cut
  rw [e, if_pos (by omega)]
  refine ⟨bs_inj ?_, bs_inj ?_⟩
  · rw [bs_ob, bs_extract]; simp
  · rw [bs_ob, bs_extract]
    show (bs p).drop ((k : Int).toNat + 1) = _
    rw [Int.toNat_natCast]
    exact (List.take_of_length_le (by rw [List.length_drop]; omega)).symm
theorem cut_none {p : S} (hf : ∀ j, j < p.size → bt p (j : Int) ≠ 61) : (mCut p (lit [61])).1 = p.extract 0 p.size ∧ (mCut p (lit [61])).2.1 = lit [] := by
  have hl := bs_len p
  have e : Lib.index (bs p) (bs (lit [61])) = -1 := by
    rw [show bs (lit [61]) = [61] from rfl, Lib.index_one]
    refine index_not fun j hj hh => ?_
    rw [List.getElem?_eq_getElem hj] at hh
    exact hf j (by omega) ((byte_eq (by omega) 61 (by omega)).2 (Option.some.inj hh))
  unfold mCut Lib.cut
  rw [e, if_neg (by omega)]
  refine ⟨bs_inj ?_, rfl⟩
  rw [bs_ob, bs_extract, List.drop_zero, List.take_of_length_le (by omega)]
theorem cut_sizes (p : S) : (mCut p (lit [61])).1.size ≤ p.size ∧ (mCut p (lit [61])).2.1.size ≤ p.size := by
  have hl := bs_len p
  unfold mCut Lib.cut
  split
  · simp only [ob_size, List.length_take, List.length_drop]; omega
  · simp only [ob_size, List.length_nil]; omega
theorem extract_size (p : S) (a b : Nat) : (p.extract a b).size ≤ p.size := by
  have := bs_len (p.extract a b)
  have hl := bs_len p
  rw [bs_extract, List.length_take, List.length_drop] at this
  omega
/-- What is gathered from parts. -/
theorem gather {parts : List S} (hn : parts.length ≤ 1073741824) {B L : List Fld × Int → Prop} (hL : ∀ y, B y → L y)
    (step : ∀ (out : List Fld) (i : Nat) (hi : i < parts.length), out.length ≤ i → (dirOf parts[i] = none → L (out, IntKind.i64.wrap ((i : Int) + 1))) → (∀ d, dirOf parts[i] = some d → L (out ++ [d], IntKind.i64.wrap ((i : Int) + 1))) → B (out, (i : Int)))
    (fin : B (parts.filterMap dirOf, (parts.length : Int))) : L ([], 0) := by
  refine loopG hL parts.length (fun i y => y.2 = (i : Int) ∧ y.1.length ≤ i ∧ y.1 ++ (parts.drop i).filterMap dirOf = parts.filterMap dirOf) (fun i y hi hI ih => ?_) ⟨rfl, by simp, rfl⟩
  obtain ⟨out, y2⟩ := y
  obtain ⟨h1, h2, h3⟩ := hI
  simp only at h1 h2 h3
  subst h1
  by_cases hlt : i < parts.length
  · have hw : IntKind.i64.wrap ((i : Int) + 1) = ((i + 1 : Nat) : Int) := wrapS (by omega)
    rw [drop_cons' hlt] at h3
    refine step out i hlt h2 (fun hd => ?_) (fun d hd => ?_)
    · rw [List.filterMap_cons_none hd] at h3
      exact ih _ hlt ⟨hw, by simp only; omega, h3⟩
    · rw [List.filterMap_cons_some hd] at h3
      exact ih _ hlt ⟨hw, by simp only [List.length_append, List.length_singleton]; omega, by simp only [List.append_assoc]; exact h3⟩
  · have hie : i = parts.length := by omega
    subst hie
    rw [List.drop_eq_nil_of_le (Nat.le_refl _)] at h3
    have h3 : out = parts.filterMap dirOf := by simpa using h3
    rw [h3]; exact fin
theorem unq_pos {b : S} (h1 : 2 ≤ (b.size : Int)) (h2 : bt b 0 = 34) (h3 : bt b ((b.size : Int) - 1) = 34) : b.extract 1 (b.size - 1) = mL7Unquote b := by
  unfold mL7Unquote; rw [if_pos ⟨h1, h2, h3⟩]
theorem unq_neg {b : S} (h : ¬ (2 ≤ (b.size : Int) ∧ bt b 0 = 34 ∧ bt b ((b.size : Int) - 1) = 34)) : b = mL7Unquote b := by
  unfold mL7Unquote; rw [if_neg h]
theorem impl_Directives_ok (a0 : List Fld) (h : pDirectives a0) : s_impl_Directives a0 (fun r => r = mDirectives a0) := by
  have hg := fieldGet_size a0 nameCC h
  refine ⟨h, by unfold pSplitList sm; exact Nat.le_trans hg (by omega), ?_⟩
  have hb := splitList_bound (mFieldGet a0 nameCC).1
  have hm : ∀ x ∈ mSplitList (mFieldGet a0 nameCC).1, x.size ≤ 3 * 1048576 := fun x hx => Nat.le_trans (splitList_mem hx) hg
  have ht : (mSplitList (mFieldGet a0 nameCC).1).filterMap dirOf = mDirectives a0 := rfl
  intro L hL
  have hlen : (mSplitList (mFieldGet a0 nameCC).1).length ≤ 1073741824 := by omega
  refine gather (parts := mSplitList (mFieldGet a0 nameCC).1) hlen hL (fun out i hi hol hnone hsome => ?_) ?_
  · unfold nameCC at *
    generalize mSplitList (mFieldGet a0 (lit [99, 97, 99, 104, 101, 45, 99, 111, 110, 116, 114, 111, 108])).1 = parts at *
    have hp := hm parts[i] (List.getElem_mem hi)
    have hc := cut_sizes parts[i]
    simp only [rx_nat parts i hi]
    unfold dirOf at hnone hsome
    generalize (mCut parts[i] (lit [61])).1 = a at *
    generalize (mCut parts[i] (lit [61])).2.1 = b at *
    refine ⟨fun _ => ⟨by omega, by omega, by unfold pCut sm; omega, by unfold pIsTokenText sm; omega, fun ct => hnone (if_neg ct), fun ct => ?_⟩, fun hn => absurd (by omega) hn⟩
    have hsome := hsome _ (if_pos (Classical.not_not.1 ct))
    have hcap : ∀ d : Fld, (out.length + [d].length) * 32 ≤ 140737488355328 := fun d => by simp only [List.length_singleton]; omega
    have hlow : pLower a := by unfold pLower sm; omega
    refine ⟨fun h2 => ?_, fun h2 => ⟨hlow, hcap _, by rw [← unq_neg (fun hh => h2 hh.1)] at hsome; exact hsome⟩⟩
    have hw : IntKind.i64.wrap ((b.size : Int) - 1) = (b.size : Int) - 1 := wrap64 (by omega) (by omega)
    rw [hw]
    refine ⟨by omega, by omega, fun h3 => ⟨by omega, by omega, fun h4 => ⟨by omega, by omega, by omega, hlow, hcap _, ?_⟩, fun h4 => ⟨hlow, hcap _, ?_⟩⟩, fun h3 => ⟨hlow, hcap _, ?_⟩⟩
    · rw [← unq_pos h2 h3 h4] at hsome
      rw [show ((b.size : Int) - 1).toNat = b.size - 1 by omega]
      exact hsome
    · rw [← unq_neg (fun hh => h4 hh.2.2)] at hsome; exact hsome
    · rw [← unq_neg (fun hh => h3 hh.2.1)] at hsome; exact hsome
  · exact ⟨fun hh => absurd hh (by unfold nameCC; omega), fun _ => ht⟩
theorem spec_Directives_ok (a0 : List Fld) (h : pDirectives a0) : s_spec_Directives a0 (fun r => r = mDirectives a0) := by
  have hg := fieldGet_size a0 nameCC h
  refine ⟨h, by unfold pSplitList sm; exact Nat.le_trans hg (by omega), ?_⟩
  have hb := splitList_bound (mFieldGet a0 nameCC).1
  have hm : ∀ x ∈ mSplitList (mFieldGet a0 nameCC).1, x.size ≤ 3 * 1048576 := fun x hx => Nat.le_trans (splitList_mem hx) hg
  have ht : (mSplitList (mFieldGet a0 nameCC).1).filterMap dirOf = mDirectives a0 := rfl
  intro L hL
  have hlen : (mSplitList (mFieldGet a0 nameCC).1).length ≤ 1073741824 := by omega
  refine gather (parts := mSplitList (mFieldGet a0 nameCC).1) hlen hL (fun out i hi hol hnone hsome => ?_) ?_
  · unfold nameCC at *
    generalize mSplitList (mFieldGet a0 (lit [99, 97, 99, 104, 101, 45, 99, 111, 110, 116, 114, 111, 108])).1 = parts at *
    have hp := hm parts[i] (List.getElem_mem hi)
    simp only [rx_nat parts i hi]
    unfold dirOf at hnone hsome
    generalize parts[i] = p at *
    refine ⟨fun _ => ⟨by omega, by omega, fun L2 hL2 => ?_⟩, fun hn => absurd (by omega) hn⟩
    have hcap : ∀ d : Fld, (out.length + [d].length) * 32 ≤ 140737488355328 := fun d => by simp only [List.length_singleton]; omega
    have tok : ∀ a b, pIsTokenText (p.extract a b) := fun a b => by have := extract_size p a b; unfold pIsTokenText sm; omega
    have low : ∀ a b, pLower (p.extract a b) := fun a b => by have := extract_size p a b; unfold pLower sm; omega
    have unq : ∀ a b, pL7Unquote (p.extract a b) := fun a b => by have := extract_size p a b; unfold pL7Unquote sm; omega
    refine loopN hL2 p.size (by omega) (fun k => ∀ j, j < k → bt p (j : Int) ≠ 61) (fun k hk hI ih => ?_) (fun j hj => by omega)
    have hwk : k < p.size → IntKind.i64.wrap ((k : Int) + 1) = ((k + 1 : Nat) : Int) := fun _ => wrapS (by omega)
    refine ⟨fun hlt => ?_, fun hge => ?_⟩
    · have hlt : k < p.size := by omega
      refine ⟨by omega, by omega, fun h61 => ih hlt fun j hj => ?_, fun h61 => ?_⟩
      · by_cases e : j = k
        · subst e; exact h61
        · exact hI j (by omega)
      · obtain ⟨e1, e2⟩ := cut_at hlt (Classical.not_not.1 h61) hI
        rw [e1] at hnone hsome
        rw [e2] at hsome
        rw [hwk hlt, Int.toNat_natCast, Int.toNat_natCast]
        refine ⟨by omega, by omega, tok _ _, fun ct => hnone (if_neg ct), fun ct => ⟨by omega, by omega, low _ _, fun _ => ⟨by omega, by omega, unq _ _, hcap _, hsome _ (if_pos (Classical.not_not.1 ct))⟩, fun hh => absurd (by omega) hh⟩⟩
    · have hke : k = p.size := by omega
      subst hke
      obtain ⟨e1, e2⟩ := cut_none hI
      rw [e1] at hnone hsome
      rw [e2] at hsome
      have hu : mL7Unquote (lit []) = lit [] := (unq_neg (fun hh => by have := hh.1; have h0 : (lit []).size = 0 := rfl; omega)).symm
      rw [hu] at hsome
      rw [Int.toNat_natCast]
      refine ⟨by omega, by omega, tok _ _, fun ct => hnone (if_neg ct), fun ct => ⟨by omega, by omega, low _ _, fun hh => absurd hh (by omega), fun _ => ⟨hcap _, hsome _ (if_pos (Classical.not_not.1 ct))⟩⟩⟩
  · exact ⟨fun hh => absurd hh (by unfold nameCC; omega), fun _ => ht⟩
end Go.Ev
end

section
/- Laws of the plain library: what may be stored, what may be shared. -/
set_option linter.unusedVariables false
namespace Go.Ev
theorem md_req' {q : Req} (h : md q) : md q.2.2.1 := by
  unfold md at h ⊢; simp only [cz_pair] at h; omega
theorem md_rsp' {r : Rsp} (h : md r) : md r.2.1 := by
  unfold md at h ⊢; simp only [cz_pair] at h; omega
theorem impl_itsOwn_ok (a0 : Req) (h : pItsOwn a0) : s_impl_itsOwn a0 (fun r => r = mItsOwn a0) := by
  have h : md a0.2.2.1 := h
  unfold s_impl_itsOwn mItsOwn sGET sAuth sNone sSince sNoStore sNoCache
  simp only [pHasField, pCcHas, h, true_and]
  (repeat' first | apply And.intro | intro _) <;> simp_all
theorem spec_l16Own_ok (a0 : Req) (h : pItsOwn a0) : s_spec_l16Own a0 (fun r => r = mItsOwn a0) := by
  have h : md a0.2.2.1 := h
  unfold s_spec_l16Own mItsOwn mHasField sGET sAuth sNone sSince sNoStore sNoCache
  simp only [pFieldGet, pCcHas, h, true_and]
  (repeat' first | apply And.intro | intro _) <;> simp_all
theorem impl_MayShare_ok (a0 : Req) (a1 : Flt) (a2 : Int) (h : pMayShare a0 a1 a2) : s_impl_MayShare a0 a1 a2 (fun r => r = mMayShare a0 a1 a2) := by
  obtain ⟨h0, h1⟩ := h
  have q0 := md_req' h0
  have h1' : cz a1 ≤ 1048576 := h1
  simp only [cz_pair] at h1'
  have p1 : pPicked (fltReq a1) (fltRsp a1) := by unfold pPicked md fltReq fltRsp; simp only; omega
  have p2 : pVaryFits a0 (fltRsp a1) (mPicked (fltReq a1) (fltRsp a1)) := by
    refine ⟨q0, ?_⟩
    unfold md fltRsp; simp only; omega
  have p3 : pItsOwn a0 := q0
  refine ⟨fun c1 => ⟨fun c2 => ⟨fun c3 => ⟨p1, p2, fun c4 => ⟨p3, ?_⟩, fun c4 => ?_⟩, fun c3 => ?_⟩, fun c2 => ?_⟩, fun c1 => ?_⟩
  · unfold mMayShare
    rw [Bool.not_eq_true] at c1
    rw [c1, c2, c3, show mVaryFits a0 (fltRsp a1) (mPicked (fltReq a1) (fltRsp a1)) = true from c4]
    cases mItsOwn a0 <;> rfl
  · unfold mMayShare
    rw [show mVaryFits a0 (fltRsp a1) (mPicked (fltReq a1) (fltRsp a1)) = false from (Bool.not_eq_true _).mp c4]
    simp
  · unfold mMayShare; rw [Bool.not_eq_true] at c3; rw [c3]; simp
  · unfold mMayShare; rw [Bool.not_eq_true] at c2; rw [c2]; simp
  · unfold mMayShare; rw [Classical.not_not.1 c1]; simp
theorem spec_MayShare_ok (a0 : Req) (a1 : Flt) (a2 : Int) (h : pMayShare a0 a1 a2) : s_spec_MayShare a0 a1 a2 (fun r => r = mMayShare a0 a1 a2) := impl_MayShare_ok a0 a1 a2 h
theorem storable_pre {r : Rsp} (h : md r) : md r.2.1 ∧ pFieldGet r.2.1 (lit [118, 97, 114, 121]) ∧ pSplitList (mFieldGet r.2.1 (lit [118, 97, 114, 121])).1 ∧ pContains_string (mSplitList (mFieldGet r.2.1 (lit [118, 97, 114, 121])).1) (lit [42]) := by
  have hr := md_rsp' h
  have hg := fieldGet_size r.2.1 (lit [118, 97, 114, 121]) hr
  have hb := splitList_bound (mFieldGet r.2.1 (lit [118, 97, 114, 121])).1
  exact ⟨hr, hr, by unfold pSplitList sm; omega, by unfold pContains_string; simp only [maxLen]; omega⟩
theorem impl_Storable_ok (a0 : Req) (a1 : Rsp) (h : pStorable a0 a1) : s_impl_Storable a0 a1 (fun r => r = mStorable a0 a1) := by
  obtain ⟨h0, h1⟩ := h
  have hq := md_req' h0
  obtain ⟨hr, p1, p2, p3⟩ := storable_pre h1
  have p4 : pResponseOk a1 := hr
  unfold s_impl_Storable mStorable sGET sNoStore sPrivate sVary sAuth sPublic sSMaxAge sMust sMaxAge sExpires
  simp only [pStorable_1, pCcHas, pHasField, pHeuristic, hq, hr, p1, p2, p3, p4, true_and, mStorable_1]
  generalize mContains_string (mSplitList (mFieldGet a1.2.1 (lit [118, 97, 114, 121])).1) (lit [42]) = b1
  generalize mCcHas a0.2.2.1 (lit [110, 111, 45, 115, 116, 111, 114, 101]) = b2
  generalize mCcHas a1.2.1 (lit [110, 111, 45, 115, 116, 111, 114, 101]) = b3
  generalize mCcHas a1.2.1 (lit [112, 114, 105, 118, 97, 116, 101]) = b4
  generalize mHasField a0.2.2.1 (lit [97, 117, 116, 104, 111, 114, 105, 122, 97, 116, 105, 111, 110]) = b5
  generalize mCcHas a1.2.1 (lit [112, 117, 98, 108, 105, 99]) = b6
  generalize mCcHas a1.2.1 (lit [115, 45, 109, 97, 120, 97, 103, 101]) = b7
  generalize mCcHas a1.2.1 (lit [109, 117, 115, 116, 45, 114, 101, 118, 97, 108, 105, 100, 97, 116, 101]) = b8
  generalize mCcHas a1.2.1 (lit [109, 97, 120, 45, 97, 103, 101]) = b9
  generalize mHasField a1.2.1 (lit [101, 120, 112, 105, 114, 101, 115]) = b10
  generalize mHeuristic a1.1 = b11
  generalize mResponseOk a1 = b12
  (repeat' first | apply And.intro | intro _) <;> simp_all
theorem spec_Storable_ok (a0 : Req) (a1 : Rsp) (h : pStorable a0 a1) : s_spec_Storable a0 a1 (fun r => r = mStorable a0 a1) := by
  obtain ⟨h0, h1⟩ := h
  have hq := md_req' h0
  obtain ⟨hr, p1, p2, p3⟩ := storable_pre h1
  have p4 : pResponseOk a1 := hr
  have hlen : (mSplitList (mFieldGet a1.2.1 (lit [118, 97, 114, 121])).1).length ≤ maxLen := p3
  refine ⟨fun c => ?_, fun c0 => ⟨fun c => ?_, fun c1 => ⟨p4, fun c => ?_, fun c2 => ⟨hq, fun c => ?_, fun c3 => ⟨hr, fun c => ?_, fun c4 => ⟨hr, fun c => ?_, fun c5 => ⟨hr, p2,
    scanT_ok (xs := mSplitList (mFieldGet a1.2.1 (lit [118, 97, 114, 121])).1) (C := fun x => x = lit [42]) (Qh := fun _ => false = mStorable a0 a1) hlen (fun i hi hc _ => ?_) (fun hx => ?_)⟩⟩⟩⟩⟩⟩⟩
  · simp [mStorable, sGET, c]
  · simp [mStorable, c]
  · rw [Bool.not_eq_true] at c; simp [mStorable, c]
  · simp [mStorable, sNoStore, c]
  · simp [mStorable, sNoStore, c]
  · simp [mStorable, sPrivate, c]
  · have hb : mContains_string (mSplitList (mFieldGet a1.2.1 (lit [118, 97, 114, 121])).1) (lit [42]) = true := any_true hi (by rw [hc]; simp)
    simp [mStorable, sVary, hb]
  · have hb : mContains_string (mSplitList (mFieldGet a1.2.1 (lit [118, 97, 114, 121])).1) (lit [42]) = false := List.any_eq_false.2 fun x hm => by have := hx x hm; simpa using fun e => this e.symm
    have c2' := Classical.not_not.1 c2
    have c0' := Classical.not_not.1 c0
    rw [Bool.not_eq_true] at c3 c4 c5
    unfold mStorable mHasField sGET sNoStore sPrivate sVary sAuth sPublic sSMaxAge sMust sMaxAge sExpires
    rw [hb, c2', c3, c4, c5, decide_eq_true c0', decide_eq_false c1]
    simp only [pFieldGet, pCcHas, pHeuristic, hq, hr, true_and]
    generalize (mFieldGet a0.2.2.1 (lit [97, 117, 116, 104, 111, 114, 105, 122, 97, 116, 105, 111, 110])).2 = b5
    generalize mCcHas a1.2.1 (lit [112, 117, 98, 108, 105, 99]) = b6
    generalize mCcHas a1.2.1 (lit [115, 45, 109, 97, 120, 97, 103, 101]) = b7
    generalize mCcHas a1.2.1 (lit [109, 117, 115, 116, 45, 114, 101, 118, 97, 108, 105, 100, 97, 116, 101]) = b8
    generalize mCcHas a1.2.1 (lit [109, 97, 120, 45, 97, 103, 101]) = b9
    generalize (mFieldGet a1.2.1 (lit [101, 120, 112, 105, 114, 101, 115])).2 = b10
    generalize mHeuristic a1.1 = b11
    clear hx hb
    (repeat' first | apply And.intro | intro _) <;> simp_all
end Go.Ev
end

section
/- What the laws' functions come to: printed by a program of this session's own (EwShow) out of the small machine. -/
set_option linter.unusedVariables false
namespace Go.Ev

def s_laws_FnExactFilled (a0 : Shd) (Q : (Bool → Prop)) : Prop :=
  pSz a0 1048576 ∧
  ((szF a0 1048576) < 0 →
    (Q true)) ∧
  (¬ ((szF a0 1048576) < 0) →
    pTo a0 ∧
    pFilled (toF a0) ∧
    pTo a0 ∧
    pFilled (toF a0) ∧
    ((mFilled (toF a0)) ≠ (mFilled (toF a0)) →
      (Q false)) ∧
    (¬ ((mFilled (toF a0)) ≠ (mFilled (toF a0))) →
      pTo a0 ∧
      pEq (toF a0) (toF a0) ∧
      (¬ ((eqF (toF a0) (toF a0)) = true) →
        (Q false)) ∧
      (¬ (¬ ((eqF (toF a0) (toF a0)) = true)) →
        (Q true))))

def s_laws_FnExactMayShare (a0 : Req) (a1 : Flt) (a2 : Int) (Q : (Bool → Prop)) : Prop :=
  pSz a0 1048576 ∧
  ((szF a0 1048576) < 0 →
    (Q true)) ∧
  (¬ ((szF a0 1048576) < 0) →
    pSz a1 (szF a0 1048576) ∧
    ((szF a1 (szF a0 1048576)) < 0 →
      (Q true)) ∧
    (¬ ((szF a1 (szF a0 1048576)) < 0) →
      pTo a0 ∧
      pTo a1 ∧
      pMayShare (toF a0) (toF a1) a2 ∧
      pTo a0 ∧
      pTo a1 ∧
      pMayShare (toF a0) (toF a1) a2 ∧
      ((mMayShare (toF a0) (toF a1) a2) ≠ (mMayShare (toF a0) (toF a1) a2) →
        (Q false)) ∧
      (¬ ((mMayShare (toF a0) (toF a1) a2) ≠ (mMayShare (toF a0) (toF a1) a2)) →
        pTo a0 ∧
        pEq (toF a0) (toF a0) ∧
        (¬ ((eqF (toF a0) (toF a0)) = true) →
          (Q false)) ∧
        (¬ (¬ ((eqF (toF a0) (toF a0)) = true)) →
          pTo a1 ∧
          pEq (toF a1) (toF a1) ∧
          (¬ ((eqF (toF a1) (toF a1)) = true) →
            (Q false)) ∧
          (¬ (¬ ((eqF (toF a1) (toF a1)) = true)) →
            (Q true))))))

def s_laws_FnExactOnlyStored (a0 : Req) (Q : (Bool → Prop)) : Prop :=
  pSz a0 1048576 ∧
  ((szF a0 1048576) < 0 →
    (Q true)) ∧
  (¬ ((szF a0 1048576) < 0) →
    pTo a0 ∧
    pOnlyStored (toF a0) ∧
    pTo a0 ∧
    pOnlyStored (toF a0) ∧
    ((mOnlyStored (toF a0)) ≠ (mOnlyStored (toF a0)) →
      (Q false)) ∧
    (¬ ((mOnlyStored (toF a0)) ≠ (mOnlyStored (toF a0))) →
      pTo a0 ∧
      pEq (toF a0) (toF a0) ∧
      (¬ ((eqF (toF a0) (toF a0)) = true) →
        (Q false)) ∧
      (¬ (¬ ((eqF (toF a0) (toF a0)) = true)) →
        (Q true))))

def s_laws_FnExactOriginOk (a0 : (List Rsc)) (Q : (Bool → Prop)) : Prop :=
  pSz a0 1048576 ∧
  ((szF a0 1048576) < 0 →
    (Q true)) ∧
  (¬ ((szF a0 1048576) < 0) →
    pTo a0 ∧
    pOriginOk (toF a0) ∧
    pTo a0 ∧
    pOriginOk (toF a0) ∧
    ((mOriginOk (toF a0)) ≠ (mOriginOk (toF a0)) →
      (Q false)) ∧
    (¬ ((mOriginOk (toF a0)) ≠ (mOriginOk (toF a0))) →
      pTo a0 ∧
      pEq (toF a0) (toF a0) ∧
      (¬ ((eqF (toF a0) (toF a0)) = true) →
        (Q false)) ∧
      (¬ (¬ ((eqF (toF a0) (toF a0)) = true)) →
        (Q true))))

def s_laws_FnExactShardOk (a0 : Shd) (Q : (Bool → Prop)) : Prop :=
  pSz a0 1048576 ∧
  ((szF a0 1048576) < 0 →
    (Q true)) ∧
  (¬ ((szF a0 1048576) < 0) →
    pTo a0 ∧
    pShardOk (toF a0) ∧
    pTo a0 ∧
    pShardOk (toF a0) ∧
    ((mShardOk (toF a0)) ≠ (mShardOk (toF a0)) →
      (Q false)) ∧
    (¬ ((mShardOk (toF a0)) ≠ (mShardOk (toF a0))) →
      pTo a0 ∧
      pEq (toF a0) (toF a0) ∧
      (¬ ((eqF (toF a0) (toF a0)) = true) →
        (Q false)) ∧
      (¬ (¬ ((eqF (toF a0) (toF a0)) = true)) →
        (Q true))))

def s_laws_FnExactStorable (a0 : Req) (a1 : Rsp) (Q : (Bool → Prop)) : Prop :=
  pSz a0 1048576 ∧
  ((szF a0 1048576) < 0 →
    (Q true)) ∧
  (¬ ((szF a0 1048576) < 0) →
    pSz a1 (szF a0 1048576) ∧
    ((szF a1 (szF a0 1048576)) < 0 →
      (Q true)) ∧
    (¬ ((szF a1 (szF a0 1048576)) < 0) →
      pTo a0 ∧
      pTo a1 ∧
      pStorable (toF a0) (toF a1) ∧
      pTo a0 ∧
      pTo a1 ∧
      pStorable (toF a0) (toF a1) ∧
      ((mStorable (toF a0) (toF a1)) ≠ (mStorable (toF a0) (toF a1)) →
        (Q false)) ∧
      (¬ ((mStorable (toF a0) (toF a1)) ≠ (mStorable (toF a0) (toF a1))) →
        pTo a0 ∧
        pEq (toF a0) (toF a0) ∧
        (¬ ((eqF (toF a0) (toF a0)) = true) →
          (Q false)) ∧
        (¬ (¬ ((eqF (toF a0) (toF a0)) = true)) →
          pTo a1 ∧
          pEq (toF a1) (toF a1) ∧
          (¬ ((eqF (toF a1) (toF a1)) = true) →
            (Q false)) ∧
          (¬ (¬ ((eqF (toF a1) (toF a1)) = true)) →
            (Q true))))))

def s_laws_FnExactVaryFits (a0 : Req) (a1 : Rsp) (a2 : (List Fld)) (Q : (Bool → Prop)) : Prop :=
  pSz a0 1048576 ∧
  ((szF a0 1048576) < 0 →
    (Q true)) ∧
  (¬ ((szF a0 1048576) < 0) →
    pSz a1 (szF a0 1048576) ∧
    ((szF a1 (szF a0 1048576)) < 0 →
      (Q true)) ∧
    (¬ ((szF a1 (szF a0 1048576)) < 0) →
      pSz a2 (szF a1 (szF a0 1048576)) ∧
      ((szF a2 (szF a1 (szF a0 1048576))) < 0 →
        (Q true)) ∧
      (¬ ((szF a2 (szF a1 (szF a0 1048576))) < 0) →
        pTo a0 ∧
        pTo a1 ∧
        pTo a2 ∧
        pVaryFits (toF a0) (toF a1) (toF a2) ∧
        pTo a0 ∧
        pTo a1 ∧
        pTo a2 ∧
        pVaryFits (toF a0) (toF a1) (toF a2) ∧
        ((mVaryFits (toF a0) (toF a1) (toF a2)) ≠ (mVaryFits (toF a0) (toF a1) (toF a2)) →
          (Q false)) ∧
        (¬ ((mVaryFits (toF a0) (toF a1) (toF a2)) ≠ (mVaryFits (toF a0) (toF a1) (toF a2))) →
          pTo a0 ∧
          pEq (toF a0) (toF a0) ∧
          (¬ ((eqF (toF a0) (toF a0)) = true) →
            (Q false)) ∧
          (¬ (¬ ((eqF (toF a0) (toF a0)) = true)) →
            pTo a1 ∧
            pEq (toF a1) (toF a1) ∧
            (¬ ((eqF (toF a1) (toF a1)) = true) →
              (Q false)) ∧
            (¬ (¬ ((eqF (toF a1) (toF a1)) = true)) →
              pTo a2 ∧
              pEq (toF a2) (toF a2) ∧
              (¬ ((eqF (toF a2) (toF a2)) = true) →
                (Q false)) ∧
              (¬ (¬ ((eqF (toF a2) (toF a2)) = true)) →
                (Q true))))))))

end Go.Ev
end

section
/- A law's end: from the contract of the law's function to its calls. -/
set_option linter.unusedVariables false
namespace Go.Ev
open Go.RowKit Go.WideShapes
/-- The contract of a law's function: it returns true. -/
def boolCt (f : FuncId) (ps : List PT) (pre : pts ps → Prop) : Ct := { f, ps, rs := [(false, [.bool])], shared := false, pre, F := fun _ => (true : Bool) }
theorem bool_end {P : Program} {f : FuncId} {ps : List PT} {pre : pts ps → Prop} {W : World} {vals : Array Value} {x : pts ps} (h : CtAt P (boolCt f ps pre) W) (hargs : argsR (now W) W ps x vals.toList) (hpre : pre x) :
    Calls P f vals W fun e w' => e = .returned (.bool true) ∧ Below W.heap.size W w' := by
  obtain ⟨_, hc⟩ := h vals x (now W) (fun b hb => hb) hargs hpre
  refine hc.mono fun e w' ⟨vs, v, col, he, hb, hv, _, hr⟩ => ?_
  simp only [boolCt, resR] at hr
  obtain ⟨u, vs', cs, rfl, ho, hs, rfl⟩ := hr
  simp only [outR, repL] at ho
  obtain ⟨u2, cs', rfl, hb2, rfl⟩ := ho
  simp only [slotV, Bool.false_eq_true, if_false] at hs
  have e1 : u2 = u := by simpa using hs
  subst e1
  have hu : u2 = .bool true := hb2
  subst hu
  refine ⟨?_, hb⟩
  rw [he]
  rcases hv with hv | ⟨hv, _⟩
  · have : v = .bool true := by simpa using hv.symm
    rw [this]
  · simp at hv
theorem args_nil {S : Nat → Prop} {W : World} : argsR S W [] () [] := rfl
theorem args_cons {S : Nat → Prop} {W : World} {p : PT} {ps : List PT} {x : p.den} {xs : pts ps} {v : Value} {vs : List Value} (h1 : argR S W p x v) (h2 : argsR S W ps xs vs) : argsR S W (p :: ps) (pmk x xs) (v :: vs) := by
  simp only [argsR]
  exact ⟨v, vs, rfl, by rw [phd_pmk]; exact h1, by rw [ptl_pmk]; exact h2⟩
theorem arg_agg {S : Nat → Prop} {W : World} {ts : List L} {x : dens ts} {cs : Array Value} (h : repLs (roRow W S) ts [] 0 0 x cs.toList) : argR S W (.v true .ro ts) x (.agg cs) := ⟨cs.toList, h, by simp [slotV]⟩
theorem arg_one {S : Nat → Prop} {W : World} {ts : List L} {x : dens ts} {v : Value} (h : repLs (roRow W S) ts [] 0 0 x [v]) : argR S W (.v false .ro ts) x v := ⟨[v], h, by simp [slotV]⟩
theorem by_like {A B : Prop} (hA : A) (h : A = B) : B := h ▸ hA
end Go.Ev
end

section
/- Laws of the plain library: worlds. -/
set_option linter.unusedVariables false
namespace Go.Ev
theorem wld_conns (w : Wld) (h : md w) : w.2.2.1.length ≤ 1048576 := by
  unfold md at h
  have := cz_len w.2.2.1
  simp only [cz_pair] at h
  omega
theorem wld_flights (w : Wld) (h : md w) : w.2.2.2.2.2.1.length ≤ 1048576 := by
  unfold md at h
  have := cz_len w.2.2.2.2.2.1
  simp only [cz_pair] at h
  omega
theorem spec_Blocked_ok (a0 : Wld) (a1 : Int) (h : pBlocked a0 a1) : s_spec_Blocked a0 a1 (fun r => r = mBlocked a0 a1) := by
  have h1 := wld_conns a0 h
  have h2 := wld_flights a0 h
  unfold s_spec_Blocked mBlocked
  rw [wrap64 (by omega) (by omega), wrap64 (by omega) (by omega)]
  refine ⟨trivial, fun hc => ?_, fun hc => ?_⟩
  · rw [Bool.not_eq_true] at hc; rw [hc]; rfl
  · have hc := Classical.not_not.1 hc
    have hr : 0 ≤ a1 ∧ a1 ≤ (a0.2.2.1.length : Int) - 1 := by unfold mIn at hc; simpa using hc
    rw [hc]
    refine ⟨by omega, by omega, fun h7 => by simp [h7], fun h7 => ⟨fun h5 => ⟨trivial, fun hf => ?_, fun hf => ?_⟩, fun h5 => by simp [h7, h5]⟩⟩
    · have hr2 : 0 ≤ (rx a0.2.2.1 a1).2.2.2.2.2.2.2.2.2.2.2.2.2.2.2.2.2.2.2.1 ∧ (rx a0.2.2.1 a1).2.2.2.2.2.2.2.2.2.2.2.2.2.2.2.2.2.2.2.1 ≤ (a0.2.2.2.2.2.1.length : Int) - 1 := by unfold mIn at hf; simpa using hf
      refine ⟨by omega, by omega, ?_⟩
      rw [hf]
      simp [h7, h5]
    · rw [Bool.not_eq_true] at hf
      rw [hf]
      simp [h7, h5]
theorem impl_Blocked_ok (a0 : Wld) (a1 : Int) (h : pBlocked a0 a1) : s_impl_Blocked a0 a1 (fun r => r = mBlocked a0 a1) := spec_Blocked_ok a0 a1 h
theorem spec_AllDone_ok (a0 : Wld) (h : pAllDone a0) : s_spec_AllDone a0 (fun r => r = mAllDone a0) := by
  have h1 := wld_conns a0 h
  refine scanT_ok (xs := a0.2.2.1) (C := fun c : Cnn => c.1 ≠ 7) (Qh := fun _ => false = mAllDone a0) (by simp only [maxLen]; omega) (fun i hi hc _ => ?_) (fun hx => ?_)
  · unfold mAllDone mAllDone_1
    rw [any_true hi (by simpa using hc)]; rfl
  · unfold mAllDone mAllDone_1
    rw [List.any_eq_false.2 fun x hx' => by have := hx x hx'; simpa using this]; rfl
theorem impl_AllDone_1_ok (a0 : Cnn) : s_impl_AllDone_1 a0 (fun r => r = mAllDone_1 a0) := rfl
theorem IndexFunc_AllDone_1_ok (a0 : List Cnn) (a1 : Unit) (h : pIndexFunc_AllDone_1 a0 a1) : s_IndexFunc_AllDone_1 a0 a1 (fun r => r = mIndexFunc_AllDone_1 a0 a1) :=
  idxS_ok (P := pAllDone_1) h fun _ _ => trivial
theorem ContainsFunc_AllDone_1_ok (a0 : List Cnn) (a1 : Unit) (h : pContainsFunc_AllDone_1 a0 a1) : s_ContainsFunc_AllDone_1 a0 a1 (fun r => r = mContainsFunc_AllDone_1 a0 a1) := ⟨h, idxI_nonneg⟩
theorem impl_AllDone_ok (a0 : Wld) (h : pAllDone a0) : s_impl_AllDone a0 (fun r => r = mAllDone a0) := by
  have h1 := wld_conns a0 h
  refine ⟨by unfold pContainsFunc_AllDone_1; simp only [maxLen]; omega, ?_⟩
  unfold mAllDone mContainsFunc_AllDone_1
  cases a0.2.2.1.any mAllDone_1 <;> rfl

/-! ### Laws -/
/-- The budget holds: the data are of moderate size. -/
theorem szF_md {α : Type} [Cz α] {x : α} {k : Int} (h : ¬ szF x k < 0) (h0 : 0 ≤ k) (h1 : k ≤ 1048576) : md x := by
  unfold szF leftI at h
  unfold md
  split at h
  · omega
  · omega
def p_FnExactBlocked (w : Wld) (i : Int) : Prop := wd w ∧ wd i
def p_FnExactAllDone (w : Wld) : Prop := wd w
theorem laws_FnExactBlocked_ok (a0 : Wld) (a1 : Int) (h : p_FnExactBlocked a0 a1) : s_laws_FnExactBlocked a0 a1 (fun r => r = true) := by
  replace h := h.1
  refine ⟨⟨h, by omega, by simp [capI]⟩, fun _ => rfl, fun hs => ?_⟩
  have hm : md a0 := szF_md hs (by omega) (by omega)
  exact ⟨hm, hm, hm, hm, fun hne => absurd rfl hne, fun _ => ⟨hm, h, fun hne => absurd (eqF_iff.2 rfl) hne, fun _ => rfl⟩⟩
theorem laws_FnExactAllDone_ok (a0 : Wld) (h : p_FnExactAllDone a0) : s_laws_FnExactAllDone a0 (fun r => r = true) := by
  refine ⟨⟨h, by omega, by simp [capI]⟩, fun _ => rfl, fun hs => ?_⟩
  have hm : md a0 := szF_md hs (by omega) (by omega)
  exact ⟨hm, hm, hm, hm, fun hne => absurd rfl hne, fun _ => ⟨hm, h, fun hne => absurd (eqF_iff.2 rfl) hne, fun _ => rfl⟩⟩
end Go.Ev
end

section
/- Laws of the plain library: numerals. -/
set_option linter.unusedVariables false
namespace Go.Ev
/-- What of the numeral is still to be written. -/
def decLeft (n : Int) : List UInt8 := if n = 0 then [] else Lib.decDigits n.natAbs
theorem td10 (n : Int) : (0 ≤ n ∧ n.tdiv 10 = n / 10 ∧ n.tmod 10 = n % 10) ∨ (n < 0 ∧ n.tdiv 10 = -((-n) / 10) ∧ n.tmod 10 = -((-n) % 10)) := by
  rcases Int.le_total 0 n with h | h
  · exact Or.inl ⟨h, Int.tdiv_eq_ediv_of_nonneg h, Int.tmod_eq_emod_of_nonneg h⟩
  · by_cases h0 : n = 0
    · subst h0; exact Or.inl ⟨by omega, rfl, rfl⟩
    · refine Or.inr ⟨by omega, ?_, ?_⟩
      · rw [← Int.tdiv_eq_ediv_of_nonneg (by omega), Int.neg_tdiv, Int.neg_neg]
      · rw [← Int.tmod_eq_emod_of_nonneg (by omega), Int.neg_tmod, Int.neg_neg]
theorem decLeft_step {n : Int} (h : n ≠ 0) : decLeft n = decLeft (n.tdiv 10) ++ [UInt8.ofNat (48 + n.natAbs % 10)] := by
  have e : (n.tdiv 10).natAbs = n.natAbs / 10 := by rw [Int.natAbs_tdiv]; rfl
  have ht := td10 n
  unfold decLeft
  rw [if_neg h]
  by_cases h1 : n.natAbs < 10
  · have : n.tdiv 10 = 0 := by omega
    rw [if_pos this, Lib.decDigits_one h1, Nat.mod_eq_of_lt h1]; rfl
  · have : n.tdiv 10 ≠ 0 := by omega
    rw [if_neg this, e, Lib.decDigits, dif_neg h1]
theorem digit_neg {n : Int} (h0 : in64 n) (h : n.tmod 10 < 0) : strOf [IntKind.u8.wrap (IntKind.i64.wrap (48 + IntKind.i64.wrap (0 - n.tmod 10)))] = ob [UInt8.ofNat (48 + n.natAbs % 10)] := by
  obtain ⟨ha, hb⟩ := h0
  have ht := td10 n
  have e1 : IntKind.i64.wrap (0 - n.tmod 10) = ((n.natAbs % 10 : Nat) : Int) := by rw [wrap64 (by omega) (by omega)]; omega
  have e2 : IntKind.i64.wrap (48 + ((n.natAbs % 10 : Nat) : Int)) = ((48 + n.natAbs % 10 : Nat) : Int) := by rw [wrap64 (by omega) (by omega)]; omega
  have hlt : n.natAbs % 10 < 10 := Nat.mod_lt _ (by decide)
  rw [e1, e2]
  generalize n.natAbs % 10 = k at hlt
  have : ∀ k : Fin 10, strOf [IntKind.u8.wrap ((48 + k.val : Nat) : Int)] = ob [UInt8.ofNat (48 + k.val)] := by decide +kernel
  exact this ⟨k, hlt⟩
theorem digit_pos {n : Int} (h0 : in64 n) (h : ¬ n.tmod 10 < 0) : strOf [IntKind.u8.wrap (IntKind.i64.wrap (48 + n.tmod 10))] = ob [UInt8.ofNat (48 + n.natAbs % 10)] := by
  obtain ⟨ha, hb⟩ := h0
  have ht := td10 n
  have e2 : IntKind.i64.wrap (48 + n.tmod 10) = ((48 + n.natAbs % 10 : Nat) : Int) := by rw [wrap64 (by omega) (by omega)]; omega
  have hlt : n.natAbs % 10 < 10 := Nat.mod_lt _ (by decide)
  rw [e2]
  generalize n.natAbs % 10 = k at hlt
  have : ∀ k : Fin 10, strOf [IntKind.u8.wrap ((48 + k.val : Nat) : Int)] = ob [UInt8.ofNat (48 + k.val)] := by decide +kernel
  exact this ⟨k, hlt⟩
theorem spec_Dec_ok (a0 : Int) (h : pDec a0) : s_spec_Dec a0 (fun r => r = mDec a0) := by
  obtain ⟨ha, hb⟩ := h
  have hlen := Lib.itoa_length_le a0 ha hb
  refine ⟨fun h0 => by subst h0; exact bs_inj (by decide +kernel), fun h0 => fun L hL => ?_⟩
  refine loopI hL (fun y => in64 y.1 ∧ (0 ≤ a0 → 0 ≤ y.1) ∧ (a0 < 0 → y.1 ≤ 0) ∧ decLeft y.1 ++ bs y.2 = Lib.decDigits a0.natAbs) (fun y => y.1.natAbs) (fun y hI ih => ?_) (a0, lit []) ⟨⟨ha, hb⟩, fun h => h, fun h => by omega, by unfold decLeft; rw [if_neg h0, bs_lit]; simp⟩
  obtain ⟨n, s⟩ := y
  obtain ⟨h64, hp, hn, he⟩ := hI
  simp only at h64 hp hn he ⊢
  have hl : (Lib.decDigits a0.natAbs).length ≤ 21 := by
    unfold Lib.itoa at hlen
    split at hlen
    · simp only [List.length_cons] at hlen; omega
    · rw [show a0.toNat = a0.natAbs by omega] at hlen; exact hlen
  have hs : s.size ≤ 21 := by rw [← bs_len]; rw [← he, List.length_append] at hl; omega
  have ht := td10 n
  have d64 : in64 (n.tdiv 10) := by obtain ⟨a, b⟩ := h64; constructor <;> omega
  have wd : IntKind.i64.wrap (n.tdiv 10) = n.tdiv 10 := wrap64 (by have := d64.1; omega) (by have := d64.2; omega)
  have next : n ≠ 0 → L (n.tdiv 10, ob [UInt8.ofNat (48 + n.natAbs % 10)] ++ s) := fun hne => by
    refine ih _ ⟨d64, fun h => ?_, fun h => ?_, ?_⟩ ?_
    · have := hp h; simp only; omega
    · have := hn h; simp only; omega
    · simp only
      rw [bs_append, bs_ob, ← List.append_assoc, ← decLeft_step hne, he]
    · simp only; omega
  have h1 : (ob [UInt8.ofNat (48 + n.natAbs % 10)]).size = 1 := ob_size _
  have h2 : (lit [45]).size = 1 := rfl
  rw [wd]
  refine ⟨fun hne => ⟨by decide, fun hneg => ?_, fun hneg => ?_⟩, fun heq => ?_⟩
  · rw [digit_neg h64 hneg, h1]; exact ⟨by omega, by decide, next hne⟩
  · rw [digit_pos h64 hneg, h1]; exact ⟨by omega, by decide, next hne⟩
  · have h00 : n = 0 := Classical.byContradiction heq
    subst h00
    have he : bs s = Lib.decDigits a0.natAbs := by simpa [decLeft] using he
    refine ⟨fun hneg => ⟨by rw [h2]; omega, bs_inj ?_⟩, fun hneg => bs_inj ?_⟩
    · rw [bs_append, he, mDec, mItoa, bs_ob, Lib.itoa, if_pos hneg]; rfl
    · rw [he, mDec, mItoa, bs_ob, Lib.itoa, if_neg hneg, show a0.toNat = a0.natAbs by omega]
end Go.Ev
end

section
/- Library functions: from a call's law to a contract of the small machine. -/
set_option linter.unusedVariables false
namespace Go.Ev
open Go.RowKit
theorem tab_below {P : Program} {w W : World} {name : String} {k : IntKind} {zs : List Int} (h : Lib.TabIs P w name k zs) (hb : Below w.heap.size w W) : Lib.TabIs P W name k zs := by
  unfold Lib.TabIs World.var? at *
  cases hg : P.globalNamed name with
  | none => simp [hg] at h
  | some g =>
    simp only [hg, Option.bind_some] at h ⊢
    have hlt : g < w.heap.size := by
      rcases Nat.lt_or_ge g w.heap.size with h' | h'
      · exact h'
      · rw [Array.getElem?_eq_none h'] at h; simp at h
    rw [hb.block g hlt]
    exact h
/-- The function is there, and has a body. -/
def FnIs (P : Program) (f : FuncId) : Prop := ∃ fn, P.funcs[f]? = some fn ∧ (fn.name == "runtime.NumGoroutine") = false ∧ fn.body.isNone = false
theorem args_v {S : Nat → Prop} {W : World} {t : L} {ps : List PT} {x : pts (.v false .ro [t] :: ps)} {vs : List Value} (h : argsR S W (.v false .ro [t] :: ps) x vs) :
    ∃ v vs', vs = v :: vs' ∧ repL (roRow W S) t [(0, 0)] (hd (phd x)) v ∧ argsR S W ps (ptl x) vs' := by
  simp only [argsR, argR] at h
  obtain ⟨v, vs', rfl, ⟨cs, hc, hs⟩, h2⟩ := h
  obtain ⟨u, cs', rfl, hu, hn⟩ := repLs_cons.1 hc
  simp only [repLs] at hn
  subst hn
  simp only [slotV, Bool.false_eq_true, if_false] at hs
  obtain rfl : u = v := by simpa using hs
  exact ⟨u, vs', rfl, hu, h2⟩
theorem args_e {S : Nat → Prop} {W : World} {x : pts []} {vs : List Value} (h : argsR S W [] x vs) : vs = [] := h
theorem arr_of {vals : Array Value} {l : List Value} (h : vals.toList = l) : vals = l.toArray := by rw [← h]
/-- A contract, from a call's law. -/
theorem ct_lib {P : Program} {c : Ct} {w : World} (hf : FnIs P c.f)
    (h : ∀ (vals : Array Value) (x : pts c.ps) (S : Nat → Prop), (∀ b, S b → b < w.heap.size) → argsR S w c.ps x vals.toList → c.pre x →
      Calls P c.f vals w fun e w' => ∃ vs v, e = .returned v ∧ Below w.heap.size w w' ∧ retV vs v ∧ ∀ S', resR S' (fun _ => none) w' c.shared c.rs (c.F x) 0 vs) : CtAt P c w :=
  fun vals x S hS ha hp => ⟨hf, (h vals x S hS ha hp).mono fun e w' ⟨vs, v, he, hb, hv, hr⟩ => ⟨vs, v, fun _ => none, he, hb, hv, fun b hb => absurd rfl hb, hr _⟩⟩
theorem res_str {S : Nat → Prop} {col : Nat → Option Nat} {W : World} (x : ByteArray) : resR S col W false [(false, [.str])] (x : caps [[L.str]]) 0 [.string x] := by
  simp only [resR]
  exact ⟨_, _, [.string x], rfl, by simp only [outR]; exact ⟨_, _, rfl, rfl, rfl⟩, rfl, rfl⟩
theorem res_int {S : Nat → Prop} {col : Nat → Option Nat} {W : World} {k : IntKind} (x : Int) : resR S col W false [(false, [.int k])] (x : caps [[L.int k]]) 0 [.int k x] := by
  simp only [resR]
  exact ⟨_, _, [.int k x], rfl, by simp only [outR]; exact ⟨_, _, rfl, rfl, rfl⟩, rfl, rfl⟩
/-! ### strconv.Itoa -/
def itoaCt (f : FuncId) : Ct := { f, ps := [.v false .ro [.int .i64]], rs := [(false, [.str])], shared := false, pre := fun (x : Int) => pItoa x, F := fun (x : Int) => mItoa x }
theorem itoa_ct {P : Program} {f : FuncId} {w : World} (hf : FnIs P f)
    (hI : ∀ n : Int, -9223372036854775808 ≤ n → n ≤ 9223372036854775807 → Calls P f #[.int .i64 n] w fun e w' => e = .returned (.string ⟨(Lib.itoa n).toArray⟩) ∧ ∃ k os, w' = Sort.grow (w.drewN k) os) : CtAt P (itoaCt f) w := by
  refine ct_lib hf fun vals x S hS ha hp => ?_
  obtain ⟨v, vs', hv, h1, h2⟩ := args_v ha
  have h2 := args_e h2
  subst h2
  have h1 : v = .int .i64 x := h1
  subst h1
  rw [arr_of hv]
  refine (hI x hp.1 hp.2).mono fun e w' ⟨he, k, os, hw⟩ => ?_
  refine ⟨[.string (mItoa x)], _, he, ?_, Or.inl rfl, fun S' => res_str _⟩
  rw [hw]
  exact Lib.below_grow _ w (Nat.le_refl _) k os
end Go.Ev
end

section
/- Laws of the plain library: the law of TagOf. -/
set_option linter.unusedVariables false
namespace Go.Ev
def s_laws_FnExactTagOf (a0 : Int) (Q : (Bool → Prop)) : Prop :=
  pTagOf a0 ∧
  pTagOf a0 ∧
  ((mTagOf a0) ≠ (mTagOf a0) →
    (Q false)) ∧
  (¬ ((mTagOf a0) ≠ (mTagOf a0)) →
    (Q true))
def p_FnExactTagOf (a0 : Int) : Prop := wd a0
theorem in64_wd {n : Int} (h : wd n) : in64 n := by
  have h : (Lit.int .i64 n).wf = true := h
  simp [Lit.wf, IntKind.min, IntKind.max, IntKind.bits, IntKind.signed] at h
  constructor <;> omega
theorem laws_FnExactTagOf_ok (a0 : Int) (h : p_FnExactTagOf a0) : s_laws_FnExactTagOf a0 (fun r => r = true) :=
  ⟨in64_wd h, in64_wd h, fun hne => absurd rfl hne, fun _ => rfl⟩
end Go.Ev
end

section
/- Laws of the plain library: the laws' functions of the doors. -/
set_option linter.unusedVariables false
namespace Go.Ev
def p_FnExactOriginOk (a0 : List Rsc) : Prop := wd a0
theorem laws_FnExactOriginOk_ok (a0 : List Rsc) (h : p_FnExactOriginOk a0) : s_laws_FnExactOriginOk a0 (fun r => r = true) := by
  refine ⟨⟨h, by omega, by simp [capI]⟩, fun _ => rfl, fun hs => ?_⟩
  have hm : md a0 := szF_md hs (by omega) (by omega)
  exact ⟨hm, hm, hm, hm, fun hne => absurd rfl hne, fun _ => ⟨hm, h, fun hne => absurd (eqF_iff.2 rfl) hne, fun _ => rfl⟩⟩
def p_FnExactShardOk (a0 : Shd) : Prop := wd a0
theorem laws_FnExactShardOk_ok (a0 : Shd) (h : p_FnExactShardOk a0) : s_laws_FnExactShardOk a0 (fun r => r = true) := by
  refine ⟨⟨h, by omega, by simp [capI]⟩, fun _ => rfl, fun hs => ?_⟩
  have hm : md a0 := szF_md hs (by omega) (by omega)
  exact ⟨hm, hm, hm, hm, fun hne => absurd rfl hne, fun _ => ⟨hm, h, fun hne => absurd (eqF_iff.2 rfl) hne, fun _ => rfl⟩⟩
def p_FnExactFilled (a0 : Shd) : Prop := wd a0
theorem laws_FnExactFilled_ok (a0 : Shd) (h : p_FnExactFilled a0) : s_laws_FnExactFilled a0 (fun r => r = true) := by
  refine ⟨⟨h, by omega, by simp [capI]⟩, fun _ => rfl, fun hs => ?_⟩
  have hm : md a0 := szF_md hs (by omega) (by omega)
  exact ⟨hm, hm, hm, hm, fun hne => absurd rfl hne, fun _ => ⟨hm, h, fun hne => absurd (eqF_iff.2 rfl) hne, fun _ => rfl⟩⟩
def p_FnExactOnlyStored (a0 : Req) : Prop := wd a0
theorem laws_FnExactOnlyStored_ok (a0 : Req) (h : p_FnExactOnlyStored a0) : s_laws_FnExactOnlyStored a0 (fun r => r = true) := by
  refine ⟨⟨h, by omega, by simp [capI]⟩, fun _ => rfl, fun hs => ?_⟩
  have hm : md a0 := szF_md hs (by omega) (by omega)
  exact ⟨hm, hm, hm, hm, fun hne => absurd rfl hne, fun _ => ⟨hm, h, fun hne => absurd (eqF_iff.2 rfl) hne, fun _ => rfl⟩⟩
theorem szF_le {α : Type} [Cz α] (x : α) {k : Int} (h0 : 0 ≤ k) : szF x k ≤ k := by
  unfold szF leftI
  split <;> omega
theorem pSz_next {α β : Type} [Cz α] [Cz β] [Wd β] {x : α} {y : β} {k : Int} (h : ¬ szF x k < 0) (h0 : 0 ≤ k) (h1 : k ≤ 1048576) (hy : wd y) : pSz y (szF x k) :=
  ⟨hy, by omega, by have := szF_le x h0; simp only [capI]; omega⟩
theorem md_req {q : Req} (h : md q) : md q.2.2.1 := by
  unfold md at h ⊢; simp only [cz_pair] at h; omega
theorem md_rsp {r : Rsp} (h : md r) : md r.2.1 := by
  unfold md at h ⊢; simp only [cz_pair] at h; omega
def p_FnExactVaryFits (a0 : Req) (a1 : Rsp) (a2 : List Fld) : Prop := wd a0 ∧ wd a1 ∧ wd a2
theorem laws_FnExactVaryFits_ok (a0 : Req) (a1 : Rsp) (a2 : List Fld) (h : p_FnExactVaryFits a0 a1 a2) : s_laws_FnExactVaryFits a0 a1 a2 (fun r => r = true) := by
  obtain ⟨w0, w1, w2⟩ := h
  refine ⟨⟨w0, by omega, by simp [capI]⟩, fun _ => rfl, fun hs0 => ⟨pSz_next hs0 (by omega) (by omega) w1, fun _ => rfl, fun hs1 => ?_⟩⟩
  have k0 := szF_le a0 (k := 1048576) (by omega)
  have m0 : md a0 := szF_md hs0 (by omega) (by omega)
  have m1 : md a1 := szF_md hs1 (by omega) (by omega)
  have k1 := szF_le a1 (k := szF a0 1048576) (by omega)
  refine ⟨pSz_next hs1 (by omega) (by omega) w2, fun _ => rfl, fun hs2 => ?_⟩
  have m2 : md a2 := szF_md hs2 (by omega) (by omega)
  refine ⟨m0, m1, m2, ⟨md_req m0, md_rsp m1⟩, m0, m1, m2, ⟨md_req m0, md_rsp m1⟩, fun hne => absurd rfl hne, fun _ => ⟨m0, w0, fun hne => absurd (eqF_iff.2 rfl) hne, fun _ => ⟨m1, w1, fun hne => absurd (eqF_iff.2 rfl) hne, fun _ => ⟨m2, w2, fun hne => absurd (eqF_iff.2 rfl) hne, fun _ => rfl⟩⟩⟩⟩
def p_FnExactMayShare (a0 : Req) (a1 : Flt) (a2 : Int) : Prop := wd a0 ∧ wd a1 ∧ wd a2
theorem laws_FnExactMayShare_ok (a0 : Req) (a1 : Flt) (a2 : Int) (h : p_FnExactMayShare a0 a1 a2) : s_laws_FnExactMayShare a0 a1 a2 (fun r => r = true) := by
  obtain ⟨w0, w1, w2⟩ := h
  refine ⟨⟨w0, by omega, by simp [capI]⟩, fun _ => rfl, fun hs0 => ⟨pSz_next hs0 (by omega) (by omega) w1, fun _ => rfl, fun hs1 => ?_⟩⟩
  have k0 := szF_le a0 (k := 1048576) (by omega)
  have m0 : md a0 := szF_md hs0 (by omega) (by omega)
  have m1 : md a1 := szF_md hs1 (by omega) (by omega)
  exact ⟨m0, m1, ⟨m0, m1⟩, m0, m1, ⟨m0, m1⟩, fun hne => absurd rfl hne, fun _ => ⟨m0, w0, fun hne => absurd (eqF_iff.2 rfl) hne, fun _ => ⟨m1, w1, fun hne => absurd (eqF_iff.2 rfl) hne, fun _ => rfl⟩⟩⟩
def p_FnExactStorable (a0 : Req) (a1 : Rsp) : Prop := wd a0 ∧ wd a1
theorem laws_FnExactStorable_ok (a0 : Req) (a1 : Rsp) (h : p_FnExactStorable a0 a1) : s_laws_FnExactStorable a0 a1 (fun r => r = true) := by
  obtain ⟨w0, w1⟩ := h
  refine ⟨⟨w0, by omega, by simp [capI]⟩, fun _ => rfl, fun hs0 => ⟨pSz_next hs0 (by omega) (by omega) w1, fun _ => rfl, fun hs1 => ?_⟩⟩
  have k0 := szF_le a0 (k := 1048576) (by omega)
  have m0 : md a0 := szF_md hs0 (by omega) (by omega)
  have m1 : md a1 := szF_md hs1 (by omega) (by omega)
  exact ⟨m0, m1, ⟨m0, m1⟩, m0, m1, ⟨m0, m1⟩, fun hne => absurd rfl hne, fun _ => ⟨m0, w0, fun hne => absurd (eqF_iff.2 rfl) hne, fun _ => ⟨m1, w1, fun hne => absurd (eqF_iff.2 rfl) hne, fun _ => rfl⟩⟩⟩
end Go.Ev
end

section
/- Library functions: strings.Join, strings.Trim, strings.Cut, strings.IndexByte: contracts of the small machine. -/
set_option linter.unusedVariables false
namespace Go.Ev
open Go.RowKit
theorem res_bool {S : Nat → Prop} {col : Nat → Option Nat} {W : World} (x : Bool) : resR S col W false [(false, [.bool])] (x : caps [[L.bool]]) 0 [.bool x] := by
  simp only [resR]
  exact ⟨_, _, [.bool x], rfl, by simp only [outR]; exact ⟨_, _, rfl, rfl, rfl⟩, rfl, rfl⟩
theorem cell_lt {w : World} {a : Addr} {v : Value} (h : w.cell? a = some v) : a.block < w.heap.size := by
  rcases Nat.lt_or_ge a.block w.heap.size with h' | h'
  · exact h'
  · unfold World.cell? at h
    rw [Array.getElem?_eq_none h'] at h
    simp at h
/-! ### strings.IndexByte -/
def indexByteCt (f : FuncId) : Ct := { f, ps := [.v false .ro [.str], .v false .ro [.int .u8]], rs := [(false, [.int .i64])], shared := false, pre := fun (x : S × Int) => pIndexByte x.1 x.2, F := fun (x : S × Int) => mIndexByte x.1 x.2 }
theorem indexByte_ct {P : Program} {f : FuncId} {w : World} (hf : FnIs P f)
    (hI : ∀ (s : ByteArray) (c : Int), Calls P f #[.string s, .int .u8 c] w fun e w' => e = .returned (.int .i64 (Lib.indexByte s.data.toList c.toNat.toUInt8)) ∧ w' = w) : CtAt P (indexByteCt f) w := by
  refine ct_lib hf fun vals x S hS ha hp => ?_
  obtain ⟨v, vs', hv, h1, h2⟩ := args_v ha
  obtain ⟨u, us', rfl, h3, h4⟩ := args_v h2
  have h4 := args_e h4
  subst h4
  have h1 : v = .string x.1 := h1
  have h3 : u = .int .u8 x.2 := h3
  subst h1; subst h3
  rw [arr_of hv]
  refine (hI x.1 x.2).mono fun e w' ⟨he, hw⟩ => ⟨[.int .i64 (mIndexByte x.1 x.2)], _, he, ?_, Or.inl rfl, fun S' => res_int _⟩
  rw [hw]; exact Below.refl _ _
/-! ### strings.Trim -/
def trimLCt (f : FuncId) : Ct := { f, ps := [.v false .ro [.str], .v false .ro [.str]], rs := [(false, [.str])], shared := false, pre := fun (x : S × S) => pTrimL x.1 x.2, F := fun (x : S × S) => mTrimL x.1 x.2 }
theorem trimL_ct {P : Program} {f : FuncId} {w : World} (hf : FnIs P f)
    (hI : ∀ (s cs : ByteArray), s.size ≤ 9223372036854775807 → cs.size < 4294967281 → (∀ (j : Nat) b, cs.data.toList[j]? = some b → b.toNat < 128) →
      Calls P f #[.string s, .string cs] w fun e w' => e = .returned (.string ⟨(Lib.trimS s.data.toList cs.data.toList).toArray⟩) ∧ Below w.heap.size w w') : CtAt P (trimLCt f) w := by
  refine ct_lib hf fun vals x S hS ha hp => ?_
  obtain ⟨v, vs', hv, h1, h2⟩ := args_v ha
  obtain ⟨u, us', rfl, h3, h4⟩ := args_v h2
  have h4 := args_e h4
  subst h4
  have h1 : v = .string x.1 := h1
  have h3 : u = .string x.2 := h3
  subst h1; subst h3
  rw [arr_of hv]
  have hp : x.1.size ≤ 1073741824 ∧ x.2 = lit [32, 9] := hp
  obtain ⟨hp1, hp2⟩ := hp
  have hall : ∀ b ∈ (lit [32, 9]).data.toList, b.toNat < 128 := by decide
  refine (hI x.1 x.2 (by omega) (by rw [hp2]; decide) (fun j b hb => by rw [hp2] at hb; exact hall b (List.mem_of_getElem? hb))).mono fun e w' ⟨he, hb⟩ => ⟨[.string (mTrimL x.1 x.2)], _, he, hb, Or.inl rfl, fun S' => res_str _⟩
/-! ### strings.Cut -/
def cutCt (f : FuncId) : Ct := { f, ps := [.v false .ro [.str], .v false .ro [.str]], rs := [(false, [.str]), (false, [.str]), (false, [.bool])], shared := false, pre := fun (x : S × S) => pCut x.1 x.2, F := fun (x : S × S) => mCut x.1 x.2 }
theorem cut_ct {P : Program} {f : FuncId} {w : World} (hf : FnIs P f)
    (hI : ∀ (s sep : ByteArray), s.size < 4294967281 →
      Calls P f #[.string s, .string sep] w fun e w' => e = .returned (.tuple #[.string ⟨(Lib.cut s.data.toList sep.data.toList).1.toArray⟩, .string ⟨(Lib.cut s.data.toList sep.data.toList).2.1.toArray⟩, .bool (Lib.cut s.data.toList sep.data.toList).2.2]) ∧ ∃ n, w' = w.drewN n) : CtAt P (cutCt f) w := by
  refine ct_lib hf fun vals x S hS ha hp => ?_
  obtain ⟨v, vs', hv, h1, h2⟩ := args_v ha
  obtain ⟨u, us', rfl, h3, h4⟩ := args_v h2
  have h4 := args_e h4
  subst h4
  have h1 : v = .string x.1 := h1
  have h3 : u = .string x.2 := h3
  subst h1; subst h3
  rw [arr_of hv]
  have hp : x.1.size ≤ 1073741824 := hp
  refine (hI x.1 x.2 (by omega)).mono fun e w' ⟨he, n, hw⟩ => ⟨[.string (mCut x.1 x.2).1, .string (mCut x.1 x.2).2.1, .bool (mCut x.1 x.2).2.2], _, he, ?_, Or.inr ⟨by simp, rfl⟩, fun S' => ?_⟩
  · rw [hw]
    exact ⟨rfl, rfl, rfl, Nat.le_refl _, fun _ _ => rfl⟩
  · simp only [cutCt, resR]
    refine ⟨_, _, [.string (mCut x.1 x.2).1], rfl, by simp only [outR]; exact ⟨_, _, rfl, rfl, rfl⟩, rfl, ?_⟩
    refine ⟨_, _, [.string (mCut x.1 x.2).2.1], rfl, by simp only [outR]; exact ⟨_, _, rfl, rfl, rfl⟩, rfl, ?_⟩
    exact ⟨_, _, [.bool (mCut x.1 x.2).2.2], rfl, by simp only [outR]; exact ⟨_, _, rfl, rfl, rfl⟩, rfl, rfl⟩
/-! ### strings.Join -/
theorem joinL_tail (sep : S) : ∀ (x : S) (r : List S), bs (joinL sep (x :: r)) = bs x ++ Lib.joinTail (bs sep) (r.map bs)
  | x, [] => by simp [joinL, Lib.joinTail]
  | x, y :: r => by
    rw [joinL, bs_append, bs_append, joinL_tail sep y r]
    simp only [Lib.joinTail, List.map_cons, List.flatten_cons, List.append_assoc]
theorem mJoin_lib (xs : List S) (sep : S) : mJoin xs sep = ob (Lib.join (xs.map bs) (bs sep)) := by
  cases xs with
  | nil => rfl
  | cons x r =>
    refine bs_inj ?_
    rw [bs_ob, mJoin, joinL_tail, List.map_cons, Lib.join_cons]
theorem lens_sum : ∀ xs : List S, Lib.lens (xs.map bs) = sumN (xs.map fun x => x.size)
  | [] => rfl
  | x :: r => by
    have := lens_sum r
    unfold Lib.lens at this ⊢
    simp only [List.map_cons, List.sum_cons, sumN, bs_len] at this ⊢
    omega
theorem join_core {P : Program} {f : FuncId} {w : World} {S : Nat → Prop} (hS : ∀ b, S b → b < w.heap.size)
    (h0 : ∀ (a : Option Addr) (c : Nat) (sep : ByteArray), Calls P f #[.slice a 0 c, .string sep] w fun e w' => e = .returned (.string ⟨#[]⟩) ∧ w' = w)
    (hI : ∀ (bk o c : Nat) (xs : List ByteArray) (sep : ByteArray), (∀ (j : Nat) x, xs[j]? = some x → w.cell? ⟨bk, o + j, none⟩ = some (.string x)) → bk < w.heap.size → xs.length ≤ 140737488355328 → xs.length ≤ c → (Lib.join (xs.map (·.data.toList)) sep.data.toList).length ≤ 140737488355328 →
      Calls P f #[.slice (some ⟨bk, o, none⟩) xs.length c, .string sep] w fun e w' => e = .returned (.string ⟨(Lib.join (xs.map (·.data.toList)) sep.data.toList).toArray⟩) ∧ Below w.heap.size w w')
    (xs : List ByteArray) (sep : ByteArray) (hp : pJoin xs sep) (A : Option Addr) (cap : Nat) (cs : List Value) (hcap : xs.length ≤ cap) (hcl : cs.length = xs.length * 1)
    (hA : 0 < xs.length * 1 → ∃ ad, A = some ad ∧ S ad.block ∧ ∀ (j : Nat) (u : Value), cs[j]? = some u → w.cell? (ad.add j) = some u)
    (hx : ∀ (i : Nat) (y : ByteArray), xs[i]? = some y → (cs.drop (i * 1)).take 1 = [.string y]) :
    Calls P f #[.slice A xs.length cap, .string sep] w fun e w' => e = .returned (.string (mJoin xs sep)) ∧ Below w.heap.size w w' := by
  obtain ⟨hp1, hp2, hp3⟩ := hp
  by_cases hn : xs.length = 0
  · have : xs = [] := List.length_eq_zero_iff.1 hn
    subst this
    refine (h0 A cap sep).mono fun e w' ⟨he, hw⟩ => ⟨he, ?_⟩
    rw [hw]; exact Below.refl _ _
  · obtain ⟨ad, rfl, hb, hcells⟩ := hA (by omega)
    have hget : ∀ (j : Nat) (y : ByteArray), xs[j]? = some y → w.cell? (ad.add j) = some (.string y) := fun j y hj => by
      refine hcells j _ ?_
      have := congrArg (·[0]?) (hx j y hj)
      simpa [List.getElem?_take, List.getElem?_drop] using this
    have hx0 : xs[0]? = some (xs[0]'(by omega)) := List.getElem?_eq_getElem (by omega)
    have hsp := World.cell?_spot (hget 0 _ hx0)
    have hadd : ∀ j, ad.add j = ⟨ad.block, ad.off + j, none⟩ := fun j => by
      have : ad.spot = none := by
        rw [addr_zero] at hsp; exact hsp
      obtain ⟨b, o, s⟩ := ad
      simp only at this
      subst this
      unfold Addr.add
      split
      · rename_i h; subst h; rfl
      · rfl
    have had : ad = ⟨ad.block, ad.off, none⟩ := by have := hadd 0; rw [addr_zero] at this; exact this
    have hjl : (Lib.join (xs.map (·.data.toList)) sep.data.toList).length ≤ 140737488355328 := by
      cases xs with
      | nil => simp at hn
      | cons y r =>
        have h6 := Lib.join_length (bs y) (r.map bs) (bs sep)
        have h7 := lens_sum (y :: r)
        have h8 : (bs sep).length ≤ 16 := by rw [bs_len]; exact hp3
        have h9 : (bs sep).length * (r.map bs).length ≤ 16 * r.length := by rw [List.length_map]; exact Nat.mul_le_mul_right _ h8
        have h10 : (Lib.join ((y :: r).map bs) (bs sep)).length ≤ 140737488355328 := by
          rw [List.map_cons, h6]
          rw [List.map_cons] at h7
          simp only [List.length_cons] at hp1
          omega
        exact h10
    rw [had]
    refine (hI ad.block ad.off cap xs sep (fun j y hj => by rw [← hadd j]; exact hget j y hj) (hS _ hb) (by omega) hcap hjl).mono fun e w' ⟨he, hbel⟩ => ⟨?_, hbel⟩
    rw [he, mJoin_lib]; rfl
def joinCt (e : TypeId) (f : FuncId) : Ct := { f, ps := [.v false .ro [.list e [.str]], .v false .ro [.str]], rs := [(false, [.str])], shared := false, pre := fun (x : List S × S) => pJoin x.1 x.2, F := fun (x : List S × S) => mJoin x.1 x.2 }
theorem join_row {w : World} {S : Nat → Prop} {e : TypeId} {p : Col} {xs : List ByteArray} {v : Value} (h : repL (roRow w S) (.list e [.str]) p (xs : List (dens [L.str])) v) :
    ∃ (A : Option Addr) (cap : Nat) (cs : List Value), v = .slice A xs.length cap ∧ xs.length ≤ cap ∧ cs.length = xs.length * 1 ∧ (0 < xs.length * 1 → ∃ ad, A = some ad ∧ S ad.block ∧ ∀ (j : Nat) (u : Value), cs[j]? = some u → w.cell? (ad.add j) = some u) ∧
      ∀ (i : Nat) (y : ByteArray), xs[i]? = some y → (cs.drop (i * 1)).take 1 = [.string y] := by
  simp only [repL] at h
  obtain ⟨cs, ⟨A, cap, hv, hcap, hA⟩, hcl, hx⟩ := h
  refine ⟨A, cap, cs, hv, hcap, hcl, hA, fun i y hi => ?_⟩
  have h5 := hx i y hi
  simp only [repLs, repL] at h5
  obtain ⟨v, hv, rfl⟩ := h5
  exact hv
theorem join_ct {P : Program} {e : TypeId} {f : FuncId} {w : World} (hf : FnIs P f)
    (h0 : ∀ (a : Option Addr) (c : Nat) (sep : ByteArray), Calls P f #[.slice a 0 c, .string sep] w fun e w' => e = .returned (.string ⟨#[]⟩) ∧ w' = w)
    (hI : ∀ (bk o c : Nat) (xs : List ByteArray) (sep : ByteArray), (∀ (j : Nat) x, xs[j]? = some x → w.cell? ⟨bk, o + j, none⟩ = some (.string x)) → bk < w.heap.size → xs.length ≤ 140737488355328 → xs.length ≤ c → (Lib.join (xs.map (·.data.toList)) sep.data.toList).length ≤ 140737488355328 →
      Calls P f #[.slice (some ⟨bk, o, none⟩) xs.length c, .string sep] w fun e w' => e = .returned (.string ⟨(Lib.join (xs.map (·.data.toList)) sep.data.toList).toArray⟩) ∧ Below w.heap.size w w') : CtAt P (joinCt e f) w := by
  refine ct_lib hf fun vals x S hS ha hp => ?_
  obtain ⟨v, vs', hv, h1, h2⟩ := args_v ha
  obtain ⟨u, us', rfl, h3, h4⟩ := args_v h2
  have h4 := args_e h4
  subst h4
  have h3 : u = .string x.2 := h3
  subst h3
  obtain ⟨A, cap, cs, rfl, hcap, hcl, hA, hx⟩ := join_row (xs := x.1) h1
  rw [arr_of hv]
  exact (join_core hS h0 hI x.1 x.2 hp A cap cs hcap hcl hA hx).mono fun e w' ⟨he, hb⟩ => ⟨[.string (mJoin x.1 x.2)], _, he, hb, Or.inl rfl, fun S' => res_str _⟩
end Go.Ev
end

section
/- impl.Lower: what its walk needs. -/
set_option linter.unusedVariables false
namespace Go.Ev
open Go Go.RowKit
/-- The row behind i steps. -/
def lowAt (s : S) (i : Nat) : List UInt8 := ((bs s).take i).map lowB ++ (bs s).drop i
theorem lowAt_len (s : S) (i : Nat) : (lowAt s i).length = s.size := by
  unfold lowAt
  rw [List.length_append, List.length_map, List.length_take, List.length_drop, bs_len]; omega
theorem lowAt_get (s : S) (i j : Nat) (h : j < s.size) : (lowAt s i)[j]? = some (if j < i then lowB (bs s)[j]! else (bs s)[j]!) := by
  have hl : j < (bs s).length := by rw [bs_len]; exact h
  unfold lowAt
  by_cases hj : j < i
  · rw [if_pos hj, List.getElem?_append_left (by simp; omega), List.getElem?_map, List.getElem?_take, if_pos hj, List.getElem?_eq_getElem hl, getElem!_pos (bs s) j hl]; rfl
  · rw [if_neg hj, List.getElem?_append_right (by simp; omega), List.getElem?_drop, List.length_map, List.length_take, show i + (j - min i (bs s).length) = j by omega, List.getElem?_eq_getElem hl, getElem!_pos (bs s) j hl]
/-- What the block holds, in a world. -/
def LowW (B : Nat) (s : S) (i : Nat) (w w' : World) : Prop :=
  Below B w w' ∧ ∀ j, j < s.size → w'.cell? ⟨B, j, none⟩ = some (.int .u8 (((if j < i then lowB (bs s)[j]! else (bs s)[j]!).toNat : Nat) : Int)) ∧ w'.frozen? ⟨B, j, none⟩ = false
theorem LowW.next {B i : Nat} {s : S} {w w' : World} (h : LowW B s i w w') (hi : i < s.size) {v : Int} (hv : v = ((lowB (bs s)[i]!).toNat : Int)) : LowW B s (i + 1) w (w'.setCell ⟨B, i, none⟩ (.int .u8 v)) := by
  refine ⟨h.1.setCell (Nat.le_refl _) _, fun j hj => ?_⟩
  by_cases e : j = i
  · subst e
    rw [World.cell?_setCell_same _ _ _ (h.2 j hj).1, hv, if_pos (by omega)]
    exact ⟨rfl, by rw [World.frozen?_setCell]; exact (h.2 j hj).2⟩
  · rw [World.cell?_setCell_other _ _ _ _ (by simp [e]), World.frozen?_setCell, (h.2 j hj).1]
    exact ⟨by simp only [show (j < i + 1) ↔ (j < i) by omega], (h.2 j hj).2⟩
theorem LowW.skip {B i : Nat} {s : S} {w w' : World} (h : LowW B s i w w') (hi : i < s.size) (hv : lowB (bs s)[i]! = (bs s)[i]!) : LowW B s (i + 1) w w' := by
  refine ⟨h.1, fun j hj => ?_⟩
  by_cases e : j = i
  · subst e
    have := h.2 j hj
    rw [if_neg (by omega)] at this
    rw [if_pos (by omega), hv]; exact this
  · rw [(h.2 j hj).1]
    exact ⟨by simp only [show (j < i + 1) ↔ (j < i) by omega], (h.2 j hj).2⟩
/-- '[]byte(s)'. -/
theorem low_new (P : Program) (src dst e : TypeId) (w : World) (s : S) (hs : P.underlying src = some .string) (hd : P.underlying dst = some (.slice e)) (he : P.underlying e = some (.int .u8)) :
    ∃ W1 cap, (convert src dst (.string s)).run P w = .ok (.slice (some ⟨w.heap.size, 0, none⟩) s.size cap) W1 ∧ LowW w.heap.size s 0 w W1 := by
  refine ⟨_, _, run_bytes_of_string w src dst e s hs hd he, (Below.refl _ _).drew.alloc (Nat.le_refl _) _, fun j hj => ?_⟩
  have h1 := bytesRow_at s (grownCap w s.size 0 e) j hj
  refine ⟨?_, ?_⟩
  · show (w.drew.alloc _).cell? ⟨w.drew.heap.size, j, none⟩ = _
    rw [World.cell?_alloc_mark, h1, if_neg (by omega)]
    have hl : j < (bs s).length := by rw [bs_len]; exact hj
    rw [getElem!_pos (bs s) j hl]; rfl
  · show (w.drew.alloc _).frozen? ⟨w.drew.heap.size, j, none⟩ = _
    rw [World.frozen?_alloc_mark]
    have hsz : s.size ≤ (bytesRow s (grownCap w s.size 0 e)).size := by simp [bytesRow]
    generalize (bytesRow s (grownCap w s.size 0 e)).size = n at hsz
    simp; omega
theorem low_byte (x : UInt8) : (65 ≤ x.toNat ∧ x.toNat ≤ 90 → IntKind.u8.wrap (IntKind.u8.wrap ((x.toNat : Int) + 97) - 65) = ((lowB x).toNat : Int)) ∧ (¬ (65 ≤ x.toNat ∧ x.toNat ≤ 90) → lowB x = x) := by
  refine ⟨fun h => ?_, fun h => by unfold lowB; rw [if_neg h]⟩
  unfold lowB; rw [if_pos h]
  have e : (x + 32).toNat = x.toNat + 32 := by rw [UInt8.toNat_add]; show (x.toNat + 32) % 256 = _; omega
  rw [e]
  have h1 : IntKind.u8.wrap ((x.toNat : Int) + 97) = (x.toNat : Int) + 97 := by rw [IntKind.wrap_u8]; omega
  rw [h1, IntKind.wrap_u8]; omega
theorem low_end (P : Program) (src dst e : TypeId) (B cap : Nat) (w w' : World) (s : S) (hs : P.underlying src = some (.slice e)) (he : P.underlying e = some (.int .u8)) (hd : P.underlying dst = some .string) (h : LowW B s s.size w w') :
    (convert src dst (.slice (some ⟨B, 0, none⟩) s.size cap)).run P w' = .ok (.string (mLower s)) w' := by
  have hl : ((bs s).map lowB).length = s.size := by rw [List.length_map, bs_len]
  have := run_convert_bytes_back (P := P) w' src dst e ⟨B, 0, none⟩ cap ((bs s).map lowB) hs he hd (fun j hj => by
    have hj' : j < s.size := by rw [hl] at hj; exact hj
    have hjb : j < (bs s).length := by rw [bs_len]; exact hj'
    have h1 := (h.2 j hj').1
    rw [if_pos hj', getElem!_pos (bs s) j hjb] at h1
    rw [show (⟨B, 0, none⟩ : Addr).add j = ⟨B, j, none⟩ by unfold Addr.add; split <;> simp_all]
    rw [h1, List.getElem_map])
  rw [hl] at this
  exact this
end Go.Ev
namespace Go.Ev
open Go.RowKit
def lowerCt (f : FuncId) : Ct := { f, ps := [.v false .ro [.str]], rs := [(false, [.str])], shared := false, pre := fun (x : S) => pLower x, F := fun (x : S) => mLower x }
theorem lower_ct {P : Program} {f : FuncId} {w : World} (hf : FnIs P f)
    (hI : ∀ s : ByteArray, s.size ≤ 1073741824 → Calls P f #[.string s] w fun e w' => e = .returned (.string (mLower s)) ∧ Below w.heap.size w w') : CtAt P (lowerCt f) w := by
  refine ct_lib hf fun vals x S hS ha hp => ?_
  obtain ⟨v, vs', hv, h1, h2⟩ := args_v ha
  have h2 := args_e h2
  subst h2
  have h1 : v = .string x := h1
  subst h1
  rw [arr_of hv]
  exact (hI x hp).mono fun e w' ⟨he, hb⟩ => ⟨[.string (mLower x)], _, he, hb, Or.inl rfl, fun S' => res_str _⟩
end Go.Ev
end
