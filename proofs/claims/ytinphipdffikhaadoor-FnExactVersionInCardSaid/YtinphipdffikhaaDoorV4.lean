/- A small verified machine for the operations of the given program, and plain laws of what its functions compute; without conditions of its own. Part 5. -/
import Derived.Test.YtinphipdffikhaaDoorV3
import Derived.Lib.IndexLaws
import Derived.Lib.IndexBytes
import Derived.Lib.Atoi
import Derived.Lib.AtoiTie
import Derived.Lib.AtoiAllCases
import Derived.DataReads
import Derived.Lib.Join
import Derived.Lib.SlTrimSet
import Derived.Laws.IdiomStrings
import Derived.Lib.AtoiAllMem
import Derived.Lib.Split
import Derived.Deep.LoopGhost
import Derived.Tactics
import Derived.Tactics2
import Derived.WalkKit
import Derived.RowKit3
import Derived.WideLaws
import Derived.OwnWalk
import Derived.Laws.Slices
import Derived.Laws.Rows
import Derived.Laws.Cells
import Derived.Laws.BytesString
import Derived.Lib.ConvBytes
import Derived.Test.YtinphipdffikhaaDoorShelfb
import Derived.Deep.RegionWith
set_option linter.unusedVariables false
set_option linter.unusedSimpArgs false
section
/- Laws of the plain library: lists of parts, as spec takes them. -/
set_option linter.unusedVariables false
namespace Go.Ev
theorem partsL_end (q : Bool) (cur : List UInt8) : partsL q cur [] = [cur] := by cases q <;> rfl
theorem parts_q {l : List UInt8} {f i : Nat} (hf : f ≤ i) (h : i < l.length) : partsL true ((l.take i).drop f) (l.drop i) =
    if l[i] = 34 then partsL false ((l.take (i + 1)).drop f) (l.drop (i + 1))
    else if l[i] = 92 then (if i + 1 < l.length then partsL true ((l.take (i + 2)).drop f) (l.drop (i + 2)) else [l.drop f])
    else partsL true ((l.take (i + 1)).drop f) (l.drop (i + 1)) := by
  have hc := drop_cons' h
  have hs := seg_succ (f := f) hf h
  by_cases hl : i + 1 < l.length
  · have hc1 := drop_cons' hl
    have hs2 := seg_succ (f := f) (i := i + 1) (by omega) hl
    rw [hc, hc1, partsL_in, ← hc1, if_pos hl, hs]
    rw [hs, List.append_assoc] at hs2
    have hs2 : List.drop f (List.take (i + 2) l) = List.drop f (List.take i l) ++ [l[i], l[i + 1]] := hs2
    rw [hs2]
  · have hn : l.drop (i + 1) = [] := List.drop_eq_nil_of_le (by omega)
    have ha : (l.take (i + 1)).drop f = l.drop f := by rw [List.take_of_length_le (by omega)]
    rw [hc, hn, partsL_one, ← hs, partsL_end, partsL_end, if_neg hl, ha]
    split
    · rfl
    · split <;> rfl
theorem spec_SplitList_ok (a0 : S) (h : pSplitList a0) : s_spec_SplitList a0 (fun r => r = mSplitList a0) := by
  unfold pSplitList sm at h
  intro L hL
  have hl := bs_len a0
  refine loopI hL (fun y => ∃ f i : Nat, y.2.1 = (f : Int) ∧ y.2.2.2 = (i : Int) ∧ i ≤ a0.size + 1 ∧ y.1.length ≤ i ∧
      (i ≤ a0.size → f ≤ i ∧ y.1 ++ trimmed (partsL y.2.2.1 (((bs a0).take i).drop f) ((bs a0).drop i)) = mSplitList a0) ∧
      (i = a0.size + 1 → (f < a0.size → y.2.2.1 = true ∧ y.1 ++ trimmed [(bs a0).drop f] = mSplitList a0) ∧ (¬ f < a0.size → y.1 = mSplitList a0)))
    (fun y => a0.size + 1 - y.2.2.2.toNat) (fun y hI ih => ?_) ([], 0, false, 0) ⟨0, 0, rfl, rfl, by omega, by simp, fun _ => ⟨by omega, rfl⟩, fun h => by omega⟩
  obtain ⟨out, y2, q, y4⟩ := y
  obtain ⟨f, i, hy2, hy4, hi, hol, h1, h2⟩ := hI
  simp only at hy2 hy4 hol h1 h2 ⊢
  subst hy2; subst hy4
  have hsz : ∀ a b : Nat, pTrim (a0.extract a b) := fun a b => by
    unfold pTrim sm
    have := bs_len (a0.extract a b)
    rw [bs_extract, List.length_take, List.length_drop] at this
    omega
  have d0 : (0 : Int) ≤ (i : Int) := by omega
  have f0 : (0 : Int) ≤ (f : Int) := by omega
  have hcap : ∀ p : S, (out.length + [p].length) * 16 ≤ 140737488355328 := fun p => by simp only [List.length_singleton]; omega
  have hw : IntKind.i64.wrap ((i : Int) + 1) = ((i + 1 : Nat) : Int) := wrapS (by omega)
  have hw2 : IntKind.i64.wrap (((i + 1 : Nat) : Int) + 1) = ((i + 2 : Nat) : Int) := wrapS (by omega)
  by_cases hgt : i = a0.size + 1
  · obtain ⟨ha, hb⟩ := h2 hgt
    refine ⟨fun hle => by omega, fun _ => ⟨fun hf => ⟨fun hq => ⟨f0, by omega, hsz _ _, fun hp => ⟨hcap _, ?_⟩, fun hp => ?_⟩, fun hq => absurd (ha (by omega)).1 hq⟩, fun hf => hb (by omega)⟩⟩
    · have e := (ha (by omega)).2
      rw [Int.toNat_natCast] at hp ⊢
      rw [ext_seg, List.take_of_length_le (by omega)] at hp ⊢
      rw [trimmed_cons, trimmed_nil, if_pos hp] at e
      exact e
    · have e := (ha (by omega)).2
      rw [Int.toNat_natCast] at hp
      rw [ext_seg, List.take_of_length_le (by omega)] at hp
      rw [trimmed_cons, trimmed_nil, if_neg hp] at e
      simpa using e
  · obtain ⟨hfi, e⟩ := h1 (by omega)
    have d1 : (i : Int) ≤ (a0.size : Int) := by omega
    have hm : (if (a0.size : Int) < (i : Int) then (a0.size : Int) else (i : Int)) = (i : Int) := if_neg (by omega)
    have hfi' : (f : Int) ≤ (i : Int) := by omega
    by_cases hlt : i < a0.size
    · have d2 : (i : Int) < (a0.size : Int) := by omega
      have d3 : ¬ (a0.size : Int) ≤ (i : Int) := by omega
      have hi3 : i < (bs a0).length := by omega
      have hc := drop_cons' hi3
      have hs := seg_succ (l := bs a0) (f := f) (i := i) hfi hi3
      have b34 : bt a0 (i : Int) = 34 ↔ _ := byte_eq hlt 34 (by omega)
      have b92 : bt a0 (i : Int) = 92 ↔ _ := byte_eq hlt 92 (by omega)
      have b44 : bt a0 (i : Int) = 44 ↔ _ := byte_eq hlt 44 (by omega)
      have next : ∀ (out' : List S) (f' : Nat) (q' : Bool), out'.length ≤ i + 1 → f' ≤ i + 1 → out' ++ trimmed (partsL q' (((bs a0).take (i + 1)).drop f') ((bs a0).drop (i + 1))) = mSplitList a0 → L (out', (f' : Int), q', ((i + 1 : Nat) : Int)) := fun out' f' q' hlen hf' e' =>
        ih _ ⟨f', i + 1, rfl, rfl, by omega, hlen, fun _ => ⟨hf', e'⟩, fun hh => by omega⟩ (by simp only [Int.toNat_natCast]; omega)
      have hne1 : ((34 : Int) = 92) = False := by decide
      have hne2 : ((34 : Int) = 44) = False := by decide
      have hne3 : ((44 : Int) = 92) = False := by decide
      have hne4 : ((44 : Int) = 34) = False := by decide
      have hne5 : ((92 : Int) = 34) = False := by decide
      have hne6 : ((92 : Int) = 44) = False := by decide
      have piece : out ++ trimmed (partsL q (((bs a0).take i).drop f) ((bs a0).drop i)) = mSplitList a0 := e
      by_cases c34 : bt a0 (i : Int) = 34
      · have e34 := b34.1 c34
        cases q with
        | false =>
          rw [hc] at e
          simp only [d1, d2, d3, d0, hm, hw, hw2, c34, hne1, hne2, Bool.false_eq_true, not_false_eq_true, not_true_eq_false, true_implies, false_implies, true_and, and_true, decide_true, decide_false]
          rw [partsL_out, if_pos (by rw [e34]; rfl), ← hs] at e
          exact next out f true (by omega) (by omega) e
        | true =>
          simp only [d1, d2, d3, d0, hm, hw, hw2, c34, hne1, hne2, not_false_eq_true, not_true_eq_false, true_implies, false_implies, true_and, and_true, decide_true, decide_false]
          rw [parts_q hfi hi3, if_pos (by rw [e34]; rfl)] at e
          exact next out f false (by omega) (by omega) e
      · have n34 : ¬ (bs a0)[i] = 34 := fun h => c34 (b34.2 (by rw [h]; rfl))
        cases q with
        | true =>
          rw [parts_q hfi hi3, if_neg n34] at e
          by_cases c92 : bt a0 (i : Int) = 92
          · have e92 := b92.1 c92
            simp only [d1, d2, d3, d0, hm, hw, hw2, c92, hne5, hne6, not_false_eq_true, not_true_eq_false, true_implies, false_implies, true_and, and_true, decide_true, decide_false]
            rw [if_pos (by rw [e92]; rfl)] at e
            refine ih (out, (f : Int), true, ((i + 2 : Nat) : Int)) ⟨f, i + 2, rfl, rfl, by omega, (by show out.length ≤ i + 2; omega), fun hle => ⟨by omega, ?_⟩, fun heq => ⟨fun _ => ⟨rfl, ?_⟩, fun hn => absurd (by omega) hn⟩⟩ (by simp only [Int.toNat_natCast]; omega)
            · rw [if_pos (by omega)] at e; exact e
            · rw [if_neg (by omega)] at e; exact e
          · have n92 : ¬ (bs a0)[i] = 92 := fun h => c92 (b92.2 (by rw [h]; rfl))
            rw [if_neg n92] at e
            by_cases c44 : bt a0 (i : Int) = 44
            · simp only [d1, d2, d3, d0, hm, hw, hw2, c44, hne3, hne4, not_false_eq_true, not_true_eq_false, true_implies, false_implies, true_and, and_true, decide_true, decide_false]
              exact next out f true (by omega) (by omega) e
            · simp only [d1, d2, d3, d0, hm, hw, hw2, c34, c92, c44, not_false_eq_true, not_true_eq_false, true_implies, false_implies, true_and, and_true, decide_true, decide_false]
              exact next out f true (by omega) (by omega) e
        | false =>
          rw [hc, partsL_out, if_neg n34] at e
          by_cases c44 : bt a0 (i : Int) = 44
          · have e44 := b44.1 c44
            rw [if_pos (by rw [e44]; rfl), trimmed_cons] at e
            simp only [d1, d2, d3, d0, f0, hfi', hm, hw, hw2, c44, hne3, hne4, hsz, hcap, Bool.false_eq_true, not_false_eq_true, not_true_eq_false, true_implies, false_implies, true_and, and_true, decide_true, decide_false, Int.toNat_natCast]
            have hn : ((bs a0).take (i + 1)).drop (i + 1) = [] := List.drop_eq_nil_of_le (by rw [List.length_take]; omega)
            refine ⟨fun hp => ?_, fun hp => ?_⟩
            · rw [ext_seg] at hp ⊢
              rw [if_pos hp] at e
              exact next _ (i + 1) false (by simp only [List.length_append, List.length_singleton]; omega) (by omega) (by rw [hn, List.append_assoc]; exact e)
            · rw [ext_seg] at hp
              rw [if_neg hp] at e
              exact next _ (i + 1) false (by omega) (by omega) (by rw [hn]; exact e)
          · have n44 : ¬ (bs a0)[i] = 44 := fun h => c44 (b44.2 (by rw [h]; rfl))
            rw [if_neg n44, ← hs] at e
            simp only [d1, d2, d3, d0, hm, hw, hw2, c34, c44, Bool.false_eq_true, not_false_eq_true, not_true_eq_false, true_implies, false_implies, true_and, and_true, decide_true, decide_false]
            exact next out f false (by omega) (by omega) e
    · have hie : i = a0.size := by omega
      subst hie
      have hn : (bs a0).drop a0.size = [] := List.drop_eq_nil_of_le (by omega)
      rw [hn, partsL_end, trimmed_cons, trimmed_nil] at e
      have d2 : ¬ (a0.size : Int) < (a0.size : Int) := by omega
      have d3 : (a0.size : Int) ≤ (a0.size : Int) := by omega
      simp only [d1, d2, d3, d0, f0, hfi', hm, hw, hsz, hcap, not_false_eq_true, not_true_eq_false, true_implies, false_implies, true_and, and_true, Int.toNat_natCast, if_false]
      have fin : ∀ out' : List S, out'.length ≤ a0.size + 1 → out' = mSplitList a0 → L (out', ((a0.size + 1 : Nat) : Int), q, ((a0.size + 1 : Nat) : Int)) := fun out' hlen e' =>
        ih _ ⟨a0.size + 1, a0.size + 1, rfl, rfl, by omega, hlen, fun hh => by omega, fun _ => ⟨fun hh => by omega, fun _ => e'⟩⟩ (by simp only [Int.toNat_natCast]; omega)
      refine ⟨fun hp => ?_, fun hp => ?_⟩
      · rw [ext_seg] at hp ⊢
        rw [if_pos hp] at e
        exact fin _ (by simp only [List.length_append, List.length_singleton]; omega) e
      · rw [ext_seg] at hp
        rw [if_neg hp] at e
        exact fin _ (by omega) (by simpa using e)
end Go.Ev
end

section
/- Laws of the plain library: directives. -/
set_option linter.unusedVariables false
namespace Go.Ev
theorem index_first {l : List UInt8} {c : UInt8} {k : Nat} (hk : l[k]? = some c) (hf : ∀ j, j < k → l[j]? ≠ some c) : Lib.indexByte l c = (k : Int) := by
  have hge := Lib.indexByte_ge l c
  by_cases hn : Lib.indexByte l c = -1
  · exact absurd hk (Lib.indexByte_none hn k)
  · obtain ⟨o, ho⟩ : ∃ o : Nat, Lib.indexByte l c = (o : Int) := ⟨(Lib.indexByte l c).toNat, by omega⟩
    obtain ⟨h1, h2⟩ := Lib.indexByte_some ho
    rcases Nat.lt_trichotomy o k with h | h | h
    · exact absurd h1 (hf o h)
    · rw [ho, h]
    · exact absurd hk (h2 k h)
theorem index_not {l : List UInt8} {c : UInt8} (hf : ∀ j, j < l.length → l[j]? ≠ some c) : Lib.indexByte l c = -1 := by
  have hge := Lib.indexByte_ge l c
  by_cases hn : Lib.indexByte l c = -1
  · exact hn
  · obtain ⟨o, ho⟩ : ∃ o : Nat, Lib.indexByte l c = (o : Int) := ⟨(Lib.indexByte l c).toNat, by omega⟩
    obtain ⟨h1, h2⟩ := Lib.indexByte_some ho
    exact absurd h1 (hf o (List.getElem?_eq_some_iff.1 h1).1)
theorem cut_at {p : S} {k : Nat} (hk : k < p.size) (hb : bt p (k : Int) = 61) (hf : ∀ j, j < k → bt p (j : Int) ≠ 61) : (mCut p (lit [61])).1 = p.extract 0 k ∧ (mCut p (lit [61])).2.1 = p.extract (k + 1) p.size := by
  have hl := bs_len p
  have e : Lib.index (bs p) (bs (lit [61])) = (k : Int) := by
    rw [show bs (lit [61]) = [61] from rfl, Lib.index_one]
    refine index_first ?_ fun j hj hh => ?_
    · rw [List.getElem?_eq_getElem (by omega), (byte_eq hk 61 (by omega)).1 hb]; rfl
    · rw [List.getElem?_eq_getElem (by omega)] at hh
      exact hf j hj ((byte_eq (by omega) 61 (by omega)).2 (Option.some.inj hh))
  unfold mCut Lib.cut
  rw [e, if_pos (by omega)]
  refine ⟨bs_inj ?_, bs_inj ?_⟩
  · rw [bs_ob, bs_extract]; simp
  · rw [bs_ob, bs_extract]
    show (bs p).drop ((k : Int).toNat + 1) = _
    rw [Int.toNat_natCast]
    exact (List.take_of_length_le (by rw [List.length_drop]; omega)).symm
theorem cut_none {p : S} (hf : ∀ j, j < p.size → bt p (j : Int) ≠ 61) : (mCut p (lit [61])).1 = p.extract 0 p.size ∧ (mCut p (lit [61])).2.1 = lit [] := by
  have hl := bs_len p
  have e : Lib.index (bs p) (bs (lit [61])) = -1 := by
    rw [show bs (lit [61]) = [61] from rfl, Lib.index_one]
    refine index_not fun j hj hh => ?_
    rw [List.getElem?_eq_getElem hj] at hh
    exact hf j (by omega) ((byte_eq (by omega) 61 (by omega)).2 (Option.some.inj hh))
  unfold mCut Lib.cut
  rw [e, if_neg (by omega)]
  refine ⟨bs_inj ?_, rfl⟩
  rw [bs_ob, bs_extract, List.drop_zero, List.take_of_length_le (by omega)]
theorem cut_sizes (p : S) : (mCut p (lit [61])).1.size ≤ p.size ∧ (mCut p (lit [61])).2.1.size ≤ p.size := by
  have hl := bs_len p
  unfold mCut Lib.cut
  split
  · simp only [ob_size, List.length_take, List.length_drop]; omega
  · simp only [ob_size, List.length_nil]; omega
theorem extract_size (p : S) (a b : Nat) : (p.extract a b).size ≤ p.size := by
  have := bs_len (p.extract a b)
  have hl := bs_len p
  rw [bs_extract, List.length_take, List.length_drop] at this
  omega
/-- What is gathered from parts. -/
theorem gather {parts : List S} (hn : parts.length ≤ 1073741824) {B L : List Fld × Int → Prop} (hL : ∀ y, B y → L y)
    (step : ∀ (out : List Fld) (i : Nat) (hi : i < parts.length), out.length ≤ i → (dirOf parts[i] = none → L (out, IntKind.i64.wrap ((i : Int) + 1))) → (∀ d, dirOf parts[i] = some d → L (out ++ [d], IntKind.i64.wrap ((i : Int) + 1))) → B (out, (i : Int)))
    (fin : B (parts.filterMap dirOf, (parts.length : Int))) : L ([], 0) := by
  refine loopG hL parts.length (fun i y => y.2 = (i : Int) ∧ y.1.length ≤ i ∧ y.1 ++ (parts.drop i).filterMap dirOf = parts.filterMap dirOf) (fun i y hi hI ih => ?_) ⟨rfl, by simp, rfl⟩
  obtain ⟨out, y2⟩ := y
  obtain ⟨h1, h2, h3⟩ := hI
  simp only at h1 h2 h3
  subst h1
  by_cases hlt : i < parts.length
  · have hw : IntKind.i64.wrap ((i : Int) + 1) = ((i + 1 : Nat) : Int) := wrapS (by omega)
    rw [drop_cons' hlt] at h3
    refine step out i hlt h2 (fun hd => ?_) (fun d hd => ?_)
    · rw [List.filterMap_cons_none hd] at h3
      exact ih _ hlt ⟨hw, by simp only; omega, h3⟩
    · rw [List.filterMap_cons_some hd] at h3
      exact ih _ hlt ⟨hw, by simp only [List.length_append, List.length_singleton]; omega, by simp only [List.append_assoc]; exact h3⟩
  · have hie : i = parts.length := by omega
    subst hie
    rw [List.drop_eq_nil_of_le (Nat.le_refl _)] at h3
    have h3 : out = parts.filterMap dirOf := by simpa using h3
    rw [h3]; exact fin
theorem unq_pos {b : S} (h1 : 2 ≤ (b.size : Int)) (h2 : bt b 0 = 34) (h3 : bt b ((b.size : Int) - 1) = 34) : b.extract 1 (b.size - 1) = mL7Unquote b := by
  unfold mL7Unquote; rw [if_pos ⟨h1, h2, h3⟩]
theorem unq_neg {b : S} (h : ¬ (2 ≤ (b.size : Int) ∧ bt b 0 = 34 ∧ bt b ((b.size : Int) - 1) = 34)) : b = mL7Unquote b := by
  unfold mL7Unquote; rw [if_neg h]
theorem impl_Directives_ok (a0 : List Fld) (h : pDirectives a0) : s_impl_Directives a0 (fun r => r = mDirectives a0) := by
  have hg := fieldGet_size a0 nameCC h
  refine ⟨h, by unfold pSplitList sm; exact Nat.le_trans hg (by omega), ?_⟩
  have hb := splitList_bound (mFieldGet a0 nameCC).1
  have hm : ∀ x ∈ mSplitList (mFieldGet a0 nameCC).1, x.size ≤ 3 * 1048576 := fun x hx => Nat.le_trans (splitList_mem hx) hg
  have ht : (mSplitList (mFieldGet a0 nameCC).1).filterMap dirOf = mDirectives a0 := rfl
  intro L hL
  have hlen : (mSplitList (mFieldGet a0 nameCC).1).length ≤ 1073741824 := by omega
  refine gather (parts := mSplitList (mFieldGet a0 nameCC).1) hlen hL (fun out i hi hol hnone hsome => ?_) ?_
  · unfold nameCC at *
    generalize mSplitList (mFieldGet a0 (lit [99, 97, 99, 104, 101, 45, 99, 111, 110, 116, 114, 111, 108])).1 = parts at *
    have hp := hm parts[i] (List.getElem_mem hi)
    have hc := cut_sizes parts[i]
    simp only [rx_nat parts i hi]
    unfold dirOf at hnone hsome
    generalize (mCut parts[i] (lit [61])).1 = a at *
    generalize (mCut parts[i] (lit [61])).2.1 = b at *
    refine ⟨fun _ => ⟨by omega, by omega, by unfold pCut sm; omega, by unfold pIsTokenText sm; omega, fun ct => hnone (if_neg ct), fun ct => ?_⟩, fun hn => absurd (by omega) hn⟩
    have hsome := hsome _ (if_pos (Classical.not_not.1 ct))
    have hcap : ∀ d : Fld, (out.length + [d].length) * 32 ≤ 140737488355328 := fun d => by simp only [List.length_singleton]; omega
    have hlow : pLower a := by unfold pLower sm; omega
    refine ⟨fun h2 => ?_, fun h2 => ⟨hlow, hcap _, by rw [← unq_neg (fun hh => h2 hh.1)] at hsome; exact hsome⟩⟩
    have hw : IntKind.i64.wrap ((b.size : Int) - 1) = (b.size : Int) - 1 := wrap64 (by omega) (by omega)
    rw [hw]
    refine ⟨by omega, by omega, fun h3 => ⟨by omega, by omega, fun h4 => ⟨by omega, by omega, by omega, hlow, hcap _, ?_⟩, fun h4 => ⟨hlow, hcap _, ?_⟩⟩, fun h3 => ⟨hlow, hcap _, ?_⟩⟩
    · rw [← unq_pos h2 h3 h4] at hsome
      rw [show ((b.size : Int) - 1).toNat = b.size - 1 by omega]
      exact hsome
    · rw [← unq_neg (fun hh => h4 hh.2.2)] at hsome; exact hsome
    · rw [← unq_neg (fun hh => h3 hh.2.1)] at hsome; exact hsome
  · exact ⟨fun hh => absurd hh (by unfold nameCC; omega), fun _ => ht⟩
theorem spec_Directives_ok (a0 : List Fld) (h : pDirectives a0) : s_spec_Directives a0 (fun r => r = mDirectives a0) := by
  have hg := fieldGet_size a0 nameCC h
  refine ⟨h, by unfold pSplitList sm; exact Nat.le_trans hg (by omega), ?_⟩
  have hb := splitList_bound (mFieldGet a0 nameCC).1
  have hm : ∀ x ∈ mSplitList (mFieldGet a0 nameCC).1, x.size ≤ 3 * 1048576 := fun x hx => Nat.le_trans (splitList_mem hx) hg
  have ht : (mSplitList (mFieldGet a0 nameCC).1).filterMap dirOf = mDirectives a0 := rfl
  intro L hL
  have hlen : (mSplitList (mFieldGet a0 nameCC).1).length ≤ 1073741824 := by omega
  refine gather (parts := mSplitList (mFieldGet a0 nameCC).1) hlen hL (fun out i hi hol hnone hsome => ?_) ?_
  · unfold nameCC at *
    generalize mSplitList (mFieldGet a0 (lit [99, 97, 99, 104, 101, 45, 99, 111, 110, 116, 114, 111, 108])).1 = parts at *
    have hp := hm parts[i] (List.getElem_mem hi)
    simp only [rx_nat parts i hi]
    unfold dirOf at hnone hsome
    generalize parts[i] = p at *
    refine ⟨fun _ => ⟨by omega, by omega, fun L2 hL2 => ?_⟩, fun hn => absurd (by omega) hn⟩
    have hcap : ∀ d : Fld, (out.length + [d].length) * 32 ≤ 140737488355328 := fun d => by simp only [List.length_singleton]; omega
    have tok : ∀ a b, pIsTokenText (p.extract a b) := fun a b => by have := extract_size p a b; unfold pIsTokenText sm; omega
    have low : ∀ a b, pLower (p.extract a b) := fun a b => by have := extract_size p a b; unfold pLower sm; omega
    have unq : ∀ a b, pL7Unquote (p.extract a b) := fun a b => by have := extract_size p a b; unfold pL7Unquote sm; omega
    refine loopN hL2 p.size (by omega) (fun k => ∀ j, j < k → bt p (j : Int) ≠ 61) (fun k hk hI ih => ?_) (fun j hj => by omega)
    have hwk : k < p.size → IntKind.i64.wrap ((k : Int) + 1) = ((k + 1 : Nat) : Int) := fun _ => wrapS (by omega)
    refine ⟨fun hlt => ?_, fun hge => ?_⟩
    · have hlt : k < p.size := by omega
      refine ⟨by omega, by omega, fun h61 => ih hlt fun j hj => ?_, fun h61 => ?_⟩
      · by_cases e : j = k
        · subst e; exact h61
        · exact hI j (by omega)
      · obtain ⟨e1, e2⟩ := cut_at hlt (Classical.not_not.1 h61) hI
        rw [e1] at hnone hsome
        rw [e2] at hsome
        rw [hwk hlt, Int.toNat_natCast, Int.toNat_natCast]
        refine ⟨by omega, by omega, tok _ _, fun ct => hnone (if_neg ct), fun ct => ⟨by omega, by omega, low _ _, fun _ => ⟨by omega, by omega, unq _ _, hcap _, hsome _ (if_pos (Classical.not_not.1 ct))⟩, fun hh => absurd (by omega) hh⟩⟩
    · have hke : k = p.size := by omega
      subst hke
      obtain ⟨e1, e2⟩ := cut_none hI
      rw [e1] at hnone hsome
      rw [e2] at hsome
      have hu : mL7Unquote (lit []) = lit [] := (unq_neg (fun hh => by have := hh.1; have h0 : (lit []).size = 0 := rfl; omega)).symm
      rw [hu] at hsome
      rw [Int.toNat_natCast]
      refine ⟨by omega, by omega, tok _ _, fun ct => hnone (if_neg ct), fun ct => ⟨by omega, by omega, low _ _, fun hh => absurd hh (by omega), fun _ => ⟨hcap _, hsome _ (if_pos (Classical.not_not.1 ct))⟩⟩⟩
  · exact ⟨fun hh => absurd hh (by unfold nameCC; omega), fun _ => ht⟩
end Go.Ev
end

section
/- Laws of the plain library: what may be stored, what may be shared. -/
set_option linter.unusedVariables false
namespace Go.Ev
theorem md_req' {q : Req} (h : md q) : md q.2.2.1 := by
  unfold md at h ⊢; simp only [cz_pair] at h; omega
theorem md_rsp' {r : Rsp} (h : md r) : md r.2.1 := by
  unfold md at h ⊢; simp only [cz_pair] at h; omega
theorem impl_itsOwn_ok (a0 : Req) (h : pItsOwn a0) : s_impl_itsOwn a0 (fun r => r = mItsOwn a0) := by
  have h : md a0.2.2.1 := h
  unfold s_impl_itsOwn mItsOwn sGET sAuth sNone sSince sNoStore sNoCache
  simp only [pHasField, pCcHas, h, true_and]
  (repeat' first | apply And.intro | intro _) <;> simp_all
theorem spec_l16Own_ok (a0 : Req) (h : pItsOwn a0) : s_spec_l16Own a0 (fun r => r = mItsOwn a0) := by
  have h : md a0.2.2.1 := h
  unfold s_spec_l16Own mItsOwn mHasField sGET sAuth sNone sSince sNoStore sNoCache
  simp only [pFieldGet, pCcHas, h, true_and]
  (repeat' first | apply And.intro | intro _) <;> simp_all
theorem impl_MayShare_ok (a0 : Req) (a1 : Flt) (a2 : Int) (h : pMayShare a0 a1 a2) : s_impl_MayShare a0 a1 a2 (fun r => r = mMayShare a0 a1 a2) := by
  obtain ⟨h0, h1⟩ := h
  have q0 := md_req' h0
  have h1' : cz a1 ≤ 1048576 := h1
  simp only [cz_pair] at h1'
  have p1 : pPicked (fltReq a1) (fltRsp a1) := by unfold pPicked md fltReq fltRsp; simp only; omega
  have p2 : pVaryFits a0 (fltRsp a1) (mPicked (fltReq a1) (fltRsp a1)) := by
    refine ⟨q0, ?_⟩
    unfold md fltRsp; simp only; omega
  have p3 : pItsOwn a0 := q0
  refine ⟨fun c1 => ⟨fun c2 => ⟨fun c3 => ⟨p1, p2, fun c4 => ⟨p3, ?_⟩, fun c4 => ?_⟩, fun c3 => ?_⟩, fun c2 => ?_⟩, fun c1 => ?_⟩
  · unfold mMayShare
    rw [Bool.not_eq_true] at c1
    rw [c1, c2, c3, show mVaryFits a0 (fltRsp a1) (mPicked (fltReq a1) (fltRsp a1)) = true from c4]
    cases mItsOwn a0 <;> rfl
  · unfold mMayShare
    rw [show mVaryFits a0 (fltRsp a1) (mPicked (fltReq a1) (fltRsp a1)) = false from (Bool.not_eq_true _).mp c4]
    simp
  · unfold mMayShare; rw [Bool.not_eq_true] at c3; rw [c3]; simp
  · unfold mMayShare; rw [Bool.not_eq_true] at c2; rw [c2]; simp
  · unfold mMayShare; rw [Classical.not_not.1 c1]; simp
theorem spec_MayShare_ok (a0 : Req) (a1 : Flt) (a2 : Int) (h : pMayShare a0 a1 a2) : s_spec_MayShare a0 a1 a2 (fun r => r = mMayShare a0 a1 a2) := impl_MayShare_ok a0 a1 a2 h
theorem storable_pre {r : Rsp} (h : md r) : md r.2.1 ∧ pFieldGet r.2.1 (lit [118, 97, 114, 121]) ∧ pSplitList (mFieldGet r.2.1 (lit [118, 97, 114, 121])).1 ∧ pContains_string (mSplitList (mFieldGet r.2.1 (lit [118, 97, 114, 121])).1) (lit [42]) := by
  have hr := md_rsp' h
  have hg := fieldGet_size r.2.1 (lit [118, 97, 114, 121]) hr
  have hb := splitList_bound (mFieldGet r.2.1 (lit [118, 97, 114, 121])).1
  exact ⟨hr, hr, by unfold pSplitList sm; omega, by unfold pContains_string; simp only [maxLen]; omega⟩
theorem impl_Storable_ok (a0 : Req) (a1 : Rsp) (h : pStorable a0 a1) : s_impl_Storable a0 a1 (fun r => r = mStorable a0 a1) := by
  obtain ⟨h0, h1⟩ := h
  have hq := md_req' h0
  obtain ⟨hr, p1, p2, p3⟩ := storable_pre h1
  have p4 : pResponseOk a1 := hr
  unfold s_impl_Storable mStorable sGET sNoStore sPrivate sVary sAuth sPublic sSMaxAge sMust sMaxAge sExpires
  simp only [pStorable_1, pCcHas, pHasField, pHeuristic, hq, hr, p1, p2, p3, p4, true_and, mStorable_1]
  generalize mContains_string (mSplitList (mFieldGet a1.2.1 (lit [118, 97, 114, 121])).1) (lit [42]) = b1
  generalize mCcHas a0.2.2.1 (lit [110, 111, 45, 115, 116, 111, 114, 101]) = b2
  generalize mCcHas a1.2.1 (lit [110, 111, 45, 115, 116, 111, 114, 101]) = b3
  generalize mCcHas a1.2.1 (lit [112, 114, 105, 118, 97, 116, 101]) = b4
  generalize mHasField a0.2.2.1 (lit [97, 117, 116, 104, 111, 114, 105, 122, 97, 116, 105, 111, 110]) = b5
  generalize mCcHas a1.2.1 (lit [112, 117, 98, 108, 105, 99]) = b6
  generalize mCcHas a1.2.1 (lit [115, 45, 109, 97, 120, 97, 103, 101]) = b7
  generalize mCcHas a1.2.1 (lit [109, 117, 115, 116, 45, 114, 101, 118, 97, 108, 105, 100, 97, 116, 101]) = b8
  generalize mCcHas a1.2.1 (lit [109, 97, 120, 45, 97, 103, 101]) = b9
  generalize mHasField a1.2.1 (lit [101, 120, 112, 105, 114, 101, 115]) = b10
  generalize mHeuristic a1.1 = b11
  generalize mResponseOk a1 = b12
  (repeat' first | apply And.intro | intro _) <;> simp_all
theorem spec_Storable_ok (a0 : Req) (a1 : Rsp) (h : pStorable a0 a1) : s_spec_Storable a0 a1 (fun r => r = mStorable a0 a1) := by
  obtain ⟨h0, h1⟩ := h
  have hq := md_req' h0
  obtain ⟨hr, p1, p2, p3⟩ := storable_pre h1
  have p4 : pResponseOk a1 := hr
  have hlen : (mSplitList (mFieldGet a1.2.1 (lit [118, 97, 114, 121])).1).length ≤ maxLen := p3
  refine ⟨fun c => ?_, fun c0 => ⟨fun c => ?_, fun c1 => ⟨p4, fun c => ?_, fun c2 => ⟨hq, fun c => ?_, fun c3 => ⟨hr, fun c => ?_, fun c4 => ⟨hr, fun c => ?_, fun c5 => ⟨hr, p2,
    scanT_ok (xs := mSplitList (mFieldGet a1.2.1 (lit [118, 97, 114, 121])).1) (C := fun x => x = lit [42]) (Qh := fun _ => false = mStorable a0 a1) hlen (fun i hi hc _ => ?_) (fun hx => ?_)⟩⟩⟩⟩⟩⟩⟩
  · simp [mStorable, sGET, c]
  · simp [mStorable, c]
  · rw [Bool.not_eq_true] at c; simp [mStorable, c]
  · simp [mStorable, sNoStore, c]
  · simp [mStorable, sNoStore, c]
  · simp [mStorable, sPrivate, c]
  · have hb : mContains_string (mSplitList (mFieldGet a1.2.1 (lit [118, 97, 114, 121])).1) (lit [42]) = true := any_true hi (by rw [hc]; simp)
    simp [mStorable, sVary, hb]
  · have hb : mContains_string (mSplitList (mFieldGet a1.2.1 (lit [118, 97, 114, 121])).1) (lit [42]) = false := List.any_eq_false.2 fun x hm => by have := hx x hm; simpa using fun e => this e.symm
    have c2' := Classical.not_not.1 c2
    have c0' := Classical.not_not.1 c0
    rw [Bool.not_eq_true] at c3 c4 c5
    unfold mStorable mHasField sGET sNoStore sPrivate sVary sAuth sPublic sSMaxAge sMust sMaxAge sExpires
    rw [hb, c2', c3, c4, c5, decide_eq_true c0', decide_eq_false c1]
    simp only [pFieldGet, pCcHas, pHeuristic, hq, hr, true_and]
    generalize (mFieldGet a0.2.2.1 (lit [97, 117, 116, 104, 111, 114, 105, 122, 97, 116, 105, 111, 110])).2 = b5
    generalize mCcHas a1.2.1 (lit [112, 117, 98, 108, 105, 99]) = b6
    generalize mCcHas a1.2.1 (lit [115, 45, 109, 97, 120, 97, 103, 101]) = b7
    generalize mCcHas a1.2.1 (lit [109, 117, 115, 116, 45, 114, 101, 118, 97, 108, 105, 100, 97, 116, 101]) = b8
    generalize mCcHas a1.2.1 (lit [109, 97, 120, 45, 97, 103, 101]) = b9
    generalize (mFieldGet a1.2.1 (lit [101, 120, 112, 105, 114, 101, 115])).2 = b10
    generalize mHeuristic a1.1 = b11
    clear hx hb
    (repeat' first | apply And.intro | intro _) <;> simp_all
end Go.Ev
end

section
/- Laws of the plain library: numerals that are read. -/
set_option linter.unusedVariables false
namespace Go.Ev
/-- The number that a text's digits spell, and how many there are. -/
def dvs (l : List UInt8) : List Nat := l.filterMap Lib.digitVal
def dv (l : List UInt8) : Nat := (dvs l).foldl (fun a d => a * 10 + d) 0
def dk (l : List UInt8) : Nat := (dvs l).length
theorem dvs_snoc_some {l : List UInt8} {b : UInt8} {d : Nat} (h : Lib.digitVal b = some d) : dvs (l ++ [b]) = dvs l ++ [d] := by unfold dvs; rw [List.filterMap_append]; simp [h]
theorem dvs_snoc_none {l : List UInt8} {b : UInt8} (h : Lib.digitVal b = none) : dvs (l ++ [b]) = dvs l := by unfold dvs; rw [List.filterMap_append]; simp [h]
theorem dv_some {l : List UInt8} {b : UInt8} {d : Nat} (h : Lib.digitVal b = some d) : dv (l ++ [b]) = dv l * 10 + d ∧ dk (l ++ [b]) = dk l + 1 := by
  unfold dv dk; rw [dvs_snoc_some h, List.foldl_append]; simp
theorem dv_none {l : List UInt8} {b : UInt8} (h : Lib.digitVal b = none) : dv (l ++ [b]) = dv l ∧ dk (l ++ [b]) = dk l := by
  unfold dv dk; rw [dvs_snoc_none h]; simp
theorem digit_lt {b : UInt8} {d : Nat} (h : Lib.digitVal b = some d) : d < 10 ∧ b.toNat = 48 + d := by
  unfold Lib.digitVal at h
  split at h
  · cases h; omega
  · cases h
theorem digit_of {d : Nat} (h : d < 10) : Lib.digitVal (UInt8.ofNat (48 + d)) = some d := by
  have e : (UInt8.ofNat (48 + d)).toNat = 48 + d := by simp; omega
  unfold Lib.digitVal
  rw [e, if_pos ⟨by omega, by omega⟩]
  congr 1; omega
theorem dv_take_lt : ∀ (l : List UInt8) (i : Nat), i ≤ l.length → dv (l.take i) < 10 ^ dk (l.take i) ∧ dk (l.take i) ≤ i
  | l, 0, _ => by simp [dv, dk, dvs]
  | l, i + 1, h => by
    obtain ⟨h1, h2⟩ := dv_take_lt l i (by omega)
    have e : l.take (i + 1) = l.take i ++ [l[i]] := by rw [List.take_add_one, List.getElem?_eq_getElem (by omega)]; rfl
    rw [e]
    cases hd : Lib.digitVal l[i] with
    | none =>
      obtain ⟨a, b⟩ := dv_none (l := l.take i) hd
      rw [a, b]; exact ⟨h1, by omega⟩
    | some d =>
      obtain ⟨a, b⟩ := dv_some (l := l.take i) hd
      have := (digit_lt hd).1
      rw [a, b, Nat.pow_succ]; exact ⟨by omega, by omega⟩
theorem dv_all_lt (l : List UInt8) : dv l < 10 ^ dk l ∧ dk l ≤ l.length := by
  have := dv_take_lt l l.length (Nat.le_refl _)
  rw [List.take_length] at this; exact this
theorem dv_dec : ∀ u : Nat, dv (Lib.decDigits u) = u ∧ dk (Lib.decDigits u) = Lib.nDigits u := by
  intro u
  induction u using Nat.strongRecOn with
  | _ u ih =>
    by_cases h : u < 10
    · rw [Lib.decDigits_one h, Lib.nDigits_small h]
      have := dv_some (l := []) (digit_of h)
      simp only [List.nil_append] at this
      rw [this.1, this.2]
      constructor
      · show dv [] * 10 + u = u
        simp [dv, dvs]
      · simp [dk, dvs]
    · obtain ⟨a, b⟩ := ih (u / 10) (by omega)
      rw [Lib.decDigits, dif_neg h, Lib.nDigits_big h]
      have hd : u % 10 < 10 := Nat.mod_lt _ (by decide)
      obtain ⟨c, d⟩ := dv_some (l := Lib.decDigits (u / 10)) (digit_of hd)
      rw [c, d, a, b]
      constructor <;> omega
/-- The number that a text shows, if it shows one. -/
def shown (l : List UInt8) : Int := if l.head? = some 45 then -(dv l : Int) else (dv l : Int)
theorem dec_head (u : Nat) : ∃ b r, Lib.decDigits u = b :: r ∧ b ≠ 45 ∧ b ≠ 43 := by
  induction u using Nat.strongRecOn with
  | _ u ih =>
    by_cases h : u < 10
    · refine ⟨_, [], Lib.decDigits_one h, fun e => ?_, fun e => ?_⟩
      all_goals
        have e' := congrArg UInt8.toNat e
        have : (UInt8.ofNat (48 + u)).toNat = 48 + u := by simp; omega
        rw [this] at e'
      · have : (45 : UInt8).toNat = 45 := rfl
        omega
      · have : (43 : UInt8).toNat = 43 := rfl
        omega
    · obtain ⟨b, r, e, h1, h2⟩ := ih (u / 10) (by omega)
      refine ⟨b, r ++ [UInt8.ofNat (48 + u % 10)], ?_, h1, h2⟩
      rw [Lib.decDigits, dif_neg h, e]; rfl
theorem pow_le_nDigits : ∀ u : Nat, 1 ≤ u → 10 ^ (Lib.nDigits u - 1) ≤ u := by
  intro u
  induction u using Nat.strongRecOn with
  | _ u ih =>
    intro h1
    by_cases h : u < 10
    · rw [Lib.nDigits_small h]; simpa using h1
    · have h2 := ih (u / 10) (by omega) (by omega)
      have h3 := Lib.nDigits_pos (u / 10)
      rw [Lib.nDigits_big h, show Lib.nDigits (u / 10) + 1 - 1 = (Lib.nDigits (u / 10) - 1) + 1 by omega, Nat.pow_succ]
      omega
theorem nDigits_le9 {u : Nat} (h : u ≤ 999999999) : Lib.nDigits u ≤ 9 := by
  rcases Nat.eq_zero_or_pos u with rfl | h1
  · rw [Lib.nDigits_small (by omega)]; omega
  · rcases Nat.lt_or_ge 9 (Lib.nDigits u) with hh | hh
    · exfalso
      have hp : 10 ^ (Lib.nDigits u - 1) ≤ u := pow_le_nDigits u h1
      have : 10 ^ 9 ≤ 10 ^ (Lib.nDigits u - 1) := Nat.pow_le_pow_right (by omega) (by omega)
      omega
    · exact hh
theorem shown_itoa {m : Int} (h0 : -999999999 ≤ m) (h1 : m ≤ 999999999) : shown (Lib.itoa m) = m ∧ dk (Lib.itoa m) ≤ 9 ∧ (Lib.itoa m).length ≤ 10 := by
  by_cases hm : m < 0
  · have e : Lib.itoa m = 45 :: Lib.decDigits m.natAbs := if_pos hm
    obtain ⟨a, b⟩ := dv_dec m.natAbs
    have hn : Lib.digitVal 45 = none := rfl
    have e1 : dv (45 :: Lib.decDigits m.natAbs) = m.natAbs := by
      unfold dv dvs at a ⊢; rw [List.filterMap_cons_none hn]; exact a
    have e2 : dk (45 :: Lib.decDigits m.natAbs) = Lib.nDigits m.natAbs := by
      unfold dk dvs at b ⊢; rw [List.filterMap_cons_none hn]; exact b
    have e3 := nDigits_le9 (u := m.natAbs) (by omega)
    rw [e]
    refine ⟨?_, by omega, ?_⟩
    · unfold shown
      rw [if_pos (show (45 :: Lib.decDigits m.natAbs).head? = some 45 from rfl), e1]; omega
    · rw [List.length_cons, Lib.decDigits_length]; omega
  · have e : Lib.itoa m = Lib.decDigits m.natAbs := by unfold Lib.itoa; rw [if_neg hm, show m.toNat = m.natAbs by omega]
    obtain ⟨a, b⟩ := dv_dec m.natAbs
    obtain ⟨x, r, hx, h45, h43⟩ := dec_head m.natAbs
    have e3 := nDigits_le9 (u := m.natAbs) (by omega)
    rw [e]
    refine ⟨?_, by omega, ?_⟩
    · unfold shown
      rw [if_neg (by rw [hx]; simpa using h45), a]; omega
    · rw [Lib.decDigits_length]; omega
theorem readDec_some {s : S} {n : Int} (h0 : -999999999 ≤ n) (h1 : n ≤ 999999999) (h : mDec n = s) : mReadDec s = (n, true) := by
  have hex : ∃ n : Int, -999999999 ≤ n ∧ n ≤ 999999999 ∧ mDec n = s := ⟨n, h0, h1, h⟩
  unfold mReadDec
  rw [dif_pos hex]
  obtain ⟨c0, c1, c2⟩ := Classical.choose_spec hex
  generalize Classical.choose hex = m at c0 c1 c2
  have e : Lib.itoa m = Lib.itoa n := by
    have := congrArg bs (c2.trans h.symm)
    exact this
  have a := (shown_itoa c0 c1).1
  have b := (shown_itoa h0 h1).1
  rw [e, b] at a
  rw [a]
theorem readDec_none {s : S} (h : ∀ n : Int, -999999999 ≤ n → n ≤ 999999999 → mDec n ≠ s) : mReadDec s = (0, false) := by
  unfold mReadDec
  rw [dif_neg]
  rintro ⟨n, h0, h1, h2⟩
  exact h n h0 h1 h2
/-- What spec finds. -/
theorem readDec_by {s : S} : (9 < dk (bs s) → mReadDec s = (0, false)) ∧ (10 < s.size → mReadDec s = (0, false)) ∧ (mDec (shown (bs s)) ≠ s → mReadDec s = (0, false)) ∧
    (dk (bs s) ≤ 9 → mDec (shown (bs s)) = s → mReadDec s = (shown (bs s), true)) := by
  refine ⟨fun h => readDec_none fun n h0 h1 e => ?_, fun h => readDec_none fun n h0 h1 e => ?_, fun h => readDec_none fun n h0 h1 e => ?_, fun h e => readDec_some ?_ ?_ e⟩
  · have := (shown_itoa h0 h1).2.1
    rw [← e] at h
    have h : 9 < dk (Lib.itoa n) := h
    omega
  · have := (shown_itoa h0 h1).2.2
    rw [← e, ← bs_len] at h
    have h : 10 < (Lib.itoa n).length := h
    omega
  · have := (shown_itoa h0 h1).1
    apply h
    rw [← e]
    have : shown (bs (mDec n)) = n := this
    rw [this]
  · have h2 := dv_all_lt (bs s)
    have h3 : 10 ^ dk (bs s) ≤ 10 ^ 9 := Nat.pow_le_pow_right (by omega) h
    unfold shown
    split <;> omega
  · have h2 := dv_all_lt (bs s)
    have h3 : 10 ^ dk (bs s) ≤ 10 ^ 9 := Nat.pow_le_pow_right (by omega) h
    unfold shown
    split <;> omega
end Go.Ev
end

section
/- Laws of the plain library: a numeral is read, as spec does. -/
set_option linter.unusedVariables false
namespace Go.Ev
theorem readDec_end {s : S} {i : Nat} {k m : Int} (hi : i ≤ s.size) (hend : i = s.size ∨ i = 11) (hk : k = (dk ((bs s).take i) : Int)) (hm : s.size ≤ 10 → m = shown (bs s)) (h64 : in64 m) :
    (9 < k → (0, false) = mReadDec s) ∧ (¬ 9 < k → (10 < (s.size : Int) → (0, false) = mReadDec s) ∧ (¬ 10 < (s.size : Int) → pDec m ∧ (mDec m ≠ s → (0, false) = mReadDec s) ∧ (¬ mDec m ≠ s → (m, true) = mReadDec s))) := by
  obtain ⟨r1, r2, r3, r4⟩ := readDec_by (s := s)
  have hl := bs_len s
  by_cases hs : 10 < s.size
  · exact ⟨fun _ => (r2 hs).symm, fun _ => ⟨fun _ => (r2 hs).symm, fun h => absurd (by omega) h⟩⟩
  · have hie : i = s.size := by omega
    rw [hie, List.take_of_length_le (by omega)] at hk
    have hm := hm (by omega)
    refine ⟨fun h => (r1 (by omega)).symm, fun h => ⟨fun h => absurd h (by omega), fun _ => ⟨h64, fun hne => (r3 (by rw [← hm]; exact hne)).symm, fun he => ?_⟩⟩⟩
    have he := Classical.not_not.1 he
    rw [r4 (by omega) (by rw [← hm]; exact he), hm]
theorem spec_ReadDec_ok (a0 : S) (h : pReadDec a0) : s_spec_ReadDec a0 (fun r => r = mReadDec a0) := by
  unfold pReadDec sm at h
  have hl := bs_len a0
  intro L hL
  refine loopI hL (fun y => ∃ i : Nat, y.2.2 = (i : Int) ∧ i ≤ a0.size ∧ i ≤ 11 ∧ y.1 = (dv ((bs a0).take i) : Int) ∧ y.2.1 = (dk ((bs a0).take i) : Int)) (fun y => a0.size + 1 - y.2.2.toNat) (fun y hI ih => ?_) (0, 0, 0) ⟨0, rfl, by omega, by omega, by simp [dv, dvs], by simp [dk, dvs]⟩
  obtain ⟨n, k, y3⟩ := y
  obtain ⟨i, hy, hi, hi11, hn, hk⟩ := hI
  simp only at hy hn hk ⊢
  subst hy
  have hb := dv_take_lt (bs a0) i (by omega)
  have hp : 10 ^ dk ((bs a0).take i) ≤ 10 ^ 11 := Nat.pow_le_pow_right (by omega) (by omega)
  have hw1 : IntKind.i64.wrap (0 - n) = -n := by rw [wrap64 (by omega) (by omega)]; omega
  have dneg : bt a0 0 = 45 → a0.size ≤ 10 → 0 < a0.size → i = a0.size → IntKind.i64.wrap (0 - n) = shown (bs a0) := fun h45 h10 h0 hie => by
    have hh : (bs a0).head? = some 45 := by
      have e := (byte_eq (s := a0) (i := 0) h0 45 (by omega)).1 h45
      rw [List.head?_eq_getElem?, List.getElem?_eq_getElem (by omega), e]; rfl
    rw [hie, List.take_of_length_le (by omega)] at hn
    rw [hw1, hn]; unfold shown; rw [if_pos hh]
  have dpos : (0 < a0.size → bt a0 0 ≠ 45) → a0.size ≤ 10 → i = a0.size → n = shown (bs a0) := fun h45 h10 hie => by
    have hh : ¬ (bs a0).head? = some 45 := fun hh => by
      rw [List.head?_eq_getElem?] at hh
      have h0 : 0 < a0.size := by have := (List.getElem?_eq_some_iff.1 hh).1; omega
      rw [List.getElem?_eq_getElem (by omega)] at hh
      exact h45 h0 ((byte_eq (s := a0) (i := 0) h0 45 (by omega)).2 (Option.some.inj hh))
    rw [hie, List.take_of_length_le (by omega)] at hn
    rw [hn]; unfold shown; rw [if_neg hh]
  have i64n : in64 n := ⟨by omega, by omega⟩
  have i64m : in64 (IntKind.i64.wrap (0 - n)) := by rw [hw1]; exact ⟨by omega, by omega⟩
  have endN : bt a0 0 = 45 → 0 < a0.size → (i = a0.size ∨ i = 11) → _ := fun h45 h0 he => readDec_end (k := k) (m := IntKind.i64.wrap (0 - n)) hi he hk (fun h10 => dneg h45 h10 h0 (by omega)) i64m
  have endP : (0 < a0.size → bt a0 0 ≠ 45) → (i = a0.size ∨ i = 11) → _ := fun h45 he => readDec_end (k := k) (m := n) hi he hk (fun h10 => dpos h45 h10 (by omega)) i64n
  refine ⟨fun hlt => ⟨fun h11 => ?_, fun h11 => ?_⟩, fun hge => ?_⟩
  · have hlt : i < a0.size := by omega
    have hi3 : i < (bs a0).length := by omega
    have hbt := bt_nat a0 i hlt
    have e : (bs a0).take (i + 1) = (bs a0).take i ++ [(bs a0)[i]] := by rw [List.take_add_one, List.getElem?_eq_getElem hi3]; rfl
    have hw : IntKind.i64.wrap ((i : Int) + 1) = ((i + 1 : Nat) : Int) := wrapS (by omega)
    have hb1 := dv_take_lt (bs a0) (i + 1) (by omega)
    have skip : Lib.digitVal (bs a0)[i] = none → L (n, k, IntKind.i64.wrap ((i : Int) + 1)) := fun hd => by
      obtain ⟨c1, c2⟩ := dv_none (l := (bs a0).take i) hd
      rw [hw]
      exact ih _ ⟨i + 1, rfl, by omega, by omega, by rw [e, c1]; exact hn, by rw [e, c2]; exact hk⟩ (by simp only [Int.toNat_natCast]; omega)
    have hx : ((bs a0)[i]).toNat < 256 := UInt8.toNat_lt _
    have none_of : ¬ (48 ≤ ((bs a0)[i]).toNat ∧ ((bs a0)[i]).toNat ≤ 57) → Lib.digitVal (bs a0)[i] = none := fun hh => by unfold Lib.digitVal; rw [if_neg hh]
    rw [hbt]
    refine ⟨by omega, by omega, fun h48 => ⟨by omega, by omega, fun h57 => ⟨by omega, by omega, ?_⟩, fun h57 => skip (none_of (by omega))⟩, fun h48 => skip (none_of (by omega))⟩
    have hd : Lib.digitVal (bs a0)[i] = some (((bs a0)[i]).toNat - 48) := by unfold Lib.digitVal; rw [if_pos ⟨by omega, by omega⟩]
    obtain ⟨c1, c2⟩ := dv_some (l := (bs a0).take i) hd
    have w1 : IntKind.u8.wrap (((((bs a0)[i]).toNat : Nat) : Int) - 48) = ((((bs a0)[i]).toNat - 48 : Nat) : Int) := by rw [IntKind.wrap_u8]; omega
    have w2 : IntKind.i64.wrap (n * 10) = n * 10 := wrap64 (by omega) (by omega)
    have w3 : IntKind.i64.wrap ((((bs a0)[i]).toNat - 48 : Nat) : Int) = ((((bs a0)[i]).toNat - 48 : Nat) : Int) := wrap64 (by omega) (by omega)
    have w4 : IntKind.i64.wrap (n * 10 + ((((bs a0)[i]).toNat - 48 : Nat) : Int)) = n * 10 + ((((bs a0)[i]).toNat - 48 : Nat) : Int) := wrap64 (by omega) (by omega)
    have w5 : IntKind.i64.wrap (k + 1) = k + 1 := wrap64 (by omega) (by omega)
    have en : n * 10 + ((((bs a0)[i]).toNat - 48 : Nat) : Int) = ((dv ((bs a0).take (i + 1)) : Nat) : Int) := by rw [e, c1]; omega
    have ek : k + 1 = ((dk ((bs a0).take (i + 1)) : Nat) : Int) := by rw [e, c2]; omega
    rw [w1, w2, w3, w4, w5, hw, en, ek]
    exact ih (((dv ((bs a0).take (i + 1)) : Nat) : Int), ((dk ((bs a0).take (i + 1)) : Nat) : Int), ((i + 1 : Nat) : Int)) ⟨i + 1, rfl, by omega, by omega, rfl, rfl⟩ (by simp only [Int.toNat_natCast]; omega)
  · have he : i = a0.size ∨ i = 11 := by omega
    exact ⟨fun h0 => ⟨by omega, h0, fun h45 => endN h45 (by omega) he, fun h45 => endP (fun _ => h45) he⟩, fun h0 => endP (fun h0' => absurd h0' (by omega)) he⟩
  · have he : i = a0.size ∨ i = 11 := by omega
    exact ⟨fun h0 => ⟨by omega, h0, fun h45 => endN h45 (by omega) he, fun h45 => endP (fun _ => h45) he⟩, fun h0 => endP (fun h0' => absurd h0' (by omega)) he⟩
end Go.Ev
end

section
/- Laws of the plain library: the version that a tag says. -/
set_option linter.unusedVariables false
namespace Go.Ev
theorem readDec_range {s : S} : -999999999 ≤ (mReadDec s).1 ∧ (mReadDec s).1 ≤ 999999999 := by
  unfold mReadDec
  split
  · next h => obtain ⟨c0, c1, c2⟩ := Classical.choose_spec h; exact ⟨c0, c1⟩
  · exact ⟨by simp, by simp⟩
theorem tag_size {n : Int} (h : mIn n 1 100000 = true) : bs (mTagOf n) = [34, 118] ++ bs (mDec n) ++ [34] := by
  unfold mTagOf; rw [if_pos h, bs_append, bs_append]; rfl
theorem tag_inner {n : Int} (h : mIn n 1 100000 = true) : (mTagOf n).extract 2 ((mTagOf n).size - 1) = mDec n := by
  have hs := bs_len (mTagOf n)
  rw [tag_size h] at hs
  simp only [List.length_append, List.length_cons, List.length_nil] at hs
  refine bs_inj ?_
  rw [bs_extract, tag_size h, ← hs]
  simp [List.drop_append, List.take_append]
theorem dec_size {n : Int} : 1 ≤ (mDec n).size := by
  unfold mDec mItoa
  rw [ob_size, Lib.itoa]
  split
  · simp
  · rw [Lib.decDigits_length]; exact Lib.nDigits_pos _
theorem tag_small {n : Int} (h : 3 ≤ (mTagOf n).size) : mIn n 1 100000 = true ∧ 4 ≤ (mTagOf n).size := by
  by_cases hi : mIn n 1 100000 = true
  · refine ⟨hi, ?_⟩
    have hs := bs_len (mTagOf n)
    have hd := dec_size (n := n)
    rw [tag_size hi] at hs
    simp only [List.length_append, List.length_cons, List.length_nil, bs_len] at hs
    omega
  · unfold mTagOf at h
    rw [if_neg hi] at h
    have : (lit []).size = 0 := rfl
    omega
/-- What both find. -/
theorem version_by {r : Rsp} {t : S} (ht : t = (mFieldGet r.2.1 (lit [101, 116, 97, 103])).1) : (t.size < 4 → mVersionIn r = 0) ∧
    ((mReadDec (t.extract 2 (t.size - 1))).2 = false → mVersionIn r = 0) ∧ (mTagOf (mReadDec (t.extract 2 (t.size - 1))).1 ≠ t → mVersionIn r = 0) ∧
    (3 ≤ t.size → mTagOf (mReadDec (t.extract 2 (t.size - 1))).1 = t → mVersionIn r = (mReadDec (t.extract 2 (t.size - 1))).1) := by
  have key : ∀ n : Int, 1 ≤ n → n ≤ 100000 → mTagOf n = t → 4 ≤ t.size ∧ mReadDec (t.extract 2 (t.size - 1)) = (n, true) := fun n h0 h1 e => by
    have hi : mIn n 1 100000 = true := by unfold mIn; simp [h0, h1]
    have hs := bs_len (mTagOf n)
    have hd := dec_size (n := n)
    have hz := tag_size hi
    rw [hz] at hs
    simp only [List.length_append, List.length_cons, List.length_nil, bs_len] at hs
    rw [← e]
    refine ⟨by omega, ?_⟩
    rw [tag_inner hi]
    exact readDec_some (by omega) (by omega) rfl
  have none : (∀ n : Int, 1 ≤ n → n ≤ 100000 → mTagOf n ≠ t) → mVersionIn r = 0 := fun h => by
    unfold mVersionIn
    rw [dif_neg]
    rintro ⟨n, h0, h1, e⟩
    exact h n h0 h1 (e.trans ht.symm)
  have some : ∀ n : Int, 1 ≤ n → n ≤ 100000 → mTagOf n = t → mVersionIn r = n := fun n h0 h1 e => by
    have hex : ∃ n : Int, 1 ≤ n ∧ n ≤ 100000 ∧ mTagOf n = (mFieldGet r.2.1 (lit [101, 116, 97, 103])).1 := ⟨n, h0, h1, e.trans ht⟩
    unfold mVersionIn
    rw [dif_pos hex]
    obtain ⟨c0, c1, c2⟩ := Classical.choose_spec hex
    generalize Classical.choose hex = m at c0 c1 c2
    have a := (key m c0 c1 (c2.trans ht.symm)).2
    have b := (key n h0 h1 e).2
    rw [a] at b
    exact congrArg Prod.fst b
  refine ⟨fun h => none fun n h0 h1 e => ?_, fun h => none fun n h0 h1 e => ?_, fun h => none fun n h0 h1 e => ?_, fun h e => ?_⟩
  · have := (key n h0 h1 e).1; omega
  · have := (key n h0 h1 e).2; rw [this] at h; cases h
  · have := (key n h0 h1 e).2; rw [this] at h; exact h e
  · have hin := tag_small (n := (mReadDec (t.extract 2 (t.size - 1))).1) (by rw [e]; exact h)
    have hi : 1 ≤ (mReadDec (t.extract 2 (t.size - 1))).1 ∧ (mReadDec (t.extract 2 (t.size - 1))).1 ≤ 100000 := by have := hin.1; unfold mIn at this; simpa using this
    exact some _ hi.1 hi.2 e
theorem impl_VersionIn_ok (a0 : Rsp) (h : pVersionIn a0) : s_impl_VersionIn a0 (fun r => r = mVersionIn a0) := by
  have h : md a0.2.1 := h
  have hg := fieldGet_size a0.2.1 (lit [101, 116, 97, 103]) h
  obtain ⟨r1, r2, r3, r4⟩ := version_by (r := a0) rfl
  unfold s_impl_VersionIn
  generalize (mFieldGet a0.2.1 (lit [101, 116, 97, 103])).1 = t at *
  refine ⟨h, fun h3 => (r1 (by omega)).symm, fun h3 => ?_⟩
  have hw : IntKind.i64.wrap ((t.size : Int) - 1) = ((t.size - 1 : Nat) : Int) := by rw [wrap64 (by omega) (by omega)]; omega
  rw [hw, Int.toNat_natCast, show (2 : Int).toNat = 2 from rfl]
  have hx := extract_size t 2 (t.size - 1)
  have hr := readDec_range (s := t.extract 2 (t.size - 1))
  refine ⟨by omega, by omega, by omega, by unfold pReadDec sm; omega, fun c => (r2 (by simpa using c)).symm, fun c => ⟨⟨by omega, by omega⟩, fun c2 => (r3 c2).symm, fun c2 => (r4 (by omega) (Classical.not_not.1 c2)).symm⟩⟩
theorem spec_VersionIn_ok (a0 : Rsp) (h : pVersionIn a0) : s_spec_VersionIn a0 (fun r => r = mVersionIn a0) := by
  have h : md a0.2.1 := h
  have hg := fieldGet_size a0.2.1 (lit [101, 116, 97, 103]) h
  obtain ⟨r1, r2, r3, r4⟩ := version_by (r := a0) rfl
  unfold s_spec_VersionIn
  generalize (mFieldGet a0.2.1 (lit [101, 116, 97, 103])).1 = t at *
  refine ⟨h, fun h3 => (r1 (by omega)).symm, fun h3 => ?_⟩
  have hw : IntKind.i64.wrap ((t.size : Int) - 1) = ((t.size - 1 : Nat) : Int) := by rw [wrap64 (by omega) (by omega)]; omega
  rw [hw, Int.toNat_natCast, show (2 : Int).toNat = 2 from rfl]
  have hx := extract_size t 2 (t.size - 1)
  have hr := readDec_range (s := t.extract 2 (t.size - 1))
  refine ⟨by omega, by omega, by omega, by unfold pReadDec sm; omega, fun c => (r2 (by simpa using c)).symm, fun c => ⟨⟨by omega, by omega⟩, fun c2 => (r3 c2).symm, fun c2 => (r4 (by omega) (Classical.not_not.1 c2)).symm⟩⟩
end Go.Ev
end

section
/- Laws of the plain library: a numeral is read by the library. -/
set_option linter.unusedVariables false
namespace Go.Ev
theorem decFrom_snoc : ∀ (l : List UInt8) (acc n : Nat) (b : UInt8) (d : Nat), Lib.decFrom acc l = some n → Lib.digitVal b = some d → Lib.decFrom acc (l ++ [b]) = some (n * 10 + d)
  | [], acc, n, b, d, h, hd => by
    simp only [Lib.decFrom, Option.some.injEq] at h
    subst h
    simp only [List.nil_append, Lib.decFrom, hd]
  | a :: l, acc, n, b, d, h, hd => by
    simp only [List.cons_append, Lib.decFrom] at h ⊢
    cases ha : Lib.digitVal a with
    | none => rw [ha] at h; cases h
    | some e => rw [ha] at h; exact decFrom_snoc l _ n b d h hd
theorem decFrom_dec : ∀ u : Nat, Lib.decFrom 0 (Lib.decDigits u) = some u := by
  intro u
  induction u using Nat.strongRecOn with
  | _ u ih =>
    by_cases h : u < 10
    · rw [Lib.decDigits_one h]
      simp only [Lib.decFrom, digit_of h]; simp
    · rw [Lib.decDigits, dif_neg h, decFrom_snoc _ 0 (u / 10) _ (u % 10) (ih _ (by omega)) (digit_of (Nat.mod_lt _ (by decide)))]
      congr 1; omega
theorem decNat_dec (u : Nat) : Lib.decNat (Lib.decDigits u) = some u := by
  obtain ⟨b, r, e, _, _⟩ := dec_head u
  unfold Lib.decNat
  rw [if_neg (by rw [e]; simp), decFrom_dec]
theorem atoi_cons (b : UInt8) (r : List UInt8) : Lib.atoi (b :: r) = if b == 45 then (Lib.decNat r).map fun (m : Nat) => -(m : Int) else if b == 43 then (Lib.decNat r).map fun (m : Nat) => (m : Int) else (Lib.decNat (b :: r)).map fun (m : Nat) => (m : Int) := rfl
theorem atoi_itoa (n : Int) : Lib.atoi (Lib.itoa n) = some n := by
  by_cases hn : n < 0
  · rw [show Lib.itoa n = 45 :: Lib.decDigits n.natAbs from if_pos hn]
    rw [atoi_cons, if_pos (show ((45 : UInt8) == 45) = true from rfl), decNat_dec]
    simp; omega
  · rw [show Lib.itoa n = Lib.decDigits n.natAbs by unfold Lib.itoa; rw [if_neg hn, show n.toNat = n.natAbs by omega]]
    obtain ⟨b, r, e, h1, h2⟩ := dec_head n.natAbs
    have hd := decNat_dec n.natAbs
    rw [e] at hd ⊢
    rw [atoi_cons, if_neg (by simpa using h1), if_neg (by simpa using h2), hd]
    simp; omega
theorem atoiAll_itoa {n : Int} (h0 : -999999999 ≤ n) (h1 : n ≤ 999999999) : Lib.atoiAll (Lib.itoa n) = .ok n := by
  have := (shown_itoa h0 h1).2.2
  rw [Lib.atoiAll_short _ (by omega), atoi_itoa]; rfl
/-- The library finds a number. -/
theorem readDec_ok {s : S} {v : Int} (h : Lib.atoiAll (bs s) = .ok v) : (mDec v ≠ s → mReadDec s = (0, false)) ∧ (¬ (-999999999 ≤ v ∧ v ≤ 999999999) → mReadDec s = (0, false)) ∧ (mDec v = s → -999999999 ≤ v ∧ v ≤ 999999999 → mReadDec s = (v, true)) := by
  have key : ∀ n : Int, -999999999 ≤ n → n ≤ 999999999 → mDec n = s → n = v := fun n h0 h1 e => by
    have := atoiAll_itoa h0 h1
    rw [← e] at h
    have h : Lib.atoiAll (Lib.itoa n) = .ok v := h
    rw [h] at this
    cases this; rfl
  refine ⟨fun hne => readDec_none fun n h0 h1 e => hne ?_, fun hne => readDec_none fun n h0 h1 e => hne ?_, fun he hr => readDec_some hr.1 hr.2 he⟩
  · rw [← key n h0 h1 e]; exact e
  · rw [← key n h0 h1 e]; exact ⟨h0, h1⟩
/-- It finds none. -/
theorem readDec_no {s : S} (h : ∀ v, Lib.atoiAll (bs s) ≠ .ok v) : mReadDec s = (0, false) :=
  readDec_none fun n h0 h1 e => h n (by rw [← e]; exact atoiAll_itoa h0 h1)
end Go.Ev
end

section
/- Library functions: strings.Join, strings.Trim, strings.Cut, strings.IndexByte: contracts of the small machine. -/
set_option linter.unusedVariables false
namespace Go.Ev
open Go.RowKit
theorem res_bool {S : Nat → Prop} {col : Nat → Option Nat} {W : World} (x : Bool) : resR S col W false [(false, [.bool])] (x : caps [[L.bool]]) 0 [.bool x] := by
  simp only [resR]
  exact ⟨_, _, [.bool x], rfl, by simp only [outR]; exact ⟨_, _, rfl, rfl, rfl⟩, .inr rfl, rfl⟩
theorem cell_lt {w : World} {a : Addr} {v : Value} (h : w.cell? a = some v) : a.block < w.heap.size := by
  rcases Nat.lt_or_ge a.block w.heap.size with h' | h'
  · exact h'
  · unfold World.cell? at h
    rw [Array.getElem?_eq_none h'] at h
    simp at h
/-! ### strings.IndexByte -/
def indexByteCt (f : FuncId) : Ct := { f, ps := [.v false .ro [.str], .v false .ro [.int .u8]], rs := [(false, [.int .i64])], shared := false, pre := fun (x : S × Int) => pIndexByte x.1 x.2, F := fun (x : S × Int) => mIndexByte x.1 x.2 }
theorem indexByte_ct {P : Program} {f : FuncId} {w : World} (hf : FnIs P f)
    (hI : ∀ (s : ByteArray) (c : Int), Calls P f #[.string s, .int .u8 c] w fun e w' => e = .returned (.int .i64 (Lib.indexByte s.data.toList c.toNat.toUInt8)) ∧ w' = w) : CtAt P (indexByteCt f) w := by
  refine ct_lib hf fun vals x S hS ha hp => ?_
  obtain ⟨v, vs', hv, h1, h2⟩ := args_v ha
  obtain ⟨u, us', rfl, h3, h4⟩ := args_v h2
  have h4 := args_e h4
  subst h4
  have h1 : v = .string x.1 := h1
  have h3 : u = .int .u8 x.2 := h3
  subst h1; subst h3
  rw [arr_of hv]
  refine (hI x.1 x.2).mono fun e w' ⟨he, hw⟩ => ⟨[.int .i64 (mIndexByte x.1 x.2)], _, he, ?_, Or.inl rfl, fun S' => res_int _⟩
  rw [hw]; exact Below.refl _ _
/-! ### strings.Trim -/
def trimLCt (f : FuncId) : Ct := { f, ps := [.v false .ro [.str], .v false .ro [.str]], rs := [(false, [.str])], shared := false, pre := fun (x : S × S) => pTrimL x.1 x.2, F := fun (x : S × S) => mTrimL x.1 x.2 }
theorem trimL_ct {P : Program} {f : FuncId} {w : World} (hf : FnIs P f)
    (hI : ∀ (s cs : ByteArray), s.size ≤ 9223372036854775807 → cs.size < 4294967281 → (∀ (j : Nat) b, cs.data.toList[j]? = some b → b.toNat < 128) →
      Calls P f #[.string s, .string cs] w fun e w' => e = .returned (.string ⟨(Lib.trimS s.data.toList cs.data.toList).toArray⟩) ∧ Below w.heap.size w w') : CtAt P (trimLCt f) w := by
  refine ct_lib hf fun vals x S hS ha hp => ?_
  obtain ⟨v, vs', hv, h1, h2⟩ := args_v ha
  obtain ⟨u, us', rfl, h3, h4⟩ := args_v h2
  have h4 := args_e h4
  subst h4
  have h1 : v = .string x.1 := h1
  have h3 : u = .string x.2 := h3
  subst h1; subst h3
  rw [arr_of hv]
  have hp : x.1.size ≤ 1073741824 ∧ x.2 = lit [32, 9] := hp
  obtain ⟨hp1, hp2⟩ := hp
  have hall : ∀ b ∈ (lit [32, 9]).data.toList, b.toNat < 128 := by decide
  refine (hI x.1 x.2 (by omega) (by rw [hp2]; decide) (fun j b hb => by rw [hp2] at hb; exact hall b (List.mem_of_getElem? hb))).mono fun e w' ⟨he, hb⟩ => ⟨[.string (mTrimL x.1 x.2)], _, he, hb, Or.inl rfl, fun S' => res_str _⟩
/-! ### strings.Cut -/
def cutCt (f : FuncId) : Ct := { f, ps := [.v false .ro [.str], .v false .ro [.str]], rs := [(false, [.str]), (false, [.str]), (false, [.bool])], shared := false, pre := fun (x : S × S) => pCut x.1 x.2, F := fun (x : S × S) => mCut x.1 x.2 }
theorem cut_ct {P : Program} {f : FuncId} {w : World} (hf : FnIs P f)
    (hI : ∀ (s sep : ByteArray), s.size < 4294967281 →
      Calls P f #[.string s, .string sep] w fun e w' => e = .returned (.tuple #[.string ⟨(Lib.cut s.data.toList sep.data.toList).1.toArray⟩, .string ⟨(Lib.cut s.data.toList sep.data.toList).2.1.toArray⟩, .bool (Lib.cut s.data.toList sep.data.toList).2.2]) ∧ ∃ n, w' = w.drewN n) : CtAt P (cutCt f) w := by
  refine ct_lib hf fun vals x S hS ha hp => ?_
  obtain ⟨v, vs', hv, h1, h2⟩ := args_v ha
  obtain ⟨u, us', rfl, h3, h4⟩ := args_v h2
  have h4 := args_e h4
  subst h4
  have h1 : v = .string x.1 := h1
  have h3 : u = .string x.2 := h3
  subst h1; subst h3
  rw [arr_of hv]
  have hp : x.1.size ≤ 1073741824 := hp
  refine (hI x.1 x.2 (by omega)).mono fun e w' ⟨he, n, hw⟩ => ⟨[.string (mCut x.1 x.2).1, .string (mCut x.1 x.2).2.1, .bool (mCut x.1 x.2).2.2], _, he, ?_, Or.inr ⟨by simp, rfl⟩, fun S' => ?_⟩
  · rw [hw]
    exact ⟨rfl, rfl, rfl, Nat.le_refl _, fun _ _ => rfl⟩
  · simp only [cutCt, resR]
    refine ⟨_, _, [.string (mCut x.1 x.2).1], rfl, by simp only [outR]; exact ⟨_, _, rfl, rfl, rfl⟩, .inr rfl, ?_⟩
    refine ⟨_, _, [.string (mCut x.1 x.2).2.1], rfl, by simp only [outR]; exact ⟨_, _, rfl, rfl, rfl⟩, .inr rfl, ?_⟩
    exact ⟨_, _, [.bool (mCut x.1 x.2).2.2], rfl, by simp only [outR]; exact ⟨_, _, rfl, rfl, rfl⟩, .inr rfl, rfl⟩
/-! ### strings.Join -/
theorem joinL_tail (sep : S) : ∀ (x : S) (r : List S), bs (joinL sep (x :: r)) = bs x ++ Lib.joinTail (bs sep) (r.map bs)
  | x, [] => by simp [joinL, Lib.joinTail]
  | x, y :: r => by
    rw [joinL, bs_append, bs_append, joinL_tail sep y r]
    simp only [Lib.joinTail, List.map_cons, List.flatten_cons, List.append_assoc]
theorem mJoin_lib (xs : List S) (sep : S) : mJoin xs sep = ob (Lib.join (xs.map bs) (bs sep)) := by
  cases xs with
  | nil => rfl
  | cons x r =>
    refine bs_inj ?_
    rw [bs_ob, mJoin, joinL_tail, List.map_cons, Lib.join_cons]
theorem lens_sum : ∀ xs : List S, Lib.lens (xs.map bs) = sumN (xs.map fun x => x.size)
  | [] => rfl
  | x :: r => by
    have := lens_sum r
    unfold Lib.lens at this ⊢
    simp only [List.map_cons, List.sum_cons, sumN, bs_len] at this ⊢
    omega
theorem join_core {P : Program} {f : FuncId} {w : World} {S : Nat → Prop} (hS : ∀ b, S b → b < w.heap.size)
    (h0 : ∀ (a : Option Addr) (c : Nat) (sep : ByteArray), Calls P f #[.slice a 0 c, .string sep] w fun e w' => e = .returned (.string ⟨#[]⟩) ∧ w' = w)
    (hI : ∀ (bk o c : Nat) (xs : List ByteArray) (sep : ByteArray), (∀ (j : Nat) x, xs[j]? = some x → w.cell? ⟨bk, o + j, none⟩ = some (.string x)) → bk < w.heap.size → xs.length ≤ 140737488355328 → xs.length ≤ c → (Lib.join (xs.map (·.data.toList)) sep.data.toList).length ≤ 140737488355328 →
      Calls P f #[.slice (some ⟨bk, o, none⟩) xs.length c, .string sep] w fun e w' => e = .returned (.string ⟨(Lib.join (xs.map (·.data.toList)) sep.data.toList).toArray⟩) ∧ Below w.heap.size w w')
    (xs : List ByteArray) (sep : ByteArray) (hp : pJoin xs sep) (A : Option Addr) (cap : Nat) (cs : List Value) (hcap : xs.length ≤ cap) (hcl : cs.length = xs.length * 1)
    (hA : 0 < xs.length * 1 → ∃ ad, A = some ad ∧ S ad.block ∧ ∀ (j : Nat) (u : Value), cs[j]? = some u → w.cell? (ad.add j) = some u)
    (hx : ∀ (i : Nat) (y : ByteArray), xs[i]? = some y → (cs.drop (i * 1)).take 1 = [.string y]) :
    Calls P f #[.slice A xs.length cap, .string sep] w fun e w' => e = .returned (.string (mJoin xs sep)) ∧ Below w.heap.size w w' := by
  obtain ⟨hp1, hp2, hp3⟩ := hp
  by_cases hn : xs.length = 0
  · have : xs = [] := List.length_eq_zero_iff.1 hn
    subst this
    refine (h0 A cap sep).mono fun e w' ⟨he, hw⟩ => ⟨he, ?_⟩
    rw [hw]; exact Below.refl _ _
  · obtain ⟨ad, rfl, hb, hcells⟩ := hA (by omega)
    have hget : ∀ (j : Nat) (y : ByteArray), xs[j]? = some y → w.cell? (ad.add j) = some (.string y) := fun j y hj => by
      refine hcells j _ ?_
      have := congrArg (·[0]?) (hx j y hj)
      simpa [List.getElem?_take, List.getElem?_drop] using this
    have hx0 : xs[0]? = some (xs[0]'(by omega)) := List.getElem?_eq_getElem (by omega)
    have hsp := World.cell?_spot (hget 0 _ hx0)
    have hadd : ∀ j, ad.add j = ⟨ad.block, ad.off + j, none⟩ := fun j => by
      have : ad.spot = none := by
        rw [addr_zero] at hsp; exact hsp
      obtain ⟨b, o, s⟩ := ad
      simp only at this
      subst this
      unfold Addr.add
      split
      · rename_i h; subst h; rfl
      · rfl
    have had : ad = ⟨ad.block, ad.off, none⟩ := by have := hadd 0; rw [addr_zero] at this; exact this
    have hjl : (Lib.join (xs.map (·.data.toList)) sep.data.toList).length ≤ 140737488355328 := by
      cases xs with
      | nil => simp at hn
      | cons y r =>
        have h6 := Lib.join_length (bs y) (r.map bs) (bs sep)
        have h7 := lens_sum (y :: r)
        have h8 : (bs sep).length ≤ 16 := by rw [bs_len]; exact hp3
        have h9 : (bs sep).length * (r.map bs).length ≤ 16 * r.length := by rw [List.length_map]; exact Nat.mul_le_mul_right _ h8
        have h10 : (Lib.join ((y :: r).map bs) (bs sep)).length ≤ 140737488355328 := by
          rw [List.map_cons, h6]
          rw [List.map_cons] at h7
          simp only [List.length_cons] at hp1
          omega
        exact h10
    rw [had]
    refine (hI ad.block ad.off cap xs sep (fun j y hj => by rw [← hadd j]; exact hget j y hj) (hS _ hb) (by omega) hcap hjl).mono fun e w' ⟨he, hbel⟩ => ⟨?_, hbel⟩
    rw [he, mJoin_lib]; rfl
def joinCt (e : TypeId) (f : FuncId) : Ct := { f, ps := [.v false .ro [.list e [.str]], .v false .ro [.str]], rs := [(false, [.str])], shared := false, pre := fun (x : List S × S) => pJoin x.1 x.2, F := fun (x : List S × S) => mJoin x.1 x.2 }
theorem join_row {w : World} {S : Nat → Prop} {e : TypeId} {p : Col} {xs : List ByteArray} {v : Value} (h : repL (roRow w S) (.list e [.str]) p (xs : List (dens [L.str])) v) :
    ∃ (A : Option Addr) (cap : Nat) (cs : List Value), v = .slice A xs.length cap ∧ xs.length ≤ cap ∧ cs.length = xs.length * 1 ∧ (0 < xs.length * 1 → ∃ ad, A = some ad ∧ S ad.block ∧ ∀ (j : Nat) (u : Value), cs[j]? = some u → w.cell? (ad.add j) = some u) ∧
      ∀ (i : Nat) (y : ByteArray), xs[i]? = some y → (cs.drop (i * 1)).take 1 = [.string y] := by
  simp only [repL] at h
  obtain ⟨cs, ⟨A, cap, hv, hcap, hA⟩, hcl, hx⟩ := h
  refine ⟨A, cap, cs, hv, hcap, hcl, hA, fun i y hi => ?_⟩
  have h5 := hx i y hi
  simp only [repLs, repL] at h5
  obtain ⟨v, hv, rfl⟩ := h5
  exact hv
theorem join_ct {P : Program} {e : TypeId} {f : FuncId} {w : World} (hf : FnIs P f)
    (h0 : ∀ (a : Option Addr) (c : Nat) (sep : ByteArray), Calls P f #[.slice a 0 c, .string sep] w fun e w' => e = .returned (.string ⟨#[]⟩) ∧ w' = w)
    (hI : ∀ (bk o c : Nat) (xs : List ByteArray) (sep : ByteArray), (∀ (j : Nat) x, xs[j]? = some x → w.cell? ⟨bk, o + j, none⟩ = some (.string x)) → bk < w.heap.size → xs.length ≤ 140737488355328 → xs.length ≤ c → (Lib.join (xs.map (·.data.toList)) sep.data.toList).length ≤ 140737488355328 →
      Calls P f #[.slice (some ⟨bk, o, none⟩) xs.length c, .string sep] w fun e w' => e = .returned (.string ⟨(Lib.join (xs.map (·.data.toList)) sep.data.toList).toArray⟩) ∧ Below w.heap.size w w') : CtAt P (joinCt e f) w := by
  refine ct_lib hf fun vals x S hS ha hp => ?_
  obtain ⟨v, vs', hv, h1, h2⟩ := args_v ha
  obtain ⟨u, us', rfl, h3, h4⟩ := args_v h2
  have h4 := args_e h4
  subst h4
  have h3 : u = .string x.2 := h3
  subst h3
  obtain ⟨A, cap, cs, rfl, hcap, hcl, hA, hx⟩ := join_row (xs := x.1) h1
  rw [arr_of hv]
  exact (join_core hS h0 hI x.1 x.2 hp A cap cs hcap hcl hA hx).mono fun e w' ⟨he, hb⟩ => ⟨[.string (mJoin x.1 x.2)], _, he, hb, Or.inl rfl, fun S' => res_str _⟩
end Go.Ev
end

section
/- impl.ReadDec: its contract, out of a walk. -/
set_option linter.unusedVariables false
namespace Go.Ev
open Go.RowKit
noncomputable def readDecCt (f : FuncId) : Ct := { f, ps := [.v false .ro [.str]], rs := [(false, [.int .i64]), (false, [.bool])], shared := false, pre := fun (x : S) => pReadDec x, F := fun (x : S) => mReadDec x }
theorem readDec_ct {P : Program} {f : FuncId} {w : World} (hf : FnIs P f)
    (hI : ∀ s : ByteArray, s.size ≤ 1073741824 → Calls P f #[.string s] w fun e w' => e = .returned (.tuple #[.int .i64 (mReadDec s).1, .bool (mReadDec s).2]) ∧ Below w.heap.size w w') : CtAt P (readDecCt f) w := by
  refine ct_lib hf fun vals x S hS ha hp => ?_
  obtain ⟨v, vs', hv, h1, h2⟩ := args_v ha
  have h2 := args_e h2
  subst h2
  have h1 : v = .string x := h1
  subst h1
  rw [arr_of hv]
  refine (hI x hp).mono fun e w' ⟨he, hb⟩ => ⟨[.int .i64 (mReadDec x).1, .bool (mReadDec x).2], _, he, hb, Or.inr ⟨by simp, rfl⟩, fun S' => ?_⟩
  simp only [readDecCt, resR]
  refine ⟨_, _, [.int .i64 (mReadDec x).1], rfl, by simp only [outR]; exact ⟨_, _, rfl, rfl, rfl⟩, .inr rfl, ?_⟩
  exact ⟨_, _, [.bool (mReadDec x).2], rfl, by simp only [outR]; exact ⟨_, _, rfl, rfl, rfl⟩, .inr rfl, rfl⟩
/-! ### From contracts to calls -/
theorem str_end {P : Program} {f : FuncId} {ps : List PT} {pre : pts ps → Prop} {F : pts ps → caps [[L.str]]} {W : World} {vals : Array Value} {S : Nat → Prop} {x : pts ps} (h : CtAt P { f, ps, rs := [(false, [.str])], shared := false, pre, F } W) (hargs : argsR S W ps x vals.toList) (hS : ∀ b, S b → b < W.heap.size) (hpre : pre x) :
    Calls P f vals W fun e w' => e = .returned (.string (F x : ByteArray)) ∧ Below W.heap.size W w' := by
  obtain ⟨_, hc⟩ := h vals x S hS hargs hpre
  refine hc.mono fun e w' ⟨vs, v, col, he, hb, hv, _, hr⟩ => ?_
  simp only [resR] at hr
  obtain ⟨u, vs', cs, rfl, ho, hs, rfl⟩ := hr
  simp only [outR, repL] at ho
  obtain ⟨u2, cs', rfl, hb2, rfl⟩ := ho
  have hs := hs.resolve_left fun h => by simp [anyRes] at h
  simp only [slotV, Bool.false_eq_true, if_false] at hs
  have e1 : u2 = u := by simpa using hs
  subst e1
  have hu : u2 = .string (F x : ByteArray) := hb2
  refine ⟨?_, hb⟩
  rw [he]
  rcases hv with hv | ⟨hv, _⟩
  · have : v = u2 := by simpa using hv.symm
    rw [this, hu]
  · simp at hv
theorem bool_endF {P : Program} {f : FuncId} {ps : List PT} {pre : pts ps → Prop} {F : pts ps → caps [[L.bool]]} {W : World} {vals : Array Value} {S : Nat → Prop} {x : pts ps} (h : CtAt P { f, ps, rs := [(false, [.bool])], shared := false, pre, F } W) (hargs : argsR S W ps x vals.toList) (hS : ∀ b, S b → b < W.heap.size) (hpre : pre x) :
    Calls P f vals W fun e w' => e = .returned (.bool (F x : Bool)) ∧ Below W.heap.size W w' := by
  obtain ⟨_, hc⟩ := h vals x S hS hargs hpre
  refine hc.mono fun e w' ⟨vs, v, col, he, hb, hv, _, hr⟩ => ?_
  simp only [resR] at hr
  obtain ⟨u, vs', cs, rfl, ho, hs, rfl⟩ := hr
  simp only [outR, repL] at ho
  obtain ⟨u2, cs', rfl, hb2, rfl⟩ := ho
  have hs := hs.resolve_left fun h => by simp [anyRes] at h
  simp only [slotV, Bool.false_eq_true, if_false] at hs
  have e1 : u2 = u := by simpa using hs
  subst e1
  have hu : u2 = .bool (F x : Bool) := hb2
  refine ⟨?_, hb⟩
  rw [he]
  rcases hv with hv | ⟨hv, _⟩
  · have : v = u2 := by simpa using hv.symm
    rw [this, hu]
  · simp at hv
end Go.Ev
end

section
/- Library functions: strconv.Atoi, strings.TrimLeft, strings.Split: contracts of the small machine; what their variables hold. -/
set_option linter.unusedVariables false
namespace Go.Ev
open Go.RowKit
/-- A variable holds an error. -/
def ErrAt (g : Nat) (w : World) : Prop := ∃ ev, w.cell? ⟨g, 0, none⟩ = some ev ∧ (ev = .nilIface ∨ ∃ te pe, ev = .iface te pe)
theorem errAt_below {g : Nat} {w w' : World} (h : ErrAt g w) (hb : Below w.heap.size w w') : ErrAt g w' := by
  obtain ⟨ev, h1, h2⟩ := h
  exact ⟨ev, (hb.cell (cell_lt h1)).trans h1, h2⟩
/-- A variable holds a number. -/
def NumAt (g : Nat) (w : World) : Prop := ∃ m, w.cell? ⟨g, 0, none⟩ = some (.int .i64 m)
theorem numAt_below {g : Nat} {w w' : World} (h : NumAt g w) (hb : Below w.heap.size w w') : NumAt g w' := by
  obtain ⟨m, hm⟩ := h
  exact ⟨m, (hb.cell (cell_lt hm)).trans hm⟩
/-! ### strconv.Atoi -/
def mAtoi (s : S) : Int := match Lib.atoiAll (bs s) with
  | .ok v => v
  | .«syntax» => 0
  | .range => Lib.atoiSat (bs s)
def pAtoi (s : S) : Prop := sm s
def atoiCt (f : FuncId) : Ct := { f, ps := [.v false .ro [.str]], rs := [(false, [.int .i64]), (false, [])], shared := false, pre := fun (x : S) => pAtoi x, F := fun (x : S) => ((mAtoi x, ()) : Int × Unit) }
theorem res_any {S : Nat → Prop} {col : Nat → Option Nat} {W : World} {k : IntKind} (x : Int) (v : Value) : resR S col W false [(false, [.int k]), (false, [])] ((x, ()) : Int × Unit) 0 [.int k x, v] := by
  simp only [resR]
  refine ⟨_, _, [.int k x], rfl, by simp only [outR]; exact ⟨_, _, rfl, rfl, rfl⟩, .inr rfl, ?_⟩
  exact ⟨_, _, [], rfl, rfl, .inl rfl, rfl⟩
theorem atoi_ct {P : Program} {f : FuncId} {w : World} {gS gR : Nat} (hf : FnIs P f) (hS : ErrAt gS w) (hR : ErrAt gR w)
    (hok : ∀ (s : ByteArray), s.size ≤ 9223372036854775806 → ∀ v, Lib.atoiAll s.data.toList = .ok v → Calls P f #[.string s] w fun e w' => e = .returned (.tuple #[.int .i64 v, .nilIface]) ∧ Below w.heap.size w w')
    (hsy : ∀ (s : ByteArray), s.size ≤ 281474976710656 → Lib.atoiAll s.data.toList = .«syntax» → ∀ ev, w.cell? ⟨gS, 0, none⟩ = some ev → (ev = .nilIface ∨ ∃ te pe, ev = .iface te pe) → Calls P f #[.string s] w fun e w' => ∃ u, e = .returned (.tuple #[.int .i64 0, u]) ∧ Below w.heap.size w w')
    (hra : ∀ (s : ByteArray), s.size ≤ 281474976710656 → Lib.atoiAll s.data.toList = .range → ∀ ev, w.cell? ⟨gR, 0, none⟩ = some ev → (ev = .nilIface ∨ ∃ te pe, ev = .iface te pe) → Calls P f #[.string s] w fun e w' => ∃ u, e = .returned (.tuple #[.int .i64 (Lib.atoiSat s.data.toList), u]) ∧ Below w.heap.size w w') : CtAt P (atoiCt f) w := by
  refine ct_lib hf fun vals x S hSS ha hp => ?_
  obtain ⟨v, vs', hv, h1, h2⟩ := args_v ha
  have h2 := args_e h2
  subst h2
  have h1 : v = .string x := h1
  subst h1
  rw [arr_of hv]
  have hp : x.size ≤ 1073741824 := hp
  cases hat : Lib.atoiAll x.data.toList with
  | ok n =>
    refine (hok x (by omega) n hat).mono fun e w' ⟨he, hb⟩ => ⟨[.int .i64 n, .nilIface], _, he, hb, Or.inr ⟨by simp, rfl⟩, fun S' => ?_⟩
    have e : mAtoi x = n := by unfold mAtoi bs; rw [hat]
    show resR S' _ _ false [(false, [.int .i64]), (false, [])] ((mAtoi x, ()) : Int × Unit) 0 _
    rw [e]
    exact res_any n _
  | «syntax» =>
    obtain ⟨ev, c1, c2⟩ := hS
    refine (hsy x (by omega) hat ev c1 c2).mono fun e w' ⟨u, he, hb⟩ => ⟨[.int .i64 0, u], _, he, hb, Or.inr ⟨by simp, rfl⟩, fun S' => ?_⟩
    have e : mAtoi x = 0 := by unfold mAtoi bs; rw [hat]
    show resR S' _ _ false [(false, [.int .i64]), (false, [])] ((mAtoi x, ()) : Int × Unit) 0 _
    rw [e]
    exact res_any 0 _
  | range =>
    obtain ⟨ev, c1, c2⟩ := hR
    refine (hra x (by omega) hat ev c1 c2).mono fun e w' ⟨u, he, hb⟩ => ⟨[.int .i64 (Lib.atoiSat x.data.toList), u], _, he, hb, Or.inr ⟨by simp, rfl⟩, fun S' => ?_⟩
    have e : mAtoi x = Lib.atoiSat x.data.toList := by unfold mAtoi bs; rw [hat]
    show resR S' _ _ false [(false, [.int .i64]), (false, [])] ((mAtoi x, ()) : Int × Unit) 0 _
    rw [e]
    exact res_any _ _
/-! ### strings.TrimLeft -/
def mTrimLeft (s cs : S) : S := ob (Lib.trimLeftB (bs s) 48)
def pTrimLeft (s cs : S) : Prop := sm s ∧ cs = lit [48]
def trimLeftCt (f : FuncId) : Ct := { f, ps := [.v false .ro [.str], .v false .ro [.str]], rs := [(false, [.str])], shared := false, pre := fun (x : S × S) => pTrimLeft x.1 x.2, F := fun (x : S × S) => mTrimLeft x.1 x.2 }
theorem trimLeft_ct {P : Program} {f : FuncId} {w : World} (hf : FnIs P f)
    (hI : ∀ s : ByteArray, Calls P f #[.string s, .string ⟨#[48]⟩] w fun e w' => e = .returned (.string ⟨(Lib.trimLeftB s.data.toList 48).toArray⟩) ∧ w' = w) : CtAt P (trimLeftCt f) w := by
  refine ct_lib hf fun vals x S hSS ha hp => ?_
  obtain ⟨v, vs', hv, h1, h2⟩ := args_v ha
  obtain ⟨v2, vs2, hv2, h3, h4⟩ := args_v h2
  have h4 := args_e h4
  subst h4; subst hv2
  have h1 : v = .string x.1 := h1
  have h3 : v2 = .string x.2 := h3
  subst h1; subst h3
  rw [arr_of hv]
  obtain ⟨hp1, hp2⟩ := (hp : sm x.1 ∧ x.2 = lit [48])
  rw [hp2]
  refine (hI x.1).mono fun e w' ⟨he, hw⟩ => ⟨[.string (mTrimLeft x.1 x.2)], _, he, ?_, Or.inl rfl, fun S' => res_str _⟩
  rw [hw]
  exact Below.refl _ _
/-! ### strings.Split -/
def mSplit (s sep : S) : List S := Lib.splitB sep 0 (Lib.countB s sep) s
def pSplit (s sep : S) : Prop := sm s ∧ sep = lit [32]
end Go.Ev
end

section
/- impl.Lower: what its walk needs. -/
set_option linter.unusedVariables false
namespace Go.Ev
open Go Go.RowKit
/-- The row behind i steps. -/
def lowAt (s : S) (i : Nat) : List UInt8 := ((bs s).take i).map lowB ++ (bs s).drop i
theorem lowAt_len (s : S) (i : Nat) : (lowAt s i).length = s.size := by
  unfold lowAt
  rw [List.length_append, List.length_map, List.length_take, List.length_drop, bs_len]; omega
theorem lowAt_get (s : S) (i j : Nat) (h : j < s.size) : (lowAt s i)[j]? = some (if j < i then lowB (bs s)[j]! else (bs s)[j]!) := by
  have hl : j < (bs s).length := by rw [bs_len]; exact h
  unfold lowAt
  by_cases hj : j < i
  · rw [if_pos hj, List.getElem?_append_left (by simp; omega), List.getElem?_map, List.getElem?_take, if_pos hj, List.getElem?_eq_getElem hl, getElem!_pos (bs s) j hl]; rfl
  · rw [if_neg hj, List.getElem?_append_right (by simp; omega), List.getElem?_drop, List.length_map, List.length_take, show i + (j - min i (bs s).length) = j by omega, List.getElem?_eq_getElem hl, getElem!_pos (bs s) j hl]
/-- What the block holds, in a world. -/
def LowW (B : Nat) (s : S) (i : Nat) (w w' : World) : Prop :=
  Below B w w' ∧ ∀ j, j < s.size → w'.cell? ⟨B, j, none⟩ = some (.int .u8 (((if j < i then lowB (bs s)[j]! else (bs s)[j]!).toNat : Nat) : Int)) ∧ w'.frozen? ⟨B, j, none⟩ = false
theorem LowW.next {B i : Nat} {s : S} {w w' : World} (h : LowW B s i w w') (hi : i < s.size) {v : Int} (hv : v = ((lowB (bs s)[i]!).toNat : Int)) : LowW B s (i + 1) w (w'.setCell ⟨B, i, none⟩ (.int .u8 v)) := by
  refine ⟨h.1.setCell (Nat.le_refl _) _, fun j hj => ?_⟩
  by_cases e : j = i
  · subst e
    rw [World.cell?_setCell_same _ _ _ (h.2 j hj).1, hv, if_pos (by omega)]
    exact ⟨rfl, by rw [World.frozen?_setCell]; exact (h.2 j hj).2⟩
  · rw [World.cell?_setCell_other _ _ _ _ (by simp [e]), World.frozen?_setCell, (h.2 j hj).1]
    exact ⟨by simp only [show (j < i + 1) ↔ (j < i) by omega], (h.2 j hj).2⟩
theorem LowW.skip {B i : Nat} {s : S} {w w' : World} (h : LowW B s i w w') (hi : i < s.size) (hv : lowB (bs s)[i]! = (bs s)[i]!) : LowW B s (i + 1) w w' := by
  refine ⟨h.1, fun j hj => ?_⟩
  by_cases e : j = i
  · subst e
    have := h.2 j hj
    rw [if_neg (by omega)] at this
    rw [if_pos (by omega), hv]; exact this
  · rw [(h.2 j hj).1]
    exact ⟨by simp only [show (j < i + 1) ↔ (j < i) by omega], (h.2 j hj).2⟩
/-- '[]byte(s)'. -/
theorem low_new (P : Program) (src dst e : TypeId) (w : World) (s : S) (hs : P.underlying src = some .string) (hd : P.underlying dst = some (.slice e)) (he : P.underlying e = some (.int .u8)) :
    ∃ W1 cap, (convert src dst (.string s)).run P w = .ok (.slice (some ⟨w.heap.size, 0, none⟩) s.size cap) W1 ∧ LowW w.heap.size s 0 w W1 := by
  refine ⟨_, _, run_bytes_of_string w src dst e s hs hd he, (Below.refl _ _).drew.alloc (Nat.le_refl _) _, fun j hj => ?_⟩
  have h1 := bytesRow_at s (grownCap w s.size 0 e) j hj
  refine ⟨?_, ?_⟩
  · show (w.drew.alloc _).cell? ⟨w.drew.heap.size, j, none⟩ = _
    rw [World.cell?_alloc_mark, h1, if_neg (by omega)]
    have hl : j < (bs s).length := by rw [bs_len]; exact hj
    rw [getElem!_pos (bs s) j hl]; rfl
  · show (w.drew.alloc _).frozen? ⟨w.drew.heap.size, j, none⟩ = _
    rw [World.frozen?_alloc_mark]
    have hsz : s.size ≤ (bytesRow s (grownCap w s.size 0 e)).size := by simp [bytesRow]
    generalize (bytesRow s (grownCap w s.size 0 e)).size = n at hsz
    simp; omega
theorem low_byte (x : UInt8) : (65 ≤ x.toNat ∧ x.toNat ≤ 90 → IntKind.u8.wrap (IntKind.u8.wrap ((x.toNat : Int) + 97) - 65) = ((lowB x).toNat : Int)) ∧ (¬ (65 ≤ x.toNat ∧ x.toNat ≤ 90) → lowB x = x) := by
  refine ⟨fun h => ?_, fun h => by unfold lowB; rw [if_neg h]⟩
  unfold lowB; rw [if_pos h]
  have e : (x + 32).toNat = x.toNat + 32 := by rw [UInt8.toNat_add]; show (x.toNat + 32) % 256 = _; omega
  rw [e]
  have h1 : IntKind.u8.wrap ((x.toNat : Int) + 97) = (x.toNat : Int) + 97 := by rw [IntKind.wrap_u8]; omega
  rw [h1, IntKind.wrap_u8]; omega
theorem low_end (P : Program) (src dst e : TypeId) (B cap : Nat) (w w' : World) (s : S) (hs : P.underlying src = some (.slice e)) (he : P.underlying e = some (.int .u8)) (hd : P.underlying dst = some .string) (h : LowW B s s.size w w') :
    (convert src dst (.slice (some ⟨B, 0, none⟩) s.size cap)).run P w' = .ok (.string (mLower s)) w' := by
  have hl : ((bs s).map lowB).length = s.size := by rw [List.length_map, bs_len]
  have := run_convert_bytes_back (P := P) w' src dst e ⟨B, 0, none⟩ cap ((bs s).map lowB) hs he hd (fun j hj => by
    have hj' : j < s.size := by rw [hl] at hj; exact hj
    have hjb : j < (bs s).length := by rw [bs_len]; exact hj'
    have h1 := (h.2 j hj').1
    rw [if_pos hj', getElem!_pos (bs s) j hjb] at h1
    rw [show (⟨B, 0, none⟩ : Addr).add j = ⟨B, j, none⟩ by unfold Addr.add; split <;> simp_all]
    rw [h1, List.getElem_map])
  rw [hl] at this
  exact this
end Go.Ev
namespace Go.Ev
open Go.RowKit
def lowerCt (f : FuncId) : Ct := { f, ps := [.v false .ro [.str]], rs := [(false, [.str])], shared := false, pre := fun (x : S) => pLower x, F := fun (x : S) => mLower x }
theorem lower_ct {P : Program} {f : FuncId} {w : World} (hf : FnIs P f)
    (hI : ∀ s : ByteArray, s.size ≤ 1073741824 → Calls P f #[.string s] w fun e w' => e = .returned (.string (mLower s)) ∧ Below w.heap.size w w') : CtAt P (lowerCt f) w := by
  refine ct_lib hf fun vals x S hS ha hp => ?_
  obtain ⟨v, vs', hv, h1, h2⟩ := args_v ha
  have h2 := args_e h2
  subst h2
  have h1 : v = .string x := h1
  subst h1
  rw [arr_of hv]
  exact (hI x hp).mono fun e w' ⟨he, hb⟩ => ⟨[.string (mLower x)], _, he, hb, Or.inl rfl, fun S' => res_str _⟩
end Go.Ev
end

section
set_option linter.unusedVariables false
namespace Go.Proofs.YtinphipdffikhaaDoor.Ap
open Go Go.Ev Go.Proofs Go.RowKit
abbrev ls3 : List L := [.int .i64]
abbrev ls4 : List L := [.bool]
abbrev ls9 : List L := [.str]
abbrev ls33 : List L := [.list 95 [.str, .str]]
abbrev ls37 : List L := [.int .i64, .list 95 [.str, .str], .str]
abbrev ls42 : List L := [.list 96 [.str, .str]]
abbrev ls47 : List L := [.int .i64, .list 96 [.str, .str], .str]
abbrev ls95 : List L := [.str, .str]
abbrev ls96 : List L := [.str, .str]
def tt : List (Nat × TI) := [
  (2, ⟨.sc, [.int .i64]⟩),
  (3, ⟨.sc, [.int .i64]⟩),
  (4, ⟨.sc, [.bool]⟩),
  (5, ⟨.sc, [.int .u8]⟩),
  (6, ⟨.sc, [.int .u8]⟩),
  (7, ⟨.st [(0, [.int .i64]), (1, [.int .i64]), (2, [.bool]), (3, [.int .u8])], [.int .i64, .int .i64, .bool, .int .u8]⟩),
  (8, ⟨.st [(0, [.int .i64]), (1, [.int .i64]), (2, [.bool]), (3, [.int .u8])], [.int .i64, .int .i64, .bool, .int .u8]⟩),
  (9, ⟨.sc, [.str]⟩),
  (10, ⟨.sc, [.str]⟩),
  (11, ⟨.sc, [.str]⟩),
  (12, ⟨.sc, [.int .u64]⟩),
  (13, ⟨.st [(0, [.str]), (1, [.int .u64])], [.str, .int .u64]⟩),
  (14, ⟨.st [(0, [.str]), (1, [.int .u64])], [.str, .int .u64]⟩),
  (21, ⟨.sc, [.int .i32]⟩),
  (22, ⟨.sl 127 [.str, .str, .int .i64, .int .i64, .bool, .bool, .list 95 [.str, .str]] 80, [.list 127 [.str, .str, .int .i64, .int .i64, .bool, .bool, .list 95 [.str, .str]]]⟩),
  (23, ⟨.st [(0, [.list 127 [.str, .str, .int .i64, .int .i64, .bool, .bool, .list 95 [.str, .str]]])], [.list 127 [.str, .str, .int .i64, .int .i64, .bool, .bool, .list 95 [.str, .str]]]⟩),
  (24, ⟨.st [(0, [.list 127 [.str, .str, .int .i64, .int .i64, .bool, .bool, .list 95 [.str, .str]]])], [.list 127 [.str, .str, .int .i64, .int .i64, .bool, .bool, .list 95 [.str, .str]]]⟩),
  (27, ⟨.sl 87 [.str, .str, .int .i64, .int .i64, .bool, .bool, .list 96 [.str, .str]] 80, [.list 87 [.str, .str, .int .i64, .int .i64, .bool, .bool, .list 96 [.str, .str]]]⟩),
  (28, ⟨.st [(0, [.list 87 [.str, .str, .int .i64, .int .i64, .bool, .bool, .list 96 [.str, .str]]])], [.list 87 [.str, .str, .int .i64, .int .i64, .bool, .bool, .list 96 [.str, .str]]]⟩),
  (29, ⟨.st [(0, [.list 87 [.str, .str, .int .i64, .int .i64, .bool, .bool, .list 96 [.str, .str]]])], [.list 87 [.str, .str, .int .i64, .int .i64, .bool, .bool, .list 96 [.str, .str]]]⟩),
  (33, ⟨.sl 95 [.str, .str] 32, [.list 95 [.str, .str]]⟩),
  (34, ⟨.st [(0, [.str]), (1, [.str]), (2, [.list 95 [.str, .str]]), (3, [.str])], [.str, .str, .list 95 [.str, .str], .str]⟩),
  (35, ⟨.st [(0, [.str]), (1, [.str]), (2, [.list 95 [.str, .str]]), (3, [.str])], [.str, .str, .list 95 [.str, .str], .str]⟩),
  (36, ⟨.st [(0, [.int .i64]), (1, [.list 95 [.str, .str]]), (2, [.str])], [.int .i64, .list 95 [.str, .str], .str]⟩),
  (37, ⟨.st [(0, [.int .i64]), (1, [.list 95 [.str, .str]]), (2, [.str])], [.int .i64, .list 95 [.str, .str], .str]⟩),
  (42, ⟨.sl 96 [.str, .str] 32, [.list 96 [.str, .str]]⟩),
  (43, ⟨.st [(0, [.str]), (1, [.str]), (2, [.list 96 [.str, .str]]), (3, [.str])], [.str, .str, .list 96 [.str, .str], .str]⟩),
  (44, ⟨.st [(0, [.str]), (1, [.str]), (2, [.list 96 [.str, .str]]), (3, [.str])], [.str, .str, .list 96 [.str, .str], .str]⟩),
  (46, ⟨.st [(0, [.int .i64]), (1, [.list 96 [.str, .str]]), (2, [.str])], [.int .i64, .list 96 [.str, .str], .str]⟩),
  (47, ⟨.st [(0, [.int .i64]), (1, [.list 96 [.str, .str]]), (2, [.str])], [.int .i64, .list 96 [.str, .str], .str]⟩),
  (63, ⟨.sl 145 [.str, .list 95 [.str, .str], .int .i64, .list 95 [.str, .str], .str, .int .i64, .int .i64, .bool] 112, [.list 145 [.str, .list 95 [.str, .str], .int .i64, .list 95 [.str, .str], .str, .int .i64, .int .i64, .bool]]⟩),
  (64, ⟨.st [(0, [.int .i64]), (1, [.int .i64]), (2, [.list 145 [.str, .list 95 [.str, .str], .int .i64, .list 95 [.str, .str], .str, .int .i64, .int .i64, .bool]]), (3, [.int .i64])], [.int .i64, .int .i64, .list 145 [.str, .list 95 [.str, .str], .int .i64, .list 95 [.str, .str], .str, .int .i64, .int .i64, .bool], .int .i64]⟩),
  (65, ⟨.st [(0, [.int .i64]), (1, [.int .i64]), (2, [.list 145 [.str, .list 95 [.str, .str], .int .i64, .list 95 [.str, .str], .str, .int .i64, .int .i64, .bool]]), (3, [.int .i64])], [.int .i64, .int .i64, .list 145 [.str, .list 95 [.str, .str], .int .i64, .list 95 [.str, .str], .str, .int .i64, .int .i64, .bool], .int .i64]⟩),
  (68, ⟨.sl 113 [.str, .list 96 [.str, .str], .int .i64, .list 96 [.str, .str], .str, .int .i64, .int .i64, .bool] 112, [.list 113 [.str, .list 96 [.str, .str], .int .i64, .list 96 [.str, .str], .str, .int .i64, .int .i64, .bool]]⟩),
  (69, ⟨.st [(0, [.int .i64]), (1, [.int .i64]), (2, [.list 113 [.str, .list 96 [.str, .str], .int .i64, .list 96 [.str, .str], .str, .int .i64, .int .i64, .bool]]), (3, [.int .i64])], [.int .i64, .int .i64, .list 113 [.str, .list 96 [.str, .str], .int .i64, .list 96 [.str, .str], .str, .int .i64, .int .i64, .bool], .int .i64]⟩),
  (70, ⟨.st [(0, [.int .i64]), (1, [.int .i64]), (2, [.list 113 [.str, .list 96 [.str, .str], .int .i64, .list 96 [.str, .str], .str, .int .i64, .int .i64, .bool]]), (3, [.int .i64])], [.int .i64, .int .i64, .list 113 [.str, .list 96 [.str, .str], .int .i64, .list 96 [.str, .str], .str, .int .i64, .int .i64, .bool], .int .i64]⟩),
  (76, ⟨.st [(0, [.str]), (1, [.bool]), (2, [.int .i64]), (3, [.bool]), (4, [.bool]), (5, [.str, .str, .list 95 [.str, .str], .str]), (9, [.int .i64, .list 95 [.str, .str], .str]), (12, [.int .i64]), (13, [.int .i64])], [.str, .bool, .int .i64, .bool, .bool, .str, .str, .list 95 [.str, .str], .str, .int .i64, .list 95 [.str, .str], .str, .int .i64, .int .i64]⟩),
  (77, ⟨.st [(0, [.str]), (1, [.bool]), (2, [.int .i64]), (3, [.bool]), (4, [.bool]), (5, [.str, .str, .list 95 [.str, .str], .str]), (9, [.int .i64, .list 95 [.str, .str], .str]), (12, [.int .i64]), (13, [.int .i64])], [.str, .bool, .int .i64, .bool, .bool, .str, .str, .list 95 [.str, .str], .str, .int .i64, .list 95 [.str, .str], .str, .int .i64, .int .i64]⟩),
  (80, ⟨.st [(0, [.str]), (1, [.bool]), (2, [.int .i64]), (3, [.bool]), (4, [.bool]), (5, [.str, .str, .list 96 [.str, .str], .str]), (9, [.int .i64, .list 96 [.str, .str], .str]), (12, [.int .i64]), (13, [.int .i64])], [.str, .bool, .int .i64, .bool, .bool, .str, .str, .list 96 [.str, .str], .str, .int .i64, .list 96 [.str, .str], .str, .int .i64, .int .i64]⟩),
  (81, ⟨.st [(0, [.str]), (1, [.bool]), (2, [.int .i64]), (3, [.bool]), (4, [.bool]), (5, [.str, .str, .list 96 [.str, .str], .str]), (9, [.int .i64, .list 96 [.str, .str], .str]), (12, [.int .i64]), (13, [.int .i64])], [.str, .bool, .int .i64, .bool, .bool, .str, .str, .list 96 [.str, .str], .str, .int .i64, .list 96 [.str, .str], .str, .int .i64, .int .i64]⟩),
  (86, ⟨.st [(0, [.str]), (1, [.str]), (2, [.int .i64]), (3, [.int .i64]), (4, [.bool]), (5, [.bool]), (6, [.list 96 [.str, .str]])], [.str, .str, .int .i64, .int .i64, .bool, .bool, .list 96 [.str, .str]]⟩),
  (87, ⟨.st [(0, [.str]), (1, [.str]), (2, [.int .i64]), (3, [.int .i64]), (4, [.bool]), (5, [.bool]), (6, [.list 96 [.str, .str]])], [.str, .str, .int .i64, .int .i64, .bool, .bool, .list 96 [.str, .str]]⟩),
  (94, ⟨.st [(0, [.str]), (1, [.str])], [.str, .str]⟩),
  (95, ⟨.st [(0, [.str]), (1, [.str])], [.str, .str]⟩),
  (96, ⟨.st [(0, [.str]), (1, [.str])], [.str, .str]⟩),
  (99, ⟨.sl 9 [.str] 16, [.list 9 [.str]]⟩),
  (110, ⟨.st [(0, [.str]), (1, [.list 96 [.str, .str]]), (2, [.int .i64, .list 96 [.str, .str], .str]), (5, [.int .i64]), (6, [.int .i64])], [.str, .list 96 [.str, .str], .int .i64, .list 96 [.str, .str], .str, .int .i64, .int .i64]⟩),
  (111, ⟨.st [(0, [.str]), (1, [.list 96 [.str, .str]]), (2, [.int .i64, .list 96 [.str, .str], .str]), (5, [.int .i64]), (6, [.int .i64])], [.str, .list 96 [.str, .str], .int .i64, .list 96 [.str, .str], .str, .int .i64, .int .i64]⟩),
  (112, ⟨.st [(0, [.str, .list 96 [.str, .str], .int .i64, .list 96 [.str, .str], .str, .int .i64, .int .i64]), (7, [.bool])], [.str, .list 96 [.str, .str], .int .i64, .list 96 [.str, .str], .str, .int .i64, .int .i64, .bool]⟩),
  (113, ⟨.st [(0, [.str, .list 96 [.str, .str], .int .i64, .list 96 [.str, .str], .str, .int .i64, .int .i64]), (7, [.bool])], [.str, .list 96 [.str, .str], .int .i64, .list 96 [.str, .str], .str, .int .i64, .int .i64, .bool]⟩),
  (126, ⟨.st [(0, [.str]), (1, [.str]), (2, [.int .i64]), (3, [.int .i64]), (4, [.bool]), (5, [.bool]), (6, [.list 95 [.str, .str]])], [.str, .str, .int .i64, .int .i64, .bool, .bool, .list 95 [.str, .str]]⟩),
  (127, ⟨.st [(0, [.str]), (1, [.str]), (2, [.int .i64]), (3, [.int .i64]), (4, [.bool]), (5, [.bool]), (6, [.list 95 [.str, .str]])], [.str, .str, .int .i64, .int .i64, .bool, .bool, .list 95 [.str, .str]]⟩),
  (131, ⟨.sl 5 [.int .u8] 1, [.list 5 [.int .u8]]⟩),
  (132, ⟨.sl 134 [.str, .str] 32, [.list 134 [.str, .str]]⟩),
  (134, ⟨.st [(0, [.str]), (1, [.str])], [.str, .str]⟩),
  (142, ⟨.st [(0, [.str]), (1, [.list 95 [.str, .str]]), (2, [.int .i64, .list 95 [.str, .str], .str]), (5, [.int .i64]), (6, [.int .i64])], [.str, .list 95 [.str, .str], .int .i64, .list 95 [.str, .str], .str, .int .i64, .int .i64]⟩),
  (143, ⟨.st [(0, [.str]), (1, [.list 95 [.str, .str]]), (2, [.int .i64, .list 95 [.str, .str], .str]), (5, [.int .i64]), (6, [.int .i64])], [.str, .list 95 [.str, .str], .int .i64, .list 95 [.str, .str], .str, .int .i64, .int .i64]⟩),
  (144, ⟨.st [(0, [.str, .list 95 [.str, .str], .int .i64, .list 95 [.str, .str], .str, .int .i64, .int .i64]), (7, [.bool])], [.str, .list 95 [.str, .str], .int .i64, .list 95 [.str, .str], .str, .int .i64, .int .i64, .bool]⟩),
  (145, ⟨.st [(0, [.str, .list 95 [.str, .str], .int .i64, .list 95 [.str, .str], .str, .int .i64, .int .i64]), (7, [.bool])], [.str, .list 95 [.str, .str], .int .i64, .list 95 [.str, .str], .str, .int .i64, .int .i64, .bool]⟩),
  (150, ⟨.sl 3 [.int .i64] 8, [.list 3 [.int .i64]]⟩),
  (171, ⟨.sc, [.int .i64]⟩),
  (188, ⟨.sc, [.int .u64]⟩),
  (191, ⟨.sc, [.int .u64]⟩),
  (202, ⟨.st [(0, [.str])], [.str]⟩),
  (203, ⟨.st [(0, [.str])], [.str]⟩),
  (210, ⟨.sc, [.int .u32]⟩),
  (218, ⟨.st [(0, [.int .u8]), (1, [.int .u8])], [.int .u8, .int .u8]⟩),
  (219, ⟨.st [(0, [.int .u8]), (1, [.int .u8])], [.int .u8, .int .u8]⟩),
  (231, ⟨.sc, [.int .u8]⟩),
  (232, ⟨.sc, [.int .u8]⟩),
  (234, ⟨.sc, [.int .i32]⟩),
  (235, ⟨.sc, [.int .i32]⟩)]
theorem ttOk : ttB Tryd.prog tt = true := by kernel_rfl
theorem mixOk : Tryd.prog.follows .mixedOrders = true := by kernel_rfl
def J (w : World) : Prop := Lib.TabIs Tryd.prog w "internal/strconv.uint64pow10" .u64 Lib.pow10Tab ∧ ErrAt 0 w ∧ ErrAt 1 w ∧ True
theorem J_below {w w' : World} (h : J w) (hb : Below w.heap.size w w') : J w' := ⟨tab_below h.1 hb, errAt_below h.2.1 hb, errAt_below h.2.2.1 hb, trivial⟩
def Jn (n : Nat) (w : World) : Prop := ∃ w0 : World, w0.heap.size = n ∧ J w0 ∧ Below n w0 w
theorem Jn_J {n : Nat} {w : World} (h : Jn n w) : J w := by
  obtain ⟨w0, rfl, h1, h2⟩ := h
  exact J_below h1 h2
theorem Jn_below {n : Nat} {w w' : World} (h : Jn n w) (hb : Below n w w') : Jn n w' := by
  obtain ⟨w0, h0, h1, h2⟩ := h
  exact ⟨w0, h0, h1, h2.trans hb⟩
theorem Jn_of {w w' : World} (h : J w) (hb : Below w.heap.size w w') : Jn w.heap.size w' := ⟨w, rfl, h, hb⟩
noncomputable def E61 : Env := { tt, eqs := [], cts := [] }
theorem ok61 : EnvOk Tryd.prog E61 := ⟨ttOk, by kernel_rfl, rfl, mixOk⟩
theorem cs61 (w0 : World) (hJ : J w0) : EnvCts Tryd.prog E61 w0 w0.heap.size := by
  refine ⟨fun c hc => ?_, fun c hc => ?_⟩
  · cases hc
  · cases hc
noncomputable def ct61 : Ct := { f := 61, ps := [.v true .ro ls95, .v false .ro [.int .i64]], rs := [(false, [.int .i64])], shared := false, pre := fun (q : Fld × Int) => pSz q.1 q.2, F := fun (q : Fld × Int) => szF q.1 q.2 }
def st61 : List (SzStep Fld) := [.str (fun x : Fld => x.1), .str (fun x : Fld => x.2)]
theorem c61 (x : Fld) : szSum x st61 = cz x := by
  simp only [szSum, st61, cz_pair, cz_int, cz_bool, cz_str]
  all_goals omega
theorem w61 (x : Fld) (h : wd x) : szFine x st61 := by
  first | simp only [wd_pair] at h | skip
  simp only [szFine, st61, wd_pair, wf_wd]
  simp only [h, and_self]
theorem law61 : ∀ q : Fld × Int, pSz q.1 q.2 → szSt q.1 st61 q.2 (fun r => r = szF q.1 q.2) := fun q hq => szSt_holds q.1 st61 q.2 _ (w61 q.1 hq.1) hq.2.1 hq.2.2 (c61 q.1)
theorem all61 (w : World) (hJ : J w) : CtAt Tryd.prog ct61 w :=
  ct_by ok61 (cs61 w hJ) Tryd.func61 (by kernel_rfl) (H := (hint [])) law61 (by kernel_rfl)
noncomputable def E19 : Env := { tt, eqs := [], cts := [ct61] }
theorem ok19 : EnvOk Tryd.prog E19 := ⟨ttOk, by kernel_rfl, rfl, mixOk⟩
theorem cs19 (w0 : World) (hJ : J w0) : EnvCts Tryd.prog E19 w0 w0.heap.size := by
  refine ⟨fun c hc => ?_, fun c hc => ?_⟩
  · rcases List.mem_cons.1 hc with rfl | hc
    · exact fun w hb => all61 w (J_below hJ hb)
    cases hc
  · cases hc
noncomputable def ct19 : Ct := { f := 19, ps := [.v false .ro ls33, .v false .ro [.int .i64]], rs := [(false, [.int .i64])], shared := false, pre := fun (q : (List Fld) × Int) => pSz q.1 q.2, F := fun (q : (List Fld) × Int) => szF q.1 q.2 }
theorem law19 : ∀ q : (List Fld) × Int, pSz q.1 q.2 → szS (α := Fld) Dft.dft (fun y k => pSz y k) (fun y k => szF y k) q.1 q.2 (fun r => r = szF q.1 q.2) := fun q hq => szS_holds (α := Fld) Dft.dft cz wd q.1 q.2 hq.1.1 hq.1.2 hq.2.1 hq.2.2
theorem all19 (w : World) (hJ : J w) : CtAt Tryd.prog ct19 w :=
  ct_by ok19 (cs19 w hJ) Tryd.func19 (by kernel_rfl) (H := (hint [(5, [.val 1 (.int .i64), .val 5 (.int .i64)])])) law19 (by kernel_rfl)
noncomputable def E18 : Env := { tt, eqs := [], cts := [ct19] }
theorem ok18 : EnvOk Tryd.prog E18 := ⟨ttOk, by kernel_rfl, rfl, mixOk⟩
theorem cs18 (w0 : World) (hJ : J w0) : EnvCts Tryd.prog E18 w0 w0.heap.size := by
  refine ⟨fun c hc => ?_, fun c hc => ?_⟩
  · rcases List.mem_cons.1 hc with rfl | hc
    · exact fun w hb => all19 w (J_below hJ hb)
    cases hc
  · cases hc
noncomputable def ct18 : Ct := { f := 18, ps := [.v true .ro ls37, .v false .ro [.int .i64]], rs := [(false, [.int .i64])], shared := false, pre := fun (q : Rsp × Int) => pSz q.1 q.2, F := fun (q : Rsp × Int) => szF q.1 q.2 }
def st18 : List (SzStep Rsp) := [.call (fun x : Rsp => wd (x.2.1 : (List Fld))) (fun x : Rsp => cz (x.2.1 : (List Fld))), .str (fun x : Rsp => x.2.2)]
theorem c18 (x : Rsp) : szSum x st18 = cz x := by
  simp only [szSum, st18, cz_pair, cz_int, cz_bool, cz_str]
  all_goals omega
theorem w18 (x : Rsp) (h : wd x) : szFine x st18 := by
  first | simp only [wd_pair] at h | skip
  simp only [szFine, st18, wd_pair, wf_wd]
  simp only [h, and_self]
theorem law18 : ∀ q : Rsp × Int, pSz q.1 q.2 → szSt q.1 st18 q.2 (fun r => r = szF q.1 q.2) := fun q hq => szSt_holds q.1 st18 q.2 _ (w18 q.1 hq.1) hq.2.1 hq.2.2 (c18 q.1)
theorem all18 (w : World) (hJ : J w) : CtAt Tryd.prog ct18 w :=
  ct_by ok18 (cs18 w hJ) Tryd.func18 (by kernel_rfl) (H := (hint [])) law18 (by kernel_rfl)
noncomputable def E63 : Env := { tt, eqs := [], cts := [] }
theorem ok63 : EnvOk Tryd.prog E63 := ⟨ttOk, by kernel_rfl, rfl, mixOk⟩
theorem cs63 (w0 : World) (hJ : J w0) : EnvCts Tryd.prog E63 w0 w0.heap.size := by
  refine ⟨fun c hc => ?_, fun c hc => ?_⟩
  · cases hc
  · cases hc
noncomputable def ct63 : Ct := { f := 63, ps := [.v true .ro ls95], rs := [(true, ls96)], shared := false, pre := fun (x : Fld) => pTo x, F := fun (x : Fld) => toF x }
theorem law63 : ∀ q : Fld, pTo q → conj [] (q = toF q) := fun q hq => rfl
theorem all63 (w : World) (hJ : J w) : CtAt Tryd.prog ct63 w :=
  ct_by ok63 (cs63 w hJ) Tryd.func63 (by kernel_rfl) (H := (hint [])) law63 (by kernel_rfl)
noncomputable def E23 : Env := { tt, eqs := [], cts := [ct63] }
theorem ok23 : EnvOk Tryd.prog E23 := ⟨ttOk, by kernel_rfl, rfl, mixOk⟩
theorem cs23 (w0 : World) (hJ : J w0) : EnvCts Tryd.prog E23 w0 w0.heap.size := by
  refine ⟨fun c hc => ?_, fun c hc => ?_⟩
  · rcases List.mem_cons.1 hc with rfl | hc
    · exact fun w hb => all63 w (J_below hJ hb)
    cases hc
  · cases hc
noncomputable def ct23 : Ct := { f := 23, ps := [.v false .ro ls33], rs := [(false, ls42)], shared := false, pre := fun (x : (List Fld)) => pTo x, F := fun (x : (List Fld)) => toF x }
theorem law23 : ∀ q : (List Fld), pTo q → toS (α := Fld) Dft.dft 32 (fun y => pTo y) q (fun r => r = toF q) := fun q hq => toS_holds (α := Fld) Dft.dft 32 (fun y => pTo y) q (md_len' hq) (by omega) (fun i a h => md_mem hq (List.mem_of_getElem? h)) rfl
theorem all23 (w : World) (hJ : J w) : CtAt Tryd.prog ct23 w :=
  ct_by ok23 (cs23 w hJ) Tryd.func23 (by kernel_rfl) (H := (hint [(3, [.reg 3 96 ls96 true, .val 4 (.int .i64)])])) law23 (by kernel_rfl)
noncomputable def E22 : Env := { tt, eqs := [], cts := [ct23] }
theorem ok22 : EnvOk Tryd.prog E22 := ⟨ttOk, by kernel_rfl, rfl, mixOk⟩
theorem cs22 (w0 : World) (hJ : J w0) : EnvCts Tryd.prog E22 w0 w0.heap.size := by
  refine ⟨fun c hc => ?_, fun c hc => ?_⟩
  · rcases List.mem_cons.1 hc with rfl | hc
    · exact fun w hb => all23 w (J_below hJ hb)
    cases hc
  · cases hc
noncomputable def ct22 : Ct := { f := 22, ps := [.v true .ro ls37], rs := [(true, ls47)], shared := false, pre := fun (x : Rsp) => pTo x, F := fun (x : Rsp) => toF x }
theorem law22 : ∀ q : Rsp, pTo q → conj [pTo (q.2.1 : (List Fld))] (q = toF q) := fun q hq => ⟨(czh (czt hq)), rfl⟩
theorem all22 (w : World) (hJ : J w) : CtAt Tryd.prog ct22 w :=
  ct_by ok22 (cs22 w hJ) Tryd.func22 (by kernel_rfl) (H := (hint [])) law22 (by kernel_rfl)
noncomputable def E67 : Env := { tt, eqs := [], cts := [] }
theorem ok67 : EnvOk Tryd.prog E67 := ⟨ttOk, by kernel_rfl, rfl, mixOk⟩
theorem cs67 (w0 : World) (hJ : J w0) : EnvCts Tryd.prog E67 w0 w0.heap.size := by
  refine ⟨fun c hc => ?_, fun c hc => ?_⟩
  · cases hc
  · cases hc
noncomputable def ct67 : Ct := { f := 67, ps := [.v false .ro ls42, .v false .ro ls9], rs := [(false, ls9), (false, ls4)], shared := false, pre := fun (x : (List Fld) × S) => pFieldGet x.1 x.2, F := fun (x : (List Fld) × S) => mFieldGet x.1 x.2 }
theorem law67 : ∀ x : (List Fld) × S, pFieldGet x.1 x.2 → s_spec_FieldGet x.1 x.2 (fun r => r = mFieldGet x.1 x.2) := fun x h => spec_FieldGet_ok x.1 x.2 h
theorem all67 (w : World) (hJ : J w) : CtAt Tryd.prog ct67 w :=
  ct_by ok67 (cs67 w hJ) Tryd.func67 (by kernel_rfl) (H := (hint [(4, [.val 6 (.str), .val 7 (.bool), .val 8 (.int .i64)])])) law67 (by kernel_rfl)
noncomputable def E116 : Env := { tt, eqs := [], cts := [] }
theorem ok116 : EnvOk Tryd.prog E116 := ⟨ttOk, by kernel_rfl, rfl, mixOk⟩
theorem cs116 (w0 : World) (hJ : J w0) : EnvCts Tryd.prog E116 w0 w0.heap.size := by
  refine ⟨fun c hc => ?_, fun c hc => ?_⟩
  · cases hc
  · cases hc
noncomputable def ct116 : Ct := { f := 116, ps := [.v false .ro ls3], rs := [(false, ls9)], shared := false, pre := fun (x : Int) => pDec x, F := fun (x : Int) => mDec x }
theorem law116 : ∀ x : Int, pDec x → s_spec_Dec x (fun r => r = mDec x) := fun x h => spec_Dec_ok x h
theorem all116 (w : World) (hJ : J w) : CtAt Tryd.prog ct116 w :=
  ct_by ok116 (cs116 w hJ) Tryd.func116 (by kernel_rfl) (H := (hint [(5, [.val 0 (.int .i64), .val 3 (.str)])])) law116 (by kernel_rfl)
noncomputable def E75 : Env := { tt, eqs := [], cts := [ct116] }
theorem ok75 : EnvOk Tryd.prog E75 := ⟨ttOk, by kernel_rfl, rfl, mixOk⟩
theorem cs75 (w0 : World) (hJ : J w0) : EnvCts Tryd.prog E75 w0 w0.heap.size := by
  refine ⟨fun c hc => ?_, fun c hc => ?_⟩
  · rcases List.mem_cons.1 hc with rfl | hc
    · exact fun w hb => all116 w (J_below hJ hb)
    cases hc
  · cases hc
noncomputable def ct75 : Ct := { f := 75, ps := [.v false .ro ls9], rs := [(false, ls3), (false, ls4)], shared := false, pre := fun (x : S) => pReadDec x, F := fun (x : S) => mReadDec x }
theorem law75 : ∀ x : S, pReadDec x → s_spec_ReadDec x (fun r => r = mReadDec x) := fun x h => spec_ReadDec_ok x h
theorem all75 (w : World) (hJ : J w) : CtAt Tryd.prog ct75 w :=
  ct_by ok75 (cs75 w hJ) Tryd.func75 (by kernel_rfl) (H := (hint [(4, [.val 4 (.int .i64), .val 5 (.int .i64), .val 6 (.int .i64)])])) law75 (by kernel_rfl)
noncomputable def E54 : Env := { tt, eqs := [], cts := [] }
theorem ok54 : EnvOk Tryd.prog E54 := ⟨ttOk, by kernel_rfl, rfl, mixOk⟩
theorem cs54 (w0 : World) (hJ : J w0) : EnvCts Tryd.prog E54 w0 w0.heap.size := by
  refine ⟨fun c hc => ?_, fun c hc => ?_⟩
  · cases hc
  · cases hc
noncomputable def ct54 : Ct := { f := 54, ps := [.v false .ro ls3, .v false .ro ls3, .v false .ro ls3], rs := [(false, ls4)], shared := false, pre := fun (x : Int × Int × Int) => pIn x.1 x.2.1 x.2.2, F := fun (x : Int × Int × Int) => mIn x.1 x.2.1 x.2.2 }
theorem law54 : ∀ x : Int × Int × Int, pIn x.1 x.2.1 x.2.2 → s_spec_l1In x.1 x.2.1 x.2.2 (fun r => r = mIn x.1 x.2.1 x.2.2) := fun x _ => spec_l1In_ok x.1 x.2.1 x.2.2
theorem all54 (w : World) (hJ : J w) : CtAt Tryd.prog ct54 w :=
  ct_by ok54 (cs54 w hJ) Tryd.func54 (by kernel_rfl) (H := (hint [])) law54 (by kernel_rfl)
noncomputable def E76 : Env := { tt, eqs := [], cts := [ct54, ct116] }
theorem ok76 : EnvOk Tryd.prog E76 := ⟨ttOk, by kernel_rfl, rfl, mixOk⟩
theorem cs76 (w0 : World) (hJ : J w0) : EnvCts Tryd.prog E76 w0 w0.heap.size := by
  refine ⟨fun c hc => ?_, fun c hc => ?_⟩
  · rcases List.mem_cons.1 hc with rfl | hc
    · exact fun w hb => all54 w (J_below hJ hb)
    rcases List.mem_cons.1 hc with rfl | hc
    · exact fun w hb => all116 w (J_below hJ hb)
    cases hc
  · cases hc
noncomputable def ct76 : Ct := { f := 76, ps := [.v false .ro ls3], rs := [(false, ls9)], shared := false, pre := fun (x : Int) => pTagOf x, F := fun (x : Int) => mTagOf x }
theorem law76 : ∀ x : Int, pTagOf x → s_spec_TagOf x (fun r => r = mTagOf x) := fun x h => spec_TagOf_ok x h
theorem all76 (w : World) (hJ : J w) : CtAt Tryd.prog ct76 w :=
  ct_by ok76 (cs76 w hJ) Tryd.func76 (by kernel_rfl) (H := (hint [])) law76 (by kernel_rfl)
noncomputable def E36 : Env := { tt, eqs := [], cts := [ct67, ct75, ct76] }
theorem ok36 : EnvOk Tryd.prog E36 := ⟨ttOk, by kernel_rfl, rfl, mixOk⟩
theorem cs36 (w0 : World) (hJ : J w0) : EnvCts Tryd.prog E36 w0 w0.heap.size := by
  refine ⟨fun c hc => ?_, fun c hc => ?_⟩
  · rcases List.mem_cons.1 hc with rfl | hc
    · exact fun w hb => all67 w (J_below hJ hb)
    rcases List.mem_cons.1 hc with rfl | hc
    · exact fun w hb => all75 w (J_below hJ hb)
    rcases List.mem_cons.1 hc with rfl | hc
    · exact fun w hb => all76 w (J_below hJ hb)
    cases hc
  · cases hc
noncomputable def ct36 : Ct := { f := 36, ps := [.v true .ro ls47], rs := [(false, ls3)], shared := false, pre := fun (x : Rsp) => pVersionIn x, F := fun (x : Rsp) => mVersionIn x }
theorem law36 : ∀ x : Rsp, pVersionIn x → s_spec_VersionIn x (fun r => r = mVersionIn x) := fun x h => spec_VersionIn_ok x h
theorem all36 (w : World) (hJ : J w) : CtAt Tryd.prog ct36 w :=
  ct_by ok36 (cs36 w hJ) Tryd.func36 (by kernel_rfl) (H := (hint [])) law36 (by kernel_rfl)
noncomputable def ct111 : Ct := joinCt 9 111
theorem all111 (w : World) (hJ : J w) : CtAt Tryd.prog ct111 w := join_ct ⟨_, Tryd.func111, by kernel_rfl, by kernel_rfl⟩ (fun a c sep => Tryd.strings_Join_none a c sep w) (fun bk o c xs sep h1 h2 h3 h4 h5 => Tryd.strings_Join bk o c xs sep w h1 h2 h3 h4 h5)
noncomputable def E70 : Env := { tt, eqs := [], cts := [ct111] }
theorem ok70 : EnvOk Tryd.prog E70 := ⟨ttOk, by kernel_rfl, rfl, mixOk⟩
theorem cs70 (w0 : World) (hJ : J w0) : EnvCts Tryd.prog E70 w0 w0.heap.size := by
  refine ⟨fun c hc => ?_, fun c hc => ?_⟩
  · rcases List.mem_cons.1 hc with rfl | hc
    · exact fun w hb => all111 w (J_below hJ hb)
    cases hc
  · cases hc
noncomputable def ct70 : Ct := { f := 70, ps := [.v false .ro ls42, .v false .ro ls9], rs := [(false, ls9), (false, ls4)], shared := false, pre := fun (x : (List Fld) × S) => pFieldGet x.1 x.2, F := fun (x : (List Fld) × S) => mFieldGet x.1 x.2 }
theorem law70 : ∀ x : (List Fld) × S, pFieldGet x.1 x.2 → s_impl_FieldGet x.1 x.2 (fun r => r = mFieldGet x.1 x.2) := fun x h => impl_FieldGet_ok x.1 x.2 h
theorem all70 (w : World) (hJ : J w) : CtAt Tryd.prog ct70 w :=
  ct_by ok70 (cs70 w hJ) Tryd.func70 (by kernel_rfl) (H := (hint [(3, [.reg 6 9 [.str] true, .val 12 (.int .i64)])])) law70 (by kernel_rfl)
noncomputable def ct143 : Ct := itoaCt 143
theorem all143 (w : World) (hJ : J w) : CtAt Tryd.prog ct143 w := itoa_ct ⟨_, Tryd.func143, by kernel_rfl, by kernel_rfl⟩ (fun k h0 h1 => Tryd.strconv_Itoa k h0 h1 w hJ.1)
noncomputable def E118 : Env := { tt, eqs := [], cts := [ct143] }
theorem ok118 : EnvOk Tryd.prog E118 := ⟨ttOk, by kernel_rfl, rfl, mixOk⟩
theorem cs118 (w0 : World) (hJ : J w0) : EnvCts Tryd.prog E118 w0 w0.heap.size := by
  refine ⟨fun c hc => ?_, fun c hc => ?_⟩
  · rcases List.mem_cons.1 hc with rfl | hc
    · exact fun w hb => all143 w (J_below hJ hb)
    cases hc
  · cases hc
noncomputable def ct118 : Ct := { f := 118, ps := [.v false .ro ls3], rs := [(false, ls9)], shared := false, pre := fun (x : Int) => pDec x, F := fun (x : Int) => mDec x }
theorem law118 : ∀ x : Int, pDec x → s_impl_Dec x (fun r => r = mDec x) := fun x h => impl_Dec_ok x h
theorem all118 (w : World) (hJ : J w) : CtAt Tryd.prog ct118 w :=
  ct_by ok118 (cs118 w hJ) Tryd.func118 (by kernel_rfl) (H := (hint [])) law118 (by kernel_rfl)
noncomputable def E58 : Env := { tt, eqs := [], cts := [] }
theorem ok58 : EnvOk Tryd.prog E58 := ⟨ttOk, by kernel_rfl, rfl, mixOk⟩
theorem cs58 (w0 : World) (hJ : J w0) : EnvCts Tryd.prog E58 w0 w0.heap.size := by
  refine ⟨fun c hc => ?_, fun c hc => ?_⟩
  · cases hc
  · cases hc
noncomputable def ct58 : Ct := { f := 58, ps := [.v false .ro ls3, .v false .ro ls3, .v false .ro ls3], rs := [(false, ls4)], shared := false, pre := fun (x : Int × Int × Int) => pIn x.1 x.2.1 x.2.2, F := fun (x : Int × Int × Int) => mIn x.1 x.2.1 x.2.2 }
theorem law58 : ∀ x : Int × Int × Int, pIn x.1 x.2.1 x.2.2 → s_impl_in x.1 x.2.1 x.2.2 (fun r => r = mIn x.1 x.2.1 x.2.2) := fun x _ => impl_in_ok x.1 x.2.1 x.2.2
theorem all58 (w : World) (hJ : J w) : CtAt Tryd.prog ct58 w :=
  ct_by ok58 (cs58 w hJ) Tryd.func58 (by kernel_rfl) (H := (hint [])) law58 (by kernel_rfl)
set_option maxRecDepth 100000 in
theorem readDec_calls77 (s : ByteArray) (hs : s.size ≤ 1073741824) (w : World)
    (hok : ∀ v, Lib.atoiAll s.data.toList = .ok v → Calls Tryd.prog 117 #[.string s] w fun e w' => e = .returned (.tuple #[.int .i64 v, .nilIface]) ∧ Below w.heap.size w w')
    (hno : (∀ v, Lib.atoiAll s.data.toList ≠ .ok v) → Calls Tryd.prog 117 #[.string s] w fun e w' => ∃ N z t, e = .returned (.tuple #[.int .i64 z, .iface t (.pointer (some ⟨N, 0, none⟩))]) ∧ Below w.heap.size w w')
    (hD : ∀ n : Int, in64 n → ∀ W, Below w.heap.size w W → Calls Tryd.prog 118 #[.int .i64 n] W fun e w' => e = .returned (.string (mDec n)) ∧ Below W.heap.size W w')
    (hN : ∀ n a b : Int, ∀ W, Below w.heap.size w W → Calls Tryd.prog 58 #[.int .i64 n, .int .i64 a, .int .i64 b] W fun e w' => e = .returned (.bool (mIn n a b)) ∧ Below W.heap.size W w') :
    Calls Tryd.prog 77 #[.string s] w fun e w' => e = .returned (.tuple #[.int .i64 (mReadDec s).1, .bool (mReadDec s).2]) ∧ Below w.heap.size w w' := by
  by_cases hv : ∃ v, Lib.atoiAll s.data.toList = .ok v
  · obtain ⟨v, hv⟩ := hv
    have hc := hok v hv
    obtain ⟨r1, r2, r3⟩ := readDec_ok (s := s) hv
    have h64 : in64 v := Lib.atoiAll_bounds hv
    have HR := (show Hid _ from And.intro r1 (And.intro r2 r3))
    have HD := (show Hid _ from hD)
    have HN := (show Hid _ from hN)
    have HC : Hid (Calls Tryd.prog 117 #[.string s] w fun e w' => e = .returned (.tuple #[.int .i64 v, .nilIface]) ∧ Below w.heap.size w w') := hc
    have H6 := (show Hid (in64 v) from h64)
    clear r1 r2 r3 hD hN hok hno hv hc h64
    by_cases c1 : mDec v = s
    · have k2 : ((mDec v).toList == s.toList) = true := by rw [c1]; simp
      cases c2 : mIn v (-999999999) 999999999 with
      | true =>
        go_enter Tryd.func77, Tryd.ntmps77
        go_wp2_with (first
          | (go_at_call 117; refine HC.out.mono ?_; rintro e w1 ⟨rfl, hb⟩; have HB1 : Hid (Below w.heap.size w w1) := hb; clear hb)
          | (go_at_call 118; refine (HD.out v H6.out _ HB1.out).mono ?_; rintro e w2 ⟨rfl, hb⟩; have HB2 : Hid (Below w.heap.size w w2) := Below.trans HB1.out (hb.mono HB1.out.size); clear hb)
          | (go_at_call 58; refine (HN.out _ _ _ _ HB2.out).mono ?_; rintro e w3 ⟨rfl, hb⟩; have HB3 : Hid (Below w.heap.size w w3) := Below.trans HB2.out (hb.mono HB2.out.size); clear hb))
        go_ret2
        have hr : -999999999 ≤ v ∧ v ≤ 999999999 := by unfold mIn at c2; simpa using c2
        rw [HR.out.2.2 c1 hr]
        exact ⟨rfl, HB3.out⟩
      | false =>
        go_enter Tryd.func77, Tryd.ntmps77
        go_wp2_with (first
          | (go_at_call 117; refine HC.out.mono ?_; rintro e w1 ⟨rfl, hb⟩; have HB1 : Hid (Below w.heap.size w w1) := hb; clear hb)
          | (go_at_call 118; refine (HD.out v H6.out _ HB1.out).mono ?_; rintro e w2 ⟨rfl, hb⟩; have HB2 : Hid (Below w.heap.size w w2) := Below.trans HB1.out (hb.mono HB1.out.size); clear hb)
          | (go_at_call 58; refine (HN.out _ _ _ _ HB2.out).mono ?_; rintro e w3 ⟨rfl, hb⟩; have HB3 : Hid (Below w.heap.size w w3) := Below.trans HB2.out (hb.mono HB2.out.size); clear hb))
        go_ret2
        have hr : ¬ (-999999999 ≤ v ∧ v ≤ 999999999) := by unfold mIn at c2; intro hh; simp [hh] at c2
        rw [HR.out.2.1 hr]
        exact ⟨rfl, HB3.out⟩
    · have k2 : ((mDec v).toList == s.toList) = false := by
        rw [beq_eq_false_iff_ne]
        intro hh
        rw [ByteArray.toList_eq, ByteArray.toList_eq] at hh
        exact c1 (bs_inj hh)
      go_enter Tryd.func77, Tryd.ntmps77
      go_wp2_with (first
        | (go_at_call 117; refine HC.out.mono ?_; rintro e w1 ⟨rfl, hb⟩; have HB1 : Hid (Below w.heap.size w w1) := hb; clear hb)
        | (go_at_call 118; refine (HD.out v H6.out _ HB1.out).mono ?_; rintro e w2 ⟨rfl, hb⟩; have HB2 : Hid (Below w.heap.size w w2) := Below.trans HB1.out (hb.mono HB1.out.size); clear hb)
        | (go_at_call 58; refine (HN.out _ _ _ _ HB2.out).mono ?_; rintro e w3 ⟨rfl, hb⟩; have HB3 : Hid (Below w.heap.size w w3) := Below.trans HB2.out (hb.mono HB2.out.size); clear hb))
      go_ret2
      rw [HR.out.1 c1]
      exact ⟨rfl, HB2.out⟩
  · have hc := hno (fun v h => hv ⟨v, h⟩)
    have HR : Hid (mReadDec s = (0, false)) := readDec_no (fun v h => hv ⟨v, h⟩)
    have HC : Hid (Calls Tryd.prog 117 #[.string s] w fun e w' => ∃ N z t, e = .returned (.tuple #[.int .i64 z, .iface t (.pointer (some ⟨N, 0, none⟩))]) ∧ Below w.heap.size w w') := hc
    clear hc hno hok hD hN hv
    go_enter Tryd.func77, Tryd.ntmps77
    go_wp2_with (go_at_call 117; refine HC.out.mono ?_; rintro e w1 ⟨N, z, t, rfl, hb⟩; have HB1 : Hid (Below w.heap.size w w1) := hb; clear hb)
    go_ret2
    rw [HR.out]
    exact ⟨rfl, HB1.out⟩
noncomputable def ct77 : Ct := readDecCt 77
theorem all77 (w : World) (hJ : J w) : CtAt Tryd.prog ct77 w := readDec_ct ⟨_, Tryd.func77, by kernel_rfl, by kernel_rfl⟩ (fun s h => readDec_calls77 s h w
    (fun v hv => (Tryd.strconv_Atoi_ok s (by omega) v hv w).mono fun e w' ⟨he, hw⟩ => ⟨he, by rcases hw with rfl | ⟨t, rfl⟩; exact Below.refl _ _; exact Lib.bytesWorld_below _ _ _⟩)
    (fun hno => by
      cases hv : Lib.atoiAll s.data.toList with
      | ok v => exact absurd hv (hno v)
      | «syntax» => obtain ⟨ev, h1, h2⟩ := hJ.2.1; exact (Tryd.strconv_Atoi_syntax s (by omega) hv ev w h1 h2).mono fun e w' ⟨N, he, _, _, hb⟩ => ⟨N, _, _, he, hb⟩
      | range => obtain ⟨ev, h1, h2⟩ := hJ.2.2.1; exact (Tryd.strconv_Atoi_range s (by omega) hv ev w h1 h2).mono fun e w' ⟨N, he, _, _, hb⟩ => ⟨N, _, _, he, hb⟩)
    (fun k h64 W hb => str_end (S := fun _ => False) (all118 W (J_below hJ hb)) (args_cons (arg_one (by simp only [repLs, repL]; exact ⟨_, rfl, rfl⟩)) args_nil) (fun _ h => h.elim) h64)
    (fun x a b W hb => bool_endF (S := fun _ => False) (all58 W (J_below hJ hb)) (args_cons (arg_one (by simp only [repLs, repL]; exact ⟨_, rfl, rfl⟩)) (args_cons (arg_one (by simp only [repLs, repL]; exact ⟨_, rfl, rfl⟩)) (args_cons (arg_one (by simp only [repLs, repL]; exact ⟨_, rfl, rfl⟩)) args_nil))) (fun _ h => h.elim) trivial))
noncomputable def E78 : Env := { tt, eqs := [], cts := [ct58, ct118] }
theorem ok78 : EnvOk Tryd.prog E78 := ⟨ttOk, by kernel_rfl, rfl, mixOk⟩
theorem cs78 (w0 : World) (hJ : J w0) : EnvCts Tryd.prog E78 w0 w0.heap.size := by
  refine ⟨fun c hc => ?_, fun c hc => ?_⟩
  · rcases List.mem_cons.1 hc with rfl | hc
    · exact fun w hb => all58 w (J_below hJ hb)
    rcases List.mem_cons.1 hc with rfl | hc
    · exact fun w hb => all118 w (J_below hJ hb)
    cases hc
  · cases hc
noncomputable def ct78 : Ct := { f := 78, ps := [.v false .ro ls3], rs := [(false, ls9)], shared := false, pre := fun (x : Int) => pTagOf x, F := fun (x : Int) => mTagOf x }
theorem law78 : ∀ x : Int, pTagOf x → s_impl_TagOf x (fun r => r = mTagOf x) := fun x h => impl_TagOf_ok x h
theorem all78 (w : World) (hJ : J w) : CtAt Tryd.prog ct78 w :=
  ct_by ok78 (cs78 w hJ) Tryd.func78 (by kernel_rfl) (H := (hint [])) law78 (by kernel_rfl)
noncomputable def E37 : Env := { tt, eqs := [], cts := [ct70, ct77, ct78] }
theorem ok37 : EnvOk Tryd.prog E37 := ⟨ttOk, by kernel_rfl, rfl, mixOk⟩
theorem cs37 (w0 : World) (hJ : J w0) : EnvCts Tryd.prog E37 w0 w0.heap.size := by
  refine ⟨fun c hc => ?_, fun c hc => ?_⟩
  · rcases List.mem_cons.1 hc with rfl | hc
    · exact fun w hb => all70 w (J_below hJ hb)
    rcases List.mem_cons.1 hc with rfl | hc
    · exact fun w hb => all77 w (J_below hJ hb)
    rcases List.mem_cons.1 hc with rfl | hc
    · exact fun w hb => all78 w (J_below hJ hb)
    cases hc
  · cases hc
noncomputable def ct37 : Ct := { f := 37, ps := [.v true .ro ls47], rs := [(false, ls3)], shared := false, pre := fun (x : Rsp) => pVersionIn x, F := fun (x : Rsp) => mVersionIn x }
theorem law37 : ∀ x : Rsp, pVersionIn x → s_impl_VersionIn x (fun r => r = mVersionIn x) := fun x h => impl_VersionIn_ok x h
theorem all37 (w : World) (hJ : J w) : CtAt Tryd.prog ct37 w :=
  ct_by ok37 (cs37 w hJ) Tryd.func37 (by kernel_rfl) (H := (hint [])) law37 (by kernel_rfl)
noncomputable def E65 : Env := { tt, eqs := [], cts := [] }
theorem ok65 : EnvOk Tryd.prog E65 := ⟨ttOk, by kernel_rfl, rfl, mixOk⟩
theorem cs65 (w0 : World) (hJ : J w0) : EnvCts Tryd.prog E65 w0 w0.heap.size := by
  refine ⟨fun c hc => ?_, fun c hc => ?_⟩
  · cases hc
  · cases hc
noncomputable def ct65 : Ct := { f := 65, ps := [.v true .ro ls96, .v true .ro ls96], rs := [(false, [.bool])], shared := false, pre := fun (q : Fld × Fld) => pEq q.1 q.2, F := fun (q : Fld × Fld) => eqF q.1 q.2 }
def st65 : List (EqStep Fld) := [.ne (fun (x y : Fld) => x.1 ≠ y.1), .ne (fun (x y : Fld) => x.2 ≠ y.2)]
def mk65 (a0 : S) (a1 : S) : Fld := (a0, a1)
theorem a65 (x y : Fld) : eqAll x y st65 ↔ x = y := by
  constructor
  · rintro ⟨h0, h1, -⟩
    have h0 : x.1 = y.1 := Classical.byContradiction h0
    have h1 : x.2 = y.2 := Classical.byContradiction h1
    show mk65 (x.1) (x.2) = mk65 (y.1) (y.2)
    rw [h0, h1]
    all_goals rfl
  · rintro rfl
    exact ⟨fun h => h rfl, fun h => h rfl, trivial⟩
theorem w65 (x y : Fld) (h : wd x) : eqFine x y st65 := by
  first | simp only [wd_pair] at h | skip
  simp only [eqFine, st65, wd_pair]
  all_goals simp only [h, and_self]
theorem law65 : ∀ q : Fld × Fld, pEq q.1 q.2 → eqSt q.1 q.2 st65 (fun r => r = eqF q.1 q.2) := fun q hq => eqSt_holds q.1 q.2 st65 (w65 q.1 q.2 hq) (eqF_iff.trans (a65 q.1 q.2).symm)
theorem all65 (w : World) (hJ : J w) : CtAt Tryd.prog ct65 w :=
  ct_by ok65 (cs65 w hJ) Tryd.func65 (by kernel_rfl) (H := (hint [])) law65 (by kernel_rfl)
noncomputable def E27 : Env := { tt, eqs := [], cts := [ct65] }
theorem ok27 : EnvOk Tryd.prog E27 := ⟨ttOk, by kernel_rfl, rfl, mixOk⟩
theorem cs27 (w0 : World) (hJ : J w0) : EnvCts Tryd.prog E27 w0 w0.heap.size := by
  refine ⟨fun c hc => ?_, fun c hc => ?_⟩
  · rcases List.mem_cons.1 hc with rfl | hc
    · exact fun w hb => all65 w (J_below hJ hb)
    cases hc
  · cases hc
noncomputable def ct27 : Ct := { f := 27, ps := [.v false .ro ls42, .v false .ro ls42], rs := [(false, [.bool])], shared := false, pre := fun (q : (List Fld) × (List Fld)) => pEq q.1 q.2, F := fun (q : (List Fld) × (List Fld)) => eqF q.1 q.2 }
theorem law27 : ∀ q : (List Fld) × (List Fld), pEq q.1 q.2 → eqS (α := Fld) Dft.dft (fun a b => pEq a b) (fun a b => eqF a b) q.1 q.2 (fun r => r = eqF q.1 q.2) := fun q hq => eqS_holds (α := Fld) Dft.dft (fun a b => pEq a b) (fun a b => eqF a b) q.1 q.2 hq.1 (fun i a _ h => hq.2 i a h) (fun _ _ => eqF_iff) eqF_iff
theorem all27 (w : World) (hJ : J w) : CtAt Tryd.prog ct27 w :=
  ct_by ok27 (cs27 w hJ) Tryd.func27 (by kernel_rfl) (H := (hint [(4, [.val 5 (.int .i64)])])) law27 (by kernel_rfl)
noncomputable def E26 : Env := { tt, eqs := [], cts := [ct27] }
theorem ok26 : EnvOk Tryd.prog E26 := ⟨ttOk, by kernel_rfl, rfl, mixOk⟩
theorem cs26 (w0 : World) (hJ : J w0) : EnvCts Tryd.prog E26 w0 w0.heap.size := by
  refine ⟨fun c hc => ?_, fun c hc => ?_⟩
  · rcases List.mem_cons.1 hc with rfl | hc
    · exact fun w hb => all27 w (J_below hJ hb)
    cases hc
  · cases hc
noncomputable def ct26 : Ct := { f := 26, ps := [.v true .ro ls47, .v true .ro ls47], rs := [(false, [.bool])], shared := false, pre := fun (q : Rsp × Rsp) => pEq q.1 q.2, F := fun (q : Rsp × Rsp) => eqF q.1 q.2 }
def st26 : List (EqStep Rsp) := [.ne (fun (x y : Rsp) => x.1 ≠ y.1), .call (fun (x _ : Rsp) => wd (x.2.1 : (List Fld))) (fun (x y : Rsp) => eqF (x.2.1 : (List Fld)) y.2.1), .ne (fun (x y : Rsp) => x.2.2 ≠ y.2.2)]
def mk26 (a0 : Int) (a1 : (List Fld)) (a2 : S) : Rsp := (a0, a1, a2)
theorem a26 (x y : Rsp) : eqAll x y st26 ↔ x = y := by
  constructor
  · rintro ⟨h0, h1, h2, -⟩
    have h0 : x.1 = y.1 := Classical.byContradiction h0
    have h1 : (x.2.1 : (List Fld)) = y.2.1 := eqF_iff.1 h1
    have h2 : x.2.2 = y.2.2 := Classical.byContradiction h2
    show mk26 (x.1) (x.2.1) (x.2.2) = mk26 (y.1) (y.2.1) (y.2.2)
    rw [h0, h1, h2]
    all_goals rfl
  · rintro rfl
    exact ⟨fun h => h rfl, eqF_iff.2 rfl, fun h => h rfl, trivial⟩
theorem w26 (x y : Rsp) (h : wd x) : eqFine x y st26 := by
  first | simp only [wd_pair] at h | skip
  simp only [eqFine, st26, wd_pair]
  all_goals simp only [h, and_self]
theorem law26 : ∀ q : Rsp × Rsp, pEq q.1 q.2 → eqSt q.1 q.2 st26 (fun r => r = eqF q.1 q.2) := fun q hq => eqSt_holds q.1 q.2 st26 (w26 q.1 q.2 hq) (eqF_iff.trans (a26 q.1 q.2).symm)
theorem all26 (w : World) (hJ : J w) : CtAt Tryd.prog ct26 w :=
  ct_by ok26 (cs26 w hJ) Tryd.func26 (by kernel_rfl) (H := (hint [])) law26 (by kernel_rfl)
noncomputable def E7 : Env := { tt, eqs := [], cts := [ct18, ct22, ct36, ct37, ct26] }
theorem ok7 : EnvOk Tryd.prog E7 := ⟨ttOk, by kernel_rfl, rfl, mixOk⟩
theorem cs7 (w0 : World) (hJ : J w0) : EnvCts Tryd.prog E7 w0 w0.heap.size := by
  refine ⟨fun c hc => ?_, fun c hc => ?_⟩
  · rcases List.mem_cons.1 hc with rfl | hc
    · exact fun w hb => all18 w (J_below hJ hb)
    rcases List.mem_cons.1 hc with rfl | hc
    · exact fun w hb => all22 w (J_below hJ hb)
    rcases List.mem_cons.1 hc with rfl | hc
    · exact fun w hb => all36 w (J_below hJ hb)
    rcases List.mem_cons.1 hc with rfl | hc
    · exact fun w hb => all37 w (J_below hJ hb)
    rcases List.mem_cons.1 hc with rfl | hc
    · exact fun w hb => all26 w (J_below hJ hb)
    cases hc
  · cases hc
noncomputable def ct7 : Ct := boolCt 7 [.v true .ro ls37] (fun (x : Rsp) => p_FnExactVersionIn x)
theorem law7 : ∀ x : Rsp, p_FnExactVersionIn x → s_laws_FnExactVersionIn x (fun r => r = true) := fun x h => laws_FnExactVersionIn_ok x h
theorem all7 (w : World) (hJ : J w) : CtAt Tryd.prog ct7 w :=
  ct_by ok7 (cs7 w hJ) Tryd.func7 (by kernel_rfl) (H := (hint [])) law7 (by kernel_rfl)
end Go.Proofs.YtinphipdffikhaaDoor.Ap
end
