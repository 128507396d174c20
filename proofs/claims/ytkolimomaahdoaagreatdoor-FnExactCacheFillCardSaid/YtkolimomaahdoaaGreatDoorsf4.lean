/- A small verified machine for the operations of the given program, and plain laws of what its functions compute; without conditions of its own. Part 5. -/
import Derived.Test.YtkolimomaahdoaaGreatDoorsf3
import Derived.Lib.SlTrimSet
import Derived.Lib.Bytealg
import Derived.Lib.IndexMore
import Derived.Lib.Join
import Derived.Lib.ItoaMem
import Derived.Lib.ItoaLen
import Derived.Lib.AppendIntMem
import Derived.Lib.LaidTab
import Derived.Stop.LaidErr
import Derived.DataReads
import Derived.Laws.IdiomStrings
import Derived.Lib.AtoiAllMem
import Derived.Lib.AtoiAllCases
import Derived.Lib.Split
import Derived.Sort.Walk0
import Derived.Lib.IndexBytes
import Derived.Lib.IndexLaws
set_option linter.unusedVariables false
set_option linter.unusedSimpArgs false
section
/- The plain library: what the program's functions compute, as Lean functions; and what they ask of their arguments. -/
set_option linter.unusedVariables false
namespace Go.Ev
def sm (s : S) : Prop := s.size ≤ 1073741824
def md {α : Type} [Cz α] (x : α) : Prop := cz x ≤ 1048576

def joinL (sep : S) : List S → S
  | [] => lit []
  | [x] => x
  | x :: y :: r => x ++ sep ++ joinL sep (y :: r)
def mJoin (xs : List S) (sep : S) : S := joinL sep xs
def pJoin (xs : List S) (sep : S) : Prop := xs.length ≤ 1073741824 ∧ sumN (xs.map fun x => x.size) ≤ 1073741824 ∧ sep.size ≤ 16
def mTrimL (s cs : S) : S := ob (Lib.trimS (bs s) (bs cs))
def pTrimL (s cs : S) : Prop := sm s ∧ cs = lit [32, 9]
def mIndexByte (s : S) (c : Int) : Int := Lib.indexByte (bs s) c.toNat.toUInt8
def pIndexByte (s : S) (c : Int) : Prop := True
def mEqual_Field (a b : List Fld) : Bool := decide (a = b)
def pEqual_Field (a b : List Fld) : Prop := a.length ≤ maxLen

def mIn (n lo hi : Int) : Bool := decide (lo ≤ n) && decide (n ≤ hi)
def pIn (n lo hi : Int) : Prop := True

def mItoa (n : Int) : S := ob (Lib.itoa n)
def mDec (n : Int) : S := mItoa n
def mIsLetterOrDigit (b : Int) : Bool := (decide (97 ≤ b) && decide (b ≤ 122)) || (decide (65 ≤ b) && decide (b ≤ 90)) || (decide (48 ≤ b) && decide (b ≤ 57))
def pIsLetterOrDigit (b : Int) : Prop := True
def tokenSigns : List Int := [33, 35, 36, 37, 38, 39, 42, 43, 45, 46, 94, 95, 96, 124, 126]
def mToken (b : Int) : Bool := mIsLetterOrDigit b || tokenSigns.any fun c => decide (b = c)
def pToken (b : Int) : Prop := True
def ints (s : S) : List Int := (bs s).map fun b => (b.toNat : Int)
def mIsTokenText (s : S) : Bool := (ints s).all mToken && decide (s.size ≠ 0)
def pIsTokenText (s : S) : Prop := sm s
def lowB (b : UInt8) : UInt8 := if 65 ≤ b.toNat ∧ b.toNat ≤ 90 then b + 32 else b
def mLower (s : S) : S := ob ((bs s).map lowB)
def pLower (s : S) : Prop := sm s
def mBlank (b : Int) : Bool := decide (b = 32) || decide (b = 9)
def pBlank (b : Int) : Prop := True
def mTrim (s : S) : S := ob (Lib.trimS (bs s) [32, 9])
def pTrim (s : S) : Prop := sm s
def mIsValueText (s : S) : Bool := (ints s).all (fun b => decide (b = 9) || (decide (32 ≤ b) && decide (b ≠ 127))) && decide (mTrim s = s)
def pIsValueText (s : S) : Prop := sm s
def valuesOf (l : List Fld) (n : S) : List S := (l.filter fun f => decide (f.1 = n)).map fun f => f.2
def mFieldGet (l : List Fld) (n : S) : S × Bool := (mJoin (valuesOf l n) (lit [44, 32]), decide (0 < (valuesOf l n).length))
def pFieldGet (l : List Fld) (n : S) : Prop := md l
def mHasField (l : List Fld) (n : S) : Bool := (mFieldGet l n).2
def pHasField (l : List Fld) (n : S) : Prop := md l
def mFieldOk (f : Fld) : Bool := mIsTokenText f.1 && decide ((f.1.size : Int) ≤ 24) && decide (mLower f.1 = f.1) && mIsValueText f.2 && decide ((f.2.size : Int) ≤ 60)
def pFieldOk (f : Fld) : Prop := sm f.1 ∧ sm f.2
def mFieldsOk_1 (f : Fld) : Bool := !mFieldOk f
def pFieldsOk_1 (f : Fld) : Prop := pFieldOk f
def mIndexFunc_FieldsOk_1 (l : List Fld) (_ : Unit) : Int := idxI mFieldsOk_1 l
def pIndexFunc_FieldsOk_1 (l : List Fld) (_ : Unit) : Prop := md l
def mContainsFunc_FieldsOk_1 (l : List Fld) (_ : Unit) : Bool := l.any mFieldsOk_1
def pContainsFunc_FieldsOk_1 (l : List Fld) (_ : Unit) : Prop := md l
def mFieldsOk (l : List Fld) : Bool := l.all mFieldOk && decide ((l.length : Int) ≤ 12)
def pFieldsOk (l : List Fld) : Prop := md l
def mSameFields (a b : List Fld) : Bool := decide (a = b)
def pSameFields (a b : List Fld) : Prop := a.length ≤ maxLen

def nameCL : S := lit [99, 111, 110, 116, 101, 110, 116, 45, 108, 101, 110, 103, 116, 104]
def nameTE : S := lit [116, 114, 97, 110, 115, 102, 101, 114, 45, 101, 110, 99, 111, 100, 105, 110, 103]
def mBodyFields (l : List Fld) : Bool := mHasField l nameCL || mHasField l nameTE
def pBodyFields (l : List Fld) : Prop := md l
def mOwnFields (l : List Fld) : Bool := mFieldsOk l && decide ((l.length : Int) < 12) && !mBodyFields l
def pOwnFields (l : List Fld) : Prop := md l
def mUriOk (s : S) : Bool := (ints s).all (fun b => decide (33 ≤ b) && decide (b ≤ 126)) && mIn (s.size : Int) 1 20 && decide (bt s 0 = 47)
def pUriOk (s : S) : Prop := sm s
def mBodiless (n : Int) : Bool := decide (n = 204) || decide (n = 304)
def pBodiless (n : Int) : Prop := True
def mResponseOk (r : Rsp) : Bool := mIn r.1 200 599 && mOwnFields r.2.1 && decide ((r.2.2.size : Int) ≤ 60) && (decide (r.2.2 = lit []) || !mBodiless r.1)
def pResponseOk (r : Rsp) : Prop := md r.2.1

def mStoredOk (x : Sto) : Bool := mUriOk x.1 && mResponseOk (x.2.2.1, x.2.2.2.1, x.2.2.2.2.1) && mIn x.2.2.2.2.2.1 0 2000000000 && mIn x.2.2.2.2.2.2 x.2.2.2.2.2.1 2000000000 && decide ((x.2.1.length : Int) ≤ 12)
def pStoredOk (x : Sto) : Prop := md x
def mStandAlike (a b : Sto) : Bool := decide (a.1 = b.1) && decide (a.2.1 = b.2.1)
def pStandAlike (a b : Sto) : Prop := a.2.1.length ≤ maxLen
def mShardSizes (a b : Int) : Bool := mIn a 1 8 && mIn b 0 500
def pShardSizes (a b : Int) : Prop := True
def stoOf (x : Slt) : Sto := (x.1, x.2.1, x.2.2.1, x.2.2.2.1, x.2.2.2.2.1, x.2.2.2.2.2.1, x.2.2.2.2.2.2.1)
def mBodies (r : List Slt) : Int := (sumN (r.map fun x => x.2.2.2.2.1.size) : Nat)
def pBodies (r : List Slt) : Prop := md r
def mFilledS (s : Shd) : Int := mBodies s.2.2.1
def pFilledS (s : Shd) : Prop := md s
def mShardOk_1 (y x : Slt) : Bool := mStandAlike (stoOf x) (stoOf y)
def pShardOk_1 (y x : Slt) : Prop := x.2.1.length ≤ maxLen
def mIndexFunc_ShardOk_1 (l : List Slt) (x : Slt) : Int := idxI (fun y => mShardOk_1 y x) l
def pIndexFunc_ShardOk_1 (l : List Slt) (x : Slt) : Prop := l.length ≤ maxLen ∧ x.2.1.length ≤ maxLen
def mContainsFunc_ShardOk_1 (l : List Slt) (x : Slt) : Bool := l.any fun y => mShardOk_1 y x
def pContainsFunc_ShardOk_1 (l : List Slt) (x : Slt) : Prop := l.length ≤ maxLen ∧ x.2.1.length ≤ maxLen
def ringFine (r : List Slt) : Prop := ∀ i, i < r.length → mStoredOk (stoOf (rx r (i : Int))) = true ∧ ∀ j, j < i → mStandAlike (stoOf (rx r (j : Int))) (stoOf (rx r (i : Int))) = false
open Classical in
noncomputable def mShardOk (s : Shd) : Bool := mShardSizes s.1 s.2.1 && decide ((s.2.2.1.length : Int) ≤ s.1) && (decide (s.2.2.2 = 0) || mIn s.2.2.2 0 ((s.2.2.1.length : Int) - 1)) && decide (ringFine s.2.2.1) && decide (mBodies s.2.2.1 ≤ s.2.1)
def pShardOk (s : Shd) : Prop := md s
end Go.Ev
end

section
/- The plain library: what a cache's functions compute. -/
set_option linter.unusedVariables false
namespace Go.Ev
def fnvStep (h : Int) (b : UInt8) : Int := (IntKind.i64.wrap ((lxor IntKind.i64 h (IntKind.i64.wrap (b.toNat : Int))) * 16777619)).tmod 4294967296
def mFnv (s : S) : Int := (bs s).foldl fnvStep 2166136261
def pFnv (s : S) : Prop := sm s
def mShardOf (c : Cch) (u : S) : Int := if (c.1.length : Int) = 0 then -1 else (mFnv u).tmod (c.1.length : Int)
def pShardOf (c : Cch) (u : S) : Prop := sm u
def mCacheOk_1 (x : Slt) (c : Cch) (i : Int) : Bool := decide (mShardOf c x.1 ≠ i)
def pCacheOk_1 (x : Slt) (c : Cch) (i : Int) : Prop := sm x.1
def mIndexFunc_CacheOk_1 (l : List Slt) (y : Cch × Int) : Int := idxI (fun x => mCacheOk_1 x y.1 y.2) l
def pIndexFunc_CacheOk_1 (l : List Slt) (y : Cch × Int) : Prop := md l
def mContainsFunc_CacheOk_1 (l : List Slt) (y : Cch × Int) : Bool := l.any fun x => mCacheOk_1 x y.1 y.2
def pContainsFunc_CacheOk_1 (l : List Slt) (y : Cch × Int) : Prop := md l
def shardAt (c : Cch) (i : Nat) : Prop := mShardOk (rx c.1 (i : Int)) = true ∧ ∀ j, j < (rx c.1 (i : Int)).2.2.1.length → mShardOf c (rx (rx c.1 (i : Int)).2.2.1 (j : Int)).1 = (i : Int)
def genAt (g : List Gen) (i : Nat) : Prop := mUriOk (rx g (i : Int)).1 = true ∧ mIn (rx g (i : Int)).2 1 1000000 = true ∧ (i = 0 ∨ strLt (rx g ((i - 1 : Nat) : Int)).1 (rx g (i : Int)).1)
def cacheFine (c : Cch) : Prop := mIn (c.1.length : Int) 1 4 = true ∧ (∀ i, i < c.1.length → shardAt c i) ∧ ∀ i, i < c.2.length → genAt c.2 i
open Classical in
noncomputable def mCacheOk (c : Cch) : Bool := decide (cacheFine c)
def pCacheOk (c : Cch) : Prop := md c
end Go.Ev
end

section
/- The plain library: what the laws' marks are. -/
set_option linter.unusedVariables false
namespace Go.Ev
def mMarkText (k : Int) : S := if k ≤ 0 then lit [109, 48] else lit [109] ++ mDec k
def pMarkText (k : Int) : Prop := in64 k
def markFld : List Fld → Int → List Fld
  | [], _ => []
  | _ :: r, k => (mMarkText k, mMarkText (k + 1)) :: markFld r (k + 2)
def heldFld : List Fld → Int → Int
  | [], k => k
  | f :: r, k => if f.1 ≠ mMarkText k then -1 else if f.2 ≠ mMarkText (k + 1) then -1 else heldFld r (k + 2)
def pMk (n : Nat) (k : Int) : Prop := 0 ≤ k ∧ k ≤ 1099511627776 ∧ n ≤ 1099511627776
def mMarkFieldS (l : List Fld) (k : Int) : Int := k + 2 * l.length
def wMarkFieldS (l : List Fld) (k : Int) : List Fld × Int := (markFld l k, k)
def pMarkFieldS (l : List Fld) (k : Int) : Prop := pMk l.length k
def mHeldFieldS (l : List Fld) (k : Int) : Int := heldFld l k
def pHeldFieldS (l : List Fld) (k : Int) : Prop := pMk l.length k
def mMarkResponse (r : Rsp) (k : Int) : Int := mMarkFieldS r.2.1 k
def wMarkResponse (r : Rsp) (k : Int) : Rsp × Int := ((r.1, markFld r.2.1 k, r.2.2), k)
def pMarkResponse (r : Rsp) (k : Int) : Prop := pMarkFieldS r.2.1 k
theorem markFld_length : ∀ (l : List Fld) (k : Int), (markFld l k).length = l.length
  | [], _ => rfl
  | _ :: r, k => by simp [markFld, markFld_length r]
theorem held_mark : ∀ (l : List Fld) (k : Int), heldFld (markFld l k) k = k + 2 * l.length
  | [], k => by simp [markFld, heldFld]
  | _ :: r, k => by
    simp only [markFld, heldFld, ne_eq, not_true_eq_false, if_false, held_mark r, List.length_cons]
    omega
theorem markFld_get : ∀ (l : List Fld) (k : Int) (i : Nat) (h : i < l.length), (markFld l k)[i]'(by rw [markFld_length]; exact h) = (mMarkText (k + 2 * i), mMarkText (k + 2 * i + 1))
  | f :: r, k, 0, h => by simp [markFld]
  | f :: r, k, i + 1, h => by
    simp only [markFld, List.getElem_cons_succ]
    rw [markFld_get r (k + 2) i (by simpa using h)]
    rw [show k + 2 + 2 * (i : Int) = k + 2 * ((i + 1 : Nat) : Int) by omega]
end Go.Ev
end

section
/- The plain library: marks of texts in a row, FieldSet and WithAge. -/
set_option linter.unusedVariables false
namespace Go.Ev
end Go.Ev
end

section
/- The plain library: marks of what has slices in its slices; copies; ShardTouch. -/
set_option linter.unusedVariables false
namespace Go.Ev
def markL {α : Type} (f : α → Int → α) (c : α → Nat) : List α → Int → List α
  | [], _ => []
  | x :: r, k => f x k :: markL f c r (k + c x)
theorem markL_length {α : Type} {f : α → Int → α} {c : α → Nat} : ∀ (l : List α) (k : Int), (markL f c l k).length = l.length
  | [], _ => rfl
  | x :: r, k => by simp [markL, markL_length r]
theorem markL_get {α : Type} {f : α → Int → α} {c : α → Nat} : ∀ (l : List α) (k : Int) (i : Nat) (h : i < l.length), (markL f c l k)[i]'(by rw [markL_length]; exact h) = f l[i] (k + (sumN ((l.take i).map c) : Nat))
  | x :: r, k, 0, h => by simp [markL, sumN]
  | x :: r, k, i + 1, h => by
    simp only [markL, List.getElem_cons_succ, List.take_succ_cons, List.map_cons, sumN]
    rw [markL_get r (k + c x) i (by simpa using h)]
    congr 1
    omega
theorem markL_cnt {α : Type} {f : α → Int → α} {c : α → Nat} (hc : ∀ x k, c (f x k) = c x) : ∀ (l : List α) (k : Int), sumN ((markL f c l k).map c) = sumN (l.map c)
  | [], _ => rfl
  | x :: r, k => by simp [markL, sumN, hc, markL_cnt hc r]
theorem markL_idem {α : Type} {f : α → Int → α} {c : α → Nat} (hc : ∀ x k, c (f x k) = c x) (hf : ∀ x k, f (f x k) k = f x k) : ∀ (l : List α) (k : Int), markL f c (markL f c l k) k = markL f c l k
  | [], _ => rfl
  | x :: r, k => by simp [markL, hf, hc, markL_idem hc hf r]
theorem sum_le_of {α : Type} {c d : α → Nat} (h : ∀ x, c x ≤ d x) : ∀ (l : List α), sumN (l.map c) ≤ sumN (l.map d)
  | [] => Nat.le_refl _
  | x :: r => by
    have := sum_le_of h r
    have := h x
    simp only [List.map_cons, sumN]
    omega
theorem sum_ge_len {α : Type} {c : α → Nat} {m : Nat} (h : ∀ x, m ≤ c x) : ∀ (l : List α), m * l.length ≤ sumN (l.map c)
  | [] => by simp
  | x :: r => by
    have := sum_ge_len h r
    have := h x
    simp only [List.map_cons, sumN, List.length_cons, Nat.mul_add]
    omega
theorem sum_mul {α : Type} {c : α → Nat} {m n : Nat} : ∀ (l : List α), sumN (l.map fun x => m + n * c x) = m * l.length + n * sumN (l.map c)
  | [] => by simp [sumN]
  | x :: r => by
    simp only [List.map_cons, sumN, List.length_cons, sum_mul r, Nat.mul_add]
    omega
theorem sum_take_succ {α : Type} {c : α → Nat} {l : List α} {i : Nat} (h : i < l.length) : sumN ((l.take (i + 1)).map c) = sumN ((l.take i).map c) + c l[i] := by
  induction l generalizing i with
  | nil => simp at h
  | cons x r ih =>
    cases i with
    | zero => simp [sumN]
    | succ i =>
      simp only [List.take_succ_cons, List.map_cons, sumN, List.getElem_cons_succ]
      rw [ih (by simpa using h)]
      omega
theorem sum_take_le {α : Type} (c : α → Nat) (l : List α) (i : Nat) : sumN ((l.take i).map c) ≤ sumN (l.map c) := by
  induction l generalizing i with
  | nil => simp
  | cons x r ih =>
    cases i with
    | zero => simp [sumN]
    | succ i =>
      simp only [List.take_succ_cons, List.map_cons, sumN]
      have := ih i
      omega
theorem sum_at {α : Type} {c : α → Nat} {l : List α} {i : Nat} (h : i < l.length) : sumN ((l.take i).map c) + c l[i] ≤ sumN (l.map c) := by
  rw [← sum_take_succ h]
  exact sum_take_le c l (i + 1)
def pMn (n : Nat) (k : Int) : Prop := 0 ≤ k ∧ k + (n : Int) ≤ 1099511627776
def cntSlt (x : Slt) : Nat := 6 + 2 * x.2.1.length + 2 * x.2.2.2.1.length
def markSlt (x : Slt) (k : Int) : Slt :=
  (mMarkText k, markFld x.2.1 (k + 1), k + 1 + 2 * (x.2.1.length : Int), markFld x.2.2.2.1 (k + 1 + 2 * (x.2.1.length : Int) + 1), mMarkText (k + 1 + 2 * (x.2.1.length : Int) + 1 + 2 * (x.2.2.2.1.length : Int)),
    k + 1 + 2 * (x.2.1.length : Int) + 1 + 2 * (x.2.2.2.1.length : Int) + 1, k + 1 + 2 * (x.2.1.length : Int) + 1 + 2 * (x.2.2.2.1.length : Int) + 1 + 1,
    decide ((k + 1 + 2 * (x.2.1.length : Int) + 1 + 2 * (x.2.2.2.1.length : Int) + 1 + 1 + 1).tmod 3 = 0))
theorem markFld_idem : ∀ (l : List Fld) (k : Int), markFld (markFld l k) k = markFld l k
  | [], _ => rfl
  | _ :: r, k => by simp [markFld, markFld_idem r]
theorem cnt_markSlt (x : Slt) (k : Int) : cntSlt (markSlt x k) = cntSlt x := by simp [cntSlt, markSlt, markFld_length]
theorem markSlt_idem (x : Slt) (k : Int) : markSlt (markSlt x k) k = markSlt x k := by simp [markSlt, markFld_length, markFld_idem]
def mMarkSlotS (l : List Slt) (k : Int) : Int := k + (sumN (l.map cntSlt) : Nat)
def wMarkSlotS (l : List Slt) (k : Int) : List Slt × Int := (markL markSlt cntSlt l k, k)
def pMarkSlotS (l : List Slt) (k : Int) : Prop := pMn (sumN (l.map cntSlt)) k
def mHeldSlotS (l : List Slt) (k : Int) : Int := k + (sumN (l.map cntSlt) : Nat)
def pHeldSlotS (l : List Slt) (k : Int) : Prop := pMn (sumN (l.map cntSlt)) k ∧ markL markSlt cntSlt l k = l
def cntShd (x : Shd) : Nat := 3 + sumN (x.2.2.1.map cntSlt)
def markShd (x : Shd) (k : Int) : Shd := (k, k + 1, markL markSlt cntSlt x.2.2.1 (k + 1 + 1), k + 1 + 1 + (sumN (x.2.2.1.map cntSlt) : Nat))
theorem cnt_markShd (x : Shd) (k : Int) : cntShd (markShd x k) = cntShd x := by simp [cntShd, markShd, markL_cnt cnt_markSlt]
theorem markShd_idem (x : Shd) (k : Int) : markShd (markShd x k) k = markShd x k := by simp [markShd, markL_cnt cnt_markSlt, markL_idem cnt_markSlt markSlt_idem]
def mMarkShardS (l : List Shd) (k : Int) : Int := k + (sumN (l.map cntShd) : Nat)
def wMarkShardS (l : List Shd) (k : Int) : List Shd × Int := (markL markShd cntShd l k, k)
def pMarkShardS (l : List Shd) (k : Int) : Prop := pMn (sumN (l.map cntShd)) k
def mHeldShardS (l : List Shd) (k : Int) : Int := k + (sumN (l.map cntShd) : Nat)
def pHeldShardS (l : List Shd) (k : Int) : Prop := pMn (sumN (l.map cntShd)) k ∧ markL markShd cntShd l k = l
def cntGen (_ : Gen) : Nat := 2
def markGen (_ : Gen) (k : Int) : Gen := (mMarkText k, k + 1)
theorem sum_gen : ∀ (l : List Gen), sumN (l.map cntGen) = 2 * l.length
  | [] => rfl
  | _ :: r => by simp only [List.map_cons, sumN, sum_gen r, cntGen, List.length_cons]; omega
def mMarkGenRowS (l : List Gen) (k : Int) : Int := k + (sumN (l.map cntGen) : Nat)
def wMarkGenRowS (l : List Gen) (k : Int) : List Gen × Int := (markL markGen cntGen l k, k)
def pMarkGenRowS (l : List Gen) (k : Int) : Prop := pMn (sumN (l.map cntGen)) k
def mHeldGenRowS (l : List Gen) (k : Int) : Int := k + (sumN (l.map cntGen) : Nat)
def pHeldGenRowS (l : List Gen) (k : Int) : Prop := pMn (sumN (l.map cntGen)) k ∧ markL markGen cntGen l k = l
def mMarkCache (c : Cch) (k : Int) : Int := mMarkGenRowS c.2 (mMarkShardS c.1 k)
def wMarkCache (c : Cch) (k : Int) : Cch × Int := ((markL markShd cntShd c.1 k, markL markGen cntGen c.2 (mMarkShardS c.1 k)), k)
def pMarkCache (c : Cch) (k : Int) : Prop := pMn (sumN (c.1.map cntShd) + sumN (c.2.map cntGen)) k
def mHeldCache (c : Cch) (k : Int) : Int := mHeldGenRowS c.2 (mHeldShardS c.1 k)
def pHeldCache (c : Cch) (k : Int) : Prop := pMn (sumN (c.1.map cntShd) + sumN (c.2.map cntGen)) k ∧ markL markShd cntShd c.1 k = c.1 ∧ markL markGen cntGen c.2 (mHeldShardS c.1 k) = c.2
def mMarkStored (x : Sto) (k : Int) : Int := mMarkResponse (x.2.2.1, x.2.2.2.1, x.2.2.2.2.1) (mMarkFieldS x.2.1 k)
def wMarkStored (x : Sto) (k : Int) : Sto × Int := ((x.1, markFld x.2.1 k, x.2.2.1, markFld x.2.2.2.1 (mMarkFieldS x.2.1 k), x.2.2.2.2.1, x.2.2.2.2.2), k)
def pMarkStored (x : Sto) (k : Int) : Prop := pMn (2 * x.2.1.length + 2 * x.2.2.2.1.length) k
def mClone_Field (l : List Fld) : List Fld := l
def pClone_Field (l : List Fld) : Prop := l.length ≤ 1099511627776
def mClone_GenRow (l : List Gen) : List Gen := l
def pClone_GenRow (l : List Gen) : Prop := l.length ≤ 1099511627776
def mCloneResponse (r : Rsp) : Rsp := r
def pCloneResponse (r : Rsp) : Prop := md r
def mCloneStored (x : Sto) : Sto := x
def pCloneStored (x : Sto) : Prop := md x
def mCloneShard (s : Shd) : Shd := s
def pCloneShard (s : Shd) : Prop := md s
def mCloneCache (c : Cch) : Cch := c
def pCloneCache (c : Cch) : Prop := md c
def mL12Resp (r : Rsp) : Rsp := r
def pL12Resp (r : Rsp) : Prop := md r
def mL12One (x : Sto) : Sto := x
def pL12One (x : Sto) : Prop := md x
def mL12Copy (s : Shd) : Shd := s
def pL12Copy (s : Shd) : Prop := md s
def mL13Copy (c : Cch) : Cch := c
def pL13Copy (c : Cch) : Prop := md c
end Go.Ev
end

section
/- The plain library: slots taken out of a ring; ShardDrop, ShardPut, CacheFill. -/
set_option linter.unusedVariables false
namespace Go.Ev
def handOut (i hd m : Int) : Int := if m ≤ (if i < hd then hd - 1 else hd) then 0 else (if i < hd then hd - 1 else hd)
def mDelete_Slot (xs : List Slt) (i j : Int) : List Slt := xs.eraseIdx i.toNat
def pDelete_Slot (xs : List Slt) (i j : Int) : Prop := 0 ≤ i ∧ i < (xs.length : Int) ∧ j = i + 1
def mL12Remove (s : Shd) (i : Int) : Shd := (s.1, s.2.1, s.2.2.1.eraseIdx i.toNat, handOut i s.2.2.2 (s.2.2.1.eraseIdx i.toNat).length)
def pL12Remove (s : Shd) (i : Int) : Prop := 0 ≤ i ∧ i < (s.2.2.1.length : Int) ∧ s.2.2.1.length ≤ 1048576 ∧ 0 ≤ s.2.2.2 ∧ s.2.2.2 ≤ 1048576
def mTakeOut (s : Shd) (i : Int) : Unit := ()
def wTakeOut (s : Shd) (i : Int) : Shd × Int := (mL12Remove s i, i)
def pTakeOut (s : Shd) (i : Int) : Prop := pL12Remove s i
def tkAll (f : Sto → Bool) : Nat → Shd → Int → Shd × Int
  | 0, s, n => (s, n)
  | k + 1, s, n => if f (stoOf (rx s.2.2.1 (k : Int))) = true then tkAll f k (mL12Remove s k) (n + 1) else tkAll f k s n
def pTkAll (s : Shd) : Prop := s.2.2.1.length ≤ 1048576 ∧ 0 ≤ s.2.2.2 ∧ s.2.2.2 ≤ 1048576
def mShardPut_1 (y x : Sto) : Bool := mStandAlike x y
def pShardPut_1 (y x : Sto) : Prop := pStandAlike x y
def mtakeAll_ShardPut_1 (s : Shd) (x : Sto) : Int := (tkAll (fun y => mShardPut_1 y x) s.2.2.1.length s 0).2
def wtakeAll_ShardPut_1 (s : Shd) (x : Sto) : Shd × Sto := ((tkAll (fun y => mShardPut_1 y x) s.2.2.1.length s 0).1, x)
def ptakeAll_ShardPut_1 (s : Shd) (x : Sto) : Prop := pTkAll s ∧ x.2.1.length ≤ maxLen
def hOk (s : Shd) : Prop := 0 ≤ s.2.2.2 ∧ (s.2.2.2 < (s.2.2.1.length : Int) ∨ s.2.2.2 = 0) ∧ s.2.2.1.length ≤ 1048576
def unused (x : Slt) : Slt := (x.1, x.2.1, x.2.2.1, x.2.2.2.1, x.2.2.2.2.1, x.2.2.2.2.2.1, x.2.2.2.2.2.2.1, false)
def evictTo : Nat → Shd → Shd
  | 0, s => s
  | k + 1, s => if (rx s.2.2.1 s.2.2.2).2.2.2.2.2.2.2 = true then
      evictTo k (s.1, s.2.1, s.2.2.1.set s.2.2.2.toNat (unused (rx s.2.2.1 s.2.2.2)), (s.2.2.2 + 1).tmod (s.2.2.1.length : Int)) else mL12Remove s s.2.2.2
def mL12Evict (s : Shd) : Shd := evictTo (s.2.2.1.length + 1) s
def pL12Evict (s : Shd) : Prop := 0 ≤ s.2.2.2 ∧ s.2.2.2 < (s.2.2.1.length : Int) ∧ s.2.2.1.length ≤ 1048576
def mEvict (s : Shd) : Unit := ()
def wEvict (s : Shd) : Shd := mL12Evict s
def pEvict (s : Shd) : Prop := pL12Evict s
def putTo (slots room size : Int) : Nat → Shd → Int → Shd × Int
  | 0, s, n => (s, n)
  | k + 1, s, n => if slots ≤ (s.2.2.1.length : Int) ∨ room < mBodies s.2.2.1 + size then putTo slots room size k (mL12Evict s) (n + 1) else (s, n)
def slotOfSto (x : Sto) : Slt := (x.1, x.2.1, x.2.2.1, x.2.2.2.1, x.2.2.2.2.1, x.2.2.2.2.2.1, x.2.2.2.2.2.2, false)
noncomputable def mShardPut (s : Shd) (x : Sto) : Shd × Int := if mShardOk s = true then (if mStoredOk x = true then
    (if s.2.1 < (x.2.2.2.2.1.size : Int) then ((tkAll (fun y => mShardPut_1 y x) s.2.2.1.length s 0).1, 0) else
      (((putTo s.1 s.2.1 (x.2.2.2.2.1.size : Int) (s.2.2.1.length + 1) (tkAll (fun y => mShardPut_1 y x) s.2.2.1.length s 0).1 0).1.1, (putTo s.1 s.2.1 (x.2.2.2.2.1.size : Int) (s.2.2.1.length + 1) (tkAll (fun y => mShardPut_1 y x) s.2.2.1.length s 0).1 0).1.2.1,
        (putTo s.1 s.2.1 (x.2.2.2.2.1.size : Int) (s.2.2.1.length + 1) (tkAll (fun y => mShardPut_1 y x) s.2.2.1.length s 0).1 0).1.2.2.1 ++ [slotOfSto x], (putTo s.1 s.2.1 (x.2.2.2.2.1.size : Int) (s.2.2.1.length + 1) (tkAll (fun y => mShardPut_1 y x) s.2.2.1.length s 0).1 0).1.2.2.2),
        (putTo s.1 s.2.1 (x.2.2.2.2.1.size : Int) (s.2.2.1.length + 1) (tkAll (fun y => mShardPut_1 y x) s.2.2.1.length s 0).1 0).2)) else (s, 0)) else (s, 0)
def pShardPut (s : Shd) (x : Sto) : Prop := md s ∧ md x
def genFrom (u : S) : List Gen → Int
  | [] => 0
  | g :: r => if g.1 = u then g.2 else genFrom u r
def mGenOf (c : Cch) (u : S) : Int := genFrom u c.2
def pGenOf (c : Cch) (u : S) : Prop := md c
noncomputable def mCacheFill (c : Cch) (x : Sto) (g : Int) : Cch × Bool := if mCacheOk c = true ∧ mStoredOk x = true ∧ mGenOf c x.1 = g then ((c.1.set (mShardOf c x.1).toNat (mShardPut (rx c.1 (mShardOf c x.1)) x).1, c.2), true) else (c, false)
def pCacheFill (c : Cch) (x : Sto) (g : Int) : Prop := md c ∧ md x
end Go.Ev
end

section
/- spec.l12Remove: what it keeps as a contract. -/
set_option linter.unusedVariables false
namespace Go.Ev
open Go.RowKit Go.Proofs

theorem slot_all : ∃ i z, Tryz.prog.info? 95 = some i ∧ i.size = 8 ∧ i.bytes = 112 ∧ i.zero = some z ∧ z.cells.size = 8 := by
  have h : (match Tryz.prog.info? 95 with
    | some i => (match i.zero with
      | some z => Nat.beq i.size 8 && Nat.beq i.bytes 112 && Nat.beq z.cells.size 8
      | none => false)
    | none => false) = true := by kernel_rfl
  split at h
  · next i hi =>
    split at h
    · next z hz =>
      simp only [Bool.and_eq_true] at h
      exact ⟨i, z, hi, beq_nat h.1.1, beq_nat h.1.2, hz, beq_nat h.2⟩
    · cases h
  · cases h
theorem frozen_cells {w : World} {g o : Nat} {c : Array Value} {t : TypeId} (h : w.heap[g]? = some (.cells c t (0, 0))) : w.frozen? ⟨g, o, none⟩ = false := by
  have hlt : g < w.heap.size := (Array.getElem?_eq_some_iff.1 h).1
  unfold World.frozen?
  simp [h]
theorem al_size (w : World) (o : Obj) : (w.alloc o).heap.size = w.heap.size + 1 := by simp
theorem al_old (w : World) (o : Obj) (b : Nat) (hb : b < w.heap.size) : (w.alloc o).heap[b]? = w.heap[b]? := by
  unfold World.alloc
  simp [Array.getElem?_push, Nat.ne_of_lt hb]
theorem al_new (w : World) (o : Obj) : (w.alloc o).heap[w.heap.size]? = some o := by
  unfold World.alloc
  simp
theorem rem_core (s0 s1 hd : Int) (xs : List (dens LSlot)) (i : Int) (hi0 : 0 ≤ i) (hi1 : i < (xs.length : Int)) (hbig : xs.length ≤ 1048576) (hhd : 0 ≤ hd ∧ hd ≤ 1048576) (n0 : Nat) (w : World) (hn0 : n0 ≤ w.heap.size) (S : Nat → Prop) (col : Nat → Option Col) (hcol : ∀ b, col b ≠ none → n0 ≤ b ∧ b < w.heap.size) (v : Value)
    (hrep : repL (regRow w S col true true) (.list 95 LSlot) [(0, 0)] xs v) :
    Calls Tryz.prog 47 #[.agg #[.int .i64 s0, .int .i64 s1, v, .int .i64 hd], .int .i64 i] w fun e w' => ∃ u col', e = .returned (.agg #[.int .i64 s0, .int .i64 s1, u, .int .i64 (handOut i hd (xs.eraseIdx i.toNat).length)]) ∧ Below n0 w w' ∧ (∀ b, b < w.heap.size → w'.heap[b]? = w.heap[b]?) ∧
      (∀ b, col' b ≠ none → (w.heap.size ≤ b ∨ col b ≠ none) ∧ b < w'.heap.size) ∧ repL (regRow w' (fun _ => True) col' true true) (.list 95 LSlot) [(0, 0)] (xs.eraseIdx i.toNat) u := by
  simp only [repL] at hrep
  obtain ⟨cs, hrow, hlen, hel⟩ := hrep
  have hlen' : cs.length = xs.length * 8 := hlen
  obtain ⟨e0, _⟩ | ⟨g, cap, cur, fr, rfl, hc, hh, b1, b2, b3, b4, b5, b6⟩ := deepRow.1 hrow
  · have e0' : xs.length = 0 := e0
    omega
  have b5 := b5 rfl
  subst b5
  have b1' : xs.length ≤ cap := b1
  have b3' : cur.size = cap * 8 := b3
  have b4' : cur.toList.take (xs.length * 8) = cs := b4
  have hone : ∀ u ∈ cs, u.oneCell' = true := rows_one (ls := LSlot) (xs := xs) hlen hel
  have hcs : ∀ t u, cs[t]? = some u → cur[t]? = some u := fun t u hu => by
    have := take_get b4' hu
    simpa using this
  have hcap' : cap ≤ 9223372036854775807 := by simp only [maxLen] at b2; omega
  have hgw : g < w.heap.size := (Array.getElem?_eq_some_iff.1 hh).1
  obtain ⟨inf, z, hinf, hinfs, hinfb, hz, hzs⟩ := slot_all
  -- the world ahead of the first append
  obtain ⟨o1, ho1⟩ : ∃ o1, o1 = Obj.cells #[.int .i64 s0, .int .i64 s1, .slice (some ⟨g, 0, none⟩) xs.length cap, .int .i64 hd] 28 := ⟨_, rfl⟩
  obtain ⟨o2, ho2⟩ : ∃ o2, o2 = Obj.cells #[.int .i64 0, .int .i64 0, .slice none 0 0, .int .i64 0] 28 := ⟨_, rfl⟩
  obtain ⟨W, hW⟩ : ∃ W, W = (((w.alloc o1).alloc o2).drew).alloc (.cells #[] 95) := ⟨_, rfl⟩
  have z1 : (w.alloc o1).heap.size = w.heap.size + 1 := al_size _ _
  have z2 : ((w.alloc o1).alloc o2).heap.size = w.heap.size + 2 := by rw [al_size, z1]
  have z2' : ((w.alloc o1).alloc o2).drew.heap.size = w.heap.size + 2 := z2
  have hWs : W.heap.size = w.heap.size + 3 := by rw [hW, al_size, z2']
  have hWd : ∀ b, b < w.heap.size + 2 → W.heap[b]? = ((w.alloc o1).alloc o2).heap[b]? := fun b hb => by
    rw [hW, al_old _ _ b (by omega)]
    rfl
  have hWo : ∀ b, b < w.heap.size → W.heap[b]? = w.heap[b]? := fun b hb => by
    rw [hWd b (by omega), al_old _ _ b (by omega), al_old _ _ b hb]
  have hWa : W.heap[w.heap.size]? = some (.cells #[.int .i64 s0, .int .i64 s1, .slice (some ⟨g, 0, none⟩) xs.length cap, .int .i64 hd] 28 (0, 0)) := by
    rw [hWd _ (by omega), al_old _ _ _ (by omega), al_new, ho1]
  have hWb : W.heap[w.heap.size + 1]? = some (.cells #[.int .i64 0, .int .i64 0, .slice none 0 0, .int .i64 0] 28 (0, 0)) := by
    rw [hWd _ (by omega), ← z1, al_new, ho2]
  have hWt : W.os = w.os ∧ W.tape = w.tape ∧ W.output = w.output := by subst hW; exact ⟨rfl, rfl, rfl⟩
  have hin : i.toNat < xs.length := by omega
  let n1 := cs.take (i.toNat * 8)
  let n2 := cs.drop ((i.toNat + 1) * 8)
  have hn1 : n1.length = i.toNat * 8 := by simp only [n1, List.length_take]; omega
  have hn2 : n2.length = (xs.length - (i.toNat + 1)) * 8 := by simp only [n2, List.length_drop]; omega
  have a1 : ∀ ty, ∃ v1 w1, (Builtin.append_ #[26, 26] ty #[.slice (some ⟨w.heap.size + 1 + 1, 0, none⟩) 0 0, .slice (some ⟨g, 0, none⟩) i.toNat cap]).run Tryz.prog W = .ok v1 w1 ∧ w1.os = W.os ∧ w1.tape = W.tape ∧ w1.output = W.output ∧ W.heap.size ≤ w1.heap.size ∧
      (∀ b, b < W.heap.size → w1.heap[b]? = W.heap[b]? ∨ False) ∧ AppRow w1 95 8 (0 + i.toNat) v1 ([] ++ n1) (fun g => W.heap.size ≤ g ∨ False) := fun ty =>
    append_core (P := Tryz.prog) W 26 ty 95 inf z (own := fun _ => False) Tryz.underlying26 hinf hz hinfs hinfb hzs (by simp) (.inl ⟨rfl, rfl, _, rfl⟩) hn1 (fun _ => ⟨_, rfl, fun t u hu => by
      rw [addr_add, cell_row ((hWo g hgw).trans hh)]
      simp only [n1, List.getElem?_take] at hu
      split at hu
      · exact hcs t u hu
      · cases hu⟩) (fun u hu => hone u (List.mem_of_mem_take hu)) (by simp only [maxLen]; omega) (by omega)
  have same1 : ∀ ty ty', (Builtin.append_ #[26, 26] ty #[.slice (some ⟨w.heap.size + 1 + 1, 0, none⟩) 0 0, .slice (some ⟨g, 0, none⟩) i.toNat cap]).run Tryz.prog W = (Builtin.append_ #[26, 26] ty' #[.slice (some ⟨w.heap.size + 1 + 1, 0, none⟩) 0 0, .slice (some ⟨g, 0, none⟩) i.toNat cap]).run Tryz.prog W := fun _ _ => rfl
  obtain ⟨v1, w1, r1, p1, p2, p3, p4, p5, p6⟩ := a1 0
  rw [Nat.zero_add, List.nil_append] at p6
  have p5 : ∀ b, b < W.heap.size → w1.heap[b]? = W.heap[b]? := fun b hb => (p5 b hb).resolve_right id
  have a2 : ∃ v2 w2, (Builtin.append_ #[26, 26] 0 #[v1, .slice (if cap = i.toNat + 1 then some ⟨g, 0, none⟩ else some ⟨g, (i.toNat + 1) * 8, none⟩) (xs.length - (i.toNat + 1)) (cap - (i.toNat + 1))]).run Tryz.prog w1 = .ok v2 w2 ∧ w2.os = w1.os ∧ w2.tape = w1.tape ∧ w2.output = w1.output ∧ w1.heap.size ≤ w2.heap.size ∧
      (∀ b, b < w1.heap.size → w2.heap[b]? = w1.heap[b]? ∨ (W.heap.size ≤ b ∨ False)) ∧ AppRow w2 95 8 (i.toNat + (xs.length - (i.toNat + 1))) v2 (n1 ++ n2) (fun g => w1.heap.size ≤ g ∨ (W.heap.size ≤ g ∨ False)) :=
    append_core (P := Tryz.prog) w1 26 0 95 inf z (own := fun g => W.heap.size ≤ g ∨ False) Tryz.underlying26 hinf hz hinfs hinfb hzs hn1 p6 hn2 (fun hm => ⟨⟨g, (i.toNat + 1) * 8, none⟩, by rw [if_neg (by omega)], fun t u hu => by
      rw [Addr.add_lit, cell_row ((p5 g (by omega)).trans ((hWo g hgw).trans hh))]
      simp only [n2, List.getElem?_drop] at hu
      exact hcs _ u hu⟩) (fun u hu => hone u (List.mem_of_mem_drop hu)) (by simp only [maxLen]; omega) (by omega)
  obtain ⟨v2, w2, r2, q1, q2, q3, q4, q5, q6⟩ := a2
  have q5 : ∀ b, b < W.heap.size → w2.heap[b]? = W.heap[b]? := fun b hb => ((q5 b (by omega)).resolve_right (fun h => by rcases h with h | h; omega; exact h)).trans (p5 b hb)
  have hm : i.toNat + (xs.length - (i.toNat + 1)) = (xs.eraseIdx i.toNat).length := by rw [List.length_eraseIdx, if_pos hin]; omega
  rw [hm] at q6
  obtain ⟨A2, c2, rfl⟩ : ∃ A2 c2, v2 = .slice A2 (xs.eraseIdx i.toNat).length c2 := by
    rcases q6 with ⟨h0, _, A, rfl⟩ | ⟨g2, c2, _, rfl, _⟩
    · exact ⟨A, 0, by rw [h0]⟩
    · exact ⟨_, c2, rfl⟩
  have ha2 := (q5 w.heap.size (by omega)).trans hWa
  have hb2 := (q5 (w.heap.size + 1) (by omega)).trans hWb
  have ea : ((i.toNat : Nat) : Int) = i := by omega
  have hcall := rem_walk w w1 w2 g cap xs.length i.toNat (xs.eraseIdx i.toNat).length c2 A2 s0 s1 hd v1 (by omega) b1' hcap' (fun ty => by rw [← ho1, ← ho2, ← hW]; exact r1) (by rw [cell_row ((p5 w.heap.size (by omega)).trans hWa)]; rfl)
    (by rw [cell_row ha2]; rfl) (by rw [cell_row ha2]; rfl) (by rw [cell_row ha2]; rfl) (by rw [cell_row ha2]; rfl) (frozen_cells ha2) (frozen_cells ha2)
    (fun k hk => ⟨by rw [cell_row hb2]; have : k = 0 ∨ k = 1 ∨ k = 2 ∨ k = 3 := by omega
                     rcases this with rfl | rfl | rfl | rfl <;> rfl, frozen_cells hb2⟩) hhd _ rfl (fun ty => r2)
  rw [ea] at hcall
  refine hcall.mono ?_
  rintro e w' ⟨rfl, ho⟩
  have hold : ∀ b, b < w.heap.size → w'.heap[b]? = w.heap[b]? := fun b hb => (ho.block b (by omega) (by omega)).trans ((q5 b (by omega)).trans (hWo b hb))
  have hsz' : w'.heap.size = w2.heap.size := ho.size
  -- the colors
  let col' : Nat → Option Col := fun b => if A2 = some ⟨b, 0, none⟩ ∧ w.heap.size ≤ b ∧ b < w2.heap.size then some [(0, 0)] else dropC i.toNat col b
  have hlow : ∀ b, b < w.heap.size → col' b = dropC i.toNat col b := fun b hb => if_neg (by omega)
  obtain ⟨h1, h2⟩ := drop_elems (w := w) (w' := w') (S := S) (S' := fun _ => True) (c := col) (c' := col') (ls := LSlot) (q := (0, 0)) (xs := xs) (cs := cs) (i := i.toNat) hin hlen hel (fun b p hb hp => by
    have hbw := (hcol b (by rw [hb]; simp)).2
    refine ⟨by rw [hlow b hbw]; unfold dropC; rw [hb]; rfl, hold b hbw⟩)
  refine ⟨.slice A2 (xs.eraseIdx i.toNat).length c2, col', rfl, ⟨ho.os.trans (q1.trans (p1.trans hWt.1)), ho.tape.trans (q2.trans (p2.trans hWt.2.1)), ho.output.trans (q3.trans (p3.trans hWt.2.2)), by omega, fun k hk => hold k (by omega)⟩, hold, fun b hb => ?_, ?_⟩
  · by_cases hA : A2 = some ⟨b, 0, none⟩ ∧ w.heap.size ≤ b ∧ b < w2.heap.size
    · exact ⟨.inl hA.2.1, by omega⟩
    · have hd' : col' b = dropC i.toNat col b := if_neg hA
      have : col b ≠ none := fun e => hb (by rw [hd']; unfold dropC; rw [e]; rfl)
      have := hcol b this
      exact ⟨.inr (by assumption), by omega⟩
  · simp only [repL]
    refine ⟨n1 ++ n2, deepRow.2 ?_, (by show (n1 ++ n2).length = (xs.eraseIdx i.toNat).length * 8; rw [← hm, List.length_append, hn1, hn2, ← Nat.add_mul]), h2⟩
    rcases q6 with ⟨h0, h00, A, hv⟩ | ⟨g2, c3, cur2, hv, hg2, hown, r4, r5, r6, r7⟩
    · refine .inl ⟨h0, A2, ?_⟩
      have hv3 := (Value.slice.inj hv).2.2
      show Value.slice A2 (xs.eraseIdx i.toNat).length c2 = _
      rw [hv3, h0]
    · obtain ⟨hv1, _, hv3⟩ := Value.slice.inj hv
      subst hv1
      subst hv3
      have hgl : W.heap.size ≤ g2 := by
        rcases hown with h | h | h
        · omega
        · exact h
        · exact h.elim
      refine .inr ⟨g2, c2, cur2, (0, 0), rfl, if_pos ⟨rfl, by omega, (Array.getElem?_eq_some_iff.1 hg2).1⟩, (ho.block g2 (by omega) (by omega)).trans hg2, r4, r5, r6, r7, fun _ => rfl, .inl rfl⟩
abbrev LShard : List L := [.int .i64, .int .i64, .list 95 LSlot, .int .i64]
abbrev XShard : Type := Int × Int × List (dens LSlot) × Int
def remF (s : XShard) (i : Int) : XShard := (s.1, s.2.1, s.2.2.1.eraseIdx i.toNat, handOut i s.2.2.2 (s.2.2.1.eraseIdx i.toNat).length)
theorem rem_ct (pre : XShard → Int → Prop) (hpre : ∀ s i, pre s i → 0 ≤ i ∧ i < (s.2.2.1.length : Int) ∧ s.2.2.1.length ≤ 1048576 ∧ 0 ≤ s.2.2.2 ∧ s.2.2.2 ≤ 1048576) (n0 : Nat) (w : World) :
    CtQAt Tryz.prog { f := 47, ps := [.v true .mv LShard, .v false .ro [.int .i64]], rs := [(true, LShard)], pre := fun (x : XShard × Int) => pre x.1 x.2, F := fun (x : XShard × Int) => remF x.1 x.2, W := fun (x : XShard × Int) => x, deep := true, q := true } n0 w := by
  intro hn0 vals x S col hS hcol hargs hx
  refine ⟨⟨Tryz.f47, Tryz.func47, by kernel_rfl, by kernel_rfl⟩, ?_⟩
  have key : ∀ (x : XShard × Int), pre x.1 x.2 → ∀ a0 a1 v a3 v1, a0 = .int .i64 x.1.1 → a1 = .int .i64 x.1.2.1 → repL (regRow w S col true true) (.list 95 LSlot) [(0, 0)] x.1.2.2.1 v → a3 = .int .i64 x.1.2.2.2 → v1 = .int .i64 x.2 → vals.toList = [.agg #[a0, a1, v, a3], v1] →
      Calls Tryz.prog 47 vals w fun e w' => ∃ u col', e = .returned (.agg #[.int .i64 x.1.1, .int .i64 x.1.2.1, u, .int .i64 (handOut x.2 x.1.2.2.2 (x.1.2.2.1.eraseIdx x.2.toNat).length)]) ∧ Below n0 w w' ∧ (∀ b, b < w.heap.size → w'.heap[b]? = w.heap[b]?) ∧
        (∀ b, col' b ≠ none → (w.heap.size ≤ b ∨ col b ≠ none) ∧ b < w'.heap.size) ∧ repL (regRow w' (fun _ => True) col' true true) (.list 95 LSlot) [(0, 0)] (x.1.2.2.1.eraseIdx x.2.toNat) u := by
    rintro ⟨⟨s0, s1, xs, hd⟩, i⟩ hx a0 a1 v a3 v1 rfl rfl hrep rfl rfl hv
    obtain ⟨hi0, hi1, hb, hh⟩ := hpre (s0, s1, xs, hd) i hx
    have hvals : vals = #[.agg #[.int .i64 s0, .int .i64 s1, v, .int .i64 hd], .int .i64 i] := by
      apply Array.ext'
      rw [hv]
    subst hvals
    exact rem_core s0 s1 hd xs i hi0 hi1 hb hh n0 w hn0 S col hcol v hrep
  obtain ⟨v, vs, e1, ⟨cs, hout, hsl⟩, hargs⟩ := hargs
  obtain ⟨v1, vs1, e2, ⟨cs1, ⟨u1, hu1, hr1⟩, hs1⟩, hargs⟩ := hargs
  have hargs : vs1 = [] := hargs
  have hs1 : cs1 = [v1] := hs1
  have hsl : v = .agg cs.toArray := hsl
  obtain ⟨a0, c0, f0, g0, hout⟩ := hout
  obtain ⟨a1, c1, f1, g1, hout⟩ := hout
  obtain ⟨a2, c2, f2, g2, hout⟩ := hout
  obtain ⟨a3, c3, f3, g3, hout⟩ := hout
  have hout : c3 = [] := hout
  rw [hu1] at hs1
  injection hs1 with hs1
  rw [hs1] at hr1
  refine (key x hx a0 a1 a2 a3 v1 g0 g1 g2 g3 hr1 (by rw [e1, e2, hargs, hsl, f0, f1, f2, f3, hout])).mono ?_
  rintro e w' ⟨u, col', rfl, hb, hk, hcl, hr⟩
  refine ⟨[_], _, col', rfl, hb, fun b hb _ => hk b hb, .inl rfl, hcl, ⟨_, [], [_, _, u, _], rfl, ⟨_, _, rfl, rfl, ⟨_, _, rfl, rfl, ⟨u, _, rfl, hr, ⟨_, [], rfl, rfl, rfl⟩⟩⟩⟩, .inr rfl, rfl⟩, ⟨v, vs, e1, trivial, v1, vs1, e2, trivial, trivial⟩⟩
end Go.Ev
end

section
/- What the program's functions come to, each by itself: printed by a program of this session's own (EwShow) out of the small machine. -/
set_option linter.unusedVariables false
namespace Go.Ev

def s_impl_GenOf (a0 : Cch) (a1 : S) (Q : (Int → Prop)) : Prop :=
 (∀ L0 : (Int → Prop),
 ((
 (∀ y1 : Int,
 ((
 (y1 < (a0.2.length : Int) →
 0 ≤ y1 ∧
 y1 < (a0.2.length : Int) ∧
 ((rx a0.2 y1).1 = a1 →
 (Q (rx a0.2 y1).2)) ∧
 (¬ ((rx a0.2 y1).1 = a1) →
 (L0 (IntKind.i64.wrap (y1 + 1))))) ∧
 (¬ (y1 < (a0.2.length : Int)) →
 (Q 0))
 ) →
 (L0 y1)))
 ) →
 (L0 0)))

def s_spec_GenOf (a0 : Cch) (a1 : S) (Q : (Int → Prop)) : Prop :=
 (∀ L0 : (Int → Prop),
 ((
 (∀ y1 : Int,
 ((
 (y1 < (a0.2.length : Int) →
 0 ≤ y1 ∧
 y1 < (a0.2.length : Int) ∧
 ((rx a0.2 y1).1 = a1 →
 0 ≤ y1 ∧
 y1 < (a0.2.length : Int) ∧
 (Q (rx a0.2 y1).2)) ∧
 (¬ ((rx a0.2 y1).1 = a1) →
 (L0 (IntKind.i64.wrap (y1 + 1))))) ∧
 (¬ (y1 < (a0.2.length : Int)) →
 (Q 0))
 ) →
 (L0 y1)))
 ) →
 (L0 0)))

def s_impl_CacheFill (a0 : Cch) (a1 : Sto) (a2 : Int) (Q : ((Cch × Bool) → Prop)) : Prop :=
 pCloneCache a0 ∧
 pCacheOk a0 ∧
 (¬ ((mCacheOk a0) = true) →
 (Q ((mCloneCache a0), false))) ∧
 (¬ (¬ ((mCacheOk a0) = true)) →
 pStoredOk a1 ∧
 (¬ ((mStoredOk a1) = true) →
 (Q ((mCloneCache a0), false))) ∧
 (¬ (¬ ((mStoredOk a1) = true)) →
 pGenOf a0 a1.1 ∧
 ((mGenOf a0 a1.1) ≠ a2 →
 (Q ((mCloneCache a0), false))) ∧
 (¬ ((mGenOf a0 a1.1) ≠ a2) →
 pShardOf a0 a1.1 ∧
 0 ≤ (mShardOf a0 a1.1) ∧
 (mShardOf a0 a1.1) < (a0.1.length : Int) ∧
 pShardPut (rx a0.1 (mShardOf a0 a1.1)) a1 ∧
 0 ≤ (mShardOf a0 a1.1) ∧
 (mShardOf a0 a1.1) < ((mCloneCache a0).1.length : Int) ∧
 (Q ((((mCloneCache a0).1.set (mShardOf a0 a1.1).toNat (mShardPut (rx a0.1 (mShardOf a0 a1.1)) a1).1), (mCloneCache a0).2), true)))))

def s_impl_ShardPut (a0 : Shd) (a1 : Sto) (Q : ((Shd × Int) → Prop)) : Prop :=
 pCloneShard a0 ∧
 pShardOk a0 ∧
 (¬ ((mShardOk a0) = true) →
 (Q ((mCloneShard a0), 0))) ∧
 (¬ (¬ ((mShardOk a0) = true)) →
 pStoredOk a1 ∧
 (¬ ((mStoredOk a1) = true) →
 (Q ((mCloneShard a0), 0))) ∧
 (¬ (¬ ((mStoredOk a1) = true)) →
 ptakeAll_ShardPut_1 (mCloneShard a0) a1 ∧
 (a0.2.1 < (a1.2.2.2.2.1.size : Int) →
 (Q ((wtakeAll_ShardPut_1 (mCloneShard a0) a1).1, 0))) ∧
 (¬ (a0.2.1 < (a1.2.2.2.2.1.size : Int)) →
 (∀ L0 : ((Int × Shd) → Prop),
 ((
 (∀ y1 : (Int × Shd),
 ((
 (y1.2.1 ≤ (y1.2.2.2.1.length : Int) →
 pEvict y1.2 ∧
 (L0 ((IntKind.i64.wrap (y1.1 + 1)), wEvict y1.2))) ∧
 (¬ (y1.2.1 ≤ (y1.2.2.2.1.length : Int)) →
 pBodies y1.2.2.2.1 ∧
 (y1.2.2.1 < (IntKind.i64.wrap ((mBodies y1.2.2.2.1) + (a1.2.2.2.2.1.size : Int))) →
 pEvict y1.2 ∧
 (L0 ((IntKind.i64.wrap (y1.1 + 1)), wEvict y1.2))) ∧
 (¬ (y1.2.2.1 < (IntKind.i64.wrap ((mBodies y1.2.2.2.1) + (a1.2.2.2.2.1.size : Int)))) →
 pCloneStored a1 ∧
 (y1.2.2.2.1.length + [((mCloneStored a1).1, (mCloneStored a1).2.1, (mCloneStored a1).2.2.1, (mCloneStored a1).2.2.2.1, (mCloneStored a1).2.2.2.2.1, (mCloneStored a1).2.2.2.2.2.1, (mCloneStored a1).2.2.2.2.2.2, false)].length) * 112 ≤ 140737488355328 ∧
 (Q ((y1.2.1, y1.2.2.1, (y1.2.2.2.1 ++ [((mCloneStored a1).1, (mCloneStored a1).2.1, (mCloneStored a1).2.2.1, (mCloneStored a1).2.2.2.1, (mCloneStored a1).2.2.2.2.1, (mCloneStored a1).2.2.2.2.2.1, (mCloneStored a1).2.2.2.2.2.2, false)]), y1.2.2.2.2), y1.1))))
 ) →
 (L0 y1)))
 ) →
 (L0 (0, (wtakeAll_ShardPut_1 (mCloneShard a0) a1).1)))))))

def s_impl_ShardPut_1 (a0 : Sto) (a1 : Sto) (Q : (Bool → Prop)) : Prop :=
 pStandAlike a1 a0 ∧
 (Q (mStandAlike a1 a0))

def s_impl_evict (a0 : Shd) (Q : (Unit → (Shd → Prop))) : Prop :=
 (∀ L0 : (Shd → Prop),
 ((
 (∀ y1 : Shd,
 ((
 0 ≤ y1.2.2.2 ∧
 y1.2.2.2 < (y1.2.2.1.length : Int) ∧
 ((rx y1.2.2.1 y1.2.2.2).2.2.2.2.2.2.2 = true →
 0 ≤ y1.2.2.2 ∧
 y1.2.2.2 < (y1.2.2.1.length : Int) ∧
 (∀ y2 : (List Slt),
 (y2 = (y1.2.2.1.set y1.2.2.2.toNat ((rx y1.2.2.1 y1.2.2.2).1, (rx y1.2.2.1 y1.2.2.2).2.1, (rx y1.2.2.1 y1.2.2.2).2.2.1, (rx y1.2.2.1 y1.2.2.2).2.2.2.1, (rx y1.2.2.1 y1.2.2.2).2.2.2.2.1, (rx y1.2.2.1 y1.2.2.2).2.2.2.2.2.1, (rx y1.2.2.1 y1.2.2.2).2.2.2.2.2.2.1, false)) →
 (y2.length : Int) ≠ 0 ∧
 (L0 (y1.1, y1.2.1, y2, ((IntKind.i64.wrap (y1.2.2.2 + 1)).tmod (y2.length : Int))))))) ∧
 (¬ ((rx y1.2.2.1 y1.2.2.2).2.2.2.2.2.2.2 = true) →
 pTakeOut y1 y1.2.2.2 ∧
 (Q () (wTakeOut y1 y1.2.2.2).1))
 ) →
 (L0 y1)))
 ) →
 (L0 a0)))

def s_impl_takeOut (a0 : Shd) (a1 : Int) (Q : (Unit → ((Shd × Int) → Prop))) : Prop :=
 pDelete_Slot a0.2.2.1 a1 (IntKind.i64.wrap (a1 + 1)) ∧
 (a1 < a0.2.2.2 →
 (((mDelete_Slot a0.2.2.1 a1 (IntKind.i64.wrap (a1 + 1))).length : Int) ≤ (IntKind.i64.wrap (a0.2.2.2 - 1)) →
 (Q () ((a0.1, a0.2.1, (mDelete_Slot a0.2.2.1 a1 (IntKind.i64.wrap (a1 + 1))), 0), a1))) ∧
 (¬ (((mDelete_Slot a0.2.2.1 a1 (IntKind.i64.wrap (a1 + 1))).length : Int) ≤ (IntKind.i64.wrap (a0.2.2.2 - 1))) →
 (Q () ((a0.1, a0.2.1, (mDelete_Slot a0.2.2.1 a1 (IntKind.i64.wrap (a1 + 1))), (IntKind.i64.wrap (a0.2.2.2 - 1))), a1)))) ∧
 (¬ (a1 < a0.2.2.2) →
 (((mDelete_Slot a0.2.2.1 a1 (IntKind.i64.wrap (a1 + 1))).length : Int) ≤ a0.2.2.2 →
 (Q () ((a0.1, a0.2.1, (mDelete_Slot a0.2.2.1 a1 (IntKind.i64.wrap (a1 + 1))), 0), a1))) ∧
 (¬ (((mDelete_Slot a0.2.2.1 a1 (IntKind.i64.wrap (a1 + 1))).length : Int) ≤ a0.2.2.2) →
 (Q () ((a0.1, a0.2.1, (mDelete_Slot a0.2.2.1 a1 (IntKind.i64.wrap (a1 + 1))), a0.2.2.2), a1))))

def s_laws_FnExactCacheFill (a0 : Cch) (a1 : Sto) (a2 : Int) (Q : (Bool → Prop)) : Prop :=
 pSz a0 1048576 ∧
 ((szF a0 1048576) < 0 →
 (Q true)) ∧
 (¬ ((szF a0 1048576) < 0) →
 pSz a1 (szF a0 1048576) ∧
 ((szF a1 (szF a0 1048576)) < 0 →
 (Q true)) ∧
 (¬ ((szF a1 (szF a0 1048576)) < 0) →
 pTo a0 ∧
 pTo a1 ∧
 pCacheFill (toF a0) (toF a1) a2 ∧
 pTo a0 ∧
 pTo a1 ∧
 pCacheFill (toF a0) (toF a1) a2 ∧
 pEq (mCacheFill (toF a0) (toF a1) a2).1 (mCacheFill (toF a0) (toF a1) a2).1 ∧
 (¬ ((eqF (mCacheFill (toF a0) (toF a1) a2).1 (mCacheFill (toF a0) (toF a1) a2).1) = true) →
 (Q false)) ∧
 (¬ (¬ ((eqF (mCacheFill (toF a0) (toF a1) a2).1 (mCacheFill (toF a0) (toF a1) a2).1) = true)) →
 ((mCacheFill (toF a0) (toF a1) a2).2 ≠ (mCacheFill (toF a0) (toF a1) a2).2 →
 (Q false)) ∧
 (¬ ((mCacheFill (toF a0) (toF a1) a2).2 ≠ (mCacheFill (toF a0) (toF a1) a2).2) →
 pTo a0 ∧
 pEq (toF a0) (toF a0) ∧
 (¬ ((eqF (toF a0) (toF a0)) = true) →
 (Q false)) ∧
 (¬ (¬ ((eqF (toF a0) (toF a0)) = true)) →
 pTo a1 ∧
 pEq (toF a1) (toF a1) ∧
 (¬ ((eqF (toF a1) (toF a1)) = true) →
 (Q false)) ∧
 (¬ (¬ ((eqF (toF a1) (toF a1)) = true)) →
 pMarkCache (toF a0) 1 ∧
 pMarkStored (toF a1) (mMarkCache (toF a0) 1) ∧
 ((mMarkStored (toF a1) (mMarkCache (toF a0) 1)) < 0 →
 (Q false)) ∧
 (¬ ((mMarkStored (toF a1) (mMarkCache (toF a0) 1)) < 0) →
 pEq (mCacheFill (toF a0) (toF a1) a2).1 (mCacheFill (toF a0) (toF a1) a2).1 ∧
 (¬ ((eqF (mCacheFill (toF a0) (toF a1) a2).1 (mCacheFill (toF a0) (toF a1) a2).1) = true) →
 (Q false)) ∧
 (¬ (¬ ((eqF (mCacheFill (toF a0) (toF a1) a2).1 (mCacheFill (toF a0) (toF a1) a2).1) = true)) →
 ((mCacheFill (toF a0) (toF a1) a2).2 ≠ (mCacheFill (toF a0) (toF a1) a2).2 →
 (Q false)) ∧
 (¬ ((mCacheFill (toF a0) (toF a1) a2).2 ≠ (mCacheFill (toF a0) (toF a1) a2).2) →
 pMarkCache (mCacheFill (toF a0) (toF a1) a2).1 1 ∧
 pHeldCache (wMarkCache (mCacheFill (toF a0) (toF a1) a2).1 1).1 1 ∧
 ((mHeldCache (wMarkCache (mCacheFill (toF a0) (toF a1) a2).1 1).1 1) < 0 →
 (Q false)) ∧
 (¬ ((mHeldCache (wMarkCache (mCacheFill (toF a0) (toF a1) a2).1 1).1 1) < 0) →
 ((mHeldCache (wMarkCache (mCacheFill (toF a0) (toF a1) a2).1 1).1 1) ≠ (mMarkCache (mCacheFill (toF a0) (toF a1) a2).1 1) →
 (Q false)) ∧
 (¬ ((mHeldCache (wMarkCache (mCacheFill (toF a0) (toF a1) a2).1 1).1 1) ≠ (mMarkCache (mCacheFill (toF a0) (toF a1) a2).1 1)) →
 pTo a0 ∧
 pTo a1 ∧
 pCacheFill (toF a0) (toF a1) a2 ∧
 pEq (mCacheFill (toF a0) (toF a1) a2).1 (mCacheFill (toF a0) (toF a1) a2).1 ∧
 (¬ ((eqF (mCacheFill (toF a0) (toF a1) a2).1 (mCacheFill (toF a0) (toF a1) a2).1) = true) →
 (Q false)) ∧
 (¬ (¬ ((eqF (mCacheFill (toF a0) (toF a1) a2).1 (mCacheFill (toF a0) (toF a1) a2).1) = true)) →
 ((mCacheFill (toF a0) (toF a1) a2).2 ≠ (mCacheFill (toF a0) (toF a1) a2).2 →
 (Q false)) ∧
 (¬ ((mCacheFill (toF a0) (toF a1) a2).2 ≠ (mCacheFill (toF a0) (toF a1) a2).2) →
 pHeldCache (wMarkCache (mCacheFill (toF a0) (toF a1) a2).1 1).1 1 ∧
 ((mHeldCache (wMarkCache (mCacheFill (toF a0) (toF a1) a2).1 1).1 1) < 0 →
 (Q false)) ∧
 (¬ ((mHeldCache (wMarkCache (mCacheFill (toF a0) (toF a1) a2).1 1).1 1) < 0) →
 ((mHeldCache (wMarkCache (mCacheFill (toF a0) (toF a1) a2).1 1).1 1) ≠ (mMarkCache (mCacheFill (toF a0) (toF a1) a2).1 1) →
 (Q false)) ∧
 (¬ ((mHeldCache (wMarkCache (mCacheFill (toF a0) (toF a1) a2).1 1).1 1) ≠ (mMarkCache (mCacheFill (toF a0) (toF a1) a2).1 1)) →
 (Q true))))))))))))))))

def s_spec_CacheFill (a0 : Cch) (a1 : Sto) (a2 : Int) (Q : ((Cch × Bool) → Prop)) : Prop :=
 pL13Copy a0 ∧
 pCacheOk a0 ∧
 (¬ ((mCacheOk a0) = true) →
 (Q ((mL13Copy a0), false))) ∧
 (¬ (¬ ((mCacheOk a0) = true)) →
 pStoredOk a1 ∧
 (¬ ((mStoredOk a1) = true) →
 (Q ((mL13Copy a0), false))) ∧
 (¬ (¬ ((mStoredOk a1) = true)) →
 pGenOf a0 a1.1 ∧
 ((mGenOf a0 a1.1) ≠ a2 →
 (Q ((mL13Copy a0), false))) ∧
 (¬ ((mGenOf a0 a1.1) ≠ a2) →
 pShardOf a0 a1.1 ∧
 0 ≤ (mShardOf a0 a1.1) ∧
 (mShardOf a0 a1.1) < (a0.1.length : Int) ∧
 pShardPut (rx a0.1 (mShardOf a0 a1.1)) a1 ∧
 0 ≤ (mShardOf a0 a1.1) ∧
 (mShardOf a0 a1.1) < ((mL13Copy a0).1.length : Int) ∧
 (Q ((((mL13Copy a0).1.set (mShardOf a0 a1.1).toNat (mShardPut (rx a0.1 (mShardOf a0 a1.1)) a1).1), (mL13Copy a0).2), true)))))

def s_spec_ShardPut (a0 : Shd) (a1 : Sto) (Q : ((Shd × Int) → Prop)) : Prop :=
 pL12Copy a0 ∧
 pShardOk a0 ∧
 (¬ ((mShardOk a0) = true) →
 (Q ((mL12Copy a0), 0))) ∧
 (¬ (¬ ((mShardOk a0) = true)) →
 pStoredOk a1 ∧
 (¬ ((mStoredOk a1) = true) →
 (Q ((mL12Copy a0), 0))) ∧
 (¬ (¬ ((mStoredOk a1) = true)) →
 (∀ L0 : ((Int × Shd) → Prop),
 ((
 (∀ y1 : (Int × Shd),
 ((
 (0 ≤ y1.1 →
 0 ≤ y1.1 ∧
 y1.1 < (y1.2.2.2.1.length : Int) ∧
 (∀ y2 : (List Slt),
 (y2 = y1.2.2.2.1 →
 (∀ y3 : (List Slt),
 (y3 = y1.2.2.2.1 →
 pStandAlike ((rx y1.2.2.2.1 y1.1).1, (rx y1.2.2.2.1 y1.1).2.1, (rx y1.2.2.2.1 y1.1).2.2.1, (rx y1.2.2.2.1 y1.1).2.2.2.1, (rx y1.2.2.2.1 y1.1).2.2.2.2.1, (rx y1.2.2.2.1 y1.1).2.2.2.2.2.1, (rx y1.2.2.2.1 y1.1).2.2.2.2.2.2.1) a1 ∧
 y1.1 = y1.1 ∧
 (∀ y4 : (List Slt),
 (y4 = (y2.set y1.1.toNat ((rx y2 y1.1).1, (rx y1.2.2.2.1 y1.1).2.1, (rx y2 y1.1).2.2.1, (rx y1.2.2.2.1 y1.1).2.2.2.1, (rx y2 y1.1).2.2.2.2)) →
 (∀ y5 : (List Slt),
 (y5 = (y2.set y1.1.toNat ((rx y2 y1.1).1, (rx y2 y1.1).2.1, (rx y2 y1.1).2.2.1, (rx y1.2.2.2.1 y1.1).2.2.2.1, (rx y2 y1.1).2.2.2.2)) →
 ((mStandAlike ((rx y1.2.2.2.1 y1.1).1, (rx y1.2.2.2.1 y1.1).2.1, (rx y1.2.2.2.1 y1.1).2.2.1, (rx y1.2.2.2.1 y1.1).2.2.2.1, (rx y1.2.2.2.1 y1.1).2.2.2.2.1, (rx y1.2.2.2.1 y1.1).2.2.2.2.2.1, (rx y1.2.2.2.1 y1.1).2.2.2.2.2.2.1) a1) = true →
 pL12Remove (y1.2.1, y1.2.2.1, y4, y1.2.2.2.2) y1.1 ∧
 (L0 ((IntKind.i64.wrap (y1.1 - 1)), mL12Remove (y1.2.1, y1.2.2.1, y4, y1.2.2.2.2) y1.1))) ∧
 (¬ ((mStandAlike ((rx y1.2.2.2.1 y1.1).1, (rx y1.2.2.2.1 y1.1).2.1, (rx y1.2.2.2.1 y1.1).2.2.1, (rx y1.2.2.2.1 y1.1).2.2.2.1, (rx y1.2.2.2.1 y1.1).2.2.2.2.1, (rx y1.2.2.2.1 y1.1).2.2.2.2.2.1, (rx y1.2.2.2.1 y1.1).2.2.2.2.2.2.1) a1) = true) →
 (L0 ((IntKind.i64.wrap (y1.1 - 1)), y1.2.1, y1.2.2.1, y4, y1.2.2.2.2)))))))))))) ∧
 (¬ (0 ≤ y1.1) →
 (a0.2.1 < (a1.2.2.2.2.1.size : Int) →
 (Q (y1.2, 0))) ∧
 (¬ (a0.2.1 < (a1.2.2.2.2.1.size : Int)) →
 (∀ L6 : ((Int × Shd) → Prop),
 ((
 (∀ y7 : (Int × Shd),
 ((
 (a0.1 ≤ (y7.2.2.2.1.length : Int) →
 pL12Evict y7.2 ∧
 (L6 ((IntKind.i64.wrap (y7.1 + 1)), mL12Evict y7.2))) ∧
 (¬ (a0.1 ≤ (y7.2.2.2.1.length : Int)) →
 pFilledS y7.2 ∧
 (a0.2.1 < (IntKind.i64.wrap ((mFilledS y7.2) + (a1.2.2.2.2.1.size : Int))) →
 pL12Evict y7.2 ∧
 (L6 ((IntKind.i64.wrap (y7.1 + 1)), mL12Evict y7.2))) ∧
 (¬ (a0.2.1 < (IntKind.i64.wrap ((mFilledS y7.2) + (a1.2.2.2.2.1.size : Int)))) →
 pL12One a1 ∧
 (y7.2.2.2.1.length + [((mL12One a1).1, (mL12One a1).2.1, (mL12One a1).2.2.1, (mL12One a1).2.2.2.1, (mL12One a1).2.2.2.2.1, (mL12One a1).2.2.2.2.2.1, (mL12One a1).2.2.2.2.2.2, false)].length) * 112 ≤ 140737488355328 ∧
 (Q ((y7.2.1, y7.2.2.1, (y7.2.2.2.1 ++ [((mL12One a1).1, (mL12One a1).2.1, (mL12One a1).2.2.1, (mL12One a1).2.2.2.1, (mL12One a1).2.2.2.2.1, (mL12One a1).2.2.2.2.2.1, (mL12One a1).2.2.2.2.2.2, false)]), y7.2.2.2.2), y7.1))))
 ) →
 (L6 y7)))
 ) →
 (L6 (0, y1.2))))))
 ) →
 (L0 y1)))
 ) →
 (L0 ((IntKind.i64.wrap (((mL12Copy a0).2.2.1.length : Int) - 1)), mL12Copy a0))))))

def s_spec_l12Evict (a0 : Shd) (Q : (Shd → Prop)) : Prop :=
 (∀ L0 : (Shd → Prop),
 ((
 (∀ y1 : Shd,
 ((
 0 ≤ y1.2.2.2 ∧
 y1.2.2.2 < (y1.2.2.1.length : Int) ∧
 ((rx y1.2.2.1 y1.2.2.2).2.2.2.2.2.2.2 = true →
 0 ≤ y1.2.2.2 ∧
 y1.2.2.2 < (y1.2.2.1.length : Int) ∧
 (∀ y2 : (List Slt),
 (y2 = (y1.2.2.1.set y1.2.2.2.toNat ((rx y1.2.2.1 y1.2.2.2).1, (rx y1.2.2.1 y1.2.2.2).2.1, (rx y1.2.2.1 y1.2.2.2).2.2.1, (rx y1.2.2.1 y1.2.2.2).2.2.2.1, (rx y1.2.2.1 y1.2.2.2).2.2.2.2.1, (rx y1.2.2.1 y1.2.2.2).2.2.2.2.2.1, (rx y1.2.2.1 y1.2.2.2).2.2.2.2.2.2.1, false)) →
 (y2.length : Int) ≠ 0 ∧
 (L0 (y1.1, y1.2.1, y2, ((IntKind.i64.wrap (y1.2.2.2 + 1)).tmod (y2.length : Int))))))) ∧
 (¬ ((rx y1.2.2.1 y1.2.2.2).2.2.2.2.2.2.2 = true) →
 pL12Remove y1 y1.2.2.2 ∧
 (Q (mL12Remove y1 y1.2.2.2)))
 ) →
 (L0 y1)))
 ) →
 (L0 a0)))

def s_takeAll_ShardPut_1 (a0 : Shd) (a1 : Sto) (Q : (Int → ((Shd × Sto) → Prop))) : Prop :=
 (∀ L0 : ((Int × (Int × Shd)) → Prop),
 ((
 (∀ y1 : (Int × (Int × Shd)),
 ((
 (0 ≤ y1.2.1 →
 0 ≤ y1.2.1 ∧
 y1.2.1 < (y1.2.2.2.2.1.length : Int) ∧
 (∀ y2 : (List Slt),
 (y2 = y1.2.2.2.2.1 →
 (∀ y3 : (List Slt),
 (y3 = y1.2.2.2.2.1 →
 pShardPut_1 ((rx y1.2.2.2.2.1 y1.2.1).1, (rx y1.2.2.2.2.1 y1.2.1).2.1, (rx y1.2.2.2.2.1 y1.2.1).2.2.1, (rx y1.2.2.2.2.1 y1.2.1).2.2.2.1, (rx y1.2.2.2.2.1 y1.2.1).2.2.2.2.1, (rx y1.2.2.2.2.1 y1.2.1).2.2.2.2.2.1, (rx y1.2.2.2.2.1 y1.2.1).2.2.2.2.2.2.1) a1 ∧
 y1.2.1 = y1.2.1 ∧
 (∀ y4 : (List Slt),
 (y4 = (y2.set y1.2.1.toNat ((rx y2 y1.2.1).1, (rx y1.2.2.2.2.1 y1.2.1).2.1, (rx y2 y1.2.1).2.2.1, (rx y1.2.2.2.2.1 y1.2.1).2.2.2.1, (rx y2 y1.2.1).2.2.2.2)) →
 (∀ y5 : (List Slt),
 (y5 = (y2.set y1.2.1.toNat ((rx y2 y1.2.1).1, (rx y2 y1.2.1).2.1, (rx y2 y1.2.1).2.2.1, (rx y1.2.2.2.2.1 y1.2.1).2.2.2.1, (rx y2 y1.2.1).2.2.2.2)) →
 ((mShardPut_1 ((rx y1.2.2.2.2.1 y1.2.1).1, (rx y1.2.2.2.2.1 y1.2.1).2.1, (rx y1.2.2.2.2.1 y1.2.1).2.2.1, (rx y1.2.2.2.2.1 y1.2.1).2.2.2.1, (rx y1.2.2.2.2.1 y1.2.1).2.2.2.2.1, (rx y1.2.2.2.2.1 y1.2.1).2.2.2.2.2.1, (rx y1.2.2.2.2.1 y1.2.1).2.2.2.2.2.2.1) a1) = true →
 pTakeOut (y1.2.2.1, y1.2.2.2.1, y4, y1.2.2.2.2.2) y1.2.1 ∧
 (L0 ((IntKind.i64.wrap (y1.1 + 1)), (IntKind.i64.wrap (y1.2.1 - 1)), (wTakeOut (y1.2.2.1, y1.2.2.2.1, y4, y1.2.2.2.2.2) y1.2.1).1))) ∧
 (¬ ((mShardPut_1 ((rx y1.2.2.2.2.1 y1.2.1).1, (rx y1.2.2.2.2.1 y1.2.1).2.1, (rx y1.2.2.2.2.1 y1.2.1).2.2.1, (rx y1.2.2.2.2.1 y1.2.1).2.2.2.1, (rx y1.2.2.2.2.1 y1.2.1).2.2.2.2.1, (rx y1.2.2.2.2.1 y1.2.1).2.2.2.2.2.1, (rx y1.2.2.2.2.1 y1.2.1).2.2.2.2.2.2.1) a1) = true) →
 (L0 (y1.1, (IntKind.i64.wrap (y1.2.1 - 1)), y1.2.2.1, y1.2.2.2.1, y4, y1.2.2.2.2.2)))))))))))) ∧
 (¬ (0 ≤ y1.2.1) →
 (Q y1.1 (y1.2.2, a1)))
 ) →
 (L0 y1)))
 ) →
 (L0 (0, (IntKind.i64.wrap ((a0.2.2.1.length : Int) - 1)), a0))))

end Go.Ev
end

section
/- What the program's functions come to, each by itself: printed by a program of this session's own (EwShow) out of the small machine. -/
set_option linter.unusedVariables false
namespace Go.Ev

def s_impl_cloneCache (a0 : Cch) (Q : (Cch → Prop)) : Prop :=
 pClone_GenRow a0.2 ∧
 (∀ L0 : ((Int × Cch) → Prop),
 ((
 (∀ y1 : (Int × Cch),
 ((
 (y1.1 < (a0.1.length : Int) →
 0 ≤ y1.1 ∧
 y1.1 < (a0.1.length : Int) ∧
 pCloneShard (rx a0.1 y1.1) ∧
 (y1.2.1.length + [(mCloneShard (rx a0.1 y1.1))].length) * 48 ≤ 140737488355328 ∧
 (L0 ((IntKind.i64.wrap (y1.1 + 1)), (y1.2.1 ++ [(mCloneShard (rx a0.1 y1.1))]), y1.2.2))) ∧
 (¬ (y1.1 < (a0.1.length : Int)) →
 (Q y1.2))
 ) →
 (L0 y1)))
 ) →
 (L0 (0, [], (mClone_GenRow a0.2)))))

def s_impl_cloneResponse (a0 : Rsp) (Q : (Rsp → Prop)) : Prop :=
 pClone_Field a0.2.1 ∧
 (Q (a0.1, (mClone_Field a0.2.1), a0.2.2))

def s_impl_cloneShard (a0 : Shd) (Q : (Shd → Prop)) : Prop :=
 (∀ L0 : (((List Slt) × Int) → Prop),
 ((
 (∀ y1 : ((List Slt) × Int),
 ((
 (y1.2 < (a0.2.2.1.length : Int) →
 0 ≤ y1.2 ∧
 y1.2 < (a0.2.2.1.length : Int) ∧
 pCloneStored ((rx a0.2.2.1 y1.2).1, (rx a0.2.2.1 y1.2).2.1, (rx a0.2.2.1 y1.2).2.2.1, (rx a0.2.2.1 y1.2).2.2.2.1, (rx a0.2.2.1 y1.2).2.2.2.2.1, (rx a0.2.2.1 y1.2).2.2.2.2.2.1, (rx a0.2.2.1 y1.2).2.2.2.2.2.2.1) ∧
 (y1.1.length + [((mCloneStored ((rx a0.2.2.1 y1.2).1, (rx a0.2.2.1 y1.2).2.1, (rx a0.2.2.1 y1.2).2.2.1, (rx a0.2.2.1 y1.2).2.2.2.1, (rx a0.2.2.1 y1.2).2.2.2.2.1, (rx a0.2.2.1 y1.2).2.2.2.2.2.1, (rx a0.2.2.1 y1.2).2.2.2.2.2.2.1)).1, (mCloneStored ((rx a0.2.2.1 y1.2).1, (rx a0.2.2.1 y1.2).2.1, (rx a0.2.2.1 y1.2).2.2.1, (rx a0.2.2.1 y1.2).2.2.2.1, (rx a0.2.2.1 y1.2).2.2.2.2.1, (rx a0.2.2.1 y1.2).2.2.2.2.2.1, (rx a0.2.2.1 y1.2).2.2.2.2.2.2.1)).2.1, (mCloneStored ((rx a0.2.2.1 y1.2).1, (rx a0.2.2.1 y1.2).2.1, (rx a0.2.2.1 y1.2).2.2.1, (rx a0.2.2.1 y1.2).2.2.2.1, (rx a0.2.2.1 y1.2).2.2.2.2.1, (rx a0.2.2.1 y1.2).2.2.2.2.2.1, (rx a0.2.2.1 y1.2).2.2.2.2.2.2.1)).2.2.1, (mCloneStored ((rx a0.2.2.1 y1.2).1, (rx a0.2.2.1 y1.2).2.1, (rx a0.2.2.1 y1.2).2.2.1, (rx a0.2.2.1 y1.2).2.2.2.1, (rx a0.2.2.1 y1.2).2.2.2.2.1, (rx a0.2.2.1 y1.2).2.2.2.2.2.1, (rx a0.2.2.1 y1.2).2.2.2.2.2.2.1)).2.2.2.1, (mCloneStored ((rx a0.2.2.1 y1.2).1, (rx a0.2.2.1 y1.2).2.1, (rx a0.2.2.1 y1.2).2.2.1, (rx a0.2.2.1 y1.2).2.2.2.1, (rx a0.2.2.1 y1.2).2.2.2.2.1, (rx a0.2.2.1 y1.2).2.2.2.2.2.1, (rx a0.2.2.1 y1.2).2.2.2.2.2.2.1)).2.2.2.2.1, (mCloneStored ((rx a0.2.2.1 y1.2).1, (rx a0.2.2.1 y1.2).2.1, (rx a0.2.2.1 y1.2).2.2.1, (rx a0.2.2.1 y1.2).2.2.2.1, (rx a0.2.2.1 y1.2).2.2.2.2.1, (rx a0.2.2.1 y1.2).2.2.2.2.2.1, (rx a0.2.2.1 y1.2).2.2.2.2.2.2.1)).2.2.2.2.2.1, (mCloneStored ((rx a0.2.2.1 y1.2).1, (rx a0.2.2.1 y1.2).2.1, (rx a0.2.2.1 y1.2).2.2.1, (rx a0.2.2.1 y1.2).2.2.2.1, (rx a0.2.2.1 y1.2).2.2.2.2.1, (rx a0.2.2.1 y1.2).2.2.2.2.2.1, (rx a0.2.2.1 y1.2).2.2.2.2.2.2.1)).2.2.2.2.2.2, (rx a0.2.2.1 y1.2).2.2.2.2.2.2.2)].length) * 112 ≤ 140737488355328 ∧
 (L0 ((y1.1 ++ [((mCloneStored ((rx a0.2.2.1 y1.2).1, (rx a0.2.2.1 y1.2).2.1, (rx a0.2.2.1 y1.2).2.2.1, (rx a0.2.2.1 y1.2).2.2.2.1, (rx a0.2.2.1 y1.2).2.2.2.2.1, (rx a0.2.2.1 y1.2).2.2.2.2.2.1, (rx a0.2.2.1 y1.2).2.2.2.2.2.2.1)).1, (mCloneStored ((rx a0.2.2.1 y1.2).1, (rx a0.2.2.1 y1.2).2.1, (rx a0.2.2.1 y1.2).2.2.1, (rx a0.2.2.1 y1.2).2.2.2.1, (rx a0.2.2.1 y1.2).2.2.2.2.1, (rx a0.2.2.1 y1.2).2.2.2.2.2.1, (rx a0.2.2.1 y1.2).2.2.2.2.2.2.1)).2.1, (mCloneStored ((rx a0.2.2.1 y1.2).1, (rx a0.2.2.1 y1.2).2.1, (rx a0.2.2.1 y1.2).2.2.1, (rx a0.2.2.1 y1.2).2.2.2.1, (rx a0.2.2.1 y1.2).2.2.2.2.1, (rx a0.2.2.1 y1.2).2.2.2.2.2.1, (rx a0.2.2.1 y1.2).2.2.2.2.2.2.1)).2.2.1, (mCloneStored ((rx a0.2.2.1 y1.2).1, (rx a0.2.2.1 y1.2).2.1, (rx a0.2.2.1 y1.2).2.2.1, (rx a0.2.2.1 y1.2).2.2.2.1, (rx a0.2.2.1 y1.2).2.2.2.2.1, (rx a0.2.2.1 y1.2).2.2.2.2.2.1, (rx a0.2.2.1 y1.2).2.2.2.2.2.2.1)).2.2.2.1, (mCloneStored ((rx a0.2.2.1 y1.2).1, (rx a0.2.2.1 y1.2).2.1, (rx a0.2.2.1 y1.2).2.2.1, (rx a0.2.2.1 y1.2).2.2.2.1, (rx a0.2.2.1 y1.2).2.2.2.2.1, (rx a0.2.2.1 y1.2).2.2.2.2.2.1, (rx a0.2.2.1 y1.2).2.2.2.2.2.2.1)).2.2.2.2.1, (mCloneStored ((rx a0.2.2.1 y1.2).1, (rx a0.2.2.1 y1.2).2.1, (rx a0.2.2.1 y1.2).2.2.1, (rx a0.2.2.1 y1.2).2.2.2.1, (rx a0.2.2.1 y1.2).2.2.2.2.1, (rx a0.2.2.1 y1.2).2.2.2.2.2.1, (rx a0.2.2.1 y1.2).2.2.2.2.2.2.1)).2.2.2.2.2.1, (mCloneStored ((rx a0.2.2.1 y1.2).1, (rx a0.2.2.1 y1.2).2.1, (rx a0.2.2.1 y1.2).2.2.1, (rx a0.2.2.1 y1.2).2.2.2.1, (rx a0.2.2.1 y1.2).2.2.2.2.1, (rx a0.2.2.1 y1.2).2.2.2.2.2.1, (rx a0.2.2.1 y1.2).2.2.2.2.2.2.1)).2.2.2.2.2.2, (rx a0.2.2.1 y1.2).2.2.2.2.2.2.2)]), (IntKind.i64.wrap (y1.2 + 1))))) ∧
 (¬ (y1.2 < (a0.2.2.1.length : Int)) →
 (Q (a0.1, a0.2.1, y1.1, a0.2.2.2)))
 ) →
 (L0 y1)))
 ) →
 (L0 ([], 0))))

def s_impl_cloneStored (a0 : Sto) (Q : (Sto → Prop)) : Prop :=
 pClone_Field a0.2.1 ∧
 pCloneResponse (a0.2.2.1, a0.2.2.2.1, a0.2.2.2.2.1) ∧
 (Q (a0.1, (mClone_Field a0.2.1), (mCloneResponse (a0.2.2.1, a0.2.2.2.1, a0.2.2.2.2.1)).1, (mCloneResponse (a0.2.2.1, a0.2.2.2.1, a0.2.2.2.2.1)).2.1, (mCloneResponse (a0.2.2.1, a0.2.2.2.1, a0.2.2.2.2.1)).2.2, a0.2.2.2.2.2))

def s_laws_heldCache (a0 : Cch) (a1 : Int) (Q : (Int → Prop)) : Prop :=
 pHeldShardS a0.1 a1 ∧
 ((mHeldShardS a0.1 a1) < 0 →
 (Q (-1))) ∧
 (¬ ((mHeldShardS a0.1 a1) < 0) →
 pHeldGenRowS a0.2 (mHeldShardS a0.1 a1) ∧
 ((mHeldGenRowS a0.2 (mHeldShardS a0.1 a1)) < 0 →
 (Q (-1))) ∧
 (¬ ((mHeldGenRowS a0.2 (mHeldShardS a0.1 a1)) < 0) →
 (Q (mHeldGenRowS a0.2 (mHeldShardS a0.1 a1)))))

def s_laws_heldGenRowS (a0 : (List Gen)) (a1 : Int) (Q : (Int → Prop)) : Prop :=
 (∀ L0 : ((Int × Int) → Prop),
 ((
 (∀ y1 : (Int × Int),
 ((
 (y1.2 < (a0.length : Int) →
 0 ≤ y1.2 ∧
 y1.2 < (a0.length : Int) ∧
 pMarkText y1.1 ∧
 ((rx a0 y1.2).1 ≠ (mMarkText y1.1) →
 (Q (-1))) ∧
 (¬ ((rx a0 y1.2).1 ≠ (mMarkText y1.1)) →
 0 ≤ y1.2 ∧
 y1.2 < (a0.length : Int) ∧
 ((rx a0 y1.2).2 ≠ (IntKind.i64.wrap (y1.1 + 1)) →
 (Q (-1))) ∧
 (¬ ((rx a0 y1.2).2 ≠ (IntKind.i64.wrap (y1.1 + 1))) →
 (L0 ((IntKind.i64.wrap ((IntKind.i64.wrap (y1.1 + 1)) + 1)), (IntKind.i64.wrap (y1.2 + 1))))))) ∧
 (¬ (y1.2 < (a0.length : Int)) →
 (Q y1.1))
 ) →
 (L0 y1)))
 ) →
 (L0 (a1, 0))))

def s_laws_heldShardS (a0 : (List Shd)) (a1 : Int) (Q : (Int → Prop)) : Prop :=
 (∀ L0 : ((Int × Int) → Prop),
 ((
 (∀ y1 : (Int × Int),
 ((
 (y1.2 < (a0.length : Int) →
 0 ≤ y1.2 ∧
 y1.2 < (a0.length : Int) ∧
 ((rx a0 y1.2).1 ≠ y1.1 →
 (Q (-1))) ∧
 (¬ ((rx a0 y1.2).1 ≠ y1.1) →
 0 ≤ y1.2 ∧
 y1.2 < (a0.length : Int) ∧
 ((rx a0 y1.2).2.1 ≠ (IntKind.i64.wrap (y1.1 + 1)) →
 (Q (-1))) ∧
 (¬ ((rx a0 y1.2).2.1 ≠ (IntKind.i64.wrap (y1.1 + 1))) →
 0 ≤ y1.2 ∧
 y1.2 < (a0.length : Int) ∧
 pHeldSlotS (rx a0 y1.2).2.2.1 (IntKind.i64.wrap ((IntKind.i64.wrap (y1.1 + 1)) + 1)) ∧
 ((mHeldSlotS (rx a0 y1.2).2.2.1 (IntKind.i64.wrap ((IntKind.i64.wrap (y1.1 + 1)) + 1))) < 0 →
 (Q (-1))) ∧
 (¬ ((mHeldSlotS (rx a0 y1.2).2.2.1 (IntKind.i64.wrap ((IntKind.i64.wrap (y1.1 + 1)) + 1))) < 0) →
 0 ≤ y1.2 ∧
 y1.2 < (a0.length : Int) ∧
 ((rx a0 y1.2).2.2.2 ≠ (mHeldSlotS (rx a0 y1.2).2.2.1 (IntKind.i64.wrap ((IntKind.i64.wrap (y1.1 + 1)) + 1))) →
 (Q (-1))) ∧
 (¬ ((rx a0 y1.2).2.2.2 ≠ (mHeldSlotS (rx a0 y1.2).2.2.1 (IntKind.i64.wrap ((IntKind.i64.wrap (y1.1 + 1)) + 1)))) →
 (L0 ((IntKind.i64.wrap ((mHeldSlotS (rx a0 y1.2).2.2.1 (IntKind.i64.wrap ((IntKind.i64.wrap (y1.1 + 1)) + 1))) + 1)), (IntKind.i64.wrap (y1.2 + 1))))))))) ∧
 (¬ (y1.2 < (a0.length : Int)) →
 (Q y1.1))
 ) →
 (L0 y1)))
 ) →
 (L0 (a1, 0))))

def s_laws_heldSlotS (a0 : (List Slt)) (a1 : Int) (Q : (Int → Prop)) : Prop :=
 (∀ L0 : ((Int × Int) → Prop),
 ((
 (∀ y1 : (Int × Int),
 ((
 (y1.2 < (a0.length : Int) →
 0 ≤ y1.2 ∧
 y1.2 < (a0.length : Int) ∧
 pMarkText y1.1 ∧
 ((rx a0 y1.2).1 ≠ (mMarkText y1.1) →
 (Q (-1))) ∧
 (¬ ((rx a0 y1.2).1 ≠ (mMarkText y1.1)) →
 0 ≤ y1.2 ∧
 y1.2 < (a0.length : Int) ∧
 pHeldFieldS (rx a0 y1.2).2.1 (IntKind.i64.wrap (y1.1 + 1)) ∧
 ((mHeldFieldS (rx a0 y1.2).2.1 (IntKind.i64.wrap (y1.1 + 1))) < 0 →
 (Q (-1))) ∧
 (¬ ((mHeldFieldS (rx a0 y1.2).2.1 (IntKind.i64.wrap (y1.1 + 1))) < 0) →
 0 ≤ y1.2 ∧
 y1.2 < (a0.length : Int) ∧
 ((rx a0 y1.2).2.2.1 ≠ (mHeldFieldS (rx a0 y1.2).2.1 (IntKind.i64.wrap (y1.1 + 1))) →
 (Q (-1))) ∧
 (¬ ((rx a0 y1.2).2.2.1 ≠ (mHeldFieldS (rx a0 y1.2).2.1 (IntKind.i64.wrap (y1.1 + 1)))) →
 0 ≤ y1.2 ∧
 y1.2 < (a0.length : Int) ∧
 pHeldFieldS (rx a0 y1.2).2.2.2.1 (IntKind.i64.wrap ((mHeldFieldS (rx a0 y1.2).2.1 (IntKind.i64.wrap (y1.1 + 1))) + 1)) ∧
 ((mHeldFieldS (rx a0 y1.2).2.2.2.1 (IntKind.i64.wrap ((mHeldFieldS (rx a0 y1.2).2.1 (IntKind.i64.wrap (y1.1 + 1))) + 1))) < 0 →
 (Q (-1))) ∧
 (¬ ((mHeldFieldS (rx a0 y1.2).2.2.2.1 (IntKind.i64.wrap ((mHeldFieldS (rx a0 y1.2).2.1 (IntKind.i64.wrap (y1.1 + 1))) + 1))) < 0) →
 0 ≤ y1.2 ∧
 y1.2 < (a0.length : Int) ∧
 pMarkText (mHeldFieldS (rx a0 y1.2).2.2.2.1 (IntKind.i64.wrap ((mHeldFieldS (rx a0 y1.2).2.1 (IntKind.i64.wrap (y1.1 + 1))) + 1))) ∧
 ((rx a0 y1.2).2.2.2.2.1 ≠ (mMarkText (mHeldFieldS (rx a0 y1.2).2.2.2.1 (IntKind.i64.wrap ((mHeldFieldS (rx a0 y1.2).2.1 (IntKind.i64.wrap (y1.1 + 1))) + 1)))) →
 (Q (-1))) ∧
 (¬ ((rx a0 y1.2).2.2.2.2.1 ≠ (mMarkText (mHeldFieldS (rx a0 y1.2).2.2.2.1 (IntKind.i64.wrap ((mHeldFieldS (rx a0 y1.2).2.1 (IntKind.i64.wrap (y1.1 + 1))) + 1))))) →
 0 ≤ y1.2 ∧
 y1.2 < (a0.length : Int) ∧
 ((rx a0 y1.2).2.2.2.2.2.1 ≠ (IntKind.i64.wrap ((mHeldFieldS (rx a0 y1.2).2.2.2.1 (IntKind.i64.wrap ((mHeldFieldS (rx a0 y1.2).2.1 (IntKind.i64.wrap (y1.1 + 1))) + 1))) + 1)) →
 (Q (-1))) ∧
 (¬ ((rx a0 y1.2).2.2.2.2.2.1 ≠ (IntKind.i64.wrap ((mHeldFieldS (rx a0 y1.2).2.2.2.1 (IntKind.i64.wrap ((mHeldFieldS (rx a0 y1.2).2.1 (IntKind.i64.wrap (y1.1 + 1))) + 1))) + 1))) →
 0 ≤ y1.2 ∧
 y1.2 < (a0.length : Int) ∧
 ((rx a0 y1.2).2.2.2.2.2.2.1 ≠ (IntKind.i64.wrap ((IntKind.i64.wrap ((mHeldFieldS (rx a0 y1.2).2.2.2.1 (IntKind.i64.wrap ((mHeldFieldS (rx a0 y1.2).2.1 (IntKind.i64.wrap (y1.1 + 1))) + 1))) + 1)) + 1)) →
 (Q (-1))) ∧
 (¬ ((rx a0 y1.2).2.2.2.2.2.2.1 ≠ (IntKind.i64.wrap ((IntKind.i64.wrap ((mHeldFieldS (rx a0 y1.2).2.2.2.1 (IntKind.i64.wrap ((mHeldFieldS (rx a0 y1.2).2.1 (IntKind.i64.wrap (y1.1 + 1))) + 1))) + 1)) + 1))) →
 0 ≤ y1.2 ∧
 y1.2 < (a0.length : Int) ∧
 (3 : Int) ≠ 0 ∧
 ((rx a0 y1.2).2.2.2.2.2.2.2 ≠ (decide (((IntKind.i64.wrap ((IntKind.i64.wrap ((IntKind.i64.wrap ((mHeldFieldS (rx a0 y1.2).2.2.2.1 (IntKind.i64.wrap ((mHeldFieldS (rx a0 y1.2).2.1 (IntKind.i64.wrap (y1.1 + 1))) + 1))) + 1)) + 1)) + 1)).tmod 3) = 0)) →
 (Q (-1))) ∧
 (¬ ((rx a0 y1.2).2.2.2.2.2.2.2 ≠ (decide (((IntKind.i64.wrap ((IntKind.i64.wrap ((IntKind.i64.wrap ((mHeldFieldS (rx a0 y1.2).2.2.2.1 (IntKind.i64.wrap ((mHeldFieldS (rx a0 y1.2).2.1 (IntKind.i64.wrap (y1.1 + 1))) + 1))) + 1)) + 1)) + 1)).tmod 3) = 0))) →
 (L0 ((IntKind.i64.wrap ((IntKind.i64.wrap ((IntKind.i64.wrap ((IntKind.i64.wrap ((mHeldFieldS (rx a0 y1.2).2.2.2.1 (IntKind.i64.wrap ((mHeldFieldS (rx a0 y1.2).2.1 (IntKind.i64.wrap (y1.1 + 1))) + 1))) + 1)) + 1)) + 1)) + 1)), (IntKind.i64.wrap (y1.2 + 1))))))))))))) ∧
 (¬ (y1.2 < (a0.length : Int)) →
 (Q y1.1))
 ) →
 (L0 y1)))
 ) →
 (L0 (a1, 0))))

def s_laws_markCache (a0 : Cch) (a1 : Int) (Q : (Int → ((Cch × Int) → Prop))) : Prop :=
 pMarkShardS a0.1 a1 ∧
 pMarkGenRowS a0.2 (mMarkShardS a0.1 a1) ∧
 (Q (mMarkGenRowS a0.2 (mMarkShardS a0.1 a1)) (((wMarkShardS a0.1 a1).1, (wMarkGenRowS a0.2 (mMarkShardS a0.1 a1)).1), a1))

def s_laws_markGenRowS (a0 : (List Gen)) (a1 : Int) (Q : (Int → (((List Gen) × Int) → Prop))) : Prop :=
 (∀ L0 : ((Int × (Int × (List Gen))) → Prop),
 ((
 (∀ y1 : (Int × (Int × (List Gen))),
 ((
 (y1.2.1 < (y1.2.2.length : Int) →
 pMarkText y1.1 ∧
 0 ≤ y1.2.1 ∧
 y1.2.1 < (y1.2.2.length : Int) ∧
 0 ≤ y1.2.1 ∧
 y1.2.1 < ((y1.2.2.set y1.2.1.toNat ((mMarkText y1.1), (rx y1.2.2 y1.2.1).2)).length : Int) ∧
 (L0 ((IntKind.i64.wrap ((IntKind.i64.wrap (y1.1 + 1)) + 1)), (IntKind.i64.wrap (y1.2.1 + 1)), ((y1.2.2.set y1.2.1.toNat ((mMarkText y1.1), (rx y1.2.2 y1.2.1).2)).set y1.2.1.toNat ((rx (y1.2.2.set y1.2.1.toNat ((mMarkText y1.1), (rx y1.2.2 y1.2.1).2)) y1.2.1).1, (IntKind.i64.wrap (y1.1 + 1))))))) ∧
 (¬ (y1.2.1 < (y1.2.2.length : Int)) →
 (Q y1.1 (y1.2.2, a1)))
 ) →
 (L0 y1)))
 ) →
 (L0 (a1, 0, a0))))

def s_laws_markShardS (a0 : (List Shd)) (a1 : Int) (Q : (Int → (((List Shd) × Int) → Prop))) : Prop :=
 (∀ L0 : ((Int × (Int × (List Shd))) → Prop),
 ((
 (∀ y1 : (Int × (Int × (List Shd))),
 ((
 (y1.2.1 < (y1.2.2.length : Int) →
 0 ≤ y1.2.1 ∧
 y1.2.1 < (y1.2.2.length : Int) ∧
 (∀ y2 : (List Shd),
 (y2 = (y1.2.2.set y1.2.1.toNat (y1.1, (rx y1.2.2 y1.2.1).2)) →
 0 ≤ y1.2.1 ∧
 y1.2.1 < (y2.length : Int) ∧
 (∀ y3 : (List Shd),
 (y3 = (y2.set y1.2.1.toNat ((rx y2 y1.2.1).1, (IntKind.i64.wrap (y1.1 + 1)), (rx y2 y1.2.1).2.2)) →
 0 ≤ y1.2.1 ∧
 y1.2.1 < (y3.length : Int) ∧
 (∀ y4 : (List Slt),
 (y4 = (rx y3 y1.2.1).2.2.1 →
 (∀ y5 : (List Shd),
 (y5 = (y3.set y1.2.1.toNat ((rx y3 y1.2.1).1, (rx y3 y1.2.1).2.1, [], (rx y3 y1.2.1).2.2.2)) →
 pMarkSlotS y4 (IntKind.i64.wrap ((IntKind.i64.wrap (y1.1 + 1)) + 1)) ∧
 (∀ y6 : (List Shd),
 (y6 = (y5.set y1.2.1.toNat ((rx y5 y1.2.1).1, (rx y5 y1.2.1).2.1, (wMarkSlotS y4 (IntKind.i64.wrap ((IntKind.i64.wrap (y1.1 + 1)) + 1))).1, (rx y5 y1.2.1).2.2.2)) →
 (∀ y7 : (List Slt),
 (y7 = (wMarkSlotS y4 (IntKind.i64.wrap ((IntKind.i64.wrap (y1.1 + 1)) + 1))).1 →
 0 ≤ y1.2.1 ∧
 y1.2.1 < (y6.length : Int) ∧
 (∀ y8 : (List Shd),
 (y8 = (y6.set y1.2.1.toNat ((rx y6 y1.2.1).1, (rx y6 y1.2.1).2.1, (rx y6 y1.2.1).2.2.1, (mMarkSlotS y4 (IntKind.i64.wrap ((IntKind.i64.wrap (y1.1 + 1)) + 1))))) →
 (L0 ((IntKind.i64.wrap ((mMarkSlotS y4 (IntKind.i64.wrap ((IntKind.i64.wrap (y1.1 + 1)) + 1))) + 1)), (IntKind.i64.wrap (y1.2.1 + 1)), y8))))))))))))))))) ∧
 (¬ (y1.2.1 < (y1.2.2.length : Int)) →
 (Q y1.1 (y1.2.2, a1)))
 ) →
 (L0 y1)))
 ) →
 (L0 (a1, 0, a0))))

def s_laws_markSlotS (a0 : (List Slt)) (a1 : Int) (Q : (Int → (((List Slt) × Int) → Prop))) : Prop :=
 (∀ L0 : ((Int × (Int × (List Slt))) → Prop),
 ((
 (∀ y1 : (Int × (Int × (List Slt))),
 ((
 (y1.2.1 < (y1.2.2.length : Int) →
 pMarkText y1.1 ∧
 0 ≤ y1.2.1 ∧
 y1.2.1 < (y1.2.2.length : Int) ∧
 (∀ y2 : (List Slt),
 (y2 = (y1.2.2.set y1.2.1.toNat ((mMarkText y1.1), (rx y1.2.2 y1.2.1).2)) →
 0 ≤ y1.2.1 ∧
 y1.2.1 < (y2.length : Int) ∧
 (∀ y3 : (List Slt),
 (y3 = (y2.set y1.2.1.toNat ((rx y2 y1.2.1).1, [], (rx y2 y1.2.1).2.2)) →
 pMarkFieldS (rx y2 y1.2.1).2.1 (IntKind.i64.wrap (y1.1 + 1)) ∧
 (∀ y4 : (List Slt),
 (y4 = (y3.set y1.2.1.toNat ((rx y3 y1.2.1).1, (wMarkFieldS (rx y2 y1.2.1).2.1 (IntKind.i64.wrap (y1.1 + 1))).1, (rx y3 y1.2.1).2.2)) →
 0 ≤ y1.2.1 ∧
 y1.2.1 < (y4.length : Int) ∧
 (∀ y5 : (List Slt),
 (y5 = (y4.set y1.2.1.toNat ((rx y4 y1.2.1).1, (rx y4 y1.2.1).2.1, (mMarkFieldS (rx y2 y1.2.1).2.1 (IntKind.i64.wrap (y1.1 + 1))), (rx y4 y1.2.1).2.2.2)) →
 0 ≤ y1.2.1 ∧
 y1.2.1 < (y5.length : Int) ∧
 (∀ y6 : (List Slt),
 (y6 = (y5.set y1.2.1.toNat ((rx y5 y1.2.1).1, (rx y5 y1.2.1).2.1, (rx y5 y1.2.1).2.2.1, [], (rx y5 y1.2.1).2.2.2.2)) →
 pMarkFieldS (rx y5 y1.2.1).2.2.2.1 (IntKind.i64.wrap ((mMarkFieldS (rx y2 y1.2.1).2.1 (IntKind.i64.wrap (y1.1 + 1))) + 1)) ∧
 (∀ y7 : (List Slt),
 (y7 = (y6.set y1.2.1.toNat ((rx y6 y1.2.1).1, (rx y6 y1.2.1).2.1, (rx y6 y1.2.1).2.2.1, (wMarkFieldS (rx y5 y1.2.1).2.2.2.1 (IntKind.i64.wrap ((mMarkFieldS (rx y2 y1.2.1).2.1 (IntKind.i64.wrap (y1.1 + 1))) + 1))).1, (rx y6 y1.2.1).2.2.2.2)) →
 pMarkText (mMarkFieldS (rx y5 y1.2.1).2.2.2.1 (IntKind.i64.wrap ((mMarkFieldS (rx y2 y1.2.1).2.1 (IntKind.i64.wrap (y1.1 + 1))) + 1))) ∧
 0 ≤ y1.2.1 ∧
 y1.2.1 < (y7.length : Int) ∧
 (∀ y8 : (List Slt),
 (y8 = (y7.set y1.2.1.toNat ((rx y7 y1.2.1).1, (rx y7 y1.2.1).2.1, (rx y7 y1.2.1).2.2.1, (rx y7 y1.2.1).2.2.2.1, (mMarkText (mMarkFieldS (rx y5 y1.2.1).2.2.2.1 (IntKind.i64.wrap ((mMarkFieldS (rx y2 y1.2.1).2.1 (IntKind.i64.wrap (y1.1 + 1))) + 1)))), (rx y7 y1.2.1).2.2.2.2.2)) →
 0 ≤ y1.2.1 ∧
 y1.2.1 < (y8.length : Int) ∧
 (∀ y9 : (List Slt),
 (y9 = (y8.set y1.2.1.toNat ((rx y8 y1.2.1).1, (rx y8 y1.2.1).2.1, (rx y8 y1.2.1).2.2.1, (rx y8 y1.2.1).2.2.2.1, (rx y8 y1.2.1).2.2.2.2.1, (IntKind.i64.wrap ((mMarkFieldS (rx y5 y1.2.1).2.2.2.1 (IntKind.i64.wrap ((mMarkFieldS (rx y2 y1.2.1).2.1 (IntKind.i64.wrap (y1.1 + 1))) + 1))) + 1)), (rx y8 y1.2.1).2.2.2.2.2.2)) →
 0 ≤ y1.2.1 ∧
 y1.2.1 < (y9.length : Int) ∧
 (∀ y10 : (List Slt),
 (y10 = (y9.set y1.2.1.toNat ((rx y9 y1.2.1).1, (rx y9 y1.2.1).2.1, (rx y9 y1.2.1).2.2.1, (rx y9 y1.2.1).2.2.2.1, (rx y9 y1.2.1).2.2.2.2.1, (rx y9 y1.2.1).2.2.2.2.2.1, (IntKind.i64.wrap ((IntKind.i64.wrap ((mMarkFieldS (rx y5 y1.2.1).2.2.2.1 (IntKind.i64.wrap ((mMarkFieldS (rx y2 y1.2.1).2.1 (IntKind.i64.wrap (y1.1 + 1))) + 1))) + 1)) + 1)), (rx y9 y1.2.1).2.2.2.2.2.2.2)) →
 (3 : Int) ≠ 0 ∧
 0 ≤ y1.2.1 ∧
 y1.2.1 < (y10.length : Int) ∧
 (∀ y11 : (List Slt),
 (y11 = (y10.set y1.2.1.toNat ((rx y10 y1.2.1).1, (rx y10 y1.2.1).2.1, (rx y10 y1.2.1).2.2.1, (rx y10 y1.2.1).2.2.2.1, (rx y10 y1.2.1).2.2.2.2.1, (rx y10 y1.2.1).2.2.2.2.2.1, (rx y10 y1.2.1).2.2.2.2.2.2.1, (decide (((IntKind.i64.wrap ((IntKind.i64.wrap ((IntKind.i64.wrap ((mMarkFieldS (rx y5 y1.2.1).2.2.2.1 (IntKind.i64.wrap ((mMarkFieldS (rx y2 y1.2.1).2.1 (IntKind.i64.wrap (y1.1 + 1))) + 1))) + 1)) + 1)) + 1)).tmod 3) = 0)))) →
 (L0 ((IntKind.i64.wrap ((IntKind.i64.wrap ((IntKind.i64.wrap ((IntKind.i64.wrap ((mMarkFieldS (rx y5 y1.2.1).2.2.2.1 (IntKind.i64.wrap ((mMarkFieldS (rx y2 y1.2.1).2.1 (IntKind.i64.wrap (y1.1 + 1))) + 1))) + 1)) + 1)) + 1)) + 1)), (IntKind.i64.wrap (y1.2.1 + 1)), y11))))))))))))))))))))))) ∧
 (¬ (y1.2.1 < (y1.2.2.length : Int)) →
 (Q y1.1 (y1.2.2, a1)))
 ) →
 (L0 y1)))
 ) →
 (L0 (a1, 0, a0))))

def s_laws_markStored (a0 : Sto) (a1 : Int) (Q : (Int → ((Sto × Int) → Prop))) : Prop :=
 pMarkFieldS a0.2.1 a1 ∧
 pMarkResponse (a0.2.2.1, a0.2.2.2.1, a0.2.2.2.2.1) (mMarkFieldS a0.2.1 a1) ∧
 (Q (mMarkResponse (a0.2.2.1, a0.2.2.2.1, a0.2.2.2.2.1) (mMarkFieldS a0.2.1 a1)) ((a0.1, (wMarkFieldS a0.2.1 a1).1, a0.2.2.1, (wMarkResponse (a0.2.2.1, a0.2.2.2.1, a0.2.2.2.2.1) (mMarkFieldS a0.2.1 a1)).1.2.1, a0.2.2.2.2), a1))

def s_slices_Clone_Field (a0 : (List Fld)) (Q : ((List Fld) → Prop)) : Prop :=
 (∀ y0 : Bool,
 ((
 (y0 = true →
 a0 = [])
 ) →
 (y0 = true →
 (Q [])) ∧
 (¬ (y0 = true) →
 (([] : List Fld).length + a0.length) * 32 ≤ 140737488355328 ∧
 (Q ([] ++ a0)))))

def s_slices_Clone_GenRow (a0 : (List Gen)) (Q : ((List Gen) → Prop)) : Prop :=
 (∀ y0 : Bool,
 ((
 (y0 = true →
 a0 = [])
 ) →
 (y0 = true →
 (Q [])) ∧
 (¬ (y0 = true) →
 (([] : List Fld).length + a0.length) * 24 ≤ 140737488355328 ∧
 (Q ([] ++ a0)))))

def s_spec_l12Copy (a0 : Shd) (Q : (Shd → Prop)) : Prop :=
 (∀ L0 : (((List Slt) × Int) → Prop),
 ((
 (∀ y1 : ((List Slt) × Int),
 ((
 (y1.2 < (a0.2.2.1.length : Int) →
 0 ≤ y1.2 ∧
 y1.2 < (a0.2.2.1.length : Int) ∧
 pL12One ((rx a0.2.2.1 y1.2).1, (rx a0.2.2.1 y1.2).2.1, (rx a0.2.2.1 y1.2).2.2.1, (rx a0.2.2.1 y1.2).2.2.2.1, (rx a0.2.2.1 y1.2).2.2.2.2.1, (rx a0.2.2.1 y1.2).2.2.2.2.2.1, (rx a0.2.2.1 y1.2).2.2.2.2.2.2.1) ∧
 0 ≤ y1.2 ∧
 y1.2 < (a0.2.2.1.length : Int) ∧
 (y1.1.length + [((mL12One ((rx a0.2.2.1 y1.2).1, (rx a0.2.2.1 y1.2).2.1, (rx a0.2.2.1 y1.2).2.2.1, (rx a0.2.2.1 y1.2).2.2.2.1, (rx a0.2.2.1 y1.2).2.2.2.2.1, (rx a0.2.2.1 y1.2).2.2.2.2.2.1, (rx a0.2.2.1 y1.2).2.2.2.2.2.2.1)).1, (mL12One ((rx a0.2.2.1 y1.2).1, (rx a0.2.2.1 y1.2).2.1, (rx a0.2.2.1 y1.2).2.2.1, (rx a0.2.2.1 y1.2).2.2.2.1, (rx a0.2.2.1 y1.2).2.2.2.2.1, (rx a0.2.2.1 y1.2).2.2.2.2.2.1, (rx a0.2.2.1 y1.2).2.2.2.2.2.2.1)).2.1, (mL12One ((rx a0.2.2.1 y1.2).1, (rx a0.2.2.1 y1.2).2.1, (rx a0.2.2.1 y1.2).2.2.1, (rx a0.2.2.1 y1.2).2.2.2.1, (rx a0.2.2.1 y1.2).2.2.2.2.1, (rx a0.2.2.1 y1.2).2.2.2.2.2.1, (rx a0.2.2.1 y1.2).2.2.2.2.2.2.1)).2.2.1, (mL12One ((rx a0.2.2.1 y1.2).1, (rx a0.2.2.1 y1.2).2.1, (rx a0.2.2.1 y1.2).2.2.1, (rx a0.2.2.1 y1.2).2.2.2.1, (rx a0.2.2.1 y1.2).2.2.2.2.1, (rx a0.2.2.1 y1.2).2.2.2.2.2.1, (rx a0.2.2.1 y1.2).2.2.2.2.2.2.1)).2.2.2.1, (mL12One ((rx a0.2.2.1 y1.2).1, (rx a0.2.2.1 y1.2).2.1, (rx a0.2.2.1 y1.2).2.2.1, (rx a0.2.2.1 y1.2).2.2.2.1, (rx a0.2.2.1 y1.2).2.2.2.2.1, (rx a0.2.2.1 y1.2).2.2.2.2.2.1, (rx a0.2.2.1 y1.2).2.2.2.2.2.2.1)).2.2.2.2.1, (mL12One ((rx a0.2.2.1 y1.2).1, (rx a0.2.2.1 y1.2).2.1, (rx a0.2.2.1 y1.2).2.2.1, (rx a0.2.2.1 y1.2).2.2.2.1, (rx a0.2.2.1 y1.2).2.2.2.2.1, (rx a0.2.2.1 y1.2).2.2.2.2.2.1, (rx a0.2.2.1 y1.2).2.2.2.2.2.2.1)).2.2.2.2.2.1, (mL12One ((rx a0.2.2.1 y1.2).1, (rx a0.2.2.1 y1.2).2.1, (rx a0.2.2.1 y1.2).2.2.1, (rx a0.2.2.1 y1.2).2.2.2.1, (rx a0.2.2.1 y1.2).2.2.2.2.1, (rx a0.2.2.1 y1.2).2.2.2.2.2.1, (rx a0.2.2.1 y1.2).2.2.2.2.2.2.1)).2.2.2.2.2.2, (rx a0.2.2.1 y1.2).2.2.2.2.2.2.2)].length) * 112 ≤ 140737488355328 ∧
 (L0 ((y1.1 ++ [((mL12One ((rx a0.2.2.1 y1.2).1, (rx a0.2.2.1 y1.2).2.1, (rx a0.2.2.1 y1.2).2.2.1, (rx a0.2.2.1 y1.2).2.2.2.1, (rx a0.2.2.1 y1.2).2.2.2.2.1, (rx a0.2.2.1 y1.2).2.2.2.2.2.1, (rx a0.2.2.1 y1.2).2.2.2.2.2.2.1)).1, (mL12One ((rx a0.2.2.1 y1.2).1, (rx a0.2.2.1 y1.2).2.1, (rx a0.2.2.1 y1.2).2.2.1, (rx a0.2.2.1 y1.2).2.2.2.1, (rx a0.2.2.1 y1.2).2.2.2.2.1, (rx a0.2.2.1 y1.2).2.2.2.2.2.1, (rx a0.2.2.1 y1.2).2.2.2.2.2.2.1)).2.1, (mL12One ((rx a0.2.2.1 y1.2).1, (rx a0.2.2.1 y1.2).2.1, (rx a0.2.2.1 y1.2).2.2.1, (rx a0.2.2.1 y1.2).2.2.2.1, (rx a0.2.2.1 y1.2).2.2.2.2.1, (rx a0.2.2.1 y1.2).2.2.2.2.2.1, (rx a0.2.2.1 y1.2).2.2.2.2.2.2.1)).2.2.1, (mL12One ((rx a0.2.2.1 y1.2).1, (rx a0.2.2.1 y1.2).2.1, (rx a0.2.2.1 y1.2).2.2.1, (rx a0.2.2.1 y1.2).2.2.2.1, (rx a0.2.2.1 y1.2).2.2.2.2.1, (rx a0.2.2.1 y1.2).2.2.2.2.2.1, (rx a0.2.2.1 y1.2).2.2.2.2.2.2.1)).2.2.2.1, (mL12One ((rx a0.2.2.1 y1.2).1, (rx a0.2.2.1 y1.2).2.1, (rx a0.2.2.1 y1.2).2.2.1, (rx a0.2.2.1 y1.2).2.2.2.1, (rx a0.2.2.1 y1.2).2.2.2.2.1, (rx a0.2.2.1 y1.2).2.2.2.2.2.1, (rx a0.2.2.1 y1.2).2.2.2.2.2.2.1)).2.2.2.2.1, (mL12One ((rx a0.2.2.1 y1.2).1, (rx a0.2.2.1 y1.2).2.1, (rx a0.2.2.1 y1.2).2.2.1, (rx a0.2.2.1 y1.2).2.2.2.1, (rx a0.2.2.1 y1.2).2.2.2.2.1, (rx a0.2.2.1 y1.2).2.2.2.2.2.1, (rx a0.2.2.1 y1.2).2.2.2.2.2.2.1)).2.2.2.2.2.1, (mL12One ((rx a0.2.2.1 y1.2).1, (rx a0.2.2.1 y1.2).2.1, (rx a0.2.2.1 y1.2).2.2.1, (rx a0.2.2.1 y1.2).2.2.2.1, (rx a0.2.2.1 y1.2).2.2.2.2.1, (rx a0.2.2.1 y1.2).2.2.2.2.2.1, (rx a0.2.2.1 y1.2).2.2.2.2.2.2.1)).2.2.2.2.2.2, (rx a0.2.2.1 y1.2).2.2.2.2.2.2.2)]), (IntKind.i64.wrap (y1.2 + 1))))) ∧
 (¬ (y1.2 < (a0.2.2.1.length : Int)) →
 (Q (a0.1, a0.2.1, y1.1, a0.2.2.2)))
 ) →
 (L0 y1)))
 ) →
 (L0 ([], 0))))

def s_spec_l12One (a0 : Sto) (Q : (Sto → Prop)) : Prop :=
 (([] : List Fld).length + a0.2.1.length) * 32 ≤ 140737488355328 ∧
 pL12Resp (a0.2.2.1, a0.2.2.2.1, a0.2.2.2.2.1) ∧
 (Q (a0.1, ([] ++ a0.2.1), (mL12Resp (a0.2.2.1, a0.2.2.2.1, a0.2.2.2.2.1)).1, (mL12Resp (a0.2.2.1, a0.2.2.2.1, a0.2.2.2.2.1)).2.1, (mL12Resp (a0.2.2.1, a0.2.2.2.1, a0.2.2.2.2.1)).2.2, a0.2.2.2.2.2))

def s_spec_l12Resp (a0 : Rsp) (Q : (Rsp → Prop)) : Prop :=
 (([] : List Fld).length + a0.2.1.length) * 32 ≤ 140737488355328 ∧
 (Q (a0.1, ([] ++ a0.2.1), a0.2.2))

def s_spec_l13Copy (a0 : Cch) (Q : (Cch → Prop)) : Prop :=
 (([] : List Fld).length + a0.2.length) * 24 ≤ 140737488355328 ∧
 (∀ L0 : ((Int × Cch) → Prop),
 ((
 (∀ y1 : (Int × Cch),
 ((
 (y1.1 < (a0.1.length : Int) →
 0 ≤ y1.1 ∧
 y1.1 < (a0.1.length : Int) ∧
 pL12Copy (rx a0.1 y1.1) ∧
 (y1.2.1.length + [(mL12Copy (rx a0.1 y1.1))].length) * 48 ≤ 140737488355328 ∧
 (L0 ((IntKind.i64.wrap (y1.1 + 1)), (y1.2.1 ++ [(mL12Copy (rx a0.1 y1.1))]), y1.2.2))) ∧
 (¬ (y1.1 < (a0.1.length : Int)) →
 (Q y1.2))
 ) →
 (L0 y1)))
 ) →
 (L0 (0, [], ([] ++ a0.2)))))

end Go.Ev
end

section
/- What the program's functions come to, each by itself: printed by a program of this session's own (EwShow) out of the small machine. -/
set_option linter.unusedVariables false
namespace Go.Ev

end Go.Ev
end

section
/- What the laws' marks come to, and the law of Picked: printed by a program of this session's own (EwShow) out of the small machine. -/
set_option linter.unusedVariables false
namespace Go.Ev

def s_laws_heldFieldS (a0 : (List Fld)) (a1 : Int) (Q : (Int → Prop)) : Prop :=
 (∀ L0 : ((Int × Int) → Prop),
 ((
 (∀ y1 : (Int × Int),
 ((
 (y1.2 < (a0.length : Int) →
 0 ≤ y1.2 ∧
 y1.2 < (a0.length : Int) ∧
 pMarkText y1.1 ∧
 ((rx a0 y1.2).1 ≠ (mMarkText y1.1) →
 (Q (-1))) ∧
 (¬ ((rx a0 y1.2).1 ≠ (mMarkText y1.1)) →
 0 ≤ y1.2 ∧
 y1.2 < (a0.length : Int) ∧
 pMarkText (IntKind.i64.wrap (y1.1 + 1)) ∧
 ((rx a0 y1.2).2 ≠ (mMarkText (IntKind.i64.wrap (y1.1 + 1))) →
 (Q (-1))) ∧
 (¬ ((rx a0 y1.2).2 ≠ (mMarkText (IntKind.i64.wrap (y1.1 + 1)))) →
 (L0 ((IntKind.i64.wrap ((IntKind.i64.wrap (y1.1 + 1)) + 1)), (IntKind.i64.wrap (y1.2 + 1))))))) ∧
 (¬ (y1.2 < (a0.length : Int)) →
 (Q y1.1))
 ) →
 (L0 y1)))
 ) →
 (L0 (a1, 0))))

def s_laws_markFieldS (a0 : (List Fld)) (a1 : Int) (Q : (Int → (((List Fld) × Int) → Prop))) : Prop :=
 (∀ L0 : ((Int × (Int × (List Fld))) → Prop),
 ((
 (∀ y1 : (Int × (Int × (List Fld))),
 ((
 (y1.2.1 < (y1.2.2.length : Int) →
 pMarkText y1.1 ∧
 0 ≤ y1.2.1 ∧
 y1.2.1 < (y1.2.2.length : Int) ∧
 pMarkText (IntKind.i64.wrap (y1.1 + 1)) ∧
 0 ≤ y1.2.1 ∧
 y1.2.1 < ((y1.2.2.set y1.2.1.toNat ((mMarkText y1.1), (rx y1.2.2 y1.2.1).2)).length : Int) ∧
 (L0 ((IntKind.i64.wrap ((IntKind.i64.wrap (y1.1 + 1)) + 1)), (IntKind.i64.wrap (y1.2.1 + 1)), ((y1.2.2.set y1.2.1.toNat ((mMarkText y1.1), (rx y1.2.2 y1.2.1).2)).set y1.2.1.toNat ((rx (y1.2.2.set y1.2.1.toNat ((mMarkText y1.1), (rx y1.2.2 y1.2.1).2)) y1.2.1).1, (mMarkText (IntKind.i64.wrap (y1.1 + 1)))))))) ∧
 (¬ (y1.2.1 < (y1.2.2.length : Int)) →
 (Q y1.1 (y1.2.2, a1)))
 ) →
 (L0 y1)))
 ) →
 (L0 (a1, 0, a0))))

def s_laws_markResponse (a0 : Rsp) (a1 : Int) (Q : (Int → ((Rsp × Int) → Prop))) : Prop :=
 pMarkFieldS a0.2.1 a1 ∧
 (Q (mMarkFieldS a0.2.1 a1) ((a0.1, (wMarkFieldS a0.2.1 a1).1, a0.2.2), a1))

def s_laws_markText (a0 : Int) (Q : (S → Prop)) : Prop :=
 (a0 ≤ 0 →
 (Q (lit [109, 48]))) ∧
 (¬ (a0 ≤ 0) →
 (∀ L0 : ((Int × S) → Prop),
 ((
 (∀ y1 : (Int × S),
 ((
 (0 < y1.1 →
 (10 : Int) ≠ 0 ∧
 (strOf [(IntKind.u8.wrap (IntKind.i64.wrap (48 + (y1.1.tmod 10))))]).size + y1.2.size ≤ 9223372036854775807 ∧
 (10 : Int) ≠ 0 ∧
 (L0 ((IntKind.i64.wrap (y1.1.tdiv 10)), ((strOf [(IntKind.u8.wrap (IntKind.i64.wrap (48 + (y1.1.tmod 10))))]) ++ y1.2)))) ∧
 (¬ (0 < y1.1) →
 (lit [109]).size + y1.2.size ≤ 9223372036854775807 ∧
 (Q ((lit [109]) ++ y1.2)))
 ) →
 (L0 y1)))
 ) →
 (L0 (a0, (lit []))))))

end Go.Ev
end

section
/- What more of the laws' functions come to: printed by a program of this session's own (EwShow) out of the small machine. -/
set_option linter.unusedVariables false
namespace Go.Ev

end Go.Ev
end

section
/- What the laws' functions come to: printed by a program of this session's own (EwShow) out of the small machine. -/
set_option linter.unusedVariables false
namespace Go.Ev

end Go.Ev
end

section
/- What the program's functions come to, each by itself: printed by a program of this session's own (EwShow) out of the small machine. -/
set_option linter.unusedVariables false
namespace Go.Ev

def s_ContainsFunc_FieldsOk_1 (a0 : (List Fld)) (a1 : Unit) (Q : (Bool → Prop)) : Prop :=
 pIndexFunc_FieldsOk_1 a0 () ∧
 (Q (decide (0 ≤ (mIndexFunc_FieldsOk_1 a0 ()))))

def s_ContainsFunc_ShardOk_1 (a0 : (List Slt)) (a1 : Slt) (Q : (Bool → Prop)) : Prop :=
 pIndexFunc_ShardOk_1 a0 a1 ∧
 (Q (decide (0 ≤ (mIndexFunc_ShardOk_1 a0 a1))))

def s_IndexFunc_FieldsOk_1 (a0 : (List Fld)) (a1 : Unit) (Q : (Int → Prop)) : Prop :=
 (∀ L0 : (Int → Prop),
 ((
 (∀ y1 : Int,
 ((
 (y1 < (a0.length : Int) →
 0 ≤ y1 ∧
 y1 < (a0.length : Int) ∧
 pFieldsOk_1 (rx a0 y1) ∧
 ((mFieldsOk_1 (rx a0 y1)) = true →
 (Q y1)) ∧
 (¬ ((mFieldsOk_1 (rx a0 y1)) = true) →
 (L0 (IntKind.i64.wrap (y1 + 1))))) ∧
 (¬ (y1 < (a0.length : Int)) →
 (Q (-1)))
 ) →
 (L0 y1)))
 ) →
 (L0 0)))

def s_IndexFunc_ShardOk_1 (a0 : (List Slt)) (a1 : Slt) (Q : (Int → Prop)) : Prop :=
 (∀ L0 : (Int → Prop),
 ((
 (∀ y1 : Int,
 ((
 (y1 < (a0.length : Int) →
 0 ≤ y1 ∧
 y1 < (a0.length : Int) ∧
 pShardOk_1 (rx a0 y1) a1 ∧
 ((mShardOk_1 (rx a0 y1) a1) = true →
 (Q y1)) ∧
 (¬ ((mShardOk_1 (rx a0 y1) a1) = true) →
 (L0 (IntKind.i64.wrap (y1 + 1))))) ∧
 (¬ (y1 < (a0.length : Int)) →
 (Q (-1)))
 ) →
 (L0 y1)))
 ) →
 (L0 0)))

def s_impl_FieldGet (a0 : (List Fld)) (a1 : S) (Q : ((S × Bool) → Prop)) : Prop :=
 (∀ L0 : (((List S) × Int) → Prop),
 ((
 (∀ y1 : ((List S) × Int),
 ((
 (y1.2 < (a0.length : Int) →
 0 ≤ y1.2 ∧
 y1.2 < (a0.length : Int) ∧
 ((rx a0 y1.2).1 = a1 →
 (y1.1.length + [(rx a0 y1.2).2].length) * 16 ≤ 140737488355328 ∧
 (L0 ((y1.1 ++ [(rx a0 y1.2).2]), (IntKind.i64.wrap (y1.2 + 1))))) ∧
 (¬ ((rx a0 y1.2).1 = a1) →
 (L0 (y1.1, (IntKind.i64.wrap (y1.2 + 1)))))) ∧
 (¬ (y1.2 < (a0.length : Int)) →
 pJoin y1.1 (lit [44, 32]) ∧
 (Q ((mJoin y1.1 (lit [44, 32])), (decide (0 < (y1.1.length : Int))))))
 ) →
 (L0 y1)))
 ) →
 (L0 ([], 0))))

def s_impl_FieldsOk (a0 : (List Fld)) (Q : (Bool → Prop)) : Prop :=
 ((a0.length : Int) ≤ 12 →
 pContainsFunc_FieldsOk_1 a0 () ∧
 (Q (decide (¬ ((mContainsFunc_FieldsOk_1 a0 ()) = true))))) ∧
 (¬ ((a0.length : Int) ≤ 12) →
 (Q false))

def s_impl_FieldsOk_1 (a0 : Fld) (Q : (Bool → Prop)) : Prop :=
 pFieldOk a0 ∧
 (Q (decide (¬ ((mFieldOk a0) = true))))

def s_impl_IsTokenText (a0 : S) (Q : (Bool → Prop)) : Prop :=
 (∀ L0 : (Int → Prop),
 ((
 (∀ y1 : Int,
 ((
 (y1 < (a0.size : Int) →
 0 ≤ y1 ∧
 y1 < (a0.size : Int) ∧
 pIsLetterOrDigit (bt a0 y1) ∧
 (¬ ((mIsLetterOrDigit (bt a0 y1)) = true) →
 0 ≤ y1 ∧
 y1 < (a0.size : Int) ∧
 pIndexByte (lit [33, 35, 36, 37, 38, 39, 42, 43, 45, 46, 94, 95, 124, 126, 96]) (bt a0 y1) ∧
 ((mIndexByte (lit [33, 35, 36, 37, 38, 39, 42, 43, 45, 46, 94, 95, 124, 126, 96]) (bt a0 y1)) < 0 →
 (Q false)) ∧
 (¬ ((mIndexByte (lit [33, 35, 36, 37, 38, 39, 42, 43, 45, 46, 94, 95, 124, 126, 96]) (bt a0 y1)) < 0) →
 (L0 (IntKind.i64.wrap (y1 + 1))))) ∧
 (¬ (¬ ((mIsLetterOrDigit (bt a0 y1)) = true)) →
 (L0 (IntKind.i64.wrap (y1 + 1))))) ∧
 (¬ (y1 < (a0.size : Int)) →
 (Q (decide (a0 ≠ (lit [])))))
 ) →
 (L0 y1)))
 ) →
 (L0 0)))

def s_impl_IsValueText (a0 : S) (Q : (Bool → Prop)) : Prop :=
 (∀ L0 : (Int → Prop),
 ((
 (∀ y1 : Int,
 ((
 (y1 < (a0.size : Int) →
 0 ≤ y1 ∧
 y1 < (a0.size : Int) ∧
 ((bt a0 y1) < 32 →
 0 ≤ y1 ∧
 y1 < (a0.size : Int) ∧
 ((bt a0 y1) ≠ 9 →
 (Q false)) ∧
 (¬ ((bt a0 y1) ≠ 9) →
 0 ≤ y1 ∧
 y1 < (a0.size : Int) ∧
 ((bt a0 y1) = 127 →
 (Q false)) ∧
 (¬ ((bt a0 y1) = 127) →
 (L0 (IntKind.i64.wrap (y1 + 1)))))) ∧
 (¬ ((bt a0 y1) < 32) →
 0 ≤ y1 ∧
 y1 < (a0.size : Int) ∧
 ((bt a0 y1) = 127 →
 (Q false)) ∧
 (¬ ((bt a0 y1) = 127) →
 (L0 (IntKind.i64.wrap (y1 + 1)))))) ∧
 (¬ (y1 < (a0.size : Int)) →
 pTrim a0 ∧
 (Q (decide ((mTrim a0) = a0))))
 ) →
 (L0 y1)))
 ) →
 (L0 0)))

def s_impl_ResponseOk (a0 : Rsp) (Q : (Bool → Prop)) : Prop :=
 pIn a0.1 200 599 ∧
 ((mIn a0.1 200 599) = true →
 pOwnFields a0.2.1 ∧
 ((mOwnFields a0.2.1) = true →
 ((a0.2.2.size : Int) ≤ 60 →
 (a0.2.2 = (lit []) →
 (Q true)) ∧
 (¬ (a0.2.2 = (lit [])) →
 pBodiless a0.1 ∧
 (Q (decide (¬ ((mBodiless a0.1) = true)))))) ∧
 (¬ ((a0.2.2.size : Int) ≤ 60) →
 (Q false))) ∧
 (¬ ((mOwnFields a0.2.1) = true) →
 (Q false))) ∧
 (¬ ((mIn a0.1 200 599) = true) →
 (Q false))

def s_impl_SameFields (a0 : (List Fld)) (a1 : (List Fld)) (Q : (Bool → Prop)) : Prop :=
 pEqual_Field a0 a1 ∧
 (Q (mEqual_Field a0 a1))

def s_impl_ShardOk (a0 : Shd) (Q : (Bool → Prop)) : Prop :=
 pShardSizes a0.1 a0.2.1 ∧
 (¬ ((mShardSizes a0.1 a0.2.1) = true) →
 (Q false)) ∧
 (¬ (¬ ((mShardSizes a0.1 a0.2.1) = true)) →
 (a0.1 < (a0.2.2.1.length : Int) →
 (Q false)) ∧
 (¬ (a0.1 < (a0.2.2.1.length : Int)) →
 (a0.2.2.2 ≠ 0 →
 pIn a0.2.2.2 0 (IntKind.i64.wrap ((a0.2.2.1.length : Int) - 1)) ∧
 (¬ ((mIn a0.2.2.2 0 (IntKind.i64.wrap ((a0.2.2.1.length : Int) - 1))) = true) →
 (Q false)) ∧
 (¬ (¬ ((mIn a0.2.2.2 0 (IntKind.i64.wrap ((a0.2.2.1.length : Int) - 1))) = true)) →
 (∀ L0 : (Int → Prop),
 ((
 (∀ y1 : Int,
 ((
 (y1 < (a0.2.2.1.length : Int) →
 0 ≤ y1 ∧
 y1 < (a0.2.2.1.length : Int) ∧
 pStoredOk ((rx a0.2.2.1 y1).1, (rx a0.2.2.1 y1).2.1, (rx a0.2.2.1 y1).2.2.1, (rx a0.2.2.1 y1).2.2.2.1, (rx a0.2.2.1 y1).2.2.2.2.1, (rx a0.2.2.1 y1).2.2.2.2.2.1, (rx a0.2.2.1 y1).2.2.2.2.2.2.1) ∧
 (¬ ((mStoredOk ((rx a0.2.2.1 y1).1, (rx a0.2.2.1 y1).2.1, (rx a0.2.2.1 y1).2.2.1, (rx a0.2.2.1 y1).2.2.2.1, (rx a0.2.2.1 y1).2.2.2.2.1, (rx a0.2.2.1 y1).2.2.2.2.2.1, (rx a0.2.2.1 y1).2.2.2.2.2.2.1)) = true) →
 (Q false)) ∧
 (¬ (¬ ((mStoredOk ((rx a0.2.2.1 y1).1, (rx a0.2.2.1 y1).2.1, (rx a0.2.2.1 y1).2.2.1, (rx a0.2.2.1 y1).2.2.2.1, (rx a0.2.2.1 y1).2.2.2.2.1, (rx a0.2.2.1 y1).2.2.2.2.2.1, (rx a0.2.2.1 y1).2.2.2.2.2.2.1)) = true)) →
 0 ≤ y1 ∧
 y1 ≤ (a0.2.2.1.length : Int) ∧
 pContainsFunc_ShardOk_1 (a0.2.2.1.take y1.toNat) (rx a0.2.2.1 y1) ∧
 ((mContainsFunc_ShardOk_1 (a0.2.2.1.take y1.toNat) (rx a0.2.2.1 y1)) = true →
 (Q false)) ∧
 (¬ ((mContainsFunc_ShardOk_1 (a0.2.2.1.take y1.toNat) (rx a0.2.2.1 y1)) = true) →
 (L0 (IntKind.i64.wrap (y1 + 1)))))) ∧
 (¬ (y1 < (a0.2.2.1.length : Int)) →
 pBodies a0.2.2.1 ∧
 (Q (decide ((mBodies a0.2.2.1) ≤ a0.2.1))))
 ) →
 (L0 y1)))
 ) →
 (L0 0))))) ∧
 (¬ (a0.2.2.2 ≠ 0) →
 (∀ L2 : (Int → Prop),
 ((
 (∀ y3 : Int,
 ((
 (y3 < (a0.2.2.1.length : Int) →
 0 ≤ y3 ∧
 y3 < (a0.2.2.1.length : Int) ∧
 pStoredOk ((rx a0.2.2.1 y3).1, (rx a0.2.2.1 y3).2.1, (rx a0.2.2.1 y3).2.2.1, (rx a0.2.2.1 y3).2.2.2.1, (rx a0.2.2.1 y3).2.2.2.2.1, (rx a0.2.2.1 y3).2.2.2.2.2.1, (rx a0.2.2.1 y3).2.2.2.2.2.2.1) ∧
 (¬ ((mStoredOk ((rx a0.2.2.1 y3).1, (rx a0.2.2.1 y3).2.1, (rx a0.2.2.1 y3).2.2.1, (rx a0.2.2.1 y3).2.2.2.1, (rx a0.2.2.1 y3).2.2.2.2.1, (rx a0.2.2.1 y3).2.2.2.2.2.1, (rx a0.2.2.1 y3).2.2.2.2.2.2.1)) = true) →
 (Q false)) ∧
 (¬ (¬ ((mStoredOk ((rx a0.2.2.1 y3).1, (rx a0.2.2.1 y3).2.1, (rx a0.2.2.1 y3).2.2.1, (rx a0.2.2.1 y3).2.2.2.1, (rx a0.2.2.1 y3).2.2.2.2.1, (rx a0.2.2.1 y3).2.2.2.2.2.1, (rx a0.2.2.1 y3).2.2.2.2.2.2.1)) = true)) →
 0 ≤ y3 ∧
 y3 ≤ (a0.2.2.1.length : Int) ∧
 pContainsFunc_ShardOk_1 (a0.2.2.1.take y3.toNat) (rx a0.2.2.1 y3) ∧
 ((mContainsFunc_ShardOk_1 (a0.2.2.1.take y3.toNat) (rx a0.2.2.1 y3)) = true →
 (Q false)) ∧
 (¬ ((mContainsFunc_ShardOk_1 (a0.2.2.1.take y3.toNat) (rx a0.2.2.1 y3)) = true) →
 (L2 (IntKind.i64.wrap (y3 + 1)))))) ∧
 (¬ (y3 < (a0.2.2.1.length : Int)) →
 pBodies a0.2.2.1 ∧
 (Q (decide ((mBodies a0.2.2.1) ≤ a0.2.1))))
 ) →
 (L2 y3)))
 ) →
 (L2 0))))))

def s_impl_ShardOk_1 (a0 : Slt) (a1 : Slt) (Q : (Bool → Prop)) : Prop :=
 pStandAlike (a1.1, a1.2.1, a1.2.2.1, a1.2.2.2.1, a1.2.2.2.2.1, a1.2.2.2.2.2.1, a1.2.2.2.2.2.2.1) (a0.1, a0.2.1, a0.2.2.1, a0.2.2.2.1, a0.2.2.2.2.1, a0.2.2.2.2.2.1, a0.2.2.2.2.2.2.1) ∧
 (Q (mStandAlike (a1.1, a1.2.1, a1.2.2.1, a1.2.2.2.1, a1.2.2.2.2.1, a1.2.2.2.2.2.1, a1.2.2.2.2.2.2.1) (a0.1, a0.2.1, a0.2.2.1, a0.2.2.2.1, a0.2.2.2.2.1, a0.2.2.2.2.2.1, a0.2.2.2.2.2.2.1)))

def s_impl_StoredOk (a0 : Sto) (Q : (Bool → Prop)) : Prop :=
 pUriOk a0.1 ∧
 ((mUriOk a0.1) = true →
 pResponseOk (a0.2.2.1, a0.2.2.2.1, a0.2.2.2.2.1) ∧
 ((mResponseOk (a0.2.2.1, a0.2.2.2.1, a0.2.2.2.2.1)) = true →
 pIn a0.2.2.2.2.2.1 0 2000000000 ∧
 ((mIn a0.2.2.2.2.2.1 0 2000000000) = true →
 pIn a0.2.2.2.2.2.2 a0.2.2.2.2.2.1 2000000000 ∧
 ((mIn a0.2.2.2.2.2.2 a0.2.2.2.2.2.1 2000000000) = true →
 (Q (decide ((a0.2.1.length : Int) ≤ 12)))) ∧
 (¬ ((mIn a0.2.2.2.2.2.2 a0.2.2.2.2.2.1 2000000000) = true) →
 (Q false))) ∧
 (¬ ((mIn a0.2.2.2.2.2.1 0 2000000000) = true) →
 (Q false))) ∧
 (¬ ((mResponseOk (a0.2.2.1, a0.2.2.2.1, a0.2.2.2.2.1)) = true) →
 (Q false))) ∧
 (¬ ((mUriOk a0.1) = true) →
 (Q false))

def s_impl_Trim (a0 : S) (Q : (S → Prop)) : Prop :=
 pTrimL a0 (lit [32, 9]) ∧
 (Q (mTrimL a0 (lit [32, 9])))

def s_impl_UriOk (a0 : S) (Q : (Bool → Prop)) : Prop :=
 (∀ L0 : (Int → Prop),
 ((
 (∀ y1 : Int,
 ((
 (y1 < (a0.size : Int) →
 0 ≤ y1 ∧
 y1 < (a0.size : Int) ∧
 ((bt a0 y1) < 33 →
 (Q false)) ∧
 (¬ ((bt a0 y1) < 33) →
 0 ≤ y1 ∧
 y1 < (a0.size : Int) ∧
 (126 < (bt a0 y1) →
 (Q false)) ∧
 (¬ (126 < (bt a0 y1)) →
 (L0 (IntKind.i64.wrap (y1 + 1)))))) ∧
 (¬ (y1 < (a0.size : Int)) →
 pIn (a0.size : Int) 1 20 ∧
 ((mIn (a0.size : Int) 1 20) = true →
 (0 : Int) ≤ 0 ∧
 0 < (a0.size : Int) ∧
 (Q (decide ((bt a0 0) = 47)))) ∧
 (¬ ((mIn (a0.size : Int) 1 20) = true) →
 (Q false)))
 ) →
 (L0 y1)))
 ) →
 (L0 0)))

def s_impl_bodies (a0 : (List Slt)) (Q : (Int → Prop)) : Prop :=
 (∀ L0 : ((Int × Int) → Prop),
 ((
 (∀ y1 : (Int × Int),
 ((
 (y1.2 < (a0.length : Int) →
 0 ≤ y1.2 ∧
 y1.2 < (a0.length : Int) ∧
 (L0 ((IntKind.i64.wrap (y1.1 + ((rx a0 y1.2).2.2.2.2.1.size : Int))), (IntKind.i64.wrap (y1.2 + 1))))) ∧
 (¬ (y1.2 < (a0.length : Int)) →
 (Q y1.1))
 ) →
 (L0 y1)))
 ) →
 (L0 (0, 0))))

def s_impl_bodiless (a0 : Int) (Q : (Bool → Prop)) : Prop :=
 (a0 = 204 →
 (Q true)) ∧
 (¬ (a0 = 204) →
 (Q (decide (a0 = 304))))

def s_impl_bodyFields (a0 : (List Fld)) (Q : (Bool → Prop)) : Prop :=
 pHasField a0 (lit [99, 111, 110, 116, 101, 110, 116, 45, 108, 101, 110, 103, 116, 104]) ∧
 ((mHasField a0 (lit [99, 111, 110, 116, 101, 110, 116, 45, 108, 101, 110, 103, 116, 104])) = true →
 (Q true)) ∧
 (¬ ((mHasField a0 (lit [99, 111, 110, 116, 101, 110, 116, 45, 108, 101, 110, 103, 116, 104])) = true) →
 pHasField a0 (lit [116, 114, 97, 110, 115, 102, 101, 114, 45, 101, 110, 99, 111, 100, 105, 110, 103]) ∧
 (Q (mHasField a0 (lit [116, 114, 97, 110, 115, 102, 101, 114, 45, 101, 110, 99, 111, 100, 105, 110, 103]))))

def s_impl_fieldOk (a0 : Fld) (Q : (Bool → Prop)) : Prop :=
 pIsTokenText a0.1 ∧
 ((mIsTokenText a0.1) = true →
 ((a0.1.size : Int) ≤ 24 →
 pLower a0.1 ∧
 ((mLower a0.1) = a0.1 →
 pIsValueText a0.2 ∧
 ((mIsValueText a0.2) = true →
 (Q (decide ((a0.2.size : Int) ≤ 60)))) ∧
 (¬ ((mIsValueText a0.2) = true) →
 (Q false))) ∧
 (¬ ((mLower a0.1) = a0.1) →
 (Q false))) ∧
 (¬ ((a0.1.size : Int) ≤ 24) →
 (Q false))) ∧
 (¬ ((mIsTokenText a0.1) = true) →
 (Q false))

def s_impl_hasField (a0 : (List Fld)) (a1 : S) (Q : (Bool → Prop)) : Prop :=
 pFieldGet a0 a1 ∧
 (Q (mFieldGet a0 a1).2)

def s_impl_in (a0 : Int) (a1 : Int) (a2 : Int) (Q : (Bool → Prop)) : Prop :=
 (a1 ≤ a0 →
 (Q (decide (a0 ≤ a2)))) ∧
 (¬ (a1 ≤ a0) →
 (Q false))

def s_impl_isLetterOrDigit (a0 : Int) (Q : (Bool → Prop)) : Prop :=
 (97 ≤ a0 →
 (a0 ≤ 122 →
 (Q true)) ∧
 (¬ (a0 ≤ 122) →
 (65 ≤ a0 →
 (a0 ≤ 90 →
 (Q true)) ∧
 (¬ (a0 ≤ 90) →
 (48 ≤ a0 →
 (Q (decide (a0 ≤ 57)))) ∧
 (¬ (48 ≤ a0) →
 (Q false)))) ∧
 (¬ (65 ≤ a0) →
 (48 ≤ a0 →
 (Q (decide (a0 ≤ 57)))) ∧
 (¬ (48 ≤ a0) →
 (Q false))))) ∧
 (¬ (97 ≤ a0) →
 (65 ≤ a0 →
 (a0 ≤ 90 →
 (Q true)) ∧
 (¬ (a0 ≤ 90) →
 (48 ≤ a0 →
 (Q (decide (a0 ≤ 57)))) ∧
 (¬ (48 ≤ a0) →
 (Q false)))) ∧
 (¬ (65 ≤ a0) →
 (48 ≤ a0 →
 (Q (decide (a0 ≤ 57)))) ∧
 (¬ (48 ≤ a0) →
 (Q false))))

def s_impl_ownFields (a0 : (List Fld)) (Q : (Bool → Prop)) : Prop :=
 pFieldsOk a0 ∧
 ((mFieldsOk a0) = true →
 ((a0.length : Int) < 12 →
 pBodyFields a0 ∧
 (Q (decide (¬ ((mBodyFields a0) = true))))) ∧
 (¬ ((a0.length : Int) < 12) →
 (Q false))) ∧
 (¬ ((mFieldsOk a0) = true) →
 (Q false))

def s_impl_shardSizes (a0 : Int) (a1 : Int) (Q : (Bool → Prop)) : Prop :=
 pIn a0 1 8 ∧
 ((mIn a0 1 8) = true →
 pIn a1 0 500 ∧
 (Q (mIn a1 0 500))) ∧
 (¬ ((mIn a0 1 8) = true) →
 (Q false))

def s_impl_standAlike (a0 : Sto) (a1 : Sto) (Q : (Bool → Prop)) : Prop :=
 (a0.1 = a1.1 →
 pSameFields a0.2.1 a1.2.1 ∧
 (Q (mSameFields a0.2.1 a1.2.1))) ∧
 (¬ (a0.1 = a1.1) →
 (Q false))

def s_slices_Equal_Field (a0 : (List Fld)) (a1 : (List Fld)) (Q : (Bool → Prop)) : Prop :=
 ((a0.length : Int) ≠ (a1.length : Int) →
 (Q false)) ∧
 (¬ ((a0.length : Int) ≠ (a1.length : Int)) →
 (∀ L0 : (Int → Prop),
 ((
 (∀ y1 : Int,
 ((
 (y1 < (a0.length : Int) →
 0 ≤ y1 ∧
 y1 < (a0.length : Int) ∧
 0 ≤ y1 ∧
 y1 < (a1.length : Int) ∧
 (¬ ((rx a0 y1) = (rx a1 y1)) →
 (Q false)) ∧
 (¬ (¬ ((rx a0 y1) = (rx a1 y1))) →
 (L0 (IntKind.i64.wrap (y1 + 1))))) ∧
 (¬ (y1 < (a0.length : Int)) →
 (Q true))
 ) →
 (L0 y1)))
 ) →
 (L0 0))))

def s_spec_FieldGet (a0 : (List Fld)) (a1 : S) (Q : ((S × Bool) → Prop)) : Prop :=
 (∀ L0 : ((S × (Bool × Int)) → Prop),
 ((
 (∀ y1 : (S × (Bool × Int)),
 ((
 (y1.2.2 < (a0.length : Int) →
 0 ≤ y1.2.2 ∧
 y1.2.2 < (a0.length : Int) ∧
 ((rx a0 y1.2.2).1 ≠ a1 →
 (L0 (y1.1, y1.2.1, (IntKind.i64.wrap (y1.2.2 + 1))))) ∧
 (¬ ((rx a0 y1.2.2).1 ≠ a1) →
 (y1.2.1 = true →
 y1.1.size + (lit [44, 32]).size ≤ 9223372036854775807 ∧
 0 ≤ y1.2.2 ∧
 y1.2.2 < (a0.length : Int) ∧
 (y1.1 ++ (lit [44, 32])).size + (rx a0 y1.2.2).2.size ≤ 9223372036854775807 ∧
 (L0 (((y1.1 ++ (lit [44, 32])) ++ (rx a0 y1.2.2).2), true, (IntKind.i64.wrap (y1.2.2 + 1))))) ∧
 (¬ (y1.2.1 = true) →
 0 ≤ y1.2.2 ∧
 y1.2.2 < (a0.length : Int) ∧
 y1.1.size + (rx a0 y1.2.2).2.size ≤ 9223372036854775807 ∧
 (L0 ((y1.1 ++ (rx a0 y1.2.2).2), true, (IntKind.i64.wrap (y1.2.2 + 1))))))) ∧
 (¬ (y1.2.2 < (a0.length : Int)) →
 (Q (y1.1, y1.2.1)))
 ) →
 (L0 y1)))
 ) →
 (L0 ((lit []), false, 0))))

def s_spec_FieldsOk (a0 : (List Fld)) (Q : (Bool → Prop)) : Prop :=
 (∀ L0 : (Int → Prop),
 ((
 (∀ y1 : Int,
 ((
 (y1 < (a0.length : Int) →
 0 ≤ y1 ∧
 y1 < (a0.length : Int) ∧
 pFieldOk (rx a0 y1) ∧
 (¬ ((mFieldOk (rx a0 y1)) = true) →
 (Q false)) ∧
 (¬ (¬ ((mFieldOk (rx a0 y1)) = true)) →
 (L0 (IntKind.i64.wrap (y1 + 1))))) ∧
 (¬ (y1 < (a0.length : Int)) →
 (Q (decide ((a0.length : Int) ≤ 12))))
 ) →
 (L0 y1)))
 ) →
 (L0 0)))

def s_spec_IsTokenText (a0 : S) (Q : (Bool → Prop)) : Prop :=
 (∀ L0 : (Int → Prop),
 ((
 (∀ y1 : Int,
 ((
 (y1 < (a0.size : Int) →
 0 ≤ y1 ∧
 y1 < (a0.size : Int) ∧
 pToken (bt a0 y1) ∧
 (¬ ((mToken (bt a0 y1)) = true) →
 (Q false)) ∧
 (¬ (¬ ((mToken (bt a0 y1)) = true)) →
 (L0 (IntKind.i64.wrap (y1 + 1))))) ∧
 (¬ (y1 < (a0.size : Int)) →
 (Q (decide (0 < (a0.size : Int)))))
 ) →
 (L0 y1)))
 ) →
 (L0 0)))

def s_spec_IsValueText (a0 : S) (Q : (Bool → Prop)) : Prop :=
 (∀ L0 : (Int → Prop),
 ((
 (∀ y1 : Int,
 ((
 (y1 < (a0.size : Int) →
 0 ≤ y1 ∧
 y1 < (a0.size : Int) ∧
 ((bt a0 y1) ≠ 9 →
 0 ≤ y1 ∧
 y1 < (a0.size : Int) ∧
 ((bt a0 y1) < 32 →
 (Q false)) ∧
 (¬ ((bt a0 y1) < 32) →
 0 ≤ y1 ∧
 y1 < (a0.size : Int) ∧
 ((bt a0 y1) = 127 →
 (Q false)) ∧
 (¬ ((bt a0 y1) = 127) →
 (L0 (IntKind.i64.wrap (y1 + 1)))))) ∧
 (¬ ((bt a0 y1) ≠ 9) →
 (L0 (IntKind.i64.wrap (y1 + 1))))) ∧
 (¬ (y1 < (a0.size : Int)) →
 pTrim a0 ∧
 (Q (decide ((mTrim a0) = a0))))
 ) →
 (L0 y1)))
 ) →
 (L0 0)))

def s_spec_Lower (a0 : S) (Q : (S → Prop)) : Prop :=
 a0.size ≤ 140737488355328 ∧
 (∀ L0 : ((Int × (List Int)) → Prop),
 ((
 (∀ y1 : (Int × (List Int)),
 ((
 (y1.1 < (y1.2.length : Int) →
 0 ≤ y1.1 ∧
 y1.1 < (y1.2.length : Int) ∧
 (65 ≤ (rx y1.2 y1.1) →
 0 ≤ y1.1 ∧
 y1.1 < (y1.2.length : Int) ∧
 ((rx y1.2 y1.1) ≤ 90 →
 0 ≤ y1.1 ∧
 y1.1 < (y1.2.length : Int) ∧
 0 ≤ y1.1 ∧
 y1.1 < (y1.2.length : Int) ∧
 (L0 ((IntKind.i64.wrap (y1.1 + 1)), (y1.2.set y1.1.toNat (IntKind.u8.wrap ((rx y1.2 y1.1) + 32)))))) ∧
 (¬ ((rx y1.2 y1.1) ≤ 90) →
 (L0 ((IntKind.i64.wrap (y1.1 + 1)), y1.2)))) ∧
 (¬ (65 ≤ (rx y1.2 y1.1)) →
 (L0 ((IntKind.i64.wrap (y1.1 + 1)), y1.2)))) ∧
 (¬ (y1.1 < (y1.2.length : Int)) →
 (Q (strOf y1.2)))
 ) →
 (L0 y1)))
 ) →
 (L0 (0, (bytesOf a0)))))

def s_spec_ResponseOk (a0 : Rsp) (Q : (Bool → Prop)) : Prop :=
 pIn a0.1 200 599 ∧
 ((mIn a0.1 200 599) = true →
 pOwnFields a0.2.1 ∧
 ((mOwnFields a0.2.1) = true →
 ((a0.2.2.size : Int) ≤ 60 →
 (a0.1 ≠ 204 →
 (a0.1 ≠ 304 →
 (Q true)) ∧
 (¬ (a0.1 ≠ 304) →
 (Q (decide (a0.2.2 = (lit [])))))) ∧
 (¬ (a0.1 ≠ 204) →
 (Q (decide (a0.2.2 = (lit [])))))) ∧
 (¬ ((a0.2.2.size : Int) ≤ 60) →
 (Q false))) ∧
 (¬ ((mOwnFields a0.2.1) = true) →
 (Q false))) ∧
 (¬ ((mIn a0.1 200 599) = true) →
 (Q false))

def s_spec_SameFields (a0 : (List Fld)) (a1 : (List Fld)) (Q : (Bool → Prop)) : Prop :=
 ((a0.length : Int) ≠ (a1.length : Int) →
 (Q false)) ∧
 (¬ ((a0.length : Int) ≠ (a1.length : Int)) →
 (∀ L0 : (Int → Prop),
 ((
 (∀ y1 : Int,
 ((
 (y1 < (a0.length : Int) →
 0 ≤ y1 ∧
 y1 < (a0.length : Int) ∧
 0 ≤ y1 ∧
 y1 < (a1.length : Int) ∧
 (¬ ((rx a0 y1) = (rx a1 y1)) →
 (Q false)) ∧
 (¬ (¬ ((rx a0 y1) = (rx a1 y1))) →
 (L0 (IntKind.i64.wrap (y1 + 1))))) ∧
 (¬ (y1 < (a0.length : Int)) →
 (Q true))
 ) →
 (L0 y1)))
 ) →
 (L0 0))))

def s_spec_ShardOk (a0 : Shd) (Q : (Bool → Prop)) : Prop :=
 pIn a0.1 1 8 ∧
 (¬ ((mIn a0.1 1 8) = true) →
 (Q false)) ∧
 (¬ (¬ ((mIn a0.1 1 8) = true)) →
 pIn a0.2.1 0 500 ∧
 (¬ ((mIn a0.2.1 0 500) = true) →
 (Q false)) ∧
 (¬ (¬ ((mIn a0.2.1 0 500) = true)) →
 (a0.1 < (a0.2.2.1.length : Int) →
 (Q false)) ∧
 (¬ (a0.1 < (a0.2.2.1.length : Int)) →
 pFilledS a0 ∧
 (a0.2.1 < (mFilledS a0) →
 (Q false)) ∧
 (¬ (a0.2.1 < (mFilledS a0)) →
 (a0.2.2.2 ≠ 0 →
 pIn a0.2.2.2 0 (IntKind.i64.wrap ((a0.2.2.1.length : Int) - 1)) ∧
 (¬ ((mIn a0.2.2.2 0 (IntKind.i64.wrap ((a0.2.2.1.length : Int) - 1))) = true) →
 (Q false)) ∧
 (¬ (¬ ((mIn a0.2.2.2 0 (IntKind.i64.wrap ((a0.2.2.1.length : Int) - 1))) = true)) →
 (∀ L0 : (Int → Prop),
 ((
 (∀ y1 : Int,
 ((
 (y1 < (a0.2.2.1.length : Int) →
 0 ≤ y1 ∧
 y1 < (a0.2.2.1.length : Int) ∧
 pStoredOk ((rx a0.2.2.1 y1).1, (rx a0.2.2.1 y1).2.1, (rx a0.2.2.1 y1).2.2.1, (rx a0.2.2.1 y1).2.2.2.1, (rx a0.2.2.1 y1).2.2.2.2.1, (rx a0.2.2.1 y1).2.2.2.2.2.1, (rx a0.2.2.1 y1).2.2.2.2.2.2.1) ∧
 (¬ ((mStoredOk ((rx a0.2.2.1 y1).1, (rx a0.2.2.1 y1).2.1, (rx a0.2.2.1 y1).2.2.1, (rx a0.2.2.1 y1).2.2.2.1, (rx a0.2.2.1 y1).2.2.2.2.1, (rx a0.2.2.1 y1).2.2.2.2.2.1, (rx a0.2.2.1 y1).2.2.2.2.2.2.1)) = true) →
 (Q false)) ∧
 (¬ (¬ ((mStoredOk ((rx a0.2.2.1 y1).1, (rx a0.2.2.1 y1).2.1, (rx a0.2.2.1 y1).2.2.1, (rx a0.2.2.1 y1).2.2.2.1, (rx a0.2.2.1 y1).2.2.2.2.1, (rx a0.2.2.1 y1).2.2.2.2.2.1, (rx a0.2.2.1 y1).2.2.2.2.2.2.1)) = true)) →
 (∀ L2 : (Int → Prop),
 ((
 (∀ y3 : Int,
 ((
 (y3 < y1 →
 0 ≤ y3 ∧
 y3 < (a0.2.2.1.length : Int) ∧
 0 ≤ y1 ∧
 y1 < (a0.2.2.1.length : Int) ∧
 pStandAlike ((rx a0.2.2.1 y3).1, (rx a0.2.2.1 y3).2.1, (rx a0.2.2.1 y3).2.2.1, (rx a0.2.2.1 y3).2.2.2.1, (rx a0.2.2.1 y3).2.2.2.2.1, (rx a0.2.2.1 y3).2.2.2.2.2.1, (rx a0.2.2.1 y3).2.2.2.2.2.2.1) ((rx a0.2.2.1 y1).1, (rx a0.2.2.1 y1).2.1, (rx a0.2.2.1 y1).2.2.1, (rx a0.2.2.1 y1).2.2.2.1, (rx a0.2.2.1 y1).2.2.2.2.1, (rx a0.2.2.1 y1).2.2.2.2.2.1, (rx a0.2.2.1 y1).2.2.2.2.2.2.1) ∧
 ((mStandAlike ((rx a0.2.2.1 y3).1, (rx a0.2.2.1 y3).2.1, (rx a0.2.2.1 y3).2.2.1, (rx a0.2.2.1 y3).2.2.2.1, (rx a0.2.2.1 y3).2.2.2.2.1, (rx a0.2.2.1 y3).2.2.2.2.2.1, (rx a0.2.2.1 y3).2.2.2.2.2.2.1) ((rx a0.2.2.1 y1).1, (rx a0.2.2.1 y1).2.1, (rx a0.2.2.1 y1).2.2.1, (rx a0.2.2.1 y1).2.2.2.1, (rx a0.2.2.1 y1).2.2.2.2.1, (rx a0.2.2.1 y1).2.2.2.2.2.1, (rx a0.2.2.1 y1).2.2.2.2.2.2.1)) = true →
 (Q false)) ∧
 (¬ ((mStandAlike ((rx a0.2.2.1 y3).1, (rx a0.2.2.1 y3).2.1, (rx a0.2.2.1 y3).2.2.1, (rx a0.2.2.1 y3).2.2.2.1, (rx a0.2.2.1 y3).2.2.2.2.1, (rx a0.2.2.1 y3).2.2.2.2.2.1, (rx a0.2.2.1 y3).2.2.2.2.2.2.1) ((rx a0.2.2.1 y1).1, (rx a0.2.2.1 y1).2.1, (rx a0.2.2.1 y1).2.2.1, (rx a0.2.2.1 y1).2.2.2.1, (rx a0.2.2.1 y1).2.2.2.2.1, (rx a0.2.2.1 y1).2.2.2.2.2.1, (rx a0.2.2.1 y1).2.2.2.2.2.2.1)) = true) →
 (L2 (IntKind.i64.wrap (y3 + 1))))) ∧
 (¬ (y3 < y1) →
 (L0 (IntKind.i64.wrap (y1 + 1))))
 ) →
 (L2 y3)))
 ) →
 (L2 0))))) ∧
 (¬ (y1 < (a0.2.2.1.length : Int)) →
 (Q true))
 ) →
 (L0 y1)))
 ) →
 (L0 0))))) ∧
 (¬ (a0.2.2.2 ≠ 0) →
 (∀ L4 : (Int → Prop),
 ((
 (∀ y5 : Int,
 ((
 (y5 < (a0.2.2.1.length : Int) →
 0 ≤ y5 ∧
 y5 < (a0.2.2.1.length : Int) ∧
 pStoredOk ((rx a0.2.2.1 y5).1, (rx a0.2.2.1 y5).2.1, (rx a0.2.2.1 y5).2.2.1, (rx a0.2.2.1 y5).2.2.2.1, (rx a0.2.2.1 y5).2.2.2.2.1, (rx a0.2.2.1 y5).2.2.2.2.2.1, (rx a0.2.2.1 y5).2.2.2.2.2.2.1) ∧
 (¬ ((mStoredOk ((rx a0.2.2.1 y5).1, (rx a0.2.2.1 y5).2.1, (rx a0.2.2.1 y5).2.2.1, (rx a0.2.2.1 y5).2.2.2.1, (rx a0.2.2.1 y5).2.2.2.2.1, (rx a0.2.2.1 y5).2.2.2.2.2.1, (rx a0.2.2.1 y5).2.2.2.2.2.2.1)) = true) →
 (Q false)) ∧
 (¬ (¬ ((mStoredOk ((rx a0.2.2.1 y5).1, (rx a0.2.2.1 y5).2.1, (rx a0.2.2.1 y5).2.2.1, (rx a0.2.2.1 y5).2.2.2.1, (rx a0.2.2.1 y5).2.2.2.2.1, (rx a0.2.2.1 y5).2.2.2.2.2.1, (rx a0.2.2.1 y5).2.2.2.2.2.2.1)) = true)) →
 (∀ L6 : (Int → Prop),
 ((
 (∀ y7 : Int,
 ((
 (y7 < y5 →
 0 ≤ y7 ∧
 y7 < (a0.2.2.1.length : Int) ∧
 0 ≤ y5 ∧
 y5 < (a0.2.2.1.length : Int) ∧
 pStandAlike ((rx a0.2.2.1 y7).1, (rx a0.2.2.1 y7).2.1, (rx a0.2.2.1 y7).2.2.1, (rx a0.2.2.1 y7).2.2.2.1, (rx a0.2.2.1 y7).2.2.2.2.1, (rx a0.2.2.1 y7).2.2.2.2.2.1, (rx a0.2.2.1 y7).2.2.2.2.2.2.1) ((rx a0.2.2.1 y5).1, (rx a0.2.2.1 y5).2.1, (rx a0.2.2.1 y5).2.2.1, (rx a0.2.2.1 y5).2.2.2.1, (rx a0.2.2.1 y5).2.2.2.2.1, (rx a0.2.2.1 y5).2.2.2.2.2.1, (rx a0.2.2.1 y5).2.2.2.2.2.2.1) ∧
 ((mStandAlike ((rx a0.2.2.1 y7).1, (rx a0.2.2.1 y7).2.1, (rx a0.2.2.1 y7).2.2.1, (rx a0.2.2.1 y7).2.2.2.1, (rx a0.2.2.1 y7).2.2.2.2.1, (rx a0.2.2.1 y7).2.2.2.2.2.1, (rx a0.2.2.1 y7).2.2.2.2.2.2.1) ((rx a0.2.2.1 y5).1, (rx a0.2.2.1 y5).2.1, (rx a0.2.2.1 y5).2.2.1, (rx a0.2.2.1 y5).2.2.2.1, (rx a0.2.2.1 y5).2.2.2.2.1, (rx a0.2.2.1 y5).2.2.2.2.2.1, (rx a0.2.2.1 y5).2.2.2.2.2.2.1)) = true →
 (Q false)) ∧
 (¬ ((mStandAlike ((rx a0.2.2.1 y7).1, (rx a0.2.2.1 y7).2.1, (rx a0.2.2.1 y7).2.2.1, (rx a0.2.2.1 y7).2.2.2.1, (rx a0.2.2.1 y7).2.2.2.2.1, (rx a0.2.2.1 y7).2.2.2.2.2.1, (rx a0.2.2.1 y7).2.2.2.2.2.2.1) ((rx a0.2.2.1 y5).1, (rx a0.2.2.1 y5).2.1, (rx a0.2.2.1 y5).2.2.1, (rx a0.2.2.1 y5).2.2.2.1, (rx a0.2.2.1 y5).2.2.2.2.1, (rx a0.2.2.1 y5).2.2.2.2.2.1, (rx a0.2.2.1 y5).2.2.2.2.2.2.1)) = true) →
 (L6 (IntKind.i64.wrap (y7 + 1))))) ∧
 (¬ (y7 < y5) →
 (L4 (IntKind.i64.wrap (y5 + 1))))
 ) →
 (L6 y7)))
 ) →
 (L6 0))))) ∧
 (¬ (y5 < (a0.2.2.1.length : Int)) →
 (Q true))
 ) →
 (L4 y5)))
 ) →
 (L4 0))))))))

def s_spec_StoredOk (a0 : Sto) (Q : (Bool → Prop)) : Prop :=
 pUriOk a0.1 ∧
 ((mUriOk a0.1) = true →
 pResponseOk (a0.2.2.1, a0.2.2.2.1, a0.2.2.2.2.1) ∧
 ((mResponseOk (a0.2.2.1, a0.2.2.2.1, a0.2.2.2.2.1)) = true →
 pIn a0.2.2.2.2.2.1 0 2000000000 ∧
 ((mIn a0.2.2.2.2.2.1 0 2000000000) = true →
 pIn a0.2.2.2.2.2.2 a0.2.2.2.2.2.1 2000000000 ∧
 ((mIn a0.2.2.2.2.2.2 a0.2.2.2.2.2.1 2000000000) = true →
 (Q (decide ((a0.2.1.length : Int) ≤ 12)))) ∧
 (¬ ((mIn a0.2.2.2.2.2.2 a0.2.2.2.2.2.1 2000000000) = true) →
 (Q false))) ∧
 (¬ ((mIn a0.2.2.2.2.2.1 0 2000000000) = true) →
 (Q false))) ∧
 (¬ ((mResponseOk (a0.2.2.1, a0.2.2.2.1, a0.2.2.2.2.1)) = true) →
 (Q false))) ∧
 (¬ ((mUriOk a0.1) = true) →
 (Q false))

def s_spec_Trim (a0 : S) (Q : (S → Prop)) : Prop :=
 (∀ L0 : (S → Prop),
 ((
 (∀ y1 : S,
 ((
 (0 < (y1.size : Int) →
 (0 : Int) ≤ 0 ∧
 0 < (y1.size : Int) ∧
 pBlank (bt y1 0) ∧
 ((mBlank (bt y1 0)) = true →
 (0 : Int) ≤ 1 ∧
 1 ≤ (y1.size : Int) ∧
 (L0 (y1.extract ((1 : Int).toNat) y1.size))) ∧
 (¬ ((mBlank (bt y1 0)) = true) →
 (∀ L2 : (S → Prop),
 ((
 (∀ y3 : S,
 ((
 (0 < (y3.size : Int) →
 0 ≤ (IntKind.i64.wrap ((y3.size : Int) - 1)) ∧
 (IntKind.i64.wrap ((y3.size : Int) - 1)) < (y3.size : Int) ∧
 pBlank (bt y3 (IntKind.i64.wrap ((y3.size : Int) - 1))) ∧
 ((mBlank (bt y3 (IntKind.i64.wrap ((y3.size : Int) - 1)))) = true →
 0 ≤ (IntKind.i64.wrap ((y3.size : Int) - 1)) ∧
 (IntKind.i64.wrap ((y3.size : Int) - 1)) ≤ (y3.size : Int) ∧
 (L2 (y3.extract 0 (IntKind.i64.wrap ((y3.size : Int) - 1)).toNat))) ∧
 (¬ ((mBlank (bt y3 (IntKind.i64.wrap ((y3.size : Int) - 1)))) = true) →
 (Q y3))) ∧
 (¬ (0 < (y3.size : Int)) →
 (Q y3))
 ) →
 (L2 y3)))
 ) →
 (L2 y1))))) ∧
 (¬ (0 < (y1.size : Int)) →
 (∀ L4 : (S → Prop),
 ((
 (∀ y5 : S,
 ((
 (0 < (y5.size : Int) →
 0 ≤ (IntKind.i64.wrap ((y5.size : Int) - 1)) ∧
 (IntKind.i64.wrap ((y5.size : Int) - 1)) < (y5.size : Int) ∧
 pBlank (bt y5 (IntKind.i64.wrap ((y5.size : Int) - 1))) ∧
 ((mBlank (bt y5 (IntKind.i64.wrap ((y5.size : Int) - 1)))) = true →
 0 ≤ (IntKind.i64.wrap ((y5.size : Int) - 1)) ∧
 (IntKind.i64.wrap ((y5.size : Int) - 1)) ≤ (y5.size : Int) ∧
 (L4 (y5.extract 0 (IntKind.i64.wrap ((y5.size : Int) - 1)).toNat))) ∧
 (¬ ((mBlank (bt y5 (IntKind.i64.wrap ((y5.size : Int) - 1)))) = true) →
 (Q y5))) ∧
 (¬ (0 < (y5.size : Int)) →
 (Q y5))
 ) →
 (L4 y5)))
 ) →
 (L4 y1))))
 ) →
 (L0 y1)))
 ) →
 (L0 a0)))

def s_spec_UriOk (a0 : S) (Q : (Bool → Prop)) : Prop :=
 (∀ L0 : (Int → Prop),
 ((
 (∀ y1 : Int,
 ((
 (y1 < (a0.size : Int) →
 0 ≤ y1 ∧
 y1 < (a0.size : Int) ∧
 ((bt a0 y1) ≤ 32 →
 (Q false)) ∧
 (¬ ((bt a0 y1) ≤ 32) →
 0 ≤ y1 ∧
 y1 < (a0.size : Int) ∧
 (127 ≤ (bt a0 y1) →
 (Q false)) ∧
 (¬ (127 ≤ (bt a0 y1)) →
 (L0 (IntKind.i64.wrap (y1 + 1)))))) ∧
 (¬ (y1 < (a0.size : Int)) →
 pIn (a0.size : Int) 1 20 ∧
 ((mIn (a0.size : Int) 1 20) = true →
 (0 : Int) ≤ 0 ∧
 0 < (a0.size : Int) ∧
 (Q (decide ((bt a0 0) = 47)))) ∧
 (¬ ((mIn (a0.size : Int) 1 20) = true) →
 (Q false)))
 ) →
 (L0 y1)))
 ) →
 (L0 0)))

def s_spec_l12Filled (a0 : Shd) (Q : (Int → Prop)) : Prop :=
 (∀ L0 : ((Int × Int) → Prop),
 ((
 (∀ y1 : (Int × Int),
 ((
 (y1.2 < (a0.2.2.1.length : Int) →
 0 ≤ y1.2 ∧
 y1.2 < (a0.2.2.1.length : Int) ∧
 (L0 ((IntKind.i64.wrap (y1.1 + ((rx a0.2.2.1 y1.2).2.2.2.2.1.size : Int))), (IntKind.i64.wrap (y1.2 + 1))))) ∧
 (¬ (y1.2 < (a0.2.2.1.length : Int)) →
 (Q y1.1))
 ) →
 (L0 y1)))
 ) →
 (L0 (0, 0))))

def s_spec_l12Same (a0 : Sto) (a1 : Sto) (Q : (Bool → Prop)) : Prop :=
 (a0.1 = a1.1 →
 pSameFields a0.2.1 a1.2.1 ∧
 (Q (mSameFields a0.2.1 a1.2.1))) ∧
 (¬ (a0.1 = a1.1) →
 (Q false))

def s_spec_l1In (a0 : Int) (a1 : Int) (a2 : Int) (Q : (Bool → Prop)) : Prop :=
 (a1 ≤ a0 →
 (Q (decide (a0 ≤ a2)))) ∧
 (¬ (a1 ≤ a0) →
 (Q false))

def s_spec_l2Blank (a0 : Int) (Q : (Bool → Prop)) : Prop :=
 (a0 = 32 →
 (Q true)) ∧
 (¬ (a0 = 32) →
 (Q (decide (a0 = 9))))

def s_spec_l2Token (a0 : Int) (Q : (Bool → Prop)) : Prop :=
 (97 ≤ a0 →
 (a0 ≤ 122 →
 (Q true)) ∧
 (¬ (a0 ≤ 122) →
 (65 ≤ a0 →
 (a0 ≤ 90 →
 (Q true)) ∧
 (¬ (a0 ≤ 90) →
 (48 ≤ a0 →
 (a0 ≤ 57 →
 (Q true)) ∧
 (¬ (a0 ≤ 57) →
 (a0 = 33 →
 (Q true)) ∧
 (¬ (a0 = 33) →
 (a0 = 35 →
 (Q true)) ∧
 (¬ (a0 = 35) →
 (a0 = 36 →
 (Q true)) ∧
 (¬ (a0 = 36) →
 (a0 = 37 →
 (Q true)) ∧
 (¬ (a0 = 37) →
 (a0 = 38 →
 (Q true)) ∧
 (¬ (a0 = 38) →
 (a0 = 39 →
 (Q true)) ∧
 (¬ (a0 = 39) →
 (a0 = 42 →
 (Q true)) ∧
 (¬ (a0 = 42) →
 (a0 = 43 →
 (Q true)) ∧
 (¬ (a0 = 43) →
 (a0 = 45 →
 (Q true)) ∧
 (¬ (a0 = 45) →
 (a0 = 46 →
 (Q true)) ∧
 (¬ (a0 = 46) →
 (a0 = 94 →
 (Q true)) ∧
 (¬ (a0 = 94) →
 (a0 = 95 →
 (Q true)) ∧
 (¬ (a0 = 95) →
 (a0 = 96 →
 (Q true)) ∧
 (¬ (a0 = 96) →
 (a0 = 124 →
 (Q true)) ∧
 (¬ (a0 = 124) →
 (Q (decide (a0 = 126))))))))))))))))))) ∧
 (¬ (48 ≤ a0) →
 (a0 = 33 →
 (Q true)) ∧
 (¬ (a0 = 33) →
 (a0 = 35 →
 (Q true)) ∧
 (¬ (a0 = 35) →
 (a0 = 36 →
 (Q true)) ∧
 (¬ (a0 = 36) →
 (a0 = 37 →
 (Q true)) ∧
 (¬ (a0 = 37) →
 (a0 = 38 →
 (Q true)) ∧
 (¬ (a0 = 38) →
 (a0 = 39 →
 (Q true)) ∧
 (¬ (a0 = 39) →
 (a0 = 42 →
 (Q true)) ∧
 (¬ (a0 = 42) →
 (a0 = 43 →
 (Q true)) ∧
 (¬ (a0 = 43) →
 (a0 = 45 →
 (Q true)) ∧
 (¬ (a0 = 45) →
 (a0 = 46 →
 (Q true)) ∧
 (¬ (a0 = 46) →
 (a0 = 94 →
 (Q true)) ∧
 (¬ (a0 = 94) →
 (a0 = 95 →
 (Q true)) ∧
 (¬ (a0 = 95) →
 (a0 = 96 →
 (Q true)) ∧
 (¬ (a0 = 96) →
 (a0 = 124 →
 (Q true)) ∧
 (¬ (a0 = 124) →
 (Q (decide (a0 = 126)))))))))))))))))))) ∧
 (¬ (65 ≤ a0) →
 (48 ≤ a0 →
 (a0 ≤ 57 →
 (Q true)) ∧
 (¬ (a0 ≤ 57) →
 (a0 = 33 →
 (Q true)) ∧
 (¬ (a0 = 33) →
 (a0 = 35 →
 (Q true)) ∧
 (¬ (a0 = 35) →
 (a0 = 36 →
 (Q true)) ∧
 (¬ (a0 = 36) →
 (a0 = 37 →
 (Q true)) ∧
 (¬ (a0 = 37) →
 (a0 = 38 →
 (Q true)) ∧
 (¬ (a0 = 38) →
 (a0 = 39 →
 (Q true)) ∧
 (¬ (a0 = 39) →
 (a0 = 42 →
 (Q true)) ∧
 (¬ (a0 = 42) →
 (a0 = 43 →
 (Q true)) ∧
 (¬ (a0 = 43) →
 (a0 = 45 →
 (Q true)) ∧
 (¬ (a0 = 45) →
 (a0 = 46 →
 (Q true)) ∧
 (¬ (a0 = 46) →
 (a0 = 94 →
 (Q true)) ∧
 (¬ (a0 = 94) →
 (a0 = 95 →
 (Q true)) ∧
 (¬ (a0 = 95) →
 (a0 = 96 →
 (Q true)) ∧
 (¬ (a0 = 96) →
 (a0 = 124 →
 (Q true)) ∧
 (¬ (a0 = 124) →
 (Q (decide (a0 = 126))))))))))))))))))) ∧
 (¬ (48 ≤ a0) →
 (a0 = 33 →
 (Q true)) ∧
 (¬ (a0 = 33) →
 (a0 = 35 →
 (Q true)) ∧
 (¬ (a0 = 35) →
 (a0 = 36 →
 (Q true)) ∧
 (¬ (a0 = 36) →
 (a0 = 37 →
 (Q true)) ∧
 (¬ (a0 = 37) →
 (a0 = 38 →
 (Q true)) ∧
 (¬ (a0 = 38) →
 (a0 = 39 →
 (Q true)) ∧
 (¬ (a0 = 39) →
 (a0 = 42 →
 (Q true)) ∧
 (¬ (a0 = 42) →
 (a0 = 43 →
 (Q true)) ∧
 (¬ (a0 = 43) →
 (a0 = 45 →
 (Q true)) ∧
 (¬ (a0 = 45) →
 (a0 = 46 →
 (Q true)) ∧
 (¬ (a0 = 46) →
 (a0 = 94 →
 (Q true)) ∧
 (¬ (a0 = 94) →
 (a0 = 95 →
 (Q true)) ∧
 (¬ (a0 = 95) →
 (a0 = 96 →
 (Q true)) ∧
 (¬ (a0 = 96) →
 (a0 = 124 →
 (Q true)) ∧
 (¬ (a0 = 124) →
 (Q (decide (a0 = 126))))))))))))))))))))) ∧
 (¬ (97 ≤ a0) →
 (65 ≤ a0 →
 (a0 ≤ 90 →
 (Q true)) ∧
 (¬ (a0 ≤ 90) →
 (48 ≤ a0 →
 (a0 ≤ 57 →
 (Q true)) ∧
 (¬ (a0 ≤ 57) →
 (a0 = 33 →
 (Q true)) ∧
 (¬ (a0 = 33) →
 (a0 = 35 →
 (Q true)) ∧
 (¬ (a0 = 35) →
 (a0 = 36 →
 (Q true)) ∧
 (¬ (a0 = 36) →
 (a0 = 37 →
 (Q true)) ∧
 (¬ (a0 = 37) →
 (a0 = 38 →
 (Q true)) ∧
 (¬ (a0 = 38) →
 (a0 = 39 →
 (Q true)) ∧
 (¬ (a0 = 39) →
 (a0 = 42 →
 (Q true)) ∧
 (¬ (a0 = 42) →
 (a0 = 43 →
 (Q true)) ∧
 (¬ (a0 = 43) →
 (a0 = 45 →
 (Q true)) ∧
 (¬ (a0 = 45) →
 (a0 = 46 →
 (Q true)) ∧
 (¬ (a0 = 46) →
 (a0 = 94 →
 (Q true)) ∧
 (¬ (a0 = 94) →
 (a0 = 95 →
 (Q true)) ∧
 (¬ (a0 = 95) →
 (a0 = 96 →
 (Q true)) ∧
 (¬ (a0 = 96) →
 (a0 = 124 →
 (Q true)) ∧
 (¬ (a0 = 124) →
 (Q (decide (a0 = 126))))))))))))))))))) ∧
 (¬ (48 ≤ a0) →
 (a0 = 33 →
 (Q true)) ∧
 (¬ (a0 = 33) →
 (a0 = 35 →
 (Q true)) ∧
 (¬ (a0 = 35) →
 (a0 = 36 →
 (Q true)) ∧
 (¬ (a0 = 36) →
 (a0 = 37 →
 (Q true)) ∧
 (¬ (a0 = 37) →
 (a0 = 38 →
 (Q true)) ∧
 (¬ (a0 = 38) →
 (a0 = 39 →
 (Q true)) ∧
 (¬ (a0 = 39) →
 (a0 = 42 →
 (Q true)) ∧
 (¬ (a0 = 42) →
 (a0 = 43 →
 (Q true)) ∧
 (¬ (a0 = 43) →
 (a0 = 45 →
 (Q true)) ∧
 (¬ (a0 = 45) →
 (a0 = 46 →
 (Q true)) ∧
 (¬ (a0 = 46) →
 (a0 = 94 →
 (Q true)) ∧
 (¬ (a0 = 94) →
 (a0 = 95 →
 (Q true)) ∧
 (¬ (a0 = 95) →
 (a0 = 96 →
 (Q true)) ∧
 (¬ (a0 = 96) →
 (a0 = 124 →
 (Q true)) ∧
 (¬ (a0 = 124) →
 (Q (decide (a0 = 126)))))))))))))))))))) ∧
 (¬ (65 ≤ a0) →
 (48 ≤ a0 →
 (a0 ≤ 57 →
 (Q true)) ∧
 (¬ (a0 ≤ 57) →
 (a0 = 33 →
 (Q true)) ∧
 (¬ (a0 = 33) →
 (a0 = 35 →
 (Q true)) ∧
 (¬ (a0 = 35) →
 (a0 = 36 →
 (Q true)) ∧
 (¬ (a0 = 36) →
 (a0 = 37 →
 (Q true)) ∧
 (¬ (a0 = 37) →
 (a0 = 38 →
 (Q true)) ∧
 (¬ (a0 = 38) →
 (a0 = 39 →
 (Q true)) ∧
 (¬ (a0 = 39) →
 (a0 = 42 →
 (Q true)) ∧
 (¬ (a0 = 42) →
 (a0 = 43 →
 (Q true)) ∧
 (¬ (a0 = 43) →
 (a0 = 45 →
 (Q true)) ∧
 (¬ (a0 = 45) →
 (a0 = 46 →
 (Q true)) ∧
 (¬ (a0 = 46) →
 (a0 = 94 →
 (Q true)) ∧
 (¬ (a0 = 94) →
 (a0 = 95 →
 (Q true)) ∧
 (¬ (a0 = 95) →
 (a0 = 96 →
 (Q true)) ∧
 (¬ (a0 = 96) →
 (a0 = 124 →
 (Q true)) ∧
 (¬ (a0 = 124) →
 (Q (decide (a0 = 126))))))))))))))))))) ∧
 (¬ (48 ≤ a0) →
 (a0 = 33 →
 (Q true)) ∧
 (¬ (a0 = 33) →
 (a0 = 35 →
 (Q true)) ∧
 (¬ (a0 = 35) →
 (a0 = 36 →
 (Q true)) ∧
 (¬ (a0 = 36) →
 (a0 = 37 →
 (Q true)) ∧
 (¬ (a0 = 37) →
 (a0 = 38 →
 (Q true)) ∧
 (¬ (a0 = 38) →
 (a0 = 39 →
 (Q true)) ∧
 (¬ (a0 = 39) →
 (a0 = 42 →
 (Q true)) ∧
 (¬ (a0 = 42) →
 (a0 = 43 →
 (Q true)) ∧
 (¬ (a0 = 43) →
 (a0 = 45 →
 (Q true)) ∧
 (¬ (a0 = 45) →
 (a0 = 46 →
 (Q true)) ∧
 (¬ (a0 = 46) →
 (a0 = 94 →
 (Q true)) ∧
 (¬ (a0 = 94) →
 (a0 = 95 →
 (Q true)) ∧
 (¬ (a0 = 95) →
 (a0 = 96 →
 (Q true)) ∧
 (¬ (a0 = 96) →
 (a0 = 124 →
 (Q true)) ∧
 (¬ (a0 = 124) →
 (Q (decide (a0 = 126))))))))))))))))))))

def s_spec_l3FieldOk (a0 : Fld) (Q : (Bool → Prop)) : Prop :=
 pIsTokenText a0.1 ∧
 ((mIsTokenText a0.1) = true →
 pLower a0.1 ∧
 (a0.1 = (mLower a0.1) →
 ((a0.1.size : Int) ≤ 24 →
 pIsValueText a0.2 ∧
 ((mIsValueText a0.2) = true →
 (Q (decide ((a0.2.size : Int) ≤ 60)))) ∧
 (¬ ((mIsValueText a0.2) = true) →
 (Q false))) ∧
 (¬ ((a0.1.size : Int) ≤ 24) →
 (Q false))) ∧
 (¬ (a0.1 = (mLower a0.1)) →
 (Q false))) ∧
 (¬ ((mIsTokenText a0.1) = true) →
 (Q false))

def s_spec_l6Plain (a0 : (List Fld)) (Q : (Bool → Prop)) : Prop :=
 pFieldGet a0 (lit [116, 114, 97, 110, 115, 102, 101, 114, 45, 101, 110, 99, 111, 100, 105, 110, 103]) ∧
 pFieldGet a0 (lit [99, 111, 110, 116, 101, 110, 116, 45, 108, 101, 110, 103, 116, 104]) ∧
 (¬ ((mFieldGet a0 (lit [116, 114, 97, 110, 115, 102, 101, 114, 45, 101, 110, 99, 111, 100, 105, 110, 103])).2 = true) →
 (¬ ((mFieldGet a0 (lit [99, 111, 110, 116, 101, 110, 116, 45, 108, 101, 110, 103, 116, 104])).2 = true) →
 ((a0.length : Int) < 12 →
 pFieldsOk a0 ∧
 (Q (mFieldsOk a0))) ∧
 (¬ ((a0.length : Int) < 12) →
 (Q false))) ∧
 (¬ (¬ ((mFieldGet a0 (lit [99, 111, 110, 116, 101, 110, 116, 45, 108, 101, 110, 103, 116, 104])).2 = true)) →
 (Q false))) ∧
 (¬ (¬ ((mFieldGet a0 (lit [116, 114, 97, 110, 115, 102, 101, 114, 45, 101, 110, 99, 111, 100, 105, 110, 103])).2 = true)) →
 (Q false))

end Go.Ev
end

section
/- Laws of the plain library: what the functions come to is what they compute. First part: small ones. -/
set_option linter.unusedVariables false
namespace Go.Ev

theorem spec_l1In_ok (a0 a1 a2 : Int) : s_spec_l1In a0 a1 a2 (fun r => r = mIn a0 a1 a2) := by
  unfold s_spec_l1In mIn; grind
theorem impl_in_ok (a0 a1 a2 : Int) : s_impl_in a0 a1 a2 (fun r => r = mIn a0 a1 a2) := by
  unfold s_impl_in mIn; grind
theorem spec_l2Blank_ok (a0 : Int) : s_spec_l2Blank a0 (fun r => r = mBlank a0) := by
  unfold s_spec_l2Blank mBlank; grind
theorem impl_bodiless_ok (a0 : Int) : s_impl_bodiless a0 (fun r => r = mBodiless a0) := by
  unfold s_impl_bodiless mBodiless; grind
theorem impl_isLetterOrDigit_ok (a0 : Int) : s_impl_isLetterOrDigit a0 (fun r => r = mIsLetterOrDigit a0) := by
  unfold s_impl_isLetterOrDigit mIsLetterOrDigit
  (repeat' first | apply And.intro | intro _) <;> grind
theorem spec_l2Token_ok (a0 : Int) : s_spec_l2Token a0 (fun r => r = mToken a0) := by
  unfold s_spec_l2Token mToken mIsLetterOrDigit tokenSigns
  simp only [List.any_cons, List.any_nil]
  (repeat' first | apply And.intro | intro _) <;> simp only [*, decide_true, decide_false, Bool.and_true, Bool.true_or, Bool.or_true, Bool.false_or, Bool.or_false, Bool.and_false, Bool.false_and, Bool.true_and]
theorem impl_shardSizes_ok (a0 a1 : Int) : s_impl_shardSizes a0 a1 (fun r => r = mShardSizes a0 a1) := by
  unfold s_impl_shardSizes mShardSizes pIn; grind
theorem impl_fieldOk_ok (a0 : Fld) (h : pFieldOk a0) : s_impl_fieldOk a0 (fun r => r = mFieldOk a0) := by
  unfold s_impl_fieldOk mFieldOk; unfold pFieldOk at h; simp only [pIsTokenText, pLower, pIsValueText]; grind
theorem spec_l3FieldOk_ok (a0 : Fld) (h : pFieldOk a0) : s_spec_l3FieldOk a0 (fun r => r = mFieldOk a0) := by
  unfold s_spec_l3FieldOk mFieldOk; unfold pFieldOk at h; simp only [pIsTokenText, pLower, pIsValueText]; grind
theorem impl_FieldsOk_1_ok (a0 : Fld) (h : pFieldsOk_1 a0) : s_impl_FieldsOk_1 a0 (fun r => r = mFieldsOk_1 a0) := by
  unfold s_impl_FieldsOk_1 mFieldsOk_1; unfold pFieldsOk_1 at h; grind
theorem impl_hasField_ok (a0 : List Fld) (a1 : S) (h : pHasField a0 a1) : s_impl_hasField a0 a1 (fun r => r = mHasField a0 a1) := ⟨h, rfl⟩
theorem impl_bodyFields_ok (a0 : List Fld) (h : pBodyFields a0) : s_impl_bodyFields a0 (fun r => r = mBodyFields a0) := by
  unfold s_impl_bodyFields mBodyFields nameCL nameTE; unfold pBodyFields at h; unfold pHasField; grind
theorem impl_ownFields_ok (a0 : List Fld) (h : pOwnFields a0) : s_impl_ownFields a0 (fun r => r = mOwnFields a0) := by
  unfold s_impl_ownFields mOwnFields; unfold pOwnFields at h; unfold pFieldsOk pBodyFields; grind
theorem spec_l6Plain_ok (a0 : List Fld) (h : pOwnFields a0) : s_spec_l6Plain a0 (fun r => r = mOwnFields a0) := by
  unfold s_spec_l6Plain mOwnFields mBodyFields mHasField nameCL nameTE; unfold pOwnFields at h; unfold pFieldsOk pFieldGet; grind
theorem impl_ResponseOk_ok (a0 : Rsp) (h : pResponseOk a0) : s_impl_ResponseOk a0 (fun r => r = mResponseOk a0) := by
  unfold s_impl_ResponseOk mResponseOk; unfold pResponseOk at h; unfold pIn pOwnFields pBodiless; grind
theorem spec_ResponseOk_ok (a0 : Rsp) (h : pResponseOk a0) : s_spec_ResponseOk a0 (fun r => r = mResponseOk a0) := by
  unfold s_spec_ResponseOk mResponseOk mBodiless; unfold pResponseOk at h; unfold pIn pOwnFields
  (repeat' first | apply And.intro | intro _) <;> grind
theorem impl_Trim_ok (a0 : S) (h : pTrim a0) : s_impl_Trim a0 (fun r => r = mTrim a0) := ⟨⟨h, rfl⟩, rfl⟩
end Go.Ev
end

section
/- Laws of the plain library, second part: searches. -/
set_option linter.unusedVariables false
namespace Go.Ev

def scanS {α : Type} [Dft α] (xs : List α) (P C : α → Prop) (Qh : Int → Prop) (Qe : Prop) : Prop :=
  ∀ L : Int → Prop, (∀ y : Int, ((y < (xs.length : Int) → 0 ≤ y ∧ y < (xs.length : Int) ∧ P (rx xs y) ∧ ((C (rx xs y) → Qh y) ∧ (¬ C (rx xs y) → L (IntKind.i64.wrap (y + 1))))) ∧
    (¬ y < (xs.length : Int) → Qe)) → L y) → L 0
theorem scanS_ok {α : Type} [Dft α] {xs : List α} {P C : α → Prop} {Qh : Int → Prop} {Qe : Prop} (hlen : xs.length ≤ maxLen) (hP : ∀ x ∈ xs, P x)
    (hh : ∀ (i : Nat) (h : i < xs.length), C xs[i] → (∀ (j : Nat) (hj : j < i), ¬ C (xs[j]'(by omega))) → Qh (i : Int)) (he : (∀ x ∈ xs, ¬ C x) → Qe) : scanS xs P C Qh Qe := by
  intro L hL
  simp only [maxLen] at hlen
  refine loopN hL xs.length (by omega) (fun i => ∀ (j : Nat) (hj : j < i) (h : j < xs.length), ¬ C xs[j]) (fun i hi hI hn => ?_) (fun j hj => by omega)
  refine ⟨fun hlt => ?_, fun hge => ?_⟩
  · have hlt : i < xs.length := by omega
    rw [rx_get xs hlt]
    refine ⟨by omega, by omega, hP _ (List.getElem_mem hlt), fun hc => hh i hlt hc fun j hj => hI j hj (by omega), fun hc => hn hlt fun j hj h => ?_⟩
    by_cases e : j = i
    · subst e; exact hc
    · exact hI j (by omega) h
  · refine he fun x hx => ?_
    obtain ⟨j, hj, rfl⟩ := List.mem_iff_getElem.1 hx
    exact hI j (by omega) hj
theorem md_len {α : Type} [Cz α] {xs : List α} (h : md xs) : xs.length ≤ maxLen := by
  have := cz_len xs
  unfold md at h
  simp only [maxLen]; omega
theorem md_len' {α : Type} [Cz α] {xs : List α} (h : md xs) : xs.length ≤ 1048576 := by
  have := cz_len xs
  unfold md at h
  omega

theorem idxS_ok {α : Type} [Dft α] {xs : List α} {P : α → Prop} {F : α → Bool} (hlen : xs.length ≤ maxLen) (hP : ∀ x ∈ xs, P x) :
    scanS xs P (fun x => F x = true) (fun i => i = idxI F xs) (-1 = idxI F xs) :=
  scanS_ok hlen hP (fun i h hc hb => (idxI_at h hc fun j hj => by have := hb j hj; simpa using this).symm)
    (fun h => (idxI_none fun j hj => by have := h _ (List.getElem_mem hj); simpa using this).symm)
theorem idxI_nonneg {α : Type} {F : α → Bool} {xs : List α} : decide (0 ≤ idxI F xs) = xs.any F := by
  have h := idxI_neg (p := F) (xs := xs)
  cases hx : xs.any F with
  | true =>
    rw [hx] at h
    have : ¬ idxI F xs < 0 := by rw [h]; simp
    exact decide_eq_true (by omega)
  | false =>
    have := h.2 hx
    exact decide_eq_false (by omega)
theorem sm_of_md {x y : S} (h : cz (x, y) ≤ 1048576) : sm x ∧ sm y := by
  simp only [cz_pair, cz_str] at h
  unfold sm; omega

theorem IndexFunc_FieldsOk_1_ok (a0 : List Fld) (a1 : Unit) (h : pIndexFunc_FieldsOk_1 a0 a1) : s_IndexFunc_FieldsOk_1 a0 a1 (fun r => r = mIndexFunc_FieldsOk_1 a0 a1) :=
  idxS_ok (P := pFieldsOk_1) (md_len h) fun x hx => sm_of_md (md_mem h hx)
theorem ContainsFunc_FieldsOk_1_ok (a0 : List Fld) (a1 : Unit) (h : pContainsFunc_FieldsOk_1 a0 a1) : s_ContainsFunc_FieldsOk_1 a0 a1 (fun r => r = mContainsFunc_FieldsOk_1 a0 a1) :=
  ⟨h, idxI_nonneg⟩
theorem impl_FieldsOk_ok (a0 : List Fld) (h : pFieldsOk a0) : s_impl_FieldsOk a0 (fun r => r = mFieldsOk a0) := by
  have e : (a0.any mFieldsOk_1) = !(a0.all mFieldOk) := by
    unfold mFieldsOk_1
    rw [List.all_eq_not_any_not, Bool.not_not]
  unfold s_impl_FieldsOk mFieldsOk mContainsFunc_FieldsOk_1
  rw [e]
  unfold pContainsFunc_FieldsOk_1
  unfold pFieldsOk at h
  grind
theorem spec_FieldsOk_ok (a0 : List Fld) (h : pFieldsOk a0) : s_spec_FieldsOk a0 (fun r => r = mFieldsOk a0) := by
  refine scanS_ok (P := pFieldOk) (C := fun x => ¬ mFieldOk x = true) (Qh := fun _ => false = mFieldsOk a0) (md_len h) (fun x hx => sm_of_md (md_mem h hx)) (fun i hi hc _ => ?_) (fun hx => ?_)
  · unfold mFieldsOk
    rw [all_false hi (by simpa using hc)]; rfl
  · unfold mFieldsOk
    rw [List.all_eq_true.2 fun x hx' => by have := hx x hx'; simpa using this]; rfl
theorem IndexFunc_ShardOk_1_ok (a0 : List Slt) (a1 : Slt) (h : pIndexFunc_ShardOk_1 a0 a1) : s_IndexFunc_ShardOk_1 a0 a1 (fun r => r = mIndexFunc_ShardOk_1 a0 a1) :=
  idxS_ok (P := fun y => pShardOk_1 y a1) (F := fun y => mShardOk_1 y a1) h.1 fun _ _ => h.2
theorem ContainsFunc_ShardOk_1_ok (a0 : List Slt) (a1 : Slt) (h : pContainsFunc_ShardOk_1 a0 a1) : s_ContainsFunc_ShardOk_1 a0 a1 (fun r => r = mContainsFunc_ShardOk_1 a0 a1) := ⟨h, idxI_nonneg⟩

theorem spec_SameFields_ok (a0 a1 : List Fld) (h : pSameFields a0 a1) : s_spec_SameFields a0 a1 (fun r => r = mSameFields a0 a1) := by
  unfold pSameFields at h
  simp only [maxLen] at h
  unfold s_spec_SameFields mSameFields
  refine ⟨fun hne => (decide_eq_false fun e => hne (by rw [e])).symm, fun heq => ?_⟩
  have hl : a0.length = a1.length := by omega
  intro L hL
  refine loopN hL a0.length (by omega) (fun i => a0.take i = a1.take i) (fun i hi hI hn => ?_) rfl
  refine ⟨fun hlt => ?_, fun hge => ?_⟩
  · have h0 : i < a0.length := by omega
    have h1 : i < a1.length := by omega
    rw [rx_get a0 h0, rx_get a1 h1]
    refine ⟨by omega, by omega, by omega, by omega, fun hc => (decide_eq_false fun e => hc (by subst e; rfl)).symm, fun hc => hn h0 ?_⟩
    rw [take_succ_app h0, take_succ_app h1, hI, Classical.not_not.1 hc]
  · refine (decide_eq_true ?_).symm
    have e0 : a0.take i = a0 := List.take_of_length_le (by omega)
    have e1 : a1.take i = a1 := List.take_of_length_le (by omega)
    rw [← e0, hI, e1]
theorem slices_Equal_Field_ok (a0 a1 : List Fld) (h : pEqual_Field a0 a1) : s_slices_Equal_Field a0 a1 (fun r => r = mEqual_Field a0 a1) := spec_SameFields_ok a0 a1 h
theorem impl_SameFields_ok (a0 a1 : List Fld) (h : pSameFields a0 a1) : s_impl_SameFields a0 a1 (fun r => r = mSameFields a0 a1) := ⟨h, rfl⟩
theorem spec_l12Same_ok (a0 a1 : Sto) (h : pStandAlike a0 a1) : s_spec_l12Same a0 a1 (fun r => r = mStandAlike a0 a1) := by
  unfold s_spec_l12Same mStandAlike
  unfold pStandAlike at h
  unfold pSameFields mSameFields
  grind
theorem impl_standAlike_ok (a0 a1 : Sto) (h : pStandAlike a0 a1) : s_impl_standAlike a0 a1 (fun r => r = mStandAlike a0 a1) := spec_l12Same_ok a0 a1 h
theorem impl_ShardOk_1_ok (a0 a1 : Slt) (h : pShardOk_1 a0 a1) : s_impl_ShardOk_1 a0 a1 (fun r => r = mShardOk_1 a0 a1) := ⟨h, rfl⟩

theorem ints_get (s : S) {i : Nat} (h : i < s.size) : (ints s)[i]'(by unfold ints; rw [List.length_map, bs_len]; exact h) = bt s (i : Int) := by
  rw [bt_nat s i h]
  unfold ints
  rw [List.getElem_map]
theorem ints_len (s : S) : (ints s).length = s.size := by unfold ints; rw [List.length_map, bs_len]
theorem ints_all {s : S} {p : Int → Bool} : (ints s).all p = true ↔ ∀ i : Nat, i < s.size → p (bt s (i : Int)) = true := by
  rw [List.all_eq_true]
  constructor
  · intro h i hi
    rw [← ints_get s hi]
    exact h _ (List.getElem_mem _)
  · intro h x hx
    obtain ⟨j, hj, rfl⟩ := List.mem_iff_getElem.1 hx
    have hj' : j < s.size := by rw [ints_len] at hj; exact hj
    rw [ints_get s hj']
    exact h j hj'
theorem ints_all_false {s : S} {p : Int → Bool} {i : Nat} (h : i < s.size) (hp : ¬ p (bt s (i : Int)) = true) : (ints s).all p = false := by
  cases hx : (ints s).all p with
  | false => rfl
  | true => exact absurd (ints_all.1 hx i h) hp
theorem scanB {s : S} {p : Int → Bool} {B : Int → (Int → Prop) → Prop} (hlen : sm s)
    (hit : ∀ i : Nat, i < s.size → ∀ L : Int → Prop, (p (bt s (i : Int)) = true → L (IntKind.i64.wrap ((i : Int) + 1))) → (¬ p (bt s (i : Int)) = true → (ints s).all p = false) → B (i : Int) L)
    (he : (ints s).all p = true → ∀ L, B (s.size : Int) L) : ∀ L : Int → Prop, (∀ y, B y L → L y) → L 0 := by
  intro L hL
  unfold sm at hlen
  refine loopN hL s.size (by omega) (fun i => ∀ j : Nat, j < i → j < s.size → p (bt s (j : Int)) = true) (fun i hi hI hn => ?_) (fun j hj => by omega)
  by_cases hlt : i < s.size
  · refine hit i hlt L (fun hp => hn hlt fun j hj hj2 => ?_) fun hp => ints_all_false hlt hp
    by_cases e : j = i
    · subst e; exact hp
    · exact hI j (by omega) hj2
  · have : i = s.size := by omega
    subst this
    exact he (ints_all.2 fun j hj => hI j hj hj) L
theorem spec_UriOk_ok (a0 : S) (h : pUriOk a0) : s_spec_UriOk a0 (fun r => r = mUriOk a0) := by
  refine scanB (p := fun b => decide (33 ≤ b) && decide (b ≤ 126)) h (fun i hi L hL hf => ?_) fun ha L => ?_
  · unfold mUriOk
    grind
  · unfold mUriOk pIn
    simp only [ha]
    refine ⟨fun h => by omega, fun _ => ⟨trivial, fun h1 => ⟨by omega, ?_, ?_⟩, fun h1 => ?_⟩⟩
    · unfold mIn at h1; grind
    · rw [h1]; rfl
    · rw [Bool.not_eq_true] at h1; rw [h1]; rfl
theorem impl_UriOk_ok (a0 : S) (h : pUriOk a0) : s_impl_UriOk a0 (fun r => r = mUriOk a0) := by
  refine scanB (p := fun b => decide (33 ≤ b) && decide (b ≤ 126)) h (fun i hi L hL hf => ?_) fun ha L => ?_
  · unfold mUriOk
    grind
  · unfold mUriOk pIn
    simp only [ha]
    refine ⟨fun h => by omega, fun _ => ⟨trivial, fun h1 => ⟨by omega, ?_, ?_⟩, fun h1 => ?_⟩⟩
    · unfold mIn at h1; grind
    · rw [h1]; rfl
    · rw [Bool.not_eq_true] at h1; rw [h1]; rfl
theorem spec_IsTokenText_ok (a0 : S) (h : pIsTokenText a0) : s_spec_IsTokenText a0 (fun r => r = mIsTokenText a0) := by
  refine scanB (p := mToken) h (fun i hi L hL hf => ?_) fun ha L => ?_
  · unfold mIsTokenText pToken
    grind
  · unfold mIsTokenText
    simp only [ha]
    grind
theorem sign_iff : ∀ n : Fin 256, (mToken (n.val : Int) = true) ↔ (mIsLetterOrDigit (n.val : Int) = true ∨ ¬ mIndexByte (lit [33, 35, 36, 37, 38, 39, 42, 43, 45, 46, 94, 95, 124, 126, 96]) (n.val : Int) < 0) := by decide +kernel
theorem impl_IsTokenText_ok (a0 : S) (h : pIsTokenText a0) : s_impl_IsTokenText a0 (fun r => r = mIsTokenText a0) := by
  refine scanB (p := mToken) h (fun i hi L hL hf => ?_) fun ha L => ?_
  · have hb := bt_range a0 (i : Int)
    have hs := sign_iff ⟨(bt a0 (i : Int)).toNat, by omega⟩
    simp only [Int.toNat_of_nonneg hb.1] at hs
    unfold mIsTokenText pIsLetterOrDigit pIndexByte
    generalize mIndexByte _ (bt a0 (i : Int)) = k at hs ⊢
    grind
  · unfold mIsTokenText
    simp only [ha]
    refine ⟨fun h => by omega, fun _ => ?_⟩
    rw [Bool.true_and]
    exact decide_eq_decide.2 lit_ne
theorem spec_IsValueText_ok (a0 : S) (h : pIsValueText a0) : s_spec_IsValueText a0 (fun r => r = mIsValueText a0) := by
  refine scanB (p := fun b => decide (b = 9) || (decide (32 ≤ b) && decide (b ≠ 127))) h (fun i hi L hL hf => ?_) fun ha L => ?_
  · unfold mIsValueText
    grind
  · unfold mIsValueText
    simp only [ha]
    exact ⟨fun h => by omega, fun _ => ⟨h, rfl⟩⟩
theorem impl_IsValueText_ok (a0 : S) (h : pIsValueText a0) : s_impl_IsValueText a0 (fun r => r = mIsValueText a0) := by
  refine scanB (p := fun b => decide (b = 9) || (decide (32 ≤ b) && decide (b ≠ 127))) h (fun i hi L hL hf => ?_) fun ha L => ?_
  · unfold mIsValueText
    grind
  · unfold mIsValueText
    simp only [ha]
    exact ⟨fun h => by omega, fun _ => ⟨h, rfl⟩⟩
end Go.Ev
end

section
/- A law's end: from the contract of the law's function to its calls. -/
set_option linter.unusedVariables false
namespace Go.Ev
open Go.RowKit Go.WideShapes
def boolCt (f : FuncId) (ps : List PT) (pre : pts ps → Prop) : Ct := { f, ps, rs := [(false, [.bool])], shared := false, pre, F := fun _ => (true : Bool) }
theorem bool_end {P : Program} {f : FuncId} {ps : List PT} {pre : pts ps → Prop} {W : World} {vals : Array Value} {x : pts ps} (h : CtAt P (boolCt f ps pre) W) (hargs : argsR (now W) W ps x vals.toList) (hpre : pre x) :
    Calls P f vals W fun e w' => e = .returned (.bool true) ∧ Below W.heap.size W w' := by
  obtain ⟨_, hc⟩ := h vals x (now W) (fun b hb => hb) hargs hpre
  refine hc.mono fun e w' ⟨vs, v, col, he, hb, hv, _, hr⟩ => ?_
  simp only [boolCt, resR] at hr
  obtain ⟨u, vs', cs, rfl, ho, hs, rfl⟩ := hr
  simp only [outR, repL] at ho
  obtain ⟨u2, cs', rfl, hb2, rfl⟩ := ho
  have hs := hs.resolve_left fun h => by simp [anyRes] at h
  simp only [slotV, Bool.false_eq_true, if_false] at hs
  have e1 : u2 = u := by simpa using hs
  subst e1
  have hu : u2 = .bool true := hb2
  subst hu
  refine ⟨?_, hb⟩
  rw [he]
  rcases hv with hv | ⟨hv, _⟩
  · have : v = .bool true := by simpa using hv.symm
    rw [this]
  · simp at hv
theorem args_nil {S : Nat → Prop} {W : World} : argsR S W [] () [] := rfl
theorem args_cons {S : Nat → Prop} {W : World} {p : PT} {ps : List PT} {x : p.den} {xs : pts ps} {v : Value} {vs : List Value} (h1 : argR S W p x v) (h2 : argsR S W ps xs vs) : argsR S W (p :: ps) (pmk x xs) (v :: vs) := by
  simp only [argsR]
  exact ⟨v, vs, rfl, by rw [phd_pmk]; exact h1, by rw [ptl_pmk]; exact h2⟩
theorem arg_agg {S : Nat → Prop} {W : World} {ts : List L} {x : dens ts} {cs : Array Value} (h : repLs (roRow W S) ts [] 0 0 x cs.toList) : argR S W (.v true .ro ts) x (.agg cs) := ⟨cs.toList, h, by simp [slotV]⟩
theorem arg_one {S : Nat → Prop} {W : World} {ts : List L} {x : dens ts} {v : Value} (h : repLs (roRow W S) ts [] 0 0 x [v]) : argR S W (.v false .ro ts) x v := ⟨[v], h, by simp [slotV]⟩
theorem by_like {A B : Prop} (hA : A) (h : A = B) : B := h ▸ hA
end Go.Ev
end

section
/- Laws of the plain library: worlds. -/
set_option linter.unusedVariables false
namespace Go.Ev
theorem szF_md {α : Type} [Cz α] {x : α} {k : Int} (h : ¬ szF x k < 0) (h0 : 0 ≤ k) (h1 : k ≤ 1048576) : md x := by
  unfold szF leftI at h
  unfold md
  split at h
  · omega
  · omega
end Go.Ev
end

section
/- Laws of the plain library: numerals. -/
set_option linter.unusedVariables false
namespace Go.Ev
def decLeft (n : Int) : List UInt8 := if n = 0 then [] else Lib.decDigits n.natAbs
theorem td10 (n : Int) : (0 ≤ n ∧ n.tdiv 10 = n / 10 ∧ n.tmod 10 = n % 10) ∨ (n < 0 ∧ n.tdiv 10 = -((-n) / 10) ∧ n.tmod 10 = -((-n) % 10)) := by
  rcases Int.le_total 0 n with h | h
  · exact Or.inl ⟨h, Int.tdiv_eq_ediv_of_nonneg h, Int.tmod_eq_emod_of_nonneg h⟩
  · by_cases h0 : n = 0
    · subst h0; exact Or.inl ⟨by omega, rfl, rfl⟩
    · refine Or.inr ⟨by omega, ?_, ?_⟩
      · rw [← Int.tdiv_eq_ediv_of_nonneg (by omega), Int.neg_tdiv, Int.neg_neg]
      · rw [← Int.tmod_eq_emod_of_nonneg (by omega), Int.neg_tmod, Int.neg_neg]
theorem decLeft_step {n : Int} (h : n ≠ 0) : decLeft n = decLeft (n.tdiv 10) ++ [UInt8.ofNat (48 + n.natAbs % 10)] := by
  have e : (n.tdiv 10).natAbs = n.natAbs / 10 := by rw [Int.natAbs_tdiv]; rfl
  have ht := td10 n
  unfold decLeft
  rw [if_neg h]
  by_cases h1 : n.natAbs < 10
  · have : n.tdiv 10 = 0 := by omega
    rw [if_pos this, Lib.decDigits_one h1, Nat.mod_eq_of_lt h1]; rfl
  · have : n.tdiv 10 ≠ 0 := by omega
    rw [if_neg this, e, Lib.decDigits, dif_neg h1]
theorem digit_pos {n : Int} (h0 : in64 n) (h : ¬ n.tmod 10 < 0) : strOf [IntKind.u8.wrap (IntKind.i64.wrap (48 + n.tmod 10))] = ob [UInt8.ofNat (48 + n.natAbs % 10)] := by
  obtain ⟨ha, hb⟩ := h0
  have ht := td10 n
  have e2 : IntKind.i64.wrap (48 + n.tmod 10) = ((48 + n.natAbs % 10 : Nat) : Int) := by rw [wrap64 (by omega) (by omega)]; omega
  have hlt : n.natAbs % 10 < 10 := Nat.mod_lt _ (by decide)
  rw [e2]
  generalize n.natAbs % 10 = k at hlt
  have : ∀ k : Fin 10, strOf [IntKind.u8.wrap ((48 + k.val : Nat) : Int)] = ob [UInt8.ofNat (48 + k.val)] := by decide +kernel
  exact this ⟨k, hlt⟩
end Go.Ev
end

section
/- Library functions: from a call's law to a contract of the small machine. -/
set_option linter.unusedVariables false
namespace Go.Ev
open Go.RowKit
def FnIs (P : Program) (f : FuncId) : Prop := ∃ fn, P.funcs[f]? = some fn ∧ (fn.name == "runtime.NumGoroutine") = false ∧ fn.body.isNone = false
theorem args_v {S : Nat → Prop} {W : World} {t : L} {ps : List PT} {x : pts (.v false .ro [t] :: ps)} {vs : List Value} (h : argsR S W (.v false .ro [t] :: ps) x vs) :
    ∃ v vs', vs = v :: vs' ∧ repL (roRow W S) t [(0, 0)] (hd (phd x)) v ∧ argsR S W ps (ptl x) vs' := by
  simp only [argsR, argR] at h
  obtain ⟨v, vs', rfl, ⟨cs, hc, hs⟩, h2⟩ := h
  obtain ⟨u, cs', rfl, hu, hn⟩ := repLs_cons.1 hc
  simp only [repLs] at hn
  subst hn
  simp only [slotV, Bool.false_eq_true, if_false] at hs
  obtain rfl : u = v := by simpa using hs
  exact ⟨u, vs', rfl, hu, h2⟩
theorem args_e {S : Nat → Prop} {W : World} {x : pts []} {vs : List Value} (h : argsR S W [] x vs) : vs = [] := h
theorem arr_of {vals : Array Value} {l : List Value} (h : vals.toList = l) : vals = l.toArray := by rw [← h]
theorem ct_lib {P : Program} {c : Ct} {w : World} (hf : FnIs P c.f)
    (h : ∀ (vals : Array Value) (x : pts c.ps) (S : Nat → Prop), (∀ b, S b → b < w.heap.size) → argsR S w c.ps x vals.toList → c.pre x →
      Calls P c.f vals w fun e w' => ∃ vs v, e = .returned v ∧ Below w.heap.size w w' ∧ retV vs v ∧ ∀ S', resR S' (fun _ => none) w' c.shared c.deep c.rs (c.F x) 0 vs) : CtAt P c w :=
  fun vals x S hS ha hp => ⟨hf, (h vals x S hS ha hp).mono fun e w' ⟨vs, v, he, hb, hv, hr⟩ => ⟨vs, v, fun _ => none, he, hb, hv, fun b hb => absurd rfl hb, hr _⟩⟩
theorem res_str {S : Nat → Prop} {col : Nat → Option Col} {W : World} (x : ByteArray) : resR S col W false false [(false, [.str])] (x : caps [[L.str]]) 0 [.string x] := by
  simp only [resR]
  exact ⟨_, _, [.string x], rfl, by simp only [outR]; exact ⟨_, _, rfl, rfl, rfl⟩, .inr rfl, rfl⟩
theorem res_int {S : Nat → Prop} {col : Nat → Option Col} {W : World} {k : IntKind} (x : Int) : resR S col W false false [(false, [.int k])] (x : caps [[L.int k]]) 0 [.int k x] := by
  simp only [resR]
  exact ⟨_, _, [.int k x], rfl, by simp only [outR]; exact ⟨_, _, rfl, rfl, rfl⟩, .inr rfl, rfl⟩
end Go.Ev
end

section
/- Laws of the plain library: the law of TagOf. -/
set_option linter.unusedVariables false
namespace Go.Ev
end Go.Ev
end

section
/- Laws of the plain library: the laws' functions of the doors. -/
set_option linter.unusedVariables false
namespace Go.Ev
theorem szF_le {α : Type} [Cz α] (x : α) {k : Int} (h0 : 0 ≤ k) : szF x k ≤ k := by
  unfold szF leftI
  split <;> omega
theorem pSz_next {α β : Type} [Cz α] [Cz β] [Wd β] {x : α} {y : β} {k : Int} (h : ¬ szF x k < 0) (h0 : 0 ≤ k) (h1 : k ≤ 1048576) (hy : wd y) : pSz y (szF x k) :=
  ⟨hy, by omega, by have := szF_le x h0; simp only [capI]; omega⟩
theorem md_rsp {r : Rsp} (h : md r) : md r.2.1 := by
  unfold md at h ⊢; simp only [cz_pair] at h; omega
end Go.Ev
end

section
/- Laws of the plain library: more of the laws' functions. -/
set_option linter.unusedVariables false
namespace Go.Ev
end Go.Ev
end

section
/- Laws of the plain library, third part: texts out of texts. -/
set_option linter.unusedVariables false
namespace Go.Ev

theorem bytesOf_ints (s : S) : bytesOf s = ints s := rfl
theorem lowI (b : UInt8) : ((lowB b).toNat : Int) = if 65 ≤ (b.toNat : Int) ∧ (b.toNat : Int) ≤ 90 then (b.toNat : Int) + 32 else (b.toNat : Int) := by
  unfold lowB
  split
  · next h =>
    rw [if_pos (by omega)]
    have : (b + 32).toNat = b.toNat + 32 := by
      rw [UInt8.toNat_add]
      have : (32 : UInt8).toNat = 32 := rfl
      rw [this]
      omega
    omega
  · next h => rw [if_neg (by omega)]
theorem strOf_map (l : List UInt8) : strOf (l.map fun b => (b.toNat : Int)) = ob l := by
  unfold strOf ob
  congr 2
  rw [List.map_map]
  conv => rhs; rw [← List.map_id l]
  apply List.map_congr_left
  intro b _
  simp
theorem spec_Lower_ok (a0 : S) (h : pLower a0) : s_spec_Lower a0 (fun r => r = mLower a0) := by
  unfold pLower sm at h
  refine ⟨by omega, fun L hL => ?_⟩
  rw [bytesOf_ints]
  let f : List UInt8 → List Int := fun l => l.map fun b => (b.toNat : Int)
  have hl := bs_len a0
  refine loopG hL a0.size (fun i y => y.1 = (i : Int) ∧ y.2 = f (((bs a0).take i).map lowB ++ (bs a0).drop i)) (fun i y hi hI hn => ?_) (s0 := (0, ints a0)) ⟨rfl, by simp [f, ints]⟩
  obtain ⟨y1, y2⟩ := y
  simp only at hI ⊢
  obtain ⟨rfl, rfl⟩ := hI
  have hlen : (f (((bs a0).take i).map lowB ++ (bs a0).drop i)).length = a0.size := by
    simp only [f, List.length_map, List.length_append, List.length_take, List.length_drop]
    omega
  refine ⟨fun hlt => ?_, fun hge => ?_⟩
  · rw [hlen] at hlt ⊢
    have hi2 : i < a0.size := by omega
    have hi3 : i < (bs a0).length := by omega
    have hget : rx (f (((bs a0).take i).map lowB ++ (bs a0).drop i)) (i : Int) = ((bs a0)[i].toNat : Int) := by
      rw [rx_get _ (by rw [hlen]; exact hi2)]
      simp only [f, List.getElem_map]
      rw [List.getElem_append_right (by simp; omega)]
      simp only [List.length_map, List.length_take, List.getElem_drop]
      congr 3
      omega
    have hlow := lowI (bs a0)[i]
    have hb := (bs a0)[i].toNat_lt
    have hset : ∀ v : Int, v = ((lowB (bs a0)[i]).toNat : Int) → (f (((bs a0).take i).map lowB ++ (bs a0).drop i)).set ((i : Int).toNat) v = f (((bs a0).take (i + 1)).map lowB ++ (bs a0).drop (i + 1)) := fun v hv => by
      rw [hv, Int.toNat_natCast, take_succ_app hi3]
      simp only [f, List.map_append, List.map_cons, List.map_nil]
      rw [List.set_append_right _ _ (by simp; omega)]
      simp only [List.length_map, List.length_take]
      rw [show i - min i (bs a0).length = 0 by omega, ← List.getElem_cons_drop (h := hi3)]
      simp
    have hkeep : (bs a0)[i].toNat = (lowB (bs a0)[i]).toNat → f (((bs a0).take i).map lowB ++ (bs a0).drop i) = f (((bs a0).take (i + 1)).map lowB ++ (bs a0).drop (i + 1)) := fun hv => by
      rw [take_succ_app hi3]
      simp only [f, List.map_append, List.map_cons, List.map_nil]
      rw [← List.getElem_cons_drop (h := hi3)]
      simp only [List.map_cons, List.append_assoc, List.cons_append, List.nil_append, hv]
    have hw : IntKind.i64.wrap ((i : Int) + 1) = ((i + 1 : Nat) : Int) := wrapS (by omega)
    rw [hget, hw]
    refine ⟨by omega, by omega, fun h1 => ⟨by omega, by omega, fun h2 => ⟨by omega, by omega, by omega, by omega, ?_⟩, fun h2 => ?_⟩, fun h1 => ?_⟩
    · refine hn _ hi2 ⟨rfl, hset _ ?_⟩
      rw [hlow, if_pos ⟨h1, h2⟩, wrap8 (by omega) (by omega)]
    · refine hn _ hi2 ⟨rfl, hkeep ?_⟩
      rw [if_neg (by omega)] at hlow
      omega
    · refine hn _ hi2 ⟨rfl, hkeep ?_⟩
      rw [if_neg (by omega)] at hlow
      omega
  · rw [hlen] at hge
    have e : i = (bs a0).length := by omega
    rw [e, List.drop_length, List.take_length, List.append_nil]
    exact strOf_map _

theorem joinL_snoc (sep : S) : ∀ (vs : List S) (v : S), joinL sep (vs ++ [v]) = if vs = [] then v else joinL sep vs ++ sep ++ v
  | [], v => rfl
  | [x], v => rfl
  | x :: y :: r, v => by
    have ih := joinL_snoc sep (y :: r) v
    simp only [List.cons_append, joinL, reduceCtorEq, if_false] at ih ⊢
    rw [ih]
    apply bs_inj
    simp only [bs_append, List.append_assoc]
theorem joinL_size (sep : S) : ∀ (vs : List S), (joinL sep vs).size ≤ sumN (vs.map fun x => x.size) + vs.length * sep.size
  | [] => by show (lit []).size ≤ _; exact Nat.zero_le _
  | [x] => by simp only [joinL, List.map_cons, List.map_nil, sumN, List.length_singleton]; omega
  | x :: y :: r => by
    have ih := joinL_size sep (y :: r)
    simp only [joinL, size_append, List.map_cons, sumN, List.length_cons] at ih ⊢
    rw [Nat.succ_mul]
    omega
theorem sumN_append : ∀ (a b : List Nat), sumN (a ++ b) = sumN a + sumN b
  | [], b => by simp [sumN]
  | x :: a, b => by simp only [List.cons_append, sumN, sumN_append a b]; omega
theorem valuesOf_bound (n : S) : ∀ (l : List Fld), sumN ((valuesOf l n).map fun x => x.size) + (valuesOf l n).length ≤ cz l
  | [] => by simp [valuesOf, sumN]
  | f :: l => by
    have ih := valuesOf_bound n l
    simp only [valuesOf, cz_list, List.filter_cons, List.length_cons, List.map_cons, sumN, cz_pair, cz_str] at ih ⊢
    split
    · simp only [List.map_cons, sumN, List.length_cons]; omega
    · omega
theorem valuesOf_take (l : List Fld) (n : S) {i : Nat} (h : i < l.length) : valuesOf (l.take (i + 1)) n = if l[i].1 = n then valuesOf (l.take i) n ++ [l[i].2] else valuesOf (l.take i) n := by
  rw [take_succ_app h]
  unfold valuesOf
  rw [List.filter_append, List.map_append]
  by_cases e : l[i].1 = n
  · simp [e]
  · simp [e]
theorem cz_take {α : Type} [Cz α] (l : List α) (i : Nat) : cz (l.take i) ≤ cz l := by
  have h : sumN (l.map cz) = sumN ((l.take i).map cz) + sumN ((l.drop i).map cz) := by
    rw [← sumN_append, ← List.map_append, List.take_append_drop]
  simp only [cz_list, List.length_take]
  omega
theorem sep_size : (lit [44, 32]).size = 2 := rfl
theorem spec_FieldGet_ok (a0 : List Fld) (a1 : S) (h : pFieldGet a0 a1) : s_spec_FieldGet a0 a1 (fun r => r = mFieldGet a0 a1) := by
  intro L hL
  have hlen := md_len' h
  have hb : ∀ i, (joinL (lit [44, 32]) (valuesOf (a0.take i) a1)).size ≤ 3 * 1048576 := fun i => by
    have h1 := joinL_size (lit [44, 32]) (valuesOf (a0.take i) a1)
    have h2 := valuesOf_bound a1 (a0.take i)
    have h3 := cz_take a0 i
    have h4 : cz a0 ≤ 1048576 := h
    rw [sep_size] at h1
    omega
  refine loopG hL a0.length (fun i y => y.2.2 = (i : Int) ∧ y.1 = joinL (lit [44, 32]) (valuesOf (a0.take i) a1) ∧ y.2.1 = decide (valuesOf (a0.take i) a1 ≠ [])) (fun i y hi hI hn => ?_) (s0 := (lit [], false, 0)) ⟨rfl, rfl, rfl⟩
  obtain ⟨y1, y2, y3⟩ := y
  simp only at hI ⊢
  obtain ⟨rfl, rfl, rfl⟩ := hI
  refine ⟨fun hlt => ?_, fun hge => ?_⟩
  · have hi2 : i < a0.length := by omega
    have hv := valuesOf_take a0 a1 hi2
    have hval : cz a0[i] ≤ 1048576 := md_mem h (List.getElem_mem hi2)
    simp only [cz_pair, cz_str] at hval
    have hbi := hb i
    rw [rx_get a0 hi2, wrapS (by omega)]
    refine ⟨by omega, by omega, fun hne => hn _ hi2 ⟨rfl, ?_, ?_⟩, fun heq => ?_⟩
    · rw [hv, if_neg hne]
    · rw [hv, if_neg hne]
    · have heq : a0[i].1 = a1 := Classical.not_not.1 heq
      rw [if_pos heq] at hv
      refine ⟨fun hs => ?_, fun hs => ?_⟩
      · have hs := of_decide_eq_true hs
        refine ⟨by rw [sep_size]; omega, by omega, by omega, by rw [size_append, sep_size]; omega, hn _ hi2 ⟨rfl, ?_, ?_⟩⟩
        · rw [hv, joinL_snoc, if_neg hs]
        · rw [hv]; simp
      · have hs : valuesOf (a0.take i) a1 = [] := by simpa using hs
        refine ⟨by omega, by omega, by omega, hn _ hi2 ⟨rfl, ?_, ?_⟩⟩
        · rw [hv, hs, joinL_snoc, if_pos rfl]
          apply bs_inj; rw [bs_append]; rfl
        · rw [hv]; simp
  · have e : a0.take i = a0 := List.take_of_length_le (by omega)
    rw [e]
    unfold mFieldGet mJoin
    congr 1
    rw [decide_eq_decide]
    rw [List.length_pos_iff]
theorem pJoin_values (a0 : List Fld) (a1 : S) (h : pFieldGet a0 a1) : pJoin (valuesOf a0 a1) (lit [44, 32]) := by
  have h2 := valuesOf_bound a1 a0
  have h4 : cz a0 ≤ 1048576 := h
  exact ⟨by omega, by omega, by rw [sep_size]; omega⟩
theorem impl_FieldGet_ok (a0 : List Fld) (a1 : S) (h : pFieldGet a0 a1) : s_impl_FieldGet a0 a1 (fun r => r = mFieldGet a0 a1) := by
  intro L hL
  have hlen := md_len' h
  refine loopG hL a0.length (fun i y => y.2 = (i : Int) ∧ y.1 = valuesOf (a0.take i) a1) (fun i y hi hI hn => ?_) (s0 := ([], 0)) ⟨rfl, rfl⟩
  obtain ⟨y1, y2⟩ := y
  simp only at hI ⊢
  obtain ⟨rfl, rfl⟩ := hI
  refine ⟨fun hlt => ?_, fun hge => ?_⟩
  · have hi2 : i < a0.length := by omega
    have hv := valuesOf_take a0 a1 hi2
    have h2 := valuesOf_bound a1 (a0.take i)
    have h3 := cz_take a0 i
    have h4 : cz a0 ≤ 1048576 := h
    rw [rx_get a0 hi2, wrapS (by omega)]
    refine ⟨by omega, by omega, fun he => ⟨by simp only [List.length_singleton]; omega, hn _ hi2 ⟨rfl, by rw [hv, if_pos he]⟩⟩, fun hne => hn _ hi2 ⟨rfl, by rw [hv, if_neg hne]⟩⟩
  · have e : a0.take i = a0 := List.take_of_length_le (by omega)
    rw [e]
    refine ⟨pJoin_values a0 a1 h, ?_⟩
    unfold mFieldGet
    congr 1
    rw [decide_eq_decide]
    omega
end Go.Ev
end

section
/- Laws of the plain library, fourth part: parts of texts. -/
set_option linter.unusedVariables false
namespace Go.Ev

def blk (b : UInt8) : Bool := [(32 : UInt8), 9].contains b
theorem blk_iff (b : UInt8) : blk b = true ↔ mBlank (b.toNat : Int) = true := by
  have h : ∀ n : Fin 256, (blk (UInt8.ofNat n.val) = true) ↔ mBlank (n.val : Int) = true := by decide +kernel
  have := h ⟨b.toNat, b.toNat_lt⟩
  simpa using this
theorem trimS_cons {b : UInt8} (h : blk b = true) (l : List UInt8) : Lib.trimS (b :: l) [32, 9] = Lib.trimS l [32, 9] := by
  have h' : [(32 : UInt8), 9].contains b = true := h
  unfold Lib.trimS Lib.trimLeftS Lib.trimRightS
  rw [List.reverse_cons, List.dropWhile_append]
  split
  · next hd =>
    have hd : l.reverse.dropWhile (fun x => [(32 : UInt8), 9].contains x) = [] := by simpa using hd
    rw [hd]
    have : List.dropWhile (fun x => [(32 : UInt8), 9].contains x) [b] = [] := by
      rw [List.dropWhile_cons, if_pos h']; rfl
    rw [this]
  · rw [List.reverse_append, List.reverse_singleton, List.singleton_append, List.dropWhile_cons, if_pos h']
theorem trimS_snoc {b : UInt8} (h : blk b = true) (l : List UInt8) : Lib.trimS (l ++ [b]) [32, 9] = Lib.trimS l [32, 9] := by
  have h' : [(32 : UInt8), 9].contains b = true := h
  unfold Lib.trimS Lib.trimRightS
  rw [List.reverse_append, List.reverse_singleton, List.singleton_append, List.dropWhile_cons, if_pos h']
theorem trimS_id {l : List UInt8} (h0 : ∀ b, l.head? = some b → blk b = false) (h1 : ∀ b, l.getLast? = some b → blk b = false) : Lib.trimS l [32, 9] = l := by
  have key : ∀ l : List UInt8, (∀ b, l.head? = some b → blk b = false) → l.dropWhile (fun x => [(32 : UInt8), 9].contains x) = l := fun l h => by
    cases l with
    | nil => rfl
    | cons b r =>
      rw [List.dropWhile_cons, if_neg]
      have := h b rfl
      unfold blk at this
      rw [this]; simp
  unfold Lib.trimS Lib.trimLeftS Lib.trimRightS
  rw [key l.reverse (fun b hb => h1 b (by rw [List.head?_reverse] at hb; exact hb)), List.reverse_reverse, key l h0]
theorem spec_Trim_ok (a0 : S) (h : pTrim a0) : s_spec_Trim a0 (fun r => r = mTrim a0) := by
  unfold pTrim sm at h
  -- the second loop
  have back : ∀ y : S, y.size ≤ a0.size → mTrim y = mTrim a0 → (∀ b, (bs y).head? = some b → blk b = false) → ∀ L2 : S → Prop,
      (∀ y3 : S, ((0 < (y3.size : Int) → 0 ≤ IntKind.i64.wrap ((y3.size : Int) - 1) ∧ IntKind.i64.wrap ((y3.size : Int) - 1) < (y3.size : Int) ∧ pBlank (bt y3 (IntKind.i64.wrap ((y3.size : Int) - 1))) ∧
          (mBlank (bt y3 (IntKind.i64.wrap ((y3.size : Int) - 1))) = true → 0 ≤ IntKind.i64.wrap ((y3.size : Int) - 1) ∧ IntKind.i64.wrap ((y3.size : Int) - 1) ≤ (y3.size : Int) ∧ L2 (y3.extract 0 (IntKind.i64.wrap ((y3.size : Int) - 1)).toNat)) ∧
          (¬ mBlank (bt y3 (IntKind.i64.wrap ((y3.size : Int) - 1))) = true → y3 = mTrim a0)) ∧
        (¬ 0 < (y3.size : Int) → y3 = mTrim a0)) → L2 y3) → L2 y := by
    intro y hy hm hh L2 hL
    refine loopI hL (fun y => y.size ≤ a0.size ∧ mTrim y = mTrim a0 ∧ ∀ b, (bs y).head? = some b → blk b = false) (fun y => y.size) (fun y ⟨hy, hm, hh⟩ ih => ?_) y ⟨hy, hm, hh⟩
    refine ⟨fun h0 => ?_, fun h0 => ?_⟩
    · have hpos : 0 < y.size := by omega
      have hw : IntKind.i64.wrap ((y.size : Int) - 1) = ((y.size - 1 : Nat) : Int) := by rw [wrap64 (by omega) (by omega)]; omega
      rw [hw]
      have hlen := bs_len y
      have hb := bt_nat y (y.size - 1) (by omega)
      have hlast : (bs y).getLast? = some ((bs y)[y.size - 1]'(by omega)) := by
        rw [List.getLast?_eq_getElem?]
        simp only [hlen]
        exact List.getElem?_eq_getElem _
      refine ⟨by omega, by omega, trivial, fun hbl => ⟨by omega, by omega, ?_⟩, fun hbl => ?_⟩
      · rw [Int.toNat_natCast]
        have hcut : bs (y.extract 0 (y.size - 1)) = (bs y).take (y.size - 1) := by rw [bs_extract]; simp
        have hspl : bs y = (bs y).take (y.size - 1) ++ [(bs y)[y.size - 1]'(by omega)] := by
          rw [← take_succ_app (by omega), List.take_of_length_le (by omega)]
        refine ih _ ⟨?_, ?_, fun b hb2 => ?_⟩ ?_
        · rw [← bs_len, hcut, List.length_take]; omega
        · rw [← hm]
          unfold mTrim
          rw [hcut]
          conv => rhs; rw [hspl]
          rw [trimS_snoc]
          rw [blk_iff, ← hb]; exact hbl
        · rw [hcut] at hb2
          refine hh b ?_
          rw [hspl]
          cases hx : (bs y).take (y.size - 1) with
          | nil => rw [hx] at hb2; cases hb2
          | cons c r => rw [hx] at hb2; simpa using hb2
        · rw [← bs_len, hcut, List.length_take]; omega
      · rw [← hm]
        unfold mTrim
        rw [trimS_id hh]
        · rfl
        · intro b hb2
          rw [hlast] at hb2
          injection hb2 with hb2
          rw [← hb2]
          cases hx : blk (bs y)[y.size - 1] with
          | false => rfl
          | true =>
            rw [blk_iff, ← hb] at hx
            exact absurd hx hbl
    · rw [← hm]
      have : bs y = [] := List.eq_nil_of_length_eq_zero (by rw [bs_len]; omega)
      apply bs_inj
      unfold mTrim
      rw [this]; rfl
  intro L hL
  refine loopI hL (fun y => y.size ≤ a0.size ∧ mTrim y = mTrim a0) (fun y => y.size) (fun y ⟨hy, hm⟩ ih => ?_) a0 ⟨Nat.le_refl _, rfl⟩
  have hlen := bs_len y
  refine ⟨fun h0 => ?_, fun h0 => ?_⟩
  · have hpos : 0 < y.size := by omega
    have hb := bt_nat y 0 hpos
    have hcons : bs y = (bs y)[0]'(by omega) :: (bs y).drop 1 := by
      conv => lhs; rw [← List.drop_zero (l := bs y)]
      exact (List.getElem_cons_drop (h := by omega)).symm
    refine ⟨by omega, by omega, trivial, fun hbl => ⟨by omega, by omega, ?_⟩, fun hbl L2 hL2 => ?_⟩
    · have hcut : bs (y.extract ((1 : Int).toNat) y.size) = (bs y).drop 1 := by
        rw [bs_extract]
        exact List.take_of_length_le (by rw [List.length_drop, hlen]; omega)
      refine ih _ ⟨?_, ?_⟩ ?_
      · rw [← bs_len, hcut, List.length_drop]; omega
      · rw [← hm]
        unfold mTrim
        rw [hcut]
        conv => rhs; rw [hcons]
        rw [trimS_cons]
        rw [blk_iff, ← hb]; exact hbl
      · rw [← bs_len, hcut, List.length_drop]; omega
    · refine back y hy hm (fun b hb2 => ?_) L2 hL2
      rw [hcons] at hb2
      injection hb2 with hb2
      rw [← hb2]
      cases hx : blk (bs y)[0] with
      | false => rfl
      | true =>
        rw [blk_iff, ← hb] at hx
        exact absurd hx hbl
  · intro L2 hL2
    refine back y hy hm (fun b hb2 => ?_) L2 hL2
    have : bs y = [] := List.eq_nil_of_length_eq_zero (by omega)
    rw [this] at hb2; cases hb2

end Go.Ev
end

section
/- Laws of the plain library: the laws' marks. -/
set_option linter.unusedVariables false
namespace Go.Ev
theorem laws_markText_ok (a0 : Int) (h : pMarkText a0) : s_laws_markText a0 (fun r => r = mMarkText a0) := by
  obtain ⟨ha, hb⟩ := h
  have hlen := Lib.itoa_length_le a0 ha hb
  refine ⟨fun h0 => by unfold mMarkText; rw [if_pos h0], fun h0 => fun L hL => ?_⟩
  refine loopI hL (fun y => in64 y.1 ∧ 0 ≤ y.1 ∧ decLeft y.1 ++ bs y.2 = Lib.decDigits a0.natAbs) (fun y => y.1.natAbs) (fun y hI ih => ?_) (a0, lit []) ⟨⟨ha, hb⟩, by simp only; omega, by unfold decLeft; rw [if_neg (by simp only; omega), bs_lit]; simp⟩
  obtain ⟨n, s⟩ := y
  obtain ⟨h64, hp, he⟩ := hI
  simp only at h64 hp he ⊢
  have hl : (Lib.decDigits a0.natAbs).length ≤ 21 := by
    unfold Lib.itoa at hlen
    rw [if_neg (by omega), show a0.toNat = a0.natAbs by omega] at hlen
    exact hlen
  have hs : s.size ≤ 21 := by rw [← bs_len]; rw [← he, List.length_append] at hl; omega
  have ht := td10 n
  have d64 : in64 (n.tdiv 10) := by obtain ⟨a, b⟩ := h64; constructor <;> omega
  have wd : IntKind.i64.wrap (n.tdiv 10) = n.tdiv 10 := wrap64 (by have := d64.1; omega) (by have := d64.2; omega)
  have h1 : (ob [UInt8.ofNat (48 + n.natAbs % 10)]).size = 1 := ob_size _
  have h2 : (lit [109]).size = 1 := rfl
  rw [wd]
  refine ⟨fun hne => ?_, fun hle => ?_⟩
  · rw [digit_pos h64 (by omega), h1]
    refine ⟨by decide, by omega, by decide, ih _ ⟨d64, by simp only; omega, ?_⟩ (by simp only; omega)⟩
    simp only
    rw [bs_append, bs_ob, ← List.append_assoc, ← decLeft_step (by omega), he]
  · have h00 : n = 0 := by omega
    subst h00
    rw [h2]
    refine ⟨by omega, ?_⟩
    unfold mMarkText mDec mItoa
    rw [if_neg h0]
    congr 1
    apply bs_inj
    rw [bs_ob]
    unfold Lib.itoa
    rw [if_neg (by omega), show a0.toNat = a0.natAbs by omega, ← he]
    unfold decLeft
    simp
theorem take_set_succ {α : Type} {xs ys : List α} {i : Nat} {f : α} (hx : i < xs.length) (hy : i < ys.length) (h : xs.take i = ys.take i) (hf : ys[i] = f) : (xs.set i f).take (i + 1) = ys.take (i + 1) := by
  rw [List.take_add_one, List.take_add_one, List.getElem?_set_self hx, List.getElem?_eq_getElem hy, hf, ← h]
  congr 1
  apply List.ext_getElem?
  intro j
  rw [List.getElem?_take, List.getElem?_take]
  split
  · rw [List.getElem?_set_ne (by omega)]
  · rfl
theorem laws_markFieldS_ok (a0 : List Fld) (a1 : Int) (h : pMarkFieldS a0 a1) : s_laws_markFieldS a0 a1 (fun r y => r = mMarkFieldS a0 a1 ∧ y = wMarkFieldS a0 a1) := by
  obtain ⟨k0, k1, hn⟩ := h
  intro L hL
  refine loopI hL (fun y => ∃ i : Nat, i ≤ a0.length ∧ y.2.1 = (i : Int) ∧ y.1 = a1 + 2 * i ∧ y.2.2.length = a0.length ∧ y.2.2.take i = (markFld a0 a1).take i) (fun y => a0.length + 1 - y.2.1.toNat) (fun y hI ih => ?_) (a1, 0, a0) ⟨0, by omega, rfl, by simp, rfl, by simp⟩
  obtain ⟨k, i', xs⟩ := y
  obtain ⟨i, hi, hy, hk, hl, ht⟩ := hI
  simp only at hy hk hl ht ⊢
  subst hy hk
  have hm := markFld_length a0 a1
  have w1 : IntKind.i64.wrap (a1 + 2 * (i : Int) + 1) = a1 + 2 * i + 1 := wrap64 (by omega) (by omega)
  have w2 : IntKind.i64.wrap (a1 + 2 * (i : Int) + 1 + 1) = a1 + 2 * ((i + 1 : Nat) : Int) := by rw [wrap64 (by omega) (by omega)]; omega
  have w3 : IntKind.i64.wrap ((i : Int) + 1) = ((i + 1 : Nat) : Int) := wrapS (by omega)
  rw [w1, w2, w3]
  refine ⟨fun hlt => ?_, fun hge => ?_⟩
  · have hlt' : i < xs.length := by omega
    refine ⟨⟨by omega, by omega⟩, by omega, hlt, ⟨by omega, by omega⟩, by omega, by rw [List.length_set]; exact hlt, ?_⟩
    refine ih _ ⟨i + 1, by omega, rfl, rfl, by simp [hl], ?_⟩ (by simp only [Int.toNat_natCast]; omega)
    simp only [Int.toNat_natCast]
    have e1 : (rx (xs.set i (mMarkText (a1 + 2 * (i : Int)), (rx xs (i : Int)).2)) (i : Int)).1 = mMarkText (a1 + 2 * (i : Int)) := by
      rw [rx_get _ (by rw [List.length_set]; exact hlt'), List.getElem_set_self]
    rw [e1, List.set_set]
    exact take_set_succ hlt' (by omega) ht (markFld_get a0 a1 i (by omega))
  · have hie : i = a0.length := by omega
    subst hie
    refine ⟨rfl, ?_⟩
    unfold wMarkFieldS
    rw [List.take_of_length_le (by omega), List.take_of_length_le (by omega)] at ht
    rw [ht]
theorem laws_heldFieldS_ok (a0 : List Fld) (a1 : Int) (h : pHeldFieldS a0 a1) : s_laws_heldFieldS a0 a1 (fun r => r = mHeldFieldS a0 a1) := by
  obtain ⟨k0, k1, hn⟩ := h
  intro L hL
  refine loopI hL (fun y => ∃ i : Nat, i ≤ a0.length ∧ y.2 = (i : Int) ∧ y.1 = a1 + 2 * i ∧ heldFld (a0.drop i) y.1 = heldFld a0 a1) (fun y => a0.length + 1 - y.2.toNat) (fun y hI ih => ?_) (a1, 0) ⟨0, by omega, rfl, by simp, by simp⟩
  obtain ⟨k, i'⟩ := y
  obtain ⟨i, hi, hy, hk, he⟩ := hI
  simp only at hy hk he ⊢
  subst hy hk
  have w1 : IntKind.i64.wrap (a1 + 2 * (i : Int) + 1) = a1 + 2 * i + 1 := wrap64 (by omega) (by omega)
  have w2 : IntKind.i64.wrap (a1 + 2 * (i : Int) + 1 + 1) = a1 + 2 * ((i + 1 : Nat) : Int) := by rw [wrap64 (by omega) (by omega)]; omega
  have w3 : IntKind.i64.wrap ((i : Int) + 1) = ((i + 1 : Nat) : Int) := wrapS (by omega)
  rw [w1, w2, w3]
  refine ⟨fun hlt => ?_, fun hge => ?_⟩
  · have hlt' : i < a0.length := by omega
    rw [List.drop_eq_getElem_cons hlt'] at he
    rw [rx_get _ hlt']
    rw [heldFld] at he
    refine ⟨by omega, hlt, ⟨by omega, by omega⟩, fun hne => ?_, fun hne => ⟨by omega, hlt, ⟨by omega, by omega⟩, fun hne2 => ?_, fun hne2 => ?_⟩⟩
    · rw [if_pos hne] at he; exact he
    · rw [if_neg hne, if_pos hne2] at he; exact he
    · rw [if_neg hne, if_neg hne2] at he
      refine ih _ ⟨i + 1, by omega, rfl, rfl, ?_⟩ (by simp only [Int.toNat_natCast]; omega)
      simp only
      rw [← he]
      congr 1
      omega
  · have hie : i = a0.length := by omega
    subst hie
    rw [List.drop_of_length_le (Nat.le_refl _)] at he
    exact he
theorem laws_markResponse_ok (a0 : Rsp) (a1 : Int) (h : pMarkResponse a0 a1) : s_laws_markResponse a0 a1 (fun r y => r = mMarkResponse a0 a1 ∧ y = wMarkResponse a0 a1) := ⟨h, rfl, rfl⟩

end Go.Ev
end

section
/- Library functions: strings.Join, strings.Trim, strings.Cut, strings.IndexByte: contracts of the small machine. -/
set_option linter.unusedVariables false
namespace Go.Ev
open Go.RowKit
def indexByteCt (f : FuncId) : Ct := { f, ps := [.v false .ro [.str], .v false .ro [.int .u8]], rs := [(false, [.int .i64])], shared := false, pre := fun (x : S × Int) => pIndexByte x.1 x.2, F := fun (x : S × Int) => mIndexByte x.1 x.2 }
theorem indexByte_ct {P : Program} {f : FuncId} {w : World} (hf : FnIs P f)
    (hI : ∀ (s : ByteArray) (c : Int), Calls P f #[.string s, .int .u8 c] w fun e w' => e = .returned (.int .i64 (Lib.indexByte s.data.toList c.toNat.toUInt8)) ∧ w' = w) : CtAt P (indexByteCt f) w := by
  refine ct_lib hf fun vals x S hS ha hp => ?_
  obtain ⟨v, vs', hv, h1, h2⟩ := args_v ha
  obtain ⟨u, us', rfl, h3, h4⟩ := args_v h2
  have h4 := args_e h4
  subst h4
  have h1 : v = .string x.1 := h1
  have h3 : u = .int .u8 x.2 := h3
  subst h1; subst h3
  rw [arr_of hv]
  refine (hI x.1 x.2).mono fun e w' ⟨he, hw⟩ => ⟨[.int .i64 (mIndexByte x.1 x.2)], _, he, ?_, Or.inl rfl, fun S' => res_int _⟩
  rw [hw]; exact Below.refl _ _
def trimLCt (f : FuncId) : Ct := { f, ps := [.v false .ro [.str], .v false .ro [.str]], rs := [(false, [.str])], shared := false, pre := fun (x : S × S) => pTrimL x.1 x.2, F := fun (x : S × S) => mTrimL x.1 x.2 }
theorem trimL_ct {P : Program} {f : FuncId} {w : World} (hf : FnIs P f)
    (hI : ∀ (s cs : ByteArray), s.size ≤ 9223372036854775807 → cs.size < 4294967281 → (∀ (j : Nat) b, cs.data.toList[j]? = some b → b.toNat < 128) →
      Calls P f #[.string s, .string cs] w fun e w' => e = .returned (.string ⟨(Lib.trimS s.data.toList cs.data.toList).toArray⟩) ∧ Below w.heap.size w w') : CtAt P (trimLCt f) w := by
  refine ct_lib hf fun vals x S hS ha hp => ?_
  obtain ⟨v, vs', hv, h1, h2⟩ := args_v ha
  obtain ⟨u, us', rfl, h3, h4⟩ := args_v h2
  have h4 := args_e h4
  subst h4
  have h1 : v = .string x.1 := h1
  have h3 : u = .string x.2 := h3
  subst h1; subst h3
  rw [arr_of hv]
  have hp : x.1.size ≤ 1073741824 ∧ x.2 = lit [32, 9] := hp
  obtain ⟨hp1, hp2⟩ := hp
  have hall : ∀ b ∈ (lit [32, 9]).data.toList, b.toNat < 128 := by decide
  refine (hI x.1 x.2 (by omega) (by rw [hp2]; decide) (fun j b hb => by rw [hp2] at hb; exact hall b (List.mem_of_getElem? hb))).mono fun e w' ⟨he, hb⟩ => ⟨[.string (mTrimL x.1 x.2)], _, he, hb, Or.inl rfl, fun S' => res_str _⟩
theorem joinL_tail (sep : S) : ∀ (x : S) (r : List S), bs (joinL sep (x :: r)) = bs x ++ Lib.joinTail (bs sep) (r.map bs)
  | x, [] => by simp [joinL, Lib.joinTail]
  | x, y :: r => by
    rw [joinL, bs_append, bs_append, joinL_tail sep y r]
    simp only [Lib.joinTail, List.map_cons, List.flatten_cons, List.append_assoc]
theorem mJoin_lib (xs : List S) (sep : S) : mJoin xs sep = ob (Lib.join (xs.map bs) (bs sep)) := by
  cases xs with
  | nil => rfl
  | cons x r =>
    refine bs_inj ?_
    rw [bs_ob, mJoin, joinL_tail, List.map_cons, Lib.join_cons]
theorem lens_sum : ∀ xs : List S, Lib.lens (xs.map bs) = sumN (xs.map fun x => x.size)
  | [] => rfl
  | x :: r => by
    have := lens_sum r
    unfold Lib.lens at this ⊢
    simp only [List.map_cons, List.sum_cons, sumN, bs_len] at this ⊢
    omega
theorem join_core {P : Program} {f : FuncId} {w : World} {S : Nat → Prop} (hS : ∀ b, S b → b < w.heap.size)
    (h0 : ∀ (a : Option Addr) (c : Nat) (sep : ByteArray), Calls P f #[.slice a 0 c, .string sep] w fun e w' => e = .returned (.string ⟨#[]⟩) ∧ w' = w)
    (hI : ∀ (bk o c : Nat) (xs : List ByteArray) (sep : ByteArray), (∀ (j : Nat) x, xs[j]? = some x → w.cell? ⟨bk, o + j, none⟩ = some (.string x)) → bk < w.heap.size → xs.length ≤ 140737488355328 → xs.length ≤ c → (Lib.join (xs.map (·.data.toList)) sep.data.toList).length ≤ 140737488355328 →
      Calls P f #[.slice (some ⟨bk, o, none⟩) xs.length c, .string sep] w fun e w' => e = .returned (.string ⟨(Lib.join (xs.map (·.data.toList)) sep.data.toList).toArray⟩) ∧ Below w.heap.size w w')
    (xs : List ByteArray) (sep : ByteArray) (hp : pJoin xs sep) (A : Option Addr) (cap : Nat) (cs : List Value) (hcap : xs.length ≤ cap) (hcl : cs.length = xs.length * 1)
    (hA : 0 < xs.length * 1 → ∃ ad, A = some ad ∧ S ad.block ∧ ∀ (j : Nat) (u : Value), cs[j]? = some u → w.cell? (ad.add j) = some u)
    (hx : ∀ (i : Nat) (y : ByteArray), xs[i]? = some y → (cs.drop (i * 1)).take 1 = [.string y]) :
    Calls P f #[.slice A xs.length cap, .string sep] w fun e w' => e = .returned (.string (mJoin xs sep)) ∧ Below w.heap.size w w' := by
  obtain ⟨hp1, hp2, hp3⟩ := hp
  by_cases hn : xs.length = 0
  · have : xs = [] := List.length_eq_zero_iff.1 hn
    subst this
    refine (h0 A cap sep).mono fun e w' ⟨he, hw⟩ => ⟨he, ?_⟩
    rw [hw]; exact Below.refl _ _
  · obtain ⟨ad, rfl, hb, hcells⟩ := hA (by omega)
    have hget : ∀ (j : Nat) (y : ByteArray), xs[j]? = some y → w.cell? (ad.add j) = some (.string y) := fun j y hj => by
      refine hcells j _ ?_
      have := congrArg (·[0]?) (hx j y hj)
      simpa [List.getElem?_take, List.getElem?_drop] using this
    have hx0 : xs[0]? = some (xs[0]'(by omega)) := List.getElem?_eq_getElem (by omega)
    have hsp := World.cell?_spot (hget 0 _ hx0)
    have hadd : ∀ j, ad.add j = ⟨ad.block, ad.off + j, none⟩ := fun j => by
      have : ad.spot = none := by
        rw [addr_zero] at hsp; exact hsp
      obtain ⟨b, o, s⟩ := ad
      simp only at this
      subst this
      unfold Addr.add
      split
      · rename_i h; subst h; rfl
      · rfl
    have had : ad = ⟨ad.block, ad.off, none⟩ := by have := hadd 0; rw [addr_zero] at this; exact this
    have hjl : (Lib.join (xs.map (·.data.toList)) sep.data.toList).length ≤ 140737488355328 := by
      cases xs with
      | nil => simp at hn
      | cons y r =>
        have h6 := Lib.join_length (bs y) (r.map bs) (bs sep)
        have h7 := lens_sum (y :: r)
        have h8 : (bs sep).length ≤ 16 := by rw [bs_len]; exact hp3
        have h9 : (bs sep).length * (r.map bs).length ≤ 16 * r.length := by rw [List.length_map]; exact Nat.mul_le_mul_right _ h8
        have h10 : (Lib.join ((y :: r).map bs) (bs sep)).length ≤ 140737488355328 := by
          rw [List.map_cons, h6]
          rw [List.map_cons] at h7
          simp only [List.length_cons] at hp1
          omega
        exact h10
    rw [had]
    refine (hI ad.block ad.off cap xs sep (fun j y hj => by rw [← hadd j]; exact hget j y hj) (hS _ hb) (by omega) hcap hjl).mono fun e w' ⟨he, hbel⟩ => ⟨?_, hbel⟩
    rw [he, mJoin_lib]; rfl
def joinCt (e : TypeId) (f : FuncId) : Ct := { f, ps := [.v false .ro [.list e [.str]], .v false .ro [.str]], rs := [(false, [.str])], shared := false, pre := fun (x : List S × S) => pJoin x.1 x.2, F := fun (x : List S × S) => mJoin x.1 x.2 }
theorem join_row {w : World} {S : Nat → Prop} {e : TypeId} {p : Col} {xs : List ByteArray} {v : Value} (h : repL (roRow w S) (.list e [.str]) p (xs : List (dens [L.str])) v) :
    ∃ (A : Option Addr) (cap : Nat) (cs : List Value), v = .slice A xs.length cap ∧ xs.length ≤ cap ∧ cs.length = xs.length * 1 ∧ (0 < xs.length * 1 → ∃ ad, A = some ad ∧ S ad.block ∧ ∀ (j : Nat) (u : Value), cs[j]? = some u → w.cell? (ad.add j) = some u) ∧
      ∀ (i : Nat) (y : ByteArray), xs[i]? = some y → (cs.drop (i * 1)).take 1 = [.string y] := by
  simp only [repL] at h
  obtain ⟨cs, ⟨A, cap, hv, hcap, hA⟩, hcl, hx⟩ := h
  refine ⟨A, cap, cs, hv, hcap, hcl, hA, fun i y hi => ?_⟩
  have h5 := hx i y hi
  simp only [repLs, repL] at h5
  obtain ⟨v, hv, rfl⟩ := h5
  exact hv
theorem join_ct {P : Program} {e : TypeId} {f : FuncId} {w : World} (hf : FnIs P f)
    (h0 : ∀ (a : Option Addr) (c : Nat) (sep : ByteArray), Calls P f #[.slice a 0 c, .string sep] w fun e w' => e = .returned (.string ⟨#[]⟩) ∧ w' = w)
    (hI : ∀ (bk o c : Nat) (xs : List ByteArray) (sep : ByteArray), (∀ (j : Nat) x, xs[j]? = some x → w.cell? ⟨bk, o + j, none⟩ = some (.string x)) → bk < w.heap.size → xs.length ≤ 140737488355328 → xs.length ≤ c → (Lib.join (xs.map (·.data.toList)) sep.data.toList).length ≤ 140737488355328 →
      Calls P f #[.slice (some ⟨bk, o, none⟩) xs.length c, .string sep] w fun e w' => e = .returned (.string ⟨(Lib.join (xs.map (·.data.toList)) sep.data.toList).toArray⟩) ∧ Below w.heap.size w w') : CtAt P (joinCt e f) w := by
  refine ct_lib hf fun vals x S hS ha hp => ?_
  obtain ⟨v, vs', hv, h1, h2⟩ := args_v ha
  obtain ⟨u, us', rfl, h3, h4⟩ := args_v h2
  have h4 := args_e h4
  subst h4
  have h3 : u = .string x.2 := h3
  subst h3
  obtain ⟨A, cap, cs, rfl, hcap, hcl, hA, hx⟩ := join_row (xs := x.1) h1
  rw [arr_of hv]
  exact (join_core hS h0 hI x.1 x.2 hp A cap cs hcap hcl hA hx).mono fun e w' ⟨he, hb⟩ => ⟨[.string (mJoin x.1 x.2)], _, he, hb, Or.inl rfl, fun S' => res_str _⟩
end Go.Ev
end

section
/- Library functions: strconv.Atoi, strings.TrimLeft, strings.Split: contracts of the small machine; what their variables hold. -/
set_option linter.unusedVariables false
namespace Go.Ev
open Go.RowKit
end Go.Ev
end

section
/- The plain library: what the functions of dates compute. -/
set_option linter.unusedVariables false
namespace Go.Ev
end Go.Ev
end

section
/- What the functions of dates come to: printed by a program of this session's own (EwShow) out of the small machine. -/
set_option linter.unusedVariables false
namespace Go.Ev

end Go.Ev
end

section
/- Laws of the plain library: the calendar. -/
set_option linter.unusedVariables false
namespace Go.Ev
end Go.Ev
end

section
/- Laws of the plain library: days, texts of dates. -/
set_option linter.unusedVariables false
namespace Go.Ev
end Go.Ev
end

section
/- Laws of the plain library: texts of moments. -/
set_option linter.unusedVariables false
namespace Go.Ev
end Go.Ev
end

section
/- Laws of the plain library: marks of texts in a row, FieldSet, WithAge, VaryNames. -/
set_option linter.unusedVariables false
namespace Go.Ev
end Go.Ev
end

section
/- What functions of caches come to: printed by a program of this session's own (EwShow) out of the small machine. -/
set_option linter.unusedVariables false
namespace Go.Ev

def s_ContainsFunc_CacheOk_1 (a0 : (List Slt)) (a1 : (Cch × Int)) (Q : (Bool → Prop)) : Prop :=
 pIndexFunc_CacheOk_1 a0 a1 ∧
 (Q (decide (0 ≤ (mIndexFunc_CacheOk_1 a0 a1))))

def s_IndexFunc_CacheOk_1 (a0 : (List Slt)) (a1 : (Cch × Int)) (Q : (Int → Prop)) : Prop :=
 (∀ L0 : (Int → Prop),
 ((
 (∀ y1 : Int,
 ((
 (y1 < (a0.length : Int) →
 0 ≤ y1 ∧
 y1 < (a0.length : Int) ∧
 pCacheOk_1 (rx a0 y1) a1.1 a1.2 ∧
 ((mCacheOk_1 (rx a0 y1) a1.1 a1.2) = true →
 (Q y1)) ∧
 (¬ ((mCacheOk_1 (rx a0 y1) a1.1 a1.2) = true) →
 (L0 (IntKind.i64.wrap (y1 + 1))))) ∧
 (¬ (y1 < (a0.length : Int)) →
 (Q (-1)))
 ) →
 (L0 y1)))
 ) →
 (L0 0)))

def s_impl_CacheOk (a0 : Cch) (Q : (Bool → Prop)) : Prop :=
 pIn (a0.1.length : Int) 1 4 ∧
 (¬ ((mIn (a0.1.length : Int) 1 4) = true) →
 (Q false)) ∧
 (¬ (¬ ((mIn (a0.1.length : Int) 1 4) = true)) →
 (∀ L0 : (Int → Prop),
 ((
 (∀ y1 : Int,
 ((
 (y1 < (a0.1.length : Int) →
 0 ≤ y1 ∧
 y1 < (a0.1.length : Int) ∧
 pShardOk (rx a0.1 y1) ∧
 (¬ ((mShardOk (rx a0.1 y1)) = true) →
 (Q false)) ∧
 (¬ (¬ ((mShardOk (rx a0.1 y1)) = true)) →
 pContainsFunc_CacheOk_1 (rx a0.1 y1).2.2.1 (a0, y1) ∧
 ((mContainsFunc_CacheOk_1 (rx a0.1 y1).2.2.1 (a0, y1)) = true →
 (Q false)) ∧
 (¬ ((mContainsFunc_CacheOk_1 (rx a0.1 y1).2.2.1 (a0, y1)) = true) →
 (L0 (IntKind.i64.wrap (y1 + 1)))))) ∧
 (¬ (y1 < (a0.1.length : Int)) →
 (∀ L2 : (Int → Prop),
 ((
 (∀ y3 : Int,
 ((
 (y3 < (a0.2.length : Int) →
 0 ≤ y3 ∧
 y3 < (a0.2.length : Int) ∧
 pUriOk (rx a0.2 y3).1 ∧
 (¬ ((mUriOk (rx a0.2 y3).1) = true) →
 (Q false)) ∧
 (¬ (¬ ((mUriOk (rx a0.2 y3).1) = true)) →
 pIn (rx a0.2 y3).2 1 1000000 ∧
 (¬ ((mIn (rx a0.2 y3).2 1 1000000) = true) →
 (Q false)) ∧
 (¬ (¬ ((mIn (rx a0.2 y3).2 1 1000000) = true)) →
 (0 < y3 →
 0 ≤ (IntKind.i64.wrap (y3 - 1)) ∧
 (IntKind.i64.wrap (y3 - 1)) < (a0.2.length : Int) ∧
 (¬ (strLt (rx a0.2 (IntKind.i64.wrap (y3 - 1))).1 (rx a0.2 y3).1) →
 (Q false)) ∧
 (¬ (¬ (strLt (rx a0.2 (IntKind.i64.wrap (y3 - 1))).1 (rx a0.2 y3).1)) →
 (L2 (IntKind.i64.wrap (y3 + 1))))) ∧
 (¬ (0 < y3) →
 (L2 (IntKind.i64.wrap (y3 + 1))))))) ∧
 (¬ (y3 < (a0.2.length : Int)) →
 (Q true))
 ) →
 (L2 y3)))
 ) →
 (L2 0))))
 ) →
 (L0 y1)))
 ) →
 (L0 0))))

def s_impl_CacheOk_1 (a0 : Slt) (a1 : Cch) (a2 : Int) (Q : (Bool → Prop)) : Prop :=
 pShardOf a1 a0.1 ∧
 (Q (decide ((mShardOf a1 a0.1) ≠ a2)))

def s_impl_Fnv (a0 : S) (Q : (Int → Prop)) : Prop :=
 (∀ L0 : ((Int × Int) → Prop),
 ((
 (∀ y1 : (Int × Int),
 ((
 (y1.2 < (a0.size : Int) →
 0 ≤ y1.2 ∧
 y1.2 < (a0.size : Int) ∧
 (4294967296 : Int) ≠ 0 ∧
 (L0 (((IntKind.i64.wrap ((lxor IntKind.i64 y1.1 (IntKind.i64.wrap (bt a0 y1.2))) * 16777619)).tmod 4294967296), (IntKind.i64.wrap (y1.2 + 1))))) ∧
 (¬ (y1.2 < (a0.size : Int)) →
 (Q y1.1))
 ) →
 (L0 y1)))
 ) →
 (L0 (2166136261, 0))))

def s_impl_ShardOf (a0 : Cch) (a1 : S) (Q : (Int → Prop)) : Prop :=
 ((a0.1.length : Int) = 0 →
 (Q (-1))) ∧
 (¬ ((a0.1.length : Int) = 0) →
 pFnv a1 ∧
 (a0.1.length : Int) ≠ 0 ∧
 (Q ((mFnv a1).tmod (a0.1.length : Int))))

def s_spec_CacheOk (a0 : Cch) (Q : (Bool → Prop)) : Prop :=
 pIn (a0.1.length : Int) 1 4 ∧
 (¬ ((mIn (a0.1.length : Int) 1 4) = true) →
 (Q false)) ∧
 (¬ (¬ ((mIn (a0.1.length : Int) 1 4) = true)) →
 (∀ L0 : (Int → Prop),
 ((
 (∀ y1 : Int,
 ((
 (y1 < (a0.1.length : Int) →
 0 ≤ y1 ∧
 y1 < (a0.1.length : Int) ∧
 pShardOk (rx a0.1 y1) ∧
 (¬ ((mShardOk (rx a0.1 y1)) = true) →
 (Q false)) ∧
 (¬ (¬ ((mShardOk (rx a0.1 y1)) = true)) →
 (∀ L2 : (Int → Prop),
 ((
 (∀ y3 : Int,
 ((
 0 ≤ y1 ∧
 y1 < (a0.1.length : Int) ∧
 (y3 < ((rx a0.1 y1).2.2.1.length : Int) →
 0 ≤ y1 ∧
 y1 < (a0.1.length : Int) ∧
 0 ≤ y3 ∧
 y3 < ((rx a0.1 y1).2.2.1.length : Int) ∧
 pShardOf a0 (rx (rx a0.1 y1).2.2.1 y3).1 ∧
 ((mShardOf a0 (rx (rx a0.1 y1).2.2.1 y3).1) ≠ y1 →
 (Q false)) ∧
 (¬ ((mShardOf a0 (rx (rx a0.1 y1).2.2.1 y3).1) ≠ y1) →
 (L2 (IntKind.i64.wrap (y3 + 1))))) ∧
 (¬ (y3 < ((rx a0.1 y1).2.2.1.length : Int)) →
 (L0 (IntKind.i64.wrap (y1 + 1))))
 ) →
 (L2 y3)))
 ) →
 (L2 0))))) ∧
 (¬ (y1 < (a0.1.length : Int)) →
 (∀ L4 : (Int → Prop),
 ((
 (∀ y5 : Int,
 ((
 (y5 < (a0.2.length : Int) →
 0 ≤ y5 ∧
 y5 < (a0.2.length : Int) ∧
 pUriOk (rx a0.2 y5).1 ∧
 (¬ ((mUriOk (rx a0.2 y5).1) = true) →
 (Q false)) ∧
 (¬ (¬ ((mUriOk (rx a0.2 y5).1) = true)) →
 0 ≤ y5 ∧
 y5 < (a0.2.length : Int) ∧
 pIn (rx a0.2 y5).2 1 1000000 ∧
 (¬ ((mIn (rx a0.2 y5).2 1 1000000) = true) →
 (Q false)) ∧
 (¬ (¬ ((mIn (rx a0.2 y5).2 1 1000000) = true)) →
 (0 < y5 →
 0 ≤ y5 ∧
 y5 < (a0.2.length : Int) ∧
 0 ≤ (IntKind.i64.wrap (y5 - 1)) ∧
 (IntKind.i64.wrap (y5 - 1)) < (a0.2.length : Int) ∧
 ((strLt (rx a0.2 y5).1 (rx a0.2 (IntKind.i64.wrap (y5 - 1))).1 ∨ (rx a0.2 y5).1 = (rx a0.2 (IntKind.i64.wrap (y5 - 1))).1) →
 (Q false)) ∧
 (¬ ((strLt (rx a0.2 y5).1 (rx a0.2 (IntKind.i64.wrap (y5 - 1))).1 ∨ (rx a0.2 y5).1 = (rx a0.2 (IntKind.i64.wrap (y5 - 1))).1)) →
 (L4 (IntKind.i64.wrap (y5 + 1))))) ∧
 (¬ (0 < y5) →
 (L4 (IntKind.i64.wrap (y5 + 1))))))) ∧
 (¬ (y5 < (a0.2.length : Int)) →
 (Q true))
 ) →
 (L4 y5)))
 ) →
 (L4 0))))
 ) →
 (L0 y1)))
 ) →
 (L0 0))))

def s_spec_Fnv (a0 : S) (Q : (Int → Prop)) : Prop :=
 (∀ L0 : ((Int × Int) → Prop),
 ((
 (∀ y1 : (Int × Int),
 ((
 (y1.2 < (a0.size : Int) →
 0 ≤ y1.2 ∧
 y1.2 < (a0.size : Int) ∧
 (4294967296 : Int) ≠ 0 ∧
 (L0 (((IntKind.i64.wrap ((lxor IntKind.i64 y1.1 (IntKind.i64.wrap (bt a0 y1.2))) * 16777619)).tmod 4294967296), (IntKind.i64.wrap (y1.2 + 1))))) ∧
 (¬ (y1.2 < (a0.size : Int)) →
 (Q y1.1))
 ) →
 (L0 y1)))
 ) →
 (L0 (2166136261, 0))))

def s_spec_ShardOf (a0 : Cch) (a1 : S) (Q : (Int → Prop)) : Prop :=
 ((a0.1.length : Int) = 0 →
 (Q (-1))) ∧
 (¬ ((a0.1.length : Int) = 0) →
 pFnv a1 ∧
 (a0.1.length : Int) ≠ 0 ∧
 (Q ((mFnv a1).tmod (a0.1.length : Int))))

end Go.Ev
end

section
/- Laws of the plain library: the origin. -/
set_option linter.unusedVariables false
namespace Go.Ev
theorem bytesLess_not : ∀ x y : List UInt8, Op.bytesLess x y = false ↔ (Op.bytesLess y x = true ∨ x = y)
  | [], [] => by simp [Op.bytesLess]
  | [], b :: y => by simp [Op.bytesLess]
  | a :: x, [] => by simp [Op.bytesLess]
  | a :: x, b :: y => by
    have ih := bytesLess_not x y
    simp only [Op.bytesLess, Bool.or_eq_false_iff, Bool.and_eq_false_iff, Bool.or_eq_true, Bool.and_eq_true, decide_eq_true_eq, decide_eq_false_iff_not, beq_iff_eq, List.cons.injEq, beq_eq_false_iff_ne, ne_eq]
    rcases Nat.lt_trichotomy a.toNat b.toNat with h | h | h
    · have h1 : a < b := h
      have h2 : ¬ b < a := by show ¬ b.toNat < a.toNat; omega
      have h3 : a ≠ b := by rintro rfl; omega
      have h4 : b ≠ a := fun e => h3 e.symm
      simp [h1, h2, h3, h4]
    · have e : a = b := UInt8.toNat_inj.1 h
      subst e
      have h1 : ¬ a < a := by show ¬ a.toNat < a.toNat; omega
      simp [h1, ih]
    · have h1 : ¬ a < b := by show ¬ a.toNat < b.toNat; omega
      have h2 : b < a := h
      have h3 : a ≠ b := by rintro rfl; omega
      simp [h1, h2, h3]
theorem strLt_not (x y : S) : (strLt y x ∨ x = y) ↔ ¬ strLt x y := by
  unfold strLt
  rw [Bool.not_eq_true, bytesLess_not]
  refine or_congr Iff.rfl ⟨fun h => h ▸ rfl, fun h => ?_⟩
  exact bs_inj (by rw [ByteArray.toList_eq, ByteArray.toList_eq] at h; exact h)
end Go.Ev
end

section
/- Laws of the plain library: shards. -/
set_option linter.unusedVariables false
namespace Go.Ev
theorem impl_StoredOk_ok (a0 : Sto) (h : pStoredOk a0) : s_impl_StoredOk a0 (fun r => r = mStoredOk a0) := by
  have h1 : cz a0 ≤ 1048576 := h
  simp only [cz_pair] at h1
  have hs : cz a0.1 = a0.1.size := rfl
  have p1 : pUriOk a0.1 := by unfold pUriOk sm; omega
  have p2 : pResponseOk (a0.2.2.1, a0.2.2.2.1, a0.2.2.2.2.1) := by unfold pResponseOk md; simp only; omega
  unfold s_impl_StoredOk mStoredOk pIn
  grind
theorem spec_StoredOk_ok (a0 : Sto) (h : pStoredOk a0) : s_spec_StoredOk a0 (fun r => r = mStoredOk a0) := by
  have h1 : cz a0 ≤ 1048576 := h
  simp only [cz_pair] at h1
  have hs : cz a0.1 = a0.1.size := rfl
  have p1 : pUriOk a0.1 := by unfold pUriOk sm; omega
  have p2 : pResponseOk (a0.2.2.1, a0.2.2.2.1, a0.2.2.2.2.1) := by unfold pResponseOk md; simp only; omega
  unfold s_spec_StoredOk mStoredOk pIn
  grind
theorem sumN_take {l : List Nat} : ∀ {i : Nat} (h : i < l.length), sumN (l.take (i + 1)) = sumN (l.take i) + l[i] := by
  induction l with
  | nil => intro i h; simp at h
  | cons a l ih =>
    intro i h
    cases i with
    | zero => simp [sumN]
    | succ i =>
      have := ih (i := i) (by simpa using h)
      simp only [List.take_succ_cons, sumN, List.getElem_cons_succ] at this ⊢
      omega
theorem sumN_take_le {l : List Nat} : ∀ {i : Nat}, sumN (l.take i) ≤ sumN l := by
  induction l with
  | nil => intro i; simp
  | cons a l ih =>
    intro i
    cases i with
    | zero => simp [sumN]
    | succ i => have := ih (i := i); simp only [List.take_succ_cons, sumN] at this ⊢; omega
theorem bodies_le {r : List Slt} (h : cz r ≤ 1048576) : sumN (r.map fun x => x.2.2.2.2.1.size) ≤ 1048576 := by
  have key : ∀ r : List Slt, sumN (r.map fun x => x.2.2.2.2.1.size) ≤ sumN (r.map cz) := by
    intro r
    induction r with
    | nil => exact Nat.le_refl _
    | cons x r ih =>
      simp only [List.map_cons, sumN]
      have : x.2.2.2.2.1.size ≤ cz x := by simp only [cz_pair, cz_str]; omega
      omega
  have := key r
  rw [cz_list] at h
  omega
def bodyB (r : List Slt) (Q : Int → Prop) (L : Int × Int → Prop) (y : Int × Int) : Prop :=
  (y.2 < (r.length : Int) → 0 ≤ y.2 ∧ y.2 < (r.length : Int) ∧ (L ((IntKind.i64.wrap (y.1 + ((rx r y.2).2.2.2.2.1.size : Int))), (IntKind.i64.wrap (y.2 + 1))))) ∧ (¬ (y.2 < (r.length : Int)) → (Q y.1))
theorem bodies_loop {r : List Slt} (h : cz r ≤ 1048576) {L : Int × Int → Prop} (hL : ∀ y, bodyB r (fun x => x = mBodies r) L y → L y) : L (0, 0) := by
  have hb := bodies_le h
  have hlen : r.length ≤ 1048576 := Nat.le_trans (cz_len r) h
  refine loopG hL r.length (fun i y => y.2 = (i : Int) ∧ y.1 = ((sumN ((r.map fun x => x.2.2.2.2.1.size).take i) : Nat) : Int)) (fun i y hi hI ih => ?_) ⟨rfl, by simp [sumN]⟩
  obtain ⟨h1, h2⟩ := hI
  have hle := sumN_take_le (l := r.map fun x => x.2.2.2.2.1.size) (i := i)
  unfold bodyB
  rw [h1, h2]
  refine ⟨fun hlt => ?_, fun hge => ?_⟩
  · have hlt : i < r.length := by omega
    have hle2 := sumN_take_le (l := r.map fun x => x.2.2.2.2.1.size) (i := i + 1)
    have hs := sumN_take (l := r.map fun x => x.2.2.2.2.1.size) (i := i) (by simpa using hlt)
    rw [List.getElem_map] at hs
    refine ⟨by omega, by omega, ih _ hlt ⟨?_, ?_⟩⟩
    · exact wrapS (by omega)
    · rw [rx_nat r i hlt, hs, wrap64 (by omega) (by omega)]; omega
  · have : i = r.length := by omega
    subst this
    rw [List.take_of_length_le (by simp)]; rfl
theorem impl_bodies_ok (a0 : List Slt) (h : pBodies a0) : s_impl_bodies a0 (fun r => r = mBodies a0) := fun L hL => bodies_loop h hL
theorem shd_ring {s : Shd} (h : md s) : cz s.2.2.1 ≤ 1048576 := by
  unfold md at h; simp only [cz_pair] at h; omega
theorem spec_l12Filled_ok (a0 : Shd) (h : pFilledS a0) : s_spec_l12Filled a0 (fun r => r = mFilledS a0) := fun L hL => bodies_loop (shd_ring h) hL
theorem alike_comm (a b : Sto) : mStandAlike a b = mStandAlike b a := by
  unfold mStandAlike
  rw [show (decide (a.1 = b.1)) = decide (b.1 = a.1) from decide_eq_decide.2 ⟨Eq.symm, Eq.symm⟩, show (decide (a.2.1 = b.2.1)) = decide (b.2.1 = a.2.1) from decide_eq_decide.2 ⟨Eq.symm, Eq.symm⟩]
theorem slt_md {r : List Slt} (h : cz r ≤ 1048576) {i : Nat} (hi : i < r.length) : md (stoOf (rx r (i : Int))) ∧ (rx r (i : Int)).2.1.length ≤ maxLen := by
  rw [rx_nat r i hi]
  have h1 := cz_mem (List.getElem_mem hi : r[i] ∈ r)
  have h2 := cz_len r[i].2.1
  unfold md stoOf
  simp only [cz_pair] at h1 ⊢
  simp only [maxLen]
  constructor <;> omega
def ringBodyI (r : List Slt) (Q : Bool → Prop) (E : Prop) (L : Int → Prop) (y1 : Int) : Prop :=
  (y1 < (r.length : Int) →
    0 ≤ y1 ∧
    y1 < (r.length : Int) ∧
    pStoredOk (stoOf (rx r y1)) ∧
    (¬ ((mStoredOk (stoOf (rx r y1))) = true) →
      (Q false)) ∧
    (¬ (¬ ((mStoredOk (stoOf (rx r y1))) = true)) →
      0 ≤ y1 ∧
      y1 ≤ (r.length : Int) ∧
      pContainsFunc_ShardOk_1 (r.take y1.toNat) (rx r y1) ∧
      ((mContainsFunc_ShardOk_1 (r.take y1.toNat) (rx r y1)) = true →
        (Q false)) ∧
      (¬ ((mContainsFunc_ShardOk_1 (r.take y1.toNat) (rx r y1)) = true) →
        (L (IntKind.i64.wrap (y1 + 1)))))) ∧
  (¬ (y1 < (r.length : Int)) → E)
def ringAt (r : List Slt) (i : Nat) : Prop := mStoredOk (stoOf (rx r (i : Int))) = true ∧ ∀ j, j < i → mStandAlike (stoOf (rx r (j : Int))) (stoOf (rx r (i : Int))) = false
theorem ring_has {r : List Slt} {i : Nat} (hi : i < r.length) : mContainsFunc_ShardOk_1 (r.take i) (rx r (i : Int)) = true ↔ ∃ j, j < i ∧ mStandAlike (stoOf (rx r (j : Int))) (stoOf (rx r (i : Int))) = true := by
  unfold mContainsFunc_ShardOk_1 mShardOk_1
  rw [List.any_eq_true]
  constructor
  · rintro ⟨y, hy, hs⟩
    obtain ⟨j, hj, rfl⟩ := List.mem_iff_getElem.1 hy
    have hj' : j < i := by simp at hj; omega
    refine ⟨j, hj', ?_⟩
    rw [alike_comm, rx_nat r j (by omega)]
    rw [List.getElem_take] at hs; exact hs
  · rintro ⟨j, hj, hs⟩
    refine ⟨(r.take i)[j]'(by simp; omega), List.getElem_mem _, ?_⟩
    rw [alike_comm, rx_nat r j (by omega)] at hs
    rw [List.getElem_take]; exact hs
theorem ring_impl {r : List Slt} (h : cz r ≤ 1048576) {Q : Bool → Prop} {E : Prop} (hf : ¬ ringFine r → Q false) (hE : ringFine r → E) {L : Int → Prop} (hL : ∀ y, ringBodyI r Q E L y → L y) : L 0 := by
  have hlen : r.length ≤ 1048576 := Nat.le_trans (cz_len r) h
  refine loopN hL r.length (by omega) (fun i => ∀ j, j < i → ringAt r j) (fun i hi hI ih => ?_) (fun j hj => by omega)
  refine ⟨fun hlt => ?_, fun hge => hE fun j hj => hI j (by omega)⟩
  have hlt : i < r.length := by omega
  obtain ⟨p1, p2⟩ := slt_md h hlt
  refine ⟨by omega, by omega, p1, fun c => hf fun ho => c (ho i hlt).1, fun c => ⟨by omega, by omega, ⟨by simp only [List.length_take, maxLen]; omega, p2⟩, fun c2 => hf fun ho => ?_, fun c2 => ?_⟩⟩
  · rw [Int.toNat_natCast] at c2
    obtain ⟨j, hj, hs⟩ := (ring_has hlt).1 c2
    rw [(ho i hlt).2 j hj] at hs
    cases hs
  · rw [Int.toNat_natCast] at c2
    refine ih hlt fun j hj => ?_
    by_cases e : j = i
    · subst e
      exact ⟨Classical.not_not.1 c, fun k hk => by
        rw [← Bool.not_eq_true]
        exact fun hs => c2 ((ring_has hlt).2 ⟨k, hk, hs⟩)⟩
    · exact hI j (by omega)
def ringBodyS2 (r : List Slt) (Q : Bool → Prop) (N : Int → Prop) (y1 : Int) (L : Int → Prop) (y3 : Int) : Prop :=
  (y3 < y1 →
    0 ≤ y3 ∧
    y3 < (r.length : Int) ∧
    0 ≤ y1 ∧
    y1 < (r.length : Int) ∧
    pStandAlike (stoOf (rx r y3)) (stoOf (rx r y1)) ∧
    ((mStandAlike (stoOf (rx r y3)) (stoOf (rx r y1))) = true →
      (Q false)) ∧
    (¬ ((mStandAlike (stoOf (rx r y3)) (stoOf (rx r y1))) = true) →
      (L (IntKind.i64.wrap (y3 + 1))))) ∧
  (¬ (y3 < y1) →
    (N (IntKind.i64.wrap (y1 + 1))))
def ringBodyS (r : List Slt) (Q : Bool → Prop) (L : Int → Prop) (y1 : Int) : Prop :=
  (y1 < (r.length : Int) →
    0 ≤ y1 ∧
    y1 < (r.length : Int) ∧
    pStoredOk (stoOf (rx r y1)) ∧
    (¬ ((mStoredOk (stoOf (rx r y1))) = true) →
      (Q false)) ∧
    (¬ (¬ ((mStoredOk (stoOf (rx r y1))) = true)) →
      (∀ L2 : (Int → Prop), (∀ y3, ringBodyS2 r Q L y1 L2 y3 → L2 y3) → L2 0))) ∧
  (¬ (y1 < (r.length : Int)) → Q true)
theorem ring_spec {r : List Slt} (h : cz r ≤ 1048576) {Q : Bool → Prop} (hf : ¬ ringFine r → Q false) (hE : ringFine r → Q true) {L : Int → Prop} (hL : ∀ y, ringBodyS r Q L y → L y) : L 0 := by
  have hlen : r.length ≤ 1048576 := Nat.le_trans (cz_len r) h
  refine loopN hL r.length (by omega) (fun i => ∀ j, j < i → ringAt r j) (fun i hi hI ih => ?_) (fun j hj => by omega)
  refine ⟨fun hlt => ?_, fun hge => hE fun j hj => hI j (by omega)⟩
  have hlt : i < r.length := by omega
  obtain ⟨p1, p2⟩ := slt_md h hlt
  refine ⟨by omega, by omega, p1, fun c => hf fun ho => c (ho i hlt).1, fun c => fun L2 hL2 => ?_⟩
  refine loopN hL2 i (by omega) (fun k => ∀ j, j < k → mStandAlike (stoOf (rx r (j : Int))) (stoOf (rx r (i : Int))) = false) (fun k hk hK ih2 => ?_) (fun j hj => by omega)
  refine ⟨fun hk1 => ?_, fun hk1 => ih hlt fun j hj => ?_⟩
  · have hk1 : k < i := by omega
    obtain ⟨q1, q2⟩ := slt_md h (show k < r.length by omega)
    refine ⟨by omega, by omega, by omega, by omega, q2, fun c2 => hf fun ho => ?_, fun c2 => ih2 hk1 fun j hj => ?_⟩
    · rw [(ho i hlt).2 k hk1] at c2; cases c2
    · by_cases e : j = k
      · subst e; rw [← Bool.not_eq_true]; exact c2
      · exact hK j (by omega)
  · by_cases e : j = i
    · subst e; exact ⟨Classical.not_not.1 c, fun j' hj' => hK j' (by omega)⟩
    · exact hI j (by omega)
open Classical in
theorem impl_ShardOk_ok (a0 : Shd) (h : pShardOk a0) : s_impl_ShardOk a0 (fun r => r = mShardOk a0) := by
  have hr := shd_ring h
  have hlen : a0.2.2.1.length ≤ 1048576 := Nat.le_trans (cz_len _) hr
  have hw : IntKind.i64.wrap ((a0.2.2.1.length : Int) - 1) = (a0.2.2.1.length : Int) - 1 := wrap64 (by omega) (by omega)
  unfold s_impl_ShardOk
  rw [hw]
  refine ⟨trivial, fun c => ?_, fun c1 => ⟨fun c => ?_, fun c2 => ⟨fun c3 => ⟨trivial, fun c => ?_, fun c4 => fun L hL => ring_impl (Q := fun r => r = mShardOk a0) (E := pBodies a0.2.2.1 ∧ decide (mBodies a0.2.2.1 ≤ a0.2.1) = mShardOk a0) hr ?_ ?_ hL⟩, fun c3 => fun L hL => ring_impl (Q := fun r => r = mShardOk a0) (E := pBodies a0.2.2.1 ∧ decide (mBodies a0.2.2.1 ≤ a0.2.1) = mShardOk a0) hr ?_ ?_ hL⟩⟩⟩
  · unfold mShardOk; rw [Bool.not_eq_true] at c; rw [c]; rfl
  · unfold mShardOk; rw [decide_eq_false (show ¬ (a0.2.2.1.length : Int) ≤ a0.1 by omega)]; simp
  · unfold mShardOk; rw [Bool.not_eq_true] at c; rw [c, decide_eq_false c3]; simp
  · intro hn; unfold mShardOk; rw [decide_eq_false hn]; simp
  · intro hn
    refine ⟨hr, ?_⟩
    unfold mShardOk; rw [decide_eq_true hn, Classical.not_not.1 c1, Classical.not_not.1 c4, decide_eq_true (show (a0.2.2.1.length : Int) ≤ a0.1 by omega)]; simp
  · intro hn; unfold mShardOk; rw [decide_eq_false hn]; simp
  · intro hn
    refine ⟨hr, ?_⟩
    unfold mShardOk; rw [decide_eq_true hn, Classical.not_not.1 c1, decide_eq_true (Classical.not_not.1 c3), decide_eq_true (show (a0.2.2.1.length : Int) ≤ a0.1 by omega)]; simp
open Classical in
theorem spec_ShardOk_ok (a0 : Shd) (h : pShardOk a0) : s_spec_ShardOk a0 (fun r => r = mShardOk a0) := by
  have hr := shd_ring h
  have hlen : a0.2.2.1.length ≤ 1048576 := Nat.le_trans (cz_len _) hr
  have hw : IntKind.i64.wrap ((a0.2.2.1.length : Int) - 1) = (a0.2.2.1.length : Int) - 1 := wrap64 (by omega) (by omega)
  unfold s_spec_ShardOk
  rw [hw]
  refine ⟨trivial, fun c => ?_, fun c1 => ⟨trivial, fun c => ?_, fun c1b => ⟨fun c => ?_, fun c2 => ⟨h, fun c => ?_, fun c5 => ⟨fun c3 => ⟨trivial, fun c => ?_, fun c4 => fun L hL => ring_spec (Q := fun r => r = mShardOk a0) hr ?_ ?_ hL⟩, fun c3 => fun L hL => ring_spec (Q := fun r => r = mShardOk a0) hr ?_ ?_ hL⟩⟩⟩⟩⟩
  · unfold mShardOk mShardSizes; rw [Bool.not_eq_true] at c; rw [c]; rfl
  · unfold mShardOk mShardSizes; rw [Bool.not_eq_true] at c; rw [c]; simp
  · unfold mShardOk; rw [decide_eq_false (show ¬ (a0.2.2.1.length : Int) ≤ a0.1 by omega)]; simp
  · unfold mFilledS at c; unfold mShardOk; rw [decide_eq_false (show ¬ mBodies a0.2.2.1 ≤ a0.2.1 by omega)]; simp
  · unfold mShardOk; rw [Bool.not_eq_true] at c; rw [c, decide_eq_false c3]; simp
  · intro hn; unfold mShardOk; rw [decide_eq_false hn]; simp
  · intro hn
    unfold mFilledS at c5
    unfold mShardOk mShardSizes; rw [decide_eq_true hn, Classical.not_not.1 c1, Classical.not_not.1 c1b, Classical.not_not.1 c4, decide_eq_true (show (a0.2.2.1.length : Int) ≤ a0.1 by omega), decide_eq_true (show mBodies a0.2.2.1 ≤ a0.2.1 by omega)]; simp
  · intro hn; unfold mShardOk; rw [decide_eq_false hn]; simp
  · intro hn
    unfold mFilledS at c5
    unfold mShardOk mShardSizes; rw [decide_eq_true hn, Classical.not_not.1 c1, Classical.not_not.1 c1b, decide_eq_true (Classical.not_not.1 c3), decide_eq_true (show (a0.2.2.1.length : Int) ≤ a0.1 by omega), decide_eq_true (show mBodies a0.2.2.1 ≤ a0.2.1 by omega)]; simp
end Go.Ev
end

section
/- Laws of the plain library: caches; what is found in a shard. -/
set_option linter.unusedVariables false
namespace Go.Ev
theorem fnv_loop (a0 : S) (h : pFnv a0) : s_spec_Fnv a0 (fun r => r = mFnv a0) := by
  unfold pFnv sm at h
  have hl := bs_len a0
  intro L hL
  refine loopI hL (fun y => ∃ i : Nat, i ≤ a0.size ∧ y.2 = (i : Int) ∧ y.1 = ((bs a0).take i).foldl fnvStep 2166136261) (fun y => a0.size + 1 - y.2.toNat) (fun y hI ih => ?_) (2166136261, 0) ⟨0, by omega, rfl, by simp⟩
  obtain ⟨k, i'⟩ := y
  obtain ⟨i, hi, hy, hk⟩ := hI
  simp only at hy hk ⊢
  subst hy hk
  refine ⟨fun hlt => ⟨by omega, hlt, by decide, ?_⟩, fun hge => ?_⟩
  · have hlt' : i < a0.size := by omega
    rw [wrapS (by omega), bt_nat a0 i hlt']
    refine ih _ ⟨i + 1, by omega, rfl, ?_⟩ (by simp only [Int.toNat_natCast]; omega)
    simp only
    rw [take_succ_app (by omega), List.foldl_append]
    rfl
  · have hie : i = a0.size := by omega
    subst hie
    unfold mFnv
    rw [List.take_of_length_le (by omega)]
theorem spec_Fnv_ok (a0 : S) (h : pFnv a0) : s_spec_Fnv a0 (fun r => r = mFnv a0) := fnv_loop a0 h
theorem impl_Fnv_ok (a0 : S) (h : pFnv a0) : s_impl_Fnv a0 (fun r => r = mFnv a0) := fnv_loop a0 h
theorem spec_ShardOf_ok (a0 : Cch) (a1 : S) (h : pShardOf a0 a1) : s_spec_ShardOf a0 a1 (fun r => r = mShardOf a0 a1) :=
  ⟨fun h0 => by unfold mShardOf; rw [if_pos h0], fun h0 => ⟨h, h0, by unfold mShardOf; rw [if_neg h0]⟩⟩
theorem impl_ShardOf_ok (a0 : Cch) (a1 : S) (h : pShardOf a0 a1) : s_impl_ShardOf a0 a1 (fun r => r = mShardOf a0 a1) := spec_ShardOf_ok a0 a1 h
theorem impl_CacheOk_1_ok (a0 : Slt) (a1 : Cch) (a2 : Int) (h : pCacheOk_1 a0 a1 a2) : s_impl_CacheOk_1 a0 a1 a2 (fun r => r = mCacheOk_1 a0 a1 a2) := ⟨h, rfl⟩
theorem slt_uri {l : List Slt} (h : md l) {x : Slt} (hx : x ∈ l) : sm x.1 := by
  have := cz_mem hx
  unfold md at h
  simp only [cz_pair] at this
  have e : cz x.1 = x.1.size := rfl
  unfold sm
  omega
theorem IndexFunc_CacheOk_1_ok (a0 : List Slt) (a1 : Cch × Int) (h : pIndexFunc_CacheOk_1 a0 a1) : s_IndexFunc_CacheOk_1 a0 a1 (fun r => r = mIndexFunc_CacheOk_1 a0 a1) :=
  idxS_ok (F := fun x => mCacheOk_1 x a1.1 a1.2) (by have := md_len' h; simp only [maxLen]; omega) (P := fun x => pCacheOk_1 x a1.1 a1.2) fun x hx => slt_uri h hx
theorem ContainsFunc_CacheOk_1_ok (a0 : List Slt) (a1 : Cch × Int) (h : pContainsFunc_CacheOk_1 a0 a1) : s_ContainsFunc_CacheOk_1 a0 a1 (fun r => r = mContainsFunc_CacheOk_1 a0 a1) := ⟨h, idxI_nonneg⟩

theorem cch_shard {c : Cch} (h : md c) {i : Nat} (hi : i < c.1.length) : md (rx c.1 (i : Int)) := by
  rw [rx_nat _ i hi]
  unfold md at h ⊢
  have := cz_mem (List.getElem_mem hi : c.1[i] ∈ c.1)
  rw [cz_pair] at h
  omega
theorem cch_gen {c : Cch} (h : md c) {i : Nat} (hi : i < c.2.length) : pUriOk (rx c.2 (i : Int)).1 := by
  rw [rx_nat _ i hi]
  unfold md at h
  have := cz_mem (List.getElem_mem hi : c.2[i] ∈ c.2)
  rw [cz_pair] at h this
  have e : cz c.2[i].1 = c.2[i].1.size := rfl
  unfold pUriOk sm
  omega
theorem shd_ring' {s : Shd} (h : md s) : md s.2.2.1 := by
  unfold md at h ⊢
  simp only [cz_pair] at h
  omega
open Classical in
theorem cacheOk_no {c : Cch} (h : ¬ cacheFine c) : false = mCacheOk c := by
  unfold mCacheOk
  rw [decide_eq_false h]
open Classical in
theorem cacheOk_yes {c : Cch} (h : cacheFine c) : true = mCacheOk c := by
  unfold mCacheOk
  rw [decide_eq_true h]
theorem prevI {i : Nat} (h0 : 0 < (i : Int)) (h1 : i ≤ 1048576) : IntKind.i64.wrap ((i : Int) - 1) = ((i - 1 : Nat) : Int) := by rw [wrap64 (by omega) (by omega)]; omega
theorem spec_CacheOk_ok (a0 : Cch) (h : pCacheOk a0) : s_spec_CacheOk a0 (fun r => r = mCacheOk a0) := by
  have hl1 : a0.1.length ≤ 1048576 := by have := cz_len a0.1; unfold pCacheOk md at h; rw [cz_pair] at h; omega
  have hl2 : a0.2.length ≤ 1048576 := by have := cz_len a0.2; unfold pCacheOk md at h; rw [cz_pair] at h; omega
  refine ⟨trivial, fun hn => cacheOk_no fun hc => hn hc.1, fun hin => ?_⟩
  have hin := Classical.not_not.1 hin
  intro L hL
  refine loopN hL a0.1.length (by omega) (fun i => ∀ j, j < i → shardAt a0 j) (fun i hi hI ih => ⟨fun hlt => ?_, fun hge => ?_⟩) (fun j hj => by omega)
  · have hlt' : i < a0.1.length := by omega
    have hms := cch_shard h hlt'
    refine ⟨by omega, hlt, hms, fun hno => cacheOk_no fun hc => hno (hc.2.1 i hlt').1, fun hok => ?_⟩
    have hok := Classical.not_not.1 hok
    have hring := md_len' (shd_ring' hms)
    intro L2 hL2
    refine loopN hL2 (rx a0.1 (i : Int)).2.2.1.length (by omega) (fun k => ∀ j, j < k → mShardOf a0 (rx (rx a0.1 (i : Int)).2.2.1 (j : Int)).1 = (i : Int)) (fun k hk hK ik => ⟨by omega, hlt, fun hkl => ?_, fun hkg => ?_⟩) (fun j hj => by omega)
    · have hkl' : k < (rx a0.1 (i : Int)).2.2.1.length := by omega
      refine ⟨by omega, hlt, by omega, hkl, slt_uri (shd_ring' hms) (rx_mem _ hkl'), fun hne => cacheOk_no fun hc => hne ((hc.2.1 i hlt').2 k hkl'), fun heq => ik hkl' fun j hj => ?_⟩
      by_cases e : j = k
      · subst e; exact Classical.not_not.1 heq
      · exact hK j (by omega)
    · refine ih hlt' fun j hj => ?_
      by_cases e : j = i
      · subst e; exact ⟨hok, fun k' hk' => hK k' (by omega)⟩
      · exact hI j (by omega)
  · intro L4 hL4
    refine loopN hL4 a0.2.length (by omega) (fun i => ∀ j, j < i → genAt a0.2 j) (fun k hk hK ik => ⟨fun hkl => ?_, fun hkg => cacheOk_yes ⟨hin, fun j hj => hI j (by omega), fun j hj => hK j (by omega)⟩⟩) (fun j hj => by omega)
    have hkl' : k < a0.2.length := by omega
    have next : genAt a0.2 k → L4 (IntKind.i64.wrap ((k : Int) + 1)) := fun hg => ik hkl' fun j hj => by
      by_cases e : j = k
      · subst e; exact hg
      · exact hK j (by omega)
    refine ⟨by omega, hkl, cch_gen h hkl', fun hno => cacheOk_no fun hc => hno (hc.2.2 k hkl').1, fun h1 => ⟨by omega, hkl, trivial, fun hno => cacheOk_no fun hc => hno (hc.2.2 k hkl').2.1, fun h2 => ⟨fun h0 => ?_, fun h0 => next ⟨Classical.not_not.1 h1, Classical.not_not.1 h2, .inl (by omega)⟩⟩⟩⟩
    rw [prevI h0 (by omega)]
    refine ⟨by omega, hkl, by omega, by omega, fun hno => cacheOk_no fun hc => ?_, fun hyes => next ⟨Classical.not_not.1 h1, Classical.not_not.1 h2, .inr ?_⟩⟩
    · rcases (hc.2.2 k hkl').2.2 with h3 | h3
      · omega
      · exact (strLt_not _ _).1 (hno.imp (fun h => h) fun h => h.symm) h3
    · exact Classical.not_not.1 fun h3 => hyes (((strLt_not _ _).2 h3).imp (fun h => h) fun h => h.symm)
theorem impl_CacheOk_ok (a0 : Cch) (h : pCacheOk a0) : s_impl_CacheOk a0 (fun r => r = mCacheOk a0) := by
  have hl1 : a0.1.length ≤ 1048576 := by have := cz_len a0.1; unfold pCacheOk md at h; rw [cz_pair] at h; omega
  have hl2 : a0.2.length ≤ 1048576 := by have := cz_len a0.2; unfold pCacheOk md at h; rw [cz_pair] at h; omega
  refine ⟨trivial, fun hn => cacheOk_no fun hc => hn hc.1, fun hin => ?_⟩
  have hin := Classical.not_not.1 hin
  intro L hL
  refine loopN hL a0.1.length (by omega) (fun i => ∀ j, j < i → shardAt a0 j) (fun i hi hI ih => ⟨fun hlt => ?_, fun hge => ?_⟩) (fun j hj => by omega)
  · have hlt' : i < a0.1.length := by omega
    have hms := cch_shard h hlt'
    refine ⟨by omega, hlt, hms, fun hno => cacheOk_no fun hc => hno (hc.2.1 i hlt').1, fun hok => ⟨shd_ring' hms, fun hany => cacheOk_no fun hc => ?_, fun hall => ih hlt' fun j hj => ?_⟩⟩
    · obtain ⟨x, hx, hp⟩ := List.any_eq_true.1 hany
      obtain ⟨k, hk, rfl⟩ := List.mem_iff_getElem.1 hx
      have := (hc.2.1 i hlt').2 k hk
      rw [rx_get _ hk] at this
      unfold mCacheOk_1 at hp
      simp only [decide_eq_true_eq] at hp
      exact hp this
    · by_cases e : j = i
      · subst e
        refine ⟨Classical.not_not.1 hok, fun k hk => ?_⟩
        rw [rx_get _ hk]
        apply Classical.byContradiction
        intro hne
        exact hall (List.any_eq_true.2 ⟨_, List.getElem_mem hk, by unfold mCacheOk_1; simp only [decide_eq_true_eq]; exact hne⟩)
      · exact hI j (by omega)
  · intro L4 hL4
    refine loopN hL4 a0.2.length (by omega) (fun i => ∀ j, j < i → genAt a0.2 j) (fun k hk hK ik => ⟨fun hkl => ?_, fun hkg => cacheOk_yes ⟨hin, fun j hj => hI j (by omega), fun j hj => hK j (by omega)⟩⟩) (fun j hj => by omega)
    have hkl' : k < a0.2.length := by omega
    have next : genAt a0.2 k → L4 (IntKind.i64.wrap ((k : Int) + 1)) := fun hg => ik hkl' fun j hj => by
      by_cases e : j = k
      · subst e; exact hg
      · exact hK j (by omega)
    refine ⟨by omega, hkl, cch_gen h hkl', fun hno => cacheOk_no fun hc => hno (hc.2.2 k hkl').1, fun h1 => ⟨trivial, fun hno => cacheOk_no fun hc => hno (hc.2.2 k hkl').2.1, fun h2 => ⟨fun h0 => ?_, fun h0 => next ⟨Classical.not_not.1 h1, Classical.not_not.1 h2, .inl (by omega)⟩⟩⟩⟩
    rw [prevI h0 (by omega)]
    refine ⟨by omega, by omega, fun hno => cacheOk_no fun hc => ?_, fun hyes => next ⟨Classical.not_not.1 h1, Classical.not_not.1 h2, .inr (Classical.not_not.1 hyes)⟩⟩
    rcases (hc.2.2 k hkl').2.2 with h3 | h3
    · omega
    · exact hno h3

end Go.Ev
end

section
/- Laws of the plain library: marks of what has slices in its slices; copies; ShardTouch. -/
set_option linter.unusedVariables false
set_option linter.unusedSimpArgs false
namespace Go.Ev
theorem rx_set {α : Type} [Dft α] {xs : List α} {i : Nat} (h : i < xs.length) (a : α) : rx (xs.set i a) (i : Int) = a := by
  rw [rx_get _ (by rw [List.length_set]; exact h), List.getElem_set_self]
theorem drop_set_succ {α : Type} {xs ys : List α} {i : Nat} {a : α} (h : xs.drop i = ys.drop i) : (xs.set i a).drop (i + 1) = ys.drop (i + 1) := by
  have : xs.drop (i + 1) = ys.drop (i + 1) := by
    have := congrArg (List.drop 1) h
    simpa [List.drop_drop, Nat.add_comm] using this
  rw [List.drop_set, if_pos (by omega)]
  exact this
theorem get_of_drop {α : Type} {xs ys : List α} {i : Nat} (h : xs.drop i = ys.drop i) (hx : i < xs.length) (hy : i < ys.length) : xs[i] = ys[i] := by
  have := congrArg List.head? h
  simpa [List.head?_drop, List.getElem?_eq_getElem hx, List.getElem?_eq_getElem hy] using this
theorem laws_markSlotS_ok (a0 : List Slt) (a1 : Int) (h : pMarkSlotS a0 a1) : s_laws_markSlotS a0 a1 (fun r y => r = mMarkSlotS a0 a1 ∧ y = wMarkSlotS a0 a1) := by
  obtain ⟨k0, k1⟩ := h
  have hlen : 6 * a0.length ≤ sumN (a0.map cntSlt) := sum_ge_len (fun x => by unfold cntSlt; omega) a0
  have hm := markL_length (f := markSlt) (c := cntSlt) a0 a1
  intro L hL
  refine loopI hL (fun y => ∃ i : Nat, i ≤ a0.length ∧ y.2.1 = (i : Int) ∧ y.1 = a1 + (sumN ((a0.take i).map cntSlt) : Nat) ∧ y.2.2.length = a0.length ∧ y.2.2.take i = (markL markSlt cntSlt a0 a1).take i ∧ y.2.2.drop i = a0.drop i) (fun y => a0.length + 1 - y.2.1.toNat) (fun y hI ih => ?_) (a1, 0, a0) ⟨0, by omega, rfl, by simp [sumN], rfl, by simp, rfl⟩
  obtain ⟨k, i', xs⟩ := y
  obtain ⟨i, hi, hy, hk, hl, ht, hd⟩ := hI
  simp only at hy hk hl ht hd ⊢
  subst hy
  have hs := sum_take_le cntSlt a0 i
  refine ⟨fun hlt => ?_, fun hge => ?_⟩
  · have hlt' : i < xs.length := by omega
    have hla : i < a0.length := by omega
    have hat := sum_at (c := cntSlt) hla
    have hstep := sum_take_succ (c := cntSlt) hla
    have hx : rx xs (i : Int) = a0[i] := by rw [rx_get _ hlt']; exact get_of_drop hd hlt' hla
    have rs : ∀ a : Slt, rx (xs.set i a) (i : Int) = a := fun a => rx_set hlt' a
    rw [hx]
    have hmk := markL_get (f := markSlt) (c := cntSlt) a0 a1 i hla
    rw [← hk] at hmk
    generalize a0[i] = x at hat hstep hmk
    have hc : cntSlt x = 6 + 2 * x.2.1.length + 2 * x.2.2.2.1.length := rfl
    refine ⟨⟨by omega, by omega⟩, by omega, hlt, ?_⟩
    simp only [Int.toNat_natCast]
    rintro _ rfl
    simp only [rs, List.length_set, List.set_set]
    refine ⟨by omega, hlt, ?_⟩
    rintro _ rfl
    simp only [rs, List.length_set, List.set_set]
    rw [wrap64 (n := k + 1) (by omega) (by omega)]
    refine ⟨⟨by omega, by omega, by omega⟩, ?_⟩
    simp only [show mMarkFieldS x.2.1 (k + 1) = k + 1 + 2 * (x.2.1.length : Int) from rfl, show (wMarkFieldS x.2.1 (k + 1)).1 = markFld x.2.1 (k + 1) from rfl]
    rintro _ rfl
    simp only [rs, List.length_set, List.set_set]
    refine ⟨by omega, hlt, ?_⟩
    rintro _ rfl
    simp only [rs, List.length_set, List.set_set]
    refine ⟨by omega, hlt, ?_⟩
    rintro _ rfl
    simp only [rs, List.length_set, List.set_set]
    rw [wrap64 (n := k + 1 + 2 * (x.2.1.length : Int) + 1) (by omega) (by omega)]
    generalize hk3 : k + 1 + 2 * (x.2.1.length : Int) + 1 = k3
    refine ⟨⟨by omega, by omega, by omega⟩, ?_⟩
    simp only [show mMarkFieldS x.2.2.2.1 k3 = k3 + 2 * (x.2.2.2.1.length : Int) from rfl, show (wMarkFieldS x.2.2.2.1 k3).1 = markFld x.2.2.2.1 k3 from rfl]
    rintro _ rfl
    simp only [rs, List.length_set, List.set_set]
    refine ⟨⟨by omega, by omega⟩, by omega, hlt, ?_⟩
    rintro _ rfl
    simp only [rs, List.length_set, List.set_set]
    refine ⟨by omega, hlt, ?_⟩
    rintro _ rfl
    simp only [rs, List.length_set, List.set_set]
    refine ⟨by omega, hlt, ?_⟩
    rintro _ rfl
    simp only [rs, List.length_set, List.set_set]
    refine ⟨by decide, by omega, hlt, ?_⟩
    rintro _ rfl
    rw [wrap64 (n := k3 + 2 * (x.2.2.2.1.length : Int) + 1) (by omega) (by omega), wrap64 (n := k3 + 2 * (x.2.2.2.1.length : Int) + 1 + 1) (by omega) (by omega), wrap64 (n := k3 + 2 * (x.2.2.2.1.length : Int) + 1 + 1 + 1) (by omega) (by omega), wrap64 (n := k3 + 2 * (x.2.2.2.1.length : Int) + 1 + 1 + 1 + 1) (by omega) (by omega), wrapS (by omega)]
    refine ih _ ⟨i + 1, by omega, rfl, ?_, by simp [hl], ?_, ?_⟩ (by simp only [Int.toNat_natCast]; omega)
    · simp only
      rw [hstep]
      omega
    · subst hk3
      exact take_set_succ hlt' (by omega) ht hmk
    · exact drop_set_succ hd
  · have hie : i = a0.length := by omega
    subst hie
    rw [List.take_of_length_le (by omega), List.take_of_length_le (by omega)] at ht
    rw [List.take_of_length_le (Nat.le_refl _)] at hk
    exact ⟨hk, by unfold wMarkSlotS; rw [ht]⟩
theorem marked_get {α : Type} {f : α → Int → α} {c : α → Nat} {l : List α} {k : Int} (h : markL f c l k = l) {i : Nat} (hi : i < l.length) : l[i] = f l[i] (k + (sumN ((l.take i).map c) : Nat)) := by
  have := markL_get (f := f) (c := c) l k i hi
  rw [← this]
  congr 1
  exact h.symm
theorem laws_heldSlotS_ok (a0 : List Slt) (a1 : Int) (h : pHeldSlotS a0 a1) : s_laws_heldSlotS a0 a1 (fun r => r = mHeldSlotS a0 a1) := by
  obtain ⟨⟨k0, k1⟩, hmk⟩ := h
  have hlen : 6 * a0.length ≤ sumN (a0.map cntSlt) := sum_ge_len (fun x => by unfold cntSlt; omega) a0
  intro L hL
  refine loopI hL (fun y => ∃ i : Nat, i ≤ a0.length ∧ y.2 = (i : Int) ∧ y.1 = a1 + (sumN ((a0.take i).map cntSlt) : Nat)) (fun y => a0.length + 1 - y.2.toNat) (fun y hI ih => ?_) (a1, 0) ⟨0, by omega, rfl, by simp [sumN]⟩
  obtain ⟨k, i'⟩ := y
  obtain ⟨i, hi, hy, hk⟩ := hI
  simp only at hy hk ⊢
  subst hy
  have hs := sum_take_le cntSlt a0 i
  refine ⟨fun hlt => ?_, fun hge => ?_⟩
  · have hla : i < a0.length := by omega
    have hat := sum_at (c := cntSlt) hla
    have hstep := sum_take_succ (c := cntSlt) hla
    have hg := marked_get hmk hla
    rw [← hk] at hg
    rw [rx_get _ hla]
    generalize a0[i] = x at hat hstep hg
    have hc : cntSlt x = 6 + 2 * x.2.1.length + 2 * x.2.2.2.1.length := rfl
    have g1 : x.1 = mMarkText k := congrArg (fun z : Slt => z.1) hg
    have g2 : x.2.1 = markFld x.2.1 (k + 1) := congrArg (fun z : Slt => z.2.1) hg
    have g3 : x.2.2.1 = k + 1 + 2 * (x.2.1.length : Int) := congrArg (fun z : Slt => z.2.2.1) hg
    have g4 : x.2.2.2.1 = markFld x.2.2.2.1 (k + 1 + 2 * (x.2.1.length : Int) + 1) := congrArg (fun z : Slt => z.2.2.2.1) hg
    have g5 : x.2.2.2.2.1 = mMarkText (k + 1 + 2 * (x.2.1.length : Int) + 1 + 2 * (x.2.2.2.1.length : Int)) := congrArg (fun z : Slt => z.2.2.2.2.1) hg
    have g6 : x.2.2.2.2.2.1 = k + 1 + 2 * (x.2.1.length : Int) + 1 + 2 * (x.2.2.2.1.length : Int) + 1 := congrArg (fun z : Slt => z.2.2.2.2.2.1) hg
    have g7 : x.2.2.2.2.2.2.1 = k + 1 + 2 * (x.2.1.length : Int) + 1 + 2 * (x.2.2.2.1.length : Int) + 1 + 1 := congrArg (fun z : Slt => z.2.2.2.2.2.2.1) hg
    have g8 : x.2.2.2.2.2.2.2 = decide ((k + 1 + 2 * (x.2.1.length : Int) + 1 + 2 * (x.2.2.2.1.length : Int) + 1 + 1 + 1).tmod 3 = 0) := congrArg (fun z : Slt => z.2.2.2.2.2.2.2) hg
    have e1 : mHeldFieldS x.2.1 (k + 1) = k + 1 + 2 * (x.2.1.length : Int) := by
      have := held_mark x.2.1 (k + 1)
      rw [← g2] at this
      exact this
    have e2 : mHeldFieldS x.2.2.2.1 (k + 1 + 2 * (x.2.1.length : Int) + 1) = k + 1 + 2 * (x.2.1.length : Int) + 1 + 2 * (x.2.2.2.1.length : Int) := by
      have := held_mark x.2.2.2.1 (k + 1 + 2 * (x.2.1.length : Int) + 1)
      rw [← g4] at this
      exact this
    rw [wrap64 (n := k + 1) (by omega) (by omega), e1, wrap64 (n := k + 1 + 2 * (x.2.1.length : Int) + 1) (by omega) (by omega), e2, wrap64 (n := k + 1 + 2 * (x.2.1.length : Int) + 1 + 2 * (x.2.2.2.1.length : Int) + 1) (by omega) (by omega),
      wrap64 (n := k + 1 + 2 * (x.2.1.length : Int) + 1 + 2 * (x.2.2.2.1.length : Int) + 1 + 1) (by omega) (by omega), wrap64 (n := k + 1 + 2 * (x.2.1.length : Int) + 1 + 2 * (x.2.2.2.1.length : Int) + 1 + 1 + 1) (by omega) (by omega),
      wrap64 (n := k + 1 + 2 * (x.2.1.length : Int) + 1 + 2 * (x.2.2.2.1.length : Int) + 1 + 1 + 1 + 1) (by omega) (by omega), wrapS (by omega)]
    refine ⟨by omega, hlt, ⟨by omega, by omega⟩, fun hne => absurd g1 hne, fun _ => ⟨by omega, hlt, ⟨by omega, by omega, by omega⟩, fun hn => by omega, fun _ => ⟨by omega, hlt, fun hne => absurd g3 hne, fun _ => ⟨by omega, hlt, ⟨by omega, by omega, by omega⟩, fun hn => by omega, fun _ =>
      ⟨by omega, hlt, ⟨by omega, by omega⟩, fun hne => absurd g5 hne, fun _ => ⟨by omega, hlt, fun hne => absurd g6 hne, fun _ => ⟨by omega, hlt, fun hne => absurd g7 hne, fun _ => ⟨by omega, hlt, by decide, fun hne => absurd g8 hne, fun _ => ?_⟩⟩⟩⟩⟩⟩⟩⟩
    refine ih _ ⟨i + 1, by omega, rfl, ?_⟩ (by simp only [Int.toNat_natCast]; omega)
    simp only
    rw [hstep]
    omega
  · have hie : i = a0.length := by omega
    subst hie
    rw [List.take_of_length_le (Nat.le_refl _)] at hk
    exact hk
theorem slices_Clone_Field_ok (a0 : List Fld) (h : pClone_Field a0) : s_slices_Clone_Field a0 (fun r => r = mClone_Field a0) := by
  unfold pClone_Field at h
  intro b hb
  refine ⟨fun hb' => (hb hb').symm, fun _ => ⟨by simp only [List.length_nil]; omega, by simp [mClone_Field]⟩⟩
theorem slices_Clone_GenRow_ok (a0 : List Gen) (h : pClone_GenRow a0) : s_slices_Clone_GenRow a0 (fun r => r = mClone_GenRow a0) := by
  unfold pClone_GenRow at h
  intro b hb
  refine ⟨fun hb' => (hb hb').symm, fun _ => ⟨by simp only [List.length_nil]; omega, by simp [mClone_GenRow]⟩⟩
theorem rsp_len {r : Rsp} (h : md r) : r.2.1.length ≤ 1048576 := md_len' (md_rsp h)
theorem impl_cloneResponse_ok (a0 : Rsp) (h : pCloneResponse a0) : s_impl_cloneResponse a0 (fun r => r = mCloneResponse a0) := ⟨by have := rsp_len h; unfold pClone_Field; omega, rfl⟩
theorem sto_md {x : Sto} (h : md x) : md x.2.1 ∧ md (x.2.2.1, x.2.2.2.1, x.2.2.2.2.1) := by
  unfold md at h ⊢
  simp only [cz_pair] at h ⊢
  omega
theorem impl_cloneStored_ok (a0 : Sto) (h : pCloneStored a0) : s_impl_cloneStored a0 (fun r => r = mCloneStored a0) := by
  obtain ⟨h1, h2⟩ := sto_md h
  exact ⟨by have := md_len' h1; unfold pClone_Field; omega, h2, rfl⟩
theorem spec_l12Resp_ok (a0 : Rsp) (h : pL12Resp a0) : s_spec_l12Resp a0 (fun r => r = mL12Resp a0) := by
  have := rsp_len h
  exact ⟨by simp only [List.length_nil]; omega, rfl⟩
theorem spec_l12One_ok (a0 : Sto) (h : pL12One a0) : s_spec_l12One a0 (fun r => r = mL12One a0) := by
  obtain ⟨h1, h2⟩ := sto_md h
  have := md_len' h1
  exact ⟨by simp only [List.length_nil]; omega, h2, rfl⟩
theorem shd_md {s : Shd} (h : md s) : md s.2.2.1 := by
  unfold md at h ⊢
  simp only [cz_pair] at h ⊢
  omega
theorem sto_of_slt {x : Slt} (h : md x) : md (x.1, x.2.1, x.2.2.1, x.2.2.2.1, x.2.2.2.2.1, x.2.2.2.2.2.1, x.2.2.2.2.2.2.1) := by
  unfold md at h ⊢
  simp only [cz_pair] at h ⊢
  omega
theorem impl_cloneShard_ok (a0 : Shd) (h : pCloneShard a0) : s_impl_cloneShard a0 (fun r => r = mCloneShard a0) := by
  have hr := shd_md h
  have hl := md_len' hr
  intro L hL
  refine loopG hL a0.2.2.1.length (fun i y => y.2 = (i : Int) ∧ y.1 = a0.2.2.1.take i) (fun i y hi hI hn => ?_) (s0 := ([], 0)) ⟨rfl, by simp⟩
  obtain ⟨xs, i'⟩ := y
  obtain ⟨h1, h2⟩ := hI
  simp only at h1 h2 ⊢
  subst h1 h2
  rw [wrapS (by omega)]
  refine ⟨fun hlt => ?_, fun hge => ?_⟩
  · have hi2 : i < a0.2.2.1.length := by omega
    rw [rx_get _ hi2]
    have hx : md a0.2.2.1[i] := md_mem hr (List.getElem_mem hi2)
    refine ⟨by omega, hlt, sto_of_slt hx, by simp only [List.length_take, List.length_cons, List.length_nil]; omega, hn _ hi2 ⟨rfl, ?_⟩⟩
    rw [take_succ_app hi2]
    rfl
  · rw [List.take_of_length_le (by omega)]
    rfl
theorem spec_l12Copy_ok (a0 : Shd) (h : pL12Copy a0) : s_spec_l12Copy a0 (fun r => r = mL12Copy a0) := by
  have hr := shd_md h
  have hl := md_len' hr
  intro L hL
  refine loopG hL a0.2.2.1.length (fun i y => y.2 = (i : Int) ∧ y.1 = a0.2.2.1.take i) (fun i y hi hI hn => ?_) (s0 := ([], 0)) ⟨rfl, by simp⟩
  obtain ⟨xs, i'⟩ := y
  obtain ⟨h1, h2⟩ := hI
  simp only at h1 h2 ⊢
  subst h1 h2
  rw [wrapS (by omega)]
  refine ⟨fun hlt => ?_, fun hge => ?_⟩
  · have hi2 : i < a0.2.2.1.length := by omega
    rw [rx_get _ hi2]
    have hx : md a0.2.2.1[i] := md_mem hr (List.getElem_mem hi2)
    refine ⟨by omega, hlt, sto_of_slt hx, by omega, hlt, by simp only [List.length_take, List.length_cons, List.length_nil]; omega, hn _ hi2 ⟨rfl, ?_⟩⟩
    rw [take_succ_app hi2]
    rfl
  · rw [List.take_of_length_le (by omega)]
    rfl
theorem map_set_same {α β : Type} {f : α → β} {l : List α} {i : Nat} {a : α} (h : ∀ hi : i < l.length, f a = f l[i]) : (l.set i a).map f = l.map f := by
  apply List.ext_getElem?
  intro j
  rw [List.getElem?_map, List.getElem?_set, List.getElem?_map]
  by_cases e : i = j
  · subst e
    by_cases hl : i < l.length
    · simp [hl, h hl]
    · simp [hl]
  · simp [e]
theorem cnt_le_cz (x : Slt) : cntSlt x ≤ 6 + 2 * cz x := by
  simp only [cntSlt, cz_pair, cz_list, cz_str, cz_int, cz_bool]
  omega
theorem sum_cnt_le {l : List Slt} (h : md l) : sumN (l.map cntSlt) ≤ 8388608 := by
  have h1 := sum_le_of cnt_le_cz l
  rw [sum_mul] at h1
  unfold md at h
  rw [cz_list] at h
  omega
end Go.Ev
end

section
/- Laws of the plain library: ConnNew: marks of a connection that holds no rows. -/
set_option linter.unusedVariables false
namespace Go.Ev
theorem laws_markStored_ok (a0 : Sto) (a1 : Int) (h : pMarkStored a0 a1) : s_laws_markStored a0 a1 (fun r y => r = mMarkStored a0 a1 ∧ y = wMarkStored a0 a1) := by
  obtain ⟨h1, h2⟩ := h
  exact ⟨⟨by omega, by omega, by omega⟩, ⟨by show 0 ≤ a1 + 2 * (a0.2.1.length : Int); omega, by show a1 + 2 * (a0.2.1.length : Int) ≤ _; omega, by show a0.2.2.2.1.length ≤ _; omega⟩, rfl, rfl⟩
end Go.Ev
end

section
/- Laws of the plain library: marks of caches; CacheFind, CacheHit. -/
set_option linter.unusedVariables false
set_option linter.unusedSimpArgs false
namespace Go.Ev
theorem laws_markShardS_ok (a0 : List Shd) (a1 : Int) (h : pMarkShardS a0 a1) : s_laws_markShardS a0 a1 (fun r y => r = mMarkShardS a0 a1 ∧ y = wMarkShardS a0 a1) := by
  obtain ⟨k0, k1⟩ := h
  have hlen : 3 * a0.length ≤ sumN (a0.map cntShd) := sum_ge_len (fun x => by unfold cntShd; omega) a0
  have hm := markL_length (f := markShd) (c := cntShd) a0 a1
  intro L hL
  refine loopI hL (fun y => ∃ i : Nat, i ≤ a0.length ∧ y.2.1 = (i : Int) ∧ y.1 = a1 + (sumN ((a0.take i).map cntShd) : Nat) ∧ y.2.2.length = a0.length ∧ y.2.2.take i = (markL markShd cntShd a0 a1).take i ∧ y.2.2.drop i = a0.drop i) (fun y => a0.length + 1 - y.2.1.toNat) (fun y hI ih => ?_) (a1, 0, a0) ⟨0, by omega, rfl, by simp [sumN], rfl, by simp, rfl⟩
  obtain ⟨k, i', xs⟩ := y
  obtain ⟨i, hi, hy, hk, hl, ht, hd⟩ := hI
  simp only at hy hk hl ht hd ⊢
  subst hy
  have hs := sum_take_le cntShd a0 i
  refine ⟨fun hlt => ?_, fun hge => ?_⟩
  · have hlt' : i < xs.length := by omega
    have hla : i < a0.length := by omega
    have hat := sum_at (c := cntShd) hla
    have hstep := sum_take_succ (c := cntShd) hla
    have hx : rx xs (i : Int) = a0[i] := by rw [rx_get _ hlt']; exact get_of_drop hd hlt' hla
    have rs : ∀ a : Shd, rx (xs.set i a) (i : Int) = a := fun a => rx_set hlt' a
    rw [hx]
    have hmk := markL_get (f := markShd) (c := cntShd) a0 a1 i hla
    rw [← hk] at hmk
    generalize a0[i] = x at hat hstep hmk
    have hc : cntShd x = 3 + sumN (x.2.2.1.map cntSlt) := rfl
    refine ⟨by omega, hlt, ?_⟩
    simp only [Int.toNat_natCast]
    rintro _ rfl
    simp only [rs, List.length_set, List.set_set]
    refine ⟨by omega, hlt, ?_⟩
    rintro _ rfl
    simp only [rs, List.length_set, List.set_set]
    refine ⟨by omega, hlt, ?_⟩
    rintro _ rfl
    rintro _ rfl
    simp only [rs, List.length_set, List.set_set]
    rw [wrap64 (n := k + 1) (by omega) (by omega), wrap64 (n := k + 1 + 1) (by omega) (by omega)]
    refine ⟨⟨by omega, by omega⟩, ?_⟩
    simp only [show mMarkSlotS x.2.2.1 (k + 1 + 1) = k + 1 + 1 + (sumN (x.2.2.1.map cntSlt) : Nat) from rfl, show (wMarkSlotS x.2.2.1 (k + 1 + 1)).1 = markL markSlt cntSlt x.2.2.1 (k + 1 + 1) from rfl]
    rintro _ rfl
    simp only [rs, List.length_set, List.set_set]
    rintro _ rfl
    refine ⟨by omega, hlt, ?_⟩
    rintro _ rfl
    rw [wrap64 (n := k + 1 + 1 + (sumN (x.2.2.1.map cntSlt) : Nat) + 1) (by omega) (by omega), wrapS (by omega)]
    refine ih _ ⟨i + 1, by omega, rfl, ?_, by simp [hl], ?_, ?_⟩ (by simp only [Int.toNat_natCast]; omega)
    · simp only
      rw [hstep]
      omega
    · exact take_set_succ hlt' (by omega) ht hmk
    · exact drop_set_succ hd
  · have hie : i = a0.length := by omega
    subst hie
    rw [List.take_of_length_le (by omega), List.take_of_length_le (by omega)] at ht
    rw [List.take_of_length_le (Nat.le_refl _)] at hk
    exact ⟨hk, by unfold wMarkShardS; rw [ht]⟩
theorem laws_heldShardS_ok (a0 : List Shd) (a1 : Int) (h : pHeldShardS a0 a1) : s_laws_heldShardS a0 a1 (fun r => r = mHeldShardS a0 a1) := by
  obtain ⟨⟨k0, k1⟩, hmk⟩ := h
  have hlen : 3 * a0.length ≤ sumN (a0.map cntShd) := sum_ge_len (fun x => by unfold cntShd; omega) a0
  intro L hL
  refine loopI hL (fun y => ∃ i : Nat, i ≤ a0.length ∧ y.2 = (i : Int) ∧ y.1 = a1 + (sumN ((a0.take i).map cntShd) : Nat)) (fun y => a0.length + 1 - y.2.toNat) (fun y hI ih => ?_) (a1, 0) ⟨0, by omega, rfl, by simp [sumN]⟩
  obtain ⟨k, i'⟩ := y
  obtain ⟨i, hi, hy, hk⟩ := hI
  simp only at hy hk ⊢
  subst hy
  have hs := sum_take_le cntShd a0 i
  refine ⟨fun hlt => ?_, fun hge => ?_⟩
  · have hla : i < a0.length := by omega
    have hat := sum_at (c := cntShd) hla
    have hstep := sum_take_succ (c := cntShd) hla
    have hg := marked_get hmk hla
    rw [← hk] at hg
    rw [rx_get _ hla]
    generalize a0[i] = x at hat hstep hg
    have hc : cntShd x = 3 + sumN (x.2.2.1.map cntSlt) := rfl
    have g1 : x.1 = k := congrArg (fun z : Shd => z.1) hg
    have g2 : x.2.1 = k + 1 := congrArg (fun z : Shd => z.2.1) hg
    have g3 : x.2.2.1 = markL markSlt cntSlt x.2.2.1 (k + 1 + 1) := congrArg (fun z : Shd => z.2.2.1) hg
    have g4 : x.2.2.2 = k + 1 + 1 + (sumN (x.2.2.1.map cntSlt) : Nat) := congrArg (fun z : Shd => z.2.2.2) hg
    have e1 : mHeldSlotS x.2.2.1 (k + 1 + 1) = k + 1 + 1 + (sumN (x.2.2.1.map cntSlt) : Nat) := rfl
    rw [wrap64 (n := k + 1) (by omega) (by omega), wrap64 (n := k + 1 + 1) (by omega) (by omega), e1, wrap64 (n := k + 1 + 1 + (sumN (x.2.2.1.map cntSlt) : Nat) + 1) (by omega) (by omega), wrapS (by omega)]
    refine ⟨by omega, hlt, fun hne => absurd g1 hne, fun _ => ⟨by omega, hlt, fun hne => absurd g2 hne, fun _ => ⟨by omega, hlt, ⟨⟨by omega, by omega⟩, g3.symm⟩, fun hn => by omega, fun _ => ⟨by omega, hlt, fun hne => absurd g4 hne, fun _ => ?_⟩⟩⟩⟩
    refine ih _ ⟨i + 1, by omega, rfl, ?_⟩ (by simp only [Int.toNat_natCast]; omega)
    simp only
    rw [hstep]
    omega
  · have hie : i = a0.length := by omega
    subst hie
    rw [List.take_of_length_le (Nat.le_refl _)] at hk
    exact hk
theorem laws_markGenRowS_ok (a0 : List Gen) (a1 : Int) (h : pMarkGenRowS a0 a1) : s_laws_markGenRowS a0 a1 (fun r y => r = mMarkGenRowS a0 a1 ∧ y = wMarkGenRowS a0 a1) := by
  obtain ⟨k0, k1⟩ := h
  have hsum := sum_gen a0
  have hm := markL_length (f := markGen) (c := cntGen) a0 a1
  intro L hL
  refine loopI hL (fun y => ∃ i : Nat, i ≤ a0.length ∧ y.2.1 = (i : Int) ∧ y.1 = a1 + (sumN ((a0.take i).map cntGen) : Nat) ∧ y.2.2.length = a0.length ∧ y.2.2.take i = (markL markGen cntGen a0 a1).take i) (fun y => a0.length + 1 - y.2.1.toNat) (fun y hI ih => ?_) (a1, 0, a0) ⟨0, by omega, rfl, by simp [sumN], rfl, by simp⟩
  obtain ⟨k, i', xs⟩ := y
  obtain ⟨i, hi, hy, hk, hl, ht⟩ := hI
  simp only at hy hk hl ht ⊢
  subst hy
  have hs := sum_take_le cntGen a0 i
  refine ⟨fun hlt => ?_, fun hge => ?_⟩
  · have hlt' : i < xs.length := by omega
    have hla : i < a0.length := by omega
    have hat := sum_at (c := cntGen) hla
    have hstep := sum_take_succ (c := cntGen) hla
    have rs : ∀ a : Gen, rx (xs.set i a) (i : Int) = a := fun a => rx_set hlt' a
    have hmk := markL_get (f := markGen) (c := cntGen) a0 a1 i hla
    rw [← hk] at hmk
    have hc : cntGen a0[i] = 2 := rfl
    simp only [Int.toNat_natCast, rs, List.length_set, List.set_set]
    rw [wrap64 (n := k + 1) (by omega) (by omega), wrap64 (n := k + 1 + 1) (by omega) (by omega), wrapS (by omega)]
    refine ⟨⟨by omega, by omega⟩, by omega, hlt, by omega, hlt, ?_⟩
    refine ih _ ⟨i + 1, by omega, rfl, ?_, by simp [hl], ?_⟩ (by simp only [Int.toNat_natCast]; omega)
    · simp only
      rw [hstep]
      omega
    · exact take_set_succ hlt' (by omega) ht hmk
  · have hie : i = a0.length := by omega
    subst hie
    rw [List.take_of_length_le (by omega), List.take_of_length_le (by omega)] at ht
    rw [List.take_of_length_le (Nat.le_refl _)] at hk
    exact ⟨hk, by unfold wMarkGenRowS; rw [ht]⟩
theorem laws_heldGenRowS_ok (a0 : List Gen) (a1 : Int) (h : pHeldGenRowS a0 a1) : s_laws_heldGenRowS a0 a1 (fun r => r = mHeldGenRowS a0 a1) := by
  obtain ⟨⟨k0, k1⟩, hmk⟩ := h
  have hsum := sum_gen a0
  intro L hL
  refine loopI hL (fun y => ∃ i : Nat, i ≤ a0.length ∧ y.2 = (i : Int) ∧ y.1 = a1 + (sumN ((a0.take i).map cntGen) : Nat)) (fun y => a0.length + 1 - y.2.toNat) (fun y hI ih => ?_) (a1, 0) ⟨0, by omega, rfl, by simp [sumN]⟩
  obtain ⟨k, i'⟩ := y
  obtain ⟨i, hi, hy, hk⟩ := hI
  simp only at hy hk ⊢
  subst hy
  have hs := sum_take_le cntGen a0 i
  refine ⟨fun hlt => ?_, fun hge => ?_⟩
  · have hla : i < a0.length := by omega
    have hat := sum_at (c := cntGen) hla
    have hstep := sum_take_succ (c := cntGen) hla
    have hg := marked_get hmk hla
    rw [← hk] at hg
    rw [rx_get _ hla]
    generalize a0[i] = x at hat hstep hg
    have hc : cntGen x = 2 := rfl
    have g1 : x.1 = mMarkText k := congrArg (fun z : Gen => z.1) hg
    have g2 : x.2 = k + 1 := congrArg (fun z : Gen => z.2) hg
    rw [wrap64 (n := k + 1) (by omega) (by omega), wrap64 (n := k + 1 + 1) (by omega) (by omega), wrapS (by omega)]
    refine ⟨by omega, hlt, ⟨by omega, by omega⟩, fun hne => absurd g1 hne, fun _ => ⟨by omega, hlt, fun hne => absurd g2 hne, fun _ => ?_⟩⟩
    refine ih _ ⟨i + 1, by omega, rfl, ?_⟩ (by simp only [Int.toNat_natCast]; omega)
    simp only
    rw [hstep]
    omega
  · have hie : i = a0.length := by omega
    subst hie
    rw [List.take_of_length_le (Nat.le_refl _)] at hk
    exact hk
theorem laws_markCache_ok (a0 : Cch) (a1 : Int) (h : pMarkCache a0 a1) : s_laws_markCache a0 a1 (fun r y => r = mMarkCache a0 a1 ∧ y = wMarkCache a0 a1) := by
  obtain ⟨k0, k1⟩ := h
  refine ⟨⟨by omega, by omega⟩, ⟨?_, ?_⟩, rfl, rfl⟩
  · unfold mMarkShardS; omega
  · unfold mMarkShardS; omega
theorem laws_heldCache_ok (a0 : Cch) (a1 : Int) (h : pHeldCache a0 a1) : s_laws_heldCache a0 a1 (fun r => r = mHeldCache a0 a1) := by
  obtain ⟨⟨k0, k1⟩, m1, m2⟩ := h
  have e1 : mHeldShardS a0.1 a1 = a1 + (sumN (a0.1.map cntShd) : Nat) := rfl
  have e2 : mHeldGenRowS a0.2 (mHeldShardS a0.1 a1) = a1 + (sumN (a0.1.map cntShd) : Nat) + (sumN (a0.2.map cntGen) : Nat) := rfl
  refine ⟨⟨⟨by omega, by omega⟩, m1⟩, fun hn => by omega, fun _ => ⟨⟨⟨by omega, by omega⟩, m2⟩, fun hn => by omega, fun _ => rfl⟩⟩
theorem cch_md {c : Cch} (h : md c) : md c.1 ∧ md c.2 := by
  unfold md at h ⊢
  rw [cz_pair] at h
  omega
theorem impl_cloneCache_ok (a0 : Cch) (h : pCloneCache a0) : s_impl_cloneCache a0 (fun r => r = mCloneCache a0) := by
  obtain ⟨h1, h2⟩ := cch_md h
  have l1 := md_len' h1
  have l2 := md_len' h2
  refine ⟨by unfold pClone_GenRow; omega, ?_⟩
  intro L hL
  refine loopG hL a0.1.length (fun i y => y.1 = (i : Int) ∧ y.2.1 = a0.1.take i ∧ y.2.2 = a0.2) (fun i y hi hI hn => ?_) (s0 := (0, [], mClone_GenRow a0.2)) ⟨rfl, by simp, rfl⟩
  obtain ⟨i', xs, gs⟩ := y
  obtain ⟨e1, e2, e3⟩ := hI
  simp only at e1 e2 e3 ⊢
  subst e1 e2 e3
  rw [wrapS (by omega)]
  refine ⟨fun hlt => ?_, fun hge => ?_⟩
  · have hi2 : i < a0.1.length := by omega
    refine ⟨by omega, hlt, cch_shard h hi2, by simp only [List.length_take, List.length_cons, List.length_nil]; omega, hn _ hi2 ⟨rfl, ?_, rfl⟩⟩
    rw [rx_get _ hi2, take_succ_app hi2]
    rfl
  · rw [List.take_of_length_le (by omega)]
    rfl
theorem spec_l13Copy_ok (a0 : Cch) (h : pL13Copy a0) : s_spec_l13Copy a0 (fun r => r = mL13Copy a0) := by
  obtain ⟨h1, h2⟩ := cch_md h
  have l1 := md_len' h1
  have l2 := md_len' h2
  refine ⟨by simp only [List.length_nil]; omega, ?_⟩
  intro L hL
  refine loopG hL a0.1.length (fun i y => y.1 = (i : Int) ∧ y.2.1 = a0.1.take i ∧ y.2.2 = a0.2) (fun i y hi hI hn => ?_) (s0 := (0, [], [] ++ a0.2)) ⟨rfl, by simp, rfl⟩
  obtain ⟨i', xs, gs⟩ := y
  obtain ⟨e1, e2, e3⟩ := hI
  simp only at e1 e2 e3 ⊢
  subst e1 e2 e3
  rw [wrapS (by omega)]
  refine ⟨fun hlt => ?_, fun hge => ?_⟩
  · have hi2 : i < a0.1.length := by omega
    refine ⟨by omega, hlt, cch_shard h hi2, by simp only [List.length_take, List.length_cons, List.length_nil]; omega, hn _ hi2 ⟨rfl, ?_, rfl⟩⟩
    rw [rx_get _ hi2, take_succ_app hi2]
    rfl
  · rw [List.take_of_length_le (by omega)]
    rfl
theorem lxor_lt {h : Int} {b : UInt8} (h0 : 0 ≤ h) (h1 : h < 4294967296) : 0 ≤ lxor IntKind.i64 h (IntKind.i64.wrap (b.toNat : Int)) ∧ lxor IntKind.i64 h (IntKind.i64.wrap (b.toNat : Int)) < 4294967296 := by
  have hb := b.toNat_lt
  have w : IntKind.i64.wrap (b.toNat : Int) = (b.toNat : Int) := wrap64 (by omega) (by omega)
  rw [w]
  obtain ⟨n, rfl⟩ : ∃ n : Nat, h = n := ⟨h.toNat, by omega⟩
  have hx : n ^^^ b.toNat < 2 ^ 32 := Nat.xor_lt_two_pow (by omega) (by omega)
  have e : lxor IntKind.i64 (n : Int) (b.toNat : Int) = ((n ^^^ b.toNat : Nat) : Int) := by
    unfold lxor bitsOf
    have e1 : ((BitVec.ofInt IntKind.i64.bits (n : Int)) ^^^ (BitVec.ofInt IntKind.i64.bits (b.toNat : Int))).toNat = n ^^^ b.toNat := by
      rw [BitVec.toNat_xor, BitVec.ofInt_natCast, BitVec.ofInt_natCast, BitVec.toNat_ofNat, BitVec.toNat_ofNat]
      show n % 2 ^ 64 ^^^ b.toNat % 2 ^ 64 = _
      rw [Nat.mod_eq_of_lt (by omega), Nat.mod_eq_of_lt (by omega)]
    rw [e1]
    exact wrap64 (by omega) (by omega)
  rw [e]
  omega
theorem fnvStep_range {h : Int} (b : UInt8) (h0 : 0 ≤ h) (h1 : h < 4294967296) : 0 ≤ fnvStep h b ∧ fnvStep h b < 4294967296 := by
  obtain ⟨x0, x1⟩ := lxor_lt (b := b) h0 h1
  unfold fnvStep
  generalize lxor IntKind.i64 h (IntKind.i64.wrap (b.toNat : Int)) = x at x0 x1
  rw [wrap64 (by omega) (by omega)]
  exact ⟨Int.tmod_nonneg _ (by omega), Int.tmod_lt_of_pos _ (by omega)⟩
theorem fnv_fold : ∀ (l : List UInt8) (h : Int), 0 ≤ h → h < 4294967296 → 0 ≤ l.foldl fnvStep h
  | [], h, h0, _ => h0
  | b :: r, h, h0, h1 => fnv_fold r _ (fnvStep_range b h0 h1).1 (fnvStep_range b h0 h1).2
theorem fnv_nonneg (s : S) : 0 ≤ mFnv s := fnv_fold _ _ (by omega) (by omega)
theorem shardOf_range {c : Cch} (u : S) (h : 0 < c.1.length) : 0 ≤ mShardOf c u ∧ mShardOf c u < (c.1.length : Int) := by
  unfold mShardOf
  rw [if_neg (by omega)]
  exact ⟨Int.tmod_nonneg _ (fnv_nonneg u), Int.tmod_lt_of_pos _ (by omega)⟩
open Classical in
theorem cacheOk_len {c : Cch} (h : mCacheOk c = true) : 0 < c.1.length := by
  have := (of_decide_eq_true h).1
  unfold mIn at this
  simp only [Bool.and_eq_true, decide_eq_true_eq] at this
  omega
theorem rx_md {c : Cch} {u : S} (h : md c) (hr : 0 ≤ mShardOf c u ∧ mShardOf c u < (c.1.length : Int)) : md (rx c.1 (mShardOf c u)) := by
  obtain ⟨n, e⟩ : ∃ n : Nat, mShardOf c u = n := ⟨(mShardOf c u).toNat, by omega⟩
  rw [e] at hr ⊢
  exact cch_shard h (by omega)
theorem rx_slt_md {s : Shd} {i : Int} (h : md s) (hr : 0 ≤ i ∧ i < (s.2.2.1.length : Int)) : md (rx s.2.2.1 i) := by
  obtain ⟨n, rfl⟩ : ∃ n : Nat, i = n := ⟨i.toNat, by omega⟩
  exact md_mem (shd_md h) (rx_mem _ (by omega))
theorem cntShd_le (x : Shd) : cntShd x ≤ 3 + 8 * cz x := by
  have h1 := sum_le_of cnt_le_cz x.2.2.1
  rw [sum_mul] at h1
  have e : cz x = x.2.2.1.length + sumN (x.2.2.1.map cz) := by simp only [cz_pair, cz_int, cz_list]; omega
  unfold cntShd
  omega
theorem cch_cnt {c : Cch} (h : md c) : sumN (c.1.map cntShd) + sumN (c.2.map cntGen) ≤ 16777216 := by
  have h1 := sum_le_of cntShd_le c.1
  rw [sum_mul] at h1
  rw [sum_gen]
  unfold md at h
  rw [cz_pair, cz_list, cz_list] at h
  omega
end Go.Ev
end

section
/- Laws of the plain library: slots taken out of a ring; ShardDrop, ShardPut, CacheFill. -/
set_option linter.unusedVariables false
set_option linter.unusedSimpArgs false
namespace Go.Ev
theorem sum_erase {α : Type} (f : α → Nat) : ∀ (l : List α) (i : Nat), sumN ((l.eraseIdx i).map f) ≤ sumN (l.map f)
  | [], i => by simp
  | a :: l, 0 => by simp [sumN]
  | a :: l, i + 1 => by
    have := sum_erase f l i
    simp only [List.eraseIdx_cons_succ, List.map_cons, sumN]
    omega
theorem cz_shd (t : Shd) : cz t = t.2.2.1.length + sumN (t.2.2.1.map cz) := by simp only [cz_pair, cz_int, cz_list]; omega
theorem handOut_ok {i hd m : Int} (h0 : 0 ≤ i) (h1 : 0 ≤ hd) (h2 : hd ≤ 1048576) : 0 ≤ handOut i hd m ∧ handOut i hd m ≤ 1048576 ∧ (handOut i hd m < m ∨ handOut i hd m = 0) := by
  unfold handOut
  split <;> split <;> (try split) <;> omega
theorem rem_len {s : Shd} {i : Int} (h0 : 0 ≤ i) (h1 : i < (s.2.2.1.length : Int)) : (mL12Remove s i).2.2.1.length = s.2.2.1.length - 1 := by
  show (s.2.2.1.eraseIdx i.toNat).length = _
  rw [List.length_eraseIdx, if_pos (by omega)]
theorem rem_hand {s : Shd} {i : Int} (h : pL12Remove s i) : 0 ≤ (mL12Remove s i).2.2.2 ∧ (mL12Remove s i).2.2.2 ≤ 1048576 ∧ ((mL12Remove s i).2.2.2 < ((mL12Remove s i).2.2.1.length : Int) ∨ (mL12Remove s i).2.2.2 = 0) :=
  handOut_ok h.1 h.2.2.2.1 h.2.2.2.2
theorem rem_md {s : Shd} {i : Int} (h : md s) : md (mL12Remove s i) := by
  unfold md at h ⊢
  rw [cz_shd] at h ⊢
  have h1 := sum_erase cz s.2.2.1 i.toNat
  have h2 : (s.2.2.1.eraseIdx i.toNat).length ≤ s.2.2.1.length := by
    rw [List.length_eraseIdx]; split <;> omega
  show (s.2.2.1.eraseIdx i.toNat).length + sumN ((s.2.2.1.eraseIdx i.toNat).map cz) ≤ _
  omega
theorem wd_small {n : Int} (h0 : 0 ≤ n) (h1 : n ≤ 1048576) : wd n := by
  rw [wd_int]
  unfold in64
  omega
theorem rem_wd {s : Shd} {i : Int} (h : wd s) (hi : pL12Remove s i) : wd (mL12Remove s i) := by
  have hh := rem_hand hi
  refine ⟨h.1, h.2.1, ⟨?_, fun j x hx => ?_⟩, ?_⟩
  · have := h.2.2.1.1
    show (s.2.2.1.eraseIdx i.toNat).length ≤ _
    rw [List.length_eraseIdx]
    split <;> omega
  · have hx' : (s.2.2.1.eraseIdx i.toNat)[j]? = some x := hx
    exact wd_mem h.2.2.1 (List.mem_of_mem_eraseIdx (List.mem_of_getElem? hx'))
  · exact wd_small hh.1 hh.2.1
theorem impl_takeOut_ok (a0 : Shd) (a1 : Int) (h : pTakeOut a0 a1) : s_impl_takeOut a0 a1 (fun r y => r = mTakeOut a0 a1 ∧ y = wTakeOut a0 a1) := by
  obtain ⟨h0, h1, h2, h3, h4⟩ := h
  unfold s_impl_takeOut
  rw [wrap64 (n := a1 + 1) (by omega) (by omega), wrap64 (n := a0.2.2.2 - 1) (by omega) (by omega)]
  refine ⟨⟨h0, h1, rfl⟩, fun hl => ⟨fun hm => ⟨rfl, ?_⟩, fun hm => ⟨rfl, ?_⟩⟩, fun hl => ⟨fun hm => ⟨rfl, ?_⟩, fun hm => ⟨rfl, ?_⟩⟩⟩
  all_goals
    unfold wTakeOut mL12Remove handOut
    unfold mDelete_Slot at hm ⊢
    simp only [hl, if_true, if_false, hm]
theorem impl_ShardPut_1_ok (a0 a1 : Sto) (h : pShardPut_1 a0 a1) : s_impl_ShardPut_1 a0 a1 (fun r => r = mShardPut_1 a0 a1) := ⟨h, rfl⟩
theorem rx_at {α : Type} [Dft α] {xs : List α} {i : Int} (h : i.toNat < xs.length) : rx xs i = xs[i.toNat] := by
  unfold rx
  rw [List.getD_eq_getElem?_getD, List.getElem?_eq_getElem h]
  rfl
theorem set_same (xs : List Slt) (i : Int) : xs.set i.toNat (rx xs i) = xs := by
  by_cases h : i.toNat < xs.length
  · have : rx xs i = xs[i.toNat] := by
      unfold rx
      rw [List.getD_eq_getElem?_getD, List.getElem?_eq_getElem h]
      rfl
    rw [this, List.set_getElem_self]
  · exact List.set_eq_of_length_le (by omega)
theorem takeAll_loop {f : Sto → Bool} {a0 : Shd} {n : Int} {k : Nat} {s : Shd} (hi : 0 < k) (hk : k ≤ s.2.2.1.length) (h0 : s.2.2.1.length ≤ 1048576) (h1 : 0 ≤ s.2.2.2) (h2 : s.2.2.2 ≤ 1048576) :
    pL12Remove s ((k - 1 : Nat) : Int) ∧ k - 1 ≤ (mL12Remove s ((k - 1 : Nat) : Int)).2.2.1.length ∧ (mL12Remove s ((k - 1 : Nat) : Int)).2.2.1.length ≤ 1048576 ∧ 0 ≤ (mL12Remove s ((k - 1 : Nat) : Int)).2.2.2 ∧ (mL12Remove s ((k - 1 : Nat) : Int)).2.2.2 ≤ 1048576 := by
  have hp : pL12Remove s ((k - 1 : Nat) : Int) := ⟨by omega, by omega, h0, h1, h2⟩
  have hh := rem_hand hp
  have hl := rem_len (s := s) (i := ((k - 1 : Nat) : Int)) (by omega) (by omega)
  exact ⟨hp, by omega, by omega, hh.1, hh.2.1⟩
def AtK (f : Sto → Bool) (P : Shd → Prop) (a0 : Shd) (n i : Int) (s : Shd) : Prop := ∃ k : Nat, i = (k : Int) - 1 ∧ k ≤ s.2.2.1.length ∧ s.2.2.1.length ≤ 1048576 ∧ 0 ≤ s.2.2.2 ∧ s.2.2.2 ≤ 1048576 ∧ 0 ≤ n ∧ n + k ≤ 1048576 ∧ P s ∧ tkAll f k s n = tkAll f a0.2.2.1.length a0 0
theorem AtK.init {f : Sto → Bool} {P : Shd → Prop} {a0 : Shd} (h : pTkAll a0) (hP : P a0) : AtK f P a0 0 ((a0.2.2.1.length : Int) - 1) a0 := ⟨a0.2.2.1.length, rfl, Nat.le_refl _, h.1, h.2.1, h.2.2, by omega, by have := h.1; omega, hP, rfl⟩
theorem AtK.pos {f : Sto → Bool} {P : Shd → Prop} (hP : ∀ s i, P s → P (mL12Remove s i)) {a0 : Shd} {n i : Int} {s : Shd} (h : AtK f P a0 n i s) (h0 : 0 ≤ i) : i < (s.2.2.1.length : Int) ∧ pL12Remove s i ∧ i ≤ 1048576 ∧ 0 ≤ n ∧ n < 1048576 ∧ P s ∧
    (f (stoOf (rx s.2.2.1 i)) = true → AtK f P a0 (n + 1) (i - 1) (mL12Remove s i)) ∧ (¬ f (stoOf (rx s.2.2.1 i)) = true → AtK f P a0 n (i - 1) s) := by
  obtain ⟨k, rfl, hk, hl, h1, h2, hn, hnk, hp, ht⟩ := h
  have ek : ((k : Int) - 1) = ((k - 1 : Nat) : Int) := by omega
  rw [ek]
  obtain ⟨p1, p2, p3, p4, p5⟩ := takeAll_loop (f := f) (a0 := a0) (n := n) (k := k) (s := s) (by omega) hk hl h1 h2
  have hu : tkAll f k s n = if f (stoOf (rx s.2.2.1 ((k - 1 : Nat) : Int))) = true then tkAll f (k - 1) (mL12Remove s ((k - 1 : Nat) : Int)) (n + 1) else tkAll f (k - 1) s n := by
    obtain ⟨m, rfl⟩ : ∃ m, k = m + 1 := ⟨k - 1, by omega⟩
    rfl
  refine ⟨by omega, p1, by omega, hn, by omega, hp, fun hf => ?_, fun hf => ?_⟩
  · rw [hu, if_pos hf] at ht
    exact ⟨k - 1, rfl, p2, p3, p4, p5, by omega, by omega, hP _ _ hp, ht⟩
  · rw [hu, if_neg hf] at ht
    exact ⟨k - 1, rfl, by omega, hl, h1, h2, hn, by omega, hp, ht⟩
theorem AtK.stop {f : Sto → Bool} {P : Shd → Prop} {a0 : Shd} {n i : Int} {s : Shd} (h : AtK f P a0 n i s) (h0 : ¬ 0 ≤ i) : (s, n) = tkAll f a0.2.2.1.length a0 0 := by
  obtain ⟨k, rfl, hk, hl, h1, h2, hn, hnk, hp, ht⟩ := h
  obtain rfl : k = 0 := by omega
  exact ht
theorem takeAll_ShardPut_1_ok (a0 : Shd) (a1 : Sto) (h : ptakeAll_ShardPut_1 a0 a1) : s_takeAll_ShardPut_1 a0 a1 (fun r y => r = mtakeAll_ShardPut_1 a0 a1 ∧ y = wtakeAll_ShardPut_1 a0 a1) := by
  obtain ⟨h, hx⟩ := h
  intro L hL
  have hl := h.1
  rw [wrap64 (n := (a0.2.2.1.length : Int) - 1) (by omega) (by omega)]
  refine loopI hL (fun y => AtK (fun x => mShardPut_1 x a1) (fun _ => True) a0 y.1 y.2.1 y.2.2) (fun y => (y.2.1 + 1).toNat) (fun y hI ih => ?_) (0, _, a0) (AtK.init h trivial)
  obtain ⟨n, i, s⟩ := y
  simp only at hI ih ⊢
  refine ⟨fun h0 => ?_, fun h0 => ?_⟩
  · obtain ⟨p1, p2, p3, p4, p5, _, p6, p7⟩ := hI.pos (fun _ _ _ => trivial) h0
    refine ⟨h0, p1, ?_⟩
    rintro _ rfl _ rfl
    refine ⟨hx, trivial, ?_⟩
    rintro y4 e4 y5 _
    have e4 : y4 = s.2.2.1 := e4.trans (set_same _ _)
    subst e4
    rw [wrap64 (n := n + 1) (by omega) (by omega), wrap64 (n := i - 1) (by omega) (by omega)]
    exact ⟨fun hf => ⟨p2, ih _ (p6 hf) (by simp only; omega)⟩, fun hf => ih _ (p7 hf) (by simp only; omega)⟩
  · have := hI.stop h0
    unfold mtakeAll_ShardPut_1 wtakeAll_ShardPut_1
    rw [← this]
    exact ⟨rfl, rfl⟩
theorem ok_tk {s : Shd} (h : mShardOk s = true) (hm : md s) : pTkAll s ∧ hOk s ∧ s.1 ≤ 8 ∧ 1 ≤ s.1 ∧ s.2.1 ≤ 500 ∧ 0 ≤ s.2.1 ∧ mBodies s.2.2.1 ≤ s.2.1 ∧ (s.2.2.1.length : Int) ≤ s.1 := by
  have hl := md_len' (shd_md hm)
  unfold mShardOk mShardSizes mIn at h
  simp only [Bool.and_eq_true, Bool.or_eq_true, decide_eq_true_eq] at h
  obtain ⟨⟨⟨⟨⟨h1, h2⟩, h3⟩, h4⟩, h5⟩, h6⟩ := h
  have hh : 0 ≤ s.2.2.2 ∧ (s.2.2.2 < (s.2.2.1.length : Int) ∨ s.2.2.2 = 0) := by rcases h4 with h4 | h4 <;> omega
  exact ⟨⟨hl, hh.1, by omega⟩, ⟨hh.1, hh.2, hl⟩, by omega, by omega, by omega, by omega, h6, h3⟩
def usedN (s : Shd) : Nat := s.2.2.1.countP fun x => x.2.2.2.2.2.2.2
theorem evict_step {s : Shd} (h : pL12Evict s) (hu : (rx s.2.2.1 s.2.2.2).2.2.2.2.2.2.2 = true) :
    pL12Evict (s.1, s.2.1, s.2.2.1.set s.2.2.2.toNat (unused (rx s.2.2.1 s.2.2.2)), (s.2.2.2 + 1).tmod (s.2.2.1.length : Int)) ∧ usedN (s.1, s.2.1, s.2.2.1.set s.2.2.2.toNat (unused (rx s.2.2.1 s.2.2.2)), (s.2.2.2 + 1).tmod (s.2.2.1.length : Int)) + 1 = usedN s := by
  obtain ⟨h0, h1, h2⟩ := h
  obtain ⟨n, hn⟩ : ∃ n : Nat, s.2.2.2 = n := ⟨s.2.2.2.toNat, by omega⟩
  have hl : n < s.2.2.1.length := by omega
  refine ⟨⟨?_, ?_, ?_⟩, ?_⟩
  · show 0 ≤ (s.2.2.2 + 1).tmod (s.2.2.1.length : Int)
    exact Int.tmod_nonneg _ (by omega)
  · show (s.2.2.2 + 1).tmod (s.2.2.1.length : Int) < ((s.2.2.1.set _ _).length : Int)
    rw [List.length_set]
    exact Int.tmod_lt_of_pos _ (by omega)
  · show (s.2.2.1.set _ _).length ≤ _
    rw [List.length_set]
    exact h2
  · unfold usedN
    simp only
    rw [hn] at hu ⊢
    rw [rx_get _ hl] at hu ⊢
    simp only [Int.toNat_natCast]
    rw [List.countP_set hl]
    have hpos : 0 < s.2.2.1.countP fun x => x.2.2.2.2.2.2.2 := List.countP_pos_iff.2 ⟨_, List.getElem_mem hl, hu⟩
    rw [if_pos hu, if_neg (by simp [unused])]
    omega
theorem sum_set_same {α : Type} {f : α → Nat} {l : List α} {i : Nat} {a : α} (h : ∀ hi : i < l.length, f a = f l[i]) : sumN ((l.set i a).map f) = sumN (l.map f) := by rw [map_set_same h]
theorem cz_unused (x : Slt) : cz (unused x) = cz x := by simp only [unused, cz_pair, cz_bool]
theorem evict_md {s : Shd} (h : pL12Evict s) (hm : md s) : md ((s.1, s.2.1, s.2.2.1.set s.2.2.2.toNat (unused (rx s.2.2.1 s.2.2.2)), (s.2.2.2 + 1).tmod (s.2.2.1.length : Int)) : Shd) := by
  obtain ⟨h0, h1, h2⟩ := h
  obtain ⟨n, hn⟩ : ∃ n : Nat, s.2.2.2 = n := ⟨s.2.2.2.toNat, by omega⟩
  have hl : n < s.2.2.1.length := by omega
  unfold md at hm ⊢
  rw [cz_shd] at hm ⊢
  simp only [List.length_set]
  rw [sum_set_same (f := cz) (fun hi => by rw [cz_unused, rx_at hi])]
  exact hm
theorem evict_wd {s : Shd} (h : pL12Evict s) (hm : wd s) : wd ((s.1, s.2.1, s.2.2.1.set s.2.2.2.toNat (unused (rx s.2.2.1 s.2.2.2)), (s.2.2.2 + 1).tmod (s.2.2.1.length : Int)) : Shd) := by
  obtain ⟨h0, h1, h2⟩ := h
  obtain ⟨n, hn⟩ : ∃ n : Nat, s.2.2.2 = n := ⟨s.2.2.2.toNat, by omega⟩
  have hl : n < s.2.2.1.length := by omega
  refine ⟨hm.1, hm.2.1, ⟨?_, fun j x hx => ?_⟩, wd_small (Int.tmod_nonneg _ (by omega)) ?_⟩
  · show (s.2.2.1.set _ _).length ≤ _
    rw [List.length_set]
    exact hm.2.2.1.1
  · have hx' : (s.2.2.1.set s.2.2.2.toNat (unused (rx s.2.2.1 s.2.2.2)))[j]? = some x := hx
    rcases List.mem_or_eq_of_mem_set (List.mem_of_getElem? hx') with hm' | hm'
    · exact wd_mem hm.2.2.1 hm'
    · subst hm'
      rw [hn]
      have hw := wd_mem hm.2.2.1 (rx_mem _ hl)
      exact ⟨hw.1, hw.2.1, hw.2.2.1, hw.2.2.2.1, hw.2.2.2.2.1, hw.2.2.2.2.2.1, hw.2.2.2.2.2.2.1, trivial⟩
  · have := Int.tmod_lt_of_pos (s.2.2.2 + 1) (b := (s.2.2.1.length : Int)) (by omega)
    show (s.2.2.2 + 1).tmod (s.2.2.1.length : Int) ≤ 1048576
    omega
theorem evict_facts : ∀ (k : Nat) (s : Shd), usedN s < k → pL12Evict s → (evictTo k s).2.2.1.length = s.2.2.1.length - 1 ∧ hOk (evictTo k s) ∧ (evictTo k s).1 = s.1 ∧ (evictTo k s).2.1 = s.2.1 ∧ (md s → md (evictTo k s)) ∧ (wd s → wd (evictTo k s))
  | 0, s, h, _ => by omega
  | k + 1, s, h, hp => by
    unfold evictTo
    split
    · next hu =>
      obtain ⟨h1, h2⟩ := evict_step hp hu
      obtain ⟨i1, i2, i3, i4, i5, i6⟩ := evict_facts k _ (by omega) h1
      refine ⟨i1.trans (by show (s.2.2.1.set _ _).length - 1 = _; rw [List.length_set]), i2, i3, i4, fun hm => i5 (evict_md hp hm), fun hm => i6 (evict_wd hp hm)⟩
    · obtain ⟨h0, h1, h2⟩ := hp
      have hr : pL12Remove s s.2.2.2 := ⟨h0, h1, h2, h0, by omega⟩
      have hh := rem_hand hr
      have hl := rem_len h0 h1
      exact ⟨hl, ⟨hh.1, hh.2.2, by omega⟩, rfl, rfl, rem_md, fun hw => rem_wd hw hr⟩
theorem used_le (s : Shd) : usedN s < s.2.2.1.length + 1 := by
  have := List.countP_le_length (p := fun x : Slt => x.2.2.2.2.2.2.2) (l := s.2.2.1)
  unfold usedN
  omega
def EvI (a0 s : Shd) : Prop := ∃ k, usedN s < k ∧ pL12Evict s ∧ evictTo k s = mL12Evict a0
theorem EvI.init {a0 : Shd} (h : pL12Evict a0) : EvI a0 a0 := ⟨_, used_le a0, h, rfl⟩
theorem EvI.go {a0 s : Shd} (h : EvI a0 s) (hu : (rx s.2.2.1 s.2.2.2).2.2.2.2.2.2.2 = true) : EvI a0 (s.1, s.2.1, s.2.2.1.set s.2.2.2.toNat (unused (rx s.2.2.1 s.2.2.2)), (s.2.2.2 + 1).tmod (s.2.2.1.length : Int)) ∧ usedN (s.1, s.2.1, s.2.2.1.set s.2.2.2.toNat (unused (rx s.2.2.1 s.2.2.2)), (s.2.2.2 + 1).tmod (s.2.2.1.length : Int)) < usedN s := by
  obtain ⟨k, h1, h2, h3⟩ := h
  obtain ⟨e1, e2⟩ := evict_step h2 hu
  obtain ⟨m, rfl⟩ : ∃ m, k = m + 1 := ⟨k - 1, by omega⟩
  refine ⟨⟨m, by omega, e1, ?_⟩, by omega⟩
  rw [← h3]
  show _ = if _ then _ else _
  rw [if_pos hu]
theorem EvI.stop {a0 s : Shd} (h : EvI a0 s) (hu : ¬ (rx s.2.2.1 s.2.2.2).2.2.2.2.2.2.2 = true) : mL12Remove s s.2.2.2 = mL12Evict a0 := by
  obtain ⟨k, h1, h2, h3⟩ := h
  obtain ⟨m, rfl⟩ : ∃ m, k = m + 1 := ⟨k - 1, by omega⟩
  rw [← h3]
  show _ = if _ then _ else _
  rw [if_neg hu]
theorem EvI.rem {a0 s : Shd} (h : EvI a0 s) : pL12Remove s s.2.2.2 ∧ pL12Evict s := by
  obtain ⟨k, h1, h2, h3⟩ := h
  exact ⟨⟨h2.1, h2.2.1, h2.2.2, h2.1, by have := h2.2.1; have := h2.2.2; omega⟩, h2⟩
theorem impl_evict_ok (a0 : Shd) (h : pEvict a0) : s_impl_evict a0 (fun r y => r = mEvict a0 ∧ y = wEvict a0) := by
  intro L hL
  refine loopI hL (fun s => EvI a0 s) usedN (fun s hI ih => ?_) a0 (EvI.init h)
  obtain ⟨hr, h0, h1, h2⟩ := hI.rem
  refine ⟨h0, h1, fun hu => ⟨h0, h1, ?_⟩, fun hu => ⟨hr, rfl, hI.stop hu⟩⟩
  rintro _ rfl
  obtain ⟨g1, g2⟩ := hI.go hu
  rw [List.length_set, wrap64 (n := s.2.2.2 + 1) (by omega) (by omega)]
  exact ⟨by omega, ih _ g1 g2⟩
theorem spec_l12Evict_ok (a0 : Shd) (h : pL12Evict a0) : s_spec_l12Evict a0 (fun r => r = mL12Evict a0) := by
  intro L hL
  refine loopI hL (fun s => EvI a0 s) usedN (fun s hI ih => ?_) a0 (EvI.init h)
  obtain ⟨hr, h0, h1, h2⟩ := hI.rem
  refine ⟨h0, h1, fun hu => ⟨h0, h1, ?_⟩, fun hu => ⟨hr, hI.stop hu⟩⟩
  rintro _ rfl
  obtain ⟨g1, g2⟩ := hI.go hu
  rw [List.length_set, wrap64 (n := s.2.2.2 + 1) (by omega) (by omega)]
  exact ⟨by omega, ih _ g1 g2⟩
theorem tk_facts (f : Sto → Bool) : ∀ (k : Nat) (s : Shd) (n : Int), k ≤ s.2.2.1.length → hOk s → (tkAll f k s n).1.1 = s.1 ∧ (tkAll f k s n).1.2.1 = s.2.1 ∧ (tkAll f k s n).1.2.2.1.length ≤ s.2.2.1.length ∧ hOk (tkAll f k s n).1 ∧ (md s → md (tkAll f k s n).1) ∧ (wd s → wd (tkAll f k s n).1)
  | 0, s, n, _, h => ⟨rfl, rfl, Nat.le_refl _, h, fun h => h, fun h => h⟩
  | k + 1, s, n, hk, h => by
    have hp : pL12Remove s (k : Int) := ⟨by omega, by omega, h.2.2, h.1, by rcases h.2.1 with h2 | h2 <;> have := h.2.2 <;> omega⟩
    have hh := rem_hand hp
    have hl := rem_len (s := s) (i := (k : Int)) (by omega) (by omega)
    unfold tkAll
    split
    · obtain ⟨i1, i2, i3, i4, i5, i6⟩ := tk_facts f k (mL12Remove s k) (n + 1) (by omega) ⟨hh.1, hh.2.2, by have := h.2.2; omega⟩
      exact ⟨i1, i2, by omega, i4, fun hm => i5 (rem_md hm), fun hw => i6 (rem_wd hw hp)⟩
    · exact tk_facts f k s n (by omega) h
theorem bodsh_le {s : Shd} (h : md s) : 0 ≤ mBodies s.2.2.1 ∧ mBodies s.2.2.1 ≤ 1048576 := by
  unfold md at h
  rw [cz_shd] at h
  have h1 : sumN (s.2.2.1.map fun x => x.2.2.2.2.1.size) ≤ sumN (s.2.2.1.map cz) := sum_le_of (fun x => by
    simp only [cz_pair]
    have : cz x.2.2.2.2.1 = x.2.2.2.2.1.size := rfl
    omega) _
  unfold mBodies
  omega
def PutI (a0 s1 : Shd) (size n : Int) (s : Shd) : Prop := ∃ k, s.2.2.1.length < k ∧ hOk s ∧ md s ∧ s.1 = a0.1 ∧ s.2.1 = a0.2.1 ∧ 0 ≤ n ∧ n + (s.2.2.1.length : Int) ≤ 1048576 ∧ putTo a0.1 a0.2.1 size k s n = putTo a0.1 a0.2.1 size (a0.2.2.1.length + 1) s1 0
theorem PutI.go {a0 s1 : Shd} {size n : Int} {s : Shd} (h : PutI a0 s1 size n s) (hs : 1 ≤ a0.1) (hr : ¬ a0.2.1 < size) (hc : a0.1 ≤ (s.2.2.1.length : Int) ∨ a0.2.1 < mBodies s.2.2.1 + size) :
    pL12Evict s ∧ PutI a0 s1 size (n + 1) (mL12Evict s) ∧ (mL12Evict s).2.2.1.length < s.2.2.1.length ∧ 0 ≤ n ∧ n < 1048576 := by
  obtain ⟨k, h1, h2, h3, h4, h5, h6, h7, h8⟩ := h
  have hl : 0 < s.2.2.1.length := by
    rcases Nat.eq_zero_or_pos s.2.2.1.length with h0 | h0
    · exfalso
      have : s.2.2.1 = [] := List.eq_nil_of_length_eq_zero h0
      rw [this] at hc
      have e : mBodies [] = 0 := rfl
      rw [e] at hc
      simp only [List.length_nil] at hc
      omega
    · exact h0
  have he : pL12Evict s := ⟨h2.1, by rcases h2.2.1 with g | g <;> omega, h2.2.2⟩
  obtain ⟨i1, i2, i3, i4, i5, i6⟩ := evict_facts _ s (used_le s) he
  obtain ⟨m, rfl⟩ : ∃ m, k = m + 1 := ⟨k - 1, by omega⟩
  have i1' : (mL12Evict s).2.2.1.length = s.2.2.1.length - 1 := i1
  refine ⟨he, ⟨m, by omega, i2, i5 h3, i3.trans h4, i4.trans h5, by omega, by omega, ?_⟩, by omega, h6, by omega⟩
  rw [← h8]
  show _ = if _ then _ else _
  rw [if_pos hc]
theorem PutI.stop {a0 s1 : Shd} {size n : Int} {s : Shd} (h : PutI a0 s1 size n s) (hc : ¬ (a0.1 ≤ (s.2.2.1.length : Int) ∨ a0.2.1 < mBodies s.2.2.1 + size)) : (s, n) = putTo a0.1 a0.2.1 size (a0.2.2.1.length + 1) s1 0 := by
  obtain ⟨k, h1, h2, h3, h4, h5, h6, h7, h8⟩ := h
  obtain ⟨m, rfl⟩ : ∃ m, k = m + 1 := ⟨k - 1, by omega⟩
  rw [← h8]
  show _ = if _ then _ else _
  rw [if_neg hc]
theorem sto_size {x : Sto} (h : md x) : (x.2.2.2.2.1.size : Int) ≤ 1048576 := by
  unfold md at h
  simp only [cz_pair] at h
  have : cz x.2.2.2.2.1 = x.2.2.2.2.1.size := rfl
  omega
theorem sto_picked {x : Sto} (h : md x) : x.2.1.length ≤ maxLen := by
  unfold md at h
  simp only [cz_pair, cz_list] at h
  simp only [maxLen]
  omega
theorem put_end {a0 : Shd} {a1 : Sto} (hok : mShardOk a0 = true) (hst : mStoredOk a1 = true) (hr : ¬ a0.2.1 < (a1.2.2.2.2.1.size : Int)) {s : Shd} {n : Int} (h : (s, n) = putTo a0.1 a0.2.1 (a1.2.2.2.2.1.size : Int) (a0.2.2.1.length + 1) (tkAll (fun y => mShardPut_1 y a1) a0.2.2.1.length a0 0).1 0) :
    ((s.1, s.2.1, s.2.2.1 ++ [slotOfSto a1], s.2.2.2), n) = mShardPut a0 a1 := by
  unfold mShardPut
  rw [if_pos hok, if_pos hst, if_neg hr, ← h]
theorem put_init {a0 : Shd} {a1 : Sto} (hok : mShardOk a0 = true) (hm : md a0) : PutI a0 (tkAll (fun y => mShardPut_1 y a1) a0.2.2.1.length a0 0).1 (a1.2.2.2.2.1.size : Int) 0 (tkAll (fun y => mShardPut_1 y a1) a0.2.2.1.length a0 0).1 := by
  have hk := ok_tk hok hm
  obtain ⟨i1, i2, i3, i4, i5, i6⟩ := tk_facts (fun y => mShardPut_1 y a1) a0.2.2.1.length a0 0 (Nat.le_refl _) hk.2.1
  exact ⟨a0.2.2.1.length + 1, by omega, i4, i5 hm, i1, i2, by omega, by have := i4.2.2; omega, rfl⟩
theorem impl_ShardPut_ok (a0 : Shd) (a1 : Sto) (h : pShardPut a0 a1) : s_impl_ShardPut a0 a1 (fun r => r = mShardPut a0 a1) := by
  obtain ⟨m0, m1⟩ := h
  refine ⟨m0, m0, fun hno => by unfold mShardPut; rw [if_neg hno]; rfl, fun hok => ?_⟩
  have hok := Classical.not_not.1 hok
  refine ⟨m1, fun hno => by unfold mShardPut; rw [if_pos hok, if_neg hno]; rfl, fun hst => ?_⟩
  have hst := Classical.not_not.1 hst
  have hk := ok_tk hok m0
  refine ⟨⟨hk.1, sto_picked m1⟩, fun hr => by unfold mShardPut; rw [if_pos hok, if_pos hst, if_pos hr]; rfl, fun hr => ?_⟩
  have hsz := sto_size m1
  intro L hL
  refine loopI hL (fun y => PutI a0 (tkAll (fun y => mShardPut_1 y a1) a0.2.2.1.length a0 0).1 (a1.2.2.2.2.1.size : Int) y.1 y.2) (fun y => y.2.2.2.1.length) (fun y hI ih => ?_) (0, _) (put_init hok m0)
  obtain ⟨n, s⟩ := y
  simp only at hI ih ⊢
  have e1 : s.1 = a0.1 := by obtain ⟨k, h1, h2, h3, h4, h5, h6⟩ := hI; exact h4
  have e2 : s.2.1 = a0.2.1 := by obtain ⟨k, h1, h2, h3, h4, h5, h6⟩ := hI; exact h5
  have hms : md s := by obtain ⟨k, h1, h2, h3, h4, h5, h6⟩ := hI; exact h3
  have hln : s.2.2.1.length ≤ 1048576 := md_len' (shd_md hms)
  have hb := bodsh_le hms
  rw [e1, e2, wrap64 (n := mBodies s.2.2.1 + (a1.2.2.2.2.1.size : Int)) (by omega) (by omega)]
  refine ⟨fun hc => ?_, fun hc => ⟨shd_md hms, fun hc2 => ?_, fun hc2 => ⟨m1, ?_, ?_⟩⟩⟩
  · obtain ⟨g1, g2, g3, g4, g5⟩ := hI.go hk.2.2.2.1 hr (.inl hc)
    rw [wrap64 (n := n + 1) (by omega) (by omega)]
    exact ⟨g1, ih _ g2 g3⟩
  · obtain ⟨g1, g2, g3, g4, g5⟩ := hI.go hk.2.2.2.1 hr (.inr hc2)
    rw [wrap64 (n := n + 1) (by omega) (by omega)]
    exact ⟨g1, ih _ g2 g3⟩
  · simp only [List.length_cons, List.length_nil]
    omega
  · have := put_end hok hst hr (hI.stop (fun hh => hh.elim hc hc2))
    rw [← this, ← e1, ← e2]
    rfl
theorem alike_com (a b : Sto) : mStandAlike a b = mStandAlike b a := by
  unfold mStandAlike
  rw [decide_eq_decide.2 (eq_comm (a := a.1) (b := b.1)), decide_eq_decide.2 (eq_comm (a := a.2.1) (b := b.2.1))]
theorem spec_ShardPut_ok (a0 : Shd) (a1 : Sto) (h : pShardPut a0 a1) : s_spec_ShardPut a0 a1 (fun r => r = mShardPut a0 a1) := by
  obtain ⟨m0, m1⟩ := h
  refine ⟨m0, m0, fun hno => by unfold mShardPut; rw [if_neg hno]; rfl, fun hok => ?_⟩
  have hok := Classical.not_not.1 hok
  refine ⟨m1, fun hno => by unfold mShardPut; rw [if_pos hok, if_neg hno]; rfl, fun hst => ?_⟩
  have hst := Classical.not_not.1 hst
  have hk := ok_tk hok m0
  have hl := hk.1.1
  have hsz := sto_size m1
  intro L hL
  rw [show mL12Copy a0 = a0 from rfl, wrap64 (n := (a0.2.2.1.length : Int) - 1) (by omega) (by omega)]
  refine loopI hL (fun y => ∃ n, AtK (fun y => mShardPut_1 y a1) md a0 n y.1 y.2) (fun y => (y.1 + 1).toNat) (fun y hI ih => ?_) (_, a0) ⟨0, AtK.init hk.1 m0⟩
  obtain ⟨i, s⟩ := y
  obtain ⟨n, hI⟩ := hI
  simp only at hI ih ⊢
  refine ⟨fun h0 => ?_, fun h0 => ?_⟩
  · obtain ⟨p1, p2, p3, p4, p5, pm, p6, p7⟩ := hI.pos (fun _ _ => rem_md) h0
    refine ⟨h0, p1, ?_⟩
    rintro _ rfl _ rfl
    have hsl := rx_slt_md pm ⟨h0, p1⟩
    refine ⟨sto_picked (sto_of_slt hsl), trivial, ?_⟩
    rintro y4 e4 y5 _
    have e4 : y4 = s.2.2.1 := e4.trans (set_same _ _)
    subst e4
    rw [wrap64 (n := i - 1) (by omega) (by omega)]
    have ec : mStandAlike (stoOf (rx s.2.2.1 i)) a1 = mShardPut_1 (stoOf (rx s.2.2.1 i)) a1 := alike_com _ _
    exact ⟨fun hf => ⟨p2, ih _ ⟨_, p6 (ec ▸ hf)⟩ (by simp only; omega)⟩, fun hf => ih _ ⟨_, p7 (fun hh => hf (ec ▸ hh))⟩ (by simp only; omega)⟩
  · have hs := hI.stop h0
    have hs1 : s = (tkAll (fun y => mShardPut_1 y a1) a0.2.2.1.length a0 0).1 := congrArg Prod.fst hs
    refine ⟨fun hr => by unfold mShardPut; rw [if_pos hok, if_pos hst, if_pos hr, ← hs1], fun hr => ?_⟩
    intro L2 hL2
    refine loopI hL2 (fun y => PutI a0 (tkAll (fun y => mShardPut_1 y a1) a0.2.2.1.length a0 0).1 (a1.2.2.2.2.1.size : Int) y.1 y.2) (fun y => y.2.2.2.1.length) (fun y hI ih => ?_) (0, s) (by rw [hs1]; exact put_init hok m0)
    obtain ⟨n, s⟩ := y
    simp only at hI ih ⊢
    have hms : md s := by obtain ⟨k, h1, h2, h3, h4, h5, h6⟩ := hI; exact h3
    have hln : s.2.2.1.length ≤ 1048576 := md_len' (shd_md hms)
    have hb := bodsh_le hms
    rw [show mFilledS s = mBodies s.2.2.1 from rfl, wrap64 (n := mBodies s.2.2.1 + (a1.2.2.2.2.1.size : Int)) (by omega) (by omega)]
    refine ⟨fun hc => ?_, fun hc => ⟨hms, fun hc2 => ?_, fun hc2 => ⟨m1, ?_, ?_⟩⟩⟩
    · obtain ⟨g1, g2, g3, g4, g5⟩ := hI.go hk.2.2.2.1 hr (.inl hc)
      rw [wrap64 (n := n + 1) (by omega) (by omega)]
      exact ⟨g1, ih _ g2 g3⟩
    · obtain ⟨g1, g2, g3, g4, g5⟩ := hI.go hk.2.2.2.1 hr (.inr hc2)
      rw [wrap64 (n := n + 1) (by omega) (by omega)]
      exact ⟨g1, ih _ g2 g3⟩
    · simp only [List.length_cons, List.length_nil]
      omega
    · exact put_end hok hst hr (hI.stop (fun hh => hh.elim hc hc2))
theorem putTo_facts {slots room size : Int} (hs : 1 ≤ slots) (hr : ¬ room < size) : ∀ (k : Nat) (s : Shd) (n : Int), hOk s → md s → md (putTo slots room size k s n).1 ∧ (wd s → wd (putTo slots room size k s n).1)
  | 0, s, n, _, hm => ⟨hm, fun h => h⟩
  | k + 1, s, n, h, hm => by
    unfold putTo
    split
    · next hc =>
      have hl : 0 < s.2.2.1.length := by
        rcases Nat.eq_zero_or_pos s.2.2.1.length with h0 | h0
        · exfalso
          have : s.2.2.1 = [] := List.eq_nil_of_length_eq_zero h0
          rw [this] at hc
          have e : mBodies [] = 0 := rfl
          rw [e] at hc
          simp only [List.length_nil] at hc
          omega
        · exact h0
      obtain ⟨i1, i2, i3, i4, i5, i6⟩ := evict_facts _ s (used_le s) ⟨h.1, by rcases h.2.1 with g | g <;> omega, h.2.2⟩
      have := putTo_facts hs hr k (mL12Evict s) (n + 1) i2 (i5 hm)
      exact ⟨this.1, fun hw => this.2 (i6 hw)⟩
    · exact ⟨hm, fun h => h⟩
theorem wd_snoc {α : Type} [Wd α] {xs : List α} {x : α} (h : wd xs) (hl : xs.length ≤ 1048576) (hx : wd x) : wd (xs ++ [x]) := by
  refine ⟨by simp only [maxLen, List.length_append, List.length_cons, List.length_nil]; omega, fun i y hy => ?_⟩
  have := List.mem_of_getElem? (l := xs ++ [x]) hy
  rcases List.mem_append.1 this with hm | hm
  · exact wd_mem h hm
  · rw [List.mem_singleton.1 hm]; exact hx
theorem put_facts {s : Shd} {x : Sto} (h : md s) (hx : md x) : sumN ((mShardPut s x).1.2.2.1.map cntSlt) ≤ 16777216 ∧ (wd s → wd x → wd (mShardPut s x).1) := by
  unfold mShardPut
  split
  · next hok =>
    have hk := ok_tk hok h
    obtain ⟨i1, i2, i3, i4, i5, i6⟩ := tk_facts (fun y => mShardPut_1 y x) s.2.2.1.length s 0 (Nat.le_refl _) hk.2.1
    split
    · split
      · exact ⟨Nat.le_trans (sum_cnt_le (shd_md (i5 h))) (by omega), fun hw _ => i6 hw⟩
      · next hr =>
        obtain ⟨j1, j2⟩ := putTo_facts hk.2.2.2.1 hr (s.2.2.1.length + 1) _ 0 i4 (i5 h)
        generalize putTo s.1 s.2.1 (x.2.2.2.2.1.size : Int) (s.2.2.1.length + 1) (tkAll (fun y => mShardPut_1 y x) s.2.2.1.length s 0).1 0 = r at j1 j2
        refine ⟨?_, fun hw hwx => ?_⟩
        · show sumN ((r.1.2.2.1 ++ [slotOfSto x]).map cntSlt) ≤ _
          have h1 := sum_cnt_le (shd_md j1)
          have h2 : cntSlt (slotOfSto x) ≤ 4194310 := by
            unfold md at hx
            simp only [cz_pair, cz_list] at hx
            show 6 + 2 * x.2.1.length + 2 * x.2.2.2.1.length ≤ _
            omega
          have h3 : ∀ l : List Slt, sumN ((l ++ [slotOfSto x]).map cntSlt) = sumN (l.map cntSlt) + cntSlt (slotOfSto x) := fun l => by
            induction l with
            | nil => simp [sumN]
            | cons a l ih =>
              simp only [List.cons_append, List.map_cons, sumN]
              rw [ih]
              omega
          rw [h3]
          omega
        · have hw' := j2 (i6 hw)
          exact ⟨hw'.1, hw'.2.1, wd_snoc hw'.2.2.1 (md_len' (shd_md j1)) ⟨hwx.1, hwx.2.1, hwx.2.2.1, hwx.2.2.2.1, hwx.2.2.2.2.1, hwx.2.2.2.2.2.1, hwx.2.2.2.2.2.2, trivial⟩, hw'.2.2.2⟩
    · exact ⟨Nat.le_trans (sum_cnt_le (shd_md h)) (by omega), fun hw _ => hw⟩
  · exact ⟨Nat.le_trans (sum_cnt_le (shd_md h)) (by omega), fun hw _ => hw⟩
end Go.Ev
end

section
/- Laws of the plain library: GenOf, CacheFill. -/
set_option linter.unusedVariables false
set_option linter.unusedSimpArgs false
namespace Go.Ev
theorem genFrom_at {u : S} {l : List Gen} {i : Nat} (h : i < l.length) : genFrom u (l.drop i) = if (rx l (i : Int)).1 = u then (rx l (i : Int)).2 else genFrom u (l.drop (i + 1)) := by
  rw [rx_get _ h, List.drop_eq_getElem_cons h]
  rfl
theorem gen_len {c : Cch} (h : md c) : c.2.length ≤ 1048576 := by
  unfold md at h
  simp only [cz_pair, cz_list] at h
  omega
theorem impl_GenOf_ok (a0 : Cch) (a1 : S) (h : pGenOf a0 a1) : s_impl_GenOf a0 a1 (fun r => r = mGenOf a0 a1) := by
  have hl := gen_len h
  intro L hL
  refine loopI hL (fun y => ∃ i : Nat, i ≤ a0.2.length ∧ y = (i : Int) ∧ genFrom a1 (a0.2.drop i) = mGenOf a0 a1) (fun y => a0.2.length + 1 - y.toNat) (fun y hI ih => ?_) 0 ⟨0, Nat.zero_le _, rfl, rfl⟩
  obtain ⟨i, hi, rfl, hg⟩ := hI
  refine ⟨fun hlt => ?_, fun hge => ?_⟩
  · have hlt' : i < a0.2.length := by omega
    rw [genFrom_at hlt'] at hg
    refine ⟨by omega, hlt, fun he => ?_, fun he => ?_⟩
    · rw [if_pos he] at hg
      exact hg
    · rw [if_neg he] at hg
      rw [wrapS (by omega)]
      exact ih _ ⟨i + 1, by omega, rfl, hg⟩ (by simp only [Int.toNat_natCast]; omega)
  · have : i = a0.2.length := by omega
    subst this
    rw [List.drop_length] at hg
    exact hg
theorem spec_GenOf_ok (a0 : Cch) (a1 : S) (h : pGenOf a0 a1) : s_spec_GenOf a0 a1 (fun r => r = mGenOf a0 a1) := by
  have hl := gen_len h
  intro L hL
  refine loopI hL (fun y => ∃ i : Nat, i ≤ a0.2.length ∧ y = (i : Int) ∧ genFrom a1 (a0.2.drop i) = mGenOf a0 a1) (fun y => a0.2.length + 1 - y.toNat) (fun y hI ih => ?_) 0 ⟨0, Nat.zero_le _, rfl, rfl⟩
  obtain ⟨i, hi, rfl, hg⟩ := hI
  refine ⟨fun hlt => ?_, fun hge => ?_⟩
  · have hlt' : i < a0.2.length := by omega
    rw [genFrom_at hlt'] at hg
    refine ⟨by omega, hlt, fun he => ⟨by omega, hlt, ?_⟩, fun he => ?_⟩
    · rw [if_pos he] at hg
      exact hg
    · rw [if_neg he] at hg
      rw [wrapS (by omega)]
      exact ih _ ⟨i + 1, by omega, rfl, hg⟩ (by simp only [Int.toNat_natCast]; omega)
  · have : i = a0.2.length := by omega
    subst this
    rw [List.drop_length] at hg
    exact hg
theorem sto_uri {x : Sto} (h : md x) : sm x.1 := by
  unfold md at h
  simp only [cz_pair] at h
  have e : cz x.1 = x.1.size := rfl
  unfold sm
  omega
theorem impl_CacheFill_ok (a0 : Cch) (a1 : Sto) (a2 : Int) (h : pCacheFill a0 a1 a2) : s_impl_CacheFill a0 a1 a2 (fun r => r = mCacheFill a0 a1 a2) := by
  obtain ⟨m0, m1⟩ := h
  have no : (¬ (mCacheOk a0 = true ∧ mStoredOk a1 = true ∧ mGenOf a0 a1.1 = a2)) → mCacheFill a0 a1 a2 = (a0, false) := fun h => by unfold mCacheFill; rw [if_neg h]
  refine ⟨m0, m0, fun hno => (no (fun h => hno h.1)).symm, fun hok => ?_⟩
  have hok := Classical.not_not.1 hok
  refine ⟨m1, fun hno => (no (fun h => hno h.2.1)).symm, fun hst => ?_⟩
  have hst := Classical.not_not.1 hst
  refine ⟨m0, fun hno => (no (fun h => hno h.2.2)).symm, fun hg => ?_⟩
  have hg := Classical.not_not.1 hg
  have hr := shardOf_range (c := a0) a1.1 (cacheOk_len hok)
  refine ⟨sto_uri m1, hr.1, hr.2, ⟨rx_md m0 hr, m1⟩, hr.1, hr.2, ?_⟩
  unfold mCacheFill
  rw [if_pos ⟨hok, hst, hg⟩]
  rfl
theorem spec_CacheFill_ok (a0 : Cch) (a1 : Sto) (a2 : Int) (h : pCacheFill a0 a1 a2) : s_spec_CacheFill a0 a1 a2 (fun r => r = mCacheFill a0 a1 a2) := impl_CacheFill_ok a0 a1 a2 h
theorem sum_set_le {α : Type} (f : α → Nat) : ∀ (l : List α) (i : Nat) (a : α), sumN ((l.set i a).map f) ≤ sumN (l.map f) + f a
  | [], i, a => by simp [sumN]
  | x :: l, 0, a => by simp only [List.set_cons_zero, List.map_cons, sumN]; omega
  | x :: l, i + 1, a => by
    have := sum_set_le f l i a
    simp only [List.set_cons_succ, List.map_cons, sumN]
    omega
theorem fill_facts {c : Cch} {x : Sto} {g : Int} (h : md c) (hx : md x) : sumN ((mCacheFill c x g).1.1.map cntShd) + sumN ((mCacheFill c x g).1.2.map cntGen) ≤ 50331648 ∧ (wd c → wd x → wd (mCacheFill c x g).1) := by
  have hc := cch_cnt h
  unfold mCacheFill
  split
  · next hok =>
    have hr := shardOf_range (c := c) x.1 (cacheOk_len hok.1)
    have hm := rx_md h hr
    obtain ⟨p1, p2⟩ := put_facts hm hx
    obtain ⟨n, e⟩ : ∃ n : Nat, mShardOf c x.1 = n := ⟨(mShardOf c x.1).toNat, by omega⟩
    rw [e] at hr p1 p2 ⊢
    have hn : n < c.1.length := by omega
    refine ⟨?_, fun hw hwx => ⟨⟨by rw [List.length_set]; exact hw.1.1, fun j y hy => ?_⟩, hw.2⟩⟩
    · have h1 := sum_set_le cntShd c.1 n (mShardPut (rx c.1 (n : Int)) x).1
      have h2 : cntShd (mShardPut (rx c.1 (n : Int)) x).1 = 3 + sumN ((mShardPut (rx c.1 (n : Int)) x).1.2.2.1.map cntSlt) := rfl
      show sumN ((c.1.set ((n : Int)).toNat (mShardPut (rx c.1 (n : Int)) x).1).map cntShd) + sumN (c.2.map cntGen) ≤ _
      rw [Int.toNat_natCast]
      omega
    · rcases List.mem_or_eq_of_mem_set (List.mem_of_getElem? hy) with hm' | hm'
      · exact wd_mem hw.1 hm'
      · subst hm'
        exact p2 (wd_mem hw.1 (rx_mem _ hn)) hwx
  · exact ⟨Nat.le_trans hc (by omega), fun hw _ => hw⟩
def p_FnExactCacheFill (a0 : Cch) (a1 : Sto) (a2 : Int) : Prop := wd a0 ∧ wd a1 ∧ wd a2
theorem laws_FnExactCacheFill_ok (a0 : Cch) (a1 : Sto) (a2 : Int) (h : p_FnExactCacheFill a0 a1 a2) : s_laws_FnExactCacheFill a0 a1 a2 (fun r => r = true) := by
  obtain ⟨w0, w1, w2⟩ := h
  refine ⟨⟨w0, by omega, by simp [capI]⟩, fun _ => rfl, fun hs0 => ⟨pSz_next hs0 (by omega) (by omega) w1, fun _ => rfl, fun hs1 => ?_⟩⟩
  have k0 := szF_le a0 (k := 1048576) (by omega)
  have m0 : md a0 := szF_md hs0 (by omega) (by omega)
  have m1 : md a1 := szF_md hs1 (by omega) (by omega)
  have hp : pCacheFill (toF a0) (toF a1) a2 := ⟨m0, m1⟩
  obtain ⟨c1, pw⟩ := fill_facts (g := a2) m0 m1
  have pw : wd (mCacheFill (toF a0) (toF a1) a2).1 := pw w0 w1
  have c1 : sumN ((mCacheFill (toF a0) (toF a1) a2).1.1.map cntShd) + sumN ((mCacheFill (toF a0) (toF a1) a2).1.2.map cntGen) ≤ 50331648 := c1
  have c0 := cch_cnt m0
  have hx : a1.2.1.length ≤ 1048576 ∧ a1.2.2.2.1.length ≤ 1048576 := by
    unfold md at m1
    simp only [cz_pair, cz_list] at m1
    omega
  have hk1 : pMarkCache (toF a0) 1 := ⟨by omega, by show 1 + ((sumN (a0.1.map cntShd) + sumN (a0.2.map cntGen) : Nat) : Int) ≤ _; omega⟩
  have e0 : mMarkCache (toF a0) 1 = 1 + ((sumN (a0.1.map cntShd) : Nat) : Int) + ((sumN (a0.2.map cntGen) : Nat) : Int) := rfl
  have hk2 : pMarkStored (toF a1) (mMarkCache (toF a0) 1) := ⟨by rw [e0]; omega, by rw [e0]; show 1 + ((sumN (a0.1.map cntShd) : Nat) : Int) + ((sumN (a0.2.map cntGen) : Nat) : Int) + ((2 * a1.2.1.length + 2 * a1.2.2.2.1.length : Nat) : Int) ≤ _; omega⟩
  have hg : ¬ mMarkStored (toF a1) (mMarkCache (toF a0) 1) < 0 := by
    show ¬ (mMarkCache (toF a0) 1 + 2 * (a1.2.1.length : Int) + 2 * (a1.2.2.2.1.length : Int) < 0)
    rw [e0]
    omega
  generalize mCacheFill (toF a0) (toF a1) a2 = r at pw c1 hp
  have hm : pMarkCache r.1 1 := ⟨by omega, by omega⟩
  have s1 : sumN ((markL markShd cntShd r.1.1 1).map cntShd) = sumN (r.1.1.map cntShd) := markL_cnt cnt_markShd _ _
  have s2 : ∀ k, sumN ((markL markGen cntGen r.1.2 k).map cntGen) = sumN (r.1.2.map cntGen) := fun k => markL_cnt (f := markGen) (c := cntGen) (fun _ _ => rfl) _ _
  have e1 : mHeldShardS (wMarkCache r.1 1).1.1 1 = mMarkShardS r.1.1 1 := by
    show 1 + ((sumN ((markL markShd cntShd r.1.1 1).map cntShd) : Nat) : Int) = 1 + ((sumN (r.1.1.map cntShd) : Nat) : Int)
    rw [s1]
  have hh : pHeldCache (wMarkCache r.1 1).1 1 := by
    refine ⟨⟨by omega, ?_⟩, markL_idem cnt_markShd markShd_idem _ _, ?_⟩
    · show 1 + ((sumN ((markL markShd cntShd r.1.1 1).map cntShd) + sumN ((markL markGen cntGen r.1.2 (mMarkShardS r.1.1 1)).map cntGen) : Nat) : Int) ≤ _
      rw [s1, s2]
      omega
    · rw [e1]
      exact markL_idem (f := markGen) (c := cntGen) (fun _ _ => rfl) (fun _ _ => rfl) _ _
  have he : mHeldCache (wMarkCache r.1 1).1 1 = mMarkCache r.1 1 := by
    show mHeldShardS (wMarkCache r.1 1).1.1 1 + ((sumN ((markL markGen cntGen r.1.2 (mMarkShardS r.1.1 1)).map cntGen) : Nat) : Int) = mMarkShardS r.1.1 1 + ((sumN (r.1.2.map cntGen) : Nat) : Int)
    rw [e1, s2]
  have hge : ¬ mHeldCache (wMarkCache r.1 1).1 1 < 0 := by
    rw [he]
    show ¬ (1 + ((sumN (r.1.1.map cntShd) : Nat) : Int) + ((sumN (r.1.2.map cntGen) : Nat) : Int) < 0)
    omega
  have eqs : ∀ {α : Type} [DecidableEq α] (x : α), ¬ (eqF x x = true) → False := fun x hne => hne (eqF_iff.2 rfl)
  exact ⟨m0, m1, hp, m0, m1, hp, pw, fun hne => (eqs _ hne).elim, fun _ => ⟨fun hne => (hne rfl).elim, fun _ => ⟨m0, w0, fun hne => (eqs _ hne).elim, fun _ => ⟨m1, w1, fun hne => (eqs _ hne).elim, fun _ => ⟨hk1, hk2, fun hl => absurd hl hg, fun _ =>
    ⟨pw, fun hne => (eqs _ hne).elim, fun _ => ⟨fun hne => (hne rfl).elim, fun _ => ⟨hm, hh, fun hl => absurd hl hge, fun _ => ⟨fun hne => absurd he hne, fun _ => ⟨m0, m1, hp, pw, fun hne => (eqs _ hne).elim, fun _ => ⟨fun hne => (hne rfl).elim, fun _ => ⟨hh, fun hl => absurd hl hge, fun _ => ⟨fun hne => absurd he hne, fun _ => rfl⟩⟩⟩⟩⟩⟩⟩⟩⟩⟩⟩⟩⟩
end Go.Ev
end

section
/- Laws of the plain library, fifth part: lists in texts. -/
set_option linter.unusedVariables false
namespace Go.Ev

end Go.Ev
end

section
/- Laws of the plain library: lists of parts, as spec takes them. -/
set_option linter.unusedVariables false
namespace Go.Ev
end Go.Ev
end

section
/- Laws of the plain library: directives. -/
set_option linter.unusedVariables false
namespace Go.Ev
end Go.Ev
end

section
/- Laws of the plain library: what may be stored, what may be shared. -/
set_option linter.unusedVariables false
namespace Go.Ev
end Go.Ev
end
