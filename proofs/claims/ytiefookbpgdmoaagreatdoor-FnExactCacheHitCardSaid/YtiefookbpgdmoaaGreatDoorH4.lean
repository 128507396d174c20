/- A small verified machine for the operations of the given program, and plain laws of what its functions compute; without conditions of its own. Part 5. -/
import Derived.Test.YtiefookbpgdmoaaGreatDoorH3
import Derived.Sort.Walk0
import Derived.Lib.IndexBytes
import Derived.Lib.IndexLaws
import Derived.Deep.LoopGhost
import Derived.Tactics
import Derived.Tactics2
import Derived.WalkKit
import Derived.RowKit3
import Derived.WideLaws
import Derived.OwnWalk
import Derived.Laws.Slices
import Derived.Laws.Rows
import Derived.Laws.Cells
import Derived.Laws.IdiomStrings
import Derived.Laws.BytesString
import Derived.Lib.ConvBytes
set_option linter.unusedVariables false
set_option linter.unusedSimpArgs false
section
/- What functions of caches come to: printed by a program of this session's own (EwShow) out of the small machine. -/
set_option linter.unusedVariables false
namespace Go.Ev

def s_ContainsFunc_CacheOk_1 (a0 : (List Slt)) (a1 : (Cch × Int)) (Q : (Bool → Prop)) : Prop :=
  pIndexFunc_CacheOk_1 a0 a1 ∧
  (Q (decide (0 ≤ (mIndexFunc_CacheOk_1 a0 a1))))

def s_IndexFunc_CacheOk_1 (a0 : (List Slt)) (a1 : (Cch × Int)) (Q : (Int → Prop)) : Prop :=
  (∀ L0 : (Int → Prop),
    ((
        (∀ y1 : Int,
          ((
              (y1 < (a0.length : Int) →
                0 ≤ y1 ∧
                y1 < (a0.length : Int) ∧
                pCacheOk_1 (rx a0 y1) a1.1 a1.2 ∧
                ((mCacheOk_1 (rx a0 y1) a1.1 a1.2) = true →
                  (Q y1)) ∧
                (¬ ((mCacheOk_1 (rx a0 y1) a1.1 a1.2) = true) →
                  (L0 (IntKind.i64.wrap (y1 + 1))))) ∧
              (¬ (y1 < (a0.length : Int)) →
                (Q (-1)))
            ) →
            (L0 y1)))
      ) →
      (L0 0)))

def s_impl_CacheOk (a0 : Cch) (Q : (Bool → Prop)) : Prop :=
  pIn (a0.1.length : Int) 1 4 ∧
  (¬ ((mIn (a0.1.length : Int) 1 4) = true) →
    (Q false)) ∧
  (¬ (¬ ((mIn (a0.1.length : Int) 1 4) = true)) →
    (∀ L0 : (Int → Prop),
      ((
          (∀ y1 : Int,
            ((
                (y1 < (a0.1.length : Int) →
                  0 ≤ y1 ∧
                  y1 < (a0.1.length : Int) ∧
                  pShardOk (rx a0.1 y1) ∧
                  (¬ ((mShardOk (rx a0.1 y1)) = true) →
                    (Q false)) ∧
                  (¬ (¬ ((mShardOk (rx a0.1 y1)) = true)) →
                    pContainsFunc_CacheOk_1 (rx a0.1 y1).2.2.1 (a0, y1) ∧
                    ((mContainsFunc_CacheOk_1 (rx a0.1 y1).2.2.1 (a0, y1)) = true →
                      (Q false)) ∧
                    (¬ ((mContainsFunc_CacheOk_1 (rx a0.1 y1).2.2.1 (a0, y1)) = true) →
                      (L0 (IntKind.i64.wrap (y1 + 1)))))) ∧
                (¬ (y1 < (a0.1.length : Int)) →
                  (∀ L2 : (Int → Prop),
                    ((
                        (∀ y3 : Int,
                          ((
                              (y3 < (a0.2.length : Int) →
                                0 ≤ y3 ∧
                                y3 < (a0.2.length : Int) ∧
                                pUriOk (rx a0.2 y3).1 ∧
                                (¬ ((mUriOk (rx a0.2 y3).1) = true) →
                                  (Q false)) ∧
                                (¬ (¬ ((mUriOk (rx a0.2 y3).1) = true)) →
                                  pIn (rx a0.2 y3).2 1 1000000 ∧
                                  (¬ ((mIn (rx a0.2 y3).2 1 1000000) = true) →
                                    (Q false)) ∧
                                  (¬ (¬ ((mIn (rx a0.2 y3).2 1 1000000) = true)) →
                                    (0 < y3 →
                                      0 ≤ (IntKind.i64.wrap (y3 - 1)) ∧
                                      (IntKind.i64.wrap (y3 - 1)) < (a0.2.length : Int) ∧
                                      (¬ (strLt (rx a0.2 (IntKind.i64.wrap (y3 - 1))).1 (rx a0.2 y3).1) →
                                        (Q false)) ∧
                                      (¬ (¬ (strLt (rx a0.2 (IntKind.i64.wrap (y3 - 1))).1 (rx a0.2 y3).1)) →
                                        (L2 (IntKind.i64.wrap (y3 + 1))))) ∧
                                    (¬ (0 < y3) →
                                      (L2 (IntKind.i64.wrap (y3 + 1))))))) ∧
                              (¬ (y3 < (a0.2.length : Int)) →
                                (Q true))
                            ) →
                            (L2 y3)))
                      ) →
                      (L2 0))))
              ) →
              (L0 y1)))
        ) →
        (L0 0))))

def s_impl_CacheOk_1 (a0 : Slt) (a1 : Cch) (a2 : Int) (Q : (Bool → Prop)) : Prop :=
  pShardOf a1 a0.1 ∧
  (Q (decide ((mShardOf a1 a0.1) ≠ a2)))

def s_impl_Fnv (a0 : S) (Q : (Int → Prop)) : Prop :=
  (∀ L0 : ((Int × Int) → Prop),
    ((
        (∀ y1 : (Int × Int),
          ((
              (y1.2 < (a0.size : Int) →
                0 ≤ y1.2 ∧
                y1.2 < (a0.size : Int) ∧
                (4294967296 : Int) ≠ 0 ∧
                (L0 (((IntKind.i64.wrap ((lxor IntKind.i64 y1.1 (IntKind.i64.wrap (bt a0 y1.2))) * 16777619)).tmod 4294967296), (IntKind.i64.wrap (y1.2 + 1))))) ∧
              (¬ (y1.2 < (a0.size : Int)) →
                (Q y1.1))
            ) →
            (L0 y1)))
      ) →
      (L0 (2166136261, 0))))

def s_impl_ShardFind (a0 : Shd) (a1 : Req) (Q : (Int → Prop)) : Prop :=
  (a1.1 ≠ (lit [71, 69, 84]) →
    (Q (-1))) ∧
  (¬ (a1.1 ≠ (lit [71, 69, 84])) →
    pShardOk a0 ∧
    (¬ ((mShardOk a0) = true) →
      (Q (-1))) ∧
    (¬ (¬ ((mShardOk a0) = true)) →
      (∀ L0 : ((Int × Int) → Prop),
        ((
            (∀ y1 : (Int × Int),
              ((
                  (y1.2 < (a0.2.2.1.length : Int) →
                    0 ≤ y1.2 ∧
                    y1.2 < (a0.2.2.1.length : Int) ∧
                    ((rx a0.2.2.1 y1.2).1 ≠ a1.2.1 →
                      (L0 (y1.1, (IntKind.i64.wrap (y1.2 + 1))))) ∧
                    (¬ ((rx a0.2.2.1 y1.2).1 ≠ a1.2.1) →
                      pVaryFits a1 ((rx a0.2.2.1 y1.2).2.2.1, (rx a0.2.2.1 y1.2).2.2.2.1, (rx a0.2.2.1 y1.2).2.2.2.2.1) (rx a0.2.2.1 y1.2).2.1 ∧
                      (¬ ((mVaryFits a1 ((rx a0.2.2.1 y1.2).2.2.1, (rx a0.2.2.1 y1.2).2.2.2.1, (rx a0.2.2.1 y1.2).2.2.2.2.1) (rx a0.2.2.1 y1.2).2.1) = true) →
                        (L0 (y1.1, (IntKind.i64.wrap (y1.2 + 1))))) ∧
                      (¬ (¬ ((mVaryFits a1 ((rx a0.2.2.1 y1.2).2.2.1, (rx a0.2.2.1 y1.2).2.2.2.1, (rx a0.2.2.1 y1.2).2.2.2.2.1) (rx a0.2.2.1 y1.2).2.1) = true)) →
                        (y1.1 < 0 →
                          (L0 (y1.2, (IntKind.i64.wrap (y1.2 + 1))))) ∧
                        (¬ (y1.1 < 0) →
                          0 ≤ y1.1 ∧
                          y1.1 < (a0.2.2.1.length : Int) ∧
                          ((rx a0.2.2.1 y1.1).2.2.2.2.2.2.1 ≤ (rx a0.2.2.1 y1.2).2.2.2.2.2.2.1 →
                            (L0 (y1.2, (IntKind.i64.wrap (y1.2 + 1))))) ∧
                          (¬ ((rx a0.2.2.1 y1.1).2.2.2.2.2.2.1 ≤ (rx a0.2.2.1 y1.2).2.2.2.2.2.2.1) →
                            (L0 (y1.1, (IntKind.i64.wrap (y1.2 + 1))))))))) ∧
                  (¬ (y1.2 < (a0.2.2.1.length : Int)) →
                    (Q y1.1))
                ) →
                (L0 y1)))
          ) →
          (L0 ((-1), 0))))))

def s_impl_ShardOf (a0 : Cch) (a1 : S) (Q : (Int → Prop)) : Prop :=
  ((a0.1.length : Int) = 0 →
    (Q (-1))) ∧
  (¬ ((a0.1.length : Int) = 0) →
    pFnv a1 ∧
    (a0.1.length : Int) ≠ 0 ∧
    (Q ((mFnv a1).tmod (a0.1.length : Int))))

def s_spec_CacheOk (a0 : Cch) (Q : (Bool → Prop)) : Prop :=
  pIn (a0.1.length : Int) 1 4 ∧
  (¬ ((mIn (a0.1.length : Int) 1 4) = true) →
    (Q false)) ∧
  (¬ (¬ ((mIn (a0.1.length : Int) 1 4) = true)) →
    (∀ L0 : (Int → Prop),
      ((
          (∀ y1 : Int,
            ((
                (y1 < (a0.1.length : Int) →
                  0 ≤ y1 ∧
                  y1 < (a0.1.length : Int) ∧
                  pShardOk (rx a0.1 y1) ∧
                  (¬ ((mShardOk (rx a0.1 y1)) = true) →
                    (Q false)) ∧
                  (¬ (¬ ((mShardOk (rx a0.1 y1)) = true)) →
                    (∀ L2 : (Int → Prop),
                      ((
                          (∀ y3 : Int,
                            ((
                                0 ≤ y1 ∧
                                y1 < (a0.1.length : Int) ∧
                                (y3 < ((rx a0.1 y1).2.2.1.length : Int) →
                                  0 ≤ y1 ∧
                                  y1 < (a0.1.length : Int) ∧
                                  0 ≤ y3 ∧
                                  y3 < ((rx a0.1 y1).2.2.1.length : Int) ∧
                                  pShardOf a0 (rx (rx a0.1 y1).2.2.1 y3).1 ∧
                                  ((mShardOf a0 (rx (rx a0.1 y1).2.2.1 y3).1) ≠ y1 →
                                    (Q false)) ∧
                                  (¬ ((mShardOf a0 (rx (rx a0.1 y1).2.2.1 y3).1) ≠ y1) →
                                    (L2 (IntKind.i64.wrap (y3 + 1))))) ∧
                                (¬ (y3 < ((rx a0.1 y1).2.2.1.length : Int)) →
                                  (L0 (IntKind.i64.wrap (y1 + 1))))
                              ) →
                              (L2 y3)))
                        ) →
                        (L2 0))))) ∧
                (¬ (y1 < (a0.1.length : Int)) →
                  (∀ L4 : (Int → Prop),
                    ((
                        (∀ y5 : Int,
                          ((
                              (y5 < (a0.2.length : Int) →
                                0 ≤ y5 ∧
                                y5 < (a0.2.length : Int) ∧
                                pUriOk (rx a0.2 y5).1 ∧
                                (¬ ((mUriOk (rx a0.2 y5).1) = true) →
                                  (Q false)) ∧
                                (¬ (¬ ((mUriOk (rx a0.2 y5).1) = true)) →
                                  0 ≤ y5 ∧
                                  y5 < (a0.2.length : Int) ∧
                                  pIn (rx a0.2 y5).2 1 1000000 ∧
                                  (¬ ((mIn (rx a0.2 y5).2 1 1000000) = true) →
                                    (Q false)) ∧
                                  (¬ (¬ ((mIn (rx a0.2 y5).2 1 1000000) = true)) →
                                    (0 < y5 →
                                      0 ≤ y5 ∧
                                      y5 < (a0.2.length : Int) ∧
                                      0 ≤ (IntKind.i64.wrap (y5 - 1)) ∧
                                      (IntKind.i64.wrap (y5 - 1)) < (a0.2.length : Int) ∧
                                      ((strLt (rx a0.2 y5).1 (rx a0.2 (IntKind.i64.wrap (y5 - 1))).1 ∨ (rx a0.2 y5).1 = (rx a0.2 (IntKind.i64.wrap (y5 - 1))).1) →
                                        (Q false)) ∧
                                      (¬ ((strLt (rx a0.2 y5).1 (rx a0.2 (IntKind.i64.wrap (y5 - 1))).1 ∨ (rx a0.2 y5).1 = (rx a0.2 (IntKind.i64.wrap (y5 - 1))).1)) →
                                        (L4 (IntKind.i64.wrap (y5 + 1))))) ∧
                                    (¬ (0 < y5) →
                                      (L4 (IntKind.i64.wrap (y5 + 1))))))) ∧
                              (¬ (y5 < (a0.2.length : Int)) →
                                (Q true))
                            ) →
                            (L4 y5)))
                      ) →
                      (L4 0))))
              ) →
              (L0 y1)))
        ) →
        (L0 0))))

def s_spec_Fnv (a0 : S) (Q : (Int → Prop)) : Prop :=
  (∀ L0 : ((Int × Int) → Prop),
    ((
        (∀ y1 : (Int × Int),
          ((
              (y1.2 < (a0.size : Int) →
                0 ≤ y1.2 ∧
                y1.2 < (a0.size : Int) ∧
                (4294967296 : Int) ≠ 0 ∧
                (L0 (((IntKind.i64.wrap ((lxor IntKind.i64 y1.1 (IntKind.i64.wrap (bt a0 y1.2))) * 16777619)).tmod 4294967296), (IntKind.i64.wrap (y1.2 + 1))))) ∧
              (¬ (y1.2 < (a0.size : Int)) →
                (Q y1.1))
            ) →
            (L0 y1)))
      ) →
      (L0 (2166136261, 0))))

def s_spec_ShardFind (a0 : Shd) (a1 : Req) (Q : (Int → Prop)) : Prop :=
  pShardOk a0 ∧
  (¬ ((mShardOk a0) = true) →
    (Q (-1))) ∧
  (¬ (¬ ((mShardOk a0) = true)) →
    (a1.1 ≠ (lit [71, 69, 84]) →
      (Q (-1))) ∧
    (¬ (a1.1 ≠ (lit [71, 69, 84])) →
      (∀ L0 : ((Int × Int) → Prop),
        ((
            (∀ y1 : (Int × Int),
              ((
                  (y1.2 < (a0.2.2.1.length : Int) →
                    0 ≤ y1.2 ∧
                    y1.2 < (a0.2.2.1.length : Int) ∧
                    ((rx a0.2.2.1 y1.2).1 = a1.2.1 →
                      pVaryFits a1 ((rx a0.2.2.1 y1.2).2.2.1, (rx a0.2.2.1 y1.2).2.2.2.1, (rx a0.2.2.1 y1.2).2.2.2.2.1) (rx a0.2.2.1 y1.2).2.1 ∧
                      ((mVaryFits a1 ((rx a0.2.2.1 y1.2).2.2.1, (rx a0.2.2.1 y1.2).2.2.2.1, (rx a0.2.2.1 y1.2).2.2.2.2.1) (rx a0.2.2.1 y1.2).2.1) = true →
                        (y1.1 < 0 →
                          (L0 (y1.2, (IntKind.i64.wrap (y1.2 + 1))))) ∧
                        (¬ (y1.1 < 0) →
                          0 ≤ y1.1 ∧
                          y1.1 < (a0.2.2.1.length : Int) ∧
                          ((rx a0.2.2.1 y1.1).2.2.2.2.2.2.1 ≤ (rx a0.2.2.1 y1.2).2.2.2.2.2.2.1 →
                            (L0 (y1.2, (IntKind.i64.wrap (y1.2 + 1))))) ∧
                          (¬ ((rx a0.2.2.1 y1.1).2.2.2.2.2.2.1 ≤ (rx a0.2.2.1 y1.2).2.2.2.2.2.2.1) →
                            (L0 (y1.1, (IntKind.i64.wrap (y1.2 + 1))))))) ∧
                      (¬ ((mVaryFits a1 ((rx a0.2.2.1 y1.2).2.2.1, (rx a0.2.2.1 y1.2).2.2.2.1, (rx a0.2.2.1 y1.2).2.2.2.2.1) (rx a0.2.2.1 y1.2).2.1) = true) →
                        (L0 (y1.1, (IntKind.i64.wrap (y1.2 + 1)))))) ∧
                    (¬ ((rx a0.2.2.1 y1.2).1 = a1.2.1) →
                      (L0 (y1.1, (IntKind.i64.wrap (y1.2 + 1)))))) ∧
                  (¬ (y1.2 < (a0.2.2.1.length : Int)) →
                    (Q y1.1))
                ) →
                (L0 y1)))
          ) →
          (L0 ((-1), 0))))))

def s_spec_ShardOf (a0 : Cch) (a1 : S) (Q : (Int → Prop)) : Prop :=
  ((a0.1.length : Int) = 0 →
    (Q (-1))) ∧
  (¬ ((a0.1.length : Int) = 0) →
    pFnv a1 ∧
    (a0.1.length : Int) ≠ 0 ∧
    (Q ((mFnv a1).tmod (a0.1.length : Int))))

end Go.Ev
end

section
/- Laws of the plain library: the origin. -/
set_option linter.unusedVariables false
namespace Go.Ev
theorem bytesLess_not : ∀ x y : List UInt8, Op.bytesLess x y = false ↔ (Op.bytesLess y x = true ∨ x = y)
  | [], [] => by simp [Op.bytesLess]
  | [], b :: y => by simp [Op.bytesLess]
  | a :: x, [] => by simp [Op.bytesLess]
  | a :: x, b :: y => by
    have ih := bytesLess_not x y
    simp only [Op.bytesLess, Bool.or_eq_false_iff, Bool.and_eq_false_iff, Bool.or_eq_true, Bool.and_eq_true, decide_eq_true_eq, decide_eq_false_iff_not, beq_iff_eq, List.cons.injEq, beq_eq_false_iff_ne, ne_eq]
    rcases Nat.lt_trichotomy a.toNat b.toNat with h | h | h
    · have h1 : a < b := h
      have h2 : ¬ b < a := by show ¬ b.toNat < a.toNat; omega
      have h3 : a ≠ b := by rintro rfl; omega
      have h4 : b ≠ a := fun e => h3 e.symm
      simp [h1, h2, h3, h4]
    · have e : a = b := UInt8.toNat_inj.1 h
      subst e
      have h1 : ¬ a < a := by show ¬ a.toNat < a.toNat; omega
      simp [h1, ih]
    · have h1 : ¬ a < b := by show ¬ a.toNat < b.toNat; omega
      have h2 : b < a := h
      have h3 : a ≠ b := by rintro rfl; omega
      simp [h1, h2, h3]
theorem strLt_not (x y : S) : (strLt y x ∨ x = y) ↔ ¬ strLt x y := by
  unfold strLt
  rw [Bool.not_eq_true, bytesLess_not]
  refine or_congr Iff.rfl ⟨fun h => h ▸ rfl, fun h => ?_⟩
  exact bs_inj (by rw [ByteArray.toList_eq, ByteArray.toList_eq] at h; exact h)
end Go.Ev
end

section
/- Laws of the plain library: shards. -/
set_option linter.unusedVariables false
namespace Go.Ev
theorem impl_StoredOk_ok (a0 : Sto) (h : pStoredOk a0) : s_impl_StoredOk a0 (fun r => r = mStoredOk a0) := by
  have h1 : cz a0 ≤ 1048576 := h
  simp only [cz_pair] at h1
  have hs : cz a0.1 = a0.1.size := rfl
  have p1 : pUriOk a0.1 := by unfold pUriOk sm; omega
  have p2 : pResponseOk (a0.2.2.1, a0.2.2.2.1, a0.2.2.2.2.1) := by unfold pResponseOk md; simp only; omega
  unfold s_impl_StoredOk mStoredOk pIn
  grind
theorem spec_StoredOk_ok (a0 : Sto) (h : pStoredOk a0) : s_spec_StoredOk a0 (fun r => r = mStoredOk a0) := by
  have h1 : cz a0 ≤ 1048576 := h
  simp only [cz_pair] at h1
  have hs : cz a0.1 = a0.1.size := rfl
  have p1 : pUriOk a0.1 := by unfold pUriOk sm; omega
  have p2 : pResponseOk (a0.2.2.1, a0.2.2.2.1, a0.2.2.2.2.1) := by unfold pResponseOk md; simp only; omega
  unfold s_spec_StoredOk mStoredOk pIn
  grind
theorem sumN_take {l : List Nat} : ∀ {i : Nat} (h : i < l.length), sumN (l.take (i + 1)) = sumN (l.take i) + l[i] := by
  induction l with
  | nil => intro i h; simp at h
  | cons a l ih =>
    intro i h
    cases i with
    | zero => simp [sumN]
    | succ i =>
      have := ih (i := i) (by simpa using h)
      simp only [List.take_succ_cons, sumN, List.getElem_cons_succ] at this ⊢
      omega
theorem sumN_take_le {l : List Nat} : ∀ {i : Nat}, sumN (l.take i) ≤ sumN l := by
  induction l with
  | nil => intro i; simp
  | cons a l ih =>
    intro i
    cases i with
    | zero => simp [sumN]
    | succ i => have := ih (i := i); simp only [List.take_succ_cons, sumN] at this ⊢; omega
theorem bodies_le {r : List Slt} (h : cz r ≤ 1048576) : sumN (r.map fun x => x.2.2.2.2.1.size) ≤ 1048576 := by
  have key : ∀ r : List Slt, sumN (r.map fun x => x.2.2.2.2.1.size) ≤ sumN (r.map cz) := by
    intro r
    induction r with
    | nil => exact Nat.le_refl _
    | cons x r ih =>
      simp only [List.map_cons, sumN]
      have : x.2.2.2.2.1.size ≤ cz x := by simp only [cz_pair, cz_str]; omega
      omega
  have := key r
  rw [cz_list] at h
  omega
def bodyB (r : List Slt) (Q : Int → Prop) (L : Int × Int → Prop) (y : Int × Int) : Prop :=
  (y.2 < (r.length : Int) → 0 ≤ y.2 ∧ y.2 < (r.length : Int) ∧ (L ((IntKind.i64.wrap (y.1 + ((rx r y.2).2.2.2.2.1.size : Int))), (IntKind.i64.wrap (y.2 + 1))))) ∧ (¬ (y.2 < (r.length : Int)) → (Q y.1))
theorem bodies_loop {r : List Slt} (h : cz r ≤ 1048576) {L : Int × Int → Prop} (hL : ∀ y, bodyB r (fun x => x = mBodies r) L y → L y) : L (0, 0) := by
  have hb := bodies_le h
  have hlen : r.length ≤ 1048576 := Nat.le_trans (cz_len r) h
  refine loopG hL r.length (fun i y => y.2 = (i : Int) ∧ y.1 = ((sumN ((r.map fun x => x.2.2.2.2.1.size).take i) : Nat) : Int)) (fun i y hi hI ih => ?_) ⟨rfl, by simp [sumN]⟩
  obtain ⟨h1, h2⟩ := hI
  have hle := sumN_take_le (l := r.map fun x => x.2.2.2.2.1.size) (i := i)
  unfold bodyB
  rw [h1, h2]
  refine ⟨fun hlt => ?_, fun hge => ?_⟩
  · have hlt : i < r.length := by omega
    have hle2 := sumN_take_le (l := r.map fun x => x.2.2.2.2.1.size) (i := i + 1)
    have hs := sumN_take (l := r.map fun x => x.2.2.2.2.1.size) (i := i) (by simpa using hlt)
    rw [List.getElem_map] at hs
    refine ⟨by omega, by omega, ih _ hlt ⟨?_, ?_⟩⟩
    · exact wrapS (by omega)
    · rw [rx_nat r i hlt, hs, wrap64 (by omega) (by omega)]; omega
  · have : i = r.length := by omega
    subst this
    rw [List.take_of_length_le (by simp)]; rfl
theorem impl_bodies_ok (a0 : List Slt) (h : pBodies a0) : s_impl_bodies a0 (fun r => r = mBodies a0) := fun L hL => bodies_loop h hL
theorem shd_ring {s : Shd} (h : md s) : cz s.2.2.1 ≤ 1048576 := by
  unfold md at h; simp only [cz_pair] at h; omega
theorem spec_l12Filled_ok (a0 : Shd) (h : pFilledS a0) : s_spec_l12Filled a0 (fun r => r = mFilledS a0) := fun L hL => bodies_loop (shd_ring h) hL
theorem alike_comm (a b : Sto) : mStandAlike a b = mStandAlike b a := by
  unfold mStandAlike
  rw [show (decide (a.1 = b.1)) = decide (b.1 = a.1) from decide_eq_decide.2 ⟨Eq.symm, Eq.symm⟩, show (decide (a.2.1 = b.2.1)) = decide (b.2.1 = a.2.1) from decide_eq_decide.2 ⟨Eq.symm, Eq.symm⟩]
theorem slt_md {r : List Slt} (h : cz r ≤ 1048576) {i : Nat} (hi : i < r.length) : md (stoOf (rx r (i : Int))) ∧ (rx r (i : Int)).2.1.length ≤ maxLen := by
  rw [rx_nat r i hi]
  have h1 := cz_mem (List.getElem_mem hi : r[i] ∈ r)
  have h2 := cz_len r[i].2.1
  unfold md stoOf
  simp only [cz_pair] at h1 ⊢
  simp only [maxLen]
  constructor <;> omega
def ringBodyI (r : List Slt) (Q : Bool → Prop) (E : Prop) (L : Int → Prop) (y1 : Int) : Prop :=
  (y1 < (r.length : Int) →
    0 ≤ y1 ∧
    y1 < (r.length : Int) ∧
    pStoredOk (stoOf (rx r y1)) ∧
    (¬ ((mStoredOk (stoOf (rx r y1))) = true) →
      (Q false)) ∧
    (¬ (¬ ((mStoredOk (stoOf (rx r y1))) = true)) →
      0 ≤ y1 ∧
      y1 ≤ (r.length : Int) ∧
      pContainsFunc_ShardOk_1 (r.take y1.toNat) (rx r y1) ∧
      ((mContainsFunc_ShardOk_1 (r.take y1.toNat) (rx r y1)) = true →
        (Q false)) ∧
      (¬ ((mContainsFunc_ShardOk_1 (r.take y1.toNat) (rx r y1)) = true) →
        (L (IntKind.i64.wrap (y1 + 1)))))) ∧
  (¬ (y1 < (r.length : Int)) → E)
def ringAt (r : List Slt) (i : Nat) : Prop := mStoredOk (stoOf (rx r (i : Int))) = true ∧ ∀ j, j < i → mStandAlike (stoOf (rx r (j : Int))) (stoOf (rx r (i : Int))) = false
theorem ring_has {r : List Slt} {i : Nat} (hi : i < r.length) : mContainsFunc_ShardOk_1 (r.take i) (rx r (i : Int)) = true ↔ ∃ j, j < i ∧ mStandAlike (stoOf (rx r (j : Int))) (stoOf (rx r (i : Int))) = true := by
  unfold mContainsFunc_ShardOk_1 mShardOk_1
  rw [List.any_eq_true]
  constructor
  · rintro ⟨y, hy, hs⟩
    obtain ⟨j, hj, rfl⟩ := List.mem_iff_getElem.1 hy
    have hj' : j < i := by simp at hj; omega
    refine ⟨j, hj', ?_⟩
    rw [alike_comm, rx_nat r j (by omega)]
    rw [List.getElem_take] at hs; exact hs
  · rintro ⟨j, hj, hs⟩
    refine ⟨(r.take i)[j]'(by simp; omega), List.getElem_mem _, ?_⟩
    rw [alike_comm, rx_nat r j (by omega)] at hs
    rw [List.getElem_take]; exact hs
theorem ring_impl {r : List Slt} (h : cz r ≤ 1048576) {Q : Bool → Prop} {E : Prop} (hf : ¬ ringFine r → Q false) (hE : ringFine r → E) {L : Int → Prop} (hL : ∀ y, ringBodyI r Q E L y → L y) : L 0 := by
  have hlen : r.length ≤ 1048576 := Nat.le_trans (cz_len r) h
  refine loopN hL r.length (by omega) (fun i => ∀ j, j < i → ringAt r j) (fun i hi hI ih => ?_) (fun j hj => by omega)
  refine ⟨fun hlt => ?_, fun hge => hE fun j hj => hI j (by omega)⟩
  have hlt : i < r.length := by omega
  obtain ⟨p1, p2⟩ := slt_md h hlt
  refine ⟨by omega, by omega, p1, fun c => hf fun ho => c (ho i hlt).1, fun c => ⟨by omega, by omega, ⟨by simp only [List.length_take, maxLen]; omega, p2⟩, fun c2 => hf fun ho => ?_, fun c2 => ?_⟩⟩
  · rw [Int.toNat_natCast] at c2
    obtain ⟨j, hj, hs⟩ := (ring_has hlt).1 c2
    rw [(ho i hlt).2 j hj] at hs
    cases hs
  · rw [Int.toNat_natCast] at c2
    refine ih hlt fun j hj => ?_
    by_cases e : j = i
    · subst e
      exact ⟨Classical.not_not.1 c, fun k hk => by
        rw [← Bool.not_eq_true]
        exact fun hs => c2 ((ring_has hlt).2 ⟨k, hk, hs⟩)⟩
    · exact hI j (by omega)
def ringBodyS2 (r : List Slt) (Q : Bool → Prop) (N : Int → Prop) (y1 : Int) (L : Int → Prop) (y3 : Int) : Prop :=
  (y3 < y1 →
    0 ≤ y3 ∧
    y3 < (r.length : Int) ∧
    0 ≤ y1 ∧
    y1 < (r.length : Int) ∧
    pStandAlike (stoOf (rx r y3)) (stoOf (rx r y1)) ∧
    ((mStandAlike (stoOf (rx r y3)) (stoOf (rx r y1))) = true →
      (Q false)) ∧
    (¬ ((mStandAlike (stoOf (rx r y3)) (stoOf (rx r y1))) = true) →
      (L (IntKind.i64.wrap (y3 + 1))))) ∧
  (¬ (y3 < y1) →
    (N (IntKind.i64.wrap (y1 + 1))))
def ringBodyS (r : List Slt) (Q : Bool → Prop) (L : Int → Prop) (y1 : Int) : Prop :=
  (y1 < (r.length : Int) →
    0 ≤ y1 ∧
    y1 < (r.length : Int) ∧
    pStoredOk (stoOf (rx r y1)) ∧
    (¬ ((mStoredOk (stoOf (rx r y1))) = true) →
      (Q false)) ∧
    (¬ (¬ ((mStoredOk (stoOf (rx r y1))) = true)) →
      (∀ L2 : (Int → Prop), (∀ y3, ringBodyS2 r Q L y1 L2 y3 → L2 y3) → L2 0))) ∧
  (¬ (y1 < (r.length : Int)) → Q true)
theorem ring_spec {r : List Slt} (h : cz r ≤ 1048576) {Q : Bool → Prop} (hf : ¬ ringFine r → Q false) (hE : ringFine r → Q true) {L : Int → Prop} (hL : ∀ y, ringBodyS r Q L y → L y) : L 0 := by
  have hlen : r.length ≤ 1048576 := Nat.le_trans (cz_len r) h
  refine loopN hL r.length (by omega) (fun i => ∀ j, j < i → ringAt r j) (fun i hi hI ih => ?_) (fun j hj => by omega)
  refine ⟨fun hlt => ?_, fun hge => hE fun j hj => hI j (by omega)⟩
  have hlt : i < r.length := by omega
  obtain ⟨p1, p2⟩ := slt_md h hlt
  refine ⟨by omega, by omega, p1, fun c => hf fun ho => c (ho i hlt).1, fun c => fun L2 hL2 => ?_⟩
  refine loopN hL2 i (by omega) (fun k => ∀ j, j < k → mStandAlike (stoOf (rx r (j : Int))) (stoOf (rx r (i : Int))) = false) (fun k hk hK ih2 => ?_) (fun j hj => by omega)
  refine ⟨fun hk1 => ?_, fun hk1 => ih hlt fun j hj => ?_⟩
  · have hk1 : k < i := by omega
    obtain ⟨q1, q2⟩ := slt_md h (show k < r.length by omega)
    refine ⟨by omega, by omega, by omega, by omega, q2, fun c2 => hf fun ho => ?_, fun c2 => ih2 hk1 fun j hj => ?_⟩
    · rw [(ho i hlt).2 k hk1] at c2; cases c2
    · by_cases e : j = k
      · subst e; rw [← Bool.not_eq_true]; exact c2
      · exact hK j (by omega)
  · by_cases e : j = i
    · subst e; exact ⟨Classical.not_not.1 c, fun j' hj' => hK j' (by omega)⟩
    · exact hI j (by omega)
open Classical in
theorem impl_ShardOk_ok (a0 : Shd) (h : pShardOk a0) : s_impl_ShardOk a0 (fun r => r = mShardOk a0) := by
  have hr := shd_ring h
  have hlen : a0.2.2.1.length ≤ 1048576 := Nat.le_trans (cz_len _) hr
  have hw : IntKind.i64.wrap ((a0.2.2.1.length : Int) - 1) = (a0.2.2.1.length : Int) - 1 := wrap64 (by omega) (by omega)
  unfold s_impl_ShardOk
  rw [hw]
  refine ⟨trivial, fun c => ?_, fun c1 => ⟨fun c => ?_, fun c2 => ⟨fun c3 => ⟨trivial, fun c => ?_, fun c4 => fun L hL => ring_impl (Q := fun r => r = mShardOk a0) (E := pBodies a0.2.2.1 ∧ decide (mBodies a0.2.2.1 ≤ a0.2.1) = mShardOk a0) hr ?_ ?_ hL⟩, fun c3 => fun L hL => ring_impl (Q := fun r => r = mShardOk a0) (E := pBodies a0.2.2.1 ∧ decide (mBodies a0.2.2.1 ≤ a0.2.1) = mShardOk a0) hr ?_ ?_ hL⟩⟩⟩
  · unfold mShardOk; rw [Bool.not_eq_true] at c; rw [c]; rfl
  · unfold mShardOk; rw [decide_eq_false (show ¬ (a0.2.2.1.length : Int) ≤ a0.1 by omega)]; simp
  · unfold mShardOk; rw [Bool.not_eq_true] at c; rw [c, decide_eq_false c3]; simp
  · intro hn; unfold mShardOk; rw [decide_eq_false hn]; simp
  · intro hn
    refine ⟨hr, ?_⟩
    unfold mShardOk; rw [decide_eq_true hn, Classical.not_not.1 c1, Classical.not_not.1 c4, decide_eq_true (show (a0.2.2.1.length : Int) ≤ a0.1 by omega)]; simp
  · intro hn; unfold mShardOk; rw [decide_eq_false hn]; simp
  · intro hn
    refine ⟨hr, ?_⟩
    unfold mShardOk; rw [decide_eq_true hn, Classical.not_not.1 c1, decide_eq_true (Classical.not_not.1 c3), decide_eq_true (show (a0.2.2.1.length : Int) ≤ a0.1 by omega)]; simp
open Classical in
theorem spec_ShardOk_ok (a0 : Shd) (h : pShardOk a0) : s_spec_ShardOk a0 (fun r => r = mShardOk a0) := by
  have hr := shd_ring h
  have hlen : a0.2.2.1.length ≤ 1048576 := Nat.le_trans (cz_len _) hr
  have hw : IntKind.i64.wrap ((a0.2.2.1.length : Int) - 1) = (a0.2.2.1.length : Int) - 1 := wrap64 (by omega) (by omega)
  unfold s_spec_ShardOk
  rw [hw]
  refine ⟨trivial, fun c => ?_, fun c1 => ⟨trivial, fun c => ?_, fun c1b => ⟨fun c => ?_, fun c2 => ⟨h, fun c => ?_, fun c5 => ⟨fun c3 => ⟨trivial, fun c => ?_, fun c4 => fun L hL => ring_spec (Q := fun r => r = mShardOk a0) hr ?_ ?_ hL⟩, fun c3 => fun L hL => ring_spec (Q := fun r => r = mShardOk a0) hr ?_ ?_ hL⟩⟩⟩⟩⟩
  · unfold mShardOk mShardSizes; rw [Bool.not_eq_true] at c; rw [c]; rfl
  · unfold mShardOk mShardSizes; rw [Bool.not_eq_true] at c; rw [c]; simp
  · unfold mShardOk; rw [decide_eq_false (show ¬ (a0.2.2.1.length : Int) ≤ a0.1 by omega)]; simp
  · unfold mFilledS at c; unfold mShardOk; rw [decide_eq_false (show ¬ mBodies a0.2.2.1 ≤ a0.2.1 by omega)]; simp
  · unfold mShardOk; rw [Bool.not_eq_true] at c; rw [c, decide_eq_false c3]; simp
  · intro hn; unfold mShardOk; rw [decide_eq_false hn]; simp
  · intro hn
    unfold mFilledS at c5
    unfold mShardOk mShardSizes; rw [decide_eq_true hn, Classical.not_not.1 c1, Classical.not_not.1 c1b, Classical.not_not.1 c4, decide_eq_true (show (a0.2.2.1.length : Int) ≤ a0.1 by omega), decide_eq_true (show mBodies a0.2.2.1 ≤ a0.2.1 by omega)]; simp
  · intro hn; unfold mShardOk; rw [decide_eq_false hn]; simp
  · intro hn
    unfold mFilledS at c5
    unfold mShardOk mShardSizes; rw [decide_eq_true hn, Classical.not_not.1 c1, Classical.not_not.1 c1b, decide_eq_true (Classical.not_not.1 c3), decide_eq_true (show (a0.2.2.1.length : Int) ≤ a0.1 by omega), decide_eq_true (show mBodies a0.2.2.1 ≤ a0.2.1 by omega)]; simp
end Go.Ev
end

section
/- Laws of the plain library: caches; what is found in a shard. -/
set_option linter.unusedVariables false
namespace Go.Ev
theorem fnv_loop (a0 : S) (h : pFnv a0) : s_spec_Fnv a0 (fun r => r = mFnv a0) := by
  unfold pFnv sm at h
  have hl := bs_len a0
  intro L hL
  refine loopI hL (fun y => ∃ i : Nat, i ≤ a0.size ∧ y.2 = (i : Int) ∧ y.1 = ((bs a0).take i).foldl fnvStep 2166136261) (fun y => a0.size + 1 - y.2.toNat) (fun y hI ih => ?_) (2166136261, 0) ⟨0, by omega, rfl, by simp⟩
  obtain ⟨k, i'⟩ := y
  obtain ⟨i, hi, hy, hk⟩ := hI
  simp only at hy hk ⊢
  subst hy hk
  refine ⟨fun hlt => ⟨by omega, hlt, by decide, ?_⟩, fun hge => ?_⟩
  · have hlt' : i < a0.size := by omega
    rw [wrapS (by omega), bt_nat a0 i hlt']
    refine ih _ ⟨i + 1, by omega, rfl, ?_⟩ (by simp only [Int.toNat_natCast]; omega)
    simp only
    rw [take_succ_app (by omega), List.foldl_append]
    rfl
  · have hie : i = a0.size := by omega
    subst hie
    unfold mFnv
    rw [List.take_of_length_le (by omega)]
theorem spec_Fnv_ok (a0 : S) (h : pFnv a0) : s_spec_Fnv a0 (fun r => r = mFnv a0) := fnv_loop a0 h
theorem impl_Fnv_ok (a0 : S) (h : pFnv a0) : s_impl_Fnv a0 (fun r => r = mFnv a0) := fnv_loop a0 h
theorem spec_ShardOf_ok (a0 : Cch) (a1 : S) (h : pShardOf a0 a1) : s_spec_ShardOf a0 a1 (fun r => r = mShardOf a0 a1) :=
  ⟨fun h0 => by unfold mShardOf; rw [if_pos h0], fun h0 => ⟨h, h0, by unfold mShardOf; rw [if_neg h0]⟩⟩
theorem impl_ShardOf_ok (a0 : Cch) (a1 : S) (h : pShardOf a0 a1) : s_impl_ShardOf a0 a1 (fun r => r = mShardOf a0 a1) := spec_ShardOf_ok a0 a1 h
theorem impl_CacheOk_1_ok (a0 : Slt) (a1 : Cch) (a2 : Int) (h : pCacheOk_1 a0 a1 a2) : s_impl_CacheOk_1 a0 a1 a2 (fun r => r = mCacheOk_1 a0 a1 a2) := ⟨h, rfl⟩
theorem slt_uri {l : List Slt} (h : md l) {x : Slt} (hx : x ∈ l) : sm x.1 := by
  have := cz_mem hx
  unfold md at h
  simp only [cz_pair] at this
  have e : cz x.1 = x.1.size := rfl
  unfold sm
  omega
theorem IndexFunc_CacheOk_1_ok (a0 : List Slt) (a1 : Cch × Int) (h : pIndexFunc_CacheOk_1 a0 a1) : s_IndexFunc_CacheOk_1 a0 a1 (fun r => r = mIndexFunc_CacheOk_1 a0 a1) :=
  idxS_ok (F := fun x => mCacheOk_1 x a1.1 a1.2) (by have := md_len' h; simp only [maxLen]; omega) (P := fun x => pCacheOk_1 x a1.1 a1.2) fun x hx => slt_uri h hx
theorem ContainsFunc_CacheOk_1_ok (a0 : List Slt) (a1 : Cch × Int) (h : pContainsFunc_CacheOk_1 a0 a1) : s_ContainsFunc_CacheOk_1 a0 a1 (fun r => r = mContainsFunc_CacheOk_1 a0 a1) := ⟨h, idxI_nonneg⟩

theorem cch_shard {c : Cch} (h : md c) {i : Nat} (hi : i < c.1.length) : md (rx c.1 (i : Int)) := by
  rw [rx_nat _ i hi]
  unfold md at h ⊢
  have := cz_mem (List.getElem_mem hi : c.1[i] ∈ c.1)
  rw [cz_pair] at h
  omega
theorem cch_gen {c : Cch} (h : md c) {i : Nat} (hi : i < c.2.length) : pUriOk (rx c.2 (i : Int)).1 := by
  rw [rx_nat _ i hi]
  unfold md at h
  have := cz_mem (List.getElem_mem hi : c.2[i] ∈ c.2)
  rw [cz_pair] at h this
  have e : cz c.2[i].1 = c.2[i].1.size := rfl
  unfold pUriOk sm
  omega
theorem shd_ring' {s : Shd} (h : md s) : md s.2.2.1 := by
  unfold md at h ⊢
  simp only [cz_pair] at h
  omega
open Classical in
theorem cacheOk_no {c : Cch} (h : ¬ cacheFine c) : false = mCacheOk c := by
  unfold mCacheOk
  rw [decide_eq_false h]
open Classical in
theorem cacheOk_yes {c : Cch} (h : cacheFine c) : true = mCacheOk c := by
  unfold mCacheOk
  rw [decide_eq_true h]
theorem prevI {i : Nat} (h0 : 0 < (i : Int)) (h1 : i ≤ 1048576) : IntKind.i64.wrap ((i : Int) - 1) = ((i - 1 : Nat) : Int) := by rw [wrap64 (by omega) (by omega)]; omega
theorem spec_CacheOk_ok (a0 : Cch) (h : pCacheOk a0) : s_spec_CacheOk a0 (fun r => r = mCacheOk a0) := by
  have hl1 : a0.1.length ≤ 1048576 := by have := cz_len a0.1; unfold pCacheOk md at h; rw [cz_pair] at h; omega
  have hl2 : a0.2.length ≤ 1048576 := by have := cz_len a0.2; unfold pCacheOk md at h; rw [cz_pair] at h; omega
  refine ⟨trivial, fun hn => cacheOk_no fun hc => hn hc.1, fun hin => ?_⟩
  have hin := Classical.not_not.1 hin
  intro L hL
  refine loopN hL a0.1.length (by omega) (fun i => ∀ j, j < i → shardAt a0 j) (fun i hi hI ih => ⟨fun hlt => ?_, fun hge => ?_⟩) (fun j hj => by omega)
  · have hlt' : i < a0.1.length := by omega
    have hms := cch_shard h hlt'
    refine ⟨by omega, hlt, hms, fun hno => cacheOk_no fun hc => hno (hc.2.1 i hlt').1, fun hok => ?_⟩
    have hok := Classical.not_not.1 hok
    have hring := md_len' (shd_ring' hms)
    intro L2 hL2
    refine loopN hL2 (rx a0.1 (i : Int)).2.2.1.length (by omega) (fun k => ∀ j, j < k → mShardOf a0 (rx (rx a0.1 (i : Int)).2.2.1 (j : Int)).1 = (i : Int)) (fun k hk hK ik => ⟨by omega, hlt, fun hkl => ?_, fun hkg => ?_⟩) (fun j hj => by omega)
    · have hkl' : k < (rx a0.1 (i : Int)).2.2.1.length := by omega
      refine ⟨by omega, hlt, by omega, hkl, slt_uri (shd_ring' hms) (rx_mem _ hkl'), fun hne => cacheOk_no fun hc => hne ((hc.2.1 i hlt').2 k hkl'), fun heq => ik hkl' fun j hj => ?_⟩
      by_cases e : j = k
      · subst e; exact Classical.not_not.1 heq
      · exact hK j (by omega)
    · refine ih hlt' fun j hj => ?_
      by_cases e : j = i
      · subst e; exact ⟨hok, fun k' hk' => hK k' (by omega)⟩
      · exact hI j (by omega)
  · intro L4 hL4
    refine loopN hL4 a0.2.length (by omega) (fun i => ∀ j, j < i → genAt a0.2 j) (fun k hk hK ik => ⟨fun hkl => ?_, fun hkg => cacheOk_yes ⟨hin, fun j hj => hI j (by omega), fun j hj => hK j (by omega)⟩⟩) (fun j hj => by omega)
    have hkl' : k < a0.2.length := by omega
    have next : genAt a0.2 k → L4 (IntKind.i64.wrap ((k : Int) + 1)) := fun hg => ik hkl' fun j hj => by
      by_cases e : j = k
      · subst e; exact hg
      · exact hK j (by omega)
    refine ⟨by omega, hkl, cch_gen h hkl', fun hno => cacheOk_no fun hc => hno (hc.2.2 k hkl').1, fun h1 => ⟨by omega, hkl, trivial, fun hno => cacheOk_no fun hc => hno (hc.2.2 k hkl').2.1, fun h2 => ⟨fun h0 => ?_, fun h0 => next ⟨Classical.not_not.1 h1, Classical.not_not.1 h2, .inl (by omega)⟩⟩⟩⟩
    rw [prevI h0 (by omega)]
    refine ⟨by omega, hkl, by omega, by omega, fun hno => cacheOk_no fun hc => ?_, fun hyes => next ⟨Classical.not_not.1 h1, Classical.not_not.1 h2, .inr ?_⟩⟩
    · rcases (hc.2.2 k hkl').2.2 with h3 | h3
      · omega
      · exact (strLt_not _ _).1 (hno.imp (fun h => h) fun h => h.symm) h3
    · exact Classical.not_not.1 fun h3 => hyes (((strLt_not _ _).2 h3).imp (fun h => h) fun h => h.symm)
theorem impl_CacheOk_ok (a0 : Cch) (h : pCacheOk a0) : s_impl_CacheOk a0 (fun r => r = mCacheOk a0) := by
  have hl1 : a0.1.length ≤ 1048576 := by have := cz_len a0.1; unfold pCacheOk md at h; rw [cz_pair] at h; omega
  have hl2 : a0.2.length ≤ 1048576 := by have := cz_len a0.2; unfold pCacheOk md at h; rw [cz_pair] at h; omega
  refine ⟨trivial, fun hn => cacheOk_no fun hc => hn hc.1, fun hin => ?_⟩
  have hin := Classical.not_not.1 hin
  intro L hL
  refine loopN hL a0.1.length (by omega) (fun i => ∀ j, j < i → shardAt a0 j) (fun i hi hI ih => ⟨fun hlt => ?_, fun hge => ?_⟩) (fun j hj => by omega)
  · have hlt' : i < a0.1.length := by omega
    have hms := cch_shard h hlt'
    refine ⟨by omega, hlt, hms, fun hno => cacheOk_no fun hc => hno (hc.2.1 i hlt').1, fun hok => ⟨shd_ring' hms, fun hany => cacheOk_no fun hc => ?_, fun hall => ih hlt' fun j hj => ?_⟩⟩
    · obtain ⟨x, hx, hp⟩ := List.any_eq_true.1 hany
      obtain ⟨k, hk, rfl⟩ := List.mem_iff_getElem.1 hx
      have := (hc.2.1 i hlt').2 k hk
      rw [rx_get _ hk] at this
      unfold mCacheOk_1 at hp
      simp only [decide_eq_true_eq] at hp
      exact hp this
    · by_cases e : j = i
      · subst e
        refine ⟨Classical.not_not.1 hok, fun k hk => ?_⟩
        rw [rx_get _ hk]
        apply Classical.byContradiction
        intro hne
        exact hall (List.any_eq_true.2 ⟨_, List.getElem_mem hk, by unfold mCacheOk_1; simp only [decide_eq_true_eq]; exact hne⟩)
      · exact hI j (by omega)
  · intro L4 hL4
    refine loopN hL4 a0.2.length (by omega) (fun i => ∀ j, j < i → genAt a0.2 j) (fun k hk hK ik => ⟨fun hkl => ?_, fun hkg => cacheOk_yes ⟨hin, fun j hj => hI j (by omega), fun j hj => hK j (by omega)⟩⟩) (fun j hj => by omega)
    have hkl' : k < a0.2.length := by omega
    have next : genAt a0.2 k → L4 (IntKind.i64.wrap ((k : Int) + 1)) := fun hg => ik hkl' fun j hj => by
      by_cases e : j = k
      · subst e; exact hg
      · exact hK j (by omega)
    refine ⟨by omega, hkl, cch_gen h hkl', fun hno => cacheOk_no fun hc => hno (hc.2.2 k hkl').1, fun h1 => ⟨trivial, fun hno => cacheOk_no fun hc => hno (hc.2.2 k hkl').2.1, fun h2 => ⟨fun h0 => ?_, fun h0 => next ⟨Classical.not_not.1 h1, Classical.not_not.1 h2, .inl (by omega)⟩⟩⟩⟩
    rw [prevI h0 (by omega)]
    refine ⟨by omega, by omega, fun hno => cacheOk_no fun hc => ?_, fun hyes => next ⟨Classical.not_not.1 h1, Classical.not_not.1 h2, .inr (Classical.not_not.1 hyes)⟩⟩
    rcases (hc.2.2 k hkl').2.2 with h3 | h3
    · omega
    · exact hno h3

theorem findTo_range (s : Shd) (q : Req) : ∀ i : Nat, -1 ≤ findTo s q i ∧ findTo s q i < (i : Int)
  | 0 => by simp [findTo]
  | i + 1 => by
    have := findTo_range s q i
    simp only [findTo]
    split <;> omega
theorem slt_vary {s : Shd} {q : Req} (h : pShardFind s q) {x : Slt} (hx : x ∈ s.2.2.1) : pVaryFits q (x.2.2.1, x.2.2.2.1, x.2.2.2.2.1) x.2.1 := by
  refine ⟨md_req h.2, ?_⟩
  have h1 := md_mem (show cz s.2.2.1 ≤ 1048576 from shd_ring' h.1) hx
  simp only [cz_pair] at h1
  show cz x.2.2.2.1 ≤ 1048576
  omega
theorem spec_ShardFind_ok (a0 : Shd) (a1 : Req) (h : pShardFind a0 a1) : s_spec_ShardFind a0 a1 (fun r => r = mShardFind a0 a1) := by
  have hlen := md_len' (shd_ring' h.1)
  refine ⟨h.1, fun hno => by unfold mShardFind; rw [if_pos (.inr hno)], fun hok => ⟨fun hm => by unfold mShardFind; rw [if_pos (.inl hm)], fun hm => ?_⟩⟩
  have e : mShardFind a0 a1 = findTo a0 a1 a0.2.2.1.length := by unfold mShardFind; rw [if_neg (fun hh => hh.elim hm hok)]
  rw [e]
  intro L hL
  refine loopI hL (fun y => ∃ i : Nat, i ≤ a0.2.2.1.length ∧ y.2 = (i : Int) ∧ y.1 = findTo a0 a1 i) (fun y => a0.2.2.1.length + 1 - y.2.toNat) (fun y hI ih => ?_) (-1, 0) ⟨0, by omega, rfl, rfl⟩
  obtain ⟨k, i'⟩ := y
  obtain ⟨i, hi, hy, hk⟩ := hI
  simp only at hy hk ⊢
  subst hy hk
  have hr := findTo_range a0 a1 i
  refine ⟨fun hlt => ?_, fun hge => by rw [show i = a0.2.2.1.length by omega]⟩
  have hlt' : i < a0.2.2.1.length := by omega
  rw [wrapS (by omega)]
  have next : ∀ k, k = findTo a0 a1 (i + 1) → L (k, ((i + 1 : Nat) : Int)) := fun k hk => ih _ ⟨i + 1, by omega, rfl, hk⟩ (by simp only [Int.toNat_natCast]; omega)
  refine ⟨by omega, hlt, fun h1 => ⟨slt_vary h (rx_mem _ hlt'), fun h2 => ⟨fun h3 => next _ ?_, fun h3 => ⟨by omega, by omega, fun h4 => next _ ?_, fun h4 => next _ ?_⟩⟩, fun h2 => next _ ?_⟩, fun h1 => next _ ?_⟩
  · simp only [findTo]; rw [if_pos ⟨h1, h2, .inl h3⟩]
  · simp only [findTo]; rw [if_pos ⟨h1, h2, .inr h4⟩]
  · simp only [findTo]; rw [if_neg (fun hh => hh.2.2.elim h3 h4)]
  · simp only [findTo]; rw [if_neg (fun hh => h2 hh.2.1)]
  · simp only [findTo]; rw [if_neg (fun hh => h1 hh.1)]
theorem impl_ShardFind_ok (a0 : Shd) (a1 : Req) (h : pShardFind a0 a1) : s_impl_ShardFind a0 a1 (fun r => r = mShardFind a0 a1) := by
  have hlen := md_len' (shd_ring' h.1)
  refine ⟨fun hm => by unfold mShardFind; rw [if_pos (.inl hm)], fun hm => ⟨h.1, fun hno => by unfold mShardFind; rw [if_pos (.inr hno)], fun hok => ?_⟩⟩
  have e : mShardFind a0 a1 = findTo a0 a1 a0.2.2.1.length := by unfold mShardFind; rw [if_neg (fun hh => hh.elim hm hok)]
  rw [e]
  intro L hL
  refine loopI hL (fun y => ∃ i : Nat, i ≤ a0.2.2.1.length ∧ y.2 = (i : Int) ∧ y.1 = findTo a0 a1 i) (fun y => a0.2.2.1.length + 1 - y.2.toNat) (fun y hI ih => ?_) (-1, 0) ⟨0, by omega, rfl, rfl⟩
  obtain ⟨k, i'⟩ := y
  obtain ⟨i, hi, hy, hk⟩ := hI
  simp only at hy hk ⊢
  subst hy hk
  have hr := findTo_range a0 a1 i
  refine ⟨fun hlt => ?_, fun hge => by rw [show i = a0.2.2.1.length by omega]⟩
  have hlt' : i < a0.2.2.1.length := by omega
  rw [wrapS (by omega)]
  have next : ∀ k, k = findTo a0 a1 (i + 1) → L (k, ((i + 1 : Nat) : Int)) := fun k hk => ih _ ⟨i + 1, by omega, rfl, hk⟩ (by simp only [Int.toNat_natCast]; omega)
  refine ⟨by omega, hlt, fun h1 => next _ ?_, fun h1 => ⟨slt_vary h (rx_mem _ hlt'), fun h2 => next _ ?_, fun h2 => ⟨fun h3 => next _ ?_, fun h3 => ⟨by omega, by omega, fun h4 => next _ ?_, fun h4 => next _ ?_⟩⟩⟩⟩
  · simp only [findTo]; rw [if_neg (fun hh => h1 hh.1)]
  · simp only [findTo]; rw [if_neg (fun hh => h2 hh.2.1)]
  · simp only [findTo]; rw [if_pos ⟨Classical.not_not.1 h1, Classical.not_not.1 h2, .inl h3⟩]
  · simp only [findTo]; rw [if_pos ⟨Classical.not_not.1 h1, Classical.not_not.1 h2, .inr h4⟩]
  · simp only [findTo]; rw [if_neg (fun hh => hh.2.2.elim h3 h4)]

end Go.Ev
end

section
/- Laws of the plain library: marks of what has slices in its slices; copies; ShardTouch. -/
set_option linter.unusedVariables false
set_option linter.unusedSimpArgs false
namespace Go.Ev
theorem rx_set {α : Type} [Dft α] {xs : List α} {i : Nat} (h : i < xs.length) (a : α) : rx (xs.set i a) (i : Int) = a := by
  rw [rx_get _ (by rw [List.length_set]; exact h), List.getElem_set_self]
theorem drop_set_succ {α : Type} {xs ys : List α} {i : Nat} {a : α} (h : xs.drop i = ys.drop i) : (xs.set i a).drop (i + 1) = ys.drop (i + 1) := by
  have : xs.drop (i + 1) = ys.drop (i + 1) := by
    have := congrArg (List.drop 1) h
    simpa [List.drop_drop, Nat.add_comm] using this
  rw [List.drop_set, if_pos (by omega)]
  exact this
theorem get_of_drop {α : Type} {xs ys : List α} {i : Nat} (h : xs.drop i = ys.drop i) (hx : i < xs.length) (hy : i < ys.length) : xs[i] = ys[i] := by
  have := congrArg List.head? h
  simpa [List.head?_drop, List.getElem?_eq_getElem hx, List.getElem?_eq_getElem hy] using this
theorem laws_markSlotS_ok (a0 : List Slt) (a1 : Int) (h : pMarkSlotS a0 a1) : s_laws_markSlotS a0 a1 (fun r y => r = mMarkSlotS a0 a1 ∧ y = wMarkSlotS a0 a1) := by
  obtain ⟨k0, k1⟩ := h
  have hlen : 6 * a0.length ≤ sumN (a0.map cntSlt) := sum_ge_len (fun x => by unfold cntSlt; omega) a0
  have hm := markL_length (f := markSlt) (c := cntSlt) a0 a1
  intro L hL
  refine loopI hL (fun y => ∃ i : Nat, i ≤ a0.length ∧ y.2.1 = (i : Int) ∧ y.1 = a1 + (sumN ((a0.take i).map cntSlt) : Nat) ∧ y.2.2.length = a0.length ∧ y.2.2.take i = (markL markSlt cntSlt a0 a1).take i ∧ y.2.2.drop i = a0.drop i) (fun y => a0.length + 1 - y.2.1.toNat) (fun y hI ih => ?_) (a1, 0, a0) ⟨0, by omega, rfl, by simp [sumN], rfl, by simp, rfl⟩
  obtain ⟨k, i', xs⟩ := y
  obtain ⟨i, hi, hy, hk, hl, ht, hd⟩ := hI
  simp only at hy hk hl ht hd ⊢
  subst hy
  have hs := sum_take_le cntSlt a0 i
  refine ⟨fun hlt => ?_, fun hge => ?_⟩
  · have hlt' : i < xs.length := by omega
    have hla : i < a0.length := by omega
    have hat := sum_at (c := cntSlt) hla
    have hstep := sum_take_succ (c := cntSlt) hla
    have hx : rx xs (i : Int) = a0[i] := by rw [rx_get _ hlt']; exact get_of_drop hd hlt' hla
    have rs : ∀ a : Slt, rx (xs.set i a) (i : Int) = a := fun a => rx_set hlt' a
    rw [hx]
    have hmk := markL_get (f := markSlt) (c := cntSlt) a0 a1 i hla
    rw [← hk] at hmk
    generalize a0[i] = x at hat hstep hmk
    have hc : cntSlt x = 6 + 2 * x.2.1.length + 2 * x.2.2.2.1.length := rfl
    refine ⟨⟨by omega, by omega⟩, by omega, hlt, ?_⟩
    simp only [Int.toNat_natCast]
    rintro _ rfl
    simp only [rs, List.length_set, List.set_set]
    refine ⟨by omega, hlt, ?_⟩
    rintro _ rfl
    simp only [rs, List.length_set, List.set_set]
    rw [wrap64 (n := k + 1) (by omega) (by omega)]
    refine ⟨⟨by omega, by omega, by omega⟩, ?_⟩
    simp only [show mMarkFieldS x.2.1 (k + 1) = k + 1 + 2 * (x.2.1.length : Int) from rfl, show (wMarkFieldS x.2.1 (k + 1)).1 = markFld x.2.1 (k + 1) from rfl]
    rintro _ rfl
    simp only [rs, List.length_set, List.set_set]
    refine ⟨by omega, hlt, ?_⟩
    rintro _ rfl
    simp only [rs, List.length_set, List.set_set]
    refine ⟨by omega, hlt, ?_⟩
    rintro _ rfl
    simp only [rs, List.length_set, List.set_set]
    rw [wrap64 (n := k + 1 + 2 * (x.2.1.length : Int) + 1) (by omega) (by omega)]
    generalize hk3 : k + 1 + 2 * (x.2.1.length : Int) + 1 = k3
    refine ⟨⟨by omega, by omega, by omega⟩, ?_⟩
    simp only [show mMarkFieldS x.2.2.2.1 k3 = k3 + 2 * (x.2.2.2.1.length : Int) from rfl, show (wMarkFieldS x.2.2.2.1 k3).1 = markFld x.2.2.2.1 k3 from rfl]
    rintro _ rfl
    simp only [rs, List.length_set, List.set_set]
    refine ⟨⟨by omega, by omega⟩, by omega, hlt, ?_⟩
    rintro _ rfl
    simp only [rs, List.length_set, List.set_set]
    refine ⟨by omega, hlt, ?_⟩
    rintro _ rfl
    simp only [rs, List.length_set, List.set_set]
    refine ⟨by omega, hlt, ?_⟩
    rintro _ rfl
    simp only [rs, List.length_set, List.set_set]
    refine ⟨by decide, by omega, hlt, ?_⟩
    rintro _ rfl
    rw [wrap64 (n := k3 + 2 * (x.2.2.2.1.length : Int) + 1) (by omega) (by omega), wrap64 (n := k3 + 2 * (x.2.2.2.1.length : Int) + 1 + 1) (by omega) (by omega), wrap64 (n := k3 + 2 * (x.2.2.2.1.length : Int) + 1 + 1 + 1) (by omega) (by omega), wrap64 (n := k3 + 2 * (x.2.2.2.1.length : Int) + 1 + 1 + 1 + 1) (by omega) (by omega), wrapS (by omega)]
    refine ih _ ⟨i + 1, by omega, rfl, ?_, by simp [hl], ?_, ?_⟩ (by simp only [Int.toNat_natCast]; omega)
    · simp only
      rw [hstep]
      omega
    · subst hk3
      exact take_set_succ hlt' (by omega) ht hmk
    · exact drop_set_succ hd
  · have hie : i = a0.length := by omega
    subst hie
    rw [List.take_of_length_le (by omega), List.take_of_length_le (by omega)] at ht
    rw [List.take_of_length_le (Nat.le_refl _)] at hk
    exact ⟨hk, by unfold wMarkSlotS; rw [ht]⟩
theorem marked_get {α : Type} {f : α → Int → α} {c : α → Nat} {l : List α} {k : Int} (h : markL f c l k = l) {i : Nat} (hi : i < l.length) : l[i] = f l[i] (k + (sumN ((l.take i).map c) : Nat)) := by
  have := markL_get (f := f) (c := c) l k i hi
  rw [← this]
  congr 1
  exact h.symm
theorem laws_heldSlotS_ok (a0 : List Slt) (a1 : Int) (h : pHeldSlotS a0 a1) : s_laws_heldSlotS a0 a1 (fun r => r = mHeldSlotS a0 a1) := by
  obtain ⟨⟨k0, k1⟩, hmk⟩ := h
  have hlen : 6 * a0.length ≤ sumN (a0.map cntSlt) := sum_ge_len (fun x => by unfold cntSlt; omega) a0
  intro L hL
  refine loopI hL (fun y => ∃ i : Nat, i ≤ a0.length ∧ y.2 = (i : Int) ∧ y.1 = a1 + (sumN ((a0.take i).map cntSlt) : Nat)) (fun y => a0.length + 1 - y.2.toNat) (fun y hI ih => ?_) (a1, 0) ⟨0, by omega, rfl, by simp [sumN]⟩
  obtain ⟨k, i'⟩ := y
  obtain ⟨i, hi, hy, hk⟩ := hI
  simp only at hy hk ⊢
  subst hy
  have hs := sum_take_le cntSlt a0 i
  refine ⟨fun hlt => ?_, fun hge => ?_⟩
  · have hla : i < a0.length := by omega
    have hat := sum_at (c := cntSlt) hla
    have hstep := sum_take_succ (c := cntSlt) hla
    have hg := marked_get hmk hla
    rw [← hk] at hg
    rw [rx_get _ hla]
    generalize a0[i] = x at hat hstep hg
    have hc : cntSlt x = 6 + 2 * x.2.1.length + 2 * x.2.2.2.1.length := rfl
    have g1 : x.1 = mMarkText k := congrArg (fun z : Slt => z.1) hg
    have g2 : x.2.1 = markFld x.2.1 (k + 1) := congrArg (fun z : Slt => z.2.1) hg
    have g3 : x.2.2.1 = k + 1 + 2 * (x.2.1.length : Int) := congrArg (fun z : Slt => z.2.2.1) hg
    have g4 : x.2.2.2.1 = markFld x.2.2.2.1 (k + 1 + 2 * (x.2.1.length : Int) + 1) := congrArg (fun z : Slt => z.2.2.2.1) hg
    have g5 : x.2.2.2.2.1 = mMarkText (k + 1 + 2 * (x.2.1.length : Int) + 1 + 2 * (x.2.2.2.1.length : Int)) := congrArg (fun z : Slt => z.2.2.2.2.1) hg
    have g6 : x.2.2.2.2.2.1 = k + 1 + 2 * (x.2.1.length : Int) + 1 + 2 * (x.2.2.2.1.length : Int) + 1 := congrArg (fun z : Slt => z.2.2.2.2.2.1) hg
    have g7 : x.2.2.2.2.2.2.1 = k + 1 + 2 * (x.2.1.length : Int) + 1 + 2 * (x.2.2.2.1.length : Int) + 1 + 1 := congrArg (fun z : Slt => z.2.2.2.2.2.2.1) hg
    have g8 : x.2.2.2.2.2.2.2 = decide ((k + 1 + 2 * (x.2.1.length : Int) + 1 + 2 * (x.2.2.2.1.length : Int) + 1 + 1 + 1).tmod 3 = 0) := congrArg (fun z : Slt => z.2.2.2.2.2.2.2) hg
    have e1 : mHeldFieldS x.2.1 (k + 1) = k + 1 + 2 * (x.2.1.length : Int) := by
      have := held_mark x.2.1 (k + 1)
      rw [← g2] at this
      exact this
    have e2 : mHeldFieldS x.2.2.2.1 (k + 1 + 2 * (x.2.1.length : Int) + 1) = k + 1 + 2 * (x.2.1.length : Int) + 1 + 2 * (x.2.2.2.1.length : Int) := by
      have := held_mark x.2.2.2.1 (k + 1 + 2 * (x.2.1.length : Int) + 1)
      rw [← g4] at this
      exact this
    rw [wrap64 (n := k + 1) (by omega) (by omega), e1, wrap64 (n := k + 1 + 2 * (x.2.1.length : Int) + 1) (by omega) (by omega), e2, wrap64 (n := k + 1 + 2 * (x.2.1.length : Int) + 1 + 2 * (x.2.2.2.1.length : Int) + 1) (by omega) (by omega),
      wrap64 (n := k + 1 + 2 * (x.2.1.length : Int) + 1 + 2 * (x.2.2.2.1.length : Int) + 1 + 1) (by omega) (by omega), wrap64 (n := k + 1 + 2 * (x.2.1.length : Int) + 1 + 2 * (x.2.2.2.1.length : Int) + 1 + 1 + 1) (by omega) (by omega),
      wrap64 (n := k + 1 + 2 * (x.2.1.length : Int) + 1 + 2 * (x.2.2.2.1.length : Int) + 1 + 1 + 1 + 1) (by omega) (by omega), wrapS (by omega)]
    refine ⟨by omega, hlt, ⟨by omega, by omega⟩, fun hne => absurd g1 hne, fun _ => ⟨by omega, hlt, ⟨by omega, by omega, by omega⟩, fun hn => by omega, fun _ => ⟨by omega, hlt, fun hne => absurd g3 hne, fun _ => ⟨by omega, hlt, ⟨by omega, by omega, by omega⟩, fun hn => by omega, fun _ =>
      ⟨by omega, hlt, ⟨by omega, by omega⟩, fun hne => absurd g5 hne, fun _ => ⟨by omega, hlt, fun hne => absurd g6 hne, fun _ => ⟨by omega, hlt, fun hne => absurd g7 hne, fun _ => ⟨by omega, hlt, by decide, fun hne => absurd g8 hne, fun _ => ?_⟩⟩⟩⟩⟩⟩⟩⟩
    refine ih _ ⟨i + 1, by omega, rfl, ?_⟩ (by simp only [Int.toNat_natCast]; omega)
    simp only
    rw [hstep]
    omega
  · have hie : i = a0.length := by omega
    subst hie
    rw [List.take_of_length_le (Nat.le_refl _)] at hk
    exact hk
theorem slices_Clone_Field_ok (a0 : List Fld) (h : pClone_Field a0) : s_slices_Clone_Field a0 (fun r => r = mClone_Field a0) := by
  unfold pClone_Field at h
  intro b hb
  refine ⟨fun hb' => (hb hb').symm, fun _ => ⟨by simp only [List.length_nil]; omega, by simp [mClone_Field]⟩⟩
theorem slices_Clone_GenRow_ok (a0 : List Gen) (h : pClone_GenRow a0) : s_slices_Clone_GenRow a0 (fun r => r = mClone_GenRow a0) := by
  unfold pClone_GenRow at h
  intro b hb
  refine ⟨fun hb' => (hb hb').symm, fun _ => ⟨by simp only [List.length_nil]; omega, by simp [mClone_GenRow]⟩⟩
theorem rsp_len {r : Rsp} (h : md r) : r.2.1.length ≤ 1048576 := md_len' (md_rsp h)
theorem impl_cloneResponse_ok (a0 : Rsp) (h : pCloneResponse a0) : s_impl_cloneResponse a0 (fun r => r = mCloneResponse a0) := ⟨by have := rsp_len h; unfold pClone_Field; omega, rfl⟩
theorem sto_md {x : Sto} (h : md x) : md x.2.1 ∧ md (x.2.2.1, x.2.2.2.1, x.2.2.2.2.1) := by
  unfold md at h ⊢
  simp only [cz_pair] at h ⊢
  omega
theorem impl_cloneStored_ok (a0 : Sto) (h : pCloneStored a0) : s_impl_cloneStored a0 (fun r => r = mCloneStored a0) := by
  obtain ⟨h1, h2⟩ := sto_md h
  exact ⟨by have := md_len' h1; unfold pClone_Field; omega, h2, rfl⟩
theorem spec_l12Resp_ok (a0 : Rsp) (h : pL12Resp a0) : s_spec_l12Resp a0 (fun r => r = mL12Resp a0) := by
  have := rsp_len h
  exact ⟨by simp only [List.length_nil]; omega, rfl⟩
theorem spec_l12One_ok (a0 : Sto) (h : pL12One a0) : s_spec_l12One a0 (fun r => r = mL12One a0) := by
  obtain ⟨h1, h2⟩ := sto_md h
  have := md_len' h1
  exact ⟨by simp only [List.length_nil]; omega, h2, rfl⟩
theorem shd_md {s : Shd} (h : md s) : md s.2.2.1 := by
  unfold md at h ⊢
  simp only [cz_pair] at h ⊢
  omega
theorem sto_of_slt {x : Slt} (h : md x) : md (x.1, x.2.1, x.2.2.1, x.2.2.2.1, x.2.2.2.2.1, x.2.2.2.2.2.1, x.2.2.2.2.2.2.1) := by
  unfold md at h ⊢
  simp only [cz_pair] at h ⊢
  omega
theorem impl_cloneShard_ok (a0 : Shd) (h : pCloneShard a0) : s_impl_cloneShard a0 (fun r => r = mCloneShard a0) := by
  have hr := shd_md h
  have hl := md_len' hr
  intro L hL
  refine loopG hL a0.2.2.1.length (fun i y => y.2 = (i : Int) ∧ y.1 = a0.2.2.1.take i) (fun i y hi hI hn => ?_) (s0 := ([], 0)) ⟨rfl, by simp⟩
  obtain ⟨xs, i'⟩ := y
  obtain ⟨h1, h2⟩ := hI
  simp only at h1 h2 ⊢
  subst h1 h2
  rw [wrapS (by omega)]
  refine ⟨fun hlt => ?_, fun hge => ?_⟩
  · have hi2 : i < a0.2.2.1.length := by omega
    rw [rx_get _ hi2]
    have hx : md a0.2.2.1[i] := md_mem hr (List.getElem_mem hi2)
    refine ⟨by omega, hlt, sto_of_slt hx, by simp only [List.length_take, List.length_cons, List.length_nil]; omega, hn _ hi2 ⟨rfl, ?_⟩⟩
    rw [take_succ_app hi2]
    rfl
  · rw [List.take_of_length_le (by omega)]
    rfl
theorem spec_l12Copy_ok (a0 : Shd) (h : pL12Copy a0) : s_spec_l12Copy a0 (fun r => r = mL12Copy a0) := by
  have hr := shd_md h
  have hl := md_len' hr
  intro L hL
  refine loopG hL a0.2.2.1.length (fun i y => y.2 = (i : Int) ∧ y.1 = a0.2.2.1.take i) (fun i y hi hI hn => ?_) (s0 := ([], 0)) ⟨rfl, by simp⟩
  obtain ⟨xs, i'⟩ := y
  obtain ⟨h1, h2⟩ := hI
  simp only at h1 h2 ⊢
  subst h1 h2
  rw [wrapS (by omega)]
  refine ⟨fun hlt => ?_, fun hge => ?_⟩
  · have hi2 : i < a0.2.2.1.length := by omega
    rw [rx_get _ hi2]
    have hx : md a0.2.2.1[i] := md_mem hr (List.getElem_mem hi2)
    refine ⟨by omega, hlt, sto_of_slt hx, by omega, hlt, by simp only [List.length_take, List.length_cons, List.length_nil]; omega, hn _ hi2 ⟨rfl, ?_⟩⟩
    rw [take_succ_app hi2]
    rfl
  · rw [List.take_of_length_le (by omega)]
    rfl
theorem in_at {n : Int} {m : Nat} (h : mIn n 0 ((m : Int) - 1) = true) : 0 ≤ n ∧ n < (m : Int) := by
  unfold mIn at h
  simp only [Bool.and_eq_true, decide_eq_true_eq] at h
  omega
theorem impl_ShardTouch_ok (a0 : Shd) (a1 : Int) (h : pShardTouch a0 a1) : s_impl_ShardTouch a0 a1 (fun r => r = mShardTouch a0 a1) := by
  have hl := md_len' (shd_md h)
  have hw : IntKind.i64.wrap ((a0.2.2.1.length : Int) - 1) = (a0.2.2.1.length : Int) - 1 := wrap64 (by omega) (by omega)
  unfold s_impl_ShardTouch
  rw [hw]
  refine ⟨h, h, fun h1 => ⟨trivial, fun h2 => ?_, fun h2 => ?_⟩, fun h1 => ?_⟩
  · have := in_at h2
    refine ⟨this.1, this.2, ?_⟩
    rintro _ rfl
    unfold mShardTouch
    rw [if_pos h1, if_pos h2]
    rfl
  · unfold mShardTouch
    rw [if_pos h1, if_neg h2]
    rfl
  · unfold mShardTouch
    rw [if_neg h1]
    rfl
theorem spec_ShardTouch_ok (a0 : Shd) (a1 : Int) (h : pShardTouch a0 a1) : s_spec_ShardTouch a0 a1 (fun r => r = mShardTouch a0 a1) := by
  have hl := md_len' (shd_md h)
  have hw : IntKind.i64.wrap ((a0.2.2.1.length : Int) - 1) = (a0.2.2.1.length : Int) - 1 := wrap64 (by omega) (by omega)
  unfold s_spec_ShardTouch
  rw [hw]
  refine ⟨h, h, fun h1 => ⟨trivial, fun h2 => ?_, fun h2 => ?_⟩, fun h1 => ?_⟩
  · have := in_at h2
    refine ⟨this.1, this.2, ?_⟩
    rintro _ rfl
    unfold mShardTouch
    rw [if_pos h1, if_pos h2]
    rfl
  · unfold mShardTouch
    rw [if_pos h1, if_neg h2]
    rfl
  · unfold mShardTouch
    rw [if_neg h1]
    rfl
theorem cz_touched (x : Slt) : cz (touched x) = cz x := by simp only [touched, cz_pair, cz_bool]
theorem map_set_same {α β : Type} {f : α → β} {l : List α} {i : Nat} {a : α} (h : ∀ hi : i < l.length, f a = f l[i]) : (l.set i a).map f = l.map f := by
  apply List.ext_getElem?
  intro j
  rw [List.getElem?_map, List.getElem?_set, List.getElem?_map]
  by_cases e : i = j
  · subst e
    by_cases hl : i < l.length
    · simp [hl, h hl]
    · simp [hl]
  · simp [e]
theorem touch_map {β : Type} (f : Slt → β) (hf : ∀ x, f (touched x) = f x) (s : Shd) (i : Int) : (mShardTouch s i).2.2.1.map f = s.2.2.1.map f := by
  unfold mShardTouch
  split
  · split
    · next h1 h2 =>
      have h3 := in_at h2
      obtain ⟨n, rfl⟩ : ∃ n : Nat, i = n := ⟨i.toNat, by omega⟩
      refine map_set_same fun hi => ?_
      simp only [Int.toNat_natCast] at hi ⊢
      rw [hf, rx_get _ hi]
    · rfl
  · rfl
theorem wd_touched {x : Slt} (h : wd x) : wd (touched x) := ⟨h.1, h.2.1, h.2.2.1, h.2.2.2.1, h.2.2.2.2.1, h.2.2.2.2.2.1, h.2.2.2.2.2.2.1, trivial⟩
theorem touch_wd {s : Shd} {i : Int} (h : wd s) : wd (mShardTouch s i) := by
  unfold mShardTouch
  split
  · split
    · next h1 h2 =>
      have h3 := in_at h2
      obtain ⟨n, rfl⟩ : ∃ n : Nat, i = n := ⟨i.toNat, by omega⟩
      refine ⟨h.1, h.2.1, ⟨by show (s.2.2.1.set _ _).length ≤ _; rw [List.length_set]; exact h.2.2.1.1, fun j x hx => ?_⟩, h.2.2.2⟩
      have hx' : (s.2.2.1.set n (touched (rx s.2.2.1 (n : Int))))[j]? = some x := hx
      rcases List.mem_or_eq_of_mem_set (List.mem_of_getElem? hx') with hm | hm
      · exact wd_mem h.2.2.1 hm
      · subst hm
        exact wd_touched (wd_mem h.2.2.1 (rx_mem _ (by omega)))
    · exact h
  · exact h
theorem cnt_le_cz (x : Slt) : cntSlt x ≤ 6 + 2 * cz x := by
  simp only [cntSlt, cz_pair, cz_list, cz_str, cz_int, cz_bool]
  omega
end Go.Ev
end

section
/- Laws of the plain library: ConnNew: marks of a connection that holds no rows. -/
set_option linter.unusedVariables false
namespace Go.Ev
end Go.Ev
end

section
/- Laws of the plain library: marks of caches; CacheFind, CacheHit. -/
set_option linter.unusedVariables false
set_option linter.unusedSimpArgs false
namespace Go.Ev
theorem laws_markShardS_ok (a0 : List Shd) (a1 : Int) (h : pMarkShardS a0 a1) : s_laws_markShardS a0 a1 (fun r y => r = mMarkShardS a0 a1 ∧ y = wMarkShardS a0 a1) := by
  obtain ⟨k0, k1⟩ := h
  have hlen : 3 * a0.length ≤ sumN (a0.map cntShd) := sum_ge_len (fun x => by unfold cntShd; omega) a0
  have hm := markL_length (f := markShd) (c := cntShd) a0 a1
  intro L hL
  refine loopI hL (fun y => ∃ i : Nat, i ≤ a0.length ∧ y.2.1 = (i : Int) ∧ y.1 = a1 + (sumN ((a0.take i).map cntShd) : Nat) ∧ y.2.2.length = a0.length ∧ y.2.2.take i = (markL markShd cntShd a0 a1).take i ∧ y.2.2.drop i = a0.drop i) (fun y => a0.length + 1 - y.2.1.toNat) (fun y hI ih => ?_) (a1, 0, a0) ⟨0, by omega, rfl, by simp [sumN], rfl, by simp, rfl⟩
  obtain ⟨k, i', xs⟩ := y
  obtain ⟨i, hi, hy, hk, hl, ht, hd⟩ := hI
  simp only at hy hk hl ht hd ⊢
  subst hy
  have hs := sum_take_le cntShd a0 i
  refine ⟨fun hlt => ?_, fun hge => ?_⟩
  · have hlt' : i < xs.length := by omega
    have hla : i < a0.length := by omega
    have hat := sum_at (c := cntShd) hla
    have hstep := sum_take_succ (c := cntShd) hla
    have hx : rx xs (i : Int) = a0[i] := by rw [rx_get _ hlt']; exact get_of_drop hd hlt' hla
    have rs : ∀ a : Shd, rx (xs.set i a) (i : Int) = a := fun a => rx_set hlt' a
    rw [hx]
    have hmk := markL_get (f := markShd) (c := cntShd) a0 a1 i hla
    rw [← hk] at hmk
    generalize a0[i] = x at hat hstep hmk
    have hc : cntShd x = 3 + sumN (x.2.2.1.map cntSlt) := rfl
    refine ⟨by omega, hlt, ?_⟩
    simp only [Int.toNat_natCast]
    rintro _ rfl
    simp only [rs, List.length_set, List.set_set]
    refine ⟨by omega, hlt, ?_⟩
    rintro _ rfl
    simp only [rs, List.length_set, List.set_set]
    refine ⟨by omega, hlt, ?_⟩
    rintro _ rfl
    rintro _ rfl
    simp only [rs, List.length_set, List.set_set]
    rw [wrap64 (n := k + 1) (by omega) (by omega), wrap64 (n := k + 1 + 1) (by omega) (by omega)]
    refine ⟨⟨by omega, by omega⟩, ?_⟩
    simp only [show mMarkSlotS x.2.2.1 (k + 1 + 1) = k + 1 + 1 + (sumN (x.2.2.1.map cntSlt) : Nat) from rfl, show (wMarkSlotS x.2.2.1 (k + 1 + 1)).1 = markL markSlt cntSlt x.2.2.1 (k + 1 + 1) from rfl]
    rintro _ rfl
    simp only [rs, List.length_set, List.set_set]
    rintro _ rfl
    refine ⟨by omega, hlt, ?_⟩
    rintro _ rfl
    rw [wrap64 (n := k + 1 + 1 + (sumN (x.2.2.1.map cntSlt) : Nat) + 1) (by omega) (by omega), wrapS (by omega)]
    refine ih _ ⟨i + 1, by omega, rfl, ?_, by simp [hl], ?_, ?_⟩ (by simp only [Int.toNat_natCast]; omega)
    · simp only
      rw [hstep]
      omega
    · exact take_set_succ hlt' (by omega) ht hmk
    · exact drop_set_succ hd
  · have hie : i = a0.length := by omega
    subst hie
    rw [List.take_of_length_le (by omega), List.take_of_length_le (by omega)] at ht
    rw [List.take_of_length_le (Nat.le_refl _)] at hk
    exact ⟨hk, by unfold wMarkShardS; rw [ht]⟩
theorem laws_heldShardS_ok (a0 : List Shd) (a1 : Int) (h : pHeldShardS a0 a1) : s_laws_heldShardS a0 a1 (fun r => r = mHeldShardS a0 a1) := by
  obtain ⟨⟨k0, k1⟩, hmk⟩ := h
  have hlen : 3 * a0.length ≤ sumN (a0.map cntShd) := sum_ge_len (fun x => by unfold cntShd; omega) a0
  intro L hL
  refine loopI hL (fun y => ∃ i : Nat, i ≤ a0.length ∧ y.2 = (i : Int) ∧ y.1 = a1 + (sumN ((a0.take i).map cntShd) : Nat)) (fun y => a0.length + 1 - y.2.toNat) (fun y hI ih => ?_) (a1, 0) ⟨0, by omega, rfl, by simp [sumN]⟩
  obtain ⟨k, i'⟩ := y
  obtain ⟨i, hi, hy, hk⟩ := hI
  simp only at hy hk ⊢
  subst hy
  have hs := sum_take_le cntShd a0 i
  refine ⟨fun hlt => ?_, fun hge => ?_⟩
  · have hla : i < a0.length := by omega
    have hat := sum_at (c := cntShd) hla
    have hstep := sum_take_succ (c := cntShd) hla
    have hg := marked_get hmk hla
    rw [← hk] at hg
    rw [rx_get _ hla]
    generalize a0[i] = x at hat hstep hg
    have hc : cntShd x = 3 + sumN (x.2.2.1.map cntSlt) := rfl
    have g1 : x.1 = k := congrArg (fun z : Shd => z.1) hg
    have g2 : x.2.1 = k + 1 := congrArg (fun z : Shd => z.2.1) hg
    have g3 : x.2.2.1 = markL markSlt cntSlt x.2.2.1 (k + 1 + 1) := congrArg (fun z : Shd => z.2.2.1) hg
    have g4 : x.2.2.2 = k + 1 + 1 + (sumN (x.2.2.1.map cntSlt) : Nat) := congrArg (fun z : Shd => z.2.2.2) hg
    have e1 : mHeldSlotS x.2.2.1 (k + 1 + 1) = k + 1 + 1 + (sumN (x.2.2.1.map cntSlt) : Nat) := rfl
    rw [wrap64 (n := k + 1) (by omega) (by omega), wrap64 (n := k + 1 + 1) (by omega) (by omega), e1, wrap64 (n := k + 1 + 1 + (sumN (x.2.2.1.map cntSlt) : Nat) + 1) (by omega) (by omega), wrapS (by omega)]
    refine ⟨by omega, hlt, fun hne => absurd g1 hne, fun _ => ⟨by omega, hlt, fun hne => absurd g2 hne, fun _ => ⟨by omega, hlt, ⟨⟨by omega, by omega⟩, g3.symm⟩, fun hn => by omega, fun _ => ⟨by omega, hlt, fun hne => absurd g4 hne, fun _ => ?_⟩⟩⟩⟩
    refine ih _ ⟨i + 1, by omega, rfl, ?_⟩ (by simp only [Int.toNat_natCast]; omega)
    simp only
    rw [hstep]
    omega
  · have hie : i = a0.length := by omega
    subst hie
    rw [List.take_of_length_le (Nat.le_refl _)] at hk
    exact hk
theorem laws_markGenRowS_ok (a0 : List Gen) (a1 : Int) (h : pMarkGenRowS a0 a1) : s_laws_markGenRowS a0 a1 (fun r y => r = mMarkGenRowS a0 a1 ∧ y = wMarkGenRowS a0 a1) := by
  obtain ⟨k0, k1⟩ := h
  have hsum := sum_gen a0
  have hm := markL_length (f := markGen) (c := cntGen) a0 a1
  intro L hL
  refine loopI hL (fun y => ∃ i : Nat, i ≤ a0.length ∧ y.2.1 = (i : Int) ∧ y.1 = a1 + (sumN ((a0.take i).map cntGen) : Nat) ∧ y.2.2.length = a0.length ∧ y.2.2.take i = (markL markGen cntGen a0 a1).take i) (fun y => a0.length + 1 - y.2.1.toNat) (fun y hI ih => ?_) (a1, 0, a0) ⟨0, by omega, rfl, by simp [sumN], rfl, by simp⟩
  obtain ⟨k, i', xs⟩ := y
  obtain ⟨i, hi, hy, hk, hl, ht⟩ := hI
  simp only at hy hk hl ht ⊢
  subst hy
  have hs := sum_take_le cntGen a0 i
  refine ⟨fun hlt => ?_, fun hge => ?_⟩
  · have hlt' : i < xs.length := by omega
    have hla : i < a0.length := by omega
    have hat := sum_at (c := cntGen) hla
    have hstep := sum_take_succ (c := cntGen) hla
    have rs : ∀ a : Gen, rx (xs.set i a) (i : Int) = a := fun a => rx_set hlt' a
    have hmk := markL_get (f := markGen) (c := cntGen) a0 a1 i hla
    rw [← hk] at hmk
    have hc : cntGen a0[i] = 2 := rfl
    simp only [Int.toNat_natCast, rs, List.length_set, List.set_set]
    rw [wrap64 (n := k + 1) (by omega) (by omega), wrap64 (n := k + 1 + 1) (by omega) (by omega), wrapS (by omega)]
    refine ⟨⟨by omega, by omega⟩, by omega, hlt, by omega, hlt, ?_⟩
    refine ih _ ⟨i + 1, by omega, rfl, ?_, by simp [hl], ?_⟩ (by simp only [Int.toNat_natCast]; omega)
    · simp only
      rw [hstep]
      omega
    · exact take_set_succ hlt' (by omega) ht hmk
  · have hie : i = a0.length := by omega
    subst hie
    rw [List.take_of_length_le (by omega), List.take_of_length_le (by omega)] at ht
    rw [List.take_of_length_le (Nat.le_refl _)] at hk
    exact ⟨hk, by unfold wMarkGenRowS; rw [ht]⟩
theorem laws_heldGenRowS_ok (a0 : List Gen) (a1 : Int) (h : pHeldGenRowS a0 a1) : s_laws_heldGenRowS a0 a1 (fun r => r = mHeldGenRowS a0 a1) := by
  obtain ⟨⟨k0, k1⟩, hmk⟩ := h
  have hsum := sum_gen a0
  intro L hL
  refine loopI hL (fun y => ∃ i : Nat, i ≤ a0.length ∧ y.2 = (i : Int) ∧ y.1 = a1 + (sumN ((a0.take i).map cntGen) : Nat)) (fun y => a0.length + 1 - y.2.toNat) (fun y hI ih => ?_) (a1, 0) ⟨0, by omega, rfl, by simp [sumN]⟩
  obtain ⟨k, i'⟩ := y
  obtain ⟨i, hi, hy, hk⟩ := hI
  simp only at hy hk ⊢
  subst hy
  have hs := sum_take_le cntGen a0 i
  refine ⟨fun hlt => ?_, fun hge => ?_⟩
  · have hla : i < a0.length := by omega
    have hat := sum_at (c := cntGen) hla
    have hstep := sum_take_succ (c := cntGen) hla
    have hg := marked_get hmk hla
    rw [← hk] at hg
    rw [rx_get _ hla]
    generalize a0[i] = x at hat hstep hg
    have hc : cntGen x = 2 := rfl
    have g1 : x.1 = mMarkText k := congrArg (fun z : Gen => z.1) hg
    have g2 : x.2 = k + 1 := congrArg (fun z : Gen => z.2) hg
    rw [wrap64 (n := k + 1) (by omega) (by omega), wrap64 (n := k + 1 + 1) (by omega) (by omega), wrapS (by omega)]
    refine ⟨by omega, hlt, ⟨by omega, by omega⟩, fun hne => absurd g1 hne, fun _ => ⟨by omega, hlt, fun hne => absurd g2 hne, fun _ => ?_⟩⟩
    refine ih _ ⟨i + 1, by omega, rfl, ?_⟩ (by simp only [Int.toNat_natCast]; omega)
    simp only
    rw [hstep]
    omega
  · have hie : i = a0.length := by omega
    subst hie
    rw [List.take_of_length_le (Nat.le_refl _)] at hk
    exact hk
theorem laws_markCache_ok (a0 : Cch) (a1 : Int) (h : pMarkCache a0 a1) : s_laws_markCache a0 a1 (fun r y => r = mMarkCache a0 a1 ∧ y = wMarkCache a0 a1) := by
  obtain ⟨k0, k1⟩ := h
  refine ⟨⟨by omega, by omega⟩, ⟨?_, ?_⟩, rfl, rfl⟩
  · unfold mMarkShardS; omega
  · unfold mMarkShardS; omega
theorem laws_heldCache_ok (a0 : Cch) (a1 : Int) (h : pHeldCache a0 a1) : s_laws_heldCache a0 a1 (fun r => r = mHeldCache a0 a1) := by
  obtain ⟨⟨k0, k1⟩, m1, m2⟩ := h
  have e1 : mHeldShardS a0.1 a1 = a1 + (sumN (a0.1.map cntShd) : Nat) := rfl
  have e2 : mHeldGenRowS a0.2 (mHeldShardS a0.1 a1) = a1 + (sumN (a0.1.map cntShd) : Nat) + (sumN (a0.2.map cntGen) : Nat) := rfl
  refine ⟨⟨⟨by omega, by omega⟩, m1⟩, fun hn => by omega, fun _ => ⟨⟨⟨by omega, by omega⟩, m2⟩, fun hn => by omega, fun _ => rfl⟩⟩
theorem cch_md {c : Cch} (h : md c) : md c.1 ∧ md c.2 := by
  unfold md at h ⊢
  rw [cz_pair] at h
  omega
theorem impl_cloneCache_ok (a0 : Cch) (h : pCloneCache a0) : s_impl_cloneCache a0 (fun r => r = mCloneCache a0) := by
  obtain ⟨h1, h2⟩ := cch_md h
  have l1 := md_len' h1
  have l2 := md_len' h2
  refine ⟨by unfold pClone_GenRow; omega, ?_⟩
  intro L hL
  refine loopG hL a0.1.length (fun i y => y.1 = (i : Int) ∧ y.2.1 = a0.1.take i ∧ y.2.2 = a0.2) (fun i y hi hI hn => ?_) (s0 := (0, [], mClone_GenRow a0.2)) ⟨rfl, by simp, rfl⟩
  obtain ⟨i', xs, gs⟩ := y
  obtain ⟨e1, e2, e3⟩ := hI
  simp only at e1 e2 e3 ⊢
  subst e1 e2 e3
  rw [wrapS (by omega)]
  refine ⟨fun hlt => ?_, fun hge => ?_⟩
  · have hi2 : i < a0.1.length := by omega
    refine ⟨by omega, hlt, cch_shard h hi2, by simp only [List.length_take, List.length_cons, List.length_nil]; omega, hn _ hi2 ⟨rfl, ?_, rfl⟩⟩
    rw [rx_get _ hi2, take_succ_app hi2]
    rfl
  · rw [List.take_of_length_le (by omega)]
    rfl
theorem spec_l13Copy_ok (a0 : Cch) (h : pL13Copy a0) : s_spec_l13Copy a0 (fun r => r = mL13Copy a0) := by
  obtain ⟨h1, h2⟩ := cch_md h
  have l1 := md_len' h1
  have l2 := md_len' h2
  refine ⟨by simp only [List.length_nil]; omega, ?_⟩
  intro L hL
  refine loopG hL a0.1.length (fun i y => y.1 = (i : Int) ∧ y.2.1 = a0.1.take i ∧ y.2.2 = a0.2) (fun i y hi hI hn => ?_) (s0 := (0, [], [] ++ a0.2)) ⟨rfl, by simp, rfl⟩
  obtain ⟨i', xs, gs⟩ := y
  obtain ⟨e1, e2, e3⟩ := hI
  simp only at e1 e2 e3 ⊢
  subst e1 e2 e3
  rw [wrapS (by omega)]
  refine ⟨fun hlt => ?_, fun hge => ?_⟩
  · have hi2 : i < a0.1.length := by omega
    refine ⟨by omega, hlt, cch_shard h hi2, by simp only [List.length_take, List.length_cons, List.length_nil]; omega, hn _ hi2 ⟨rfl, ?_, rfl⟩⟩
    rw [rx_get _ hi2, take_succ_app hi2]
    rfl
  · rw [List.take_of_length_le (by omega)]
    rfl
theorem lxor_lt {h : Int} {b : UInt8} (h0 : 0 ≤ h) (h1 : h < 4294967296) : 0 ≤ lxor IntKind.i64 h (IntKind.i64.wrap (b.toNat : Int)) ∧ lxor IntKind.i64 h (IntKind.i64.wrap (b.toNat : Int)) < 4294967296 := by
  have hb := b.toNat_lt
  have w : IntKind.i64.wrap (b.toNat : Int) = (b.toNat : Int) := wrap64 (by omega) (by omega)
  rw [w]
  obtain ⟨n, rfl⟩ : ∃ n : Nat, h = n := ⟨h.toNat, by omega⟩
  have hx : n ^^^ b.toNat < 2 ^ 32 := Nat.xor_lt_two_pow (by omega) (by omega)
  have e : lxor IntKind.i64 (n : Int) (b.toNat : Int) = ((n ^^^ b.toNat : Nat) : Int) := by
    unfold lxor bitsOf
    have e1 : ((BitVec.ofInt IntKind.i64.bits (n : Int)) ^^^ (BitVec.ofInt IntKind.i64.bits (b.toNat : Int))).toNat = n ^^^ b.toNat := by
      rw [BitVec.toNat_xor, BitVec.ofInt_natCast, BitVec.ofInt_natCast, BitVec.toNat_ofNat, BitVec.toNat_ofNat]
      show n % 2 ^ 64 ^^^ b.toNat % 2 ^ 64 = _
      rw [Nat.mod_eq_of_lt (by omega), Nat.mod_eq_of_lt (by omega)]
    rw [e1]
    exact wrap64 (by omega) (by omega)
  rw [e]
  omega
theorem fnvStep_range {h : Int} (b : UInt8) (h0 : 0 ≤ h) (h1 : h < 4294967296) : 0 ≤ fnvStep h b ∧ fnvStep h b < 4294967296 := by
  obtain ⟨x0, x1⟩ := lxor_lt (b := b) h0 h1
  unfold fnvStep
  generalize lxor IntKind.i64 h (IntKind.i64.wrap (b.toNat : Int)) = x at x0 x1
  rw [wrap64 (by omega) (by omega)]
  exact ⟨Int.tmod_nonneg _ (by omega), Int.tmod_lt_of_pos _ (by omega)⟩
theorem fnv_fold : ∀ (l : List UInt8) (h : Int), 0 ≤ h → h < 4294967296 → 0 ≤ l.foldl fnvStep h
  | [], h, h0, _ => h0
  | b :: r, h, h0, h1 => fnv_fold r _ (fnvStep_range b h0 h1).1 (fnvStep_range b h0 h1).2
theorem fnv_nonneg (s : S) : 0 ≤ mFnv s := fnv_fold _ _ (by omega) (by omega)
theorem shardOf_range {c : Cch} (u : S) (h : 0 < c.1.length) : 0 ≤ mShardOf c u ∧ mShardOf c u < (c.1.length : Int) := by
  unfold mShardOf
  rw [if_neg (by omega)]
  exact ⟨Int.tmod_nonneg _ (fnv_nonneg u), Int.tmod_lt_of_pos _ (by omega)⟩
open Classical in
theorem cacheOk_len {c : Cch} (h : mCacheOk c = true) : 0 < c.1.length := by
  have := (of_decide_eq_true h).1
  unfold mIn at this
  simp only [Bool.and_eq_true, decide_eq_true_eq] at this
  omega
theorem rx_md {c : Cch} {u : S} (h : md c) (hr : 0 ≤ mShardOf c u ∧ mShardOf c u < (c.1.length : Int)) : md (rx c.1 (mShardOf c u)) := by
  obtain ⟨n, e⟩ : ∃ n : Nat, mShardOf c u = n := ⟨(mShardOf c u).toNat, by omega⟩
  rw [e] at hr ⊢
  exact cch_shard h (by omega)
theorem impl_CacheHit_ok (a0 : Cch) (a1 : Req) (h : pCacheHit a0 a1) : s_impl_CacheHit a0 a1 (fun r => r = mCacheHit a0 a1) := by
  obtain ⟨m0, m1⟩ := h
  have hu : pShardOf a0 a1.2.1 := by
    unfold md at m1
    simp only [cz_pair] at m1
    have e : cz a1.2.1 = a1.2.1.size := rfl
    unfold pShardOf sm
    omega
  refine ⟨m0, m0, fun hno => by unfold mCacheHit; rw [if_neg hno]; rfl, fun hok => ?_⟩
  have hok := Classical.not_not.1 hok
  have hr := shardOf_range (c := a0) a1.2.1 (cacheOk_len hok)
  have ms := rx_md m0 hr
  refine ⟨hu, hr.1, hr.2, hr.1, hr.2, ⟨ms, m1⟩, ms, hr.1, hr.2, ?_⟩
  unfold mCacheHit
  rw [if_pos hok]
  rfl
theorem spec_CacheHit_ok (a0 : Cch) (a1 : Req) (h : pCacheHit a0 a1) : s_spec_CacheHit a0 a1 (fun r => r = mCacheHit a0 a1) := impl_CacheHit_ok a0 a1 h
theorem cntShd_le (x : Shd) : cntShd x ≤ 3 + 8 * cz x := by
  have h1 := sum_le_of cnt_le_cz x.2.2.1
  rw [sum_mul] at h1
  have e : cz x = x.2.2.1.length + sumN (x.2.2.1.map cz) := by simp only [cz_pair, cz_int, cz_list]; omega
  unfold cntShd
  omega
theorem cch_cnt {c : Cch} (h : md c) : sumN (c.1.map cntShd) + sumN (c.2.map cntGen) ≤ 16777216 := by
  have h1 := sum_le_of cntShd_le c.1
  rw [sum_mul] at h1
  rw [sum_gen]
  unfold md at h
  rw [cz_pair, cz_list, cz_list] at h
  omega
theorem hit_md {c : Cch} {q : Req} (h : md c) : md (mCacheHit c q) := by
  unfold mCacheHit
  split
  · next hok =>
    have hr := shardOf_range (c := c) q.2.1 (cacheOk_len hok)
    obtain ⟨n, e⟩ : ∃ n : Nat, mShardOf c q.2.1 = n := ⟨(mShardOf c q.2.1).toNat, by omega⟩
    rw [e] at hr ⊢
    have hn : n < c.1.length := by omega
    have hz : cz (mShardTouch (rx c.1 (n : Int)) (mShardFind (rx c.1 (n : Int)) q)) = cz (rx c.1 (n : Int)) := by
      have h1 := touch_map cz cz_touched (rx c.1 (n : Int)) (mShardFind (rx c.1 (n : Int)) q)
      have h2 := congrArg List.length h1
      simp only [List.length_map] at h2
      have e : ∀ t : Shd, cz t = t.2.2.1.length + sumN (t.2.2.1.map cz) := fun t => by simp only [cz_pair, cz_int, cz_list]; omega
      rw [e, e, h1, h2]
    unfold md at h ⊢
    rw [cz_pair, cz_list] at h ⊢
    rw [Int.toNat_natCast, List.length_set, map_set_same (fun hi => by rw [hz, rx_get _ hi])]
    exact h
  · exact h
theorem hit_wd {c : Cch} {q : Req} (h : wd c) : wd (mCacheHit c q) := by
  unfold mCacheHit
  split
  · next hok =>
    have hr := shardOf_range (c := c) q.2.1 (cacheOk_len hok)
    obtain ⟨n, e⟩ : ∃ n : Nat, mShardOf c q.2.1 = n := ⟨(mShardOf c q.2.1).toNat, by omega⟩
    rw [e] at hr ⊢
    have hn : n < c.1.length := by omega
    refine ⟨⟨by rw [List.length_set]; exact h.1.1, fun j x hx => ?_⟩, h.2⟩
    rcases List.mem_or_eq_of_mem_set (List.mem_of_getElem? hx) with hm | hm
    · exact wd_mem h.1 hm
    · subst hm
      exact touch_wd (wd_mem h.1 (rx_mem _ hn))
  · exact h
def p_FnExactCacheHit (a0 : Cch) (a1 : Req) : Prop := wd a0 ∧ wd a1
theorem laws_FnExactCacheHit_ok (a0 : Cch) (a1 : Req) (h : p_FnExactCacheHit a0 a1) : s_laws_FnExactCacheHit a0 a1 (fun r => r = true) := by
  obtain ⟨w0, w1⟩ := h
  refine ⟨⟨w0, by omega, by simp [capI]⟩, fun _ => rfl, fun hs0 => ⟨pSz_next hs0 (by omega) (by omega) w1, fun _ => rfl, fun hs1 => ?_⟩⟩
  have k0 := szF_le a0 (k := 1048576) (by omega)
  have m0 : md a0 := szF_md hs0 (by omega) (by omega)
  have m1 : md a1 := szF_md hs1 (by omega) (by omega)
  have hp : pCacheHit (toF a0) (toF a1) := ⟨m0, m1⟩
  have pw : wd (mCacheHit (toF a0) (toF a1)) := hit_wd w0
  have pm : md (mCacheHit (toF a0) (toF a1)) := hit_md m0
  have c0 := cch_cnt m0
  have c1 := cch_cnt pm
  have q1 := md_len' (md_req m1)
  have hk1 : pMarkCache (toF a0) 1 := ⟨by omega, by show 1 + ((sumN (a0.1.map cntShd) + sumN (a0.2.map cntGen) : Nat) : Int) ≤ _; omega⟩
  have e0 : mMarkCache (toF a0) 1 = 1 + ((sumN (a0.1.map cntShd) : Nat) : Int) + ((sumN (a0.2.map cntGen) : Nat) : Int) := rfl
  have hk2 : pMarkRequest (toF a1) (mMarkCache (toF a0) 1) := ⟨by rw [e0]; omega, by rw [e0]; omega, by show a1.2.2.1.length ≤ _; omega⟩
  have hg : ¬ mMarkRequest (toF a1) (mMarkCache (toF a0) 1) < 0 := by show ¬ (mMarkCache (toF a0) 1 + 2 * (a1.2.2.1.length : Int) < 0); rw [e0]; omega
  have hm : pMarkCache (mCacheHit (toF a0) (toF a1)) 1 := ⟨by omega, by omega⟩
  generalize mCacheHit (toF a0) (toF a1) = r at pw pm c1 hm
  have s1 : sumN ((markL markShd cntShd r.1 1).map cntShd) = sumN (r.1.map cntShd) := markL_cnt cnt_markShd _ _
  have s2 : ∀ k, sumN ((markL markGen cntGen r.2 k).map cntGen) = sumN (r.2.map cntGen) := fun k => markL_cnt (f := markGen) (c := cntGen) (fun _ _ => rfl) _ _
  have e1 : mHeldShardS (wMarkCache r 1).1.1 1 = mMarkShardS r.1 1 := by
    show 1 + ((sumN ((markL markShd cntShd r.1 1).map cntShd) : Nat) : Int) = 1 + ((sumN (r.1.map cntShd) : Nat) : Int)
    rw [s1]
  have hh : pHeldCache (wMarkCache r 1).1 1 := by
    refine ⟨⟨by omega, ?_⟩, markL_idem cnt_markShd markShd_idem _ _, ?_⟩
    · show 1 + ((sumN ((markL markShd cntShd r.1 1).map cntShd) + sumN ((markL markGen cntGen r.2 (mMarkShardS r.1 1)).map cntGen) : Nat) : Int) ≤ _
      rw [s1, s2]
      omega
    · rw [e1]
      exact markL_idem (f := markGen) (c := cntGen) (fun _ _ => rfl) (fun _ _ => rfl) _ _
  have he : mHeldCache (wMarkCache r 1).1 1 = mMarkCache r 1 := by
    show mHeldShardS (wMarkCache r 1).1.1 1 + ((sumN ((markL markGen cntGen r.2 (mMarkShardS r.1 1)).map cntGen) : Nat) : Int) = mMarkShardS r.1 1 + ((sumN (r.2.map cntGen) : Nat) : Int)
    rw [e1, s2]
  have hge : ¬ mHeldCache (wMarkCache r 1).1 1 < 0 := by
    rw [he]
    show ¬ (1 + ((sumN (r.1.map cntShd) : Nat) : Int) + ((sumN (r.2.map cntGen) : Nat) : Int) < 0)
    omega
  have eqs : ∀ {α : Type} [DecidableEq α] (x : α), ¬ (eqF x x = true) → False := fun x hne => hne (eqF_iff.2 rfl)
  exact ⟨m0, m1, hp, m0, m1, hp, pw, fun hne => (eqs _ hne).elim, fun _ => ⟨m0, w0, fun hne => (eqs _ hne).elim, fun _ => ⟨m1, w1, fun hne => (eqs _ hne).elim, fun _ => ⟨hk1, hk2, fun hl => absurd hl hg, fun _ =>
    ⟨pw, fun hne => (eqs _ hne).elim, fun _ => ⟨hm, hh, fun hl => absurd hl hge, fun _ => ⟨fun hne => absurd he hne, fun _ => ⟨m0, m1, hp, pw, fun hne => (eqs _ hne).elim, fun _ => ⟨hh, fun hl => absurd hl hge, fun _ => ⟨fun hne => absurd he hne, fun _ => rfl⟩⟩⟩⟩⟩⟩⟩⟩⟩⟩
end Go.Ev
end

section
/- Laws of the plain library, fifth part: lists in texts. -/
set_option linter.unusedVariables false
namespace Go.Ev

theorem drop_cons' {α : Type} {l : List α} {i : Nat} (h : i < l.length) : l.drop i = l[i] :: l.drop (i + 1) := (List.getElem_cons_drop (h := h)).symm
theorem seg_succ {α : Type} {l : List α} {f i : Nat} (hf : f ≤ i) (h : i < l.length) : (l.take (i + 1)).drop f = (l.take i).drop f ++ [l[i]] := by
  rw [take_succ_app h, List.drop_append_of_le_length (by rw [List.length_take]; omega)]
theorem seg_all {α : Type} {l : List α} {f i : Nat} (hf : f ≤ i) (hi : i ≤ l.length) : (l.take i).drop f ++ l.drop i = l.drop f := by
  conv => rhs; rw [← List.take_append_drop i l]
  rw [List.drop_append_of_le_length (by rw [List.length_take]; omega)]
theorem commasL_nil (q : Bool) (i : Int) : commasL q i [] = [] := by cases q <;> rfl
theorem commasL_one (i : Int) (b : UInt8) : commasL true i [b] = [] := rfl
theorem commasL_in (i : Int) (b c : UInt8) (r : List UInt8) : commasL true i (b :: c :: r) = if b = 34 then commasL false (i + 1) (c :: r) else if b = 92 then commasL true (i + 2) r else commasL true (i + 1) (c :: r) := by rw [commasL]
theorem commasL_out (i : Int) (b : UInt8) (r : List UInt8) : commasL false i (b :: r) = if b = 34 then commasL true (i + 1) r else if b = 44 then i :: commasL false (i + 1) r else commasL false (i + 1) r := by rw [commasL]
def cutAt (l : List UInt8) : Nat → List Int → List (List UInt8)
  | f, [] => [l.drop f]
  | f, a :: az => (l.take a.toNat).drop f :: cutAt l (a.toNat + 1) az
def okC (n : Nat) : Nat → List Int → Prop
  | f, [] => f ≤ n
  | f, a :: az => (f : Int) ≤ a ∧ a < (n : Int) ∧ okC n (a.toNat + 1) az
theorem parts_cut (l : List UInt8) : ∀ (m : Nat) (q : Bool) (i f : Nat), i + m = l.length → f ≤ i →
    partsL q ((l.take i).drop f) (l.drop i) = cutAt l f (commasL q (i : Int) (l.drop i)) ∧ okC l.length f (commasL q (i : Int) (l.drop i)) := by
  intro m
  induction m using Nat.strongRecOn with
  | _ m ih =>
    intro q i f hi hf
    cases m with
    | zero =>
      have e : l.drop i = [] := List.drop_eq_nil_of_le (by omega)
      have e2 : l.take i = l := List.take_of_length_le (by omega)
      rw [e, partsL_nil, commasL_nil, e2]
      exact ⟨rfl, by show f ≤ l.length; omega⟩
    | succ m =>
      have hlt : i < l.length := by omega
      have hc := drop_cons' hlt
      have hs := seg_succ hf hlt
      have step := fun (q' : Bool) => ih m (by omega) q' (i + 1) f (by omega) (by omega)
      have hcast : ((i + 1 : Nat) : Int) = (i : Int) + 1 := by omega
      cases q with
      | false =>
        rw [hc, partsL_out, commasL_out, ← hs, ← hcast]
        split
        · exact step true
        · split
          · have h0 := ih m (by omega) false (i + 1) (i + 1) (by omega) (Nat.le_refl _)
            have e0 : (l.take (i + 1)).drop (i + 1) = [] := List.drop_eq_nil_of_le (by rw [List.length_take]; omega)
            rw [e0] at h0
            simp only [cutAt, okC, Int.toNat_natCast]
            exact ⟨by rw [h0.1], by omega, by omega, h0.2⟩
          · exact step false
      | true =>
        cases m with
        | zero =>
          have e : l.drop (i + 1) = [] := List.drop_eq_nil_of_le (by omega)
          have ha := seg_all hf (Nat.le_of_lt hlt)
          rw [hc, e] at ha
          rw [hc, e, partsL_one, commasL_one, ha]
          exact ⟨rfl, by show f ≤ l.length; omega⟩
        | succ m =>
          have hlt1 : i + 1 < l.length := by omega
          have hc1 := drop_cons' hlt1
          rw [hc, hc1, partsL_in, commasL_in, ← hc1, ← hs, ← hcast]
          split
          · exact step false
          · split
            · have h2 := ih m (by omega) true (i + 2) f (by omega) (by omega)
              have hs2 := seg_succ (f := f) (i := i + 1) (by omega) hlt1
              rw [hs, List.append_assoc] at hs2
              rw [show (l.take i).drop f ++ [l[i], l[i + 1]] = (l.take (i + 2)).drop f from hs2.symm, show (i : Int) + 2 = ((i + 2 : Nat) : Int) by omega]
              exact h2
            · exact step true
theorem trimmed_cons (p : List UInt8) (l : List (List UInt8)) : trimmed (p :: l) = if mTrim (ob p) ≠ lit [] then mTrim (ob p) :: trimmed l else trimmed l := by
  unfold trimmed
  rw [List.map_cons, List.filter_cons]
  split
  · next h => rw [if_pos (by simpa using h)]
  · next h => rw [if_neg (by simpa using h)]
theorem trimmed_nil : trimmed [] = [] := rfl
theorem ext_seg (s : S) (f a : Nat) : s.extract f a = ob (((bs s).take a).drop f) := by
  apply bs_inj
  rw [bs_extract, bs_ob, List.drop_take]
theorem byte_eq {s : S} {i : Nat} (h : i < s.size) (n : Nat) (hn : n < 256) : bt s (i : Int) = (n : Int) ↔ (bs s)[i]'(by rw [bs_len]; exact h) = UInt8.ofNat n := by
  rw [bt_nat s i h]
  constructor
  · intro e
    have e' : ((bs s)[i]'(by rw [bs_len]; exact h)).toNat = n := by omega
    rw [← e']; simp
  · intro e
    rw [e]
    simp
    omega
theorem commas_len : ∀ (q : Bool) (i : Int) (l : List UInt8), (commasL q i l).length ≤ l.length
  | q, i, [] => by rw [commasL_nil]; simp
  | true, i, [b] => by rw [commasL_one]; simp
  | true, i, b :: c :: r => by
    rw [commasL_in]
    have h1 := commas_len false (i + 1) (c :: r)
    have h2 := commas_len true (i + 2) r
    have h3 := commas_len true (i + 1) (c :: r)
    simp only [List.length_cons] at *
    split
    · omega
    · split <;> omega
  | false, i, b :: r => by
    rw [commasL_out]
    have h1 := commas_len true (i + 1) r
    have h2 := commas_len false (i + 1) r
    simp only [List.length_cons] at *
    split
    · omega
    · split
      · simp only [List.length_cons]; omega
      · omega

theorem impl_commas_ok (a0 : S) (h : pCommas a0) : s_impl_commas a0 (fun r => r = mCommas a0) := by
  unfold pCommas sm at h
  intro L hL
  have hl := bs_len a0
  refine loopI hL (fun y => ∃ i : Nat, y.2.2 = (i : Int) ∧ i ≤ a0.size + 1 ∧ y.1.length ≤ i ∧ (i ≤ a0.size → y.1 ++ commasL y.2.1 (i : Int) ((bs a0).drop i) = mCommas a0) ∧ (i = a0.size + 1 → y.1 = mCommas a0))
    (fun y => a0.size + 1 - y.2.2.toNat) (fun y hI ih => ?_) ([], false, 0) ⟨0, rfl, by omega, by simp, fun _ => rfl, fun h => by omega⟩
  obtain ⟨out, q, y3⟩ := y
  obtain ⟨i, hy, hi, hol, h1, h2⟩ := hI
  simp only at hy hol h1 h2 ⊢
  subst hy
  refine ⟨fun hlt => ?_, fun hge => ?_⟩
  · have hi2 : i < a0.size := by omega
    have hi3 : i < (bs a0).length := by omega
    have h1 := h1 (by omega)
    have hc := drop_cons' hi3
    have hw : IntKind.i64.wrap ((i : Int) + 1) = ((i + 1 : Nat) : Int) := wrapS (by omega)
    have hw2 : IntKind.i64.wrap (((i + 1 : Nat) : Int) + 1) = ((i + 2 : Nat) : Int) := by rw [wrapS (by omega)]
    have b34 : bt a0 (i : Int) = 34 ↔ _ := byte_eq hi2 34 (by omega)
    have b92 : bt a0 (i : Int) = 92 ↔ _ := byte_eq hi2 92 (by omega)
    have b44 : bt a0 (i : Int) = 44 ↔ _ := byte_eq hi2 44 (by omega)
    have next : ∀ (out' : List Int) (q' : Bool), out'.length ≤ i + 1 → out' ++ commasL q' ((i : Int) + 1) ((bs a0).drop (i + 1)) = mCommas a0 → L (out', q', ((i + 1 : Nat) : Int)) := fun out' q' hlen e =>
      ih _ ⟨i + 1, rfl, by omega, hlen, fun _ => by rw [← e]; congr 2, fun hh => by omega⟩ (by simp only [Int.toNat_natCast]; omega)
    rw [hw, hw2]
    rw [hc] at h1
    have hq34 : bt a0 (i : Int) = 34 → commasL q (i : Int) ((bs a0)[i] :: (bs a0).drop (i + 1)) = commasL (!q) ((i : Int) + 1) ((bs a0).drop (i + 1)) := fun e => by
      have e' := b34.1 e
      cases q with
      | false => rw [commasL_out, if_pos (by rw [e']; rfl)]; rfl
      | true =>
        cases hr : (bs a0).drop (i + 1) with
        | nil => rw [commasL_one, commasL_nil]
        | cons c r => rw [commasL_in, if_pos (by rw [e']; rfl)]; rfl
    have n34 : bt a0 (i : Int) ≠ 34 → ¬ (bs a0)[i] = 34 := fun e e' => e (b34.2 e')
    have n92 : bt a0 (i : Int) ≠ 92 → ¬ (bs a0)[i] = 92 := fun e e' => e (b92.2 e')
    have n44 : bt a0 (i : Int) ≠ 44 → ¬ (bs a0)[i] = 44 := fun e e' => e (b44.2 e')
    have plain_in : bt a0 (i : Int) ≠ 34 → bt a0 (i : Int) ≠ 92 → q = true → commasL q (i : Int) ((bs a0)[i] :: (bs a0).drop (i + 1)) = commasL q ((i : Int) + 1) ((bs a0).drop (i + 1)) := fun e1 e2 eq => by
      subst eq
      cases hr : (bs a0).drop (i + 1) with
      | nil => rw [commasL_one, commasL_nil]
      | cons c r => rw [commasL_in, if_neg (n34 e1), if_neg (n92 e2)]
    refine ⟨by omega, by omega, fun e34 => next _ _ (by omega) ?_, fun e34 => ⟨fun eq => ⟨by omega, by omega, fun e92 => ?_, fun e92 => ⟨fun nq => absurd eq nq, fun _ => next _ _ (by omega) ?_⟩⟩, fun nq => ⟨fun _ => ⟨by omega, by omega, fun e44 => ?_, fun e44 => next _ _ (by omega) ?_⟩, fun qq => absurd nq qq⟩⟩⟩
    · rw [← h1, hq34 e34]
      cases q <;> rfl
    · -- a byte behind a backslash is passed over
      have e' := b92.1 e92
      subst eq
      refine ih _ ⟨i + 2, rfl, by omega, by simp only; omega, fun hle => ?_, fun hle => ?_⟩ (by simp only [Int.toNat_natCast]; omega)
      · have hi4 : i + 1 < (bs a0).length := by omega
        rw [drop_cons' hi4, commasL_in, if_neg (n34 e34), if_pos (by rw [e']; rfl)] at h1
        rw [← h1]
        simp only
        congr 2
      · have : (bs a0).drop (i + 1) = [] := List.drop_eq_nil_of_le (by omega)
        rw [this, commasL_one] at h1
        simpa using h1
    · rw [← h1, plain_in e34 e92 eq]
    · have e' := b44.1 e44
      have hq : q = false := by simpa using nq
      subst hq
      rw [commasL_out, if_neg (n34 e34), if_pos (by rw [e']; rfl)] at h1
      refine ⟨by simp only [List.length_singleton]; omega, next _ _ (by simp only [List.length_append, List.length_singleton]; omega) ?_⟩
      rw [← h1]; simp
    · have hq : q = false := by simpa using nq
      subst hq
      rw [commasL_out, if_neg (n34 e34), if_neg (n44 e44)] at h1
      exact h1
  · have : i = a0.size ∨ i = a0.size + 1 := by omega
    rcases this with e | e
    · have h1 := h1 (by omega)
      have : (bs a0).drop i = [] := List.drop_eq_nil_of_le (by omega)
      rw [this, commasL_nil, List.append_nil] at h1
      exact h1
    · exact h2 e

theorem impl_SplitList_ok (a0 : S) (h : pSplitList a0) : s_impl_SplitList a0 (fun r => r = mSplitList a0) := by
  have h0 := h
  unfold pSplitList sm at h
  have hl := bs_len a0
  have hpc := parts_cut (bs a0) a0.size false 0 0 (by omega) (Nat.le_refl _)
  rw [List.drop_zero, hl] at hpc
  have hcl := commas_len false 0 (bs a0)
  have hC : mCommas a0 = commasL false (((0 : Nat) : Int)) (bs a0) := rfl
  have hM : mSplitList a0 = trimmed (cutAt (bs a0) 0 (mCommas a0)) := by
    unfold mSplitList
    rw [hC]
    exact congrArg trimmed hpc.1
  have hok : okC a0.size 0 (mCommas a0) := hpc.2
  have hclen : (mCommas a0).length ≤ a0.size := by rw [← hl]; exact hcl
  refine ⟨h0, by simp only [List.length_singleton]; omega, fun L hL => ?_⟩
  generalize mCommas a0 = C at hM hok hclen hL
  have hEl : (C ++ [(a0.size : Int)]).length = C.length + 1 := by simp
  refine loopG hL (C.length + 1) (fun k y => y.2.2 = (k : Int) ∧ y.1.length ≤ k ∧ (k ≤ C.length → ∃ f : Nat, y.2.1 = (f : Int) ∧ f ≤ a0.size ∧ okC a0.size f (C.drop k) ∧ y.1 ++ trimmed (cutAt (bs a0) f (C.drop k)) = mSplitList a0) ∧ (k = C.length + 1 → y.1 = mSplitList a0))
    (fun k y hk hI hn => ?_) (s0 := ([], 0, 0)) ⟨rfl, by simp, fun _ => ⟨0, rfl, by omega, hok, by rw [hM]; rfl⟩, fun h => by omega⟩
  obtain ⟨out, y2, y3⟩ := y
  simp only at hI ⊢
  obtain ⟨rfl, hol, h1, h2⟩ := hI
  rw [hEl]
  refine ⟨fun hlt => ?_, fun hge => h2 (by omega)⟩
  have hk2 : k ≤ C.length := by omega
  obtain ⟨f, rfl, hf, hokf, hout⟩ := h1 hk2
  have hw : IntKind.i64.wrap ((k : Int) + 1) = ((k + 1 : Nat) : Int) := wrapS (by omega)
  rw [hw]
  -- the end of this part
  have key : ∀ a : Nat, rx (C ++ [(a0.size : Int)]) (k : Int) = (a : Int) → f ≤ a → a ≤ a0.size →
      (∀ out' : List S, out' = (if mTrim (ob (((bs a0).take a).drop f)) ≠ lit [] then out ++ [mTrim (ob (((bs a0).take a).drop f))] else out) → L (out', ((a + 1 : Nat) : Int), ((k + 1 : Nat) : Int))) →
      0 ≤ (k : Int) ∧ (k : Int) < ((C.length + 1 : Nat) : Int) ∧ 0 ≤ (f : Int) ∧ (f : Int) ≤ rx (C ++ [(a0.size : Int)]) (k : Int) ∧ rx (C ++ [(a0.size : Int)]) (k : Int) ≤ (a0.size : Int) ∧
        pTrim (a0.extract ((f : Int).toNat) (rx (C ++ [(a0.size : Int)]) (k : Int)).toNat) ∧
        (mTrim (a0.extract ((f : Int).toNat) (rx (C ++ [(a0.size : Int)]) (k : Int)).toNat) ≠ lit [] →
          (out.length + [mTrim (a0.extract ((f : Int).toNat) (rx (C ++ [(a0.size : Int)]) (k : Int)).toNat)].length) * 16 ≤ 140737488355328 ∧
            L (out ++ [mTrim (a0.extract ((f : Int).toNat) (rx (C ++ [(a0.size : Int)]) (k : Int)).toNat)], IntKind.i64.wrap (rx (C ++ [(a0.size : Int)]) (k : Int) + 1), ((k + 1 : Nat) : Int))) ∧
        (¬ mTrim (a0.extract ((f : Int).toNat) (rx (C ++ [(a0.size : Int)]) (k : Int)).toNat) ≠ lit [] →
          L (out, IntKind.i64.wrap (rx (C ++ [(a0.size : Int)]) (k : Int) + 1), ((k + 1 : Nat) : Int))) := by
    intro a ha hfa has hcont
    rw [ha, Int.toNat_natCast, Int.toNat_natCast, wrapS (by omega), ext_seg]
    refine ⟨by omega, by omega, by omega, by omega, by omega, ?_, fun hne => ⟨by simp only [List.length_singleton]; omega, hcont _ (by rw [if_pos hne])⟩, fun hne => hcont _ (by rw [if_neg hne])⟩
    unfold pTrim sm
    rw [ob_size, List.length_drop, List.length_take]
    omega
  by_cases hkC : k < C.length
  · have hc := drop_cons' hkC
    rw [hc] at hokf hout
    simp only [okC] at hokf
    obtain ⟨o1, o2, o3⟩ := hokf
    have hrx : rx (C ++ [(a0.size : Int)]) (k : Int) = (C[k].toNat : Int) := by
      rw [rx_get _ (by rw [hEl]; omega), List.getElem_append_left hkC]; omega
    refine key C[k].toNat hrx (by omega) (by omega) fun out' ho => hn _ (by omega) ⟨rfl, ?_, fun _ => ⟨C[k].toNat + 1, rfl, by omega, o3, ?_⟩, fun h => by omega⟩
    · rw [ho]; split
      · simp only [List.length_append, List.length_singleton]; omega
      · simp only; omega
    · simp only [cutAt] at hout
      rw [trimmed_cons] at hout
      rw [ho, ← hout]
      split
      · simp
      · rfl
  · have hkeq : k = C.length := by omega
    have hdn : C.drop k = [] := List.drop_eq_nil_of_le (by omega)
    rw [hdn] at hout
    simp only [cutAt] at hout
    have hrx : rx (C ++ [(a0.size : Int)]) (k : Int) = (a0.size : Int) := by
      rw [rx_get _ (by rw [hEl]; omega), List.getElem_append_right (by omega)]
      simp [hkeq]
    refine key a0.size hrx hf (Nat.le_refl _) fun out' ho => hn _ (by omega) ⟨rfl, ?_, fun h => by omega, fun _ => ?_⟩
    · rw [ho]; split
      · simp only [List.length_append, List.length_singleton]; omega
      · simp only; omega
    · have e : (bs a0).take a0.size = bs a0 := List.take_of_length_le (by omega)
      rw [trimmed_cons, trimmed_nil] at hout
      rw [ho, ← hout, e]
      split
      · rfl
      · simp
end Go.Ev
end

section
/- Laws of the plain library: lists of parts, as spec takes them. -/
set_option linter.unusedVariables false
namespace Go.Ev
theorem partsL_end (q : Bool) (cur : List UInt8) : partsL q cur [] = [cur] := by cases q <;> rfl
theorem parts_q {l : List UInt8} {f i : Nat} (hf : f ≤ i) (h : i < l.length) : partsL true ((l.take i).drop f) (l.drop i) =
    if l[i] = 34 then partsL false ((l.take (i + 1)).drop f) (l.drop (i + 1))
    else if l[i] = 92 then (if i + 1 < l.length then partsL true ((l.take (i + 2)).drop f) (l.drop (i + 2)) else [l.drop f])
    else partsL true ((l.take (i + 1)).drop f) (l.drop (i + 1)) := by
  have hc := drop_cons' h
  have hs := seg_succ (f := f) hf h
  by_cases hl : i + 1 < l.length
  · have hc1 := drop_cons' hl
    have hs2 := seg_succ (f := f) (i := i + 1) (by omega) hl
    rw [hc, hc1, partsL_in, ← hc1, if_pos hl, hs]
    rw [hs, List.append_assoc] at hs2
    have hs2 : List.drop f (List.take (i + 2) l) = List.drop f (List.take i l) ++ [l[i], l[i + 1]] := hs2
    rw [hs2]
  · have hn : l.drop (i + 1) = [] := List.drop_eq_nil_of_le (by omega)
    have ha : (l.take (i + 1)).drop f = l.drop f := by rw [List.take_of_length_le (by omega)]
    rw [hc, hn, partsL_one, ← hs, partsL_end, partsL_end, if_neg hl, ha]
    split
    · rfl
    · split <;> rfl
theorem spec_SplitList_ok (a0 : S) (h : pSplitList a0) : s_spec_SplitList a0 (fun r => r = mSplitList a0) := by
  unfold pSplitList sm at h
  intro L hL
  have hl := bs_len a0
  refine loopI hL (fun y => ∃ f i : Nat, y.2.1 = (f : Int) ∧ y.2.2.2 = (i : Int) ∧ i ≤ a0.size + 1 ∧ y.1.length ≤ i ∧
      (i ≤ a0.size → f ≤ i ∧ y.1 ++ trimmed (partsL y.2.2.1 (((bs a0).take i).drop f) ((bs a0).drop i)) = mSplitList a0) ∧
      (i = a0.size + 1 → (f < a0.size → y.2.2.1 = true ∧ y.1 ++ trimmed [(bs a0).drop f] = mSplitList a0) ∧ (¬ f < a0.size → y.1 = mSplitList a0)))
    (fun y => a0.size + 1 - y.2.2.2.toNat) (fun y hI ih => ?_) ([], 0, false, 0) ⟨0, 0, rfl, rfl, by omega, by simp, fun _ => ⟨by omega, rfl⟩, fun h => by omega⟩
  obtain ⟨out, y2, q, y4⟩ := y
  obtain ⟨f, i, hy2, hy4, hi, hol, h1, h2⟩ := hI
  simp only at hy2 hy4 hol h1 h2 ⊢
  subst hy2; subst hy4
  have hsz : ∀ a b : Nat, pTrim (a0.extract a b) := fun a b => by
    unfold pTrim sm
    have := bs_len (a0.extract a b)
    rw [bs_extract, List.length_take, List.length_drop] at this
    omega
  have d0 : (0 : Int) ≤ (i : Int) := by omega
  have f0 : (0 : Int) ≤ (f : Int) := by omega
  have hcap : ∀ p : S, (out.length + [p].length) * 16 ≤ 140737488355328 := fun p => by simp only [List.length_singleton]; omega
  have hw : IntKind.i64.wrap ((i : Int) + 1) = ((i + 1 : Nat) : Int) := wrapS (by omega)
  have hw2 : IntKind.i64.wrap (((i + 1 : Nat) : Int) + 1) = ((i + 2 : Nat) : Int) := wrapS (by omega)
  by_cases hgt : i = a0.size + 1
  · obtain ⟨ha, hb⟩ := h2 hgt
    refine ⟨fun hle => by omega, fun _ => ⟨fun hf => ⟨fun hq => ⟨f0, by omega, hsz _ _, fun hp => ⟨hcap _, ?_⟩, fun hp => ?_⟩, fun hq => absurd (ha (by omega)).1 hq⟩, fun hf => hb (by omega)⟩⟩
    · have e := (ha (by omega)).2
      rw [Int.toNat_natCast] at hp ⊢
      rw [ext_seg, List.take_of_length_le (by omega)] at hp ⊢
      rw [trimmed_cons, trimmed_nil, if_pos hp] at e
      exact e
    · have e := (ha (by omega)).2
      rw [Int.toNat_natCast] at hp
      rw [ext_seg, List.take_of_length_le (by omega)] at hp
      rw [trimmed_cons, trimmed_nil, if_neg hp] at e
      simpa using e
  · obtain ⟨hfi, e⟩ := h1 (by omega)
    have d1 : (i : Int) ≤ (a0.size : Int) := by omega
    have hm : (if (a0.size : Int) < (i : Int) then (a0.size : Int) else (i : Int)) = (i : Int) := if_neg (by omega)
    have hfi' : (f : Int) ≤ (i : Int) := by omega
    by_cases hlt : i < a0.size
    · have d2 : (i : Int) < (a0.size : Int) := by omega
      have d3 : ¬ (a0.size : Int) ≤ (i : Int) := by omega
      have hi3 : i < (bs a0).length := by omega
      have hc := drop_cons' hi3
      have hs := seg_succ (l := bs a0) (f := f) (i := i) hfi hi3
      have b34 : bt a0 (i : Int) = 34 ↔ _ := byte_eq hlt 34 (by omega)
      have b92 : bt a0 (i : Int) = 92 ↔ _ := byte_eq hlt 92 (by omega)
      have b44 : bt a0 (i : Int) = 44 ↔ _ := byte_eq hlt 44 (by omega)
      have next : ∀ (out' : List S) (f' : Nat) (q' : Bool), out'.length ≤ i + 1 → f' ≤ i + 1 → out' ++ trimmed (partsL q' (((bs a0).take (i + 1)).drop f') ((bs a0).drop (i + 1))) = mSplitList a0 → L (out', (f' : Int), q', ((i + 1 : Nat) : Int)) := fun out' f' q' hlen hf' e' =>
        ih _ ⟨f', i + 1, rfl, rfl, by omega, hlen, fun _ => ⟨hf', e'⟩, fun hh => by omega⟩ (by simp only [Int.toNat_natCast]; omega)
      have hne1 : ((34 : Int) = 92) = False := by decide
      have hne2 : ((34 : Int) = 44) = False := by decide
      have hne3 : ((44 : Int) = 92) = False := by decide
      have hne4 : ((44 : Int) = 34) = False := by decide
      have hne5 : ((92 : Int) = 34) = False := by decide
      have hne6 : ((92 : Int) = 44) = False := by decide
      have piece : out ++ trimmed (partsL q (((bs a0).take i).drop f) ((bs a0).drop i)) = mSplitList a0 := e
      by_cases c34 : bt a0 (i : Int) = 34
      · have e34 := b34.1 c34
        cases q with
        | false =>
          rw [hc] at e
          simp only [d1, d2, d3, d0, hm, hw, hw2, c34, hne1, hne2, Bool.false_eq_true, not_false_eq_true, not_true_eq_false, true_implies, false_implies, true_and, and_true, decide_true, decide_false]
          rw [partsL_out, if_pos (by rw [e34]; rfl), ← hs] at e
          exact next out f true (by omega) (by omega) e
        | true =>
          simp only [d1, d2, d3, d0, hm, hw, hw2, c34, hne1, hne2, not_false_eq_true, not_true_eq_false, true_implies, false_implies, true_and, and_true, decide_true, decide_false]
          rw [parts_q hfi hi3, if_pos (by rw [e34]; rfl)] at e
          exact next out f false (by omega) (by omega) e
      · have n34 : ¬ (bs a0)[i] = 34 := fun h => c34 (b34.2 (by rw [h]; rfl))
        cases q with
        | true =>
          rw [parts_q hfi hi3, if_neg n34] at e
          by_cases c92 : bt a0 (i : Int) = 92
          · have e92 := b92.1 c92
            simp only [d1, d2, d3, d0, hm, hw, hw2, c92, hne5, hne6, not_false_eq_true, not_true_eq_false, true_implies, false_implies, true_and, and_true, decide_true, decide_false]
            rw [if_pos (by rw [e92]; rfl)] at e
            refine ih (out, (f : Int), true, ((i + 2 : Nat) : Int)) ⟨f, i + 2, rfl, rfl, by omega, (by show out.length ≤ i + 2; omega), fun hle => ⟨by omega, ?_⟩, fun heq => ⟨fun _ => ⟨rfl, ?_⟩, fun hn => absurd (by omega) hn⟩⟩ (by simp only [Int.toNat_natCast]; omega)
            · rw [if_pos (by omega)] at e; exact e
            · rw [if_neg (by omega)] at e; exact e
          · have n92 : ¬ (bs a0)[i] = 92 := fun h => c92 (b92.2 (by rw [h]; rfl))
            rw [if_neg n92] at e
            by_cases c44 : bt a0 (i : Int) = 44
            · simp only [d1, d2, d3, d0, hm, hw, hw2, c44, hne3, hne4, not_false_eq_true, not_true_eq_false, true_implies, false_implies, true_and, and_true, decide_true, decide_false]
              exact next out f true (by omega) (by omega) e
            · simp only [d1, d2, d3, d0, hm, hw, hw2, c34, c92, c44, not_false_eq_true, not_true_eq_false, true_implies, false_implies, true_and, and_true, decide_true, decide_false]
              exact next out f true (by omega) (by omega) e
        | false =>
          rw [hc, partsL_out, if_neg n34] at e
          by_cases c44 : bt a0 (i : Int) = 44
          · have e44 := b44.1 c44
            rw [if_pos (by rw [e44]; rfl), trimmed_cons] at e
            simp only [d1, d2, d3, d0, f0, hfi', hm, hw, hw2, c44, hne3, hne4, hsz, hcap, Bool.false_eq_true, not_false_eq_true, not_true_eq_false, true_implies, false_implies, true_and, and_true, decide_true, decide_false, Int.toNat_natCast]
            have hn : ((bs a0).take (i + 1)).drop (i + 1) = [] := List.drop_eq_nil_of_le (by rw [List.length_take]; omega)
            refine ⟨fun hp => ?_, fun hp => ?_⟩
            · rw [ext_seg] at hp ⊢
              rw [if_pos hp] at e
              exact next _ (i + 1) false (by simp only [List.length_append, List.length_singleton]; omega) (by omega) (by rw [hn, List.append_assoc]; exact e)
            · rw [ext_seg] at hp
              rw [if_neg hp] at e
              exact next _ (i + 1) false (by omega) (by omega) (by rw [hn]; exact e)
          · have n44 : ¬ (bs a0)[i] = 44 := fun h => c44 (b44.2 (by rw [h]; rfl))
            rw [if_neg n44, ← hs] at e
            simp only [d1, d2, d3, d0, hm, hw, hw2, c34, c44, Bool.false_eq_true, not_false_eq_true, not_true_eq_false, true_implies, false_implies, true_and, and_true, decide_true, decide_false]
            exact next out f false (by omega) (by omega) e
    · have hie : i = a0.size := by omega
      subst hie
      have hn : (bs a0).drop a0.size = [] := List.drop_eq_nil_of_le (by omega)
      rw [hn, partsL_end, trimmed_cons, trimmed_nil] at e
      have d2 : ¬ (a0.size : Int) < (a0.size : Int) := by omega
      have d3 : (a0.size : Int) ≤ (a0.size : Int) := by omega
      simp only [d1, d2, d3, d0, f0, hfi', hm, hw, hsz, hcap, not_false_eq_true, not_true_eq_false, true_implies, false_implies, true_and, and_true, Int.toNat_natCast, if_false]
      have fin : ∀ out' : List S, out'.length ≤ a0.size + 1 → out' = mSplitList a0 → L (out', ((a0.size + 1 : Nat) : Int), q, ((a0.size + 1 : Nat) : Int)) := fun out' hlen e' =>
        ih _ ⟨a0.size + 1, a0.size + 1, rfl, rfl, by omega, hlen, fun hh => by omega, fun _ => ⟨fun hh => by omega, fun _ => e'⟩⟩ (by simp only [Int.toNat_natCast]; omega)
      refine ⟨fun hp => ?_, fun hp => ?_⟩
      · rw [ext_seg] at hp ⊢
        rw [if_pos hp] at e
        exact fin _ (by simp only [List.length_append, List.length_singleton]; omega) e
      · rw [ext_seg] at hp
        rw [if_neg hp] at e
        exact fin _ (by omega) (by simpa using e)
end Go.Ev
end

section
/- Laws of the plain library: directives. -/
set_option linter.unusedVariables false
namespace Go.Ev
end Go.Ev
end

section
/- Laws of the plain library: what may be stored, what may be shared. -/
set_option linter.unusedVariables false
namespace Go.Ev
end Go.Ev
end

section
/- impl.Lower: what its walk needs. -/
set_option linter.unusedVariables false
namespace Go.Ev
open Go Go.RowKit
def LowW (B : Nat) (s : S) (i : Nat) (w w' : World) : Prop :=
  Below B w w' ∧ ∀ j, j < s.size → w'.cell? ⟨B, j, none⟩ = some (.int .u8 (((if j < i then lowB (bs s)[j]! else (bs s)[j]!).toNat : Nat) : Int)) ∧ w'.frozen? ⟨B, j, none⟩ = false
theorem LowW.next {B i : Nat} {s : S} {w w' : World} (h : LowW B s i w w') (hi : i < s.size) {v : Int} (hv : v = ((lowB (bs s)[i]!).toNat : Int)) : LowW B s (i + 1) w (w'.setCell ⟨B, i, none⟩ (.int .u8 v)) := by
  refine ⟨h.1.setCell (Nat.le_refl _) _, fun j hj => ?_⟩
  by_cases e : j = i
  · subst e
    rw [World.cell?_setCell_same _ _ _ (h.2 j hj).1, hv, if_pos (by omega)]
    exact ⟨rfl, by rw [World.frozen?_setCell]; exact (h.2 j hj).2⟩
  · rw [World.cell?_setCell_other _ _ _ _ (by simp [e]), World.frozen?_setCell, (h.2 j hj).1]
    exact ⟨by simp only [show (j < i + 1) ↔ (j < i) by omega], (h.2 j hj).2⟩
theorem LowW.skip {B i : Nat} {s : S} {w w' : World} (h : LowW B s i w w') (hi : i < s.size) (hv : lowB (bs s)[i]! = (bs s)[i]!) : LowW B s (i + 1) w w' := by
  refine ⟨h.1, fun j hj => ?_⟩
  by_cases e : j = i
  · subst e
    have := h.2 j hj
    rw [if_neg (by omega)] at this
    rw [if_pos (by omega), hv]; exact this
  · rw [(h.2 j hj).1]
    exact ⟨by simp only [show (j < i + 1) ↔ (j < i) by omega], (h.2 j hj).2⟩
theorem low_new (P : Program) (src dst e : TypeId) (w : World) (s : S) (hs : P.underlying src = some .string) (hd : P.underlying dst = some (.slice e)) (he : P.underlying e = some (.int .u8)) :
    ∃ W1 cap, (convert src dst (.string s)).run P w = .ok (.slice (some ⟨w.heap.size, 0, none⟩) s.size cap) W1 ∧ LowW w.heap.size s 0 w W1 := by
  refine ⟨_, _, run_bytes_of_string w src dst e s hs hd he, (Below.refl _ _).drew.alloc (Nat.le_refl _) _, fun j hj => ?_⟩
  have h1 := bytesRow_at s (grownCap w s.size 0 e) j hj
  refine ⟨?_, ?_⟩
  · show (w.drew.alloc _).cell? ⟨w.drew.heap.size, j, none⟩ = _
    rw [World.cell?_alloc_mark, h1, if_neg (by omega)]
    have hl : j < (bs s).length := by rw [bs_len]; exact hj
    rw [getElem!_pos (bs s) j hl]; rfl
  · show (w.drew.alloc _).frozen? ⟨w.drew.heap.size, j, none⟩ = _
    rw [World.frozen?_alloc_mark]
    have hsz : s.size ≤ (bytesRow s (grownCap w s.size 0 e)).size := by simp [bytesRow]
    generalize (bytesRow s (grownCap w s.size 0 e)).size = n at hsz
    simp; omega
theorem low_byte (x : UInt8) : (65 ≤ x.toNat ∧ x.toNat ≤ 90 → IntKind.u8.wrap (IntKind.u8.wrap ((x.toNat : Int) + 97) - 65) = ((lowB x).toNat : Int)) ∧ (¬ (65 ≤ x.toNat ∧ x.toNat ≤ 90) → lowB x = x) := by
  refine ⟨fun h => ?_, fun h => by unfold lowB; rw [if_neg h]⟩
  unfold lowB; rw [if_pos h]
  have e : (x + 32).toNat = x.toNat + 32 := by rw [UInt8.toNat_add]; show (x.toNat + 32) % 256 = _; omega
  rw [e]
  have h1 : IntKind.u8.wrap ((x.toNat : Int) + 97) = (x.toNat : Int) + 97 := by rw [IntKind.wrap_u8]; omega
  rw [h1, IntKind.wrap_u8]; omega
theorem low_end (P : Program) (src dst e : TypeId) (B cap : Nat) (w w' : World) (s : S) (hs : P.underlying src = some (.slice e)) (he : P.underlying e = some (.int .u8)) (hd : P.underlying dst = some .string) (h : LowW B s s.size w w') :
    (convert src dst (.slice (some ⟨B, 0, none⟩) s.size cap)).run P w' = .ok (.string (mLower s)) w' := by
  have hl : ((bs s).map lowB).length = s.size := by rw [List.length_map, bs_len]
  have := run_convert_bytes_back (P := P) w' src dst e ⟨B, 0, none⟩ cap ((bs s).map lowB) hs he hd (fun j hj => by
    have hj' : j < s.size := by rw [hl] at hj; exact hj
    have hjb : j < (bs s).length := by rw [bs_len]; exact hj'
    have h1 := (h.2 j hj').1
    rw [if_pos hj', getElem!_pos (bs s) j hjb] at h1
    rw [show (⟨B, 0, none⟩ : Addr).add j = ⟨B, j, none⟩ by unfold Addr.add; split <;> simp_all]
    rw [h1, List.getElem_map])
  rw [hl] at this
  exact this
end Go.Ev
namespace Go.Ev
open Go.RowKit
def lowerCt (f : FuncId) : Ct := { f, ps := [.v false .ro [.str]], rs := [(false, [.str])], shared := false, pre := fun (x : S) => pLower x, F := fun (x : S) => mLower x }
theorem lower_ct {P : Program} {f : FuncId} {w : World} (hf : FnIs P f)
    (hI : ∀ s : ByteArray, s.size ≤ 1073741824 → Calls P f #[.string s] w fun e w' => e = .returned (.string (mLower s)) ∧ Below w.heap.size w w') : CtAt P (lowerCt f) w := by
  refine ct_lib hf fun vals x S hS ha hp => ?_
  obtain ⟨v, vs', hv, h1, h2⟩ := args_v ha
  have h2 := args_e h2
  subst h2
  have h1 : v = .string x := h1
  subst h1
  rw [arr_of hv]
  exact (hI x hp).mono fun e w' ⟨he, hb⟩ => ⟨[.string (mLower x)], _, he, hb, Or.inl rfl, fun S' => res_str _⟩
end Go.Ev
end
