/- A small verified machine for the operations of the given program, and plain laws of what its functions compute; without conditions of its own. Part 4. -/
import Derived.Test.YtlkhfjhnpedabaaGreatDoorM2
import Derived.Lib.IndexBytes
import Derived.Lib.IndexLaws
import Derived.Lib.Atoi
import Derived.Lib.AtoiTie
import Derived.Lib.AtoiAllCases
import Derived.Lib.SplitLaws
import Derived.Lib.Split
import Derived.Lib.CountLaws
import Derived.Sort.Walk0
import Derived.Deep.LoopGhost
import Derived.Tactics
import Derived.Tactics2
import Derived.WalkKit
import Derived.RowKit3
import Derived.WideLaws
import Derived.OwnWalk
import Derived.Laws.Slices
import Derived.Laws.Rows
import Derived.Laws.Cells
import Derived.Laws.IdiomStrings
import Derived.Laws.BytesString
import Derived.Lib.ConvBytes
set_option linter.unusedVariables false
set_option linter.unusedSimpArgs false
section
/- What the program's functions come to, each by itself: printed by a program of this session's own (EwShow) out of the small machine. -/
set_option linter.unusedVariables false
namespace Go.Ev

def s_ContainsFunc_CcHas_1 (a0 : (List Fld)) (a1 : S) (Q : (Bool → Prop)) : Prop :=
  pIndexFunc_CcHas_1 a0 a1 ∧
  (Q (decide (0 ≤ (mIndexFunc_CcHas_1 a0 a1))))

def s_IndexFunc_CcHas_1 (a0 : (List Fld)) (a1 : S) (Q : (Int → Prop)) : Prop :=
  (∀ L0 : (Int → Prop),
    ((
        (∀ y1 : Int,
          ((
              (y1 < (a0.length : Int) →
                0 ≤ y1 ∧
                y1 < (a0.length : Int) ∧
                pCcHas_1 (rx a0 y1) a1 ∧
                ((mCcHas_1 (rx a0 y1) a1) = true →
                  (Q y1)) ∧
                (¬ ((mCcHas_1 (rx a0 y1) a1) = true) →
                  (L0 (IntKind.i64.wrap (y1 + 1))))) ∧
              (¬ (y1 < (a0.length : Int)) →
                (Q (-1)))
            ) →
            (L0 y1)))
      ) →
      (L0 0)))

def s_impl_CcHas (a0 : (List Fld)) (a1 : S) (Q : (Bool → Prop)) : Prop :=
  pDirectives a0 ∧
  pContainsFunc_CcHas_1 (mDirectives a0) a1 ∧
  (Q (mContainsFunc_CcHas_1 (mDirectives a0) a1))

def s_impl_CcHas_1 (a0 : Fld) (a1 : S) (Q : (Bool → Prop)) : Prop :=
  (Q (decide (a0.1 = a1)))

def s_impl_Directives (a0 : (List Fld)) (Q : ((List Fld) → Prop)) : Prop :=
  pFieldGet a0 (lit [99, 97, 99, 104, 101, 45, 99, 111, 110, 116, 114, 111, 108]) ∧
  pSplitList (mFieldGet a0 (lit [99, 97, 99, 104, 101, 45, 99, 111, 110, 116, 114, 111, 108])).1 ∧
  (∀ L0 : (((List Fld) × Int) → Prop),
    ((
        (∀ y1 : ((List Fld) × Int),
          ((
              (y1.2 < ((mSplitList (mFieldGet a0 (lit [99, 97, 99, 104, 101, 45, 99, 111, 110, 116, 114, 111, 108])).1).length : Int) →
                0 ≤ y1.2 ∧
                y1.2 < ((mSplitList (mFieldGet a0 (lit [99, 97, 99, 104, 101, 45, 99, 111, 110, 116, 114, 111, 108])).1).length : Int) ∧
                pCut (rx (mSplitList (mFieldGet a0 (lit [99, 97, 99, 104, 101, 45, 99, 111, 110, 116, 114, 111, 108])).1) y1.2) (lit [61]) ∧
                pIsTokenText (mCut (rx (mSplitList (mFieldGet a0 (lit [99, 97, 99, 104, 101, 45, 99, 111, 110, 116, 114, 111, 108])).1) y1.2) (lit [61])).1 ∧
                (¬ ((mIsTokenText (mCut (rx (mSplitList (mFieldGet a0 (lit [99, 97, 99, 104, 101, 45, 99, 111, 110, 116, 114, 111, 108])).1) y1.2) (lit [61])).1) = true) →
                  (L0 (y1.1, (IntKind.i64.wrap (y1.2 + 1))))) ∧
                (¬ (¬ ((mIsTokenText (mCut (rx (mSplitList (mFieldGet a0 (lit [99, 97, 99, 104, 101, 45, 99, 111, 110, 116, 114, 111, 108])).1) y1.2) (lit [61])).1) = true)) →
                  (2 ≤ ((mCut (rx (mSplitList (mFieldGet a0 (lit [99, 97, 99, 104, 101, 45, 99, 111, 110, 116, 114, 111, 108])).1) y1.2) (lit [61])).2.1.size : Int) →
                    (0 : Int) ≤ 0 ∧
                    0 < ((mCut (rx (mSplitList (mFieldGet a0 (lit [99, 97, 99, 104, 101, 45, 99, 111, 110, 116, 114, 111, 108])).1) y1.2) (lit [61])).2.1.size : Int) ∧
                    ((bt (mCut (rx (mSplitList (mFieldGet a0 (lit [99, 97, 99, 104, 101, 45, 99, 111, 110, 116, 114, 111, 108])).1) y1.2) (lit [61])).2.1 0) = 34 →
                      0 ≤ (IntKind.i64.wrap (((mCut (rx (mSplitList (mFieldGet a0 (lit [99, 97, 99, 104, 101, 45, 99, 111, 110, 116, 114, 111, 108])).1) y1.2) (lit [61])).2.1.size : Int) - 1)) ∧
                      (IntKind.i64.wrap (((mCut (rx (mSplitList (mFieldGet a0 (lit [99, 97, 99, 104, 101, 45, 99, 111, 110, 116, 114, 111, 108])).1) y1.2) (lit [61])).2.1.size : Int) - 1)) < ((mCut (rx (mSplitList (mFieldGet a0 (lit [99, 97, 99, 104, 101, 45, 99, 111, 110, 116, 114, 111, 108])).1) y1.2) (lit [61])).2.1.size : Int) ∧
                      ((bt (mCut (rx (mSplitList (mFieldGet a0 (lit [99, 97, 99, 104, 101, 45, 99, 111, 110, 116, 114, 111, 108])).1) y1.2) (lit [61])).2.1 (IntKind.i64.wrap (((mCut (rx (mSplitList (mFieldGet a0 (lit [99, 97, 99, 104, 101, 45, 99, 111, 110, 116, 114, 111, 108])).1) y1.2) (lit [61])).2.1.size : Int) - 1))) = 34 →
                        (0 : Int) ≤ 1 ∧
                        1 ≤ (IntKind.i64.wrap (((mCut (rx (mSplitList (mFieldGet a0 (lit [99, 97, 99, 104, 101, 45, 99, 111, 110, 116, 114, 111, 108])).1) y1.2) (lit [61])).2.1.size : Int) - 1)) ∧
                        (IntKind.i64.wrap (((mCut (rx (mSplitList (mFieldGet a0 (lit [99, 97, 99, 104, 101, 45, 99, 111, 110, 116, 114, 111, 108])).1) y1.2) (lit [61])).2.1.size : Int) - 1)) ≤ ((mCut (rx (mSplitList (mFieldGet a0 (lit [99, 97, 99, 104, 101, 45, 99, 111, 110, 116, 114, 111, 108])).1) y1.2) (lit [61])).2.1.size : Int) ∧
                        pLower (mCut (rx (mSplitList (mFieldGet a0 (lit [99, 97, 99, 104, 101, 45, 99, 111, 110, 116, 114, 111, 108])).1) y1.2) (lit [61])).1 ∧
                        (y1.1.length + [((mLower (mCut (rx (mSplitList (mFieldGet a0 (lit [99, 97, 99, 104, 101, 45, 99, 111, 110, 116, 114, 111, 108])).1) y1.2) (lit [61])).1), ((mCut (rx (mSplitList (mFieldGet a0 (lit [99, 97, 99, 104, 101, 45, 99, 111, 110, 116, 114, 111, 108])).1) y1.2) (lit [61])).2.1.extract ((1 : Int).toNat) (IntKind.i64.wrap (((mCut (rx (mSplitList (mFieldGet a0 (lit [99, 97, 99, 104, 101, 45, 99, 111, 110, 116, 114, 111, 108])).1) y1.2) (lit [61])).2.1.size : Int) - 1)).toNat))].length) * 32 ≤ 140737488355328 ∧
                        (L0 ((y1.1 ++ [((mLower (mCut (rx (mSplitList (mFieldGet a0 (lit [99, 97, 99, 104, 101, 45, 99, 111, 110, 116, 114, 111, 108])).1) y1.2) (lit [61])).1), ((mCut (rx (mSplitList (mFieldGet a0 (lit [99, 97, 99, 104, 101, 45, 99, 111, 110, 116, 114, 111, 108])).1) y1.2) (lit [61])).2.1.extract ((1 : Int).toNat) (IntKind.i64.wrap (((mCut (rx (mSplitList (mFieldGet a0 (lit [99, 97, 99, 104, 101, 45, 99, 111, 110, 116, 114, 111, 108])).1) y1.2) (lit [61])).2.1.size : Int) - 1)).toNat))]), (IntKind.i64.wrap (y1.2 + 1))))) ∧
                      (¬ ((bt (mCut (rx (mSplitList (mFieldGet a0 (lit [99, 97, 99, 104, 101, 45, 99, 111, 110, 116, 114, 111, 108])).1) y1.2) (lit [61])).2.1 (IntKind.i64.wrap (((mCut (rx (mSplitList (mFieldGet a0 (lit [99, 97, 99, 104, 101, 45, 99, 111, 110, 116, 114, 111, 108])).1) y1.2) (lit [61])).2.1.size : Int) - 1))) = 34) →
                        pLower (mCut (rx (mSplitList (mFieldGet a0 (lit [99, 97, 99, 104, 101, 45, 99, 111, 110, 116, 114, 111, 108])).1) y1.2) (lit [61])).1 ∧
                        (y1.1.length + [((mLower (mCut (rx (mSplitList (mFieldGet a0 (lit [99, 97, 99, 104, 101, 45, 99, 111, 110, 116, 114, 111, 108])).1) y1.2) (lit [61])).1), (mCut (rx (mSplitList (mFieldGet a0 (lit [99, 97, 99, 104, 101, 45, 99, 111, 110, 116, 114, 111, 108])).1) y1.2) (lit [61])).2.1)].length) * 32 ≤ 140737488355328 ∧
                        (L0 ((y1.1 ++ [((mLower (mCut (rx (mSplitList (mFieldGet a0 (lit [99, 97, 99, 104, 101, 45, 99, 111, 110, 116, 114, 111, 108])).1) y1.2) (lit [61])).1), (mCut (rx (mSplitList (mFieldGet a0 (lit [99, 97, 99, 104, 101, 45, 99, 111, 110, 116, 114, 111, 108])).1) y1.2) (lit [61])).2.1)]), (IntKind.i64.wrap (y1.2 + 1)))))) ∧
                    (¬ ((bt (mCut (rx (mSplitList (mFieldGet a0 (lit [99, 97, 99, 104, 101, 45, 99, 111, 110, 116, 114, 111, 108])).1) y1.2) (lit [61])).2.1 0) = 34) →
                      pLower (mCut (rx (mSplitList (mFieldGet a0 (lit [99, 97, 99, 104, 101, 45, 99, 111, 110, 116, 114, 111, 108])).1) y1.2) (lit [61])).1 ∧
                      (y1.1.length + [((mLower (mCut (rx (mSplitList (mFieldGet a0 (lit [99, 97, 99, 104, 101, 45, 99, 111, 110, 116, 114, 111, 108])).1) y1.2) (lit [61])).1), (mCut (rx (mSplitList (mFieldGet a0 (lit [99, 97, 99, 104, 101, 45, 99, 111, 110, 116, 114, 111, 108])).1) y1.2) (lit [61])).2.1)].length) * 32 ≤ 140737488355328 ∧
                      (L0 ((y1.1 ++ [((mLower (mCut (rx (mSplitList (mFieldGet a0 (lit [99, 97, 99, 104, 101, 45, 99, 111, 110, 116, 114, 111, 108])).1) y1.2) (lit [61])).1), (mCut (rx (mSplitList (mFieldGet a0 (lit [99, 97, 99, 104, 101, 45, 99, 111, 110, 116, 114, 111, 108])).1) y1.2) (lit [61])).2.1)]), (IntKind.i64.wrap (y1.2 + 1)))))) ∧
                  (¬ (2 ≤ ((mCut (rx (mSplitList (mFieldGet a0 (lit [99, 97, 99, 104, 101, 45, 99, 111, 110, 116, 114, 111, 108])).1) y1.2) (lit [61])).2.1.size : Int)) →
                    pLower (mCut (rx (mSplitList (mFieldGet a0 (lit [99, 97, 99, 104, 101, 45, 99, 111, 110, 116, 114, 111, 108])).1) y1.2) (lit [61])).1 ∧
                    (y1.1.length + [((mLower (mCut (rx (mSplitList (mFieldGet a0 (lit [99, 97, 99, 104, 101, 45, 99, 111, 110, 116, 114, 111, 108])).1) y1.2) (lit [61])).1), (mCut (rx (mSplitList (mFieldGet a0 (lit [99, 97, 99, 104, 101, 45, 99, 111, 110, 116, 114, 111, 108])).1) y1.2) (lit [61])).2.1)].length) * 32 ≤ 140737488355328 ∧
                    (L0 ((y1.1 ++ [((mLower (mCut (rx (mSplitList (mFieldGet a0 (lit [99, 97, 99, 104, 101, 45, 99, 111, 110, 116, 114, 111, 108])).1) y1.2) (lit [61])).1), (mCut (rx (mSplitList (mFieldGet a0 (lit [99, 97, 99, 104, 101, 45, 99, 111, 110, 116, 114, 111, 108])).1) y1.2) (lit [61])).2.1)]), (IntKind.i64.wrap (y1.2 + 1))))))) ∧
              (¬ (y1.2 < ((mSplitList (mFieldGet a0 (lit [99, 97, 99, 104, 101, 45, 99, 111, 110, 116, 114, 111, 108])).1).length : Int)) →
                (Q y1.1))
            ) →
            (L0 y1)))
      ) →
      (L0 ([], 0))))

def s_impl_FieldGet (a0 : (List Fld)) (a1 : S) (Q : ((S × Bool) → Prop)) : Prop :=
  (∀ L0 : (((List S) × Int) → Prop),
    ((
        (∀ y1 : ((List S) × Int),
          ((
              (y1.2 < (a0.length : Int) →
                0 ≤ y1.2 ∧
                y1.2 < (a0.length : Int) ∧
                ((rx a0 y1.2).1 = a1 →
                  (y1.1.length + [(rx a0 y1.2).2].length) * 16 ≤ 140737488355328 ∧
                  (L0 ((y1.1 ++ [(rx a0 y1.2).2]), (IntKind.i64.wrap (y1.2 + 1))))) ∧
                (¬ ((rx a0 y1.2).1 = a1) →
                  (L0 (y1.1, (IntKind.i64.wrap (y1.2 + 1)))))) ∧
              (¬ (y1.2 < (a0.length : Int)) →
                pJoin y1.1 (lit [44, 32]) ∧
                (Q ((mJoin y1.1 (lit [44, 32])), (decide (0 < (y1.1.length : Int))))))
            ) →
            (L0 y1)))
      ) →
      (L0 ([], 0))))

def s_impl_IsTokenText (a0 : S) (Q : (Bool → Prop)) : Prop :=
  (∀ L0 : (Int → Prop),
    ((
        (∀ y1 : Int,
          ((
              (y1 < (a0.size : Int) →
                0 ≤ y1 ∧
                y1 < (a0.size : Int) ∧
                pIsLetterOrDigit (bt a0 y1) ∧
                (¬ ((mIsLetterOrDigit (bt a0 y1)) = true) →
                  0 ≤ y1 ∧
                  y1 < (a0.size : Int) ∧
                  pIndexByte (lit [33, 35, 36, 37, 38, 39, 42, 43, 45, 46, 94, 95, 124, 126, 96]) (bt a0 y1) ∧
                  ((mIndexByte (lit [33, 35, 36, 37, 38, 39, 42, 43, 45, 46, 94, 95, 124, 126, 96]) (bt a0 y1)) < 0 →
                    (Q false)) ∧
                  (¬ ((mIndexByte (lit [33, 35, 36, 37, 38, 39, 42, 43, 45, 46, 94, 95, 124, 126, 96]) (bt a0 y1)) < 0) →
                    (L0 (IntKind.i64.wrap (y1 + 1))))) ∧
                (¬ (¬ ((mIsLetterOrDigit (bt a0 y1)) = true)) →
                  (L0 (IntKind.i64.wrap (y1 + 1))))) ∧
              (¬ (y1 < (a0.size : Int)) →
                (Q (decide (a0 ≠ (lit [])))))
            ) →
            (L0 y1)))
      ) →
      (L0 0)))

def s_impl_SplitList (a0 : S) (Q : ((List S) → Prop)) : Prop :=
  pCommas a0 ∧
  ((mCommas a0).length + [(a0.size : Int)].length) * 8 ≤ 140737488355328 ∧
  (∀ L0 : (((List S) × (Int × Int)) → Prop),
    ((
        (∀ y1 : ((List S) × (Int × Int)),
          ((
              (y1.2.2 < (((mCommas a0) ++ [(a0.size : Int)]).length : Int) →
                0 ≤ y1.2.2 ∧
                y1.2.2 < (((mCommas a0) ++ [(a0.size : Int)]).length : Int) ∧
                0 ≤ y1.2.1 ∧
                y1.2.1 ≤ (rx ((mCommas a0) ++ [(a0.size : Int)]) y1.2.2) ∧
                (rx ((mCommas a0) ++ [(a0.size : Int)]) y1.2.2) ≤ (a0.size : Int) ∧
                pTrim (a0.extract y1.2.1.toNat (rx ((mCommas a0) ++ [(a0.size : Int)]) y1.2.2).toNat) ∧
                ((mTrim (a0.extract y1.2.1.toNat (rx ((mCommas a0) ++ [(a0.size : Int)]) y1.2.2).toNat)) ≠ (lit []) →
                  (y1.1.length + [(mTrim (a0.extract y1.2.1.toNat (rx ((mCommas a0) ++ [(a0.size : Int)]) y1.2.2).toNat))].length) * 16 ≤ 140737488355328 ∧
                  (L0 ((y1.1 ++ [(mTrim (a0.extract y1.2.1.toNat (rx ((mCommas a0) ++ [(a0.size : Int)]) y1.2.2).toNat))]), (IntKind.i64.wrap ((rx ((mCommas a0) ++ [(a0.size : Int)]) y1.2.2) + 1)), (IntKind.i64.wrap (y1.2.2 + 1))))) ∧
                (¬ ((mTrim (a0.extract y1.2.1.toNat (rx ((mCommas a0) ++ [(a0.size : Int)]) y1.2.2).toNat)) ≠ (lit [])) →
                  (L0 (y1.1, (IntKind.i64.wrap ((rx ((mCommas a0) ++ [(a0.size : Int)]) y1.2.2) + 1)), (IntKind.i64.wrap (y1.2.2 + 1)))))) ∧
              (¬ (y1.2.2 < (((mCommas a0) ++ [(a0.size : Int)]).length : Int)) →
                (Q y1.1))
            ) →
            (L0 y1)))
      ) →
      (L0 ([], 0, 0))))

def s_impl_Trim (a0 : S) (Q : (S → Prop)) : Prop :=
  pTrimL a0 (lit [32, 9]) ∧
  (Q (mTrimL a0 (lit [32, 9])))

def s_impl_commas (a0 : S) (Q : ((List Int) → Prop)) : Prop :=
  (∀ L0 : (((List Int) × (Bool × Int)) → Prop),
    ((
        (∀ y1 : ((List Int) × (Bool × Int)),
          ((
              (y1.2.2 < (a0.size : Int) →
                0 ≤ y1.2.2 ∧
                y1.2.2 < (a0.size : Int) ∧
                ((bt a0 y1.2.2) = 34 →
                  (L0 (y1.1, (decide (¬ (y1.2.1 = true))), (IntKind.i64.wrap (y1.2.2 + 1))))) ∧
                (¬ ((bt a0 y1.2.2) = 34) →
                  (y1.2.1 = true →
                    0 ≤ y1.2.2 ∧
                    y1.2.2 < (a0.size : Int) ∧
                    ((bt a0 y1.2.2) = 92 →
                      (L0 (y1.1, y1.2.1, (IntKind.i64.wrap ((IntKind.i64.wrap (y1.2.2 + 1)) + 1))))) ∧
                    (¬ ((bt a0 y1.2.2) = 92) →
                      (¬ (y1.2.1 = true) →
                        0 ≤ y1.2.2 ∧
                        y1.2.2 < (a0.size : Int) ∧
                        ((bt a0 y1.2.2) = 44 →
                          (y1.1.length + [y1.2.2].length) * 8 ≤ 140737488355328 ∧
                          (L0 ((y1.1 ++ [y1.2.2]), y1.2.1, (IntKind.i64.wrap (y1.2.2 + 1))))) ∧
                        (¬ ((bt a0 y1.2.2) = 44) →
                          (L0 (y1.1, y1.2.1, (IntKind.i64.wrap (y1.2.2 + 1)))))) ∧
                      (¬ (¬ (y1.2.1 = true)) →
                        (L0 (y1.1, y1.2.1, (IntKind.i64.wrap (y1.2.2 + 1))))))) ∧
                  (¬ (y1.2.1 = true) →
                    (¬ (y1.2.1 = true) →
                      0 ≤ y1.2.2 ∧
                      y1.2.2 < (a0.size : Int) ∧
                      ((bt a0 y1.2.2) = 44 →
                        (y1.1.length + [y1.2.2].length) * 8 ≤ 140737488355328 ∧
                        (L0 ((y1.1 ++ [y1.2.2]), y1.2.1, (IntKind.i64.wrap (y1.2.2 + 1))))) ∧
                      (¬ ((bt a0 y1.2.2) = 44) →
                        (L0 (y1.1, y1.2.1, (IntKind.i64.wrap (y1.2.2 + 1)))))) ∧
                    (¬ (¬ (y1.2.1 = true)) →
                      (L0 (y1.1, y1.2.1, (IntKind.i64.wrap (y1.2.2 + 1)))))))) ∧
              (¬ (y1.2.2 < (a0.size : Int)) →
                (Q y1.1))
            ) →
            (L0 y1)))
      ) →
      (L0 ([], false, 0))))

def s_impl_hasField (a0 : (List Fld)) (a1 : S) (Q : (Bool → Prop)) : Prop :=
  pFieldGet a0 a1 ∧
  (Q (mFieldGet a0 a1).2)

def s_impl_in (a0 : Int) (a1 : Int) (a2 : Int) (Q : (Bool → Prop)) : Prop :=
  (a1 ≤ a0 →
    (Q (decide (a0 ≤ a2)))) ∧
  (¬ (a1 ≤ a0) →
    (Q false))

def s_impl_isLetterOrDigit (a0 : Int) (Q : (Bool → Prop)) : Prop :=
  (97 ≤ a0 →
    (a0 ≤ 122 →
      (Q true)) ∧
    (¬ (a0 ≤ 122) →
      (65 ≤ a0 →
        (a0 ≤ 90 →
          (Q true)) ∧
        (¬ (a0 ≤ 90) →
          (48 ≤ a0 →
            (Q (decide (a0 ≤ 57)))) ∧
          (¬ (48 ≤ a0) →
            (Q false)))) ∧
      (¬ (65 ≤ a0) →
        (48 ≤ a0 →
          (Q (decide (a0 ≤ 57)))) ∧
        (¬ (48 ≤ a0) →
          (Q false))))) ∧
  (¬ (97 ≤ a0) →
    (65 ≤ a0 →
      (a0 ≤ 90 →
        (Q true)) ∧
      (¬ (a0 ≤ 90) →
        (48 ≤ a0 →
          (Q (decide (a0 ≤ 57)))) ∧
        (¬ (48 ≤ a0) →
          (Q false)))) ∧
    (¬ (65 ≤ a0) →
      (48 ≤ a0 →
        (Q (decide (a0 ≤ 57)))) ∧
      (¬ (48 ≤ a0) →
        (Q false))))

def s_slices_Index_string (a0 : (List S)) (a1 : S) (Q : (Int → Prop)) : Prop :=
  (∀ L0 : (Int → Prop),
    ((
        (∀ y1 : Int,
          ((
              (y1 < (a0.length : Int) →
                0 ≤ y1 ∧
                y1 < (a0.length : Int) ∧
                (a1 = (rx a0 y1) →
                  (Q y1)) ∧
                (¬ (a1 = (rx a0 y1)) →
                  (L0 (IntKind.i64.wrap (y1 + 1))))) ∧
              (¬ (y1 < (a0.length : Int)) →
                (Q (-1)))
            ) →
            (L0 y1)))
      ) →
      (L0 0)))

def s_spec_CcHas (a0 : (List Fld)) (a1 : S) (Q : (Bool → Prop)) : Prop :=
  pDirectives a0 ∧
  (∀ L0 : (Int → Prop),
    ((
        (∀ y1 : Int,
          ((
              (y1 < ((mDirectives a0).length : Int) →
                0 ≤ y1 ∧
                y1 < ((mDirectives a0).length : Int) ∧
                ((rx (mDirectives a0) y1).1 = a1 →
                  (Q true)) ∧
                (¬ ((rx (mDirectives a0) y1).1 = a1) →
                  (L0 (IntKind.i64.wrap (y1 + 1))))) ∧
              (¬ (y1 < ((mDirectives a0).length : Int)) →
                (Q false))
            ) →
            (L0 y1)))
      ) →
      (L0 0)))

def s_spec_Dec (a0 : Int) (Q : (S → Prop)) : Prop :=
  (a0 = 0 →
    (Q (lit [48]))) ∧
  (¬ (a0 = 0) →
    (∀ L0 : ((Int × S) → Prop),
      ((
          (∀ y1 : (Int × S),
            ((
                (y1.1 ≠ 0 →
                  (10 : Int) ≠ 0 ∧
                  ((y1.1.tmod 10) < 0 →
                    (strOf [(IntKind.u8.wrap (IntKind.i64.wrap (48 + (IntKind.i64.wrap (0 - (y1.1.tmod 10))))))]).size + y1.2.size ≤ 9223372036854775807 ∧
                    (10 : Int) ≠ 0 ∧
                    (L0 ((IntKind.i64.wrap (y1.1.tdiv 10)), ((strOf [(IntKind.u8.wrap (IntKind.i64.wrap (48 + (IntKind.i64.wrap (0 - (y1.1.tmod 10))))))]) ++ y1.2)))) ∧
                  (¬ ((y1.1.tmod 10) < 0) →
                    (strOf [(IntKind.u8.wrap (IntKind.i64.wrap (48 + (y1.1.tmod 10))))]).size + y1.2.size ≤ 9223372036854775807 ∧
                    (10 : Int) ≠ 0 ∧
                    (L0 ((IntKind.i64.wrap (y1.1.tdiv 10)), ((strOf [(IntKind.u8.wrap (IntKind.i64.wrap (48 + (y1.1.tmod 10))))]) ++ y1.2))))) ∧
                (¬ (y1.1 ≠ 0) →
                  (a0 < 0 →
                    (lit [45]).size + y1.2.size ≤ 9223372036854775807 ∧
                    (Q ((lit [45]) ++ y1.2))) ∧
                  (¬ (a0 < 0) →
                    (Q y1.2)))
              ) →
              (L0 y1)))
        ) →
        (L0 (a0, (lit []))))))

def s_spec_Directives (a0 : (List Fld)) (Q : ((List Fld) → Prop)) : Prop :=
  pFieldGet a0 (lit [99, 97, 99, 104, 101, 45, 99, 111, 110, 116, 114, 111, 108]) ∧
  pSplitList (mFieldGet a0 (lit [99, 97, 99, 104, 101, 45, 99, 111, 110, 116, 114, 111, 108])).1 ∧
  (∀ L0 : (((List Fld) × Int) → Prop),
    ((
        (∀ y1 : ((List Fld) × Int),
          ((
              (y1.2 < ((mSplitList (mFieldGet a0 (lit [99, 97, 99, 104, 101, 45, 99, 111, 110, 116, 114, 111, 108])).1).length : Int) →
                0 ≤ y1.2 ∧
                y1.2 < ((mSplitList (mFieldGet a0 (lit [99, 97, 99, 104, 101, 45, 99, 111, 110, 116, 114, 111, 108])).1).length : Int) ∧
                (∀ L2 : (Int → Prop),
                  ((
                      (∀ y3 : Int,
                        ((
                            (y3 < ((rx (mSplitList (mFieldGet a0 (lit [99, 97, 99, 104, 101, 45, 99, 111, 110, 116, 114, 111, 108])).1) y1.2).size : Int) →
                              0 ≤ y3 ∧
                              y3 < ((rx (mSplitList (mFieldGet a0 (lit [99, 97, 99, 104, 101, 45, 99, 111, 110, 116, 114, 111, 108])).1) y1.2).size : Int) ∧
                              ((bt (rx (mSplitList (mFieldGet a0 (lit [99, 97, 99, 104, 101, 45, 99, 111, 110, 116, 114, 111, 108])).1) y1.2) y3) ≠ 61 →
                                (L2 (IntKind.i64.wrap (y3 + 1)))) ∧
                              (¬ ((bt (rx (mSplitList (mFieldGet a0 (lit [99, 97, 99, 104, 101, 45, 99, 111, 110, 116, 114, 111, 108])).1) y1.2) y3) ≠ 61) →
                                0 ≤ y3 ∧
                                y3 ≤ ((rx (mSplitList (mFieldGet a0 (lit [99, 97, 99, 104, 101, 45, 99, 111, 110, 116, 114, 111, 108])).1) y1.2).size : Int) ∧
                                pIsTokenText ((rx (mSplitList (mFieldGet a0 (lit [99, 97, 99, 104, 101, 45, 99, 111, 110, 116, 114, 111, 108])).1) y1.2).extract 0 y3.toNat) ∧
                                (¬ ((mIsTokenText ((rx (mSplitList (mFieldGet a0 (lit [99, 97, 99, 104, 101, 45, 99, 111, 110, 116, 114, 111, 108])).1) y1.2).extract 0 y3.toNat)) = true) →
                                  (L0 (y1.1, (IntKind.i64.wrap (y1.2 + 1))))) ∧
                                (¬ (¬ ((mIsTokenText ((rx (mSplitList (mFieldGet a0 (lit [99, 97, 99, 104, 101, 45, 99, 111, 110, 116, 114, 111, 108])).1) y1.2).extract 0 y3.toNat)) = true)) →
                                  0 ≤ y3 ∧
                                  y3 ≤ ((rx (mSplitList (mFieldGet a0 (lit [99, 97, 99, 104, 101, 45, 99, 111, 110, 116, 114, 111, 108])).1) y1.2).size : Int) ∧
                                  pLower ((rx (mSplitList (mFieldGet a0 (lit [99, 97, 99, 104, 101, 45, 99, 111, 110, 116, 114, 111, 108])).1) y1.2).extract 0 y3.toNat) ∧
                                  (y3 < ((rx (mSplitList (mFieldGet a0 (lit [99, 97, 99, 104, 101, 45, 99, 111, 110, 116, 114, 111, 108])).1) y1.2).size : Int) →
                                    0 ≤ (IntKind.i64.wrap (y3 + 1)) ∧
                                    (IntKind.i64.wrap (y3 + 1)) ≤ ((rx (mSplitList (mFieldGet a0 (lit [99, 97, 99, 104, 101, 45, 99, 111, 110, 116, 114, 111, 108])).1) y1.2).size : Int) ∧
                                    pL7Unquote ((rx (mSplitList (mFieldGet a0 (lit [99, 97, 99, 104, 101, 45, 99, 111, 110, 116, 114, 111, 108])).1) y1.2).extract (IntKind.i64.wrap (y3 + 1)).toNat (rx (mSplitList (mFieldGet a0 (lit [99, 97, 99, 104, 101, 45, 99, 111, 110, 116, 114, 111, 108])).1) y1.2).size) ∧
                                    (y1.1.length + [((mLower ((rx (mSplitList (mFieldGet a0 (lit [99, 97, 99, 104, 101, 45, 99, 111, 110, 116, 114, 111, 108])).1) y1.2).extract 0 y3.toNat)), (mL7Unquote ((rx (mSplitList (mFieldGet a0 (lit [99, 97, 99, 104, 101, 45, 99, 111, 110, 116, 114, 111, 108])).1) y1.2).extract (IntKind.i64.wrap (y3 + 1)).toNat (rx (mSplitList (mFieldGet a0 (lit [99, 97, 99, 104, 101, 45, 99, 111, 110, 116, 114, 111, 108])).1) y1.2).size)))].length) * 32 ≤ 140737488355328 ∧
                                    (L0 ((y1.1 ++ [((mLower ((rx (mSplitList (mFieldGet a0 (lit [99, 97, 99, 104, 101, 45, 99, 111, 110, 116, 114, 111, 108])).1) y1.2).extract 0 y3.toNat)), (mL7Unquote ((rx (mSplitList (mFieldGet a0 (lit [99, 97, 99, 104, 101, 45, 99, 111, 110, 116, 114, 111, 108])).1) y1.2).extract (IntKind.i64.wrap (y3 + 1)).toNat (rx (mSplitList (mFieldGet a0 (lit [99, 97, 99, 104, 101, 45, 99, 111, 110, 116, 114, 111, 108])).1) y1.2).size)))]), (IntKind.i64.wrap (y1.2 + 1))))) ∧
                                  (¬ (y3 < ((rx (mSplitList (mFieldGet a0 (lit [99, 97, 99, 104, 101, 45, 99, 111, 110, 116, 114, 111, 108])).1) y1.2).size : Int)) →
                                    (y1.1.length + [((mLower ((rx (mSplitList (mFieldGet a0 (lit [99, 97, 99, 104, 101, 45, 99, 111, 110, 116, 114, 111, 108])).1) y1.2).extract 0 y3.toNat)), (lit []))].length) * 32 ≤ 140737488355328 ∧
                                    (L0 ((y1.1 ++ [((mLower ((rx (mSplitList (mFieldGet a0 (lit [99, 97, 99, 104, 101, 45, 99, 111, 110, 116, 114, 111, 108])).1) y1.2).extract 0 y3.toNat)), (lit []))]), (IntKind.i64.wrap (y1.2 + 1)))))))) ∧
                            (¬ (y3 < ((rx (mSplitList (mFieldGet a0 (lit [99, 97, 99, 104, 101, 45, 99, 111, 110, 116, 114, 111, 108])).1) y1.2).size : Int)) →
                              0 ≤ y3 ∧
                              y3 ≤ ((rx (mSplitList (mFieldGet a0 (lit [99, 97, 99, 104, 101, 45, 99, 111, 110, 116, 114, 111, 108])).1) y1.2).size : Int) ∧
                              pIsTokenText ((rx (mSplitList (mFieldGet a0 (lit [99, 97, 99, 104, 101, 45, 99, 111, 110, 116, 114, 111, 108])).1) y1.2).extract 0 y3.toNat) ∧
                              (¬ ((mIsTokenText ((rx (mSplitList (mFieldGet a0 (lit [99, 97, 99, 104, 101, 45, 99, 111, 110, 116, 114, 111, 108])).1) y1.2).extract 0 y3.toNat)) = true) →
                                (L0 (y1.1, (IntKind.i64.wrap (y1.2 + 1))))) ∧
                              (¬ (¬ ((mIsTokenText ((rx (mSplitList (mFieldGet a0 (lit [99, 97, 99, 104, 101, 45, 99, 111, 110, 116, 114, 111, 108])).1) y1.2).extract 0 y3.toNat)) = true)) →
                                0 ≤ y3 ∧
                                y3 ≤ ((rx (mSplitList (mFieldGet a0 (lit [99, 97, 99, 104, 101, 45, 99, 111, 110, 116, 114, 111, 108])).1) y1.2).size : Int) ∧
                                pLower ((rx (mSplitList (mFieldGet a0 (lit [99, 97, 99, 104, 101, 45, 99, 111, 110, 116, 114, 111, 108])).1) y1.2).extract 0 y3.toNat) ∧
                                (y3 < ((rx (mSplitList (mFieldGet a0 (lit [99, 97, 99, 104, 101, 45, 99, 111, 110, 116, 114, 111, 108])).1) y1.2).size : Int) →
                                  0 ≤ (IntKind.i64.wrap (y3 + 1)) ∧
                                  (IntKind.i64.wrap (y3 + 1)) ≤ ((rx (mSplitList (mFieldGet a0 (lit [99, 97, 99, 104, 101, 45, 99, 111, 110, 116, 114, 111, 108])).1) y1.2).size : Int) ∧
                                  pL7Unquote ((rx (mSplitList (mFieldGet a0 (lit [99, 97, 99, 104, 101, 45, 99, 111, 110, 116, 114, 111, 108])).1) y1.2).extract (IntKind.i64.wrap (y3 + 1)).toNat (rx (mSplitList (mFieldGet a0 (lit [99, 97, 99, 104, 101, 45, 99, 111, 110, 116, 114, 111, 108])).1) y1.2).size) ∧
                                  (y1.1.length + [((mLower ((rx (mSplitList (mFieldGet a0 (lit [99, 97, 99, 104, 101, 45, 99, 111, 110, 116, 114, 111, 108])).1) y1.2).extract 0 y3.toNat)), (mL7Unquote ((rx (mSplitList (mFieldGet a0 (lit [99, 97, 99, 104, 101, 45, 99, 111, 110, 116, 114, 111, 108])).1) y1.2).extract (IntKind.i64.wrap (y3 + 1)).toNat (rx (mSplitList (mFieldGet a0 (lit [99, 97, 99, 104, 101, 45, 99, 111, 110, 116, 114, 111, 108])).1) y1.2).size)))].length) * 32 ≤ 140737488355328 ∧
                                  (L0 ((y1.1 ++ [((mLower ((rx (mSplitList (mFieldGet a0 (lit [99, 97, 99, 104, 101, 45, 99, 111, 110, 116, 114, 111, 108])).1) y1.2).extract 0 y3.toNat)), (mL7Unquote ((rx (mSplitList (mFieldGet a0 (lit [99, 97, 99, 104, 101, 45, 99, 111, 110, 116, 114, 111, 108])).1) y1.2).extract (IntKind.i64.wrap (y3 + 1)).toNat (rx (mSplitList (mFieldGet a0 (lit [99, 97, 99, 104, 101, 45, 99, 111, 110, 116, 114, 111, 108])).1) y1.2).size)))]), (IntKind.i64.wrap (y1.2 + 1))))) ∧
                                (¬ (y3 < ((rx (mSplitList (mFieldGet a0 (lit [99, 97, 99, 104, 101, 45, 99, 111, 110, 116, 114, 111, 108])).1) y1.2).size : Int)) →
                                  (y1.1.length + [((mLower ((rx (mSplitList (mFieldGet a0 (lit [99, 97, 99, 104, 101, 45, 99, 111, 110, 116, 114, 111, 108])).1) y1.2).extract 0 y3.toNat)), (lit []))].length) * 32 ≤ 140737488355328 ∧
                                  (L0 ((y1.1 ++ [((mLower ((rx (mSplitList (mFieldGet a0 (lit [99, 97, 99, 104, 101, 45, 99, 111, 110, 116, 114, 111, 108])).1) y1.2).extract 0 y3.toNat)), (lit []))]), (IntKind.i64.wrap (y1.2 + 1)))))))
                          ) →
                          (L2 y3)))
                    ) →
                    (L2 0)))) ∧
              (¬ (y1.2 < ((mSplitList (mFieldGet a0 (lit [99, 97, 99, 104, 101, 45, 99, 111, 110, 116, 114, 111, 108])).1).length : Int)) →
                (Q y1.1))
            ) →
            (L0 y1)))
      ) →
      (L0 ([], 0))))

def s_spec_FieldGet (a0 : (List Fld)) (a1 : S) (Q : ((S × Bool) → Prop)) : Prop :=
  (∀ L0 : ((S × (Bool × Int)) → Prop),
    ((
        (∀ y1 : (S × (Bool × Int)),
          ((
              (y1.2.2 < (a0.length : Int) →
                0 ≤ y1.2.2 ∧
                y1.2.2 < (a0.length : Int) ∧
                ((rx a0 y1.2.2).1 ≠ a1 →
                  (L0 (y1.1, y1.2.1, (IntKind.i64.wrap (y1.2.2 + 1))))) ∧
                (¬ ((rx a0 y1.2.2).1 ≠ a1) →
                  (y1.2.1 = true →
                    y1.1.size + (lit [44, 32]).size ≤ 9223372036854775807 ∧
                    0 ≤ y1.2.2 ∧
                    y1.2.2 < (a0.length : Int) ∧
                    (y1.1 ++ (lit [44, 32])).size + (rx a0 y1.2.2).2.size ≤ 9223372036854775807 ∧
                    (L0 (((y1.1 ++ (lit [44, 32])) ++ (rx a0 y1.2.2).2), true, (IntKind.i64.wrap (y1.2.2 + 1))))) ∧
                  (¬ (y1.2.1 = true) →
                    0 ≤ y1.2.2 ∧
                    y1.2.2 < (a0.length : Int) ∧
                    y1.1.size + (rx a0 y1.2.2).2.size ≤ 9223372036854775807 ∧
                    (L0 ((y1.1 ++ (rx a0 y1.2.2).2), true, (IntKind.i64.wrap (y1.2.2 + 1))))))) ∧
              (¬ (y1.2.2 < (a0.length : Int)) →
                (Q (y1.1, y1.2.1)))
            ) →
            (L0 y1)))
      ) →
      (L0 ((lit []), false, 0))))

def s_spec_IsTokenText (a0 : S) (Q : (Bool → Prop)) : Prop :=
  (∀ L0 : (Int → Prop),
    ((
        (∀ y1 : Int,
          ((
              (y1 < (a0.size : Int) →
                0 ≤ y1 ∧
                y1 < (a0.size : Int) ∧
                pToken (bt a0 y1) ∧
                (¬ ((mToken (bt a0 y1)) = true) →
                  (Q false)) ∧
                (¬ (¬ ((mToken (bt a0 y1)) = true)) →
                  (L0 (IntKind.i64.wrap (y1 + 1))))) ∧
              (¬ (y1 < (a0.size : Int)) →
                (Q (decide (0 < (a0.size : Int)))))
            ) →
            (L0 y1)))
      ) →
      (L0 0)))

def s_spec_Lower (a0 : S) (Q : (S → Prop)) : Prop :=
  a0.size ≤ 140737488355328 ∧
  (∀ L0 : ((Int × (List Int)) → Prop),
    ((
        (∀ y1 : (Int × (List Int)),
          ((
              (y1.1 < (y1.2.length : Int) →
                0 ≤ y1.1 ∧
                y1.1 < (y1.2.length : Int) ∧
                (65 ≤ (rx y1.2 y1.1) →
                  0 ≤ y1.1 ∧
                  y1.1 < (y1.2.length : Int) ∧
                  ((rx y1.2 y1.1) ≤ 90 →
                    0 ≤ y1.1 ∧
                    y1.1 < (y1.2.length : Int) ∧
                    0 ≤ y1.1 ∧
                    y1.1 < (y1.2.length : Int) ∧
                    (L0 ((IntKind.i64.wrap (y1.1 + 1)), (y1.2.set y1.1.toNat (IntKind.u8.wrap ((rx y1.2 y1.1) + 32)))))) ∧
                  (¬ ((rx y1.2 y1.1) ≤ 90) →
                    (L0 ((IntKind.i64.wrap (y1.1 + 1)), y1.2)))) ∧
                (¬ (65 ≤ (rx y1.2 y1.1)) →
                  (L0 ((IntKind.i64.wrap (y1.1 + 1)), y1.2)))) ∧
              (¬ (y1.1 < (y1.2.length : Int)) →
                (Q (strOf y1.2)))
            ) →
            (L0 y1)))
      ) →
      (L0 (0, (bytesOf a0)))))

def s_spec_SplitList (a0 : S) (Q : ((List S) → Prop)) : Prop :=
  (∀ L0 : (((List S) × (Int × (Bool × Int))) → Prop),
    ((
        (∀ y1 : ((List S) × (Int × (Bool × Int))),
          ((
              (y1.2.2.2 ≤ (a0.size : Int) →
                (y1.2.2.2 < (a0.size : Int) →
                  0 ≤ y1.2.2.2 ∧
                  y1.2.2.2 < (a0.size : Int) ∧
                  ((bt a0 y1.2.2.2) = 34 →
                    (y1.2.2.2 < (a0.size : Int) →
                      (¬ (y1.2.2.1 = true) →
                        0 ≤ y1.2.2.2 ∧
                        y1.2.2.2 < (a0.size : Int) ∧
                        ((bt a0 y1.2.2.2) = 92 →
                          (L0 (y1.1, y1.2.1, (decide (¬ (y1.2.2.1 = true))), (IntKind.i64.wrap ((IntKind.i64.wrap (y1.2.2.2 + 1)) + 1))))) ∧
                        (¬ ((bt a0 y1.2.2.2) = 92) →
                          ((a0.size : Int) ≤ y1.2.2.2 →
                            0 ≤ y1.2.1 ∧
                            y1.2.1 ≤ (if (a0.size : Int) < y1.2.2.2 then (a0.size : Int) else y1.2.2.2) ∧
                            (if (a0.size : Int) < y1.2.2.2 then (a0.size : Int) else y1.2.2.2) ≤ (a0.size : Int) ∧
                            pTrim (a0.extract y1.2.1.toNat (if (a0.size : Int) < y1.2.2.2 then (a0.size : Int) else y1.2.2.2).toNat) ∧
                            ((mTrim (a0.extract y1.2.1.toNat (if (a0.size : Int) < y1.2.2.2 then (a0.size : Int) else y1.2.2.2).toNat)) ≠ (lit []) →
                              (y1.1.length + [(mTrim (a0.extract y1.2.1.toNat (if (a0.size : Int) < y1.2.2.2 then (a0.size : Int) else y1.2.2.2).toNat))].length) * 16 ≤ 140737488355328 ∧
                              (L0 ((y1.1 ++ [(mTrim (a0.extract y1.2.1.toNat (if (a0.size : Int) < y1.2.2.2 then (a0.size : Int) else y1.2.2.2).toNat))]), (IntKind.i64.wrap (y1.2.2.2 + 1)), (decide (¬ (y1.2.2.1 = true))), (IntKind.i64.wrap (y1.2.2.2 + 1))))) ∧
                            (¬ ((mTrim (a0.extract y1.2.1.toNat (if (a0.size : Int) < y1.2.2.2 then (a0.size : Int) else y1.2.2.2).toNat)) ≠ (lit [])) →
                              (L0 (y1.1, (IntKind.i64.wrap (y1.2.2.2 + 1)), (decide (¬ (y1.2.2.1 = true))), (IntKind.i64.wrap (y1.2.2.2 + 1)))))) ∧
                          (¬ ((a0.size : Int) ≤ y1.2.2.2) →
                            0 ≤ y1.2.2.2 ∧
                            y1.2.2.2 < (a0.size : Int) ∧
                            ((bt a0 y1.2.2.2) = 44 →
                              (¬ (¬ (y1.2.2.1 = true)) →
                                0 ≤ y1.2.1 ∧
                                y1.2.1 ≤ (if (a0.size : Int) < y1.2.2.2 then (a0.size : Int) else y1.2.2.2) ∧
                                (if (a0.size : Int) < y1.2.2.2 then (a0.size : Int) else y1.2.2.2) ≤ (a0.size : Int) ∧
                                pTrim (a0.extract y1.2.1.toNat (if (a0.size : Int) < y1.2.2.2 then (a0.size : Int) else y1.2.2.2).toNat) ∧
                                ((mTrim (a0.extract y1.2.1.toNat (if (a0.size : Int) < y1.2.2.2 then (a0.size : Int) else y1.2.2.2).toNat)) ≠ (lit []) →
                                  (y1.1.length + [(mTrim (a0.extract y1.2.1.toNat (if (a0.size : Int) < y1.2.2.2 then (a0.size : Int) else y1.2.2.2).toNat))].length) * 16 ≤ 140737488355328 ∧
                                  (L0 ((y1.1 ++ [(mTrim (a0.extract y1.2.1.toNat (if (a0.size : Int) < y1.2.2.2 then (a0.size : Int) else y1.2.2.2).toNat))]), (IntKind.i64.wrap (y1.2.2.2 + 1)), (decide (¬ (y1.2.2.1 = true))), (IntKind.i64.wrap (y1.2.2.2 + 1))))) ∧
                                (¬ ((mTrim (a0.extract y1.2.1.toNat (if (a0.size : Int) < y1.2.2.2 then (a0.size : Int) else y1.2.2.2).toNat)) ≠ (lit [])) →
                                  (L0 (y1.1, (IntKind.i64.wrap (y1.2.2.2 + 1)), (decide (¬ (y1.2.2.1 = true))), (IntKind.i64.wrap (y1.2.2.2 + 1)))))) ∧
                              (¬ (¬ (¬ (y1.2.2.1 = true))) →
                                (L0 (y1.1, y1.2.1, (decide (¬ (y1.2.2.1 = true))), (IntKind.i64.wrap (y1.2.2.2 + 1)))))) ∧
                            (¬ ((bt a0 y1.2.2.2) = 44) →
                              (L0 (y1.1, y1.2.1, (decide (¬ (y1.2.2.1 = true))), (IntKind.i64.wrap (y1.2.2.2 + 1)))))))) ∧
                      (¬ (¬ (y1.2.2.1 = true)) →
                        ((a0.size : Int) ≤ y1.2.2.2 →
                          0 ≤ y1.2.1 ∧
                          y1.2.1 ≤ (if (a0.size : Int) < y1.2.2.2 then (a0.size : Int) else y1.2.2.2) ∧
                          (if (a0.size : Int) < y1.2.2.2 then (a0.size : Int) else y1.2.2.2) ≤ (a0.size : Int) ∧
                          pTrim (a0.extract y1.2.1.toNat (if (a0.size : Int) < y1.2.2.2 then (a0.size : Int) else y1.2.2.2).toNat) ∧
                          ((mTrim (a0.extract y1.2.1.toNat (if (a0.size : Int) < y1.2.2.2 then (a0.size : Int) else y1.2.2.2).toNat)) ≠ (lit []) →
                            (y1.1.length + [(mTrim (a0.extract y1.2.1.toNat (if (a0.size : Int) < y1.2.2.2 then (a0.size : Int) else y1.2.2.2).toNat))].length) * 16 ≤ 140737488355328 ∧
                            (L0 ((y1.1 ++ [(mTrim (a0.extract y1.2.1.toNat (if (a0.size : Int) < y1.2.2.2 then (a0.size : Int) else y1.2.2.2).toNat))]), (IntKind.i64.wrap (y1.2.2.2 + 1)), (decide (¬ (y1.2.2.1 = true))), (IntKind.i64.wrap (y1.2.2.2 + 1))))) ∧
                          (¬ ((mTrim (a0.extract y1.2.1.toNat (if (a0.size : Int) < y1.2.2.2 then (a0.size : Int) else y1.2.2.2).toNat)) ≠ (lit [])) →
                            (L0 (y1.1, (IntKind.i64.wrap (y1.2.2.2 + 1)), (decide (¬ (y1.2.2.1 = true))), (IntKind.i64.wrap (y1.2.2.2 + 1)))))) ∧
                        (¬ ((a0.size : Int) ≤ y1.2.2.2) →
                          0 ≤ y1.2.2.2 ∧
                          y1.2.2.2 < (a0.size : Int) ∧
                          ((bt a0 y1.2.2.2) = 44 →
                            (¬ (¬ (y1.2.2.1 = true)) →
                              0 ≤ y1.2.1 ∧
                              y1.2.1 ≤ (if (a0.size : Int) < y1.2.2.2 then (a0.size : Int) else y1.2.2.2) ∧
                              (if (a0.size : Int) < y1.2.2.2 then (a0.size : Int) else y1.2.2.2) ≤ (a0.size : Int) ∧
                              pTrim (a0.extract y1.2.1.toNat (if (a0.size : Int) < y1.2.2.2 then (a0.size : Int) else y1.2.2.2).toNat) ∧
                              ((mTrim (a0.extract y1.2.1.toNat (if (a0.size : Int) < y1.2.2.2 then (a0.size : Int) else y1.2.2.2).toNat)) ≠ (lit []) →
                                (y1.1.length + [(mTrim (a0.extract y1.2.1.toNat (if (a0.size : Int) < y1.2.2.2 then (a0.size : Int) else y1.2.2.2).toNat))].length) * 16 ≤ 140737488355328 ∧
                                (L0 ((y1.1 ++ [(mTrim (a0.extract y1.2.1.toNat (if (a0.size : Int) < y1.2.2.2 then (a0.size : Int) else y1.2.2.2).toNat))]), (IntKind.i64.wrap (y1.2.2.2 + 1)), (decide (¬ (y1.2.2.1 = true))), (IntKind.i64.wrap (y1.2.2.2 + 1))))) ∧
                              (¬ ((mTrim (a0.extract y1.2.1.toNat (if (a0.size : Int) < y1.2.2.2 then (a0.size : Int) else y1.2.2.2).toNat)) ≠ (lit [])) →
                                (L0 (y1.1, (IntKind.i64.wrap (y1.2.2.2 + 1)), (decide (¬ (y1.2.2.1 = true))), (IntKind.i64.wrap (y1.2.2.2 + 1)))))) ∧
                            (¬ (¬ (¬ (y1.2.2.1 = true))) →
                              (L0 (y1.1, y1.2.1, (decide (¬ (y1.2.2.1 = true))), (IntKind.i64.wrap (y1.2.2.2 + 1)))))) ∧
                          (¬ ((bt a0 y1.2.2.2) = 44) →
                            (L0 (y1.1, y1.2.1, (decide (¬ (y1.2.2.1 = true))), (IntKind.i64.wrap (y1.2.2.2 + 1)))))))) ∧
                    (¬ (y1.2.2.2 < (a0.size : Int)) →
                      ((a0.size : Int) ≤ y1.2.2.2 →
                        0 ≤ y1.2.1 ∧
                        y1.2.1 ≤ (if (a0.size : Int) < y1.2.2.2 then (a0.size : Int) else y1.2.2.2) ∧
                        (if (a0.size : Int) < y1.2.2.2 then (a0.size : Int) else y1.2.2.2) ≤ (a0.size : Int) ∧
                        pTrim (a0.extract y1.2.1.toNat (if (a0.size : Int) < y1.2.2.2 then (a0.size : Int) else y1.2.2.2).toNat) ∧
                        ((mTrim (a0.extract y1.2.1.toNat (if (a0.size : Int) < y1.2.2.2 then (a0.size : Int) else y1.2.2.2).toNat)) ≠ (lit []) →
                          (y1.1.length + [(mTrim (a0.extract y1.2.1.toNat (if (a0.size : Int) < y1.2.2.2 then (a0.size : Int) else y1.2.2.2).toNat))].length) * 16 ≤ 140737488355328 ∧
                          (L0 ((y1.1 ++ [(mTrim (a0.extract y1.2.1.toNat (if (a0.size : Int) < y1.2.2.2 then (a0.size : Int) else y1.2.2.2).toNat))]), (IntKind.i64.wrap (y1.2.2.2 + 1)), (decide (¬ (y1.2.2.1 = true))), (IntKind.i64.wrap (y1.2.2.2 + 1))))) ∧
                        (¬ ((mTrim (a0.extract y1.2.1.toNat (if (a0.size : Int) < y1.2.2.2 then (a0.size : Int) else y1.2.2.2).toNat)) ≠ (lit [])) →
                          (L0 (y1.1, (IntKind.i64.wrap (y1.2.2.2 + 1)), (decide (¬ (y1.2.2.1 = true))), (IntKind.i64.wrap (y1.2.2.2 + 1)))))) ∧
                      (¬ ((a0.size : Int) ≤ y1.2.2.2) →
                        0 ≤ y1.2.2.2 ∧
                        y1.2.2.2 < (a0.size : Int) ∧
                        ((bt a0 y1.2.2.2) = 44 →
                          (¬ (¬ (y1.2.2.1 = true)) →
                            0 ≤ y1.2.1 ∧
                            y1.2.1 ≤ (if (a0.size : Int) < y1.2.2.2 then (a0.size : Int) else y1.2.2.2) ∧
                            (if (a0.size : Int) < y1.2.2.2 then (a0.size : Int) else y1.2.2.2) ≤ (a0.size : Int) ∧
                            pTrim (a0.extract y1.2.1.toNat (if (a0.size : Int) < y1.2.2.2 then (a0.size : Int) else y1.2.2.2).toNat) ∧
                            ((mTrim (a0.extract y1.2.1.toNat (if (a0.size : Int) < y1.2.2.2 then (a0.size : Int) else y1.2.2.2).toNat)) ≠ (lit []) →
                              (y1.1.length + [(mTrim (a0.extract y1.2.1.toNat (if (a0.size : Int) < y1.2.2.2 then (a0.size : Int) else y1.2.2.2).toNat))].length) * 16 ≤ 140737488355328 ∧
                              (L0 ((y1.1 ++ [(mTrim (a0.extract y1.2.1.toNat (if (a0.size : Int) < y1.2.2.2 then (a0.size : Int) else y1.2.2.2).toNat))]), (IntKind.i64.wrap (y1.2.2.2 + 1)), (decide (¬ (y1.2.2.1 = true))), (IntKind.i64.wrap (y1.2.2.2 + 1))))) ∧
                            (¬ ((mTrim (a0.extract y1.2.1.toNat (if (a0.size : Int) < y1.2.2.2 then (a0.size : Int) else y1.2.2.2).toNat)) ≠ (lit [])) →
                              (L0 (y1.1, (IntKind.i64.wrap (y1.2.2.2 + 1)), (decide (¬ (y1.2.2.1 = true))), (IntKind.i64.wrap (y1.2.2.2 + 1)))))) ∧
                          (¬ (¬ (¬ (y1.2.2.1 = true))) →
                            (L0 (y1.1, y1.2.1, (decide (¬ (y1.2.2.1 = true))), (IntKind.i64.wrap (y1.2.2.2 + 1)))))) ∧
                        (¬ ((bt a0 y1.2.2.2) = 44) →
                          (L0 (y1.1, y1.2.1, (decide (¬ (y1.2.2.1 = true))), (IntKind.i64.wrap (y1.2.2.2 + 1)))))))) ∧
                  (¬ ((bt a0 y1.2.2.2) = 34) →
                    (y1.2.2.2 < (a0.size : Int) →
                      (y1.2.2.1 = true →
                        0 ≤ y1.2.2.2 ∧
                        y1.2.2.2 < (a0.size : Int) ∧
                        ((bt a0 y1.2.2.2) = 92 →
                          (L0 (y1.1, y1.2.1, y1.2.2.1, (IntKind.i64.wrap ((IntKind.i64.wrap (y1.2.2.2 + 1)) + 1))))) ∧
                        (¬ ((bt a0 y1.2.2.2) = 92) →
                          ((a0.size : Int) ≤ y1.2.2.2 →
                            0 ≤ y1.2.1 ∧
                            y1.2.1 ≤ (if (a0.size : Int) < y1.2.2.2 then (a0.size : Int) else y1.2.2.2) ∧
                            (if (a0.size : Int) < y1.2.2.2 then (a0.size : Int) else y1.2.2.2) ≤ (a0.size : Int) ∧
                            pTrim (a0.extract y1.2.1.toNat (if (a0.size : Int) < y1.2.2.2 then (a0.size : Int) else y1.2.2.2).toNat) ∧
                            ((mTrim (a0.extract y1.2.1.toNat (if (a0.size : Int) < y1.2.2.2 then (a0.size : Int) else y1.2.2.2).toNat)) ≠ (lit []) →
                              (y1.1.length + [(mTrim (a0.extract y1.2.1.toNat (if (a0.size : Int) < y1.2.2.2 then (a0.size : Int) else y1.2.2.2).toNat))].length) * 16 ≤ 140737488355328 ∧
                              (L0 ((y1.1 ++ [(mTrim (a0.extract y1.2.1.toNat (if (a0.size : Int) < y1.2.2.2 then (a0.size : Int) else y1.2.2.2).toNat))]), (IntKind.i64.wrap (y1.2.2.2 + 1)), y1.2.2.1, (IntKind.i64.wrap (y1.2.2.2 + 1))))) ∧
                            (¬ ((mTrim (a0.extract y1.2.1.toNat (if (a0.size : Int) < y1.2.2.2 then (a0.size : Int) else y1.2.2.2).toNat)) ≠ (lit [])) →
                              (L0 (y1.1, (IntKind.i64.wrap (y1.2.2.2 + 1)), y1.2.2.1, (IntKind.i64.wrap (y1.2.2.2 + 1)))))) ∧
                          (¬ ((a0.size : Int) ≤ y1.2.2.2) →
                            0 ≤ y1.2.2.2 ∧
                            y1.2.2.2 < (a0.size : Int) ∧
                            ((bt a0 y1.2.2.2) = 44 →
                              (¬ (y1.2.2.1 = true) →
                                0 ≤ y1.2.1 ∧
                                y1.2.1 ≤ (if (a0.size : Int) < y1.2.2.2 then (a0.size : Int) else y1.2.2.2) ∧
                                (if (a0.size : Int) < y1.2.2.2 then (a0.size : Int) else y1.2.2.2) ≤ (a0.size : Int) ∧
                                pTrim (a0.extract y1.2.1.toNat (if (a0.size : Int) < y1.2.2.2 then (a0.size : Int) else y1.2.2.2).toNat) ∧
                                ((mTrim (a0.extract y1.2.1.toNat (if (a0.size : Int) < y1.2.2.2 then (a0.size : Int) else y1.2.2.2).toNat)) ≠ (lit []) →
                                  (y1.1.length + [(mTrim (a0.extract y1.2.1.toNat (if (a0.size : Int) < y1.2.2.2 then (a0.size : Int) else y1.2.2.2).toNat))].length) * 16 ≤ 140737488355328 ∧
                                  (L0 ((y1.1 ++ [(mTrim (a0.extract y1.2.1.toNat (if (a0.size : Int) < y1.2.2.2 then (a0.size : Int) else y1.2.2.2).toNat))]), (IntKind.i64.wrap (y1.2.2.2 + 1)), y1.2.2.1, (IntKind.i64.wrap (y1.2.2.2 + 1))))) ∧
                                (¬ ((mTrim (a0.extract y1.2.1.toNat (if (a0.size : Int) < y1.2.2.2 then (a0.size : Int) else y1.2.2.2).toNat)) ≠ (lit [])) →
                                  (L0 (y1.1, (IntKind.i64.wrap (y1.2.2.2 + 1)), y1.2.2.1, (IntKind.i64.wrap (y1.2.2.2 + 1)))))) ∧
                              (¬ (¬ (y1.2.2.1 = true)) →
                                (L0 (y1.1, y1.2.1, y1.2.2.1, (IntKind.i64.wrap (y1.2.2.2 + 1)))))) ∧
                            (¬ ((bt a0 y1.2.2.2) = 44) →
                              (L0 (y1.1, y1.2.1, y1.2.2.1, (IntKind.i64.wrap (y1.2.2.2 + 1)))))))) ∧
                      (¬ (y1.2.2.1 = true) →
                        ((a0.size : Int) ≤ y1.2.2.2 →
                          0 ≤ y1.2.1 ∧
                          y1.2.1 ≤ (if (a0.size : Int) < y1.2.2.2 then (a0.size : Int) else y1.2.2.2) ∧
                          (if (a0.size : Int) < y1.2.2.2 then (a0.size : Int) else y1.2.2.2) ≤ (a0.size : Int) ∧
                          pTrim (a0.extract y1.2.1.toNat (if (a0.size : Int) < y1.2.2.2 then (a0.size : Int) else y1.2.2.2).toNat) ∧
                          ((mTrim (a0.extract y1.2.1.toNat (if (a0.size : Int) < y1.2.2.2 then (a0.size : Int) else y1.2.2.2).toNat)) ≠ (lit []) →
                            (y1.1.length + [(mTrim (a0.extract y1.2.1.toNat (if (a0.size : Int) < y1.2.2.2 then (a0.size : Int) else y1.2.2.2).toNat))].length) * 16 ≤ 140737488355328 ∧
                            (L0 ((y1.1 ++ [(mTrim (a0.extract y1.2.1.toNat (if (a0.size : Int) < y1.2.2.2 then (a0.size : Int) else y1.2.2.2).toNat))]), (IntKind.i64.wrap (y1.2.2.2 + 1)), y1.2.2.1, (IntKind.i64.wrap (y1.2.2.2 + 1))))) ∧
                          (¬ ((mTrim (a0.extract y1.2.1.toNat (if (a0.size : Int) < y1.2.2.2 then (a0.size : Int) else y1.2.2.2).toNat)) ≠ (lit [])) →
                            (L0 (y1.1, (IntKind.i64.wrap (y1.2.2.2 + 1)), y1.2.2.1, (IntKind.i64.wrap (y1.2.2.2 + 1)))))) ∧
                        (¬ ((a0.size : Int) ≤ y1.2.2.2) →
                          0 ≤ y1.2.2.2 ∧
                          y1.2.2.2 < (a0.size : Int) ∧
                          ((bt a0 y1.2.2.2) = 44 →
                            (¬ (y1.2.2.1 = true) →
                              0 ≤ y1.2.1 ∧
                              y1.2.1 ≤ (if (a0.size : Int) < y1.2.2.2 then (a0.size : Int) else y1.2.2.2) ∧
                              (if (a0.size : Int) < y1.2.2.2 then (a0.size : Int) else y1.2.2.2) ≤ (a0.size : Int) ∧
                              pTrim (a0.extract y1.2.1.toNat (if (a0.size : Int) < y1.2.2.2 then (a0.size : Int) else y1.2.2.2).toNat) ∧
                              ((mTrim (a0.extract y1.2.1.toNat (if (a0.size : Int) < y1.2.2.2 then (a0.size : Int) else y1.2.2.2).toNat)) ≠ (lit []) →
                                (y1.1.length + [(mTrim (a0.extract y1.2.1.toNat (if (a0.size : Int) < y1.2.2.2 then (a0.size : Int) else y1.2.2.2).toNat))].length) * 16 ≤ 140737488355328 ∧
                                (L0 ((y1.1 ++ [(mTrim (a0.extract y1.2.1.toNat (if (a0.size : Int) < y1.2.2.2 then (a0.size : Int) else y1.2.2.2).toNat))]), (IntKind.i64.wrap (y1.2.2.2 + 1)), y1.2.2.1, (IntKind.i64.wrap (y1.2.2.2 + 1))))) ∧
                              (¬ ((mTrim (a0.extract y1.2.1.toNat (if (a0.size : Int) < y1.2.2.2 then (a0.size : Int) else y1.2.2.2).toNat)) ≠ (lit [])) →
                                (L0 (y1.1, (IntKind.i64.wrap (y1.2.2.2 + 1)), y1.2.2.1, (IntKind.i64.wrap (y1.2.2.2 + 1)))))) ∧
                            (¬ (¬ (y1.2.2.1 = true)) →
                              (L0 (y1.1, y1.2.1, y1.2.2.1, (IntKind.i64.wrap (y1.2.2.2 + 1)))))) ∧
                          (¬ ((bt a0 y1.2.2.2) = 44) →
                            (L0 (y1.1, y1.2.1, y1.2.2.1, (IntKind.i64.wrap (y1.2.2.2 + 1)))))))) ∧
                    (¬ (y1.2.2.2 < (a0.size : Int)) →
                      ((a0.size : Int) ≤ y1.2.2.2 →
                        0 ≤ y1.2.1 ∧
                        y1.2.1 ≤ (if (a0.size : Int) < y1.2.2.2 then (a0.size : Int) else y1.2.2.2) ∧
                        (if (a0.size : Int) < y1.2.2.2 then (a0.size : Int) else y1.2.2.2) ≤ (a0.size : Int) ∧
                        pTrim (a0.extract y1.2.1.toNat (if (a0.size : Int) < y1.2.2.2 then (a0.size : Int) else y1.2.2.2).toNat) ∧
                        ((mTrim (a0.extract y1.2.1.toNat (if (a0.size : Int) < y1.2.2.2 then (a0.size : Int) else y1.2.2.2).toNat)) ≠ (lit []) →
                          (y1.1.length + [(mTrim (a0.extract y1.2.1.toNat (if (a0.size : Int) < y1.2.2.2 then (a0.size : Int) else y1.2.2.2).toNat))].length) * 16 ≤ 140737488355328 ∧
                          (L0 ((y1.1 ++ [(mTrim (a0.extract y1.2.1.toNat (if (a0.size : Int) < y1.2.2.2 then (a0.size : Int) else y1.2.2.2).toNat))]), (IntKind.i64.wrap (y1.2.2.2 + 1)), y1.2.2.1, (IntKind.i64.wrap (y1.2.2.2 + 1))))) ∧
                        (¬ ((mTrim (a0.extract y1.2.1.toNat (if (a0.size : Int) < y1.2.2.2 then (a0.size : Int) else y1.2.2.2).toNat)) ≠ (lit [])) →
                          (L0 (y1.1, (IntKind.i64.wrap (y1.2.2.2 + 1)), y1.2.2.1, (IntKind.i64.wrap (y1.2.2.2 + 1)))))) ∧
                      (¬ ((a0.size : Int) ≤ y1.2.2.2) →
                        0 ≤ y1.2.2.2 ∧
                        y1.2.2.2 < (a0.size : Int) ∧
                        ((bt a0 y1.2.2.2) = 44 →
                          (¬ (y1.2.2.1 = true) →
                            0 ≤ y1.2.1 ∧
                            y1.2.1 ≤ (if (a0.size : Int) < y1.2.2.2 then (a0.size : Int) else y1.2.2.2) ∧
                            (if (a0.size : Int) < y1.2.2.2 then (a0.size : Int) else y1.2.2.2) ≤ (a0.size : Int) ∧
                            pTrim (a0.extract y1.2.1.toNat (if (a0.size : Int) < y1.2.2.2 then (a0.size : Int) else y1.2.2.2).toNat) ∧
                            ((mTrim (a0.extract y1.2.1.toNat (if (a0.size : Int) < y1.2.2.2 then (a0.size : Int) else y1.2.2.2).toNat)) ≠ (lit []) →
                              (y1.1.length + [(mTrim (a0.extract y1.2.1.toNat (if (a0.size : Int) < y1.2.2.2 then (a0.size : Int) else y1.2.2.2).toNat))].length) * 16 ≤ 140737488355328 ∧
                              (L0 ((y1.1 ++ [(mTrim (a0.extract y1.2.1.toNat (if (a0.size : Int) < y1.2.2.2 then (a0.size : Int) else y1.2.2.2).toNat))]), (IntKind.i64.wrap (y1.2.2.2 + 1)), y1.2.2.1, (IntKind.i64.wrap (y1.2.2.2 + 1))))) ∧
                            (¬ ((mTrim (a0.extract y1.2.1.toNat (if (a0.size : Int) < y1.2.2.2 then (a0.size : Int) else y1.2.2.2).toNat)) ≠ (lit [])) →
                              (L0 (y1.1, (IntKind.i64.wrap (y1.2.2.2 + 1)), y1.2.2.1, (IntKind.i64.wrap (y1.2.2.2 + 1)))))) ∧
                          (¬ (¬ (y1.2.2.1 = true)) →
                            (L0 (y1.1, y1.2.1, y1.2.2.1, (IntKind.i64.wrap (y1.2.2.2 + 1)))))) ∧
                        (¬ ((bt a0 y1.2.2.2) = 44) →
                          (L0 (y1.1, y1.2.1, y1.2.2.1, (IntKind.i64.wrap (y1.2.2.2 + 1))))))))) ∧
                (¬ (y1.2.2.2 < (a0.size : Int)) →
                  (y1.2.2.2 < (a0.size : Int) →
                    (y1.2.2.1 = true →
                      0 ≤ y1.2.2.2 ∧
                      y1.2.2.2 < (a0.size : Int) ∧
                      ((bt a0 y1.2.2.2) = 92 →
                        (L0 (y1.1, y1.2.1, y1.2.2.1, (IntKind.i64.wrap ((IntKind.i64.wrap (y1.2.2.2 + 1)) + 1))))) ∧
                      (¬ ((bt a0 y1.2.2.2) = 92) →
                        ((a0.size : Int) ≤ y1.2.2.2 →
                          0 ≤ y1.2.1 ∧
                          y1.2.1 ≤ (if (a0.size : Int) < y1.2.2.2 then (a0.size : Int) else y1.2.2.2) ∧
                          (if (a0.size : Int) < y1.2.2.2 then (a0.size : Int) else y1.2.2.2) ≤ (a0.size : Int) ∧
                          pTrim (a0.extract y1.2.1.toNat (if (a0.size : Int) < y1.2.2.2 then (a0.size : Int) else y1.2.2.2).toNat) ∧
                          ((mTrim (a0.extract y1.2.1.toNat (if (a0.size : Int) < y1.2.2.2 then (a0.size : Int) else y1.2.2.2).toNat)) ≠ (lit []) →
                            (y1.1.length + [(mTrim (a0.extract y1.2.1.toNat (if (a0.size : Int) < y1.2.2.2 then (a0.size : Int) else y1.2.2.2).toNat))].length) * 16 ≤ 140737488355328 ∧
                            (L0 ((y1.1 ++ [(mTrim (a0.extract y1.2.1.toNat (if (a0.size : Int) < y1.2.2.2 then (a0.size : Int) else y1.2.2.2).toNat))]), (IntKind.i64.wrap (y1.2.2.2 + 1)), y1.2.2.1, (IntKind.i64.wrap (y1.2.2.2 + 1))))) ∧
                          (¬ ((mTrim (a0.extract y1.2.1.toNat (if (a0.size : Int) < y1.2.2.2 then (a0.size : Int) else y1.2.2.2).toNat)) ≠ (lit [])) →
                            (L0 (y1.1, (IntKind.i64.wrap (y1.2.2.2 + 1)), y1.2.2.1, (IntKind.i64.wrap (y1.2.2.2 + 1)))))) ∧
                        (¬ ((a0.size : Int) ≤ y1.2.2.2) →
                          0 ≤ y1.2.2.2 ∧
                          y1.2.2.2 < (a0.size : Int) ∧
                          ((bt a0 y1.2.2.2) = 44 →
                            (¬ (y1.2.2.1 = true) →
                              0 ≤ y1.2.1 ∧
                              y1.2.1 ≤ (if (a0.size : Int) < y1.2.2.2 then (a0.size : Int) else y1.2.2.2) ∧
                              (if (a0.size : Int) < y1.2.2.2 then (a0.size : Int) else y1.2.2.2) ≤ (a0.size : Int) ∧
                              pTrim (a0.extract y1.2.1.toNat (if (a0.size : Int) < y1.2.2.2 then (a0.size : Int) else y1.2.2.2).toNat) ∧
                              ((mTrim (a0.extract y1.2.1.toNat (if (a0.size : Int) < y1.2.2.2 then (a0.size : Int) else y1.2.2.2).toNat)) ≠ (lit []) →
                                (y1.1.length + [(mTrim (a0.extract y1.2.1.toNat (if (a0.size : Int) < y1.2.2.2 then (a0.size : Int) else y1.2.2.2).toNat))].length) * 16 ≤ 140737488355328 ∧
                                (L0 ((y1.1 ++ [(mTrim (a0.extract y1.2.1.toNat (if (a0.size : Int) < y1.2.2.2 then (a0.size : Int) else y1.2.2.2).toNat))]), (IntKind.i64.wrap (y1.2.2.2 + 1)), y1.2.2.1, (IntKind.i64.wrap (y1.2.2.2 + 1))))) ∧
                              (¬ ((mTrim (a0.extract y1.2.1.toNat (if (a0.size : Int) < y1.2.2.2 then (a0.size : Int) else y1.2.2.2).toNat)) ≠ (lit [])) →
                                (L0 (y1.1, (IntKind.i64.wrap (y1.2.2.2 + 1)), y1.2.2.1, (IntKind.i64.wrap (y1.2.2.2 + 1)))))) ∧
                            (¬ (¬ (y1.2.2.1 = true)) →
                              (L0 (y1.1, y1.2.1, y1.2.2.1, (IntKind.i64.wrap (y1.2.2.2 + 1)))))) ∧
                          (¬ ((bt a0 y1.2.2.2) = 44) →
                            (L0 (y1.1, y1.2.1, y1.2.2.1, (IntKind.i64.wrap (y1.2.2.2 + 1)))))))) ∧
                    (¬ (y1.2.2.1 = true) →
                      ((a0.size : Int) ≤ y1.2.2.2 →
                        0 ≤ y1.2.1 ∧
                        y1.2.1 ≤ (if (a0.size : Int) < y1.2.2.2 then (a0.size : Int) else y1.2.2.2) ∧
                        (if (a0.size : Int) < y1.2.2.2 then (a0.size : Int) else y1.2.2.2) ≤ (a0.size : Int) ∧
                        pTrim (a0.extract y1.2.1.toNat (if (a0.size : Int) < y1.2.2.2 then (a0.size : Int) else y1.2.2.2).toNat) ∧
                        ((mTrim (a0.extract y1.2.1.toNat (if (a0.size : Int) < y1.2.2.2 then (a0.size : Int) else y1.2.2.2).toNat)) ≠ (lit []) →
                          (y1.1.length + [(mTrim (a0.extract y1.2.1.toNat (if (a0.size : Int) < y1.2.2.2 then (a0.size : Int) else y1.2.2.2).toNat))].length) * 16 ≤ 140737488355328 ∧
                          (L0 ((y1.1 ++ [(mTrim (a0.extract y1.2.1.toNat (if (a0.size : Int) < y1.2.2.2 then (a0.size : Int) else y1.2.2.2).toNat))]), (IntKind.i64.wrap (y1.2.2.2 + 1)), y1.2.2.1, (IntKind.i64.wrap (y1.2.2.2 + 1))))) ∧
                        (¬ ((mTrim (a0.extract y1.2.1.toNat (if (a0.size : Int) < y1.2.2.2 then (a0.size : Int) else y1.2.2.2).toNat)) ≠ (lit [])) →
                          (L0 (y1.1, (IntKind.i64.wrap (y1.2.2.2 + 1)), y1.2.2.1, (IntKind.i64.wrap (y1.2.2.2 + 1)))))) ∧
                      (¬ ((a0.size : Int) ≤ y1.2.2.2) →
                        0 ≤ y1.2.2.2 ∧
                        y1.2.2.2 < (a0.size : Int) ∧
                        ((bt a0 y1.2.2.2) = 44 →
                          (¬ (y1.2.2.1 = true) →
                            0 ≤ y1.2.1 ∧
                            y1.2.1 ≤ (if (a0.size : Int) < y1.2.2.2 then (a0.size : Int) else y1.2.2.2) ∧
                            (if (a0.size : Int) < y1.2.2.2 then (a0.size : Int) else y1.2.2.2) ≤ (a0.size : Int) ∧
                            pTrim (a0.extract y1.2.1.toNat (if (a0.size : Int) < y1.2.2.2 then (a0.size : Int) else y1.2.2.2).toNat) ∧
                            ((mTrim (a0.extract y1.2.1.toNat (if (a0.size : Int) < y1.2.2.2 then (a0.size : Int) else y1.2.2.2).toNat)) ≠ (lit []) →
                              (y1.1.length + [(mTrim (a0.extract y1.2.1.toNat (if (a0.size : Int) < y1.2.2.2 then (a0.size : Int) else y1.2.2.2).toNat))].length) * 16 ≤ 140737488355328 ∧
                              (L0 ((y1.1 ++ [(mTrim (a0.extract y1.2.1.toNat (if (a0.size : Int) < y1.2.2.2 then (a0.size : Int) else y1.2.2.2).toNat))]), (IntKind.i64.wrap (y1.2.2.2 + 1)), y1.2.2.1, (IntKind.i64.wrap (y1.2.2.2 + 1))))) ∧
                            (¬ ((mTrim (a0.extract y1.2.1.toNat (if (a0.size : Int) < y1.2.2.2 then (a0.size : Int) else y1.2.2.2).toNat)) ≠ (lit [])) →
                              (L0 (y1.1, (IntKind.i64.wrap (y1.2.2.2 + 1)), y1.2.2.1, (IntKind.i64.wrap (y1.2.2.2 + 1)))))) ∧
                          (¬ (¬ (y1.2.2.1 = true)) →
                            (L0 (y1.1, y1.2.1, y1.2.2.1, (IntKind.i64.wrap (y1.2.2.2 + 1)))))) ∧
                        (¬ ((bt a0 y1.2.2.2) = 44) →
                          (L0 (y1.1, y1.2.1, y1.2.2.1, (IntKind.i64.wrap (y1.2.2.2 + 1)))))))) ∧
                  (¬ (y1.2.2.2 < (a0.size : Int)) →
                    ((a0.size : Int) ≤ y1.2.2.2 →
                      0 ≤ y1.2.1 ∧
                      y1.2.1 ≤ (if (a0.size : Int) < y1.2.2.2 then (a0.size : Int) else y1.2.2.2) ∧
                      (if (a0.size : Int) < y1.2.2.2 then (a0.size : Int) else y1.2.2.2) ≤ (a0.size : Int) ∧
                      pTrim (a0.extract y1.2.1.toNat (if (a0.size : Int) < y1.2.2.2 then (a0.size : Int) else y1.2.2.2).toNat) ∧
                      ((mTrim (a0.extract y1.2.1.toNat (if (a0.size : Int) < y1.2.2.2 then (a0.size : Int) else y1.2.2.2).toNat)) ≠ (lit []) →
                        (y1.1.length + [(mTrim (a0.extract y1.2.1.toNat (if (a0.size : Int) < y1.2.2.2 then (a0.size : Int) else y1.2.2.2).toNat))].length) * 16 ≤ 140737488355328 ∧
                        (L0 ((y1.1 ++ [(mTrim (a0.extract y1.2.1.toNat (if (a0.size : Int) < y1.2.2.2 then (a0.size : Int) else y1.2.2.2).toNat))]), (IntKind.i64.wrap (y1.2.2.2 + 1)), y1.2.2.1, (IntKind.i64.wrap (y1.2.2.2 + 1))))) ∧
                      (¬ ((mTrim (a0.extract y1.2.1.toNat (if (a0.size : Int) < y1.2.2.2 then (a0.size : Int) else y1.2.2.2).toNat)) ≠ (lit [])) →
                        (L0 (y1.1, (IntKind.i64.wrap (y1.2.2.2 + 1)), y1.2.2.1, (IntKind.i64.wrap (y1.2.2.2 + 1)))))) ∧
                    (¬ ((a0.size : Int) ≤ y1.2.2.2) →
                      0 ≤ y1.2.2.2 ∧
                      y1.2.2.2 < (a0.size : Int) ∧
                      ((bt a0 y1.2.2.2) = 44 →
                        (¬ (y1.2.2.1 = true) →
                          0 ≤ y1.2.1 ∧
                          y1.2.1 ≤ (if (a0.size : Int) < y1.2.2.2 then (a0.size : Int) else y1.2.2.2) ∧
                          (if (a0.size : Int) < y1.2.2.2 then (a0.size : Int) else y1.2.2.2) ≤ (a0.size : Int) ∧
                          pTrim (a0.extract y1.2.1.toNat (if (a0.size : Int) < y1.2.2.2 then (a0.size : Int) else y1.2.2.2).toNat) ∧
                          ((mTrim (a0.extract y1.2.1.toNat (if (a0.size : Int) < y1.2.2.2 then (a0.size : Int) else y1.2.2.2).toNat)) ≠ (lit []) →
                            (y1.1.length + [(mTrim (a0.extract y1.2.1.toNat (if (a0.size : Int) < y1.2.2.2 then (a0.size : Int) else y1.2.2.2).toNat))].length) * 16 ≤ 140737488355328 ∧
                            (L0 ((y1.1 ++ [(mTrim (a0.extract y1.2.1.toNat (if (a0.size : Int) < y1.2.2.2 then (a0.size : Int) else y1.2.2.2).toNat))]), (IntKind.i64.wrap (y1.2.2.2 + 1)), y1.2.2.1, (IntKind.i64.wrap (y1.2.2.2 + 1))))) ∧
                          (¬ ((mTrim (a0.extract y1.2.1.toNat (if (a0.size : Int) < y1.2.2.2 then (a0.size : Int) else y1.2.2.2).toNat)) ≠ (lit [])) →
                            (L0 (y1.1, (IntKind.i64.wrap (y1.2.2.2 + 1)), y1.2.2.1, (IntKind.i64.wrap (y1.2.2.2 + 1)))))) ∧
                        (¬ (¬ (y1.2.2.1 = true)) →
                          (L0 (y1.1, y1.2.1, y1.2.2.1, (IntKind.i64.wrap (y1.2.2.2 + 1)))))) ∧
                      (¬ ((bt a0 y1.2.2.2) = 44) →
                        (L0 (y1.1, y1.2.1, y1.2.2.1, (IntKind.i64.wrap (y1.2.2.2 + 1))))))))) ∧
              (¬ (y1.2.2.2 ≤ (a0.size : Int)) →
                (y1.2.1 < (a0.size : Int) →
                  (y1.2.2.1 = true →
                    0 ≤ y1.2.1 ∧
                    y1.2.1 ≤ (a0.size : Int) ∧
                    pTrim (a0.extract y1.2.1.toNat a0.size) ∧
                    ((mTrim (a0.extract y1.2.1.toNat a0.size)) ≠ (lit []) →
                      (y1.1.length + [(mTrim (a0.extract y1.2.1.toNat a0.size))].length) * 16 ≤ 140737488355328 ∧
                      (Q (y1.1 ++ [(mTrim (a0.extract y1.2.1.toNat a0.size))]))) ∧
                    (¬ ((mTrim (a0.extract y1.2.1.toNat a0.size)) ≠ (lit [])) →
                      (Q y1.1))) ∧
                  (¬ (y1.2.2.1 = true) →
                    (Q y1.1))) ∧
                (¬ (y1.2.1 < (a0.size : Int)) →
                  (Q y1.1)))
            ) →
            (L0 y1)))
      ) →
      (L0 ([], 0, false, 0))))

def s_spec_Trim (a0 : S) (Q : (S → Prop)) : Prop :=
  (∀ L0 : (S → Prop),
    ((
        (∀ y1 : S,
          ((
              (0 < (y1.size : Int) →
                (0 : Int) ≤ 0 ∧
                0 < (y1.size : Int) ∧
                pBlank (bt y1 0) ∧
                ((mBlank (bt y1 0)) = true →
                  (0 : Int) ≤ 1 ∧
                  1 ≤ (y1.size : Int) ∧
                  (L0 (y1.extract ((1 : Int).toNat) y1.size))) ∧
                (¬ ((mBlank (bt y1 0)) = true) →
                  (∀ L2 : (S → Prop),
                    ((
                        (∀ y3 : S,
                          ((
                              (0 < (y3.size : Int) →
                                0 ≤ (IntKind.i64.wrap ((y3.size : Int) - 1)) ∧
                                (IntKind.i64.wrap ((y3.size : Int) - 1)) < (y3.size : Int) ∧
                                pBlank (bt y3 (IntKind.i64.wrap ((y3.size : Int) - 1))) ∧
                                ((mBlank (bt y3 (IntKind.i64.wrap ((y3.size : Int) - 1)))) = true →
                                  0 ≤ (IntKind.i64.wrap ((y3.size : Int) - 1)) ∧
                                  (IntKind.i64.wrap ((y3.size : Int) - 1)) ≤ (y3.size : Int) ∧
                                  (L2 (y3.extract 0 (IntKind.i64.wrap ((y3.size : Int) - 1)).toNat))) ∧
                                (¬ ((mBlank (bt y3 (IntKind.i64.wrap ((y3.size : Int) - 1)))) = true) →
                                  (Q y3))) ∧
                              (¬ (0 < (y3.size : Int)) →
                                (Q y3))
                            ) →
                            (L2 y3)))
                      ) →
                      (L2 y1))))) ∧
              (¬ (0 < (y1.size : Int)) →
                (∀ L4 : (S → Prop),
                  ((
                      (∀ y5 : S,
                        ((
                            (0 < (y5.size : Int) →
                              0 ≤ (IntKind.i64.wrap ((y5.size : Int) - 1)) ∧
                              (IntKind.i64.wrap ((y5.size : Int) - 1)) < (y5.size : Int) ∧
                              pBlank (bt y5 (IntKind.i64.wrap ((y5.size : Int) - 1))) ∧
                              ((mBlank (bt y5 (IntKind.i64.wrap ((y5.size : Int) - 1)))) = true →
                                0 ≤ (IntKind.i64.wrap ((y5.size : Int) - 1)) ∧
                                (IntKind.i64.wrap ((y5.size : Int) - 1)) ≤ (y5.size : Int) ∧
                                (L4 (y5.extract 0 (IntKind.i64.wrap ((y5.size : Int) - 1)).toNat))) ∧
                              (¬ ((mBlank (bt y5 (IntKind.i64.wrap ((y5.size : Int) - 1)))) = true) →
                                (Q y5))) ∧
                            (¬ (0 < (y5.size : Int)) →
                              (Q y5))
                          ) →
                          (L4 y5)))
                    ) →
                    (L4 y1))))
            ) →
            (L0 y1)))
      ) →
      (L0 a0)))

def s_spec_l1In (a0 : Int) (a1 : Int) (a2 : Int) (Q : (Bool → Prop)) : Prop :=
  (a1 ≤ a0 →
    (Q (decide (a0 ≤ a2)))) ∧
  (¬ (a1 ≤ a0) →
    (Q false))

def s_spec_l2Blank (a0 : Int) (Q : (Bool → Prop)) : Prop :=
  (a0 = 32 →
    (Q true)) ∧
  (¬ (a0 = 32) →
    (Q (decide (a0 = 9))))

def s_spec_l2Token (a0 : Int) (Q : (Bool → Prop)) : Prop :=
  (97 ≤ a0 →
    (a0 ≤ 122 →
      (Q true)) ∧
    (¬ (a0 ≤ 122) →
      (65 ≤ a0 →
        (a0 ≤ 90 →
          (Q true)) ∧
        (¬ (a0 ≤ 90) →
          (48 ≤ a0 →
            (a0 ≤ 57 →
              (Q true)) ∧
            (¬ (a0 ≤ 57) →
              (a0 = 33 →
                (Q true)) ∧
              (¬ (a0 = 33) →
                (a0 = 35 →
                  (Q true)) ∧
                (¬ (a0 = 35) →
                  (a0 = 36 →
                    (Q true)) ∧
                  (¬ (a0 = 36) →
                    (a0 = 37 →
                      (Q true)) ∧
                    (¬ (a0 = 37) →
                      (a0 = 38 →
                        (Q true)) ∧
                      (¬ (a0 = 38) →
                        (a0 = 39 →
                          (Q true)) ∧
                        (¬ (a0 = 39) →
                          (a0 = 42 →
                            (Q true)) ∧
                          (¬ (a0 = 42) →
                            (a0 = 43 →
                              (Q true)) ∧
                            (¬ (a0 = 43) →
                              (a0 = 45 →
                                (Q true)) ∧
                              (¬ (a0 = 45) →
                                (a0 = 46 →
                                  (Q true)) ∧
                                (¬ (a0 = 46) →
                                  (a0 = 94 →
                                    (Q true)) ∧
                                  (¬ (a0 = 94) →
                                    (a0 = 95 →
                                      (Q true)) ∧
                                    (¬ (a0 = 95) →
                                      (a0 = 96 →
                                        (Q true)) ∧
                                      (¬ (a0 = 96) →
                                        (a0 = 124 →
                                          (Q true)) ∧
                                        (¬ (a0 = 124) →
                                          (Q (decide (a0 = 126))))))))))))))))))) ∧
          (¬ (48 ≤ a0) →
            (a0 = 33 →
              (Q true)) ∧
            (¬ (a0 = 33) →
              (a0 = 35 →
                (Q true)) ∧
              (¬ (a0 = 35) →
                (a0 = 36 →
                  (Q true)) ∧
                (¬ (a0 = 36) →
                  (a0 = 37 →
                    (Q true)) ∧
                  (¬ (a0 = 37) →
                    (a0 = 38 →
                      (Q true)) ∧
                    (¬ (a0 = 38) →
                      (a0 = 39 →
                        (Q true)) ∧
                      (¬ (a0 = 39) →
                        (a0 = 42 →
                          (Q true)) ∧
                        (¬ (a0 = 42) →
                          (a0 = 43 →
                            (Q true)) ∧
                          (¬ (a0 = 43) →
                            (a0 = 45 →
                              (Q true)) ∧
                            (¬ (a0 = 45) →
                              (a0 = 46 →
                                (Q true)) ∧
                              (¬ (a0 = 46) →
                                (a0 = 94 →
                                  (Q true)) ∧
                                (¬ (a0 = 94) →
                                  (a0 = 95 →
                                    (Q true)) ∧
                                  (¬ (a0 = 95) →
                                    (a0 = 96 →
                                      (Q true)) ∧
                                    (¬ (a0 = 96) →
                                      (a0 = 124 →
                                        (Q true)) ∧
                                      (¬ (a0 = 124) →
                                        (Q (decide (a0 = 126)))))))))))))))))))) ∧
      (¬ (65 ≤ a0) →
        (48 ≤ a0 →
          (a0 ≤ 57 →
            (Q true)) ∧
          (¬ (a0 ≤ 57) →
            (a0 = 33 →
              (Q true)) ∧
            (¬ (a0 = 33) →
              (a0 = 35 →
                (Q true)) ∧
              (¬ (a0 = 35) →
                (a0 = 36 →
                  (Q true)) ∧
                (¬ (a0 = 36) →
                  (a0 = 37 →
                    (Q true)) ∧
                  (¬ (a0 = 37) →
                    (a0 = 38 →
                      (Q true)) ∧
                    (¬ (a0 = 38) →
                      (a0 = 39 →
                        (Q true)) ∧
                      (¬ (a0 = 39) →
                        (a0 = 42 →
                          (Q true)) ∧
                        (¬ (a0 = 42) →
                          (a0 = 43 →
                            (Q true)) ∧
                          (¬ (a0 = 43) →
                            (a0 = 45 →
                              (Q true)) ∧
                            (¬ (a0 = 45) →
                              (a0 = 46 →
                                (Q true)) ∧
                              (¬ (a0 = 46) →
                                (a0 = 94 →
                                  (Q true)) ∧
                                (¬ (a0 = 94) →
                                  (a0 = 95 →
                                    (Q true)) ∧
                                  (¬ (a0 = 95) →
                                    (a0 = 96 →
                                      (Q true)) ∧
                                    (¬ (a0 = 96) →
                                      (a0 = 124 →
                                        (Q true)) ∧
                                      (¬ (a0 = 124) →
                                        (Q (decide (a0 = 126))))))))))))))))))) ∧
        (¬ (48 ≤ a0) →
          (a0 = 33 →
            (Q true)) ∧
          (¬ (a0 = 33) →
            (a0 = 35 →
              (Q true)) ∧
            (¬ (a0 = 35) →
              (a0 = 36 →
                (Q true)) ∧
              (¬ (a0 = 36) →
                (a0 = 37 →
                  (Q true)) ∧
                (¬ (a0 = 37) →
                  (a0 = 38 →
                    (Q true)) ∧
                  (¬ (a0 = 38) →
                    (a0 = 39 →
                      (Q true)) ∧
                    (¬ (a0 = 39) →
                      (a0 = 42 →
                        (Q true)) ∧
                      (¬ (a0 = 42) →
                        (a0 = 43 →
                          (Q true)) ∧
                        (¬ (a0 = 43) →
                          (a0 = 45 →
                            (Q true)) ∧
                          (¬ (a0 = 45) →
                            (a0 = 46 →
                              (Q true)) ∧
                            (¬ (a0 = 46) →
                              (a0 = 94 →
                                (Q true)) ∧
                              (¬ (a0 = 94) →
                                (a0 = 95 →
                                  (Q true)) ∧
                                (¬ (a0 = 95) →
                                  (a0 = 96 →
                                    (Q true)) ∧
                                  (¬ (a0 = 96) →
                                    (a0 = 124 →
                                      (Q true)) ∧
                                    (¬ (a0 = 124) →
                                      (Q (decide (a0 = 126))))))))))))))))))))) ∧
  (¬ (97 ≤ a0) →
    (65 ≤ a0 →
      (a0 ≤ 90 →
        (Q true)) ∧
      (¬ (a0 ≤ 90) →
        (48 ≤ a0 →
          (a0 ≤ 57 →
            (Q true)) ∧
          (¬ (a0 ≤ 57) →
            (a0 = 33 →
              (Q true)) ∧
            (¬ (a0 = 33) →
              (a0 = 35 →
                (Q true)) ∧
              (¬ (a0 = 35) →
                (a0 = 36 →
                  (Q true)) ∧
                (¬ (a0 = 36) →
                  (a0 = 37 →
                    (Q true)) ∧
                  (¬ (a0 = 37) →
                    (a0 = 38 →
                      (Q true)) ∧
                    (¬ (a0 = 38) →
                      (a0 = 39 →
                        (Q true)) ∧
                      (¬ (a0 = 39) →
                        (a0 = 42 →
                          (Q true)) ∧
                        (¬ (a0 = 42) →
                          (a0 = 43 →
                            (Q true)) ∧
                          (¬ (a0 = 43) →
                            (a0 = 45 →
                              (Q true)) ∧
                            (¬ (a0 = 45) →
                              (a0 = 46 →
                                (Q true)) ∧
                              (¬ (a0 = 46) →
                                (a0 = 94 →
                                  (Q true)) ∧
                                (¬ (a0 = 94) →
                                  (a0 = 95 →
                                    (Q true)) ∧
                                  (¬ (a0 = 95) →
                                    (a0 = 96 →
                                      (Q true)) ∧
                                    (¬ (a0 = 96) →
                                      (a0 = 124 →
                                        (Q true)) ∧
                                      (¬ (a0 = 124) →
                                        (Q (decide (a0 = 126))))))))))))))))))) ∧
        (¬ (48 ≤ a0) →
          (a0 = 33 →
            (Q true)) ∧
          (¬ (a0 = 33) →
            (a0 = 35 →
              (Q true)) ∧
            (¬ (a0 = 35) →
              (a0 = 36 →
                (Q true)) ∧
              (¬ (a0 = 36) →
                (a0 = 37 →
                  (Q true)) ∧
                (¬ (a0 = 37) →
                  (a0 = 38 →
                    (Q true)) ∧
                  (¬ (a0 = 38) →
                    (a0 = 39 →
                      (Q true)) ∧
                    (¬ (a0 = 39) →
                      (a0 = 42 →
                        (Q true)) ∧
                      (¬ (a0 = 42) →
                        (a0 = 43 →
                          (Q true)) ∧
                        (¬ (a0 = 43) →
                          (a0 = 45 →
                            (Q true)) ∧
                          (¬ (a0 = 45) →
                            (a0 = 46 →
                              (Q true)) ∧
                            (¬ (a0 = 46) →
                              (a0 = 94 →
                                (Q true)) ∧
                              (¬ (a0 = 94) →
                                (a0 = 95 →
                                  (Q true)) ∧
                                (¬ (a0 = 95) →
                                  (a0 = 96 →
                                    (Q true)) ∧
                                  (¬ (a0 = 96) →
                                    (a0 = 124 →
                                      (Q true)) ∧
                                    (¬ (a0 = 124) →
                                      (Q (decide (a0 = 126)))))))))))))))))))) ∧
    (¬ (65 ≤ a0) →
      (48 ≤ a0 →
        (a0 ≤ 57 →
          (Q true)) ∧
        (¬ (a0 ≤ 57) →
          (a0 = 33 →
            (Q true)) ∧
          (¬ (a0 = 33) →
            (a0 = 35 →
              (Q true)) ∧
            (¬ (a0 = 35) →
              (a0 = 36 →
                (Q true)) ∧
              (¬ (a0 = 36) →
                (a0 = 37 →
                  (Q true)) ∧
                (¬ (a0 = 37) →
                  (a0 = 38 →
                    (Q true)) ∧
                  (¬ (a0 = 38) →
                    (a0 = 39 →
                      (Q true)) ∧
                    (¬ (a0 = 39) →
                      (a0 = 42 →
                        (Q true)) ∧
                      (¬ (a0 = 42) →
                        (a0 = 43 →
                          (Q true)) ∧
                        (¬ (a0 = 43) →
                          (a0 = 45 →
                            (Q true)) ∧
                          (¬ (a0 = 45) →
                            (a0 = 46 →
                              (Q true)) ∧
                            (¬ (a0 = 46) →
                              (a0 = 94 →
                                (Q true)) ∧
                              (¬ (a0 = 94) →
                                (a0 = 95 →
                                  (Q true)) ∧
                                (¬ (a0 = 95) →
                                  (a0 = 96 →
                                    (Q true)) ∧
                                  (¬ (a0 = 96) →
                                    (a0 = 124 →
                                      (Q true)) ∧
                                    (¬ (a0 = 124) →
                                      (Q (decide (a0 = 126))))))))))))))))))) ∧
      (¬ (48 ≤ a0) →
        (a0 = 33 →
          (Q true)) ∧
        (¬ (a0 = 33) →
          (a0 = 35 →
            (Q true)) ∧
          (¬ (a0 = 35) →
            (a0 = 36 →
              (Q true)) ∧
            (¬ (a0 = 36) →
              (a0 = 37 →
                (Q true)) ∧
              (¬ (a0 = 37) →
                (a0 = 38 →
                  (Q true)) ∧
                (¬ (a0 = 38) →
                  (a0 = 39 →
                    (Q true)) ∧
                  (¬ (a0 = 39) →
                    (a0 = 42 →
                      (Q true)) ∧
                    (¬ (a0 = 42) →
                      (a0 = 43 →
                        (Q true)) ∧
                      (¬ (a0 = 43) →
                        (a0 = 45 →
                          (Q true)) ∧
                        (¬ (a0 = 45) →
                          (a0 = 46 →
                            (Q true)) ∧
                          (¬ (a0 = 46) →
                            (a0 = 94 →
                              (Q true)) ∧
                            (¬ (a0 = 94) →
                              (a0 = 95 →
                                (Q true)) ∧
                              (¬ (a0 = 95) →
                                (a0 = 96 →
                                  (Q true)) ∧
                                (¬ (a0 = 96) →
                                  (a0 = 124 →
                                    (Q true)) ∧
                                  (¬ (a0 = 124) →
                                    (Q (decide (a0 = 126))))))))))))))))))))

def s_spec_l7Unquote (a0 : S) (Q : (S → Prop)) : Prop :=
  (2 ≤ (a0.size : Int) →
    (0 : Int) ≤ 0 ∧
    0 < (a0.size : Int) ∧
    ((bt a0 0) = 34 →
      0 ≤ (IntKind.i64.wrap ((a0.size : Int) - 1)) ∧
      (IntKind.i64.wrap ((a0.size : Int) - 1)) < (a0.size : Int) ∧
      ((bt a0 (IntKind.i64.wrap ((a0.size : Int) - 1))) = 34 →
        (0 : Int) ≤ 1 ∧
        1 ≤ (IntKind.i64.wrap ((a0.size : Int) - 1)) ∧
        (IntKind.i64.wrap ((a0.size : Int) - 1)) ≤ (a0.size : Int) ∧
        (Q (a0.extract ((1 : Int).toNat) (IntKind.i64.wrap ((a0.size : Int) - 1)).toNat))) ∧
      (¬ ((bt a0 (IntKind.i64.wrap ((a0.size : Int) - 1))) = 34) →
        (Q a0))) ∧
    (¬ ((bt a0 0) = 34) →
      (Q a0))) ∧
  (¬ (2 ≤ (a0.size : Int)) →
    (Q a0))

end Go.Ev
end

section
/- Laws of the plain library: what the functions come to is what they compute. First part: small ones. -/
set_option linter.unusedVariables false
namespace Go.Ev

theorem spec_l1In_ok (a0 a1 a2 : Int) : s_spec_l1In a0 a1 a2 (fun r => r = mIn a0 a1 a2) := by
  unfold s_spec_l1In mIn; grind
theorem impl_in_ok (a0 a1 a2 : Int) : s_impl_in a0 a1 a2 (fun r => r = mIn a0 a1 a2) := by
  unfold s_impl_in mIn; grind
theorem spec_l2Blank_ok (a0 : Int) : s_spec_l2Blank a0 (fun r => r = mBlank a0) := by
  unfold s_spec_l2Blank mBlank; grind
theorem impl_isLetterOrDigit_ok (a0 : Int) : s_impl_isLetterOrDigit a0 (fun r => r = mIsLetterOrDigit a0) := by
  unfold s_impl_isLetterOrDigit mIsLetterOrDigit
  (repeat' first | apply And.intro | intro _) <;> grind
theorem spec_l2Token_ok (a0 : Int) : s_spec_l2Token a0 (fun r => r = mToken a0) := by
  unfold s_spec_l2Token mToken mIsLetterOrDigit tokenSigns
  simp only [List.any_cons, List.any_nil]
  (repeat' first | apply And.intro | intro _) <;> simp only [*, decide_true, decide_false, Bool.and_true, Bool.true_or, Bool.or_true, Bool.false_or, Bool.or_false, Bool.and_false, Bool.false_and, Bool.true_and]
theorem impl_hasField_ok (a0 : List Fld) (a1 : S) (h : pHasField a0 a1) : s_impl_hasField a0 a1 (fun r => r = mHasField a0 a1) := ⟨h, rfl⟩
theorem spec_l7Unquote_ok (a0 : S) (h : pL7Unquote a0) : s_spec_l7Unquote a0 (fun r => r = mL7Unquote a0) := by
  unfold pL7Unquote sm at h
  have hw : 2 ≤ (a0.size : Int) → IntKind.i64.wrap ((a0.size : Int) - 1) = (a0.size : Int) - 1 := fun h2 => wrap64 (by omega) (by omega)
  unfold s_spec_l7Unquote mL7Unquote
  refine ⟨fun h2 => ?_, fun h2 => ?_⟩
  · rw [hw h2]
    have ht : ((a0.size : Int) - 1).toNat = a0.size - 1 := by omega
    rw [ht]
    grind
  · grind
theorem impl_Trim_ok (a0 : S) (h : pTrim a0) : s_impl_Trim a0 (fun r => r = mTrim a0) := ⟨⟨h, rfl⟩, rfl⟩
end Go.Ev
end

section
/- Laws of the plain library: numerals. -/
set_option linter.unusedVariables false
namespace Go.Ev
def decLeft (n : Int) : List UInt8 := if n = 0 then [] else Lib.decDigits n.natAbs
theorem td10 (n : Int) : (0 ≤ n ∧ n.tdiv 10 = n / 10 ∧ n.tmod 10 = n % 10) ∨ (n < 0 ∧ n.tdiv 10 = -((-n) / 10) ∧ n.tmod 10 = -((-n) % 10)) := by
  rcases Int.le_total 0 n with h | h
  · exact Or.inl ⟨h, Int.tdiv_eq_ediv_of_nonneg h, Int.tmod_eq_emod_of_nonneg h⟩
  · by_cases h0 : n = 0
    · subst h0; exact Or.inl ⟨by omega, rfl, rfl⟩
    · refine Or.inr ⟨by omega, ?_, ?_⟩
      · rw [← Int.tdiv_eq_ediv_of_nonneg (by omega), Int.neg_tdiv, Int.neg_neg]
      · rw [← Int.tmod_eq_emod_of_nonneg (by omega), Int.neg_tmod, Int.neg_neg]
theorem decLeft_step {n : Int} (h : n ≠ 0) : decLeft n = decLeft (n.tdiv 10) ++ [UInt8.ofNat (48 + n.natAbs % 10)] := by
  have e : (n.tdiv 10).natAbs = n.natAbs / 10 := by rw [Int.natAbs_tdiv]; rfl
  have ht := td10 n
  unfold decLeft
  rw [if_neg h]
  by_cases h1 : n.natAbs < 10
  · have : n.tdiv 10 = 0 := by omega
    rw [if_pos this, Lib.decDigits_one h1, Nat.mod_eq_of_lt h1]; rfl
  · have : n.tdiv 10 ≠ 0 := by omega
    rw [if_neg this, e, Lib.decDigits, dif_neg h1]
theorem digit_neg {n : Int} (h0 : in64 n) (h : n.tmod 10 < 0) : strOf [IntKind.u8.wrap (IntKind.i64.wrap (48 + IntKind.i64.wrap (0 - n.tmod 10)))] = ob [UInt8.ofNat (48 + n.natAbs % 10)] := by
  obtain ⟨ha, hb⟩ := h0
  have ht := td10 n
  have e1 : IntKind.i64.wrap (0 - n.tmod 10) = ((n.natAbs % 10 : Nat) : Int) := by rw [wrap64 (by omega) (by omega)]; omega
  have e2 : IntKind.i64.wrap (48 + ((n.natAbs % 10 : Nat) : Int)) = ((48 + n.natAbs % 10 : Nat) : Int) := by rw [wrap64 (by omega) (by omega)]; omega
  have hlt : n.natAbs % 10 < 10 := Nat.mod_lt _ (by decide)
  rw [e1, e2]
  generalize n.natAbs % 10 = k at hlt
  have : ∀ k : Fin 10, strOf [IntKind.u8.wrap ((48 + k.val : Nat) : Int)] = ob [UInt8.ofNat (48 + k.val)] := by decide +kernel
  exact this ⟨k, hlt⟩
theorem digit_pos {n : Int} (h0 : in64 n) (h : ¬ n.tmod 10 < 0) : strOf [IntKind.u8.wrap (IntKind.i64.wrap (48 + n.tmod 10))] = ob [UInt8.ofNat (48 + n.natAbs % 10)] := by
  obtain ⟨ha, hb⟩ := h0
  have ht := td10 n
  have e2 : IntKind.i64.wrap (48 + n.tmod 10) = ((48 + n.natAbs % 10 : Nat) : Int) := by rw [wrap64 (by omega) (by omega)]; omega
  have hlt : n.natAbs % 10 < 10 := Nat.mod_lt _ (by decide)
  rw [e2]
  generalize n.natAbs % 10 = k at hlt
  have : ∀ k : Fin 10, strOf [IntKind.u8.wrap ((48 + k.val : Nat) : Int)] = ob [UInt8.ofNat (48 + k.val)] := by decide +kernel
  exact this ⟨k, hlt⟩
theorem spec_Dec_ok (a0 : Int) (h : pDec a0) : s_spec_Dec a0 (fun r => r = mDec a0) := by
  obtain ⟨ha, hb⟩ := h
  have hlen := Lib.itoa_length_le a0 ha hb
  refine ⟨fun h0 => by subst h0; exact bs_inj (by decide +kernel), fun h0 => fun L hL => ?_⟩
  refine loopI hL (fun y => in64 y.1 ∧ (0 ≤ a0 → 0 ≤ y.1) ∧ (a0 < 0 → y.1 ≤ 0) ∧ decLeft y.1 ++ bs y.2 = Lib.decDigits a0.natAbs) (fun y => y.1.natAbs) (fun y hI ih => ?_) (a0, lit []) ⟨⟨ha, hb⟩, fun h => h, fun h => by omega, by unfold decLeft; rw [if_neg h0, bs_lit]; simp⟩
  obtain ⟨n, s⟩ := y
  obtain ⟨h64, hp, hn, he⟩ := hI
  simp only at h64 hp hn he ⊢
  have hl : (Lib.decDigits a0.natAbs).length ≤ 21 := by
    unfold Lib.itoa at hlen
    split at hlen
    · simp only [List.length_cons] at hlen; omega
    · rw [show a0.toNat = a0.natAbs by omega] at hlen; exact hlen
  have hs : s.size ≤ 21 := by rw [← bs_len]; rw [← he, List.length_append] at hl; omega
  have ht := td10 n
  have d64 : in64 (n.tdiv 10) := by obtain ⟨a, b⟩ := h64; constructor <;> omega
  have wd : IntKind.i64.wrap (n.tdiv 10) = n.tdiv 10 := wrap64 (by have := d64.1; omega) (by have := d64.2; omega)
  have next : n ≠ 0 → L (n.tdiv 10, ob [UInt8.ofNat (48 + n.natAbs % 10)] ++ s) := fun hne => by
    refine ih _ ⟨d64, fun h => ?_, fun h => ?_, ?_⟩ ?_
    · have := hp h; simp only; omega
    · have := hn h; simp only; omega
    · simp only
      rw [bs_append, bs_ob, ← List.append_assoc, ← decLeft_step hne, he]
    · simp only; omega
  have h1 : (ob [UInt8.ofNat (48 + n.natAbs % 10)]).size = 1 := ob_size _
  have h2 : (lit [45]).size = 1 := rfl
  rw [wd]
  refine ⟨fun hne => ⟨by decide, fun hneg => ?_, fun hneg => ?_⟩, fun heq => ?_⟩
  · rw [digit_neg h64 hneg, h1]; exact ⟨by omega, by decide, next hne⟩
  · rw [digit_pos h64 hneg, h1]; exact ⟨by omega, by decide, next hne⟩
  · have h00 : n = 0 := Classical.byContradiction heq
    subst h00
    have he : bs s = Lib.decDigits a0.natAbs := by simpa [decLeft] using he
    refine ⟨fun hneg => ⟨by rw [h2]; omega, bs_inj ?_⟩, fun hneg => bs_inj ?_⟩
    · rw [bs_append, he, mDec, mItoa, bs_ob, Lib.itoa, if_pos hneg]; rfl
    · rw [he, mDec, mItoa, bs_ob, Lib.itoa, if_neg hneg, show a0.toNat = a0.natAbs by omega]
end Go.Ev
end

section
/- Laws of the plain library: days, texts of dates. -/
set_option linter.unusedVariables false
namespace Go.Ev
theorem leap_iff (y : Int) (h : 0 ≤ y) : mIsLeap y = true ↔ y.tmod 4 = 0 ∧ (y.tmod 100 ≠ 0 ∨ y.tmod 400 = 0) := by
  rw [tmodI h, tmodI h, tmodI h]
  unfold mIsLeap
  simp
theorem leap_no {y : Int} (h : ¬ (mIsLeap y = true)) : false = mIsLeap y := by cases hh : mIsLeap y <;> simp_all
theorem spec_IsLeap_ok (a0 : Int) (h : pIsLeap a0) : s_spec_IsLeap a0 (fun r => r = mIsLeap a0) := by
  have hi := leap_iff a0 h
  refine ⟨by decide, fun h4 => ⟨by decide, fun h1 => (hi.2 ⟨h4, .inl h1⟩).symm, fun h1 => ⟨by decide, ?_⟩⟩, fun h4 => leap_no fun hh => h4 (hi.1 hh).1⟩
  by_cases hq : a0.tmod 400 = 0
  · simp only [hq, decide_true]; exact (hi.2 ⟨h4, .inr hq⟩).symm
  · simp only [hq, decide_false]; exact leap_no fun hh => (hi.1 hh).2.elim h1 hq
theorem impl_IsLeap_ok (a0 : Int) (h : pIsLeap a0) : s_impl_IsLeap a0 (fun r => r = mIsLeap a0) := by
  have hi := leap_iff a0 h
  have h44 : a0.tmod 400 = 0 → a0.tmod 4 = 0 := by
    have hp : 0 ≤ a0 := h
    rw [tmodI hp, tmodI hp]; omega
  have key : (a0.tmod 4 = 0 → ¬ a0.tmod 100 ≠ 0 ∨ True) → (decide (a0.tmod 400 = 0) = true ↔ a0.tmod 400 = 0) := fun _ => decide_eq_true_iff
  refine ⟨by decide, fun h4 => ⟨by decide, fun h1 => (hi.2 ⟨h4, .inl h1⟩).symm, fun h1 => ⟨by decide, ?_⟩⟩, fun h4 => ⟨by decide, ?_⟩⟩
  · by_cases hq : a0.tmod 400 = 0
    · simp only [hq, decide_true]; exact (hi.2 ⟨h4, .inr hq⟩).symm
    · simp only [hq, decide_false]; exact leap_no fun hh => (hi.1 hh).2.elim h1 hq
  · have hq : ¬ a0.tmod 400 = 0 := fun hq => h4 (h44 hq)
    simp only [hq, decide_false]; exact leap_no fun hh => h4 (hi.1 hh).1
theorem spec_l4Months_ok (a0 : Int) (h : pL4Months a0) : s_spec_l4Months a0 (fun r => r = mL4Months a0) :=
  ⟨h, fun hl => by unfold mL4Months; rw [if_pos hl], fun hl => by unfold mL4Months; rw [if_neg hl]⟩
theorem impl_yearDays_ok (a0 : Int) (h : pYearDays a0) : s_impl_yearDays a0 (fun r => r = mYearDays a0) :=
  ⟨h, fun hl => by unfold mYearDays; rw [if_pos hl], fun hl => by unfold mYearDays; rw [if_neg hl]⟩
theorem monthDays_other : ∀ (b : Bool) (m : Fin 12), (m.val ≠ 1 → rx (monthsB b) ((m.val : Nat) : Int) = rx ([31, 28, 31, 30, 31, 30, 31, 31, 30, 31, 30, 31] : List Int) ((m.val : Nat) : Int)) ∧ rx (monthsB true) 1 = 29 ∧ rx (monthsB false) ((m.val : Nat) : Int) = rx ([31, 28, 31, 30, 31, 30, 31, 31, 30, 31, 30, 31] : List Int) ((m.val : Nat) : Int) := by decide +kernel
theorem impl_monthDays_ok (a0 a1 : Int) (h : pMonthDays a0 a1) : s_impl_monthDays a0 a1 (fun r => r = mMonthDays a0 a1) := by
  obtain ⟨h0, h1, h2⟩ := h
  have w : IntKind.i64.wrap (a1 - 1) = a1 - 1 := wrap64 (by omega) (by omega)
  obtain ⟨t1, t2, t3⟩ := monthDays_other (mIsLeap a0) ⟨(a1 - 1).toNat, by omega⟩
  simp only at t1 t3
  rw [show (((a1 - 1).toNat : Nat) : Int) = a1 - 1 by omega] at t1 t3
  have e : mMonthDays a0 a1 = rx (monthsB (mIsLeap a0)) (a1 - 1) := rfl
  unfold s_impl_monthDays
  rw [w, e]
  refine ⟨fun h2' => ⟨h0, fun hl => ?_, fun hl => ⟨by omega, by simp; omega, ?_⟩⟩, fun h2' => ⟨by omega, by simp; omega, ?_⟩⟩
  · rw [hl, h2']; exact t2.symm
  · rw [show mIsLeap a0 = false by cases hh : mIsLeap a0 <;> simp_all]; exact t3.symm
  · exact (t1 (by omega)).symm
theorem in_iff {n lo hi : Int} : mIn n lo hi = true ↔ lo ≤ n ∧ n ≤ hi := by unfold mIn; simp
theorem daysOf_no {y m d : Int} (h : ¬ (mIn y 1970 2037 = true ∧ mIn m 1 12 = true ∧ mIn d 1 (mMonthDays y m) = true)) : -1 = mDaysOf y m d := by
  unfold mDaysOf
  rw [if_neg]
  simp only [Bool.and_eq_true]
  exact fun hh => h ⟨hh.1.1, hh.1.2, hh.2⟩
theorem daysOf_yes {y m d : Int} (h1 : mIn y 1970 2037 = true) (h2 : mIn m 1 12 = true) (h3 : mIn d 1 (mMonthDays y m) = true) : d - 1 + daysY (y - 1970).toNat + daysM y (m - 1).toNat = mDaysOf y m d := by
  unfold mDaysOf
  rw [if_pos (by simp only [Bool.and_eq_true]; exact ⟨⟨h1, h2⟩, h3⟩)]
theorem impl_DaysOf_ok (a0 a1 a2 : Int) (h0 : pDaysOf a0 a1 a2) : s_impl_DaysOf a0 a1 a2 (fun r => r = mDaysOf a0 a1 a2) := by
  refine ⟨trivial, fun hn => daysOf_no fun hh => hn hh.1, fun hy => ⟨trivial, fun hn => daysOf_no fun hh => hn hh.2.1, fun hm => ?_⟩⟩
  have hy := Classical.not_not.1 hy
  have hm := Classical.not_not.1 hm
  have iy := in_iff.1 hy
  have im := in_iff.1 hm
  refine ⟨⟨by omega, im.1, im.2⟩, trivial, fun hn => daysOf_no fun hh => hn hh.2.2, fun hd => ?_⟩
  have hd := Classical.not_not.1 hd
  have id := in_iff.1 hd
  have hr := monthDays_range a0 im.1 im.2
  rw [← daysOf_yes hy hm hd]
  have w0 : IntKind.i64.wrap (a2 - 1) = a2 - 1 := wrap64 (by omega) (by omega)
  rw [w0]
  intro L hL
  refine loopI hL (fun z => ∃ i : Nat, (i : Int) ≤ a0 - 1970 ∧ z.2 = 1970 + (i : Int) ∧ z.1 = a2 - 1 + daysY i) (fun z => (a0 - z.2).toNat) (fun z hI ih => ?_) (a2 - 1, 1970) ⟨0, by omega, by simp, by simp [daysY]⟩
  obtain ⟨n, y⟩ := z
  obtain ⟨i, hi, hz2, hz1⟩ := hI
  simp only at hz1 hz2 ⊢
  subst hz1 hz2
  have ry := daysY_range i
  have ryd := yearDays_range (1970 + (i : Int))
  refine ⟨fun hlt => ⟨show 0 ≤ 1970 + (i : Int) by omega, ?_⟩, fun hge => ?_⟩
  · have w1 : IntKind.i64.wrap (a2 - 1 + daysY i + mYearDays (1970 + (i : Int))) = a2 - 1 + daysY (i + 1) := by rw [wrap64 (by omega) (by omega)]; simp only [daysY]; omega
    have w2 : IntKind.i64.wrap (1970 + (i : Int) + 1) = 1970 + ((i + 1 : Nat) : Int) := by rw [wrap64 (by omega) (by omega)]; omega
    rw [w1, w2]
    exact ih _ ⟨i + 1, by omega, rfl, rfl⟩ (by simp only; omega)
  · have hie : (a0 - 1970).toNat = i := by omega
    rw [hie]
    intro L2 hL2
    refine loopI hL2 (fun z => ∃ k : Nat, (k : Int) ≤ a1 - 1 ∧ z.2 = 1 + (k : Int) ∧ z.1 = a2 - 1 + daysY i + daysM a0 k) (fun z => (a1 - z.2).toNat) (fun z hK ik => ?_) (a2 - 1 + daysY i, 1) ⟨0, by omega, by simp, by simp [daysM]⟩
    obtain ⟨n, m⟩ := z
    obtain ⟨k, hk, hz2, hz1⟩ := hK
    simp only at hz1 hz2 ⊢
    subst hz1 hz2
    have rm := daysM_range a0 k (by omega)
    refine ⟨fun hlt => ⟨⟨by omega, by omega, by omega⟩, ?_⟩, fun hge => ?_⟩
    · have rmd := monthDays_range a0 (m := (k : Int) + 1) (by omega) (by omega)
      have w1 : IntKind.i64.wrap (a2 - 1 + daysY i + daysM a0 k + mMonthDays a0 (1 + (k : Int))) = a2 - 1 + daysY i + daysM a0 (k + 1) := by
        rw [show 1 + (k : Int) = (k : Int) + 1 by omega, wrap64 (by omega) (by omega)]; simp only [daysM]; omega
      have w2 : IntKind.i64.wrap (1 + (k : Int) + 1) = 1 + ((k + 1 : Nat) : Int) := by rw [wrap64 (by omega) (by omega)]; omega
      rw [w1, w2]
      exact ik _ ⟨k + 1, by omega, rfl, rfl⟩ (by simp only; omega)
    · have hke : (a1 - 1).toNat = k := by omega
      rw [hke]
theorem spec_DaysOf_ok (a0 a1 a2 : Int) (h0 : pDaysOf a0 a1 a2) : s_spec_DaysOf a0 a1 a2 (fun r => r = mDaysOf a0 a1 a2) := by
  refine ⟨trivial, fun hn => daysOf_no fun hh => hn hh.1, fun hy => ⟨trivial, fun hn => daysOf_no fun hh => hn hh.2.1, fun hm => ?_⟩⟩
  have hy := Classical.not_not.1 hy
  have hm := Classical.not_not.1 hm
  have iy := in_iff.1 hy
  have im := in_iff.1 hm
  have wm : IntKind.i64.wrap (a1 - 1) = a1 - 1 := wrap64 (by omega) (by omega)
  rw [wm]
  have ml := months_len a0
  refine ⟨show 0 ≤ a0 by omega, by omega, by omega, trivial, fun hn => daysOf_no fun hh => hn hh.2.2, fun hd => ?_⟩
  have hd : mIn a2 1 (mMonthDays a0 a1) = true := Classical.not_not.1 hd
  have id := in_iff.1 hd
  have hr := monthDays_range a0 im.1 im.2
  rw [← daysOf_yes hy hm hd]
  have w0 : IntKind.i64.wrap (a2 - 1) = a2 - 1 := wrap64 (by omega) (by omega)
  rw [w0]
  intro L hL
  refine loopI hL (fun z => ∃ i : Nat, (i : Int) ≤ a0 - 1970 ∧ z.2 = 1970 + (i : Int) ∧ z.1 = a2 - 1 + daysY i) (fun z => (a0 - z.2).toNat) (fun z hI ih => ?_) (a2 - 1, 1970) ⟨0, by omega, by simp, by simp [daysY]⟩
  obtain ⟨n, y⟩ := z
  obtain ⟨i, hi, hz2, hz1⟩ := hI
  simp only at hz1 hz2 ⊢
  subst hz1 hz2
  have ry := daysY_range i
  have ryd := yearDays_range (1970 + (i : Int))
  have w2 : IntKind.i64.wrap (1970 + (i : Int) + 1) = 1970 + ((i + 1 : Nat) : Int) ∨ ¬ (1970 + (i : Int) < a0) := by
    by_cases hlt : 1970 + (i : Int) < a0
    · left; rw [wrap64 (by omega) (by omega)]; omega
    · exact .inr hlt
  refine ⟨fun hlt => ⟨show 0 ≤ 1970 + (i : Int) by omega, fun hl => ?_, fun hl => ?_⟩, fun hge => ?_⟩
  · have w1 : IntKind.i64.wrap (IntKind.i64.wrap (a2 - 1 + daysY i + 365) + 1) = a2 - 1 + daysY (i + 1) := by
      have e : mYearDays (1970 + (i : Int)) = 366 := by unfold mYearDays; rw [if_pos hl]
      rw [wrap64 (n := a2 - 1 + daysY i + 365) (by omega) (by omega), wrap64 (by omega) (by omega)]; simp only [daysY, e]; omega
    rw [w1, w2.resolve_right (fun h => h hlt)]
    exact ih _ ⟨i + 1, by omega, rfl, rfl⟩ (by simp only; omega)
  · have w1 : IntKind.i64.wrap (a2 - 1 + daysY i + 365) = a2 - 1 + daysY (i + 1) := by
      have e : mYearDays (1970 + (i : Int)) = 365 := by unfold mYearDays; rw [if_neg hl]
      rw [wrap64 (by omega) (by omega)]; simp only [daysY, e]; omega
    rw [w1, w2.resolve_right (fun h => h hlt)]
    exact ih _ ⟨i + 1, by omega, rfl, rfl⟩ (by simp only; omega)
  · have hie : (a0 - 1970).toNat = i := by omega
    rw [hie]
    intro L2 hL2
    refine loopI hL2 (fun z => ∃ k : Nat, (k : Int) ≤ a1 - 1 ∧ z.2 = 1 + (k : Int) ∧ z.1 = a2 - 1 + daysY i + daysM a0 k) (fun z => (a1 - z.2).toNat) (fun z hK ik => ?_) (a2 - 1 + daysY i, 1) ⟨0, by omega, by simp, by simp [daysM]⟩
    obtain ⟨n, m⟩ := z
    obtain ⟨k, hk, hz2, hz1⟩ := hK
    simp only at hz1 hz2 ⊢
    subst hz1 hz2
    have rm := daysM_range a0 k (by omega)
    refine ⟨fun hlt => ?_, fun hge => ?_⟩
    · have rmd := monthDays_range a0 (m := (k : Int) + 1) (by omega) (by omega)
      have wk : IntKind.i64.wrap (1 + (k : Int) - 1) = (k : Int) := by rw [wrap64 (by omega) (by omega)]; omega
      rw [wk]
      have ek : rx (mL4Months a0) (k : Int) = mMonthDays a0 ((k : Int) + 1) := by unfold mMonthDays; rw [show (k : Int) + 1 - 1 = (k : Int) by omega]
      rw [ek]
      refine ⟨show 0 ≤ a0 by omega, by omega, by omega, ?_⟩
      have w1 : IntKind.i64.wrap (a2 - 1 + daysY i + daysM a0 k + mMonthDays a0 ((k : Int) + 1)) = a2 - 1 + daysY i + daysM a0 (k + 1) := by
        rw [wrap64 (by omega) (by omega)]; simp only [daysM]; omega
      have w3 : IntKind.i64.wrap (1 + (k : Int) + 1) = 1 + ((k + 1 : Nat) : Int) := by rw [wrap64 (by omega) (by omega)]; omega
      rw [w1, w3]
      exact ik _ ⟨k + 1, by omega, rfl, rfl⟩ (by simp only; omega)
    · have hke : (a1 - 1).toNat = k := by omega
      rw [hke]
theorem impl_months_ok : s_impl_months (fun r => r = mMonths ()) := rfl
theorem two_tab : ∀ k : Fin 100, (mItoa (IntKind.i64.wrap (100 + ((k.val : Nat) : Int)))).size = 3 ∧ (mItoa (IntKind.i64.wrap (100 + ((k.val : Nat) : Int)))).extract 1 (mItoa (IntKind.i64.wrap (100 + ((k.val : Nat) : Int)))).size = mTwo ((k.val : Nat) : Int) ∧
    strOf [IntKind.u8.wrap (IntKind.i64.wrap (48 + (IntKind.i64.wrap (((k.val : Nat) : Int).tdiv 10)).tmod 10)), IntKind.u8.wrap (IntKind.i64.wrap (48 + ((k.val : Nat) : Int).tmod 10))] = mTwo ((k.val : Nat) : Int) := by decide +kernel
theorem impl_two_ok (a0 : Int) (h : pTwo a0) : s_impl_two a0 (fun r => r = mTwo a0) := by
  obtain ⟨h0, h1⟩ := h
  obtain ⟨t1, t2, _⟩ := two_tab ⟨a0.toNat, by omega⟩
  simp only at t1 t2
  rw [show ((a0.toNat : Nat) : Int) = a0 by omega] at t1 t2
  refine ⟨?_, by omega, by rw [t1]; decide, t2⟩
  rw [wrap64 (by omega) (by omega)]
  exact ⟨by omega, by omega⟩
theorem spec_l4Two_ok (a0 : Int) (h : pL4Two a0) : s_spec_l4Two a0 (fun r => r = mL4Two a0) := by
  obtain ⟨h0, h1⟩ := h
  obtain ⟨_, _, t3⟩ := two_tab ⟨a0.toNat, by omega⟩
  simp only at t3
  rw [show ((a0.toNat : Nat) : Int) = a0 by omega] at t3
  exact ⟨by decide, by decide, by decide, t3⟩
end Go.Ev
end

section
/- Laws of the plain library: texts of moments. -/
set_option linter.unusedVariables false
namespace Go.Ev
theorem week_tab : ∀ i : Fin 7, (rx weekL ((i.val : Nat) : Int)).size = 3 := by decide +kernel
theorem month_tab : ∀ i : Fin 12, (rx monthL ((i.val : Nat) : Int)).size = 3 := by decide +kernel
theorem week_size {i : Int} (h0 : 0 ≤ i) (h1 : i < 7) : (rx weekL i).size = 3 := by
  have := week_tab ⟨i.toNat, by omega⟩
  simp only at this
  rwa [show ((i.toNat : Nat) : Int) = i by omega] at this
theorem month_size {i : Int} (h0 : 0 ≤ i) (h1 : i < 12) : (rx monthL i).size = 3 := by
  have := month_tab ⟨i.toNat, by omega⟩
  simp only at this
  rwa [show ((i.toNat : Nat) : Int) = i by omega] at this
theorem two_size (n : Int) : (mTwo n).size = 2 := rfl
theorem decS_le (n : Int) (h : pDec n) : (mDec n).size ≤ 21 := by
  unfold mDec mItoa
  rw [ob_size]
  exact Lib.itoa_length_le n h.1 h.2
theorem lit_size (l : List Nat) : (lit l).size = l.length := by unfold lit; simp [ByteArray.size]
theorem showDate_no {a : Int} (h : ¬ (0 ≤ a ∧ a ≤ 2000000000)) : lit [] = mShowDate a := by
  unfold mShowDate
  rw [dif_neg fun hh => h ⟨hh.1, hh.2.1⟩]
theorem impl_ShowDate_ok (a0 : Int) (h : pShowDate a0) : s_impl_ShowDate a0 (fun r => r = mShowDate a0) := by
  refine ⟨trivial, fun hn => showDate_no fun hh => hn (in_iff.2 hh), fun hy => ?_⟩
  have hr := in_iff.1 (Classical.not_not.1 hy)
  have e1 : IntKind.i64.wrap (a0.tdiv 86400) = a0 / 86400 := by rw [tdivI hr.1, wrap64 (by omega) (by omega)]
  have e2 : (a0 / 86400).tmod 7 = a0 / 86400 % 7 := tmodI (by omega)
  have hW := week_size (i := a0 / 86400 % 7) (by omega) (by omega)
  have e3 : IntKind.i64.wrap ((a0.tmod 86400).tdiv 3600) = a0 / 3600 % 24 := by rw [tmodI hr.1, tdivI (by omega), wrap64 (by omega) (by omega)]; omega
  have e4 : (IntKind.i64.wrap ((a0.tmod 86400).tdiv 60)).tmod 60 = a0 / 60 % 60 := by rw [tmodI hr.1, tdivI (by omega), wrap64 (by omega) (by omega), tmodI (by omega)]; omega
  have e5 : (a0.tmod 86400).tmod 60 = a0 % 60 := by rw [tmodI hr.1, tmodI (by omega)]; omega
  simp only [e1, e2, e3, e4, e5]
  refine ⟨by decide, by decide, by decide, by omega, by show _ < (7 : Int); omega, ?_⟩
  generalize hD : a0 / 86400 = D at *
  have hD2 : D < 23376 := by omega
  intro L hL
  refine loopI hL (fun z => ∃ k : Nat, z.2 = 1970 + (k : Int) ∧ z.1 = D - daysY k ∧ 0 ≤ z.1 ∧ k ≤ 64) (fun z => (z.1).toNat) (fun z hI ih => ?_) (D, 1970) ⟨0, by simp, by simp [daysY], by omega, by omega⟩
  obtain ⟨n, y⟩ := z
  obtain ⟨k, hz2, hz1, hn, hk⟩ := hI
  simp only at hz1 hz2 hn ⊢
  subst hz1 hz2
  have rk := daysY_range k
  have ryd := yearDays_range (1970 + (k : Int))
  refine ⟨show 0 ≤ 1970 + (k : Int) by omega, fun hle => ⟨show 0 ≤ 1970 + (k : Int) by omega, ?_⟩, fun hgt => ?_⟩
  · have hk1 : k + 1 ≤ 64 := by
      apply Classical.byContradiction
      intro hh
      have : k = 64 := by omega
      subst this
      rw [daysY_67] at hn
      omega
    have w1 : IntKind.i64.wrap (D - daysY k - mYearDays (1970 + (k : Int))) = D - daysY (k + 1) := by rw [wrap64 (by omega) (by omega)]; simp only [daysY]; omega
    have w2 : IntKind.i64.wrap (1970 + (k : Int) + 1) = 1970 + ((k + 1 : Nat) : Int) := by rw [wrap64 (by omega) (by omega)]; omega
    rw [w1, w2]
    exact ih _ ⟨k + 1, rfl, rfl, by simp only [daysY]; omega, hk1⟩ (by simp only [daysY]; omega)
  · intro L2 hL2
    refine loopI hL2 (fun z => ∃ j : Nat, j < 12 ∧ z.2 = 1 + (j : Int) ∧ z.1 = D - daysY k - daysM (1970 + (k : Int)) j ∧ 0 ≤ z.1) (fun z => (z.1).toNat) (fun z hI ih => ?_) (D - daysY k, 1) ⟨0, by omega, by simp, by simp [daysM], by simp only; omega⟩
    obtain ⟨n, m⟩ := z
    obtain ⟨j, hj, hz2, hz1, hn2⟩ := hI
    simp only at hz1 hz2 hn2 ⊢
    subst hz1 hz2
    have rmd := monthDays_range (1970 + (k : Int)) (m := (j : Int) + 1) (by omega) (by omega)
    have rdm := daysM_range (1970 + (k : Int)) j (by omega)
    have ej : (1 : Int) + (j : Int) = (j : Int) + 1 := by omega
    rw [ej]
    refine ⟨⟨by omega, by omega, by omega⟩, fun hle => ⟨⟨by omega, by omega, by omega⟩, ?_⟩, fun hgt2 => ?_⟩
    · have hj1 : j + 1 < 12 := by
        apply Classical.byContradiction
        intro hh
        have : j = 11 := by omega
        subst this
        have h12 : daysM (1970 + (k : Int)) 12 = daysM (1970 + (k : Int)) 11 + mMonthDays (1970 + (k : Int)) (((11 : Nat) : Int) + 1) := rfl
        rw [daysM_year] at h12
        omega
      have w1 : IntKind.i64.wrap (D - daysY k - daysM (1970 + (k : Int)) j - mMonthDays (1970 + (k : Int)) ((j : Int) + 1)) = D - daysY k - daysM (1970 + (k : Int)) (j + 1) := by rw [wrap64 (by omega) (by omega)]; simp only [daysM]; omega
      have w2 : IntKind.i64.wrap ((j : Int) + 1 + 1) = 1 + ((j + 1 : Nat) : Int) := by rw [wrap64 (by omega) (by omega)]; omega
      rw [w1, w2]
      exact ih _ ⟨j + 1, hj1, rfl, rfl, by simp only [daysM]; omega⟩ (by simp only [daysM]; omega)
    · have civ : civil D k j := ⟨by omega, hj, by omega, by simp only [daysM]; omega⟩
      have w1 : IntKind.i64.wrap (D - daysY k - daysM (1970 + (k : Int)) j + 1) = D - daysY k - daysM (1970 + (k : Int)) j + 1 := wrap64 (by omega) (by omega)
      have w2 : IntKind.i64.wrap ((j : Int) + 1 - 1) = (j : Int) := by rw [wrap64 (by omega) (by omega)]; omega
      have hy : pDec (1970 + (k : Int)) := ⟨by omega, by omega⟩
      have hdec := decS_le _ hy
      have hdec2 : (mItoa (1970 + (k : Int))).size ≤ 21 := hdec
      have hM := month_size (i := (j : Int)) (by omega) (by omega)
      simp only [w1, w2]
      repeat' apply And.intro
      all_goals first
        | (simp only [size_append, two_size, hW, hM, lit_size, List.length_cons, List.length_nil]; omega)
        | exact hy
        | exact ⟨by omega, by omega⟩
        | decide
        | (show _ < (12 : Int); omega)
        | omega
        | exact trivial
        | skip
      subst hD
      rw [showDate_at hr.1 hr.2 civ]
      rfl
end Go.Ev
end

section
/- Laws of the plain library: texts of moments, as spec makes them. -/
set_option linter.unusedVariables false
namespace Go.Ev
theorem daysOf_year {k : Nat} (h : k ≤ 67) : mDaysOf (1970 + (k : Int)) 1 1 = daysY k := by
  have hr := monthDays_range (1970 + (k : Int)) (m := 1) (by omega) (by omega)
  rw [← daysOf_yes (in_iff.2 ⟨by omega, by omega⟩) (in_iff.2 ⟨by omega, by omega⟩) (in_iff.2 ⟨by omega, by omega⟩)]
  rw [show (1970 + (k : Int) - 1970).toNat = k by omega, show ((1 : Int) - 1).toNat = 0 by omega]
  simp [daysM]
theorem daysOf_month {k j : Nat} (h : k ≤ 67) (hj : j < 12) : mDaysOf (1970 + (k : Int)) (1 + (j : Int)) 1 = daysY k + daysM (1970 + (k : Int)) j := by
  have hr := monthDays_range (1970 + (k : Int)) (m := 1 + (j : Int)) (by omega) (by omega)
  rw [← daysOf_yes (in_iff.2 ⟨by omega, by omega⟩) (in_iff.2 ⟨by omega, by omega⟩) (in_iff.2 ⟨by omega, by omega⟩)]
  rw [show (1970 + (k : Int) - 1970).toNat = k by omega, show ((1 : Int) + (j : Int) - 1).toNat = j by omega]
  omega
theorem spec_ShowDate_ok (a0 : Int) (h : pShowDate a0) : s_spec_ShowDate a0 (fun r => r = mShowDate a0) := by
  refine ⟨trivial, fun hn => showDate_no fun hh => hn (in_iff.2 hh), fun hy => ?_⟩
  have hr := in_iff.1 (Classical.not_not.1 hy)
  have e1 : IntKind.i64.wrap (a0.tdiv 86400) = a0 / 86400 := by rw [tdivI hr.1, wrap64 (by omega) (by omega)]
  have e2 : (a0 / 86400).tmod 7 = a0 / 86400 % 7 := tmodI (by omega)
  have hW := week_size (i := a0 / 86400 % 7) (by omega) (by omega)
  have e3 : (IntKind.i64.wrap (a0.tdiv 3600)).tmod 24 = a0 / 3600 % 24 := by rw [tdivI hr.1, wrap64 (by omega) (by omega), tmodI (by omega)]
  have e4 : (IntKind.i64.wrap (a0.tdiv 60)).tmod 60 = a0 / 60 % 60 := by rw [tdivI hr.1, wrap64 (by omega) (by omega), tmodI (by omega)]
  have e5 : a0.tmod 60 = a0 % 60 := tmodI hr.1
  simp only [e1, e2, e3, e4, e5]
  refine ⟨by decide, ?_⟩
  generalize hD : a0 / 86400 = D at *
  have hD2 : D < 23376 := by omega
  intro L hL
  refine loopI hL (fun y => ∃ k : Nat, y = 1970 + (k : Int) ∧ daysY k ≤ D ∧ k ≤ 64) (fun y => (2037 - y).toNat) (fun y hI ih => ?_) 1970 ⟨0, by simp, by simp [daysY]; omega, by omega⟩
  obtain ⟨k, rfl, hk0, hk⟩ := hI
  have rk := daysY_range k
  have ryd := yearDays_range (1970 + (k : Int))
  have wy : IntKind.i64.wrap (1970 + (k : Int) + 1) = 1970 + ((k + 1 : Nat) : Int) := by rw [wrap64 (by omega) (by omega)]; omega
  rw [wy, daysOf_year (by omega)]
  refine ⟨fun hlt => ⟨trivial, fun hle => ?_, fun hgt => ?_⟩, fun hge => absurd (show 1970 + (k : Int) < 2037 by omega) hge⟩
  · have hk1 : k + 1 ≤ 64 := by
      apply Classical.byContradiction
      intro hh
      have : k = 64 := by omega
      subst this
      have := daysY_mono (show 64 ≤ 64 + 1 by omega)
      rw [daysY_67] at this
      omega
    exact ih _ ⟨k + 1, rfl, hle, hk1⟩ (by omega)
  · intro L2 hL2
    refine loopI hL2 (fun m => ∃ j : Nat, j < 12 ∧ m = 1 + (j : Int) ∧ daysY k + daysM (1970 + (k : Int)) j ≤ D) (fun m => (12 - m).toNat) (fun m hI ih => ?_) 1 ⟨0, by omega, by simp, by simp [daysM]; omega⟩
    obtain ⟨j, hj, rfl, hj0⟩ := hI
    have rdm := daysM_range (1970 + (k : Int)) j (by omega)
    have wm : IntKind.i64.wrap (1 + (j : Int) + 1) = 1 + ((j + 1 : Nat) : Int) := by rw [wrap64 (by omega) (by omega)]; omega
    have dAt := daysOf_month (k := k) (by omega) hj
    have hy : pDec (1970 + (k : Int)) := ⟨by omega, by omega⟩
    have hdec := decS_le _ hy
    have hM := month_size (i := (j : Int)) (by omega) (by omega)
    have hup : D - (daysY k + daysM (1970 + (k : Int)) j) < 366 := by
      have : D < daysY k + mYearDays (1970 + (k : Int)) := by simp only [daysY] at hgt; omega
      omega
    rw [wm]
    refine ⟨fun hlt2 => ⟨trivial, fun hle => ?_, fun hgt2 => ?_⟩, fun hge2 => ?_⟩
    · rw [daysOf_month (by omega) (by omega)] at hle
      exact ih _ ⟨j + 1, by omega, rfl, hle⟩ (by omega)
    · rw [daysOf_month (by omega) (by omega)] at hgt2
      have civ : civil D k j := ⟨by omega, hj, by omega, by omega⟩
      have rmd := monthDays_range (1970 + (k : Int)) (m := (j : Int) + 1) (by omega) (by omega)
      have hup2 : D - (daysY k + daysM (1970 + (k : Int)) j) < 31 := by simp only [daysM] at hgt2; omega
      have w1 : IntKind.i64.wrap (IntKind.i64.wrap (D - mDaysOf (1970 + (k : Int)) (1 + (j : Int)) 1) + 1) = D - daysY k - daysM (1970 + (k : Int)) j + 1 := by rw [dAt, wrap64 (n := D - (daysY k + daysM (1970 + (k : Int)) j)) (by omega) (by omega), wrap64 (by omega) (by omega)]; omega
      have w2 : IntKind.i64.wrap (1 + (j : Int) - 1) = (j : Int) := by rw [wrap64 (by omega) (by omega)]; omega
      simp only [w1, w2]
      repeat' apply And.intro
      all_goals first
        | (simp only [size_append, mL4Two, two_size, hW, hM, lit_size, List.length_cons, List.length_nil]; omega)
        | exact hy
        | exact ⟨by omega, by omega⟩
        | decide
        | (show _ < (7 : Int); omega)
        | (show _ < (12 : Int); omega)
        | omega
        | exact trivial
        | skip
      subst hD
      rw [showDate_at hr.1 hr.2 civ]
      rfl
    · have hje : j = 11 := by omega
      have civ : civil D k j := ⟨by omega, hj, by omega, by
        subst hje
        show D < daysY k + daysM (1970 + (k : Int)) 12
        rw [daysM_year]
        simp only [daysY] at hgt
        omega⟩
      have rmd := monthDays_range (1970 + (k : Int)) (m := (j : Int) + 1) (by omega) (by omega)
      have hup2 : D - (daysY k + daysM (1970 + (k : Int)) j) < 31 := by
        have := civ.2.2.2
        simp only [daysM] at this; omega
      have w1 : IntKind.i64.wrap (IntKind.i64.wrap (D - mDaysOf (1970 + (k : Int)) (1 + (j : Int)) 1) + 1) = D - daysY k - daysM (1970 + (k : Int)) j + 1 := by rw [dAt, wrap64 (n := D - (daysY k + daysM (1970 + (k : Int)) j)) (by omega) (by omega), wrap64 (by omega) (by omega)]; omega
      have w2 : IntKind.i64.wrap (1 + (j : Int) - 1) = (j : Int) := by rw [wrap64 (by omega) (by omega)]; omega
      simp only [w1, w2]
      repeat' apply And.intro
      all_goals first
        | (simp only [size_append, mL4Two, two_size, hW, hM, lit_size, List.length_cons, List.length_nil]; omega)
        | exact hy
        | exact ⟨by omega, by omega⟩
        | decide
        | (show _ < (7 : Int); omega)
        | (show _ < (12 : Int); omega)
        | omega
        | exact trivial
        | skip
      subst hD
      rw [showDate_at hr.1 hr.2 civ]
      rfl
end Go.Ev
end

section
/- Laws of the plain library, second part: searches. -/
set_option linter.unusedVariables false
namespace Go.Ev

def scanS {α : Type} [Dft α] (xs : List α) (P C : α → Prop) (Qh : Int → Prop) (Qe : Prop) : Prop :=
  ∀ L : Int → Prop, (∀ y : Int, ((y < (xs.length : Int) → 0 ≤ y ∧ y < (xs.length : Int) ∧ P (rx xs y) ∧ ((C (rx xs y) → Qh y) ∧ (¬ C (rx xs y) → L (IntKind.i64.wrap (y + 1))))) ∧
    (¬ y < (xs.length : Int) → Qe)) → L y) → L 0
theorem scanS_ok {α : Type} [Dft α] {xs : List α} {P C : α → Prop} {Qh : Int → Prop} {Qe : Prop} (hlen : xs.length ≤ maxLen) (hP : ∀ x ∈ xs, P x)
    (hh : ∀ (i : Nat) (h : i < xs.length), C xs[i] → (∀ (j : Nat) (hj : j < i), ¬ C (xs[j]'(by omega))) → Qh (i : Int)) (he : (∀ x ∈ xs, ¬ C x) → Qe) : scanS xs P C Qh Qe := by
  intro L hL
  simp only [maxLen] at hlen
  refine loopN hL xs.length (by omega) (fun i => ∀ (j : Nat) (hj : j < i) (h : j < xs.length), ¬ C xs[j]) (fun i hi hI hn => ?_) (fun j hj => by omega)
  refine ⟨fun hlt => ?_, fun hge => ?_⟩
  · have hlt : i < xs.length := by omega
    rw [rx_get xs hlt]
    refine ⟨by omega, by omega, hP _ (List.getElem_mem hlt), fun hc => hh i hlt hc fun j hj => hI j hj (by omega), fun hc => hn hlt fun j hj h => ?_⟩
    by_cases e : j = i
    · subst e; exact hc
    · exact hI j (by omega) h
  · refine he fun x hx => ?_
    obtain ⟨j, hj, rfl⟩ := List.mem_iff_getElem.1 hx
    exact hI j (by omega) hj
def scanT {α : Type} [Dft α] (xs : List α) (C : α → Prop) (Qh : Int → Prop) (Qe : Prop) : Prop :=
  ∀ L : Int → Prop, (∀ y : Int, ((y < (xs.length : Int) → 0 ≤ y ∧ y < (xs.length : Int) ∧ ((C (rx xs y) → Qh y) ∧ (¬ C (rx xs y) → L (IntKind.i64.wrap (y + 1))))) ∧
    (¬ y < (xs.length : Int) → Qe)) → L y) → L 0
theorem scanT_ok {α : Type} [Dft α] {xs : List α} {C : α → Prop} {Qh : Int → Prop} {Qe : Prop} (hlen : xs.length ≤ maxLen)
    (hh : ∀ (i : Nat) (h : i < xs.length), C xs[i] → (∀ (j : Nat) (hj : j < i), ¬ C (xs[j]'(by omega))) → Qh (i : Int)) (he : (∀ x ∈ xs, ¬ C x) → Qe) : scanT xs C Qh Qe := by
  have h : scanS xs (fun _ => True) C Qh Qe := scanS_ok hlen (fun _ _ => trivial) hh he
  intro L hL
  exact h L fun y hy => hL y ⟨fun h1 => ⟨(hy.1 h1).1, (hy.1 h1).2.1, (hy.1 h1).2.2.2⟩, hy.2⟩
theorem md_len' {α : Type} [Cz α] {xs : List α} (h : md xs) : xs.length ≤ 1048576 := by
  have := cz_len xs
  unfold md at h
  omega

theorem idxS_ok {α : Type} [Dft α] {xs : List α} {P : α → Prop} {F : α → Bool} (hlen : xs.length ≤ maxLen) (hP : ∀ x ∈ xs, P x) :
    scanS xs P (fun x => F x = true) (fun i => i = idxI F xs) (-1 = idxI F xs) :=
  scanS_ok hlen hP (fun i h hc hb => (idxI_at h hc fun j hj => by have := hb j hj; simpa using this).symm)
    (fun h => (idxI_none fun j hj => by have := h _ (List.getElem_mem hj); simpa using this).symm)
theorem idxI_nonneg {α : Type} {F : α → Bool} {xs : List α} : decide (0 ≤ idxI F xs) = xs.any F := by
  have h := idxI_neg (p := F) (xs := xs)
  cases hx : xs.any F with
  | true =>
    rw [hx] at h
    have : ¬ idxI F xs < 0 := by rw [h]; simp
    exact decide_eq_true (by omega)
  | false =>
    have := h.2 hx
    exact decide_eq_false (by omega)
theorem slices_Index_string_ok (a0 : List S) (a1 : S) (h : pIndex_string a0 a1) : s_slices_Index_string a0 a1 (fun r => r = mIndex_string a0 a1) := by
  refine scanT_ok (C := fun x => a1 = x) (Qh := fun i => i = mIndex_string a0 a1) h (fun i hi hc hb => ?_) (fun hx => ?_)
  · exact (idxI_at hi (by simpa using hc) fun j hj => by have := hb j hj; simpa using this).symm
  · exact (idxI_none fun j hj => by have := hx _ (List.getElem_mem hj); simpa using this).symm
theorem IndexFunc_CcHas_1_ok (a0 : List Fld) (a1 : S) (h : pIndexFunc_CcHas_1 a0 a1) : s_IndexFunc_CcHas_1 a0 a1 (fun r => r = mIndexFunc_CcHas_1 a0 a1) :=
  idxS_ok (P := fun x => pCcHas_1 x a1) (F := fun d => mCcHas_1 d a1) h fun _ _ => trivial
theorem ContainsFunc_CcHas_1_ok (a0 : List Fld) (a1 : S) (h : pContainsFunc_CcHas_1 a0 a1) : s_ContainsFunc_CcHas_1 a0 a1 (fun r => r = mContainsFunc_CcHas_1 a0 a1) := ⟨h, idxI_nonneg⟩
theorem ints_get (s : S) {i : Nat} (h : i < s.size) : (ints s)[i]'(by unfold ints; rw [List.length_map, bs_len]; exact h) = bt s (i : Int) := by
  rw [bt_nat s i h]
  unfold ints
  rw [List.getElem_map]
theorem ints_len (s : S) : (ints s).length = s.size := by unfold ints; rw [List.length_map, bs_len]
theorem ints_all {s : S} {p : Int → Bool} : (ints s).all p = true ↔ ∀ i : Nat, i < s.size → p (bt s (i : Int)) = true := by
  rw [List.all_eq_true]
  constructor
  · intro h i hi
    rw [← ints_get s hi]
    exact h _ (List.getElem_mem _)
  · intro h x hx
    obtain ⟨j, hj, rfl⟩ := List.mem_iff_getElem.1 hx
    have hj' : j < s.size := by rw [ints_len] at hj; exact hj
    rw [ints_get s hj']
    exact h j hj'
theorem ints_all_false {s : S} {p : Int → Bool} {i : Nat} (h : i < s.size) (hp : ¬ p (bt s (i : Int)) = true) : (ints s).all p = false := by
  cases hx : (ints s).all p with
  | false => rfl
  | true => exact absurd (ints_all.1 hx i h) hp
theorem scanB {s : S} {p : Int → Bool} {B : Int → (Int → Prop) → Prop} (hlen : sm s)
    (hit : ∀ i : Nat, i < s.size → ∀ L : Int → Prop, (p (bt s (i : Int)) = true → L (IntKind.i64.wrap ((i : Int) + 1))) → (¬ p (bt s (i : Int)) = true → (ints s).all p = false) → B (i : Int) L)
    (he : (ints s).all p = true → ∀ L, B (s.size : Int) L) : ∀ L : Int → Prop, (∀ y, B y L → L y) → L 0 := by
  intro L hL
  unfold sm at hlen
  refine loopN hL s.size (by omega) (fun i => ∀ j : Nat, j < i → j < s.size → p (bt s (j : Int)) = true) (fun i hi hI hn => ?_) (fun j hj => by omega)
  by_cases hlt : i < s.size
  · refine hit i hlt L (fun hp => hn hlt fun j hj hj2 => ?_) fun hp => ints_all_false hlt hp
    by_cases e : j = i
    · subst e; exact hp
    · exact hI j (by omega) hj2
  · have : i = s.size := by omega
    subst this
    exact he (ints_all.2 fun j hj => hI j hj hj) L
theorem spec_IsTokenText_ok (a0 : S) (h : pIsTokenText a0) : s_spec_IsTokenText a0 (fun r => r = mIsTokenText a0) := by
  refine scanB (p := mToken) h (fun i hi L hL hf => ?_) fun ha L => ?_
  · unfold mIsTokenText pToken
    grind
  · unfold mIsTokenText
    simp only [ha]
    grind
theorem sign_iff : ∀ n : Fin 256, (mToken (n.val : Int) = true) ↔ (mIsLetterOrDigit (n.val : Int) = true ∨ ¬ mIndexByte (lit [33, 35, 36, 37, 38, 39, 42, 43, 45, 46, 94, 95, 124, 126, 96]) (n.val : Int) < 0) := by decide +kernel
theorem impl_IsTokenText_ok (a0 : S) (h : pIsTokenText a0) : s_impl_IsTokenText a0 (fun r => r = mIsTokenText a0) := by
  refine scanB (p := mToken) h (fun i hi L hL hf => ?_) fun ha L => ?_
  · have hb := bt_range a0 (i : Int)
    have hs := sign_iff ⟨(bt a0 (i : Int)).toNat, by omega⟩
    simp only [Int.toNat_of_nonneg hb.1] at hs
    unfold mIsTokenText pIsLetterOrDigit pIndexByte
    generalize mIndexByte _ (bt a0 (i : Int)) = k at hs ⊢
    grind
  · unfold mIsTokenText
    simp only [ha]
    refine ⟨fun h => by omega, fun _ => ?_⟩
    rw [Bool.true_and]
    exact decide_eq_decide.2 lit_ne
end Go.Ev
end

section
/- Laws of the plain library, third part: texts out of texts. -/
set_option linter.unusedVariables false
namespace Go.Ev

theorem bytesOf_ints (s : S) : bytesOf s = ints s := rfl
theorem lowI (b : UInt8) : ((lowB b).toNat : Int) = if 65 ≤ (b.toNat : Int) ∧ (b.toNat : Int) ≤ 90 then (b.toNat : Int) + 32 else (b.toNat : Int) := by
  unfold lowB
  split
  · next h =>
    rw [if_pos (by omega)]
    have : (b + 32).toNat = b.toNat + 32 := by
      rw [UInt8.toNat_add]
      have : (32 : UInt8).toNat = 32 := rfl
      rw [this]
      omega
    omega
  · next h => rw [if_neg (by omega)]
theorem strOf_map (l : List UInt8) : strOf (l.map fun b => (b.toNat : Int)) = ob l := by
  unfold strOf ob
  congr 2
  rw [List.map_map]
  conv => rhs; rw [← List.map_id l]
  apply List.map_congr_left
  intro b _
  simp
theorem spec_Lower_ok (a0 : S) (h : pLower a0) : s_spec_Lower a0 (fun r => r = mLower a0) := by
  unfold pLower sm at h
  refine ⟨by omega, fun L hL => ?_⟩
  rw [bytesOf_ints]
  let f : List UInt8 → List Int := fun l => l.map fun b => (b.toNat : Int)
  have hl := bs_len a0
  refine loopG hL a0.size (fun i y => y.1 = (i : Int) ∧ y.2 = f (((bs a0).take i).map lowB ++ (bs a0).drop i)) (fun i y hi hI hn => ?_) (s0 := (0, ints a0)) ⟨rfl, by simp [f, ints]⟩
  obtain ⟨y1, y2⟩ := y
  simp only at hI ⊢
  obtain ⟨rfl, rfl⟩ := hI
  have hlen : (f (((bs a0).take i).map lowB ++ (bs a0).drop i)).length = a0.size := by
    simp only [f, List.length_map, List.length_append, List.length_take, List.length_drop]
    omega
  refine ⟨fun hlt => ?_, fun hge => ?_⟩
  · rw [hlen] at hlt ⊢
    have hi2 : i < a0.size := by omega
    have hi3 : i < (bs a0).length := by omega
    have hget : rx (f (((bs a0).take i).map lowB ++ (bs a0).drop i)) (i : Int) = ((bs a0)[i].toNat : Int) := by
      rw [rx_get _ (by rw [hlen]; exact hi2)]
      simp only [f, List.getElem_map]
      rw [List.getElem_append_right (by simp; omega)]
      simp only [List.length_map, List.length_take, List.getElem_drop]
      congr 3
      omega
    have hlow := lowI (bs a0)[i]
    have hb := (bs a0)[i].toNat_lt
    have hset : ∀ v : Int, v = ((lowB (bs a0)[i]).toNat : Int) → (f (((bs a0).take i).map lowB ++ (bs a0).drop i)).set ((i : Int).toNat) v = f (((bs a0).take (i + 1)).map lowB ++ (bs a0).drop (i + 1)) := fun v hv => by
      rw [hv, Int.toNat_natCast, take_succ_app hi3]
      simp only [f, List.map_append, List.map_cons, List.map_nil]
      rw [List.set_append_right _ _ (by simp; omega)]
      simp only [List.length_map, List.length_take]
      rw [show i - min i (bs a0).length = 0 by omega, ← List.getElem_cons_drop (h := hi3)]
      simp
    have hkeep : (bs a0)[i].toNat = (lowB (bs a0)[i]).toNat → f (((bs a0).take i).map lowB ++ (bs a0).drop i) = f (((bs a0).take (i + 1)).map lowB ++ (bs a0).drop (i + 1)) := fun hv => by
      rw [take_succ_app hi3]
      simp only [f, List.map_append, List.map_cons, List.map_nil]
      rw [← List.getElem_cons_drop (h := hi3)]
      simp only [List.map_cons, List.append_assoc, List.cons_append, List.nil_append, hv]
    have hw : IntKind.i64.wrap ((i : Int) + 1) = ((i + 1 : Nat) : Int) := wrapS (by omega)
    rw [hget, hw]
    refine ⟨by omega, by omega, fun h1 => ⟨by omega, by omega, fun h2 => ⟨by omega, by omega, by omega, by omega, ?_⟩, fun h2 => ?_⟩, fun h1 => ?_⟩
    · refine hn _ hi2 ⟨rfl, hset _ ?_⟩
      rw [hlow, if_pos ⟨h1, h2⟩, wrap8 (by omega) (by omega)]
    · refine hn _ hi2 ⟨rfl, hkeep ?_⟩
      rw [if_neg (by omega)] at hlow
      omega
    · refine hn _ hi2 ⟨rfl, hkeep ?_⟩
      rw [if_neg (by omega)] at hlow
      omega
  · rw [hlen] at hge
    have e : i = (bs a0).length := by omega
    rw [e, List.drop_length, List.take_length, List.append_nil]
    exact strOf_map _

theorem joinL_snoc (sep : S) : ∀ (vs : List S) (v : S), joinL sep (vs ++ [v]) = if vs = [] then v else joinL sep vs ++ sep ++ v
  | [], v => rfl
  | [x], v => rfl
  | x :: y :: r, v => by
    have ih := joinL_snoc sep (y :: r) v
    simp only [List.cons_append, joinL, reduceCtorEq, if_false] at ih ⊢
    rw [ih]
    apply bs_inj
    simp only [bs_append, List.append_assoc]
theorem joinL_size (sep : S) : ∀ (vs : List S), (joinL sep vs).size ≤ sumN (vs.map fun x => x.size) + vs.length * sep.size
  | [] => by show (lit []).size ≤ _; exact Nat.zero_le _
  | [x] => by simp only [joinL, List.map_cons, List.map_nil, sumN, List.length_singleton]; omega
  | x :: y :: r => by
    have ih := joinL_size sep (y :: r)
    simp only [joinL, size_append, List.map_cons, sumN, List.length_cons] at ih ⊢
    rw [Nat.succ_mul]
    omega
theorem sumN_append : ∀ (a b : List Nat), sumN (a ++ b) = sumN a + sumN b
  | [], b => by simp [sumN]
  | x :: a, b => by simp only [List.cons_append, sumN, sumN_append a b]; omega
theorem valuesOf_bound (n : S) : ∀ (l : List Fld), sumN ((valuesOf l n).map fun x => x.size) + (valuesOf l n).length ≤ cz l
  | [] => by simp [valuesOf, sumN]
  | f :: l => by
    have ih := valuesOf_bound n l
    simp only [valuesOf, cz_list, List.filter_cons, List.length_cons, List.map_cons, sumN, cz_pair, cz_str] at ih ⊢
    split
    · simp only [List.map_cons, sumN, List.length_cons]; omega
    · omega
theorem valuesOf_take (l : List Fld) (n : S) {i : Nat} (h : i < l.length) : valuesOf (l.take (i + 1)) n = if l[i].1 = n then valuesOf (l.take i) n ++ [l[i].2] else valuesOf (l.take i) n := by
  rw [take_succ_app h]
  unfold valuesOf
  rw [List.filter_append, List.map_append]
  by_cases e : l[i].1 = n
  · simp [e]
  · simp [e]
theorem cz_take {α : Type} [Cz α] (l : List α) (i : Nat) : cz (l.take i) ≤ cz l := by
  have h : sumN (l.map cz) = sumN ((l.take i).map cz) + sumN ((l.drop i).map cz) := by
    rw [← sumN_append, ← List.map_append, List.take_append_drop]
  simp only [cz_list, List.length_take]
  omega
theorem sep_size : (lit [44, 32]).size = 2 := rfl
theorem spec_FieldGet_ok (a0 : List Fld) (a1 : S) (h : pFieldGet a0 a1) : s_spec_FieldGet a0 a1 (fun r => r = mFieldGet a0 a1) := by
  intro L hL
  have hlen := md_len' h
  have hb : ∀ i, (joinL (lit [44, 32]) (valuesOf (a0.take i) a1)).size ≤ 3 * 1048576 := fun i => by
    have h1 := joinL_size (lit [44, 32]) (valuesOf (a0.take i) a1)
    have h2 := valuesOf_bound a1 (a0.take i)
    have h3 := cz_take a0 i
    have h4 : cz a0 ≤ 1048576 := h
    rw [sep_size] at h1
    omega
  refine loopG hL a0.length (fun i y => y.2.2 = (i : Int) ∧ y.1 = joinL (lit [44, 32]) (valuesOf (a0.take i) a1) ∧ y.2.1 = decide (valuesOf (a0.take i) a1 ≠ [])) (fun i y hi hI hn => ?_) (s0 := (lit [], false, 0)) ⟨rfl, rfl, rfl⟩
  obtain ⟨y1, y2, y3⟩ := y
  simp only at hI ⊢
  obtain ⟨rfl, rfl, rfl⟩ := hI
  refine ⟨fun hlt => ?_, fun hge => ?_⟩
  · have hi2 : i < a0.length := by omega
    have hv := valuesOf_take a0 a1 hi2
    have hval : cz a0[i] ≤ 1048576 := md_mem h (List.getElem_mem hi2)
    simp only [cz_pair, cz_str] at hval
    have hbi := hb i
    rw [rx_get a0 hi2, wrapS (by omega)]
    refine ⟨by omega, by omega, fun hne => hn _ hi2 ⟨rfl, ?_, ?_⟩, fun heq => ?_⟩
    · rw [hv, if_neg hne]
    · rw [hv, if_neg hne]
    · have heq : a0[i].1 = a1 := Classical.not_not.1 heq
      rw [if_pos heq] at hv
      refine ⟨fun hs => ?_, fun hs => ?_⟩
      · have hs := of_decide_eq_true hs
        refine ⟨by rw [sep_size]; omega, by omega, by omega, by rw [size_append, sep_size]; omega, hn _ hi2 ⟨rfl, ?_, ?_⟩⟩
        · rw [hv, joinL_snoc, if_neg hs]
        · rw [hv]; simp
      · have hs : valuesOf (a0.take i) a1 = [] := by simpa using hs
        refine ⟨by omega, by omega, by omega, hn _ hi2 ⟨rfl, ?_, ?_⟩⟩
        · rw [hv, hs, joinL_snoc, if_pos rfl]
          apply bs_inj; rw [bs_append]; rfl
        · rw [hv]; simp
  · have e : a0.take i = a0 := List.take_of_length_le (by omega)
    rw [e]
    unfold mFieldGet mJoin
    congr 1
    rw [decide_eq_decide]
    rw [List.length_pos_iff]
theorem pJoin_values (a0 : List Fld) (a1 : S) (h : pFieldGet a0 a1) : pJoin (valuesOf a0 a1) (lit [44, 32]) := by
  have h2 := valuesOf_bound a1 a0
  have h4 : cz a0 ≤ 1048576 := h
  exact ⟨by omega, by omega, by rw [sep_size]; omega⟩
theorem impl_FieldGet_ok (a0 : List Fld) (a1 : S) (h : pFieldGet a0 a1) : s_impl_FieldGet a0 a1 (fun r => r = mFieldGet a0 a1) := by
  intro L hL
  have hlen := md_len' h
  refine loopG hL a0.length (fun i y => y.2 = (i : Int) ∧ y.1 = valuesOf (a0.take i) a1) (fun i y hi hI hn => ?_) (s0 := ([], 0)) ⟨rfl, rfl⟩
  obtain ⟨y1, y2⟩ := y
  simp only at hI ⊢
  obtain ⟨rfl, rfl⟩ := hI
  refine ⟨fun hlt => ?_, fun hge => ?_⟩
  · have hi2 : i < a0.length := by omega
    have hv := valuesOf_take a0 a1 hi2
    have h2 := valuesOf_bound a1 (a0.take i)
    have h3 := cz_take a0 i
    have h4 : cz a0 ≤ 1048576 := h
    rw [rx_get a0 hi2, wrapS (by omega)]
    refine ⟨by omega, by omega, fun he => ⟨by simp only [List.length_singleton]; omega, hn _ hi2 ⟨rfl, by rw [hv, if_pos he]⟩⟩, fun hne => hn _ hi2 ⟨rfl, by rw [hv, if_neg hne]⟩⟩
  · have e : a0.take i = a0 := List.take_of_length_le (by omega)
    rw [e]
    refine ⟨pJoin_values a0 a1 h, ?_⟩
    unfold mFieldGet
    congr 1
    rw [decide_eq_decide]
    omega
theorem fieldGet_size (a0 : List Fld) (a1 : S) (h : pFieldGet a0 a1) : (mFieldGet a0 a1).1.size ≤ 3 * 1048576 := by
  have h1 := joinL_size (lit [44, 32]) (valuesOf a0 a1)
  have h2 := valuesOf_bound a1 a0
  have h4 : cz a0 ≤ 1048576 := h
  rw [sep_size] at h1
  unfold mFieldGet mJoin
  simp only
  omega

theorem partsL_nil (q : Bool) (cur : List UInt8) : partsL q cur [] = [cur] := by cases q <;> rfl
theorem partsL_one (cur : List UInt8) (b : UInt8) : partsL true cur [b] = [cur ++ [b]] := rfl
theorem partsL_in (cur : List UInt8) (b c : UInt8) (r : List UInt8) : partsL true cur (b :: c :: r) = if b = 34 then partsL false (cur ++ [b]) (c :: r) else if b = 92 then partsL true (cur ++ [b, c]) r else partsL true (cur ++ [b]) (c :: r) := by rw [partsL]
theorem partsL_out (cur : List UInt8) (b : UInt8) (r : List UInt8) : partsL false cur (b :: r) = if b = 34 then partsL true (cur ++ [b]) r else if b = 44 then cur :: partsL false [] r else partsL false (cur ++ [b]) r := by rw [partsL]
theorem partsL_bound : ∀ (q : Bool) (cur l : List UInt8), sumN ((partsL q cur l).map List.length) ≤ cur.length + l.length ∧ (partsL q cur l).length ≤ l.length + 1
  | q, cur, [] => by rw [partsL_nil]; simp [sumN]
  | true, cur, [b] => by rw [partsL_one]; simp [sumN]
  | true, cur, b :: c :: r => by
    rw [partsL_in]
    split
    · have := partsL_bound false (cur ++ [b]) (c :: r)
      simp only [List.length_append, List.length_cons, List.length_nil] at this ⊢
      omega
    · split
      · have := partsL_bound true (cur ++ [b, c]) r
        simp only [List.length_append, List.length_cons, List.length_nil] at this ⊢
        omega
      · have := partsL_bound true (cur ++ [b]) (c :: r)
        simp only [List.length_append, List.length_cons, List.length_nil] at this ⊢
        omega
  | false, cur, b :: r => by
    rw [partsL_out]
    split
    · have := partsL_bound true (cur ++ [b]) r
      simp only [List.length_append, List.length_cons, List.length_nil] at this ⊢
      omega
    · split
      · have := partsL_bound false [] r
        simp only [List.length_append, List.length_cons, List.length_nil, List.map_cons, sumN] at this ⊢
        omega
      · have := partsL_bound false (cur ++ [b]) r
        simp only [List.length_append, List.length_cons, List.length_nil] at this ⊢
        omega
theorem dropWhile_le {α : Type} (p : α → Bool) (l : List α) : (l.dropWhile p).length ≤ l.length := (List.dropWhile_sublist p).length_le
theorem trimS_le (l cs : List UInt8) : (Lib.trimS l cs).length ≤ l.length := by
  unfold Lib.trimS Lib.trimLeftS Lib.trimRightS
  have h1 := dropWhile_le (cs.contains ·) ((l.reverse.dropWhile (cs.contains ·)).reverse)
  have h2 := dropWhile_le (cs.contains ·) l.reverse
  simp only [List.length_reverse] at h1 h2
  omega
theorem mTrim_le (s : S) : (mTrim s).size ≤ s.size := by
  unfold mTrim
  rw [ob_size, ← bs_len]
  exact trimS_le _ _
theorem trimmed_bound : ∀ (l : List (List UInt8)), sumN ((trimmed l).map fun x => x.size) ≤ sumN (l.map List.length) ∧ (trimmed l).length ≤ l.length
  | [] => by simp [trimmed, sumN]
  | p :: l => by
    have ih := trimmed_bound l
    have h := mTrim_le (ob p)
    rw [ob_size] at h
    simp only [trimmed, List.map_cons, List.filter_cons] at ih ⊢
    split
    · simp only [List.map_cons, sumN, List.length_cons]; omega
    · simp only [sumN, List.length_cons]; omega
theorem splitList_bound (s : S) : sumN ((mSplitList s).map fun x => x.size) ≤ s.size ∧ (mSplitList s).length ≤ s.size + 1 := by
  have h1 := partsL_bound false [] (bs s)
  have h2 := trimmed_bound (partsL false [] (bs s))
  rw [bs_len] at h1
  unfold mSplitList
  simp only [List.length_nil] at h1
  omega
theorem splitList_mem {s x : S} (h : x ∈ mSplitList s) : x.size ≤ s.size := by
  have h1 := (splitList_bound s).1
  have h2 := sumN_mem (List.mem_map.2 ⟨x, h, rfl⟩ : x.size ∈ (mSplitList s).map fun x => x.size)
  omega
theorem directives_len (a0 : List Fld) (h : pDirectives a0) : (mDirectives a0).length ≤ 3 * 1048576 + 1 := by
  have h1 := List.length_filterMap_le dirOf (mSplitList (mFieldGet a0 nameCC).1)
  have h2 := (splitList_bound (mFieldGet a0 nameCC).1).2
  have h3 := fieldGet_size a0 nameCC h
  unfold mDirectives
  omega
theorem impl_CcHas_ok (a0 : List Fld) (a1 : S) (h : pCcHas a0 a1) : s_impl_CcHas a0 a1 (fun r => r = mCcHas a0 a1) := by
  have hd := directives_len a0 h
  exact ⟨h, by unfold pContainsFunc_CcHas_1; simp only [maxLen]; omega, rfl⟩
theorem spec_CcHas_ok (a0 : List Fld) (a1 : S) (h : pCcHas a0 a1) : s_spec_CcHas a0 a1 (fun r => r = mCcHas a0 a1) := by
  have hd := directives_len a0 h
  refine ⟨h, scanT_ok (C := fun x : Fld => x.1 = a1) (Qh := fun _ => true = mCcHas a0 a1) (by simp only [maxLen]; omega) (fun i hi hc _ => ?_) (fun hx => ?_)⟩
  · unfold mCcHas mCcHas_1
    exact (any_true hi (by simpa using hc)).symm
  · unfold mCcHas mCcHas_1
    exact (List.any_eq_false.2 fun x hx' => by have := hx x hx'; simpa using this).symm
theorem impl_CcHas_1_ok (a0 : Fld) (a1 : S) (h : pCcHas_1 a0 a1) : s_impl_CcHas_1 a0 a1 (fun r => r = mCcHas_1 a0 a1) := rfl
end Go.Ev
end

section
/- Laws of the plain library, fourth part: parts of texts. -/
set_option linter.unusedVariables false
namespace Go.Ev

def blk (b : UInt8) : Bool := [(32 : UInt8), 9].contains b
theorem blk_iff (b : UInt8) : blk b = true ↔ mBlank (b.toNat : Int) = true := by
  have h : ∀ n : Fin 256, (blk (UInt8.ofNat n.val) = true) ↔ mBlank (n.val : Int) = true := by decide +kernel
  have := h ⟨b.toNat, b.toNat_lt⟩
  simpa using this
theorem trimS_cons {b : UInt8} (h : blk b = true) (l : List UInt8) : Lib.trimS (b :: l) [32, 9] = Lib.trimS l [32, 9] := by
  have h' : [(32 : UInt8), 9].contains b = true := h
  unfold Lib.trimS Lib.trimLeftS Lib.trimRightS
  rw [List.reverse_cons, List.dropWhile_append]
  split
  · next hd =>
    have hd : l.reverse.dropWhile (fun x => [(32 : UInt8), 9].contains x) = [] := by simpa using hd
    rw [hd]
    have : List.dropWhile (fun x => [(32 : UInt8), 9].contains x) [b] = [] := by
      rw [List.dropWhile_cons, if_pos h']; rfl
    rw [this]
  · rw [List.reverse_append, List.reverse_singleton, List.singleton_append, List.dropWhile_cons, if_pos h']
theorem trimS_snoc {b : UInt8} (h : blk b = true) (l : List UInt8) : Lib.trimS (l ++ [b]) [32, 9] = Lib.trimS l [32, 9] := by
  have h' : [(32 : UInt8), 9].contains b = true := h
  unfold Lib.trimS Lib.trimRightS
  rw [List.reverse_append, List.reverse_singleton, List.singleton_append, List.dropWhile_cons, if_pos h']
theorem trimS_id {l : List UInt8} (h0 : ∀ b, l.head? = some b → blk b = false) (h1 : ∀ b, l.getLast? = some b → blk b = false) : Lib.trimS l [32, 9] = l := by
  have key : ∀ l : List UInt8, (∀ b, l.head? = some b → blk b = false) → l.dropWhile (fun x => [(32 : UInt8), 9].contains x) = l := fun l h => by
    cases l with
    | nil => rfl
    | cons b r =>
      rw [List.dropWhile_cons, if_neg]
      have := h b rfl
      unfold blk at this
      rw [this]; simp
  unfold Lib.trimS Lib.trimLeftS Lib.trimRightS
  rw [key l.reverse (fun b hb => h1 b (by rw [List.head?_reverse] at hb; exact hb)), List.reverse_reverse, key l h0]
theorem spec_Trim_ok (a0 : S) (h : pTrim a0) : s_spec_Trim a0 (fun r => r = mTrim a0) := by
  unfold pTrim sm at h
  -- the second loop
  have back : ∀ y : S, y.size ≤ a0.size → mTrim y = mTrim a0 → (∀ b, (bs y).head? = some b → blk b = false) → ∀ L2 : S → Prop,
      (∀ y3 : S, ((0 < (y3.size : Int) → 0 ≤ IntKind.i64.wrap ((y3.size : Int) - 1) ∧ IntKind.i64.wrap ((y3.size : Int) - 1) < (y3.size : Int) ∧ pBlank (bt y3 (IntKind.i64.wrap ((y3.size : Int) - 1))) ∧
          (mBlank (bt y3 (IntKind.i64.wrap ((y3.size : Int) - 1))) = true → 0 ≤ IntKind.i64.wrap ((y3.size : Int) - 1) ∧ IntKind.i64.wrap ((y3.size : Int) - 1) ≤ (y3.size : Int) ∧ L2 (y3.extract 0 (IntKind.i64.wrap ((y3.size : Int) - 1)).toNat)) ∧
          (¬ mBlank (bt y3 (IntKind.i64.wrap ((y3.size : Int) - 1))) = true → y3 = mTrim a0)) ∧
        (¬ 0 < (y3.size : Int) → y3 = mTrim a0)) → L2 y3) → L2 y := by
    intro y hy hm hh L2 hL
    refine loopI hL (fun y => y.size ≤ a0.size ∧ mTrim y = mTrim a0 ∧ ∀ b, (bs y).head? = some b → blk b = false) (fun y => y.size) (fun y ⟨hy, hm, hh⟩ ih => ?_) y ⟨hy, hm, hh⟩
    refine ⟨fun h0 => ?_, fun h0 => ?_⟩
    · have hpos : 0 < y.size := by omega
      have hw : IntKind.i64.wrap ((y.size : Int) - 1) = ((y.size - 1 : Nat) : Int) := by rw [wrap64 (by omega) (by omega)]; omega
      rw [hw]
      have hlen := bs_len y
      have hb := bt_nat y (y.size - 1) (by omega)
      have hlast : (bs y).getLast? = some ((bs y)[y.size - 1]'(by omega)) := by
        rw [List.getLast?_eq_getElem?]
        simp only [hlen]
        exact List.getElem?_eq_getElem _
      refine ⟨by omega, by omega, trivial, fun hbl => ⟨by omega, by omega, ?_⟩, fun hbl => ?_⟩
      · rw [Int.toNat_natCast]
        have hcut : bs (y.extract 0 (y.size - 1)) = (bs y).take (y.size - 1) := by rw [bs_extract]; simp
        have hspl : bs y = (bs y).take (y.size - 1) ++ [(bs y)[y.size - 1]'(by omega)] := by
          rw [← take_succ_app (by omega), List.take_of_length_le (by omega)]
        refine ih _ ⟨?_, ?_, fun b hb2 => ?_⟩ ?_
        · rw [← bs_len, hcut, List.length_take]; omega
        · rw [← hm]
          unfold mTrim
          rw [hcut]
          conv => rhs; rw [hspl]
          rw [trimS_snoc]
          rw [blk_iff, ← hb]; exact hbl
        · rw [hcut] at hb2
          refine hh b ?_
          rw [hspl]
          cases hx : (bs y).take (y.size - 1) with
          | nil => rw [hx] at hb2; cases hb2
          | cons c r => rw [hx] at hb2; simpa using hb2
        · rw [← bs_len, hcut, List.length_take]; omega
      · rw [← hm]
        unfold mTrim
        rw [trimS_id hh]
        · rfl
        · intro b hb2
          rw [hlast] at hb2
          injection hb2 with hb2
          rw [← hb2]
          cases hx : blk (bs y)[y.size - 1] with
          | false => rfl
          | true =>
            rw [blk_iff, ← hb] at hx
            exact absurd hx hbl
    · rw [← hm]
      have : bs y = [] := List.eq_nil_of_length_eq_zero (by rw [bs_len]; omega)
      apply bs_inj
      unfold mTrim
      rw [this]; rfl
  intro L hL
  refine loopI hL (fun y => y.size ≤ a0.size ∧ mTrim y = mTrim a0) (fun y => y.size) (fun y ⟨hy, hm⟩ ih => ?_) a0 ⟨Nat.le_refl _, rfl⟩
  have hlen := bs_len y
  refine ⟨fun h0 => ?_, fun h0 => ?_⟩
  · have hpos : 0 < y.size := by omega
    have hb := bt_nat y 0 hpos
    have hcons : bs y = (bs y)[0]'(by omega) :: (bs y).drop 1 := by
      conv => lhs; rw [← List.drop_zero (l := bs y)]
      exact (List.getElem_cons_drop (h := by omega)).symm
    refine ⟨by omega, by omega, trivial, fun hbl => ⟨by omega, by omega, ?_⟩, fun hbl L2 hL2 => ?_⟩
    · have hcut : bs (y.extract ((1 : Int).toNat) y.size) = (bs y).drop 1 := by
        rw [bs_extract]
        exact List.take_of_length_le (by rw [List.length_drop, hlen]; omega)
      refine ih _ ⟨?_, ?_⟩ ?_
      · rw [← bs_len, hcut, List.length_drop]; omega
      · rw [← hm]
        unfold mTrim
        rw [hcut]
        conv => rhs; rw [hcons]
        rw [trimS_cons]
        rw [blk_iff, ← hb]; exact hbl
      · rw [← bs_len, hcut, List.length_drop]; omega
    · refine back y hy hm (fun b hb2 => ?_) L2 hL2
      rw [hcons] at hb2
      injection hb2 with hb2
      rw [← hb2]
      cases hx : blk (bs y)[0] with
      | false => rfl
      | true =>
        rw [blk_iff, ← hb] at hx
        exact absurd hx hbl
  · intro L2 hL2
    refine back y hy hm (fun b hb2 => ?_) L2 hL2
    have : bs y = [] := List.eq_nil_of_length_eq_zero (by omega)
    rw [this] at hb2; cases hb2

end Go.Ev
end

section
/- Laws of the plain library, fifth part: lists in texts. -/
set_option linter.unusedVariables false
namespace Go.Ev

theorem drop_cons' {α : Type} {l : List α} {i : Nat} (h : i < l.length) : l.drop i = l[i] :: l.drop (i + 1) := (List.getElem_cons_drop (h := h)).symm
theorem seg_succ {α : Type} {l : List α} {f i : Nat} (hf : f ≤ i) (h : i < l.length) : (l.take (i + 1)).drop f = (l.take i).drop f ++ [l[i]] := by
  rw [take_succ_app h, List.drop_append_of_le_length (by rw [List.length_take]; omega)]
theorem seg_all {α : Type} {l : List α} {f i : Nat} (hf : f ≤ i) (hi : i ≤ l.length) : (l.take i).drop f ++ l.drop i = l.drop f := by
  conv => rhs; rw [← List.take_append_drop i l]
  rw [List.drop_append_of_le_length (by rw [List.length_take]; omega)]
theorem commasL_nil (q : Bool) (i : Int) : commasL q i [] = [] := by cases q <;> rfl
theorem commasL_one (i : Int) (b : UInt8) : commasL true i [b] = [] := rfl
theorem commasL_in (i : Int) (b c : UInt8) (r : List UInt8) : commasL true i (b :: c :: r) = if b = 34 then commasL false (i + 1) (c :: r) else if b = 92 then commasL true (i + 2) r else commasL true (i + 1) (c :: r) := by rw [commasL]
theorem commasL_out (i : Int) (b : UInt8) (r : List UInt8) : commasL false i (b :: r) = if b = 34 then commasL true (i + 1) r else if b = 44 then i :: commasL false (i + 1) r else commasL false (i + 1) r := by rw [commasL]
def cutAt (l : List UInt8) : Nat → List Int → List (List UInt8)
  | f, [] => [l.drop f]
  | f, a :: az => (l.take a.toNat).drop f :: cutAt l (a.toNat + 1) az
def okC (n : Nat) : Nat → List Int → Prop
  | f, [] => f ≤ n
  | f, a :: az => (f : Int) ≤ a ∧ a < (n : Int) ∧ okC n (a.toNat + 1) az
theorem parts_cut (l : List UInt8) : ∀ (m : Nat) (q : Bool) (i f : Nat), i + m = l.length → f ≤ i →
    partsL q ((l.take i).drop f) (l.drop i) = cutAt l f (commasL q (i : Int) (l.drop i)) ∧ okC l.length f (commasL q (i : Int) (l.drop i)) := by
  intro m
  induction m using Nat.strongRecOn with
  | _ m ih =>
    intro q i f hi hf
    cases m with
    | zero =>
      have e : l.drop i = [] := List.drop_eq_nil_of_le (by omega)
      have e2 : l.take i = l := List.take_of_length_le (by omega)
      rw [e, partsL_nil, commasL_nil, e2]
      exact ⟨rfl, by show f ≤ l.length; omega⟩
    | succ m =>
      have hlt : i < l.length := by omega
      have hc := drop_cons' hlt
      have hs := seg_succ hf hlt
      have step := fun (q' : Bool) => ih m (by omega) q' (i + 1) f (by omega) (by omega)
      have hcast : ((i + 1 : Nat) : Int) = (i : Int) + 1 := by omega
      cases q with
      | false =>
        rw [hc, partsL_out, commasL_out, ← hs, ← hcast]
        split
        · exact step true
        · split
          · have h0 := ih m (by omega) false (i + 1) (i + 1) (by omega) (Nat.le_refl _)
            have e0 : (l.take (i + 1)).drop (i + 1) = [] := List.drop_eq_nil_of_le (by rw [List.length_take]; omega)
            rw [e0] at h0
            simp only [cutAt, okC, Int.toNat_natCast]
            exact ⟨by rw [h0.1], by omega, by omega, h0.2⟩
          · exact step false
      | true =>
        cases m with
        | zero =>
          have e : l.drop (i + 1) = [] := List.drop_eq_nil_of_le (by omega)
          have ha := seg_all hf (Nat.le_of_lt hlt)
          rw [hc, e] at ha
          rw [hc, e, partsL_one, commasL_one, ha]
          exact ⟨rfl, by show f ≤ l.length; omega⟩
        | succ m =>
          have hlt1 : i + 1 < l.length := by omega
          have hc1 := drop_cons' hlt1
          rw [hc, hc1, partsL_in, commasL_in, ← hc1, ← hs, ← hcast]
          split
          · exact step false
          · split
            · have h2 := ih m (by omega) true (i + 2) f (by omega) (by omega)
              have hs2 := seg_succ (f := f) (i := i + 1) (by omega) hlt1
              rw [hs, List.append_assoc] at hs2
              rw [show (l.take i).drop f ++ [l[i], l[i + 1]] = (l.take (i + 2)).drop f from hs2.symm, show (i : Int) + 2 = ((i + 2 : Nat) : Int) by omega]
              exact h2
            · exact step true
theorem trimmed_cons (p : List UInt8) (l : List (List UInt8)) : trimmed (p :: l) = if mTrim (ob p) ≠ lit [] then mTrim (ob p) :: trimmed l else trimmed l := by
  unfold trimmed
  rw [List.map_cons, List.filter_cons]
  split
  · next h => rw [if_pos (by simpa using h)]
  · next h => rw [if_neg (by simpa using h)]
theorem trimmed_nil : trimmed [] = [] := rfl
theorem ext_seg (s : S) (f a : Nat) : s.extract f a = ob (((bs s).take a).drop f) := by
  apply bs_inj
  rw [bs_extract, bs_ob, List.drop_take]
theorem byte_eq {s : S} {i : Nat} (h : i < s.size) (n : Nat) (hn : n < 256) : bt s (i : Int) = (n : Int) ↔ (bs s)[i]'(by rw [bs_len]; exact h) = UInt8.ofNat n := by
  rw [bt_nat s i h]
  constructor
  · intro e
    have e' : ((bs s)[i]'(by rw [bs_len]; exact h)).toNat = n := by omega
    rw [← e']; simp
  · intro e
    rw [e]
    simp
    omega
theorem commas_len : ∀ (q : Bool) (i : Int) (l : List UInt8), (commasL q i l).length ≤ l.length
  | q, i, [] => by rw [commasL_nil]; simp
  | true, i, [b] => by rw [commasL_one]; simp
  | true, i, b :: c :: r => by
    rw [commasL_in]
    have h1 := commas_len false (i + 1) (c :: r)
    have h2 := commas_len true (i + 2) r
    have h3 := commas_len true (i + 1) (c :: r)
    simp only [List.length_cons] at *
    split
    · omega
    · split <;> omega
  | false, i, b :: r => by
    rw [commasL_out]
    have h1 := commas_len true (i + 1) r
    have h2 := commas_len false (i + 1) r
    simp only [List.length_cons] at *
    split
    · omega
    · split
      · simp only [List.length_cons]; omega
      · omega

theorem impl_commas_ok (a0 : S) (h : pCommas a0) : s_impl_commas a0 (fun r => r = mCommas a0) := by
  unfold pCommas sm at h
  intro L hL
  have hl := bs_len a0
  refine loopI hL (fun y => ∃ i : Nat, y.2.2 = (i : Int) ∧ i ≤ a0.size + 1 ∧ y.1.length ≤ i ∧ (i ≤ a0.size → y.1 ++ commasL y.2.1 (i : Int) ((bs a0).drop i) = mCommas a0) ∧ (i = a0.size + 1 → y.1 = mCommas a0))
    (fun y => a0.size + 1 - y.2.2.toNat) (fun y hI ih => ?_) ([], false, 0) ⟨0, rfl, by omega, by simp, fun _ => rfl, fun h => by omega⟩
  obtain ⟨out, q, y3⟩ := y
  obtain ⟨i, hy, hi, hol, h1, h2⟩ := hI
  simp only at hy hol h1 h2 ⊢
  subst hy
  refine ⟨fun hlt => ?_, fun hge => ?_⟩
  · have hi2 : i < a0.size := by omega
    have hi3 : i < (bs a0).length := by omega
    have h1 := h1 (by omega)
    have hc := drop_cons' hi3
    have hw : IntKind.i64.wrap ((i : Int) + 1) = ((i + 1 : Nat) : Int) := wrapS (by omega)
    have hw2 : IntKind.i64.wrap (((i + 1 : Nat) : Int) + 1) = ((i + 2 : Nat) : Int) := by rw [wrapS (by omega)]
    have b34 : bt a0 (i : Int) = 34 ↔ _ := byte_eq hi2 34 (by omega)
    have b92 : bt a0 (i : Int) = 92 ↔ _ := byte_eq hi2 92 (by omega)
    have b44 : bt a0 (i : Int) = 44 ↔ _ := byte_eq hi2 44 (by omega)
    have next : ∀ (out' : List Int) (q' : Bool), out'.length ≤ i + 1 → out' ++ commasL q' ((i : Int) + 1) ((bs a0).drop (i + 1)) = mCommas a0 → L (out', q', ((i + 1 : Nat) : Int)) := fun out' q' hlen e =>
      ih _ ⟨i + 1, rfl, by omega, hlen, fun _ => by rw [← e]; congr 2, fun hh => by omega⟩ (by simp only [Int.toNat_natCast]; omega)
    rw [hw, hw2]
    rw [hc] at h1
    have hq34 : bt a0 (i : Int) = 34 → commasL q (i : Int) ((bs a0)[i] :: (bs a0).drop (i + 1)) = commasL (!q) ((i : Int) + 1) ((bs a0).drop (i + 1)) := fun e => by
      have e' := b34.1 e
      cases q with
      | false => rw [commasL_out, if_pos (by rw [e']; rfl)]; rfl
      | true =>
        cases hr : (bs a0).drop (i + 1) with
        | nil => rw [commasL_one, commasL_nil]
        | cons c r => rw [commasL_in, if_pos (by rw [e']; rfl)]; rfl
    have n34 : bt a0 (i : Int) ≠ 34 → ¬ (bs a0)[i] = 34 := fun e e' => e (b34.2 e')
    have n92 : bt a0 (i : Int) ≠ 92 → ¬ (bs a0)[i] = 92 := fun e e' => e (b92.2 e')
    have n44 : bt a0 (i : Int) ≠ 44 → ¬ (bs a0)[i] = 44 := fun e e' => e (b44.2 e')
    have plain_in : bt a0 (i : Int) ≠ 34 → bt a0 (i : Int) ≠ 92 → q = true → commasL q (i : Int) ((bs a0)[i] :: (bs a0).drop (i + 1)) = commasL q ((i : Int) + 1) ((bs a0).drop (i + 1)) := fun e1 e2 eq => by
      subst eq
      cases hr : (bs a0).drop (i + 1) with
      | nil => rw [commasL_one, commasL_nil]
      | cons c r => rw [commasL_in, if_neg (n34 e1), if_neg (n92 e2)]
    refine ⟨by omega, by omega, fun e34 => next _ _ (by omega) ?_, fun e34 => ⟨fun eq => ⟨by omega, by omega, fun e92 => ?_, fun e92 => ⟨fun nq => absurd eq nq, fun _ => next _ _ (by omega) ?_⟩⟩, fun nq => ⟨fun _ => ⟨by omega, by omega, fun e44 => ?_, fun e44 => next _ _ (by omega) ?_⟩, fun qq => absurd nq qq⟩⟩⟩
    · rw [← h1, hq34 e34]
      cases q <;> rfl
    · -- a byte behind a backslash is passed over
      have e' := b92.1 e92
      subst eq
      refine ih _ ⟨i + 2, rfl, by omega, by simp only; omega, fun hle => ?_, fun hle => ?_⟩ (by simp only [Int.toNat_natCast]; omega)
      · have hi4 : i + 1 < (bs a0).length := by omega
        rw [drop_cons' hi4, commasL_in, if_neg (n34 e34), if_pos (by rw [e']; rfl)] at h1
        rw [← h1]
        simp only
        congr 2
      · have : (bs a0).drop (i + 1) = [] := List.drop_eq_nil_of_le (by omega)
        rw [this, commasL_one] at h1
        simpa using h1
    · rw [← h1, plain_in e34 e92 eq]
    · have e' := b44.1 e44
      have hq : q = false := by simpa using nq
      subst hq
      rw [commasL_out, if_neg (n34 e34), if_pos (by rw [e']; rfl)] at h1
      refine ⟨by simp only [List.length_singleton]; omega, next _ _ (by simp only [List.length_append, List.length_singleton]; omega) ?_⟩
      rw [← h1]; simp
    · have hq : q = false := by simpa using nq
      subst hq
      rw [commasL_out, if_neg (n34 e34), if_neg (n44 e44)] at h1
      exact h1
  · have : i = a0.size ∨ i = a0.size + 1 := by omega
    rcases this with e | e
    · have h1 := h1 (by omega)
      have : (bs a0).drop i = [] := List.drop_eq_nil_of_le (by omega)
      rw [this, commasL_nil, List.append_nil] at h1
      exact h1
    · exact h2 e

theorem impl_SplitList_ok (a0 : S) (h : pSplitList a0) : s_impl_SplitList a0 (fun r => r = mSplitList a0) := by
  have h0 := h
  unfold pSplitList sm at h
  have hl := bs_len a0
  have hpc := parts_cut (bs a0) a0.size false 0 0 (by omega) (Nat.le_refl _)
  rw [List.drop_zero, hl] at hpc
  have hcl := commas_len false 0 (bs a0)
  have hC : mCommas a0 = commasL false (((0 : Nat) : Int)) (bs a0) := rfl
  have hM : mSplitList a0 = trimmed (cutAt (bs a0) 0 (mCommas a0)) := by
    unfold mSplitList
    rw [hC]
    exact congrArg trimmed hpc.1
  have hok : okC a0.size 0 (mCommas a0) := hpc.2
  have hclen : (mCommas a0).length ≤ a0.size := by rw [← hl]; exact hcl
  refine ⟨h0, by simp only [List.length_singleton]; omega, fun L hL => ?_⟩
  generalize mCommas a0 = C at hM hok hclen hL
  have hEl : (C ++ [(a0.size : Int)]).length = C.length + 1 := by simp
  refine loopG hL (C.length + 1) (fun k y => y.2.2 = (k : Int) ∧ y.1.length ≤ k ∧ (k ≤ C.length → ∃ f : Nat, y.2.1 = (f : Int) ∧ f ≤ a0.size ∧ okC a0.size f (C.drop k) ∧ y.1 ++ trimmed (cutAt (bs a0) f (C.drop k)) = mSplitList a0) ∧ (k = C.length + 1 → y.1 = mSplitList a0))
    (fun k y hk hI hn => ?_) (s0 := ([], 0, 0)) ⟨rfl, by simp, fun _ => ⟨0, rfl, by omega, hok, by rw [hM]; rfl⟩, fun h => by omega⟩
  obtain ⟨out, y2, y3⟩ := y
  simp only at hI ⊢
  obtain ⟨rfl, hol, h1, h2⟩ := hI
  rw [hEl]
  refine ⟨fun hlt => ?_, fun hge => h2 (by omega)⟩
  have hk2 : k ≤ C.length := by omega
  obtain ⟨f, rfl, hf, hokf, hout⟩ := h1 hk2
  have hw : IntKind.i64.wrap ((k : Int) + 1) = ((k + 1 : Nat) : Int) := wrapS (by omega)
  rw [hw]
  -- the end of this part
  have key : ∀ a : Nat, rx (C ++ [(a0.size : Int)]) (k : Int) = (a : Int) → f ≤ a → a ≤ a0.size →
      (∀ out' : List S, out' = (if mTrim (ob (((bs a0).take a).drop f)) ≠ lit [] then out ++ [mTrim (ob (((bs a0).take a).drop f))] else out) → L (out', ((a + 1 : Nat) : Int), ((k + 1 : Nat) : Int))) →
      0 ≤ (k : Int) ∧ (k : Int) < ((C.length + 1 : Nat) : Int) ∧ 0 ≤ (f : Int) ∧ (f : Int) ≤ rx (C ++ [(a0.size : Int)]) (k : Int) ∧ rx (C ++ [(a0.size : Int)]) (k : Int) ≤ (a0.size : Int) ∧
        pTrim (a0.extract ((f : Int).toNat) (rx (C ++ [(a0.size : Int)]) (k : Int)).toNat) ∧
        (mTrim (a0.extract ((f : Int).toNat) (rx (C ++ [(a0.size : Int)]) (k : Int)).toNat) ≠ lit [] →
          (out.length + [mTrim (a0.extract ((f : Int).toNat) (rx (C ++ [(a0.size : Int)]) (k : Int)).toNat)].length) * 16 ≤ 140737488355328 ∧
            L (out ++ [mTrim (a0.extract ((f : Int).toNat) (rx (C ++ [(a0.size : Int)]) (k : Int)).toNat)], IntKind.i64.wrap (rx (C ++ [(a0.size : Int)]) (k : Int) + 1), ((k + 1 : Nat) : Int))) ∧
        (¬ mTrim (a0.extract ((f : Int).toNat) (rx (C ++ [(a0.size : Int)]) (k : Int)).toNat) ≠ lit [] →
          L (out, IntKind.i64.wrap (rx (C ++ [(a0.size : Int)]) (k : Int) + 1), ((k + 1 : Nat) : Int))) := by
    intro a ha hfa has hcont
    rw [ha, Int.toNat_natCast, Int.toNat_natCast, wrapS (by omega), ext_seg]
    refine ⟨by omega, by omega, by omega, by omega, by omega, ?_, fun hne => ⟨by simp only [List.length_singleton]; omega, hcont _ (by rw [if_pos hne])⟩, fun hne => hcont _ (by rw [if_neg hne])⟩
    unfold pTrim sm
    rw [ob_size, List.length_drop, List.length_take]
    omega
  by_cases hkC : k < C.length
  · have hc := drop_cons' hkC
    rw [hc] at hokf hout
    simp only [okC] at hokf
    obtain ⟨o1, o2, o3⟩ := hokf
    have hrx : rx (C ++ [(a0.size : Int)]) (k : Int) = (C[k].toNat : Int) := by
      rw [rx_get _ (by rw [hEl]; omega), List.getElem_append_left hkC]; omega
    refine key C[k].toNat hrx (by omega) (by omega) fun out' ho => hn _ (by omega) ⟨rfl, ?_, fun _ => ⟨C[k].toNat + 1, rfl, by omega, o3, ?_⟩, fun h => by omega⟩
    · rw [ho]; split
      · simp only [List.length_append, List.length_singleton]; omega
      · simp only; omega
    · simp only [cutAt] at hout
      rw [trimmed_cons] at hout
      rw [ho, ← hout]
      split
      · simp
      · rfl
  · have hkeq : k = C.length := by omega
    have hdn : C.drop k = [] := List.drop_eq_nil_of_le (by omega)
    rw [hdn] at hout
    simp only [cutAt] at hout
    have hrx : rx (C ++ [(a0.size : Int)]) (k : Int) = (a0.size : Int) := by
      rw [rx_get _ (by rw [hEl]; omega), List.getElem_append_right (by omega)]
      simp [hkeq]
    refine key a0.size hrx hf (Nat.le_refl _) fun out' ho => hn _ (by omega) ⟨rfl, ?_, fun h => by omega, fun _ => ?_⟩
    · rw [ho]; split
      · simp only [List.length_append, List.length_singleton]; omega
      · simp only; omega
    · have e : (bs a0).take a0.size = bs a0 := List.take_of_length_le (by omega)
      rw [trimmed_cons, trimmed_nil] at hout
      rw [ho, ← hout, e]
      split
      · rfl
      · simp
end Go.Ev
end

section
/- Laws of the plain library: lists of parts, as spec takes them. -/
set_option linter.unusedVariables false
namespace Go.Ev
theorem partsL_end (q : Bool) (cur : List UInt8) : partsL q cur [] = [cur] := by cases q <;> rfl
theorem parts_q {l : List UInt8} {f i : Nat} (hf : f ≤ i) (h : i < l.length) : partsL true ((l.take i).drop f) (l.drop i) =
    if l[i] = 34 then partsL false ((l.take (i + 1)).drop f) (l.drop (i + 1))
    else if l[i] = 92 then (if i + 1 < l.length then partsL true ((l.take (i + 2)).drop f) (l.drop (i + 2)) else [l.drop f])
    else partsL true ((l.take (i + 1)).drop f) (l.drop (i + 1)) := by
  have hc := drop_cons' h
  have hs := seg_succ (f := f) hf h
  by_cases hl : i + 1 < l.length
  · have hc1 := drop_cons' hl
    have hs2 := seg_succ (f := f) (i := i + 1) (by omega) hl
    rw [hc, hc1, partsL_in, ← hc1, if_pos hl, hs]
    rw [hs, List.append_assoc] at hs2
    have hs2 : List.drop f (List.take (i + 2) l) = List.drop f (List.take i l) ++ [l[i], l[i + 1]] := hs2
    rw [hs2]
  · have hn : l.drop (i + 1) = [] := List.drop_eq_nil_of_le (by omega)
    have ha : (l.take (i + 1)).drop f = l.drop f := by rw [List.take_of_length_le (by omega)]
    rw [hc, hn, partsL_one, ← hs, partsL_end, partsL_end, if_neg hl, ha]
    split
    · rfl
    · split <;> rfl
theorem spec_SplitList_ok (a0 : S) (h : pSplitList a0) : s_spec_SplitList a0 (fun r => r = mSplitList a0) := by
  unfold pSplitList sm at h
  intro L hL
  have hl := bs_len a0
  refine loopI hL (fun y => ∃ f i : Nat, y.2.1 = (f : Int) ∧ y.2.2.2 = (i : Int) ∧ i ≤ a0.size + 1 ∧ y.1.length ≤ i ∧
      (i ≤ a0.size → f ≤ i ∧ y.1 ++ trimmed (partsL y.2.2.1 (((bs a0).take i).drop f) ((bs a0).drop i)) = mSplitList a0) ∧
      (i = a0.size + 1 → (f < a0.size → y.2.2.1 = true ∧ y.1 ++ trimmed [(bs a0).drop f] = mSplitList a0) ∧ (¬ f < a0.size → y.1 = mSplitList a0)))
    (fun y => a0.size + 1 - y.2.2.2.toNat) (fun y hI ih => ?_) ([], 0, false, 0) ⟨0, 0, rfl, rfl, by omega, by simp, fun _ => ⟨by omega, rfl⟩, fun h => by omega⟩
  obtain ⟨out, y2, q, y4⟩ := y
  obtain ⟨f, i, hy2, hy4, hi, hol, h1, h2⟩ := hI
  simp only at hy2 hy4 hol h1 h2 ⊢
  subst hy2; subst hy4
  have hsz : ∀ a b : Nat, pTrim (a0.extract a b) := fun a b => by
    unfold pTrim sm
    have := bs_len (a0.extract a b)
    rw [bs_extract, List.length_take, List.length_drop] at this
    omega
  have d0 : (0 : Int) ≤ (i : Int) := by omega
  have f0 : (0 : Int) ≤ (f : Int) := by omega
  have hcap : ∀ p : S, (out.length + [p].length) * 16 ≤ 140737488355328 := fun p => by simp only [List.length_singleton]; omega
  have hw : IntKind.i64.wrap ((i : Int) + 1) = ((i + 1 : Nat) : Int) := wrapS (by omega)
  have hw2 : IntKind.i64.wrap (((i + 1 : Nat) : Int) + 1) = ((i + 2 : Nat) : Int) := wrapS (by omega)
  by_cases hgt : i = a0.size + 1
  · obtain ⟨ha, hb⟩ := h2 hgt
    refine ⟨fun hle => by omega, fun _ => ⟨fun hf => ⟨fun hq => ⟨f0, by omega, hsz _ _, fun hp => ⟨hcap _, ?_⟩, fun hp => ?_⟩, fun hq => absurd (ha (by omega)).1 hq⟩, fun hf => hb (by omega)⟩⟩
    · have e := (ha (by omega)).2
      rw [Int.toNat_natCast] at hp ⊢
      rw [ext_seg, List.take_of_length_le (by omega)] at hp ⊢
      rw [trimmed_cons, trimmed_nil, if_pos hp] at e
      exact e
    · have e := (ha (by omega)).2
      rw [Int.toNat_natCast] at hp
      rw [ext_seg, List.take_of_length_le (by omega)] at hp
      rw [trimmed_cons, trimmed_nil, if_neg hp] at e
      simpa using e
  · obtain ⟨hfi, e⟩ := h1 (by omega)
    have d1 : (i : Int) ≤ (a0.size : Int) := by omega
    have hm : (if (a0.size : Int) < (i : Int) then (a0.size : Int) else (i : Int)) = (i : Int) := if_neg (by omega)
    have hfi' : (f : Int) ≤ (i : Int) := by omega
    by_cases hlt : i < a0.size
    · have d2 : (i : Int) < (a0.size : Int) := by omega
      have d3 : ¬ (a0.size : Int) ≤ (i : Int) := by omega
      have hi3 : i < (bs a0).length := by omega
      have hc := drop_cons' hi3
      have hs := seg_succ (l := bs a0) (f := f) (i := i) hfi hi3
      have b34 : bt a0 (i : Int) = 34 ↔ _ := byte_eq hlt 34 (by omega)
      have b92 : bt a0 (i : Int) = 92 ↔ _ := byte_eq hlt 92 (by omega)
      have b44 : bt a0 (i : Int) = 44 ↔ _ := byte_eq hlt 44 (by omega)
      have next : ∀ (out' : List S) (f' : Nat) (q' : Bool), out'.length ≤ i + 1 → f' ≤ i + 1 → out' ++ trimmed (partsL q' (((bs a0).take (i + 1)).drop f') ((bs a0).drop (i + 1))) = mSplitList a0 → L (out', (f' : Int), q', ((i + 1 : Nat) : Int)) := fun out' f' q' hlen hf' e' =>
        ih _ ⟨f', i + 1, rfl, rfl, by omega, hlen, fun _ => ⟨hf', e'⟩, fun hh => by omega⟩ (by simp only [Int.toNat_natCast]; omega)
      have hne1 : ((34 : Int) = 92) = False := by decide
      have hne2 : ((34 : Int) = 44) = False := by decide
      have hne3 : ((44 : Int) = 92) = False := by decide
      have hne4 : ((44 : Int) = 34) = False := by decide
      have hne5 : ((92 : Int) = 34) = False := by decide
      have hne6 : ((92 : Int) = 44) = False := by decide
      have piece : out ++ trimmed (partsL q (((bs a0).take i).drop f) ((bs a0).drop i)) = mSplitList a0 := e
      by_cases c34 : bt a0 (i : Int) = 34
      · have e34 := b34.1 c34
        cases q with
        | false =>
          rw [hc] at e
          simp only [d1, d2, d3, d0, hm, hw, hw2, c34, hne1, hne2, Bool.false_eq_true, not_false_eq_true, not_true_eq_false, true_implies, false_implies, true_and, and_true, decide_true, decide_false]
          rw [partsL_out, if_pos (by rw [e34]; rfl), ← hs] at e
          exact next out f true (by omega) (by omega) e
        | true =>
          simp only [d1, d2, d3, d0, hm, hw, hw2, c34, hne1, hne2, not_false_eq_true, not_true_eq_false, true_implies, false_implies, true_and, and_true, decide_true, decide_false]
          rw [parts_q hfi hi3, if_pos (by rw [e34]; rfl)] at e
          exact next out f false (by omega) (by omega) e
      · have n34 : ¬ (bs a0)[i] = 34 := fun h => c34 (b34.2 (by rw [h]; rfl))
        cases q with
        | true =>
          rw [parts_q hfi hi3, if_neg n34] at e
          by_cases c92 : bt a0 (i : Int) = 92
          · have e92 := b92.1 c92
            simp only [d1, d2, d3, d0, hm, hw, hw2, c92, hne5, hne6, not_false_eq_true, not_true_eq_false, true_implies, false_implies, true_and, and_true, decide_true, decide_false]
            rw [if_pos (by rw [e92]; rfl)] at e
            refine ih (out, (f : Int), true, ((i + 2 : Nat) : Int)) ⟨f, i + 2, rfl, rfl, by omega, (by show out.length ≤ i + 2; omega), fun hle => ⟨by omega, ?_⟩, fun heq => ⟨fun _ => ⟨rfl, ?_⟩, fun hn => absurd (by omega) hn⟩⟩ (by simp only [Int.toNat_natCast]; omega)
            · rw [if_pos (by omega)] at e; exact e
            · rw [if_neg (by omega)] at e; exact e
          · have n92 : ¬ (bs a0)[i] = 92 := fun h => c92 (b92.2 (by rw [h]; rfl))
            rw [if_neg n92] at e
            by_cases c44 : bt a0 (i : Int) = 44
            · simp only [d1, d2, d3, d0, hm, hw, hw2, c44, hne3, hne4, not_false_eq_true, not_true_eq_false, true_implies, false_implies, true_and, and_true, decide_true, decide_false]
              exact next out f true (by omega) (by omega) e
            · simp only [d1, d2, d3, d0, hm, hw, hw2, c34, c92, c44, not_false_eq_true, not_true_eq_false, true_implies, false_implies, true_and, and_true, decide_true, decide_false]
              exact next out f true (by omega) (by omega) e
        | false =>
          rw [hc, partsL_out, if_neg n34] at e
          by_cases c44 : bt a0 (i : Int) = 44
          · have e44 := b44.1 c44
            rw [if_pos (by rw [e44]; rfl), trimmed_cons] at e
            simp only [d1, d2, d3, d0, f0, hfi', hm, hw, hw2, c44, hne3, hne4, hsz, hcap, Bool.false_eq_true, not_false_eq_true, not_true_eq_false, true_implies, false_implies, true_and, and_true, decide_true, decide_false, Int.toNat_natCast]
            have hn : ((bs a0).take (i + 1)).drop (i + 1) = [] := List.drop_eq_nil_of_le (by rw [List.length_take]; omega)
            refine ⟨fun hp => ?_, fun hp => ?_⟩
            · rw [ext_seg] at hp ⊢
              rw [if_pos hp] at e
              exact next _ (i + 1) false (by simp only [List.length_append, List.length_singleton]; omega) (by omega) (by rw [hn, List.append_assoc]; exact e)
            · rw [ext_seg] at hp
              rw [if_neg hp] at e
              exact next _ (i + 1) false (by omega) (by omega) (by rw [hn]; exact e)
          · have n44 : ¬ (bs a0)[i] = 44 := fun h => c44 (b44.2 (by rw [h]; rfl))
            rw [if_neg n44, ← hs] at e
            simp only [d1, d2, d3, d0, hm, hw, hw2, c34, c44, Bool.false_eq_true, not_false_eq_true, not_true_eq_false, true_implies, false_implies, true_and, and_true, decide_true, decide_false]
            exact next out f false (by omega) (by omega) e
    · have hie : i = a0.size := by omega
      subst hie
      have hn : (bs a0).drop a0.size = [] := List.drop_eq_nil_of_le (by omega)
      rw [hn, partsL_end, trimmed_cons, trimmed_nil] at e
      have d2 : ¬ (a0.size : Int) < (a0.size : Int) := by omega
      have d3 : (a0.size : Int) ≤ (a0.size : Int) := by omega
      simp only [d1, d2, d3, d0, f0, hfi', hm, hw, hsz, hcap, not_false_eq_true, not_true_eq_false, true_implies, false_implies, true_and, and_true, Int.toNat_natCast, if_false]
      have fin : ∀ out' : List S, out'.length ≤ a0.size + 1 → out' = mSplitList a0 → L (out', ((a0.size + 1 : Nat) : Int), q, ((a0.size + 1 : Nat) : Int)) := fun out' hlen e' =>
        ih _ ⟨a0.size + 1, a0.size + 1, rfl, rfl, by omega, hlen, fun hh => by omega, fun _ => ⟨fun hh => by omega, fun _ => e'⟩⟩ (by simp only [Int.toNat_natCast]; omega)
      refine ⟨fun hp => ?_, fun hp => ?_⟩
      · rw [ext_seg] at hp ⊢
        rw [if_pos hp] at e
        exact fin _ (by simp only [List.length_append, List.length_singleton]; omega) e
      · rw [ext_seg] at hp
        rw [if_neg hp] at e
        exact fin _ (by omega) (by simpa using e)
end Go.Ev
end

section
/- Laws of the plain library: directives. -/
set_option linter.unusedVariables false
namespace Go.Ev
theorem index_first {l : List UInt8} {c : UInt8} {k : Nat} (hk : l[k]? = some c) (hf : ∀ j, j < k → l[j]? ≠ some c) : Lib.indexByte l c = (k : Int) := by
  have hge := Lib.indexByte_ge l c
  by_cases hn : Lib.indexByte l c = -1
  · exact absurd hk (Lib.indexByte_none hn k)
  · obtain ⟨o, ho⟩ : ∃ o : Nat, Lib.indexByte l c = (o : Int) := ⟨(Lib.indexByte l c).toNat, by omega⟩
    obtain ⟨h1, h2⟩ := Lib.indexByte_some ho
    rcases Nat.lt_trichotomy o k with h | h | h
    · exact absurd h1 (hf o h)
    · rw [ho, h]
    · exact absurd hk (h2 k h)
theorem index_not {l : List UInt8} {c : UInt8} (hf : ∀ j, j < l.length → l[j]? ≠ some c) : Lib.indexByte l c = -1 := by
  have hge := Lib.indexByte_ge l c
  by_cases hn : Lib.indexByte l c = -1
  · exact hn
  · obtain ⟨o, ho⟩ : ∃ o : Nat, Lib.indexByte l c = (o : Int) := ⟨(Lib.indexByte l c).toNat, by omega⟩
    obtain ⟨h1, h2⟩ := Lib.indexByte_some ho
    exact absurd h1 (hf o (List.getElem?_eq_some_iff.1 h1).1)
theorem cut_at {p : S} {k : Nat} (hk : k < p.size) (hb : bt p (k : Int) = 61) (hf : ∀ j, j < k → bt p (j : Int) ≠ 61) : (mCut p (lit [61])).1 = p.extract 0 k ∧ (mCut p (lit [61])).2.1 = p.extract (k + 1) p.size := by
  have hl := bs_len p
  have e : Lib.index (bs p) (bs (lit [61])) = (k : Int) := by
    rw [show bs (lit [61]) = [61] from rfl, Lib.index_one]
    refine index_first ?_ fun j hj hh => ?_
    · rw [List.getElem?_eq_getElem (by omega), (byte_eq hk 61 (by omega)).1 hb]; rfl
    · rw [List.getElem?_eq_getElem (by omega)] at hh
      exact hf j hj ((byte_eq (by omega) 61 (by omega)).2 (Option.some.inj hh))
  unfold mCut Lib.cut
  rw [e, if_pos (by omega)]
  refine ⟨bs_inj ?_, bs_inj ?_⟩
  · rw [bs_ob, bs_extract]; simp
  · rw [bs_ob, bs_extract]
    show (bs p).drop ((k : Int).toNat + 1) = _
    rw [Int.toNat_natCast]
    exact (List.take_of_length_le (by rw [List.length_drop]; omega)).symm
theorem cut_none {p : S} (hf : ∀ j, j < p.size → bt p (j : Int) ≠ 61) : (mCut p (lit [61])).1 = p.extract 0 p.size ∧ (mCut p (lit [61])).2.1 = lit [] := by
  have hl := bs_len p
  have e : Lib.index (bs p) (bs (lit [61])) = -1 := by
    rw [show bs (lit [61]) = [61] from rfl, Lib.index_one]
    refine index_not fun j hj hh => ?_
    rw [List.getElem?_eq_getElem hj] at hh
    exact hf j (by omega) ((byte_eq (by omega) 61 (by omega)).2 (Option.some.inj hh))
  unfold mCut Lib.cut
  rw [e, if_neg (by omega)]
  refine ⟨bs_inj ?_, rfl⟩
  rw [bs_ob, bs_extract, List.drop_zero, List.take_of_length_le (by omega)]
theorem cut_sizes (p : S) : (mCut p (lit [61])).1.size ≤ p.size ∧ (mCut p (lit [61])).2.1.size ≤ p.size := by
  have hl := bs_len p
  unfold mCut Lib.cut
  split
  · simp only [ob_size, List.length_take, List.length_drop]; omega
  · simp only [ob_size, List.length_nil]; omega
theorem extract_size (p : S) (a b : Nat) : (p.extract a b).size ≤ p.size := by
  have := bs_len (p.extract a b)
  have hl := bs_len p
  rw [bs_extract, List.length_take, List.length_drop] at this
  omega
theorem gather {parts : List S} (hn : parts.length ≤ 1073741824) {B L : List Fld × Int → Prop} (hL : ∀ y, B y → L y)
    (step : ∀ (out : List Fld) (i : Nat) (hi : i < parts.length), out.length ≤ i → (dirOf parts[i] = none → L (out, IntKind.i64.wrap ((i : Int) + 1))) → (∀ d, dirOf parts[i] = some d → L (out ++ [d], IntKind.i64.wrap ((i : Int) + 1))) → B (out, (i : Int)))
    (fin : B (parts.filterMap dirOf, (parts.length : Int))) : L ([], 0) := by
  refine loopG hL parts.length (fun i y => y.2 = (i : Int) ∧ y.1.length ≤ i ∧ y.1 ++ (parts.drop i).filterMap dirOf = parts.filterMap dirOf) (fun i y hi hI ih => ?_) ⟨rfl, by simp, rfl⟩
  obtain ⟨out, y2⟩ := y
  obtain ⟨h1, h2, h3⟩ := hI
  simp only at h1 h2 h3
  subst h1
  by_cases hlt : i < parts.length
  · have hw : IntKind.i64.wrap ((i : Int) + 1) = ((i + 1 : Nat) : Int) := wrapS (by omega)
    rw [drop_cons' hlt] at h3
    refine step out i hlt h2 (fun hd => ?_) (fun d hd => ?_)
    · rw [List.filterMap_cons_none hd] at h3
      exact ih _ hlt ⟨hw, by simp only; omega, h3⟩
    · rw [List.filterMap_cons_some hd] at h3
      exact ih _ hlt ⟨hw, by simp only [List.length_append, List.length_singleton]; omega, by simp only [List.append_assoc]; exact h3⟩
  · have hie : i = parts.length := by omega
    subst hie
    rw [List.drop_eq_nil_of_le (Nat.le_refl _)] at h3
    have h3 : out = parts.filterMap dirOf := by simpa using h3
    rw [h3]; exact fin
theorem unq_pos {b : S} (h1 : 2 ≤ (b.size : Int)) (h2 : bt b 0 = 34) (h3 : bt b ((b.size : Int) - 1) = 34) : b.extract 1 (b.size - 1) = mL7Unquote b := by
  unfold mL7Unquote; rw [if_pos ⟨h1, h2, h3⟩]
theorem unq_neg {b : S} (h : ¬ (2 ≤ (b.size : Int) ∧ bt b 0 = 34 ∧ bt b ((b.size : Int) - 1) = 34)) : b = mL7Unquote b := by
  unfold mL7Unquote; rw [if_neg h]
theorem impl_Directives_ok (a0 : List Fld) (h : pDirectives a0) : s_impl_Directives a0 (fun r => r = mDirectives a0) := by
  have hg := fieldGet_size a0 nameCC h
  refine ⟨h, by unfold pSplitList sm; exact Nat.le_trans hg (by omega), ?_⟩
  have hb := splitList_bound (mFieldGet a0 nameCC).1
  have hm : ∀ x ∈ mSplitList (mFieldGet a0 nameCC).1, x.size ≤ 3 * 1048576 := fun x hx => Nat.le_trans (splitList_mem hx) hg
  have ht : (mSplitList (mFieldGet a0 nameCC).1).filterMap dirOf = mDirectives a0 := rfl
  intro L hL
  have hlen : (mSplitList (mFieldGet a0 nameCC).1).length ≤ 1073741824 := by omega
  refine gather (parts := mSplitList (mFieldGet a0 nameCC).1) hlen hL (fun out i hi hol hnone hsome => ?_) ?_
  · unfold nameCC at *
    generalize mSplitList (mFieldGet a0 (lit [99, 97, 99, 104, 101, 45, 99, 111, 110, 116, 114, 111, 108])).1 = parts at *
    have hp := hm parts[i] (List.getElem_mem hi)
    have hc := cut_sizes parts[i]
    simp only [rx_nat parts i hi]
    unfold dirOf at hnone hsome
    generalize (mCut parts[i] (lit [61])).1 = a at *
    generalize (mCut parts[i] (lit [61])).2.1 = b at *
    refine ⟨fun _ => ⟨by omega, by omega, by unfold pCut sm; omega, by unfold pIsTokenText sm; omega, fun ct => hnone (if_neg ct), fun ct => ?_⟩, fun hn => absurd (by omega) hn⟩
    have hsome := hsome _ (if_pos (Classical.not_not.1 ct))
    have hcap : ∀ d : Fld, (out.length + [d].length) * 32 ≤ 140737488355328 := fun d => by simp only [List.length_singleton]; omega
    have hlow : pLower a := by unfold pLower sm; omega
    refine ⟨fun h2 => ?_, fun h2 => ⟨hlow, hcap _, by rw [← unq_neg (fun hh => h2 hh.1)] at hsome; exact hsome⟩⟩
    have hw : IntKind.i64.wrap ((b.size : Int) - 1) = (b.size : Int) - 1 := wrap64 (by omega) (by omega)
    rw [hw]
    refine ⟨by omega, by omega, fun h3 => ⟨by omega, by omega, fun h4 => ⟨by omega, by omega, by omega, hlow, hcap _, ?_⟩, fun h4 => ⟨hlow, hcap _, ?_⟩⟩, fun h3 => ⟨hlow, hcap _, ?_⟩⟩
    · rw [← unq_pos h2 h3 h4] at hsome
      rw [show ((b.size : Int) - 1).toNat = b.size - 1 by omega]
      exact hsome
    · rw [← unq_neg (fun hh => h4 hh.2.2)] at hsome; exact hsome
    · rw [← unq_neg (fun hh => h3 hh.2.1)] at hsome; exact hsome
  · exact ⟨fun hh => absurd hh (by unfold nameCC; omega), fun _ => ht⟩
theorem spec_Directives_ok (a0 : List Fld) (h : pDirectives a0) : s_spec_Directives a0 (fun r => r = mDirectives a0) := by
  have hg := fieldGet_size a0 nameCC h
  refine ⟨h, by unfold pSplitList sm; exact Nat.le_trans hg (by omega), ?_⟩
  have hb := splitList_bound (mFieldGet a0 nameCC).1
  have hm : ∀ x ∈ mSplitList (mFieldGet a0 nameCC).1, x.size ≤ 3 * 1048576 := fun x hx => Nat.le_trans (splitList_mem hx) hg
  have ht : (mSplitList (mFieldGet a0 nameCC).1).filterMap dirOf = mDirectives a0 := rfl
  intro L hL
  have hlen : (mSplitList (mFieldGet a0 nameCC).1).length ≤ 1073741824 := by omega
  refine gather (parts := mSplitList (mFieldGet a0 nameCC).1) hlen hL (fun out i hi hol hnone hsome => ?_) ?_
  · unfold nameCC at *
    generalize mSplitList (mFieldGet a0 (lit [99, 97, 99, 104, 101, 45, 99, 111, 110, 116, 114, 111, 108])).1 = parts at *
    have hp := hm parts[i] (List.getElem_mem hi)
    simp only [rx_nat parts i hi]
    unfold dirOf at hnone hsome
    generalize parts[i] = p at *
    refine ⟨fun _ => ⟨by omega, by omega, fun L2 hL2 => ?_⟩, fun hn => absurd (by omega) hn⟩
    have hcap : ∀ d : Fld, (out.length + [d].length) * 32 ≤ 140737488355328 := fun d => by simp only [List.length_singleton]; omega
    have tok : ∀ a b, pIsTokenText (p.extract a b) := fun a b => by have := extract_size p a b; unfold pIsTokenText sm; omega
    have low : ∀ a b, pLower (p.extract a b) := fun a b => by have := extract_size p a b; unfold pLower sm; omega
    have unq : ∀ a b, pL7Unquote (p.extract a b) := fun a b => by have := extract_size p a b; unfold pL7Unquote sm; omega
    refine loopN hL2 p.size (by omega) (fun k => ∀ j, j < k → bt p (j : Int) ≠ 61) (fun k hk hI ih => ?_) (fun j hj => by omega)
    have hwk : k < p.size → IntKind.i64.wrap ((k : Int) + 1) = ((k + 1 : Nat) : Int) := fun _ => wrapS (by omega)
    refine ⟨fun hlt => ?_, fun hge => ?_⟩
    · have hlt : k < p.size := by omega
      refine ⟨by omega, by omega, fun h61 => ih hlt fun j hj => ?_, fun h61 => ?_⟩
      · by_cases e : j = k
        · subst e; exact h61
        · exact hI j (by omega)
      · obtain ⟨e1, e2⟩ := cut_at hlt (Classical.not_not.1 h61) hI
        rw [e1] at hnone hsome
        rw [e2] at hsome
        rw [hwk hlt, Int.toNat_natCast, Int.toNat_natCast]
        refine ⟨by omega, by omega, tok _ _, fun ct => hnone (if_neg ct), fun ct => ⟨by omega, by omega, low _ _, fun _ => ⟨by omega, by omega, unq _ _, hcap _, hsome _ (if_pos (Classical.not_not.1 ct))⟩, fun hh => absurd (by omega) hh⟩⟩
    · have hke : k = p.size := by omega
      subst hke
      obtain ⟨e1, e2⟩ := cut_none hI
      rw [e1] at hnone hsome
      rw [e2] at hsome
      have hu : mL7Unquote (lit []) = lit [] := (unq_neg (fun hh => by have := hh.1; have h0 : (lit []).size = 0 := rfl; omega)).symm
      rw [hu] at hsome
      rw [Int.toNat_natCast]
      refine ⟨by omega, by omega, tok _ _, fun ct => hnone (if_neg ct), fun ct => ⟨by omega, by omega, low _ _, fun hh => absurd hh (by omega), fun _ => ⟨hcap _, hsome _ (if_pos (Classical.not_not.1 ct))⟩⟩⟩
  · exact ⟨fun hh => absurd hh (by unfold nameCC; omega), fun _ => ht⟩
end Go.Ev
end

section
/- Laws of the plain library: what may be stored, what may be shared. -/
set_option linter.unusedVariables false
namespace Go.Ev
end Go.Ev
end

section
/- Laws of the plain library: numerals that are read. -/
set_option linter.unusedVariables false
namespace Go.Ev
def dvs (l : List UInt8) : List Nat := l.filterMap Lib.digitVal
def dv (l : List UInt8) : Nat := (dvs l).foldl (fun a d => a * 10 + d) 0
def shown (l : List UInt8) : Int := if l.head? = some 45 then -(dv l : Int) else (dv l : Int)
end Go.Ev
end

section
/- Laws of the plain library: a numeral is read, as spec does. -/
set_option linter.unusedVariables false
namespace Go.Ev
end Go.Ev
end

section
/- Laws of the plain library: the version that a tag says. -/
set_option linter.unusedVariables false
namespace Go.Ev
end Go.Ev
end

section
/- Laws of the plain library: a numeral is read by the library. -/
set_option linter.unusedVariables false
namespace Go.Ev
theorem atoi_cons (b : UInt8) (r : List UInt8) : Lib.atoi (b :: r) = if b == 45 then (Lib.decNat r).map fun (m : Nat) => -(m : Int) else if b == 43 then (Lib.decNat r).map fun (m : Nat) => (m : Int) else (Lib.decNat (b :: r)).map fun (m : Nat) => (m : Int) := rfl
end Go.Ev
end

section
/- Laws of the plain library: dates that are read, as spec does. -/
set_option linter.unusedVariables false
namespace Go.Ev
theorem isDig_iff {b : UInt8} : isDig b = true ↔ 48 ≤ b.toNat ∧ b.toNat ≤ 57 := by unfold isDig; simp
theorem decFrom_val : ∀ (l : List UInt8) (a : Nat), l.all isDig = true → Lib.decFrom a l = some (valFrom a l)
  | [], a, _ => rfl
  | b :: l, a, h => by
    simp only [List.all_cons, Bool.and_eq_true] at h
    have hb := isDig_iff.1 h.1
    have e : Lib.digitVal b = some (b.toNat - 48) := by unfold Lib.digitVal; rw [if_pos hb]
    simp only [Lib.decFrom, e]
    exact decFrom_val l _ h.2
theorem val_lt : ∀ (l : List UInt8) (a : Nat), l.all isDig = true → valFrom a l < (a + 1) * 10 ^ l.length
  | [], a, _ => by simp [valFrom]
  | b :: l, a, h => by
    simp only [List.all_cons, Bool.and_eq_true] at h
    have hb := isDig_iff.1 h.1
    have ih := val_lt l (a * 10 + (b.toNat - 48)) h.2
    have e : valFrom a (b :: l) = valFrom (a * 10 + (b.toNat - 48)) l := rfl
    rw [e, List.length_cons, Nat.pow_succ]
    refine Nat.lt_of_lt_of_le ih ?_
    rw [Nat.mul_comm (10 ^ l.length) 10, ← Nat.mul_assoc]
    exact Nat.mul_le_mul_right _ (by omega)
theorem valL_lt {l : List UInt8} (h : l.all isDig = true) : valL l < 10 ^ l.length := by
  have := val_lt l 0 h
  unfold valL
  simpa using this
theorem atoiV_val {l : List UInt8} (hne : l ≠ []) (hd : l.all isDig = true) (hl : l.length ≤ 18) : atoiV (ob l) = (valL l : Int) := by
  cases l with
  | nil => exact absurd rfl hne
  | cons b r =>
    have hb := isDig_iff.1 (by simp only [List.all_cons, Bool.and_eq_true] at hd; exact hd.1 : isDig b = true)
    have h45 : (b == 45) = false := by
      rw [beq_eq_false_iff_ne]; rintro rfl; simp at hb
    have h43 : (b == 43) = false := by
      rw [beq_eq_false_iff_ne]; rintro rfl; simp at hb
    have e : Lib.atoi (b :: r) = some ((valL (b :: r) : Nat) : Int) := by
      rw [atoi_cons, h45, h43]
      simp only [Bool.false_eq_true, if_false]
      unfold Lib.decNat
      simp only [List.isEmpty_cons, Bool.false_eq_true, if_false]
      rw [decFrom_val _ _ hd]
      rfl
    unfold atoiV
    rw [bs_ob, Lib.atoiAll_short _ hl, e]
    rfl
theorem numL_le (l : List UInt8) : -1 ≤ numL l ∧ numL l < 10 ^ l.length := by
  unfold numL
  split
  · next h =>
    have := valL_lt h
    constructor
    · omega
    · exact_mod_cast this
  · constructor
    · omega
    · have : (0 : Int) < 10 ^ l.length := by exact_mod_cast Nat.pow_pos (by omega)
      omega
theorem valL_snoc (l : List UInt8) (b : UInt8) : valL (l ++ [b]) = valL l * 10 + (b.toNat - 48) := by
  unfold valL valFrom
  rw [List.foldl_append]; rfl
theorem spec_l4Num_ok (a0 : S) (a1 a2 : Int) (h : pL4Num a0 a1 a2) : s_spec_l4Num a0 a1 a2 (fun r => r = mL4Num a0 a1 a2) := by
  obtain ⟨h0, h1, h2, h3, h4⟩ := h
  unfold sm at h4
  have hl := bs_len a0
  have w0 : IntKind.i64.wrap (a1 + a2) = a1 + a2 := wrap64 (by omega) (by omega)
  unfold s_spec_l4Num
  rw [w0]
  have hT : ((bs a0).drop a1.toNat).length = a0.size - a1.toNat := by rw [List.length_drop, hl]
  intro L hL
  refine loopI hL (fun y => ∃ k : Nat, (k : Int) ≤ a2 ∧ y.2 = a1 + (k : Int) ∧ (((bs a0).drop a1.toNat).take k).all isDig = true ∧ y.1 = (valL (((bs a0).drop a1.toNat).take k) : Int)) (fun y => (a1 + a2 - y.2).toNat) (fun y hI ih => ?_) (0, a1) ⟨0, by omega, by simp, by simp, by simp [valL, valFrom]⟩
  obtain ⟨x, i⟩ := y
  obtain ⟨k, hk, hi, hd, hx⟩ := hI
  simp only at hi hx ⊢
  subst hi hx
  have hv := valL_lt hd
  refine ⟨fun hlt => ?_, fun hge => ?_⟩
  · have hkl : k < ((bs a0).drop a1.toNat).length := by omega
    have hin : a1.toNat + k < a0.size := by omega
    have hbt : bt a0 (a1 + (k : Int)) = ((((bs a0).drop a1.toNat)[k]).toNat : Int) := by
      have := bt_nat a0 (a1.toNat + k) hin
      rw [show ((a1.toNat + k : Nat) : Int) = a1 + (k : Int) by omega] at this
      rw [this, List.getElem_drop]
    have hmem : ((bs a0).drop a1.toNat)[k] ∈ ((bs a0).drop a1.toNat).take a2.toNat := by
      rw [List.mem_take_iff_getElem]
      exact ⟨k, by omega, rfl⟩
    have bad : ¬ isDig (((bs a0).drop a1.toNat)[k]) = true → -1 = mL4Num a0 a1 a2 := fun hb => by
      unfold mL4Num numL
      rw [if_neg fun hall => hb (List.all_eq_true.1 hall _ hmem)]
    have hx : ((((bs a0).drop a1.toNat)[k]).toNat) < 256 := UInt8.toNat_lt _
    have tk : ((bs a0).drop a1.toNat).take (k + 1) = ((bs a0).drop a1.toNat).take k ++ [((bs a0).drop a1.toNat)[k]] := by rw [List.take_add_one, List.getElem?_eq_getElem hkl]; rfl
    rw [hbt]
    generalize hB : ((bs a0).drop a1.toNat)[k] = B at *
    refine ⟨by omega, by omega, fun c => bad fun hh => by have := isDig_iff.1 hh; omega, fun c => ⟨by omega, by omega, fun c2 => bad fun hh => by have := isDig_iff.1 hh; omega, fun c2 => ⟨by omega, by omega, ?_⟩⟩⟩
    have hlen : (((bs a0).drop a1.toNat).take k).length ≤ 3 := by rw [List.length_take]; omega
    have hp : 10 ^ (((bs a0).drop a1.toNat).take k).length ≤ 10 ^ 3 := Nat.pow_le_pow_right (by omega) hlen
    have w8 : IntKind.u8.wrap ((B.toNat : Int) - 48) = (B.toNat : Int) - 48 := wrap8 (by omega) (by omega)
    have w1 : IntKind.i64.wrap ((B.toNat : Int) - 48) = (B.toNat : Int) - 48 := wrap64 (by omega) (by omega)
    have w2 : IntKind.i64.wrap ((valL (((bs a0).drop a1.toNat).take k) : Int) * 10) = (valL (((bs a0).drop a1.toNat).take k) : Int) * 10 := wrap64 (by omega) (by omega)
    have w3 : IntKind.i64.wrap ((valL (((bs a0).drop a1.toNat).take k) : Int) * 10 + ((B.toNat : Int) - 48)) = (valL (((bs a0).drop a1.toNat).take (k + 1)) : Int) := by
      rw [wrap64 (by omega) (by omega), tk, valL_snoc]; omega
    have w4 : IntKind.i64.wrap (a1 + (k : Int) + 1) = a1 + ((k + 1 : Nat) : Int) := by rw [wrap64 (by omega) (by omega)]; omega
    rw [w8, w1, w2, w3, w4]
    refine ih _ ⟨k + 1, by omega, rfl, ?_, rfl⟩ (by simp only; omega)
    rw [tk, List.all_append, hd]
    simp only [List.all_cons, List.all_nil, Bool.and_true, Bool.true_and]
    exact isDig_iff.2 (by omega)
  · have hke : a2.toNat = k := by omega
    unfold mL4Num numL
    rw [hke, if_pos hd]

def noSp (l : List UInt8) : Bool := l.all fun b => decide (b ≠ 32)
theorem year_tab : ∀ k : Fin 64, bs (mDec (1970 + ((k.val : Nat) : Int))) = yearL (1970 + k.val) ∧ numL (yearL (1970 + k.val)) = 1970 + ((k.val : Nat) : Int) ∧ noSp (yearL (1970 + k.val)) = true := by decide +kernel
theorem two_tab2 : ∀ k : Fin 100, numL (twoL k.val) = ((k.val : Nat) : Int) ∧ noSp (twoL k.val) = true := by decide +kernel
theorem week_tab2 : ∀ i : Fin 7, noSp (bs (rx weekL ((i.val : Nat) : Int))) = true := by decide +kernel
theorem month_tab2 : ∀ i : Fin 12, noSp (bs (rx monthL ((i.val : Nat) : Int))) = true ∧ monU (rx monthL ((i.val : Nat) : Int)) 12 = ((i.val + 1 : Nat) : Int) ∧ mIndex_string monthL (rx monthL ((i.val : Nat) : Int)) = ((i.val : Nat) : Int) := by decide +kernel
theorem three {l : List UInt8} (h : l.length = 3) : ∃ a b c, l = [a, b, c] := by
  match l, h with
  | [a, b, c], _ => exact ⟨a, b, c, rfl⟩
structure DateAt (s : S) (t : Int) (k j d hh mm ss : Nat) (w0 w1 w2 m0 m1 m2 : UInt8) : Prop where
  kL : k < 64
  jL : j < 12
  dL : 1 ≤ d ∧ (d : Int) ≤ mMonthDays (1970 + (k : Int)) ((j : Int) + 1)
  hL : hh < 24
  mL : mm < 60
  sL : ss < 60
  tE : t = ((d : Int) - 1 + daysY k + daysM (1970 + (k : Int)) j) * 86400 + (hh : Int) * 3600 + (mm : Int) * 60 + (ss : Int)
  mon : bs (rx monthL (j : Int)) = [m0, m1, m2]
  wk : noSp [w0, w1, w2] = true
  bytes : bs s = [w0, w1, w2, 44, 32] ++ (twoL d ++ (32 :: ([m0, m1, m2] ++ (32 :: (yearL (1970 + k) ++ (32 :: (twoL hh ++ 58 :: (twoL mm ++ 58 :: (twoL ss ++ [32, 71, 77, 84])))))))))
theorem date_at {s : S} {t : Int} (h : isDate s t) : ∃ k j d hh mm ss w0 w1 w2 m0 m1 m2, DateAt s t k j d hh mm ss w0 w1 w2 m0 m1 m2 := by
  obtain ⟨h0, h1, rfl⟩ := h
  obtain ⟨k, j, civ, hk⟩ := civil_ex (n := t / 86400) (by omega) (by omega)
  obtain ⟨w0, w1, w2, hw⟩ := three (l := bs (rx weekL (t / 86400 % 7))) (by rw [bs_len]; exact week_size (by omega) (by omega))
  obtain ⟨m0, m1, m2, hm⟩ := three (l := bs (rx monthL (j : Int))) (by rw [bs_len]; exact month_size (by omega) (by have := civ.2.1; omega))
  have hj := civ.2.1
  have e1 := civ.2.2.1
  have e2 := civ.2.2.2
  simp only [daysM] at e2
  refine ⟨k, j, (t / 86400 - daysY k - daysM (1970 + (k : Int)) j + 1).toNat, (t / 3600 % 24).toNat, (t / 60 % 60).toNat, (t % 60).toNat, w0, w1, w2, m0, m1, m2, hk, hj, ⟨by omega, by omega⟩, by omega, by omega, by omega, by omega, hm, ?_, ?_⟩
  · have := week_tab2 ⟨(t / 86400 % 7).toNat, by omega⟩
    simp only at this
    rw [show (((t / 86400 % 7).toNat : Nat) : Int) = t / 86400 % 7 by omega, hw] at this
    exact this
  · rw [showDate_at h0 h1 civ]
    obtain ⟨y1, _, _⟩ := year_tab ⟨k, hk⟩
    simp only at y1
    unfold showT
    simp only [bs_append, hw, hm, y1, bs_lit, mTwo, bs_ob, List.append_assoc, List.map_cons, List.map_nil, List.cons_append, List.nil_append]
    rfl
theorem noSp_two {n : Nat} (h : n < 100) : numL (twoL n) = (n : Int) ∧ noSp (twoL n) = true := two_tab2 ⟨n, h⟩
theorem date_spec {s : S} {t : Int} (h : isDate s t) : (s.size : Int) = 29 ∧ 0 ≤ mDaysOf (mL4Num s 12 4) (monU (s.extract 8 11) 12) (mL4Num s 5 2) ∧ 0 ≤ mL4Num s 17 2 ∧ 0 ≤ mL4Num s 20 2 ∧ 0 ≤ mL4Num s 23 2 ∧
    mDaysOf (mL4Num s 12 4) (monU (s.extract 8 11) 12) (mL4Num s 5 2) * 86400 + mL4Num s 17 2 * 3600 + mL4Num s 20 2 * 60 + mL4Num s 23 2 = t := by
  obtain ⟨k, j, d, hh, mm, ss, w0, w1, w2, m0, m1, m2, H⟩ := date_at h
  have hd31 := (monthDays_range (1970 + (k : Int)) (m := (j : Int) + 1) (by omega) (by have := H.jL; omega)).2
  have h1 := H.dL
  have sz : s.size = 29 := by rw [← bs_len, H.bytes]; rfl
  have y : mL4Num s 12 4 = 1970 + (k : Int) := by
    show numL (((bs s).drop 12).take 4) = _
    rw [H.bytes]
    exact (year_tab ⟨k, H.kL⟩).2.1
  have e5 : mL4Num s 5 2 = (d : Int) := by
    show numL (((bs s).drop 5).take 2) = _
    rw [H.bytes]
    exact (noSp_two (by omega)).1
  have e17 : mL4Num s 17 2 = (hh : Int) := by
    show numL (((bs s).drop 17).take 2) = _
    rw [H.bytes]
    exact (noSp_two (by have := H.hL; omega)).1
  have e20 : mL4Num s 20 2 = (mm : Int) := by
    show numL (((bs s).drop 20).take 2) = _
    rw [H.bytes]
    exact (noSp_two (by have := H.mL; omega)).1
  have e23 : mL4Num s 23 2 = (ss : Int) := by
    show numL (((bs s).drop 23).take 2) = _
    rw [H.bytes]
    exact (noSp_two (by have := H.sL; omega)).1
  have em : s.extract 8 11 = rx monthL (j : Int) := by
    apply bs_inj
    rw [bs_extract, H.bytes, H.mon]
    rfl
  have mo : monU (s.extract 8 11) 12 = (j : Int) + 1 := by
    rw [em]
    have := (month_tab2 ⟨j, H.jL⟩).2.1
    simp only at this
    rw [this]; omega
  rw [y, e5, e17, e20, e23, mo]
  have hj := H.jL
  have hk := H.kL
  have hy : mDaysOf (1970 + (k : Int)) ((j : Int) + 1) (d : Int) = (d : Int) - 1 + daysY k + daysM (1970 + (k : Int)) j := by
    rw [← daysOf_yes (in_iff.2 ⟨by omega, by omega⟩) (in_iff.2 ⟨by omega, by omega⟩) (in_iff.2 ⟨by omega, h1.2⟩)]
    rw [show (1970 + (k : Int) - 1970).toNat = k by omega, show ((j : Int) + 1 - 1).toNat = j by omega]
  have r1 := daysY_range k
  have r2 := daysM_range (1970 + (k : Int)) j (by omega)
  rw [hy]
  refine ⟨by omega, by omega, by omega, by omega, by omega, H.tE.symm⟩
theorem date_uniq {s : S} {t t' : Int} (h : isDate s t) (h' : isDate s t') : t = t' := (date_spec h).2.2.2.2.2.symm.trans (date_spec h').2.2.2.2.2
theorem readDate_no {s : S} (h : ∀ t, ¬ isDate s t) : (0, false) = mReadDate s := by
  unfold mReadDate
  rw [dif_neg fun ⟨t, ht⟩ => h t ht]
theorem readDate_yes {s : S} {t : Int} (h : isDate s t) : (t, true) = mReadDate s := by
  have hx : ∃ t, isDate s t := ⟨t, h⟩
  unfold mReadDate
  rw [dif_pos hx, date_uniq h (Classical.choose_spec hx)]
theorem daysOf_bound (y m d : Int) : -1 ≤ mDaysOf y m d ∧ mDaysOf y m d ≤ 30000 := by
  unfold mDaysOf
  split
  · next h =>
    simp only [Bool.and_eq_true] at h
    have iy := in_iff.1 h.1.1
    have im := in_iff.1 h.1.2
    have id := in_iff.1 h.2
    have hr := monthDays_range y im.1 im.2
    have r1 := daysY_range (y - 1970).toNat
    have r2 := daysM_range y (m - 1).toNat (by omega)
    omega
  · omega
theorem date_back {s : S} {t : Int} (hs : (s.size : Int) = 29) (h : mShowDate t = s) : isDate s t := by
  by_cases hr : 0 ≤ t ∧ t ≤ 2000000000
  · exact ⟨hr.1, hr.2, h⟩
  · rw [← showDate_no hr] at h
    rw [← h] at hs
    exact absurd hs (by decide)
theorem l4_bound (s : S) (i : Int) : -1 ≤ mL4Num s i 2 ∧ mL4Num s i 2 ≤ 99 := by
  have h := numL_le (((bs s).drop i.toNat).take 2)
  have hl : (((bs s).drop i.toNat).take 2).length ≤ 2 := by rw [List.length_take]; omega
  have hp : (10 : Int) ^ (((bs s).drop i.toNat).take 2).length ≤ 10 ^ 2 := by exact_mod_cast Nat.pow_le_pow_right (by omega) hl
  have e : mL4Num s i 2 = numL (((bs s).drop i.toNat).take 2) := rfl
  rw [e]
  omega
theorem spec_ReadDate_ok (a0 : S) (h : pReadDate a0) : s_spec_ReadDate a0 (fun r => r = mReadDate a0) := by
  refine ⟨fun hn => readDate_no fun t ht => hn (date_spec ht).1, fun hs => ?_⟩
  have hs : (a0.size : Int) = 29 := Classical.not_not.1 hs
  intro L hL
  refine loopI hL (fun y => ∃ i : Nat, i ≤ 12 ∧ y.2 = 1 + (i : Int) ∧ y.1 = monU (a0.extract 8 11) i) (fun y => (13 - y.2).toNat) (fun y hI ih => ?_) (0, 1) ⟨0, by omega, by simp, rfl⟩
  obtain ⟨x, m⟩ := y
  obtain ⟨i, hi, hm, hx⟩ := hI
  simp only at hm hx ⊢
  subst hm hx
  have wm : IntKind.i64.wrap (1 + (i : Int) - 1) = (i : Int) := by rw [wrap64 (by omega) (by omega)]; omega
  have wn : IntKind.i64.wrap (1 + (i : Int) + 1) = 1 + ((i + 1 : Nat) : Int) := by rw [wrap64 (by omega) (by omega)]; omega
  rw [wm, wn]
  refine ⟨fun hle => ⟨by decide, by decide, by omega, by omega, by show _ < (12 : Int); omega, fun he => ?_, fun he => ?_⟩, fun hge => ?_⟩
  · refine ih _ ⟨i + 1, by omega, rfl, ?_⟩ (by simp only; omega)
    have he : a0.extract 8 11 = rx monthL (i : Int) := he
    simp only [monU]
    rw [if_pos he]; omega
  · refine ih _ ⟨i + 1, by omega, rfl, ?_⟩ (by simp only; omega)
    have he : ¬ a0.extract 8 11 = rx monthL (i : Int) := he
    simp only [monU]
    rw [if_neg he]
  · have hie : i = 12 := by omega
    subst hie
    have hsm : sm a0 := h
    have P := fun t (ht : isDate a0 t) => date_spec ht
    have b0 := daysOf_bound (mL4Num a0 12 4) (monU (a0.extract 8 11) 12) (mL4Num a0 5 2)
    have b1 := l4_bound a0 17
    have b2 := l4_bound a0 20
    have b3 := l4_bound a0 23
    have no : ∀ {p : Prop}, (∀ t, isDate a0 t → p) → ¬ p → (0, false) = mReadDate a0 := fun hp hn => readDate_no fun t ht => hn (hp t ht)
    refine ⟨⟨by omega, by omega, by omega, by omega, hsm⟩, ⟨by omega, by omega, by omega, by omega, hsm⟩, trivial, ⟨by omega, by omega, by omega, by omega, hsm⟩, ⟨by omega, by omega, by omega, by omega, hsm⟩, ⟨by omega, by omega, by omega, by omega, hsm⟩, ?_⟩
    generalize hD : mDaysOf (mL4Num a0 12 4) (monU (a0.extract 8 11) 12) (mL4Num a0 5 2) = D at *
    generalize hA : mL4Num a0 17 2 = A at *
    generalize hB : mL4Num a0 20 2 = B at *
    generalize hC : mL4Num a0 23 2 = C at *
    have w1 : IntKind.i64.wrap (D * 86400) = D * 86400 := wrap64 (by omega) (by omega)
    have w2 : IntKind.i64.wrap (A * 3600) = A * 3600 := wrap64 (by omega) (by omega)
    have w3 : IntKind.i64.wrap (D * 86400 + A * 3600) = D * 86400 + A * 3600 := wrap64 (by omega) (by omega)
    have w4 : IntKind.i64.wrap (B * 60) = B * 60 := wrap64 (by omega) (by omega)
    have w5 : IntKind.i64.wrap (D * 86400 + A * 3600 + B * 60) = D * 86400 + A * 3600 + B * 60 := wrap64 (by omega) (by omega)
    have w6 : IntKind.i64.wrap (D * 86400 + A * 3600 + B * 60 + C) = D * 86400 + A * 3600 + B * 60 + C := wrap64 (by omega) (by omega)
    rw [w1, w2, w3, w4, w5, w6]
    refine ⟨fun c => no (fun t ht => (P t ht).2.1) (by omega), fun c0 => ⟨fun c => no (fun t ht => (P t ht).2.2.1) (by omega), fun c1 => ⟨fun c => no (fun t ht => (P t ht).2.2.2.1) (by omega), fun c2 => ⟨fun c => no (fun t ht => (P t ht).2.2.2.2.1) (by omega), fun c3 => ⟨⟨by omega, by omega⟩, fun c => readDate_no fun t ht => c ?_, fun c => readDate_yes (date_back hs (Classical.not_not.1 c))⟩⟩⟩⟩⟩
    rw [(P t ht).2.2.2.2.2]
    exact ht.2.2
theorem spec_DateOf_ok (a0 : List Fld) (a1 : S) (h : pDateOf a0 a1) : s_spec_DateOf a0 a1 (fun r => r = mDateOf a0 a1) :=
  ⟨h, fun hn => by unfold mDateOf; rw [if_neg hn], fun hy => ⟨by have := fieldGet_size a0 a1 h; show ByteArray.size _ ≤ _; omega, by unfold mDateOf; rw [if_pos (Classical.not_not.1 hy)]⟩⟩
theorem impl_DateOf_ok (a0 : List Fld) (a1 : S) (h : pDateOf a0 a1) : s_impl_DateOf a0 a1 (fun r => r = mDateOf a0 a1) := spec_DateOf_ok a0 a1 h
end Go.Ev
end

section
/- What the program's functions come to, each by itself: printed by a program of this session's own (EwShow) out of the small machine. -/
set_option linter.unusedVariables false
namespace Go.Ev

def s_impl_within (a0 : Int) (Q : (Int → Prop)) : Prop :=
  (Q (if 0 < (if 2147483648 < a0 then 2147483648 else a0) then (if 2147483648 < a0 then 2147483648 else a0) else 0))

end Go.Ev
end

section
/- What the laws' marks come to, and the law of Picked: printed by a program of this session's own (EwShow) out of the small machine. -/
set_option linter.unusedVariables false
namespace Go.Ev

end Go.Ev
end

section
/- What more of the laws' functions come to: printed by a program of this session's own (EwShow) out of the small machine. -/
set_option linter.unusedVariables false
namespace Go.Ev

end Go.Ev
end

section
/- What the laws' functions come to: printed by a program of this session's own (EwShow) out of the small machine. -/
set_option linter.unusedVariables false
namespace Go.Ev

end Go.Ev
end

section
/- Laws of the plain library: worlds. -/
set_option linter.unusedVariables false
namespace Go.Ev
theorem szF_md {α : Type} [Cz α] {x : α} {k : Int} (h : ¬ szF x k < 0) (h0 : 0 ≤ k) (h1 : k ≤ 1048576) : md x := by
  unfold szF leftI at h
  unfold md
  split at h
  · omega
  · omega
end Go.Ev
end

section
/- Laws of the plain library: the law of TagOf. -/
set_option linter.unusedVariables false
namespace Go.Ev
end Go.Ev
end

section
/- Laws of the plain library: the laws' functions of the doors. -/
set_option linter.unusedVariables false
namespace Go.Ev
theorem szF_le {α : Type} [Cz α] (x : α) {k : Int} (h0 : 0 ≤ k) : szF x k ≤ k := by
  unfold szF leftI
  split <;> omega
theorem pSz_next {α β : Type} [Cz α] [Cz β] [Wd β] {x : α} {y : β} {k : Int} (h : ¬ szF x k < 0) (h0 : 0 ≤ k) (h1 : k ≤ 1048576) (hy : wd y) : pSz y (szF x k) :=
  ⟨hy, by omega, by have := szF_le x h0; simp only [capI]; omega⟩
theorem md_req {q : Req} (h : md q) : md q.2.2.1 := by
  unfold md at h ⊢; simp only [cz_pair] at h; omega
theorem md_rsp {r : Rsp} (h : md r) : md r.2.1 := by
  unfold md at h ⊢; simp only [cz_pair] at h; omega
end Go.Ev
end

section
/- Laws of the plain library: more of the laws' functions. -/
set_option linter.unusedVariables false
namespace Go.Ev
end Go.Ev
end

section
/- Laws of the plain library: the laws' marks. -/
set_option linter.unusedVariables false
namespace Go.Ev
end Go.Ev
end

section
/- Laws of the plain library: marks of texts in a row, FieldSet, WithAge, VaryNames. -/
set_option linter.unusedVariables false
namespace Go.Ev
theorem impl_within_ok (a0 : Int) (h : pWithin a0) : s_impl_within a0 (fun r => r = mWithin a0) := rfl

end Go.Ev
end

section
/- Laws of the plain library: lifetimes, ages, what is fresh, what is not modified. -/
set_option linter.unusedVariables false
namespace Go.Ev
theorem readDate_pos (s : S) : 0 ≤ (mReadDate s).1 ∧ (mReadDate s).1 ≤ 2000000000 := by
  by_cases h : ∃ t, isDate s t
  · obtain ⟨t, ht⟩ := h
    rw [← readDate_yes ht]
    exact ⟨ht.1, ht.2.1⟩
  · rw [← readDate_no fun t ht => h ⟨t, ht⟩]
    constructor <;> decide
theorem dateOf_pos (l : List Fld) (n : S) : 0 ≤ (mDateOf l n).1 ∧ (mDateOf l n).1 ≤ 2000000000 := by
  unfold mDateOf
  split
  · exact readDate_pos _
  · constructor <;> decide
theorem seconds_range (s : S) : 0 ≤ (mSeconds s).1 ∧ (mSeconds s).1 ≤ 2147483648 := by
  unfold mSeconds
  split
  · simp only; omega
  · constructor <;> decide
theorem within_range (a : Int) : 0 ≤ mWithin a ∧ mWithin a ≤ 2147483648 := by
  unfold mWithin
  split <;> split <;> omega
theorem impl_later_ok (a0 a1 : Int) (h : pLater a0 a1) : s_impl_later a0 a1 (fun r => r = mLater a0 a1) := by
  obtain ⟨⟨h0, h1⟩, ⟨h2, h3⟩⟩ := h
  refine ⟨fun c => by unfold mLater; rw [if_pos c], fun c => ⟨fun d => by unfold mLater; rw [if_neg c, if_pos d], fun d => by unfold mLater; rw [if_neg c, if_neg d, wrap64 (by omega) (by omega)]⟩⟩
theorem later_in (a b : Int) (ha : in64 a) (hb : in64 b) : in64 (mLater a b) ∧ 0 ≤ mLater a b := by
  obtain ⟨a0, a1⟩ := ha
  obtain ⟨b0, b1⟩ := hb
  unfold mLater in64
  split
  · omega
  · split <;> omega
theorem impl_SatAdd_ok (a0 a1 : Int) (h : pSatAdd a0 a1) : s_impl_SatAdd a0 a1 (fun r => r = mSatAdd a0 a1) := by
  refine ⟨trivial, trivial, ?_⟩
  have r0 := within_range a0
  have r1 := within_range a1
  rw [wrap64 (by omega) (by omega)]
  rfl
theorem spec_SatAdd_ok (a0 a1 : Int) (h : pSatAdd a0 a1) : s_spec_SatAdd a0 a1 (fun r => r = mSatAdd a0 a1) := by
  show (if 2147483648 < (IntKind.i64.wrap (mWithin a0 + mWithin a1)) then 2147483648 else (IntKind.i64.wrap (mWithin a0 + mWithin a1))) = mSatAdd a0 a1
  have r0 := within_range a0
  have r1 := within_range a1
  rw [wrap64 (by omega) (by omega)]
  rfl
theorem satAdd_range (a b : Int) : 0 ≤ mSatAdd a b ∧ mSatAdd a b ≤ 2147483648 := by
  have r0 := within_range a
  have r1 := within_range b
  unfold mSatAdd
  split <;> omega

theorem ccFold_snoc (n : S) (l : List Fld) (d : Fld) : ccFold n (l ++ [d]) = ccF n (ccFold n l) d := by
  unfold ccFold; rw [List.foldl_append]; rfl
theorem ccFold_inv (n : S) : ∀ l : List Fld, ∀ x : Int × Bool, (x.2 = false → x.1 = 2147483648) → ((l.foldl (ccF n) x).2 = false → (l.foldl (ccF n) x).1 = 2147483648)
  | [], x, h => h
  | d :: l, x, h => by
    simp only [List.foldl_cons]
    refine ccFold_inv n l _ ?_
    unfold ccF
    split
    · intro h; simp at h
    · exact h
theorem dirs_bound {l : List Fld} (h : pDirectives l) {d : Fld} (hd : d ∈ mDirectives l) : sm d.2 := by
  obtain ⟨p, hp, he⟩ := List.mem_filterMap.1 hd
  have h1 := splitList_mem hp
  have h2 := fieldGet_size l nameCC h
  have h3 := (cut_sizes p).2
  unfold dirOf at he
  split at he
  · injection he with he
    subst he
    have h4 : (mL7Unquote (mCut p (lit [61])).2.1).size ≤ (mCut p (lit [61])).2.1.size := by
      unfold mL7Unquote
      split
      · rw [ByteArray.size_extract]; omega
      · exact Nat.le_refl _
    show (mL7Unquote (mCut p (lit [61])).2.1).size ≤ _
    omega
  · cases he
theorem spec_CcSeconds_ok (a0 : List Fld) (a1 : S) (h : pCcSeconds a0 a1) : s_spec_CcSeconds a0 a1 (fun r => r = mCcSeconds a0 a1) := by
  refine ⟨h, fun L hL => ?_⟩
  have hlen := directives_len a0 h
  refine loopG hL (mDirectives a0).length (fun i y => y.2.2 = (i : Int) ∧ (y.1, y.2.1) = ccFold a1 ((mDirectives a0).take i)) (fun i y hi hI hn => ?_) (s0 := (2147483648, false, 0)) ⟨rfl, by simp [ccFold]⟩
  obtain ⟨x, b, i'⟩ := y
  obtain ⟨h1, h2⟩ := hI
  simp only at h1 h2 ⊢
  subst h1
  rw [wrapS (by omega)]
  refine ⟨fun hlt => ?_, fun hge => ?_⟩
  · have hi2 : i < (mDirectives a0).length := by omega
    rw [rx_get _ hi2]
    have hs := dirs_bound h (List.getElem_mem hi2)
    have hst : ccFold a1 ((mDirectives a0).take (i + 1)) = ccF a1 (x, b) (mDirectives a0)[i] := by rw [take_succ_app hi2, ccFold_snoc, ← h2]
    refine ⟨by omega, hlt, fun he => ⟨by omega, hlt, hs, ?_⟩, fun he => ?_⟩
    · refine hn _ hi2 ⟨rfl, ?_⟩
      rw [hst]; unfold ccF; rw [if_pos he]
    · refine hn _ hi2 ⟨rfl, ?_⟩
      rw [hst]; unfold ccF; rw [if_neg he]
  · rw [List.take_of_length_le (by omega)] at h2
    refine ⟨fun hb => ?_, fun hb => ?_⟩
    · unfold mCcSeconds; rw [← h2, if_neg hb]
    · unfold mCcSeconds; rw [← h2, if_pos (Classical.not_not.1 hb)]
theorem impl_CcSeconds_ok (a0 : List Fld) (a1 : S) (h : pCcSeconds a0 a1) : s_impl_CcSeconds a0 a1 (fun r => r = mCcSeconds a0 a1) := by
  refine ⟨h, fun L hL => ?_⟩
  have hlen := directives_len a0 h
  refine loopG hL (mDirectives a0).length (fun i y => y.2.2 = (i : Int) ∧ y.2.1 = (ccFold a1 ((mDirectives a0).take i)).2 ∧ y.1 = if y.2.1 = true then (ccFold a1 ((mDirectives a0).take i)).1 else 0) (fun i y hi hI hn => ?_) (s0 := (0, false, 0)) ⟨rfl, by simp [ccFold], by simp⟩
  obtain ⟨x, b, i'⟩ := y
  obtain ⟨h1, h2, h3⟩ := hI
  simp only at h1 h2 h3 ⊢
  subst h1
  rw [wrapS (by omega)]
  refine ⟨fun hlt => ?_, fun hge => ?_⟩
  · have hi2 : i < (mDirectives a0).length := by omega
    rw [rx_get _ hi2]
    have hs := dirs_bound h (List.getElem_mem hi2)
    have hst : ccFold a1 ((mDirectives a0).take (i + 1)) = ccF a1 (ccFold a1 ((mDirectives a0).take i)) (mDirectives a0)[i] := by rw [take_succ_app hi2, ccFold_snoc]
    have hinv := ccFold_inv a1 ((mDirectives a0).take i) (2147483648, false) (fun _ => rfl)
    have hr := seconds_range ((mDirectives a0)[i]).2
    refine ⟨by omega, hlt, fun he => ?_, fun he => ⟨hs, fun hb => ?_, fun hb => ⟨fun hlt2 => ?_, fun hlt2 => ?_⟩⟩⟩
    · refine hn _ hi2 ⟨rfl, ?_, ?_⟩
      · simp only; rw [hst]; unfold ccF; rw [if_neg he]; exact h2
      · simp only; rw [hst]; unfold ccF; rw [if_neg he]; exact h3
    · refine hn _ hi2 ⟨rfl, ?_, ?_⟩
      · simp only; rw [hst]; unfold ccF; rw [if_pos (Classical.not_not.1 he)]
      · simp only; rw [hst]; unfold ccF; rw [if_pos (Classical.not_not.1 he)]
        have e1 : (ccFold a1 ((mDirectives a0).take i)).1 = 2147483648 := hinv (by show (ccFold a1 ((mDirectives a0).take i)).2 = false; rw [← h2]; simpa using hb)
        simp only [if_true]
        rw [e1]
        split <;> omega
    · have hb := Classical.not_not.1 hb
      refine hn _ hi2 ⟨rfl, ?_, ?_⟩
      · simp only; rw [hst]; unfold ccF; rw [if_pos (Classical.not_not.1 he)]
      · simp only; rw [hst]; unfold ccF; rw [if_pos (Classical.not_not.1 he)]
        rw [hb] at h3
        simp only [if_true] at h3 ⊢
        rw [← h3, if_pos hlt2]
    · have hb := Classical.not_not.1 hb
      refine hn _ hi2 ⟨rfl, ?_, ?_⟩
      · simp only; rw [hst]; unfold ccF; rw [if_pos (Classical.not_not.1 he)]
      · simp only; rw [hst]; unfold ccF; rw [if_pos (Classical.not_not.1 he)]
        rw [hb] at h3
        simp only [if_true] at h3 ⊢
        rw [← h3, if_neg hlt2]
  · rw [List.take_of_length_le (by omega)] at h2 h3
    unfold mCcSeconds
    rw [← h2]
    split
    · next hb => rw [if_pos hb] at h3; rw [h3, hb]
    · next hb => rw [if_neg hb] at h3; rw [h3]; simp at hb; rw [hb]
theorem firstAge_pre {r : Rsp} {a1 a2 : Int} (h : pFirstAge r a1 a2) : pSeconds (mFieldGet r.2.1 sAge).1 := by
  have := fieldGet_size r.2.1 sAge h.1
  unfold pSeconds sm
  omega
theorem in64_date (l : List Fld) (n : S) : in64 (mDateOf l n).1 := by
  have := dateOf_pos l n
  constructor <;> omega
theorem later_eq {a b : Int} (h0 : 0 ≤ b) (h : b < a) : mLater a b = a - b := by unfold mLater; rw [if_neg (by omega), if_neg (by omega)]
theorem later_zero {a b : Int} (h : b < 0 ∨ a ≤ b) : mLater a b = 0 := by
  unfold mLater
  rcases h with h | h
  · rw [if_pos h]
  · split
    · rfl
    · rfl
theorem impl_FirstAge_ok (a0 : Rsp) (a1 a2 : Int) (h : pFirstAge a0 a1 a2) : s_impl_FirstAge a0 a1 a2 (fun r => r = mFirstAge a0 a1 a2) := by
  have hs := firstAge_pre h
  obtain ⟨hm, h1, h2⟩ := h
  refine ⟨hm, fun hd => ⟨⟨h2, in64_date _ _⟩, trivial, hm, hs, ⟨h2, h1⟩, trivial, ?_⟩, fun hd => ⟨hm, hs, ⟨h2, h1⟩, trivial, ?_⟩⟩
  · have hd' : (mDateOf a0.2.1 sDate).2 = true := hd
    exact Eq.symm (by unfold mFirstAge; rw [if_pos hd']; rfl)
  · have hd' : ¬ (mDateOf a0.2.1 sDate).2 = true := hd
    exact Eq.symm (by unfold mFirstAge; rw [if_neg hd']; rfl)
theorem spec_FirstAge_ok (a0 : Rsp) (a1 a2 : Int) (h : pFirstAge a0 a1 a2) : s_spec_FirstAge a0 a1 a2 (fun r => r = mFirstAge a0 a1 a2) := by
  have hs := firstAge_pre h
  obtain ⟨hm, h1, h2⟩ := h
  have dp := dateOf_pos a0.2.1 sDate
  have i1 := h1.1; have i2 := h1.2; have i3 := h2.1; have i4 := h2.2
  have wl : a1 < a2 → 0 ≤ a1 → IntKind.i64.wrap (a2 - a1) = mLater a2 a1 := fun c c' => by rw [later_eq c' c, wrap64 (by omega) (by omega)]
  have z1 : a1 < a2 → ¬ 0 ≤ a1 → (0 : Int) = mLater a2 a1 := fun c c' => (later_zero (by omega)).symm
  have z2 : ¬ a1 < a2 → (0 : Int) = mLater a2 a1 := fun c => (later_zero (by omega)).symm
  have pos := satAdd_range (mSeconds (mFieldGet a0.2.1 sAge).1).1 (mLater a2 a1)
  have e : ∀ A B : Int, A = B → ∀ D : Int, D = (if (mDateOf a0.2.1 sDate).2 = true then mWithin (mLater a2 (mDateOf a0.2.1 sDate).1) else 0) → B = mLater a2 a1 → (if D < mSatAdd (mSeconds (mFieldGet a0.2.1 sAge).1).1 A then mSatAdd (mSeconds (mFieldGet a0.2.1 sAge).1).1 A else D) = mFirstAge a0 a1 a2 := by
    intro A B hAB D hD hB
    subst hAB
    subst hB
    unfold mFirstAge
    rw [← hD]
  have dd : (mDateOf a0.2.1 sDate).2 = true → (mDateOf a0.2.1 sDate).1 < a2 → (if 2147483648 < (IntKind.i64.wrap (a2 - (mDateOf a0.2.1 sDate).1)) then 2147483648 else (IntKind.i64.wrap (a2 - (mDateOf a0.2.1 sDate).1))) = (if (mDateOf a0.2.1 sDate).2 = true then mWithin (mLater a2 (mDateOf a0.2.1 sDate).1) else 0) := fun hd hlt => by
    rw [if_pos hd, later_eq dp.1 hlt, wrap64 (by omega) (by omega)]
    unfold mWithin
    split <;> split <;> omega
  have d0 : (mDateOf a0.2.1 sDate).2 = true → ¬ (mDateOf a0.2.1 sDate).1 < a2 → (0 : Int) = (if (mDateOf a0.2.1 sDate).2 = true then mWithin (mLater a2 (mDateOf a0.2.1 sDate).1) else 0) := fun hd hlt => by
    rw [if_pos hd, later_zero (by omega)]; decide
  have d1 : ¬ (mDateOf a0.2.1 sDate).2 = true → (0 : Int) = (if (mDateOf a0.2.1 sDate).2 = true then mWithin (mLater a2 (mDateOf a0.2.1 sDate).1) else 0) := fun hd => by rw [if_neg hd]
  exact ⟨hm, hs, hm, fun hd => ⟨fun hlt => ⟨fun c => ⟨fun c' => ⟨trivial, e _ _ (wl c c') _ (dd hd hlt) rfl⟩, fun c' => ⟨trivial, e _ _ rfl _ (dd hd hlt) (z1 c c')⟩⟩, fun c => ⟨trivial, e _ _ rfl _ (dd hd hlt) (z2 c)⟩⟩,
    fun hlt => ⟨fun c => ⟨fun c' => ⟨trivial, e _ _ (wl c c') _ (d0 hd hlt) rfl⟩, fun c' => ⟨trivial, e _ _ rfl _ (d0 hd hlt) (z1 c c')⟩⟩, fun c => ⟨trivial, e _ _ rfl _ (d0 hd hlt) (z2 c)⟩⟩⟩,
    fun hd => ⟨fun c => ⟨fun c' => ⟨trivial, e _ _ (wl c c') _ (d1 hd) rfl⟩, fun c' => ⟨trivial, e _ _ rfl _ (d1 hd) (z1 c c')⟩⟩, fun c => ⟨trivial, e _ _ rfl _ (d1 hd) (z2 c)⟩⟩⟩
theorem impl_AgeAt_ok (a0 : Rsp) (a1 a2 a3 : Int) (h : pAgeAt a0 a1 a2 a3) : s_impl_AgeAt a0 a1 a2 a3 (fun r => r = mAgeAt a0 a1 a2 a3) :=
  ⟨⟨h.1, h.2.1, h.2.2.1⟩, ⟨h.2.2.2, h.2.2.1⟩, trivial, rfl⟩
theorem spec_AgeAt_ok (a0 : Rsp) (a1 a2 a3 : Int) (h : pAgeAt a0 a1 a2 a3) : s_spec_AgeAt a0 a1 a2 a3 (fun r => r = mAgeAt a0 a1 a2 a3) := by
  obtain ⟨hm, h1, h2, h3⟩ := h
  have i1 := h2.1; have i2 := h2.2; have i3 := h3.1; have i4 := h3.2
  have hf : pFirstAge a0 a1 a2 := ⟨hm, h1, h2⟩
  have e : ∀ A : Int, A = mLater a3 a2 → mSatAdd (mFirstAge a0 a1 a2) A = mAgeAt a0 a1 a2 a3 := fun A hA => by rw [hA]; rfl
  exact ⟨fun c => ⟨fun c' => ⟨hf, trivial, e _ (by rw [later_eq c' c, wrap64 (by omega) (by omega)])⟩, fun c' => ⟨hf, trivial, e _ (later_zero (by omega)).symm⟩⟩, fun c => ⟨hf, trivial, e _ (later_zero (by omega)).symm⟩⟩

theorem nDate : lit [100, 97, 116, 101] = sDate := rfl
theorem nLast : lit [108, 97, 115, 116, 45, 109, 111, 100, 105, 102, 105, 101, 100] = sLast := rfl
theorem nExp : lit [101, 120, 112, 105, 114, 101, 115] = sExpires := rfl
theorem nNo : lit [110, 111, 45, 99, 97, 99, 104, 101] = sNoCache := rfl
theorem nMin : lit [109, 105, 110, 45, 102, 114, 101, 115, 104] = sMinFresh := rfl
theorem nMax : lit [109, 97, 120, 45, 97, 103, 101] = sMaxAge := rfl
theorem nSMax : lit [115, 45, 109, 97, 120, 97, 103, 101] = sSMaxAge := rfl
theorem impl_Lifetime_ok (a0 : Rsp) (h : pLifetime a0) : s_impl_Lifetime a0 (fun r => r = mLifetime a0) := by
  have hm : md a0.2.1 := h
  have p0 := dateOf_pos a0.2.1 sExpires
  have p1 := dateOf_pos a0.2.1 sDate
  have p2 := dateOf_pos a0.2.1 sLast
  unfold s_impl_Lifetime
  rw [nDate, nLast, nExp, nMax, nSMax]
  intro L hL
  have two : ([sSMaxAge, sMaxAge].length : Int) = 2 := rfl
  refine loopG hL 2 (fun i y => y = (i : Int) ∧ (1 ≤ i → ¬ (mCcSeconds a0.2.1 sSMaxAge).2 = true) ∧ (2 ≤ i → ¬ (mCcSeconds a0.2.1 sMaxAge).2 = true)) (fun i y hi hI hn => ?_) (s0 := 0) ⟨rfl, by omega, by omega⟩
  obtain ⟨rfl, c0, c1⟩ := hI
  rw [wrapS (by omega)]
  refine ⟨fun hlt => ⟨by omega, hlt, hm, fun hy => ?_, fun hy => ?_⟩, fun hge => ?_⟩
  · have hlt : (i : Int) < 2 := hlt
    have h2 : i = 0 ∨ i = 1 := by omega
    rcases h2 with rfl | rfl
    · unfold mLifetime
      rw [if_pos (show (mCcSeconds a0.2.1 sSMaxAge).2 = true from hy)]
      rfl
    · unfold mLifetime
      rw [if_neg (c0 (by omega)), if_pos (show (mCcSeconds a0.2.1 sMaxAge).2 = true from hy)]
      rfl
  · have hlt : (i : Int) < 2 := hlt
    have h2 : i = 0 ∨ i = 1 := by omega
    rcases h2 with rfl | rfl
    · exact hn _ (by omega) ⟨rfl, fun _ => hy, by omega⟩
    · exact hn _ (by omega) ⟨rfl, fun _ => c0 (by omega), fun _ => hy⟩
  · have hge : ¬ (i : Int) < 2 := hge
    have hi2 : i = 2 := by omega
    subst hi2
    have n0 := c0 (by omega)
    have n1 := c1 (by omega)
    have base : mLifetime a0 = if (mFieldGet a0.2.1 sExpires).2 = true then
      (if (mDateOf a0.2.1 sExpires).2 = true ∧ (mDateOf a0.2.1 sDate).2 = true then mLater (mDateOf a0.2.1 sExpires).1 (mDateOf a0.2.1 sDate).1 else 0)
      else (if (mDateOf a0.2.1 sLast).2 = true ∧ (mDateOf a0.2.1 sDate).2 = true then (mLater (mDateOf a0.2.1 sDate).1 (mDateOf a0.2.1 sLast).1).tdiv 10 else 0) := by
      unfold mLifetime; rw [if_neg n0, if_neg n1]
    refine ⟨hm, hm, fun (he : (mFieldGet a0.2.1 sExpires).2 = true) => ⟨hm, fun c => ?_, fun c => ⟨fun d => ?_, fun d => ⟨⟨in64_date _ _, in64_date _ _⟩, ?_⟩⟩⟩, fun (he : ¬ (mFieldGet a0.2.1 sExpires).2 = true) => ⟨hm, fun c => ?_, fun c => ⟨fun d => ?_, fun d => ⟨⟨in64_date _ _, in64_date _ _⟩, by decide, ?_⟩⟩⟩⟩
    · exact Eq.symm (by rw [base, if_pos he, if_neg fun hh => c hh.1])
    · exact Eq.symm (by rw [base, if_pos he, if_neg fun hh => d hh.2])
    · exact Eq.symm (by rw [base, if_pos he, if_pos ⟨Classical.not_not.1 c, Classical.not_not.1 d⟩])
    · exact Eq.symm (by rw [base, if_neg he, if_neg fun hh => c hh.1])
    · exact Eq.symm (by rw [base, if_neg he, if_neg fun hh => d hh.2])
    · refine Eq.trans ?_ (Eq.symm (by rw [base, if_neg he, if_pos ⟨Classical.not_not.1 c, Classical.not_not.1 d⟩] : mLifetime a0 = (mLater (mDateOf a0.2.1 sDate).1 (mDateOf a0.2.1 sLast).1).tdiv 10))
      have := later_in (mDateOf a0.2.1 sDate).1 (mDateOf a0.2.1 sLast).1 (in64_date _ _) (in64_date _ _)
      have ht := td10 (mLater (mDateOf a0.2.1 sDate).1 (mDateOf a0.2.1 sLast).1)
      exact wrap64 (by omega) (by have := this.1.2; omega)
theorem diff_later {a b : Int} (ha : 0 ≤ a ∧ a ≤ 2000000000) (hb : 0 ≤ b ∧ b ≤ 2000000000) : (if 0 < IntKind.i64.wrap (a - b) then IntKind.i64.wrap (a - b) else 0) = mLater a b := by
  rw [wrap64 (by omega) (by omega)]
  unfold mLater
  rw [if_neg (show ¬ b < 0 by omega)]
  by_cases hc : a ≤ b
  · rw [if_pos hc, if_neg (by omega)]
  · rw [if_neg hc, if_pos (by omega)]
theorem spec_Lifetime_ok (a0 : Rsp) (h : pLifetime a0) : s_spec_Lifetime a0 (fun r => r = mLifetime a0) := by
  have hm : md a0.2.1 := h
  have p0 := dateOf_pos a0.2.1 sExpires
  have p1 := dateOf_pos a0.2.1 sDate
  have p2 := dateOf_pos a0.2.1 sLast
  unfold s_spec_Lifetime
  rw [nDate, nLast, nExp, nMax, nSMax]
  refine ⟨hm, fun hy => Eq.symm (by unfold mLifetime; rw [if_pos hy]), fun n0 => ⟨hm, fun hy => Eq.symm (by unfold mLifetime; rw [if_neg n0, if_pos hy]), fun n1 => ?_⟩⟩
  have base : mLifetime a0 = if (mFieldGet a0.2.1 sExpires).2 = true then
      (if (mDateOf a0.2.1 sExpires).2 = true ∧ (mDateOf a0.2.1 sDate).2 = true then mLater (mDateOf a0.2.1 sExpires).1 (mDateOf a0.2.1 sDate).1 else 0)
      else (if (mDateOf a0.2.1 sLast).2 = true ∧ (mDateOf a0.2.1 sDate).2 = true then (mLater (mDateOf a0.2.1 sDate).1 (mDateOf a0.2.1 sLast).1).tdiv 10 else 0) := by
      unfold mLifetime; rw [if_neg n0, if_neg n1]
  refine ⟨hm, hm, fun (he : (mFieldGet a0.2.1 sExpires).2 = true) => ⟨hm, fun c => ?_, fun c => ⟨fun d => ?_, fun d => ?_⟩⟩, fun (he : ¬ (mFieldGet a0.2.1 sExpires).2 = true) => ⟨hm, fun d => ⟨fun c => ⟨by decide, ?_⟩, fun c => ?_⟩, fun d => ?_⟩⟩
  · exact Eq.symm (by rw [base, if_pos he, if_neg fun hh => c hh.1])
  · exact Eq.symm (by rw [base, if_pos he, if_neg fun hh => d hh.2])
  · exact (diff_later p0 p1).trans (Eq.symm (by rw [base, if_pos he, if_pos ⟨Classical.not_not.1 c, Classical.not_not.1 d⟩]))
  · refine Eq.trans ?_ (Eq.symm (by rw [base, if_neg he, if_pos ⟨c, d⟩, ← diff_later p1 p2] : mLifetime a0 = (if 0 < IntKind.i64.wrap ((mDateOf a0.2.1 sDate).1 - (mDateOf a0.2.1 sLast).1) then IntKind.i64.wrap ((mDateOf a0.2.1 sDate).1 - (mDateOf a0.2.1 sLast).1) else 0).tdiv 10))
    have := later_in (mDateOf a0.2.1 sDate).1 (mDateOf a0.2.1 sLast).1 (in64_date _ _) (in64_date _ _)
    rw [← diff_later p1 p2] at this
    have ht := td10 (if 0 < IntKind.i64.wrap ((mDateOf a0.2.1 sDate).1 - (mDateOf a0.2.1 sLast).1) then IntKind.i64.wrap ((mDateOf a0.2.1 sDate).1 - (mDateOf a0.2.1 sLast).1) else 0)
    exact wrap64 (by omega) (by have := this.1.2; omega)
  · exact Eq.symm (by rw [base, if_neg he, if_neg fun hh => c hh.1])
  · exact Eq.symm (by rw [base, if_neg he, if_neg fun hh => d hh.2])
theorem spec_MustCheck_ok (a0 : Req) (a1 : Rsp) (a2 a3 a4 : Int) (h : pMustCheck a0 a1 a2 a3 a4) : s_spec_MustCheck a0 a1 a2 a3 a4 (fun r => r = mMustCheck a0 a1 a2 a3 a4) := by
  obtain ⟨h0, h1, h2, h3, h4⟩ := h
  unfold mMustCheck s_spec_MustCheck
  rw [nMax, nNo, nMin]
  refine ⟨h0, fun c => ?_, fun c => ⟨h1, fun d => ?_, fun d => ⟨⟨h1, h2, h3, h4⟩, h1, h0, fun e => ⟨fun f => ?_, fun f => ⟨h0, fun g => ⟨trivial, fun i => ?_, fun i => ?_⟩, fun g => ?_⟩⟩, fun e => ⟨h0, fun g => ⟨trivial, fun i => ?_, fun i => ?_⟩, fun g => ?_⟩⟩⟩⟩
  · rw [show mCcHas a0.2.2.1 sNoCache = true from c]; rfl
  · rw [show mCcHas a1.2.1 sNoCache = true from d]; simp
  · rw [show (mCcSeconds a0.2.2.1 sMaxAge).2 = true from e, show decide ((mCcSeconds a0.2.2.1 sMaxAge).1 < mAgeAt a1 a2 a3 a4) = true from decide_eq_true f]; simp
  · rw [show (mCcSeconds a0.2.2.1 sMinFresh).2 = true from g, show decide (mLifetime a1 < mSatAdd (mAgeAt a1 a2 a3 a4) (mCcSeconds a0.2.2.1 sMinFresh).1) = true from decide_eq_true i]; simp
  · rw [show mCcHas a0.2.2.1 sNoCache = false by simpa using c, show mCcHas a1.2.1 sNoCache = false by simpa using d, show decide ((mCcSeconds a0.2.2.1 sMaxAge).1 < mAgeAt a1 a2 a3 a4) = false from decide_eq_false f, show decide (mLifetime a1 < mSatAdd (mAgeAt a1 a2 a3 a4) (mCcSeconds a0.2.2.1 sMinFresh).1) = false from decide_eq_false i]; simp
  · rw [show mCcHas a0.2.2.1 sNoCache = false by simpa using c, show mCcHas a1.2.1 sNoCache = false by simpa using d, show decide ((mCcSeconds a0.2.2.1 sMaxAge).1 < mAgeAt a1 a2 a3 a4) = false from decide_eq_false f, show (mCcSeconds a0.2.2.1 sMinFresh).2 = false by simpa using g]; simp
  · rw [show (mCcSeconds a0.2.2.1 sMinFresh).2 = true from g, show decide (mLifetime a1 < mSatAdd (mAgeAt a1 a2 a3 a4) (mCcSeconds a0.2.2.1 sMinFresh).1) = true from decide_eq_true i]; simp
  · rw [show mCcHas a0.2.2.1 sNoCache = false by simpa using c, show mCcHas a1.2.1 sNoCache = false by simpa using d, show (mCcSeconds a0.2.2.1 sMaxAge).2 = false by simpa using e, show decide (mLifetime a1 < mSatAdd (mAgeAt a1 a2 a3 a4) (mCcSeconds a0.2.2.1 sMinFresh).1) = false from decide_eq_false i]; simp
  · rw [show mCcHas a0.2.2.1 sNoCache = false by simpa using c, show mCcHas a1.2.1 sNoCache = false by simpa using d, show (mCcSeconds a0.2.2.1 sMaxAge).2 = false by simpa using e, show (mCcSeconds a0.2.2.1 sMinFresh).2 = false by simpa using g]; simp
theorem impl_MustCheck_ok (a0 : Req) (a1 : Rsp) (a2 a3 a4 : Int) (h : pMustCheck a0 a1 a2 a3 a4) : s_impl_MustCheck a0 a1 a2 a3 a4 (fun r => r = mMustCheck a0 a1 a2 a3 a4) := spec_MustCheck_ok a0 a1 a2 a3 a4 h

def p_FnExactMustCheck (a0 : Req) (a1 : Rsp) (a2 a3 a4 : Int) : Prop := wd a0 ∧ wd a1 ∧ wd a2 ∧ wd a3 ∧ wd a4
theorem laws_FnExactMustCheck_ok (a0 : Req) (a1 : Rsp) (a2 a3 a4 : Int) (h : p_FnExactMustCheck a0 a1 a2 a3 a4) : s_laws_FnExactMustCheck a0 a1 a2 a3 a4 (fun r => r = true) := by
  obtain ⟨w0, w1, w2, w3, w4⟩ := h
  refine ⟨⟨w0, by omega, by simp [capI]⟩, fun _ => rfl, fun hs0 => ⟨pSz_next hs0 (by omega) (by omega) w1, fun _ => rfl, fun hs1 => ?_⟩⟩
  have k0 := szF_le a0 (k := 1048576) (by omega)
  have m0 : md a0 := szF_md hs0 (by omega) (by omega)
  have m1 : md a1 := szF_md hs1 (by omega) (by omega)
  have hp : pMustCheck (toF a0) (toF a1) a2 a3 a4 := ⟨md_req m0, md_rsp m1, wd_int.1 w2, wd_int.1 w3, wd_int.1 w4⟩
  exact ⟨m0, m1, hp, m0, m1, hp, fun hne => absurd rfl hne, fun _ => ⟨m0, w0, fun hne => absurd (eqF_iff.2 rfl) hne, fun _ => ⟨m1, w1, fun hne => absurd (eqF_iff.2 rfl) hne, fun _ => rfl⟩⟩⟩
end Go.Ev
end

section
/- Laws of the plain library: dates and seconds that are read, as impl does. -/
set_option linter.unusedVariables false
namespace Go.Ev
def spl (s : S) : List S := mSplit s (lit [32])
theorem occ_one {l : List UInt8} {i : Nat} : Lib.occAt l [32] i = true ↔ l[i]? = some 32 := by
  unfold Lib.occAt
  cases hd : l.drop i with
  | nil =>
    have : l.length ≤ i := List.drop_eq_nil_iff.1 hd
    simp [List.getElem?_eq_none this]
  | cons b r =>
    have hi : i < l.length := by
      rcases Nat.lt_or_ge i l.length with h | h
      · exact h
      · rw [List.drop_eq_nil_of_le h] at hd; cases hd
    have hb : l[i]? = some b := by rw [← List.head?_drop, hd]; rfl
    rw [hb]
    simp [List.isPrefixOf]
    exact ⟨fun h => h.symm, fun h => h.symm⟩
theorem spl_hit {s : S} {p r : List UInt8} (hp : noSp p = true) (h : bs s = p ++ 32 :: r) : spl s = ob p :: spl (ob r) := by
  have hi : Lib.indexB s (lit [32]) = (p.length : Int) := by
    show Lib.index (bs s) [32] = _
    rw [h]
    refine Lib.index_hit (fun j hj => ?_) (by simp) (occ_one.2 (by simp))
    cases ho : Lib.occAt (p ++ 32 :: r) [32] j with
    | false => rfl
    | true =>
      have h1 := occ_one.1 ho
      rw [List.getElem?_append_left hj, List.getElem?_eq_getElem hj] at h1
      have h2 := List.all_eq_true.1 hp _ (List.getElem_mem hj)
      injection h1 with h1
      rw [h1] at h2
      simp at h2
  have hsz : (lit [32]).size = 1 := rfl
  have e1 : s.extract 0 (p.length + 0) = ob p := by
    apply bs_inj
    rw [bs_extract, h, bs_ob]
    simp
  have e2 : s.extract (p.length + (lit [32]).size) s.size = ob r := by
    apply bs_inj
    rw [bs_extract, ← bs_len, h, bs_ob, hsz]
    have : p ++ 32 :: r = (p ++ [32]) ++ r := by simp
    rw [this]
    simp only [List.length_append, List.length_cons, List.length_nil]
    rw [List.drop_left' (by simp), List.take_of_length_le (by omega)]
  unfold spl mSplit
  rw [Lib.countB_hit s (lit [32]) p.length (by rw [hsz]; omega) hi, Nat.add_comm 1, Lib.splitB_hit _ _ _ _ _ hi, e1, e2]
theorem spl_last {s : S} (h : noSp (bs s) = true) : spl s = [s] := by
  have hi : Lib.indexB s (lit [32]) = -1 := by
    show Lib.index (bs s) [32] = _
    refine Lib.index_none fun j hj => ?_
    cases ho : Lib.occAt (bs s) [32] j with
    | false => rfl
    | true =>
      have h1 := occ_one.1 ho
      have h2 := List.all_eq_true.1 h _ (List.mem_of_getElem? h1)
      simp at h2
  unfold spl mSplit
  exact Lib.splitB_miss _ _ _ _ hi
theorem splitB_size (k : Nat) : ∀ (s x : S), x ∈ Lib.splitB (lit [32]) 0 k s → x.size ≤ s.size := by
  induction k with
  | zero => intro s x h; rw [Lib.splitB_zero] at h; simp at h; rw [h]; exact Nat.le_refl _
  | succ k ih =>
    intro s x h
    rcases Lib.index_spec (bs s) [32] with ⟨hm, _⟩ | ⟨i, hi, _⟩
    · rw [Lib.splitB_miss _ _ _ _ hm] at h; simp at h; rw [h]; exact Nat.le_refl _
    · rw [Lib.splitB_hit _ _ _ _ i hi] at h
      rcases List.mem_cons.1 h with h | h
      · rw [h, ByteArray.size_extract]; omega
      · have := ih _ _ h
        rw [ByteArray.size_extract] at this
        omega
theorem rx_spl_size (s : S) (i : Nat) : (rx (spl s) (i : Int)).size ≤ s.size := by
  by_cases hi : i < (spl s).length
  · rw [rx_get _ hi]
    exact splitB_size _ _ _ (List.getElem_mem hi)
  · unfold rx
    have : (spl s)[i]? = none := List.getElem?_eq_none (by omega)
    simp [this, Dft.dft]
theorem number_of {l : List UInt8} {n : Int} (h : numL l = n) (h0 : 0 ≤ n) (hne : l ≠ []) (hl : l.length ≤ 18) : mNumber (ob l) = n := by
  unfold numL at h
  split at h
  · next hd =>
    unfold mNumber
    rw [bs_ob, if_pos hd, atoiV_val hne hd hl, h]
  · omega
theorem impl_number_ok (a0 : S) (h : pNumber a0) : s_impl_number a0 (fun r => r = mNumber a0) := by
  have hsm : a0.size ≤ 1073741824 := h
  have hl := bs_len a0
  intro L hL
  refine loopG hL a0.size (fun i y => y = (i : Int) ∧ ((bs a0).take i).all isDig = true) (fun i y hi hI hn => ?_) (s0 := 0) ⟨rfl, by simp⟩
  obtain ⟨rfl, hd⟩ := hI
  rw [wrapS (by omega)]
  refine ⟨fun hlt => ?_, fun hge => ?_⟩
  · have hi2 : i < (bs a0).length := by omega
    have hbt : bt a0 (i : Int) = (((bs a0)[i]).toNat : Int) := bt_nat a0 i (by omega)
    have bad : ¬ isDig ((bs a0)[i]) = true → -1 = mNumber a0 := fun hb => by
      unfold mNumber
      rw [if_neg fun hall => hb (List.all_eq_true.1 hall _ (List.getElem_mem hi2))]
    rw [hbt]
    refine ⟨by omega, hlt, fun c => bad fun hh => by have := isDig_iff.1 hh; omega, fun c => ⟨by omega, hlt, fun c2 => bad fun hh => by have := isDig_iff.1 hh; omega, fun c2 => ?_⟩⟩
    refine hn _ (by omega) ⟨rfl, ?_⟩
    rw [take_succ_app hi2, List.all_append, hd]
    simp only [List.all_cons, List.all_nil, Bool.and_true, Bool.true_and]
    exact isDig_iff.2 (by omega)
  · rw [List.take_of_length_le (by omega)] at hd
    refine ⟨h, ?_⟩
    unfold mNumber
    rw [if_pos hd]; rfl
theorem noSp_app {a b : List UInt8} : noSp (a ++ b) = (noSp a && noSp b) := by unfold noSp; exact List.all_append
theorem date_impl {s : S} {t : Int} (h : isDate s t) : ((spl s).length : Int) = 6 ∧ (s.size : Int) = 29 ∧ ((rx (spl s) 4).size : Int) = 8 ∧ ((rx (spl s) 3).size : Int) = 4 ∧
    0 ≤ mDaysOf (mNumber (rx (spl s) 3)) (IntKind.i64.wrap (mIndex_string monthL (rx (spl s) 2) + 1)) (mNumber (rx (spl s) 1)) ∧
    IntKind.i64.wrap (IntKind.i64.wrap (IntKind.i64.wrap (IntKind.i64.wrap (mDaysOf (mNumber (rx (spl s) 3)) (IntKind.i64.wrap (mIndex_string monthL (rx (spl s) 2) + 1)) (mNumber (rx (spl s) 1)) * 86400) + IntKind.i64.wrap (3600 * mNumber ((rx (spl s) 4).extract 0 2))) + IntKind.i64.wrap (60 * mNumber ((rx (spl s) 4).extract 3 5))) + mNumber ((rx (spl s) 4).extract 6 (rx (spl s) 4).size)) = t := by
  obtain ⟨k, j, d, hh, mm, ss, w0, w1, w2, m0, m1, m2, H⟩ := date_at h
  have hd31 := (monthDays_range (1970 + (k : Int)) (m := (j : Int) + 1) (by omega) (by have := H.jL; omega)).2
  have h1 := H.dL
  have hj := H.jL
  have hk := H.kL
  have sz : s.size = 29 := by rw [← bs_len, H.bytes]; rfl
  obtain ⟨y1, y2, y3⟩ := year_tab ⟨k, hk⟩
  simp only at y1 y2 y3
  obtain ⟨d1, d2⟩ := noSp_two (n := d) (by omega)
  obtain ⟨a1, a2⟩ := noSp_two (n := hh) (by have := H.hL; omega)
  obtain ⟨b1, b2⟩ := noSp_two (n := mm) (by have := H.mL; omega)
  obtain ⟨c1, c2⟩ := noSp_two (n := ss) (by have := H.sL; omega)
  obtain ⟨mo1, mo2, mo3⟩ := month_tab2 ⟨j, hj⟩
  simp only at mo1 mo2 mo3
  rw [H.mon] at mo1
  have hw : noSp [w0, w1, w2, 44] = true := by
    rw [show [w0, w1, w2, 44] = [w0, w1, w2] ++ [44] from rfl, noSp_app, H.wk]; rfl
  have ht : noSp (twoL hh ++ 58 :: (twoL mm ++ 58 :: twoL ss)) = true := by
    rw [show twoL hh ++ 58 :: (twoL mm ++ 58 :: twoL ss) = twoL hh ++ ([58] ++ (twoL mm ++ ([58] ++ twoL ss))) from rfl, noSp_app, noSp_app, noSp_app, noSp_app, a2, b2, c2]; rfl
  have hB : bs s = [w0, w1, w2, 44] ++ 32 :: (twoL d ++ 32 :: ([m0, m1, m2] ++ 32 :: (yearL (1970 + k) ++ 32 :: ((twoL hh ++ 58 :: (twoL mm ++ 58 :: twoL ss)) ++ 32 :: [71, 77, 84])))) := by
    rw [H.bytes]
    simp only [List.append_assoc, List.cons_append, List.nil_append]
  have hS : spl s = [ob [w0, w1, w2, 44], ob (twoL d), ob [m0, m1, m2], ob (yearL (1970 + k)), ob (twoL hh ++ 58 :: (twoL mm ++ 58 :: twoL ss)), ob [71, 77, 84]] := by
    rw [spl_hit hw hB, spl_hit d2 (bs_ob _), spl_hit mo1 (bs_ob _), spl_hit y3 (bs_ob _), spl_hit ht (bs_ob _), spl_last (by rw [bs_ob]; rfl)]
  have em : ob [m0, m1, m2] = rx monthL (j : Int) := by
    apply bs_inj; rw [bs_ob, H.mon]
  rw [hS]
  have r3 : mNumber (rx [ob [w0, w1, w2, 44], ob (twoL d), ob [m0, m1, m2], ob (yearL (1970 + k)), ob (twoL hh ++ 58 :: (twoL mm ++ 58 :: twoL ss)), ob [71, 77, 84]] 3) = 1970 + (k : Int) := number_of (l := yearL (1970 + k)) y2 (by omega) (by unfold yearL; simp) (by unfold yearL; simp)
  have r2 : IntKind.i64.wrap (mIndex_string monthL (rx [ob [w0, w1, w2, 44], ob (twoL d), ob [m0, m1, m2], ob (yearL (1970 + k)), ob (twoL hh ++ 58 :: (twoL mm ++ 58 :: twoL ss)), ob [71, 77, 84]] 2) + 1) = (j : Int) + 1 := by
    show IntKind.i64.wrap (mIndex_string monthL (ob [m0, m1, m2]) + 1) = _
    rw [em, mo3, wrap64 (by omega) (by omega)]
  have r1 : mNumber (rx [ob [w0, w1, w2, 44], ob (twoL d), ob [m0, m1, m2], ob (yearL (1970 + k)), ob (twoL hh ++ 58 :: (twoL mm ++ 58 :: twoL ss)), ob [71, 77, 84]] 1) = (d : Int) := number_of (l := twoL d) d1 (by omega) (by unfold twoL; simp) (by unfold twoL; simp)
  have e0 : ∀ a b : Nat, ∀ l : List UInt8, ((bs (ob (twoL hh ++ 58 :: (twoL mm ++ 58 :: twoL ss)))).drop a).take (b - a) = l → (ob (twoL hh ++ 58 :: (twoL mm ++ 58 :: twoL ss))).extract a b = ob l := fun a b l hl => by
    apply bs_inj; rw [bs_extract, bs_ob l, ← hl]
  have rh : mNumber ((ob (twoL hh ++ 58 :: (twoL mm ++ 58 :: twoL ss))).extract 0 2) = (hh : Int) := by
    rw [e0 0 2 (twoL hh) (by rw [bs_ob]; rfl)]
    exact number_of a1 (by omega) (by unfold twoL; simp) (by unfold twoL; simp)
  have rm : mNumber ((ob (twoL hh ++ 58 :: (twoL mm ++ 58 :: twoL ss))).extract 3 5) = (mm : Int) := by
    rw [e0 3 5 (twoL mm) (by rw [bs_ob]; rfl)]
    exact number_of b1 (by omega) (by unfold twoL; simp) (by unfold twoL; simp)
  have s8 : (ob (twoL hh ++ 58 :: (twoL mm ++ 58 :: twoL ss))).size = 8 := by rw [ob_size]; rfl
  have rs : mNumber ((ob (twoL hh ++ 58 :: (twoL mm ++ 58 :: twoL ss))).extract 6 (ob (twoL hh ++ 58 :: (twoL mm ++ 58 :: twoL ss))).size) = (ss : Int) := by
    rw [s8, e0 6 8 (twoL ss) (by rw [bs_ob]; rfl)]
    exact number_of c1 (by omega) (by unfold twoL; simp) (by unfold twoL; simp)
  rw [r3, r2, r1]
  have q4 : rx [ob [w0, w1, w2, 44], ob (twoL d), ob [m0, m1, m2], ob (yearL (1970 + k)), ob (twoL hh ++ 58 :: (twoL mm ++ 58 :: twoL ss)), ob [71, 77, 84]] 4 = ob (twoL hh ++ 58 :: (twoL mm ++ 58 :: twoL ss)) := rfl
  have q3 : rx [ob [w0, w1, w2, 44], ob (twoL d), ob [m0, m1, m2], ob (yearL (1970 + k)), ob (twoL hh ++ 58 :: (twoL mm ++ 58 :: twoL ss)), ob [71, 77, 84]] 3 = ob (yearL (1970 + k)) := rfl
  rw [q4, q3, rh, rm, rs, s8, ob_size]
  have hy : mDaysOf (1970 + (k : Int)) ((j : Int) + 1) (d : Int) = (d : Int) - 1 + daysY k + daysM (1970 + (k : Int)) j := by
    rw [← daysOf_yes (in_iff.2 ⟨by omega, by omega⟩) (in_iff.2 ⟨by omega, by omega⟩) (in_iff.2 ⟨by omega, h1.2⟩)]
    rw [show (1970 + (k : Int) - 1970).toNat = k by omega, show ((j : Int) + 1 - 1).toNat = j by omega]
  have g1 := daysY_range k
  have g2 := daysM_range (1970 + (k : Int)) j (by omega)
  rw [hy]
  have g3 := H.hL
  have g4 := H.mL
  have g5 := H.sL
  have hT := H.tE
  refine ⟨rfl, by omega, rfl, by unfold yearL; rfl, by omega, ?_⟩
  have v1 : IntKind.i64.wrap (((d : Int) - 1 + daysY k + daysM (1970 + (k : Int)) j) * 86400) = ((d : Int) - 1 + daysY k + daysM (1970 + (k : Int)) j) * 86400 := wrap64 (by omega) (by omega)
  have v2 : IntKind.i64.wrap (3600 * (hh : Int)) = 3600 * (hh : Int) := wrap64 (by omega) (by omega)
  have v4 : IntKind.i64.wrap (60 * (mm : Int)) = 60 * (mm : Int) := wrap64 (by omega) (by omega)
  rw [v1, v2, v4]
  generalize ((d : Int) - 1 + daysY k + daysM (1970 + (k : Int)) j) * 86400 = D at *
  have b1 : 0 ≤ t ∧ t ≤ 2000000000 := ⟨h.1, h.2.1⟩
  rw [wrap64 (n := D + 3600 * (hh : Int)) (by omega) (by omega), wrap64 (n := D + 3600 * (hh : Int) + 60 * (mm : Int)) (by omega) (by omega), wrap64 (by omega) (by omega)]
  omega
theorem wrap_in64 (n : Int) : in64 (IntKind.i64.wrap n) := by
  unfold in64 IntKind.wrap
  simp only [IntKind.bits, IntKind.signed]
  have h : ∀ m : Int, 0 ≤ m → m < 2 ^ 64 → (-9223372036854775808 ≤ (if (true && decide (m ≥ 2 ^ (64 - 1))) = true then m - 2 ^ 64 else m) ∧ (if (true && decide (m ≥ 2 ^ (64 - 1))) = true then m - 2 ^ 64 else m) ≤ 9223372036854775807) := by
    intro m h0 h1
    by_cases c : m ≥ 2 ^ (64 - 1)
    · rw [if_pos (by simpa using c)]; omega
    · rw [if_neg (by simpa using c)]; omega
  exact h _ (Int.emod_nonneg _ (by decide)) (Int.emod_lt_of_pos _ (by decide))
theorem impl_ReadDate_ok (a0 : S) (h : pReadDate a0) : s_impl_ReadDate a0 (fun r => r = mReadDate a0) := by
  have hsm : a0.size ≤ 1073741824 := h
  have P := fun t (ht : isDate a0 t) => date_impl ht
  have no : ∀ {p : Prop}, (∀ t, isDate a0 t → p) → ¬ p → (0, false) = mReadDate a0 := fun hp hn => readDate_no fun t ht => hn (hp t ht)
  have szr : ∀ i : Nat, sm (rx (spl a0) (i : Int)) := fun i => Nat.le_trans (rx_spl_size a0 i) hsm
  have sze : ∀ (i a b : Nat), sm ((rx (spl a0) (i : Int)).extract a b) := fun i a b => by
    have := szr i
    unfold sm at *
    rw [ByteArray.size_extract]; omega
  unfold s_impl_ReadDate
  rw [show mSplit a0 (lit [32]) = spl a0 from rfl]
  refine ⟨⟨h, rfl⟩, fun c => no (fun t ht => (P t ht).1) c, fun c0 => ⟨fun c => no (fun t ht => (P t ht).2.1) c, fun c1 => ?_⟩⟩
  have c0 := Classical.not_not.1 c0
  refine ⟨by omega, by omega, fun c => no (fun t ht => (P t ht).2.2.1) c, fun c2 => ⟨by omega, by omega, fun c => no (fun t ht => (P t ht).2.2.2.1) c, fun c3 => ?_⟩⟩
  have c2 := Classical.not_not.1 c2
  refine ⟨by omega, by omega, by omega, by omega, szr 3, trivial, by omega, by omega, by show monthL.length ≤ maxLen; decide, by omega, by omega, szr 1, trivial, fun c => no (fun t ht => (P t ht).2.2.2.2.1) (by omega), fun c4 => ?_⟩
  refine ⟨by omega, by omega, sze 4 0 2, by omega, by omega, by omega, sze 4 3 5, by omega, by omega, sze 4 6 _, wrap_in64 _, fun c => readDate_no fun t ht => c ?_, fun c => readDate_yes (date_back (Classical.not_not.1 c1) (Classical.not_not.1 c))⟩
  have e := (P t ht).2.2.2.2.2
  exact (congrArg mShowDate e).trans ht.2.2

theorem valFrom_ge : ∀ (l : List UInt8) (a : Nat), a * 10 ^ l.length ≤ valFrom a l
  | [], a => by simp [valFrom]
  | b :: l, a => by
    have ih := valFrom_ge l (a * 10 + (b.toNat - 48))
    have e : valFrom a (b :: l) = valFrom (a * 10 + (b.toNat - 48)) l := rfl
    rw [e, List.length_cons, Nat.pow_succ]
    refine Nat.le_trans ?_ ih
    rw [Nat.mul_comm (10 ^ l.length) 10, ← Nat.mul_assoc]
    exact Nat.mul_le_mul_right _ (by omega)
theorem valL_zero (l : List UInt8) : valL (48 :: l) = valL l := rfl
theorem valL_trim : ∀ l : List UInt8, valL (Lib.trimLeftB l 48) = valL l
  | [] => rfl
  | b :: l => by
    unfold Lib.trimLeftB
    rw [List.dropWhile_cons]
    split
    · next h =>
      have : b = 48 := by simpa using h
      subst this
      rw [valL_zero]
      exact valL_trim l
    · rfl
theorem trim_all {l : List UInt8} (h : l.all isDig = true) : (Lib.trimLeftB l 48).all isDig = true := by
  rw [List.all_eq_true] at *
  intro x hx
  exact h x ((List.dropWhile_sublist _).subset hx)
theorem trim_big {l : List UInt8} (h : l.all isDig = true) (hl : 10 < (Lib.trimLeftB l 48).length) : 2147483648 ≤ valL l := by
  rw [← valL_trim]
  have hd := trim_all h
  cases ht : Lib.trimLeftB l 48 with
  | nil => rw [ht] at hl; simp at hl
  | cons b r =>
    rw [ht] at hl hd
    have hb : b ≠ 48 := by
      intro e
      have := List.head?_dropWhile_not (p := fun x : UInt8 => x == 48) (l := l)
      unfold Lib.trimLeftB at ht
      rw [ht] at this
      simp [e] at this
    simp only [List.all_cons, Bool.and_eq_true] at hd
    have hbd := isDig_iff.1 hd.1
    have hbn : b.toNat ≠ 48 := fun e => hb (by apply UInt8.toNat_inj.1; exact e)
    have e : valL (b :: r) = valFrom (b.toNat - 48) r := by show valFrom (0 * 10 + (b.toNat - 48)) r = _; rw [Nat.zero_mul, Nat.zero_add]
    rw [e]
    have h1 := valFrom_ge r (b.toNat - 48)
    simp only [List.length_cons] at hl
    have h2 : 10 ^ 10 ≤ 10 ^ r.length := Nat.pow_le_pow_right (by omega) (by omega)
    have h3 : 1 * 10 ^ r.length ≤ (b.toNat - 48) * 10 ^ r.length := Nat.mul_le_mul_right _ (by omega)
    omega
theorem spec_Seconds_ok (a0 : S) (h : pSeconds a0) : s_spec_Seconds a0 (fun r => r = mSeconds a0) := by
  have hsm : a0.size ≤ 1073741824 := h
  have hl := bs_len a0
  intro L hL
  refine loopG hL a0.size (fun i y => y.2 = (i : Int) ∧ ((bs a0).take i).all isDig = true ∧ y.1 = ((min (valL ((bs a0).take i)) 2147483648 : Nat) : Int)) (fun i y hi hI hn => ?_) (s0 := (0, 0)) ⟨rfl, by simp, by simp [valL, valFrom]⟩
  obtain ⟨x, i'⟩ := y
  obtain ⟨hy, hd, hx⟩ := hI
  simp only at hy hx ⊢
  subst hy hx
  rw [wrapS (by omega)]
  refine ⟨fun hlt => ?_, fun hge => ?_⟩
  · have hi2 : i < (bs a0).length := by omega
    have hbt : bt a0 (i : Int) = (((bs a0)[i]).toNat : Int) := bt_nat a0 i (by omega)
    have bad : ¬ isDig ((bs a0)[i]) = true → (0, false) = mSeconds a0 := fun hb => by
      unfold mSeconds
      rw [if_neg fun hall => hb (List.all_eq_true.1 hall.1 _ (List.getElem_mem hi2))]
    rw [hbt]
    have tk := take_succ_app hi2
    generalize hB : (bs a0)[i] = B at *
    have hx : B.toNat < 256 := UInt8.toNat_lt _
    refine ⟨by omega, hlt, fun c => bad fun hh => by have := isDig_iff.1 hh; omega, fun c => ⟨by omega, hlt, fun c2 => bad fun hh => by have := isDig_iff.1 hh; omega, fun c2 => ⟨by omega, hlt, ?_⟩⟩⟩
    have w8 : IntKind.u8.wrap ((B.toNat : Int) - 48) = (B.toNat : Int) - 48 := wrap8 (by omega) (by omega)
    have w1 : IntKind.i64.wrap ((B.toNat : Int) - 48) = (B.toNat : Int) - 48 := wrap64 (by omega) (by omega)
    generalize hV : valL ((bs a0).take i) = V at *
    have w2 : IntKind.i64.wrap (((min V 2147483648 : Nat) : Int) * 10) = ((min V 2147483648 : Nat) : Int) * 10 := wrap64 (by omega) (by omega)
    have w3 : IntKind.i64.wrap (((min V 2147483648 : Nat) : Int) * 10 + ((B.toNat : Int) - 48)) = ((min V 2147483648 : Nat) : Int) * 10 + ((B.toNat : Int) - 48) := wrap64 (by omega) (by omega)
    rw [w8, w1, w2, w3]
    refine hn _ (by omega) ⟨rfl, ?_, ?_⟩
    · rw [tk, List.all_append, hd]
      simp only [List.all_cons, List.all_nil, Bool.and_true, Bool.true_and]
      exact isDig_iff.2 (by omega)
    · simp only
      rw [tk, valL_snoc, hV]
      split <;> omega
  · rw [List.take_of_length_le (by omega)] at hd ⊢
    unfold mSeconds
    by_cases hz : a0.size = 0
    · rw [if_neg fun hh => hh.2 hz]
      have : bs a0 = [] := List.length_eq_zero_iff.1 (by omega)
      rw [this]
      simp [valL, valFrom, hz]
    · rw [if_pos ⟨hd, hz⟩, decide_eq_true (show (0 : Int) < (a0.size : Int) by omega)]
theorem impl_Seconds_ok (a0 : S) (h : pSeconds a0) : s_impl_Seconds a0 (fun r => r = mSeconds a0) := by
  have hsm : a0.size ≤ 1073741824 := h
  have hl := bs_len a0
  intro L hL
  refine loopG hL a0.size (fun i y => y = (i : Int) ∧ ((bs a0).take i).all isDig = true) (fun i y hi hI hn => ?_) (s0 := 0) ⟨rfl, by simp⟩
  obtain ⟨rfl, hd⟩ := hI
  rw [wrapS (by omega)]
  refine ⟨fun hlt => ?_, fun hge => ?_⟩
  · have hi2 : i < (bs a0).length := by omega
    have hbt : bt a0 (i : Int) = (((bs a0)[i]).toNat : Int) := bt_nat a0 i (by omega)
    have bad : ¬ isDig ((bs a0)[i]) = true → (0, false) = mSeconds a0 := fun hb => by
      unfold mSeconds
      rw [if_neg fun hall => hb (List.all_eq_true.1 hall.1 _ (List.getElem_mem hi2))]
    rw [hbt]
    refine ⟨by omega, hlt, fun c => bad fun hh => by have := isDig_iff.1 hh; omega, fun c => ⟨by omega, hlt, fun c2 => bad fun hh => by have := isDig_iff.1 hh; omega, fun c2 => ?_⟩⟩
    refine hn _ (by omega) ⟨rfl, ?_⟩
    rw [take_succ_app hi2, List.all_append, hd]
    simp only [List.all_cons, List.all_nil, Bool.and_true, Bool.true_and]
    exact isDig_iff.2 (by omega)
  · rw [List.take_of_length_le (by omega)] at hd
    have hne : a0 = lit [] ↔ a0.size = 0 := by
      constructor
      · rintro rfl; rfl
      · intro hz
        apply bs_inj
        rw [List.length_eq_zero_iff.1 (show (bs a0).length = 0 by omega)]; rfl
    have hT : (mTrimLeft a0 (lit [48])).size = (Lib.trimLeftB (bs a0) 48).length := by unfold mTrimLeft; rw [ob_size]
    have h48 : (lit [48]).size = 1 := rfl
    have hle : (Lib.trimLeftB (bs a0) 48).length ≤ a0.size := by rw [← hl]; exact (List.dropWhile_sublist _).length_le
    refine ⟨fun c => ?_, fun c => ⟨⟨h, rfl⟩, fun d => ?_, fun d => ⟨by omega, ?_, ?_⟩⟩⟩
    · unfold mSeconds
      rw [if_neg fun hh => hh.2 (hne.1 c)]
    · unfold mSeconds
      have := trim_big hd (by omega)
      rw [if_pos ⟨hd, fun hz => c (hne.2 hz)⟩, Nat.min_eq_right this]; rfl
    · show ByteArray.size _ ≤ _
      rw [ByteArray.size_append]
      omega
    · have ha : (mAtoi (lit [48] ++ mTrimLeft a0 (lit [48]))).1 = (valL (bs a0) : Int) := by
        have e : lit [48] ++ mTrimLeft a0 (lit [48]) = ob (48 :: Lib.trimLeftB (bs a0) 48) := by
          apply bs_inj
          rw [bs_append, bs_ob]
          unfold mTrimLeft
          rw [bs_ob]; rfl
        show atoiV _ = _
        rw [e, atoiV_val (by simp) (by simp only [List.all_cons, Bool.and_eq_true]; exact ⟨rfl, trim_all hd⟩) (by simp only [List.length_cons]; omega), valL_zero, valL_trim]
      rw [ha]
      unfold mSeconds
      rw [if_pos ⟨hd, fun hz => c (hne.2 hz)⟩]
      congr 1
      split <;> omega
end Go.Ev
end

section
/- Library functions: strings.Split as a contract of the small machine. -/
set_option linter.unusedVariables false
namespace Go.Ev
open Go.RowKit
def splitCt (e : TypeId) (f : FuncId) : Ct := { f, ps := [.v false .ro [.str], .v false .ro [.str]], rs := [(false, [.list e [.str]])], shared := false, pre := fun (x : S × S) => pSplit x.1 x.2, F := fun (x : S × S) => mSplit x.1 x.2 }
theorem split_row {w : World} {e : TypeId} {T : Nat → Prop} {xs : List ByteArray} {c : Nat → Option Nat} (hl : xs.length ≤ maxLen) (hc : c w.heap.size = some 0) :
    resR T c (w.alloc (.cells (xs.map Value.string).toArray e)) false [(false, [.list e [.str]])] (xs : caps [[L.list e [.str]]]) 0 [.slice (some ⟨w.heap.size, 0, none⟩) xs.length xs.length] := by
  simp only [resR]
  refine ⟨_, _, [.slice (some ⟨w.heap.size, 0, none⟩) xs.length xs.length], rfl, ?_, .inr rfl, rfl⟩
  simp only [outR]
  refine ⟨_, _, rfl, ?_, rfl⟩
  rw [if_neg (by decide)]
  unfold repL
  refine ⟨xs.map Value.string, ?_, ?_, ?_⟩
  · unfold regRow
    rw [if_pos (by simp)]
    refine Or.inr ⟨w.heap.size, xs.length, (xs.map Value.string).toArray, (0, 0), rfl, by unfold colOf; rw [hc]; rfl, heap_alloc_new w _, Nat.le_refl _, hl, by simp, ?_, fun _ => rfl, .inl rfl⟩
    show ((xs.map Value.string).toArray.toList).take (xs.length * 1) = xs.map Value.string
    simp only [Nat.mul_one]
    exact List.take_of_length_le (by simp)
  · show (xs.map Value.string).length = xs.length * 1
    simp
  · intro i x hx
    have hx' : xs[i]? = some x := hx
    have hi : i < xs.length := by
      rcases Nat.lt_or_ge i xs.length with h | h
      · exact h
      · rw [List.getElem?_eq_none h] at hx'; cases hx'
    refine repLs_cons.2 ⟨.string x, [], ?_, rfl, rfl⟩
    rw [List.getElem?_eq_getElem hi] at hx'
    injection hx' with hx'
    have h1 : ((xs.map Value.string).drop i).take 1 = [.string x] := by
      rw [List.drop_eq_getElem_cons (by simpa using hi)]
      simp [hx']
    simpa using h1
theorem split_ct {P : Program} {f : FuncId} {w : World} {e : TypeId} (hf : FnIs P f)
    (hI : ∀ s sep : ByteArray, s.size < 4294967281 → 1 ≤ sep.size → Calls P f #[.string s, .string sep] w fun r w' => r = .returned (.slice (some ⟨w.heap.size, 0, none⟩) (Lib.countB s sep + 1) (Lib.countB s sep + 1)) ∧ w' = w.alloc (.cells ((Lib.splitB sep 0 (Lib.countB s sep) s).map Value.string).toArray e)) :
    CtAt P (splitCt e f) w := by
  intro vals x S hSS ha hp
  obtain ⟨v, vs', hv, h1, h2⟩ := args_v ha
  obtain ⟨v2, vs2, hv2, h3, h4⟩ := args_v h2
  have h4 := args_e h4
  subst h4; subst hv2
  have h1 : v = .string x.1 := h1
  have h3 : v2 = .string x.2 := h3
  subst h1; subst h3
  obtain ⟨hp1, hp2⟩ := (hp : sm x.1 ∧ x.2 = lit [32])
  unfold sm at hp1
  have hsz : x.2.size = 1 := by rw [hp2]; rfl
  refine ⟨hf, ?_⟩
  show Calls P f vals w _
  rw [arr_of hv]
  refine (hI x.1 x.2 (by omega) (by omega)).mono fun r w' ⟨he, hw⟩ => ?_
  have hl : (mSplit x.1 x.2).length = Lib.countB x.1 x.2 + 1 := Lib.splitB_all x.2 (by omega) 0 _ x.1 rfl
  have hle := Lib.countB_le x.2 (by omega) x.1.size x.1 (Nat.le_refl _)
  refine ⟨[.slice (some ⟨w.heap.size, 0, none⟩) (Lib.countB x.1 x.2 + 1) (Lib.countB x.1 x.2 + 1)], _, fun b => if b = w.heap.size then some 0 else none, he, ?_, Or.inl rfl, ?_, ?_⟩
  · rw [hw]
    exact (Below.refl _ w).alloc (Nat.le_refl _) _
  · intro b hb
    by_cases hbe : b = w.heap.size
    · subst hbe
      rw [hw]
      exact ⟨Nat.le_refl _, by have := heap_alloc_new w (.cells ((Lib.splitB x.2 0 (Lib.countB x.1 x.2) x.1).map Value.string).toArray e); rcases Nat.lt_or_ge w.heap.size (w.alloc (.cells ((Lib.splitB x.2 0 (Lib.countB x.1 x.2) x.1).map Value.string).toArray e)).heap.size with h | h; exact h; rw [Array.getElem?_eq_none h] at this; cases this⟩
    · simp only [if_neg hbe] at hb
      exact absurd rfl hb
  · rw [← hl, hw]
    exact split_row (by show (mSplit x.1 x.2).length ≤ maxLen; exact Nat.le_trans (Nat.le_of_eq hl) (by simp only [maxLen]; omega)) (by simp)
end Go.Ev
end

section
/- The plain library: what a cache's functions compute. -/
set_option linter.unusedVariables false
namespace Go.Ev
end Go.Ev
end

section
/- What functions of caches come to: printed by a program of this session's own (EwShow) out of the small machine. -/
set_option linter.unusedVariables false
namespace Go.Ev

end Go.Ev
end

section
/- Laws of the plain library: the origin. -/
set_option linter.unusedVariables false
namespace Go.Ev
end Go.Ev
end

section
/- Laws of the plain library: shards. -/
set_option linter.unusedVariables false
namespace Go.Ev
end Go.Ev
end

section
/- Laws of the plain library: caches; what is found in a shard. -/
set_option linter.unusedVariables false
namespace Go.Ev
end Go.Ev
end

section
/- impl.Lower: what its walk needs. -/
set_option linter.unusedVariables false
namespace Go.Ev
open Go Go.RowKit
def LowW (B : Nat) (s : S) (i : Nat) (w w' : World) : Prop :=
  Below B w w' ∧ ∀ j, j < s.size → w'.cell? ⟨B, j, none⟩ = some (.int .u8 (((if j < i then lowB (bs s)[j]! else (bs s)[j]!).toNat : Nat) : Int)) ∧ w'.frozen? ⟨B, j, none⟩ = false
theorem LowW.next {B i : Nat} {s : S} {w w' : World} (h : LowW B s i w w') (hi : i < s.size) {v : Int} (hv : v = ((lowB (bs s)[i]!).toNat : Int)) : LowW B s (i + 1) w (w'.setCell ⟨B, i, none⟩ (.int .u8 v)) := by
  refine ⟨h.1.setCell (Nat.le_refl _) _, fun j hj => ?_⟩
  by_cases e : j = i
  · subst e
    rw [World.cell?_setCell_same _ _ _ (h.2 j hj).1, hv, if_pos (by omega)]
    exact ⟨rfl, by rw [World.frozen?_setCell]; exact (h.2 j hj).2⟩
  · rw [World.cell?_setCell_other _ _ _ _ (by simp [e]), World.frozen?_setCell, (h.2 j hj).1]
    exact ⟨by simp only [show (j < i + 1) ↔ (j < i) by omega], (h.2 j hj).2⟩
theorem LowW.skip {B i : Nat} {s : S} {w w' : World} (h : LowW B s i w w') (hi : i < s.size) (hv : lowB (bs s)[i]! = (bs s)[i]!) : LowW B s (i + 1) w w' := by
  refine ⟨h.1, fun j hj => ?_⟩
  by_cases e : j = i
  · subst e
    have := h.2 j hj
    rw [if_neg (by omega)] at this
    rw [if_pos (by omega), hv]; exact this
  · rw [(h.2 j hj).1]
    exact ⟨by simp only [show (j < i + 1) ↔ (j < i) by omega], (h.2 j hj).2⟩
theorem low_new (P : Program) (src dst e : TypeId) (w : World) (s : S) (hs : P.underlying src = some .string) (hd : P.underlying dst = some (.slice e)) (he : P.underlying e = some (.int .u8)) :
    ∃ W1 cap, (convert src dst (.string s)).run P w = .ok (.slice (some ⟨w.heap.size, 0, none⟩) s.size cap) W1 ∧ LowW w.heap.size s 0 w W1 := by
  refine ⟨_, _, run_bytes_of_string w src dst e s hs hd he, (Below.refl _ _).drew.alloc (Nat.le_refl _) _, fun j hj => ?_⟩
  have h1 := bytesRow_at s (grownCap w s.size 0 e) j hj
  refine ⟨?_, ?_⟩
  · show (w.drew.alloc _).cell? ⟨w.drew.heap.size, j, none⟩ = _
    rw [World.cell?_alloc_mark, h1, if_neg (by omega)]
    have hl : j < (bs s).length := by rw [bs_len]; exact hj
    rw [getElem!_pos (bs s) j hl]; rfl
  · show (w.drew.alloc _).frozen? ⟨w.drew.heap.size, j, none⟩ = _
    rw [World.frozen?_alloc_mark]
    have hsz : s.size ≤ (bytesRow s (grownCap w s.size 0 e)).size := by simp [bytesRow]
    generalize (bytesRow s (grownCap w s.size 0 e)).size = n at hsz
    simp; omega
theorem low_byte (x : UInt8) : (65 ≤ x.toNat ∧ x.toNat ≤ 90 → IntKind.u8.wrap (IntKind.u8.wrap ((x.toNat : Int) + 97) - 65) = ((lowB x).toNat : Int)) ∧ (¬ (65 ≤ x.toNat ∧ x.toNat ≤ 90) → lowB x = x) := by
  refine ⟨fun h => ?_, fun h => by unfold lowB; rw [if_neg h]⟩
  unfold lowB; rw [if_pos h]
  have e : (x + 32).toNat = x.toNat + 32 := by rw [UInt8.toNat_add]; show (x.toNat + 32) % 256 = _; omega
  rw [e]
  have h1 : IntKind.u8.wrap ((x.toNat : Int) + 97) = (x.toNat : Int) + 97 := by rw [IntKind.wrap_u8]; omega
  rw [h1, IntKind.wrap_u8]; omega
theorem low_end (P : Program) (src dst e : TypeId) (B cap : Nat) (w w' : World) (s : S) (hs : P.underlying src = some (.slice e)) (he : P.underlying e = some (.int .u8)) (hd : P.underlying dst = some .string) (h : LowW B s s.size w w') :
    (convert src dst (.slice (some ⟨B, 0, none⟩) s.size cap)).run P w' = .ok (.string (mLower s)) w' := by
  have hl : ((bs s).map lowB).length = s.size := by rw [List.length_map, bs_len]
  have := run_convert_bytes_back (P := P) w' src dst e ⟨B, 0, none⟩ cap ((bs s).map lowB) hs he hd (fun j hj => by
    have hj' : j < s.size := by rw [hl] at hj; exact hj
    have hjb : j < (bs s).length := by rw [bs_len]; exact hj'
    have h1 := (h.2 j hj').1
    rw [if_pos hj', getElem!_pos (bs s) j hjb] at h1
    rw [show (⟨B, 0, none⟩ : Addr).add j = ⟨B, j, none⟩ by unfold Addr.add; split <;> simp_all]
    rw [h1, List.getElem_map])
  rw [hl] at this
  exact this
end Go.Ev
namespace Go.Ev
open Go.RowKit
def lowerCt (f : FuncId) : Ct := { f, ps := [.v false .ro [.str]], rs := [(false, [.str])], shared := false, pre := fun (x : S) => pLower x, F := fun (x : S) => mLower x }
theorem lower_ct {P : Program} {f : FuncId} {w : World} (hf : FnIs P f)
    (hI : ∀ s : ByteArray, s.size ≤ 1073741824 → Calls P f #[.string s] w fun e w' => e = .returned (.string (mLower s)) ∧ Below w.heap.size w w') : CtAt P (lowerCt f) w := by
  refine ct_lib hf fun vals x S hS ha hp => ?_
  obtain ⟨v, vs', hv, h1, h2⟩ := args_v ha
  have h2 := args_e h2
  subst h2
  have h1 : v = .string x := h1
  subst h1
  rw [arr_of hv]
  exact (hI x hp).mono fun e w' ⟨he, hb⟩ => ⟨[.string (mLower x)], _, he, hb, Or.inl rfl, fun S' => res_str _⟩
end Go.Ev
end

section
/- impl.ReadDec: its contract, out of a walk. -/
set_option linter.unusedVariables false
namespace Go.Ev
open Go.RowKit
end Go.Ev
end
